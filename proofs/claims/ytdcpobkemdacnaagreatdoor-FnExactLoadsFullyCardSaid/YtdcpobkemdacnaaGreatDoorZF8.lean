/- Proved here: steps towards the statement of this claim. No condition. -/
import Derived.Test.YtdcpobkemdacnaaGreatDoorZF4
set_option linter.all false
namespace Go.Aw
open List
section
variable {P : Program} [aC P] {B : gV P} {s : AS} {dst : Option Tmp} {ty : TypeId} {pos : String} {after : Array Edge} {gd : Option (Nat × Bool)}
theorem MK {o:List aN}:∀{c:List AV},(∀x∈c,x.iG=true)->uR o c=c/\mV o c=true/\kJ c=[]
 |[],_=>⟨rfl,rfl,rfl⟩
 |x::xs,h=>by
  obtain ⟨h1,h2,h3⟩:=MK (o:=o) (c:=xs) λy hy=>h y (by simp [hy])
  have hx:=h x (by simp);cases x<;>simp only [AV.iG] at hx<;>first|(cases hx;done)|(simp [uR,mV,kJ,res,jR,lT,h1,h2,h3])
theorem qc (t:TypeId) (len:Nat) (parts:Array (Nat×Operand)) {e:TypeId} {n by' i:Nat} (he:gX P t=some (e,n,by')) (hz:bQ P e n=true) (Mj:wO parts.toList=true) (hlen:len=parts.toList.length) (hbig:len * n<=16777216) (hbig2:len<=16777216)
  (hpl:∀x∈(parts.toList.map (·.2)).map s.ev,x.iG=true) (hgood:∀x∈(parts.toList.map (·.2)).map s.ev,x.xO=true/\x.cells.length=n) (hi':s.o[i]? =some ⟨true,false,n,0,[]⟩):
  Step P B ⟨dst,.buildSlice t len parts,ty,pos,after,gd⟩ s (AS.put ⟨s.t,s.o.set i ⟨true,false,n,1,((parts.toList.map (·.2)).map s.ev).map AV.cells⟩⟩ dst (.obj i 1)):=
 rQ λG a w r=>by
  generalize hxs:parts.toList.map (·.2)=xs at *;have Ad:parts.toList=(xs.zipIdx).map λp=>(p.2,p.1):=by rw [<-hxs];exact DZ _ 0 Mj
  obtain ⟨hp1,Ya,hp3⟩:=MK (o:=s.o) hpl;obtain ⟨fp,wH,hnd,ND⟩:=IU r _ _ Ya (by rw [hp3];simp) (xE r xs);have JR:fp=[]:=by
   cases fp with
   |nil=>rfl
   |cons b _=>obtain ⟨i,ob,g,hi,_⟩:=ND b (by simp);rw [hp3] at hi;cases hi
  subst JR;rw [hp1] at wH;obtain ⟨Ny,hsz⟩:=PK wH hgood;have hvl:(xs.map a.eval).length=len:=by rw [hlen,<-hxs];simp
  have hrun:(execOp a.eval ⟨dst,.buildSlice t len parts,ty,pos,after,gd⟩).run P w= .ok (.value (.slice (some ⟨w.heap.size,0,none⟩) len len)) (w.alloc (.cells ((xs.map a.eval).flatMap λv=>v.cells.toList).toArray e)):=by
   have e1:parts.map (λ(i,x)=>(i,a.eval x))=(((xs.map a.eval).zipIdx).map λp=>(p.2,p.1)).toArray:=by apply DE;simp only [CC,Ad,map_map,zipIdx_map];rfl
   have:=uT (P:=P) (t:=t) (len:=len) (w:=w) he hz hvl.symm hbig hsz;simp only [execOp,e1,mT,this,lO,sA]
  have hlt:i < G.length:=by rw [r.len];exact (cH.1 hi').1
  have hlk:Aw.look s.o G i ⟨true,false,n,0,[]⟩ G[i]:=⟨hi',aE hlt⟩;generalize G[i]=g at hlk;generalize hCd:((xs.map a.eval).flatMap λv=>v.cells.toList)=cs at *;have hcl:=jX Ny;have hself:(w.alloc (.cells cs.toArray e)).heap[w.heap.size]? =some (.cells cs.toArray e):=fT w _;have hrl:((xs.map s.ev).map AV.cells).length=len:=by have:=gN wH;rw [oX,<-this,hvl]
  have Vb:len<=maxLen:=by simp only [maxLen];omega
  have hm:=r.modify hlk rfl ⟨true,false,n,1,(xs.map s.ev).map AV.cells⟩ ⟨some ⟨w.heap.size,0,none⟩,len,λb=>g.F b\/b=w.heap.size⟩ (w.alloc (.cells cs.toArray e)) (by simp) rfl (by simp)
   (λb hb=>by
    rcases hb with hb|hb
    .exact .inl hb
    .right;subst hb;simp) (λb hb hne=>⟨.inl hb,λa' wN=>by
     obtain rfl:=cQ wN;have:=(r.fresh _ _ _ b hlk rfl hb).2;simp only;omega⟩) (λb hlt _=>heap_alloc w _ b hlt) (by simp) (λk _=>by
   refine ⟨[w.heap.size],?_,by simp,by simp⟩;generalize env B _ _ (w.alloc (.cells cs.toArray e))=E' at k⊢;simp only [Env.of,eS,hH];refine ⟨by rw [hrl];exact Vb,.inr ⟨w.heap.size,0,cs.toArray,e,(0,0),[],rfl,hself,.inr rfl,?_,by rw [hrl];exact eE _,Vb,rfl,?_⟩⟩
   .simp [hcl];rw [<-hrl];simp
   .refine sV.2 ⟨cs,wI k.plain (λb hb=>by cases hb) Ny,?_⟩
    refine qR hself (λj v hv=>by simpa using hv))
  have hl2:Aw.look (s.o.set i ⟨true,false,n,1,(xs.map s.ev).map AV.cells⟩) (G.set i ⟨some ⟨w.heap.size,0,none⟩,len,λb=>g.F b\/b=w.heap.size⟩) i ⟨true,false,n,1,(xs.map s.ev).map AV.cells⟩ ⟨some ⟨w.heap.size,0,none⟩,len,λb=>g.F b\/b=w.heap.size⟩:=uE hlk;refine ⟨_,_,hrun,_,hm.1.put dst ?_⟩;simp only [R];exact ⟨trivial,_,_,hl2,eE _,λ_ _=>by rw [hrl],λh=>absurd h (by decide)⟩
structure TU where
  at_ : Nat
  n : Nat
  st : List (Nat × aN)
def qd (J:Nat->Bool) (h:aN):List (Nat×aN)->aN
 |[]=>h
 |q::r=>if J q.1=true then q.2 else qd J h r
def vst (i:Nat) (pr:List Nat) (h dead:aN):List (Nat×aN)->aN
 |[]=>h
 |q::r=>if q.1∈pr then q.2 else if q.1=i\/i∈r.map (·.1) then vst i pr h dead r else dead
def hole (n:Nat):aN:=⟨true,false,n,0,[]⟩
def aDe (n:Nat):aN:=⟨false,false,n,0,[]⟩
def zW (J:Nat->Bool):List TU->List aN->List aN
 |[],o=>o
 |p::r,o=>zW J r (o.set p.at_ (qd J (hole p.n) p.st))
def Jn (i:Nat) (pr:List Nat):List TU->List aN->List aN
 |[],o=>o
 |p::r,o=>Jn i pr r (o.set p.at_ (vst i pr (hole p.n) (aDe p.n) p.st))
def Rp (l:List Oper):List (Nat×aN)->Bool
 |[]=>true
 |[_]=>true
 |q::q'::r=>(mQ l q.1).contains q'.1&&Rp l (q'::r)
def aHe (l:List Oper) (fl:List TU) (n:Nat):Bool:=
 decide (fl.map (·.at_)).Nodup&&(fl.all λp=>decide (p.at_ < n)&&Rp l p.st&&decide (p.st.map (·.1)).Nodup&&p.st.all λq=>decide (q.1 < l.length))&&decide ((fl.flatMap λp=>p.st.map (·.1))).Nodup
theorem Cr (J:Nat->Bool):∀(fl:List TU) (o:List aN),(zW J fl o).length=o.length
 |[],_=>rfl
 |q::r,o=>by simp only [zW];rw [Cr J r];simp
theorem FQ (i:Nat) (pr:List Nat):∀(fl:List TU) (o:List aN),(Jn i pr fl o).length=o.length
 |[],_=>rfl
 |q::r,o=>by simp only [Jn];rw [FQ i pr r];simp
theorem KD {J:Nat->Bool} {i:Nat}:∀{fl:List TU} {o:List aN},(∀q∈fl,q.at_≠i)->(zW J fl o)[i]? =o[i]?
 |[],_,_=>rfl
 |q::r,o,h=>by simp only [zW];rw [KD λp hp=>h p (by simp [hp]),lB (h q (by simp))]
theorem Xv {k:Nat} {pr:List Nat} {i:Nat}:∀{fl:List TU} {o:List aN},(∀q∈fl,q.at_≠i)->(Jn k pr fl o)[i]? =o[i]?
 |[],_,_=>rfl
 |q::r,o,h=>by simp only [Jn];rw [Xv λp hp=>h p (by simp [hp]),lB (h q (by simp))]
theorem KE {J:Nat->Bool}:∀{fl:List TU} {o:List aN} {q:TU},(fl.map (·.at_)).Nodup->q∈fl->q.at_ < o.length->(zW J fl o)[q.at_]? =some (qd J (hole q.n) q.st)
 |p::r,o,q,hn,hq,hl=>by
  simp only [zW];simp only [mA,lR] at hn;rcases lE.1 hq with rfl|hq
  .rw [KD λp hp e=>hn.1 (AH.2 ⟨p,hp,e⟩),nB hl]
  .exact KE hn.2 hq (by simpa using hl)
theorem Zx {k:Nat} {pr:List Nat}:∀{fl:List TU} {o:List aN} {q:TU},(fl.map (·.at_)).Nodup->q∈fl->q.at_ < o.length->(Jn k pr fl o)[q.at_]? =some (vst k pr (hole q.n) (aDe q.n) q.st)
 |p::r,o,q,hn,hq,hl=>by
  simp only [Jn];simp only [mA,lR] at hn;rcases lE.1 hq with rfl|hq
  .rw [Xv λp hp e=>hn.1 (AH.2 ⟨p,hp,e⟩),nB hl]
  .exact Zx hn.2 hq (by simpa using hl)
theorem Jo {J J':Nat->Bool}:∀{fl:List TU} {o:List aN},(∀p∈fl,∀q∈p.st,J q.1=J' q.1)->zW J fl o=zW J' fl o
 |[],_,_=>rfl
 |p::r,o,h=>by
  simp only [zW];have:∀st:List (Nat×aN),(∀q∈st,J q.1=J' q.1)->qd J (hole p.n) st=qd J' (hole p.n) st:=by
   intro st;induction st with
   |nil=>intros;rfl
   |cons q r ih=>intro h;simp only [qd];rw [h q (by simp),ih λx hx=>h x (by simp [hx])]
  rw [this p.st (h p (by simp)),Jo λq hq=>h q (by simp [hq])]
theorem Zy {J:Nat->Bool} {i:Nat} {pr:List Nat} {n:Nat} (hi:J i=false) (hp:∀e∈pr,J e=true):∀(st:List (Nat×aN)),(∀s1 q s2,st=s1++q::s2->J q.1=false->∀p∈s1,J p.1=false)->(vst i pr (hole n) (aDe n) st).live=true->vst i pr (hole n) (aDe n) st=qd J (hole n) st
 |[],_,_=>rfl
 |q::r,aHf,h=>by
  simp only [vst,qd] at h⊢;by_cases h1:q.1∈pr
  .rw [eI h1,eI (hp _ h1)]
  .rw [cX h1] at h⊢;by_cases h2:q.1=i\/i∈r.map (·.1)
   .rw [eI h2] at h⊢;have hq:J q.1=false:=by
     rcases h2 with h2|h2
     .rw [h2];exact hi
     .obtain ⟨x,hx,rfl⟩:=AH.1 h2;obtain ⟨r1,r2,rfl⟩:=append_of_mem hx;exact aHf (q::r1) x r2 rfl hi q (by simp)
    rw [hq,cX (by simp)];exact Zy hi hp r (λs1 x s2 e hx p hp=>aHf (q::s1) x s2 (by rw [e];rfl) hx p (by simp [hp])) h
   .rw [cX h2] at h;cases h
theorem VN {l:List Oper} {q:Nat×aN} {r:List (Nat×aN)} (h:Rp l (q::r)=true):Rp l r=true:=by
 cases r with
 |nil=>rfl
 |cons q' r=>simp only [Rp,eJ] at h;exact h.2
theorem Rq {l:List Oper} {J:Nat->Bool} (hJ:K8 l J) (hlen:∀i,J i=true->i < l.length):∀{s1:List (Nat×aN)} {q:Nat×aN} {s2:List (Nat×aN)},Rp l (s1++q::s2)=true->J q.1=false->∀p∈s1,J p.1=false
 |[],_,_,_,_=>λ_ hp=>by cases hp
 |x::s1,q,s2,h,hq=>by
  have ih:=Rq hJ hlen (VN h) hq;intro p hp;rcases lE.1 hp with rfl|hp
  .cases hJp:J p.1 with
   |false=>rfl
   |true=>
    exfalso;have hnx:∃y,(mQ l p.1).contains y=true/\J y=false:=by
     cases s1 with
     |nil=>simp only [eA,eM,Rp,eJ] at h;exact ⟨q.1,h.1,hq⟩
     |cons y s1=>simp only [eA,Rp,eJ] at h;exact ⟨y.1,h.1,ih y (by simp)⟩
    obtain ⟨y,hy,hyf⟩:=hnx;have hlp:=hlen _ hJp;have hop:l[p.1]? =some (l.get ⟨p.1,hlp⟩):=aE hlp;have hm:y∈pre (l.get ⟨p.1,hlp⟩):=by unfold mQ at hy;rw [hop] at hy;simpa using hy
    have:=hJ _ _ hop hJp _ hm;rw [hyf] at this;cases this
  .exact ih p hp
theorem aDf {J:Nat->Bool} {i:Nat} {pr:List Nat} {fl:List TU} {o:List aN} (hn:(fl.map (·.at_)).Nodup) (hs:∀q∈fl,q.at_ < o.length) (hi:J i=false) (hp:∀e∈pr,J e=true) (aHf:∀q∈fl,∀s1 x s2,q.st=s1++x::s2->J x.1=false->∀p∈s1,J p.1=false):Sub (Jn i pr fl o) (zW J fl o):=by
 intro k ob h hl;by_cases hk:∃q∈fl,q.at_=k
 .obtain ⟨q,hq,rfl⟩:=hk;rw [Zx hn hq (hs q hq)] at h;obtain rfl:=cQ h;rw [KE hn hq (hs q hq),Zy hi hp _ (aHf q hq) hl]
 .have hk':∀q∈fl,q.at_≠k:=λq hq e=>hk ⟨q,hq,e⟩
  rw [Xv hk'] at h;rw [KD hk'];exact h
theorem aHg {l:List Oper} {J:Nat->Bool} (hJ:K8 l J) (hlen:∀i,J i=true->i < l.length) {n i:Nat} {fZ:aN}:∀{s1 s2:List (Nat×aN)},Rp l (s1++(i,fZ)::s2)=true->((s1++(i,fZ)::s2).map (·.1)).Nodup->J i=false->qd (uK J i) (hole n) (s1++(i,fZ)::s2)=fZ
 |s1,s2,h,hn,hi=>by
  have hl:=Rq hJ hlen h hi;induction s1 with
  |nil=>simp [qd,uK]
  |cons x s1 ih=>
   simp only [eA,mA,lR] at hn;have hx:x.1≠i:=λe=>hn.1 (by simp [e])
   simp only [eA,qd];have:uK J i x.1=false:=by unfold uK;rw [cX hx];exact hl x (by simp)
   rw [this,cX (by simp)];exact ih (VN h) hn.2 (λp hp=>hl p (by simp [hp]))
def Ep (P:Program) [aC P] (op:Oper) (m:List AV) (view:List aN) (pl:Nat) (val:AV) (fZ:aN):Prop:=
 ∀(B:gV P) (t2:List AV) (o2:List aN),wk t2 m->Sub view o2->o2.length=view.length->Step P B op ⟨t2,o2⟩ ⟨tZ t2 op.dst val,o2.set pl fZ⟩
def VO (P : Program) [aC P] (l : List Oper) (t : List AV) (b : List aN) (fl : List TU) (j : Nat) (op : Oper) (vs : List AV) : Prop :=
  (∀ e ∈ pre op, e < j) /\
  (((∀ p ∈ fl, ∀ q ∈ p.st, q.1 ≠ j) /\ nM op.op ⟨pM j (pre op) 0 l (vs.take j) t, Jn j (pre op) fl b⟩ = true /\ ∃ x, (vs.getD j .undef = x \/ vs.getD j .undef = .undef) /\
      rW P l op ⟨pM j (pre op) 0 l (vs.take j) t, Jn j (pre op) fl b⟩ (λs' => s' = ⟨tZ (pM j (pre op) 0 l (vs.take j) t) op.dst x, Jn j (pre op) fl b⟩)) \/
   (op.guard = none /\ ∃ p ∈ fl, ∃ s1 fZ s2, p.st = s1 ++ (j, fZ) :: s2 /\ Ep P op (pM j (pre op) 0 l (vs.take j) t) (Jn j (pre op) fl b) p.at_ (vs.getD j .undef) fZ))
theorem qf {P:Program} [aC P] {id:Nat} {l:List Oper} {s:AS} {Q:Exit->AS->Prop} (fl:List TU) {b:List aN} (vs:List AV) (hfw:NR l=true) (hdst:distinct l=true) (hfl:aHe l fl b.length=true)
  (hb0:zW (λ_=>false) fl b=s.o++(fl.map (·.n)).map λn=>⟨true,false,n,0,[]⟩)
  (hit:∀j op,l[j]? =some op->VO P l s.t b fl j op vs) (hK:Q .normal ⟨iR (λ_=>true) 0 l vs s.t,zW (λ_=>true) fl b⟩):uV P (.region id l.toArray true) s Q:=by
 simp only [aHe,eJ,fR,fW] at hfl;obtain ⟨⟨hnd,hsl⟩,aRs⟩:=hfl;have hs:∀q∈fl,q.at_ < b.length:=λq hq=>(hsl q hq).1.1.1
 have hsq:∀q∈fl,∀x∈q.st,x.1 < l.length:=λq hq=>(hsl q hq).2
 have hst:∀q∈fl,Rp l q.st=true:=λq hq=>(hsl q hq).1.1.2
 have ML:∀q∈fl,(q.st.map (·.1)).Nodup:=λq hq=>(hsl q hq).1.2
 have aRt:∀p∈fl,∀p'∈fl,∀q∈p.st,∀q'∈p'.st,q.1=q'.1->p.at_=p'.at_:=by
  have:∀(fl:List TU),(fl.flatMap λp=>p.st.map (·.1)).Nodup->∀p∈fl,∀p'∈fl,∀q∈p.st,∀q'∈p'.st,q.1=q'.1->p.at_=p'.at_:=by
   intro fl;induction fl with
   |nil=>intro _ p hp;cases hp
   |cons x fl ih=>
    intro hn p hp p' hp' q hq q' hq' e;simp only [flatMap_cons,gR] at hn;rcases lE.1 hp with e1|hp1<;>rcases lE.1 hp' with e2|Ya
    .rw [e1,e2]
    .exfalso;rw [e1] at hq;exact hn.2.2 _ (AH.2 ⟨q,hq,rfl⟩) _ (Fk.2 ⟨p',Ya,AH.2 ⟨q',hq',rfl⟩⟩) e
    .exfalso;rw [e2] at hq';exact hn.2.2 _ (AH.2 ⟨q',hq',rfl⟩) _ (Fk.2 ⟨p,hp1,AH.2 ⟨q,hq,rfl⟩⟩) e.symm
    .exact ih hn.2.1 p hp1 p' Ya q hq q' hq' e
  exact this fl aRs
 unfold uV;have hrest:xU l l.length=true:=by unfold xU;rw [fW];intro i hi;simp at hi;simp only [tD,fR];exact .inl (by omega)
 refine Za (ops:=l.toArray) l.length (by simp) (by simpa using hfw) (by simpa using hrest) (λJ=>⟨iR J 0 l vs s.t,zW J fl b⟩) ?_ ?_ ?_
 .have e1:∀(l:List Oper) (j:Nat) (vs t:List AV),iR (λ_=>false) j l vs t=t:=by
   intro l;induction l with
   |nil=>intros;rfl
   |cons op r ih=>intro j vs t;simp only [iR];rw [ih];unfold Aq;cases op.dst<;>simp
  rw [e1,hb0];exact λ_ _ _ _ _ r=>Qe _ r
 .intro i op him hi J hJ hJm hJi hpre;have hi':l[i]? =some op:=by simpa using hi
  have hJ':K8 l J:=by simpa using hJ
  have aJa:∀k,J k=true->k < l.length:=λk hk=>by
   rcases sB k l.length with h|h
   .exact h
   .rw [hJm k h] at hk;cases hk
  obtain ⟨aRu,hex⟩:=hit i op hi';have VB:wk (iR J 0 l vs s.t) (pM i (pre op) 0 l (vs.take i) s.t):=
   ME hJi (λe he=>⟨hpre e he,aRu e he⟩) l 0 vs (vs.take i) s.t s.t (λk q hk hJk=>hJ' k q hk (by simpa using hJk)) (λk hk=>by
    rw [gS,gS,AM];simp [show k < i by omega]) (mD _)
  have hsub:=aDf (J:=J) (i:=i) (pr:=pre op) hnd hs hJi hpre (λq hq s1 x s2 e hx=>Rq hJ' aJa (by rw [<-e];exact hst q hq) hx);have aOo:∀v,vs.getD i .undef=v->iR (uK J i) 0 l vs s.t=tZ (iR J 0 l vs s.t) op.dst v:=λv hv=>by
   have:=GM l 0 i op vs s.t v hdst hi' (by simpa using hJi) hv
   rwa [lA] at this
  rcases hex with ⟨hnf,hq,x,hvx,hop⟩|⟨hg,p,hp,s1,fZ,s2,aHh,OP⟩
  .left;obtain ⟨x',new',x2,rfl',hx2,_,hfin⟩:=Cm (o2:=zW J fl b) hq VB hop hsub (.inl (by rw [Cr,FQ]));refine hfin _ ?_;have hset:new'=[]/\(tZ (pM i (pre op) 0 l (vs.take i) s.t) op.dst x'=tZ (pM i (pre op) 0 l (vs.take i) s.t) op.dst x):=by simp only [AS.mk.injEq] at rfl';refine ⟨?_,rfl'.1⟩;have:=An length rfl'.2;rw [eR] at this;exact kO (by omega)
   have hto:wk (tZ (iR J 0 l vs s.t) op.dst x2) (iR (uK J i) 0 l vs s.t):=by
    rw [aOo _ rfl];have hL:=MC VB;have zh:=hset.2;unfold tZ at zh⊢;cases hd:op.dst with
    |none=>exact mD _
    |some d=>
     rw [hd] at zh;dsimp only at zh⊢;rcases sB d (iR J 0 l vs s.t).length with hdl|hle
     .have hxx:x'=x:=by have h5:=An (λt=>t[d]?) zh;have aOp:d < (pM i (pre op) 0 l (vs.take i) s.t).length:=hL▸hdl;rw [nB aOp,nB aOp] at h5;exact cQ h5
      refine QW d (mD _) ?_;rcases hvx with e|e
      .rw [e,<-hxx];assumption
      .exact .inr e
     .rw [CM hle,CM hle];exact mD _
   have Fu:zW J fl b++new'=zW (uK J i) fl b:=by
    rw [hset.1,fY];refine Jo λp hp q hq=> ?_
    unfold uK;rw [cX (hnf p hp q hq)]
   rw [Fu];exact wT hto
  .right;refine ⟨hg,λB=> ?_⟩;have:=OP B _ _ VB hsub (by rw [Cr,FQ]);have e:zW (uK J i) fl b=(zW J fl b).set p.at_ fZ:=by
    refine Bx λk=> ?_
    by_cases hk:∃q∈fl,q.at_=k
    .obtain ⟨q,hq,rfl⟩:=hk;rw [KE hnd hq (hs q hq)];by_cases hqp:q.at_=p.at_
     .have aRv:q=p:=GN (·.at_) fl hnd q p hq hp hqp;subst aRv;rw [nB (by rw [Cr];exact hs q hq),aHh];rw [aHg hJ' aJa (by rw [<-aHh];exact hst q hq) (by rw [<-aHh];exact ML q hq) hJi]
     .rw [lB (λe=>hqp e.symm),KE hnd hq (hs q hq)]
      have:∀st:List (Nat×aN),(∀x∈st,x.1≠i)->qd (uK J i) (hole q.n) st=qd J (hole q.n) st:=by
       intro st;induction st with
       |nil=>intros;rfl
       |cons x r ih=>
        intro h;have hx:uK J i x.1=J x.1:=by unfold uK;rw [cX (h x (by simp))]
        simp only [qd];rw [hx,ih λy hy=>h y (by simp [hy])]
      rw [this q.st λx hx e=>hqp (aRt q hq p hp x hx (i,fZ) (by rw [aHh];simp) e)]
    .have hk':∀q∈fl,q.at_≠k:=λq hq e=>hk ⟨q,hq,e⟩
     rw [KD hk',lB (hk' p hp),KD hk']
   rw [aOo _ rfl,e];exact this
 .intro J hJ hJm hor;left;have hsz:l.toArray.size=l.length:=by simp
  have hall:∀i,i < l.length->J i=true:=by
   intro i hi;rcases hor with h|⟨op,hop,_⟩
   .exact h i (by omega)
   .have:=(cH.1 hop).1;simp at this
  rw [hsz];have e3:(range l.length).map J=replicate l.length true:=by
   refine Bx λi=> ?_
   rw [sL,getElem?_replicate];by_cases hi:i < l.length
   .simp [hi,hall i hi]
   .simp [hi]
  have e4:left (replicate l.length true)=0:=by
   unfold left;rw [filter_eq_nil_iff.2]
   .rfl
   .intro x hx;rw [(mem_replicate.1 hx).2];simp
  rw [e3,e4];simp only [zT];have e5:iR J 0 l vs s.t=iR (λ_=>true) 0 l vs s.t:=Ci l 0 vs s.t λk hk=>by rw [lA];exact hall k hk
  have e6:zW J fl b=zW (λ_=>true) fl b:=Jo λp hp q hq=>hall _ (hsq p hp q hq)
  rw [e5,e6];exact hK
theorem O5 {x:AV} (h:x.iG=true):x≠ .undef:=by rintro rfl;simp [AV.iG] at h
theorem aK9 {P:Program} [aC P] {dst:Option Tmp} {ty:TypeId} {pos:String} {after:Array Edge} {gd:Option (Nat×Bool)} {m:List AV} {view:List aN} {pl:Nat} {T:TypeId} {len:Nat} {parts:Array (Nat×Operand)} {e:TypeId} {n by':Nat} {xs:List AV}
  (he:gX P T=some (e,n,by')) (hz:bQ P e n=true) (Mj:wO parts.toList=true) (hlen:len=parts.toList.length) (hbig:len * n<=16777216) (hbig2:len<=16777216)
  (hxs:(parts.toList.map (·.2)).map (AS.ev ⟨m,view⟩)=xs) (hpl:∀x∈xs,x.iG=true) (hgood:∀x∈xs,x.xO=true/\x.cells.length=n) (hv:view[pl]? =some (hole n)):
  Ep P ⟨dst,.buildSlice T len parts,ty,pos,after,gd⟩ m view pl (.obj pl 1) ⟨true,false,n,1,xs.map AV.cells⟩:=by
 intro B t2 o2 hw hs _;have e2:(parts.toList.map (·.2)).map (AS.ev ⟨t2,o2⟩)=xs:=by
  have key:∀(l:List Operand) (xs:List AV),l.map (AS.ev ⟨m,view⟩)=xs->(∀x∈xs,x.iG=true)->l.map (AS.ev ⟨t2,o2⟩)=xs:=by
   intro l;induction l with
   |nil=>intro xs h _;exact h
   |cons a l ih=>
    intro xs h hp;cases xs with
    |nil=>cases h
    |cons x xs=>simp only [mA,List.cons.injEq] at h⊢;exact ⟨Cg hw h.1 (O5 (hp x (by simp))),ih xs h.2 λy hy=>hp y (by simp [hy])⟩
  exact key _ _ hxs hpl
 have ho:o2[pl]? =some ⟨true,false,n,0,[]⟩:=hs pl _ hv rfl;have:=qc (P:=P) (B:=B) (s:=⟨t2,o2⟩) (dst:=dst) (ty:=ty) (pos:=pos) (after:=after) (gd:=gd) T len parts (i:=pl) he hz Mj hlen hbig hbig2 (by rw [e2];exact hpl) (by rw [e2];exact hgood) ho;rw [e2,put_eq] at this;exact this
theorem O6 {P:Program} [aC P] {dst:Option Tmp} {ty:TypeId} {pos:String} {after:Array Edge} {gd:Option (Nat×Bool)} {m:List AV} {view:List aN} {pl v:Nat} {x y:Operand} {tS xT:TypeId} {e:TypeId} {n by':Nat} {ob:aN} {l2:List (List AV)}
  (he:gX P tS=some (e,n,by')) (hz:bQ P e n=true) (hxt:dP P xT=true) (hx:AS.ev ⟨m,view⟩ x= .obj pl v) (hv:view[pl]? =some ob) (wG:ob.live=true/\ob.cZ=v/\ob.box=false/\ob.n=n)
  (hy:AS.ev ⟨m,view⟩ y= .sl .view n l2) (hbytes:(ob.eQ.length+l2.length) * by'<=140737488355328) (h63:ob.eQ.length+l2.length<=9223372036854775807):
  Ep P ⟨dst,.call {callee:= .builtin .append,args:=#[x,y],argTypes:=#[tS,xT]},ty,pos,after,gd⟩ m view pl (.obj pl (v+1)) {ob with cZ:=v+1,eQ:=ob.eQ++l2}:=by
 intro B t2 o2 hw hs _;have ho:o2[pl]? =some ob:=hs pl _ hv wG.1;have hx2:AS.ev ⟨t2,o2⟩ x= .obj pl v:=Cg hw hx (by simp);have hy2:AS.ev ⟨t2,o2⟩ y= .sl .view n l2:=Cg hw hy (by simp);have Fg:AV.isObj o2 pl v=some ob:=by simp [AV.isObj,ho,wG.1,wG.2.1]
 have:=step_append (P:=P) (B:=B) (s:=⟨t2,o2⟩) (dst:=dst) (ty:=ty) (pos:=pos) (after:=after) (gd:=gd) tS xT x y (i:=pl) (ob:=ob) (s1:=⟨t2,o2⟩) (l2:=l2) (o2:=o2) he hz hxt
  (by rw [hx2];simp only [AS.target,Fg,wG.2.2.1,wG.2.2.2,Fm,gO]) (by rw [hy2];simp only [AS.source,gO]) hbytes h63
 simp only [AS.xR,put_eq,wG.2.1] at this;exact this
theorem Cs {P:Program} [aC P] {dst:Option Tmp} {ty:TypeId} {pos:String} {after:Array Edge} {gd:Option (Nat×Bool)} {m:List AV} {view:List aN} {pl:Nat} {T:TypeId} {len:Nat} {parts:Array (Nat×Operand)} {e:TypeId} {n by':Nat} {xs:List AV} {eQ:List (List AV)}
  (he:gX P T=some (e,n,by')) (hz:bQ P e n=true) (Mj:wO parts.toList=true) (hlen:len=parts.toList.length) (hbig:len * n<=16777216) (hbig2:len<=16777216)
  (hxs:(parts.toList.map (·.2)).map (AS.ev ⟨m,view⟩)=xs) (hpl:∀x∈xs,x.iG=true) (hgood:∀x∈xs,x.xO=true/\x.cells.length=n) (hv:view[pl]? =some (hole n)) (hels:xs.map AV.cells=eQ):
  Ep P ⟨dst,.buildSlice T len parts,ty,pos,after,gd⟩ m view pl (.obj pl 1) ⟨true,false,n,1,eQ⟩:=by
 subst hels;exact aK9 he hz Mj hlen hbig hbig2 hxs hpl hgood hv
theorem yY {P:Program} [aC P] {dst:Option Tmp} {ty:TypeId} {pos:String} {after:Array Edge} {gd:Option (Nat×Bool)} {m:List AV} {view:List aN} {pl v v':Nat} {x y:Operand} {tS xT:TypeId} {e:TypeId} {n by':Nat} {eQ els':List (List AV)} {l2:List (List AV)}
  (hx:AS.ev ⟨m,view⟩ x= .obj pl v) (hvv:v+1=v') (hv:view[pl]? =some ⟨true,false,n,v,eQ⟩) (hy:AS.ev ⟨m,view⟩ y= .sl .view n l2) (hels:eQ++l2=els')
  (he:gX P tS=some (e,n,by')) (hz:bQ P e n=true) (hxt:dP P xT=true) (hbytes:(eQ.length+l2.length) * by'<=140737488355328) (h63:eQ.length+l2.length<=9223372036854775807):
  Ep P ⟨dst,.call {callee:= .builtin .append,args:=#[x,y],argTypes:=#[tS,xT]},ty,pos,after,gd⟩ m view pl (.obj pl v') ⟨true,false,n,v',els'⟩:=by
 subst hels;subst hvv;exact O6 he hz hxt hx hv ⟨rfl,rfl,rfl,rfl⟩ hy hbytes h63
def qg (P:Program) [aC P] (l:List Oper) (t:List AV) (b:List aN) (fl:List TU) (K:AS->Prop):Nat->List Oper->List AV->Prop
 |_,[],vs=>K ⟨iR (λ_=>true) 0 l vs t,zW (λ_=>true) fl b⟩
 |j,op::r,vs=>∃x,VO P l t b fl j op (vs++[x])/\qg P l t b fl K (j+1) r (vs++[x])
theorem Zz {P:Program} [aC P] {l:List Oper} {t:List AV} {b:List aN} {fl:List TU} {j:Nat} {op:Oper} {vs vs':List AV} (h:VO P l t b fl j op vs) (h1:vs.take j=vs'.take j) (h2:vs.getD j .undef=vs'.getD j .undef):VO P l t b fl j op vs':=by unfold VO at h⊢;rw [h1,h2] at h;exact h
theorem zi {P:Program} [aC P] {l:List Oper} {t:List AV} {b:List aN} {fl:List TU} {K:AS->Prop}:∀(r:List Oper) (j:Nat) (vs:List AV),l.drop j=r->vs.length=j->qg P l t b fl K j r vs->
  ∃vf,vf.take j=vs/\(∀k op,j<=k->l[k]? =some op->VO P l t b fl k op vf)/\K ⟨iR (λ_=>true) 0 l vf t,zW (λ_=>true) fl b⟩
 |[],j,vs,hd,hl,h=>by refine ⟨vs,cY (by omega),λk op hk hop=> ?_,h⟩;have h1:=(cH.1 hop).1;have h2:=An length hd;simp at h2;omega
 |op::r,j,vs,hd,hl,h=>by
  simp only [qg] at h;obtain ⟨x,hi,h⟩:=h;have hd':l.drop (j+1)=r:=by rw [<-At,hd];rfl
  have hop:l[j]? =some op:=by have:=An (·[0]?) hd;simpa using this
  obtain ⟨vf,h1,h2,h3⟩:=zi r (j+1) (vs++[x]) hd' (by simp [hl]) h;refine ⟨vf,?_,λk op' hk hop'=> ?_,h3⟩
  .have:=An (List.take j) h1;rw [take_take] at this;rw [Ds (by omega)] at this;rw [this,AW (by omega),cY (by omega)]
  .rcases sB j k with hlt|hge
   .exact h2 k op' hlt hop'
   .obtain rfl:j=k:=by omega
    rw [hop] at hop';obtain rfl:=cQ hop';refine Zz hi ?_ ?_
    .have:=An (List.take j) h1;rw [take_take,Ds (by omega)] at this;rw [this]
    .have:=An (·[j]?) h1;simp only [AM] at this;rw [eI (by omega)] at this;rw [gS,gS,this]
@[irreducible] def ZA {α:Type} (x:α):α:=x
theorem yA {α:Type} (x:α):ZA x=x:=by unfold ZA;rfl
def zX (f:Nat->Bool):Code->Code
 | .region id ops true=>if f id then .region id (ZA ops) true else .region id ops true
 | .region id ops false=>if f id then ZA (.region id ops false) else .region id ops false
 | .seq x y=> .seq (zX f x) (zX f y)
 | .cond c x y=> .cond c (zX f x) (zX f y)
 | .block id c=> .block id (zX f c)
 | .loop c=> .loop (zX f c)
 |c=>c
theorem zY (f:Nat->Bool):∀c:Code,zX f c=c
 | .region id ops true=>by simp only [zX];split<;>simp [yA]
 | .region id ops false=>by simp only [zX];split<;>simp [yA]
 | .seq x y=>by simp [zX,zY f x,zY f y]
 | .cond c x y=>by simp [zX,zY f x,zY f y]
 | .block id c=>by simp [zX,zY f c]
 | .loop c=>by simp [zX,zY f c]
 | .skip=>rfl
 | .exit _=>rfl
 | .ret=>rfl
 | .rangeFunc _ _ _ _=>rfl
 | .scope _=>rfl
 | .label _=>rfl
 | .goto _=>rfl
 | .refuse _=>rfl
theorem uB {P:Program} [aC P] (hm:P.follows .mixedOrders=true) {f:FuncId} {fn:Func} {c c':Code} (L:List Nat) (hf:P.funcs[f]? =some fn) {n:Nat} (hn:fn.ntmps=n) {args t:List AV} {rr:AV}
  (h:uV P c' ⟨t,[]⟩ (λe s=>(e= .normal\/e= .ret)/\aH P fn s rr)) (hb:fn.body=some c:=by rfl)
  (hc:zX (λi=>L.contains i) c=c':=by simp [zX];rfl)
  (ht:args++replicate (n - args.length) .undef=t:=by
   simp only [eN,eW,Nat.reduceSub,Nat.reduceAdd,qS,Cd,eA,eM];rfl):Ok P f args rr:=by
 subst ht;subst hn;subst hc;rw [zY] at h;exact Vl hm hf hb h
theorem go_weak {P:Program} [aC P] {id:Nat} {l:List Oper} {s s2:AS} {Q:Exit->AS->Prop} (hw:mX s s2) (h:uV P (.region id l.toArray false) s2 Q):uV P (ZA (.region id l.toArray false)) s Q:=by rw [yA];exact kg hw h
theorem go_drawn3 {P:Program} [aC P] {id:Nat} {l:List Oper} {s:AS} {Q:Exit->AS->Prop} (fl:List TU) {b:List aN} (hb:s.o++(fl.map (·.n)).map (λn=>⟨true,false,n,0,[]⟩)=b) (hfw:NR l=true) (hdst:distinct l=true) (hfl:aHe l fl b.length=true)
  (hb0:zW (λ_=>false) fl b=b) (h:qg P l s.t b fl (Q .normal) 0 l []):uV P (.region id (ZA l.toArray) true) s Q:=by
 rw [yA];obtain ⟨vf,_,h2,h3⟩:=zi l 0 [] rfl rfl h;exact qf fl vf hfw hdst hfl (by rw [hb0,hb]) (λj op hop=>h2 j op (Nat.zero_le _) hop) h3
section
variable {P : Program} [aC P] {l : List Oper} {t : List AV} {b : List aN} {fl : List TU} {K : AS -> Prop} {j : Nat} {op : Oper} {r : List Oper} {vs : List AV} {pr : List Nat} {m : List AV} {om : List aN}
theorem Xw {t':List AV} {o':List aN} (h1:iR (λ_=>true) 0 l vs t=t') (h2:zW (λ_=>true) fl b=o') (h:K ⟨t',o'⟩):qg P l t b fl K j [] vs:=by simp only [qg,h1,h2];exact h
theorem PT {vs':List AV} {c:Prop} (hc:c) (hv:vs=vs') (hd:qg P l t b fl K j r vs'):c/\qg P l t b fl K j r vs:=by subst hv;exact ⟨hc,hd⟩
theorem PU (hg:op.guard=none) (hnf:(fl.all λp=>p.st.all λq=>decide (q.1≠j))=true) (hpr:pre op=pr) (hlt:(pr.all λe=>decide (e < j))=true) (hm:pM j pr 0 l vs t=m) (ho:Jn j pr fl b=om) (hq:nM op.op ⟨m,om⟩=true) (hvl:vs.length=j) (hdl:(match op.dst with|some d=>decide (d < m.length)|none=>true)=true)
  (ha:Nx 2 P op ⟨m,om⟩ λs'=>s'.o.length=om.length/\qg P l t b fl K (j+1) r (vs++[FM op s'])):qg P l t b fl K j (op::r) vs:=by
 have hst:rW P l op ⟨m,om⟩ λs'=>s'.o.length=om.length/\qg P l t b fl K (j+1) r (vs++[FM op s']):=by
  unfold rW;simp only [hg];unfold Nx at ha;rcases ha with ha|ha
  .exact .inl ha
  .rcases ha with ha|ha
   .exact absurd ha.1 (by decide)
   .exact .inr ha.2
 obtain ⟨x,new,x2,⟨hlen,hK⟩,hx,_,hfin⟩:=Cm (t2:=m) (o2:=om) hq (mD _) hst (λi ob h _=>h) (.inl rfl);have hnew:new=[]:=by rw [eR] at hlen;exact kO (by omega)
 subst hnew;rw [fY] at hK;simp only [qg];refine ⟨_,?_,hK⟩;have htk:(vs++[FM op ⟨tZ m op.dst x,om⟩]).take j=vs:=by rw [AW (by omega),cY (by omega)]
 have hgd:(vs++[FM op ⟨tZ m op.dst x,om⟩]).getD j .undef=FM op ⟨tZ m op.dst x,om⟩:=by rw [gS,hS (by omega),hvl,yW];rfl
 refine ⟨λe he=>by rw [hpr] at he;have:=fW.1 hlt e he;simpa using this,.inl ⟨λp hp q hq=> ?_,?_,x2,?_,?_⟩⟩
 .have:=fW.1 (fW.1 hnf p hp) q hq;simpa using this
 .rw [htk,hpr,hm,ho];exact hq
 .rw [hgd];unfold FM tZ;cases hd:op.dst with
  |none=>exact .inr rfl
  |some d=>
   rw [hd] at hdl;have hdl:d < m.length:=by simpa using hdl
   dsimp only;rw [gS,nB hdl];exact hx
 .rw [htk,hpr,hm,ho];exact hfin _ (by rw [fY])
theorem nX {v:AV} {fZ:aN} (p:TU) (s1 s2:List (Nat×aN)) (hg:op.guard=none) (hp:p∈fl) (hst:p.st=s1++(j,fZ)::s2) (hpr:pre op=pr) (hlt:(pr.all λe=>decide (e < j))=true) (hm:pM j pr 0 l vs t=m) (ho:Jn j pr fl b=om) (hvl:vs.length=j)
  (ha:Ep P op m om p.at_ v fZ) (h:qg P l t b fl K (j+1) r (vs++[v])):qg P l t b fl K j (op::r) vs:=by
 simp only [qg];refine ⟨v,?_,h⟩;have htk:(vs++[v]).take j=vs:=by rw [AW (by omega),cY (by omega)]
 have hgd:(vs++[v]).getD j .undef=v:=by rw [gS,hS (by omega),hvl,yW];rfl
 refine ⟨λe he=>by rw [hpr] at he;have:=fW.1 hlt e he;simpa using this,.inr ⟨hg,p,hp,s1,fZ,s2,hst,?_⟩⟩;rw [htk,hgd,hpr,hm,ho];exact ha
end
attribute [simp] zW Jn qd vst hole aDe aHe Rp
def pY (P:Program) (fn:Func) (s:AS) (r:AV):Prop:=
 ∃ys,s.uS P fn.results.toList=some ys/\jR s.o (single ys)=true/\(lT (single ys)).Nodup/\res s.o (single ys)=r
def PS (P:Program) (fn:Func) (s:AS) (r:AV):Prop:=
 ∃i ys,s.vV P fn.results.toList=some (i,ys)/\jR s.o (single ys)=true/\(lT (single ys)).Nodup/\i∉lT (single ys)/\res s.o (single ys)=r
theorem qZ {P:Program} {fn:Func} {s:AS} {r:AV} (h:match s.vV P fn.results.toList with|some (i,ys)=>jR s.o (single ys)=true/\(lT (single ys)).Nodup/\i∉lT (single ys)/\res s.o (single ys)=r|none=>False):PS P fn s r:=by
 unfold PS;split at h
 .rename_i i ys hx;exact ⟨i,ys,hx,h⟩
 .exact h.elim
theorem qa {P:Program} [aC P] (hm:P.follows .mixedOrders=true) {f:FuncId} {fn:Func} {c:Code} (hf:P.funcs[f]? =some fn) (hb:fn.body=some c) {args:List AV} {rr:AV} (aDc:Jc args=true)
  (h:uV P c ⟨args++replicate (fn.ntmps - args.length) .undef,[]⟩ (λe s=>(e= .normal\/e= .ret)/\(pY P fn s rr\/PS P fn s rr))):Ok P f args rr:=by
 intro w vs hg hargs;have hl:=gN hargs;have r0:eF ⟨w,λ_=>False,λ_=>False,λ_=>none,λ_=>none,hg,λ_ h=>h.elim,λ_ h=>h.elim⟩ ⟨args++replicate (fn.ntmps - args.length) .undef,[]⟩ [] {tmps:=vs.toArray++Array.replicate (fn.ntmps - vs.toArray.size) Go.undef,defers:=[]} w:=by
  refine ⟨rfl,rfl,λi ob g hl=>by simp [look] at hl,λi j oi oj gi gj b hl=>by simp [look] at hl,λi ob g b hl=>by simp [look] at hl,?_,eE _,λ_ _ _=>rfl,λb hb=>hb.elim,oD.rfl⟩;have h1:Rc w (env ⟨w,λ_=>False,λ_=>False,λ_=>none,λ_=>none,hg,λ_ h=>h.elim,λ_ h=>h.elim⟩ [] [] w) args vs []:=Jd _ _ _ aDc hargs;have h2:∀n,Rc w (env ⟨w,λ_=>False,λ_=>False,λ_=>none,λ_=>none,hg,λ_ h=>h.elim,λ_ h=>h.elim⟩ [] [] w) (replicate n .undef) (replicate n Go.undef) []:=by
   intro n;induction n with
   |zero=>simp [Rc]
   |succ n ih=>simp only [qS,Rc];exact ⟨[],[],by simp [R],ih,rfl⟩
  have:=mU h1 (h2 (fn.ntmps - args.length));simpa [hl] using this
 refine calls_of_wp hf hb (wp_mono (uG hm c _ _ h _ _ ⟨_,r0⟩) λe a w' he=> ?_);obtain ⟨s,⟨he,pq⟩,G,r⟩:=he;have key:∃(v:Value) (fp:List Nat),(results fn a.tmps).run P w'= .ok v w'/\R w' (env ⟨w,λ_=>False,λ_=>False,λ_=>none,λ_=>none,hg,λ_ h=>h.elim,λ_ h=>h.elim⟩ s.o G w').plain rr v fp/\fp.Nodup/\∀b∈fp,∃j ob g,look s.o G j ob g/\ob.live=true/\g.F b:=by
  rcases pq with ⟨ys,G8,nT,hu,jU⟩|⟨i,ys,G8,nT,hu,hi,jU⟩
  .obtain ⟨v,hrun,hR⟩:=Cc r G8;obtain ⟨fp,h1,h2,h3⟩:=Nz r _ v nT hu hR;rw [jU] at h1;exact ⟨v,fp,hrun,h1,h2,λb hb=>by obtain ⟨i,ob,g,_,h⟩:=h3 b hb;exact ⟨i,ob,g,h⟩⟩
  .obtain ⟨v,fp0,ob,g,hlk,hlive,hrun,hR,hnd,hF⟩:=KC r G8;obtain ⟨fp,h1,h2,h3⟩:=jl r hlk hlive _ v fp0 nT hu hi hnd hF hR;rw [jU] at h1;refine ⟨v,fp,hrun,h1,h2,λb hb=> ?_⟩;rcases h3 b hb with h|⟨j,fZ,g',_,h⟩
   .exact ⟨i,ob,g,hlk,hlive,hF b h⟩
   .exact ⟨j,fZ,g',h⟩
 obtain ⟨v,fp,hrun,h1,h2,h3⟩:=key;have hfin:∃v' fp,Ending.returned v= .returned v'/\R w' (Bg w.heap.size w' fp) rr v' fp/\fp.Nodup/\(∀b∈fp,w.heap.size<=b/\b < w'.heap.size)/\w.heap.size<=w'.heap.size/\(∀b,b < w.heap.size->w'.heap[b]? =w.heap[b]?)/\oD w w':=by
  refine ⟨v,fp,rfl,?_,h2,λb hb=> ?_,r.size,λb hb=>r.frame b hb (λh=>h),r.same⟩
  .have k:fK w' (env ⟨w,λ_=>False,λ_=>False,λ_=>none,λ_=>none,hg,λ_ h=>h.elim,λ_ h=>h.elim⟩ s.o G w').plain w' (Bg w.heap.size w' fp):=
    ⟨λb hb=>⟨⟨(hb.1.resolve_left (λh=>h)).1,(hb.1.resolve_left (λh=>h)).2,λhm=>by
     obtain ⟨j,ob,g,hl,hlive,hF⟩:=h3 b hm;exact hb.2 j ob g hl hlive hF⟩,rfl⟩,λ_ _=>trivial,λ_ _ _ h=>h.elim,λ_ _ _ h=>h.elim,λ_ _ _ _ _ h=>h.elim⟩
   exact pR k _ _ _ (λ_ _=>rfl) h1
  .obtain ⟨i,ob,g,hl,hlive,hF⟩:=h3 b hb;have:=r.fresh _ _ _ b hl hlive hF;exact ⟨this.1.resolve_left (λh=>h),this.2⟩
 rcases he with rfl|rfl
 .exact ⟨r.defs,v,hrun,hfin⟩
 .exact ⟨r.defs,v,hrun,hfin⟩
theorem Ur {P:Program} [aC P] (hm:P.follows .mixedOrders=true) {f:FuncId} {fn:Func} {c:Code} (hf:P.funcs[f]? =some fn) {n:Nat} (hn:fn.ntmps=n) {args t:List AV} {rr:AV}
  (h:uV P c ⟨t,[]⟩ (λe s=>(e= .normal\/e= .ret)/\(pY P fn s rr\/PS P fn s rr))) (hb:fn.body=some c:=by rfl) (aDc:Jc args=true:=by simp [Jc,uU])
  (ht:args++replicate (n - args.length) .undef=t:=by
   simp only [eN,eW,Nat.reduceSub,Nat.reduceAdd,qS,Cd,eA,eM];rfl):Ok P f args rr:=by
 subst ht;subst hn;exact qa hm hf hb aDc h
theorem Ok.vw {P:Program} [aC P] {f:FuncId} {args:List AV} {r:AV} (h:Ok P f args r):Ok P f args (rt (λ_=>some .view) false r):=by
 intro w vs hg hr;refine Calls.mono (h w vs hg hr) λe w' he=> ?_
 obtain ⟨v,fp,rfl,h1,h2,h3,h4,h5,h6⟩:=he;have k:nJ (λ_=>some .view) false (Bg w.heap.size w' fp) (Bg w.heap.size w' []) (· ∈fp):=
  {own:=λg e=>by obtain rfl:=cQ e;exact ⟨by simp,λb hb=>⟨(h3 b hb).1,(h3 b hb).2,by simp⟩⟩
   view:=λg e=>by obtain rfl:=cQ e;exact ⟨rfl,λb hb=>⟨hb.1,hb.2.1,by simp⟩⟩
   kG:=λi g e=>by obtain rfl:=cQ e;exact ⟨by simp,.inl trivial,λb hb=>hb.elim⟩
   hh:=λh=>by cases h
   hl:=λh=>by cases h}
 exact ⟨v,[],rfl,aNc k r v fp (λ_ h=>h) h1,by simp,by simp,h4,h5,h6⟩
theorem Ok.FP {P:Program} [aC P] {f:FuncId} {args:List AV} {r r':AV} (h:Ok P f args r) (e:rt (λ_=>some .view) false r=r'):Ok P f args r':=e▸h.vw
def swp (i j k:Nat):Nat:=if k=i then j else if k=j then i else k
theorem KS (i j k:Nat):swp i j (swp i j k)=k:=by unfold swp;split<;>split<;>(try split)<;>omega
def Dx (i j k:Nat):Prop:=k=i\/k=j
instance (i j k : Nat) : Decidable (Dx i j k) := by unfold Dx; infer_instance
theorem XF {i j k:Nat} (h:¬Dx i j k):swp i j k=k:=by unfold Dx at h;unfold swp;rw [cX (λe=>h (.inl e)),cX (λe=>h (.inr e))]
def gsw (i j:Nat):Tg->Tg
 | .kG k=> .kG (swp i j k)
 |g=>g
mutual
def lK (i j:Nat):AV->AV
 | .obj k v=>if Dx i j k then (if v=0 then .undef else .obj (swp i j k) v) else .obj k v
 | .ptr k v idx off=>if Dx i j k then .undef else .ptr k v idx off
 | .sl g n l=> .sl (gsw i j g) n (qB i j l)
 | .fA g c off=> .fA (gsw i j g) (qP i j c) off
 | .agg c=> .agg (qP i j c)
 | .gZ c=> .gZ (qP i j c)
 | .fn f c=> .fn f (qP i j c)
 | .int k n=> .int k n
 | .bool b=> .bool b
 | .str s=> .str s
 | .undef=> .undef
def qP (i j:Nat):List AV->List AV
 |[]=>[]
 |x::xs=>lK i j x::qP i j xs
def qB (i j:Nat):List (List AV)->List (List AV)
 |[]=>[]
 |x::xs=>qP i j x::qB i j xs
end
theorem Aa (i j:Nat):∀l,(qB i j l).length=l.length
 |[]=>rfl
 |_::l=>by simp [qB,Aa i j l]
structure Ren (i j : Nat) (E E' : Env) : Prop where
  a : ∀ b, E.A b -> E'.A b
  v : ∀ k, E'.V (swp i j k) -> E.V k
  d : ∀ k b, E.D k b -> E'.D (swp i j k) b
  h : ∀ k cZ x, (Dx i j k -> cZ ≠ 0) -> E.H k cZ x -> E'.H (swp i j k) cZ x
  l : ∀ k cZ idx off x, ¬ Dx i j k -> E.L k cZ idx off x -> E'.L k cZ idx off x
theorem Ren.plain {i j:Nat} {E E':Env} (k:Ren i j E E'):Ren i j E.plain E'.plain:=
 ⟨k.a,λ_ _=>trivial,λ_ _ h=>h.elim,λ_ _ _ _ h=>h.elim,λ_ _ _ _ _ _ h=>h.elim⟩
theorem Ren.sub {i j:Nat} {E E':Env} (k:Ren i j E E') (g:Tg):Ren i j (E.sub g) (E'.sub (gsw i j g)):=by
 cases g with
 |own=>exact k.plain
 |view=>exact k.plain
 |kG q=>exact ⟨k.a,λ_ _=>trivial,λr b h=>⟨by rw [h.1],k.d _ _ h.2⟩,λ_ _ _ _ h=>h.elim,λ_ _ _ _ _ _ h=>h.elim⟩
theorem Ren.dead {i j:Nat} {E E':Env} (k:Ren i j E E') {g:Tg} (h:E.dead g):E'.dead (gsw i j g):=by
 cases g with
 |own=>exact h
 |view=>exact h
 |kG q=>exact λhv=>h (k.v q hv)
theorem Ren.tg {i j:Nat} {E E':Env} (k:Ren i j E E') {g:Tg} {b:Nat} (h:E.tg g b):E'.tg (gsw i j g) b:=by
 cases g with
 |own=>exact h
 |view=>exact k.a b h
 |kG q=>exact k.d q b h
theorem XG {i j:Nat} {g:Tg}:gsw i j g= .own↔g= .own:=by cases g<;>simp [gsw]
mutual
theorem aO1 {w:World} {i j:Nat} {E E':Env} (k:Ren i j E E'):∀(x:AV) (v:Value) (fp:List Nat),R w E x v fp->R w E' (lK i j x) v fp
 | .obj q u,v,fp,h=>by
  simp only [lK];simp only [R] at h;by_cases hm:Dx i j q
  .rw [eI hm];by_cases hu:u=0
   .rw [eI hu];simp only [R];exact h.1
   .rw [cX hu];simp only [R];exact ⟨h.1,k.h _ _ _ (λ_=>hu) h.2⟩
  .rw [cX hm];simp only [R];have:=k.h q u v (λhm'=>absurd hm' hm) h.2;rw [XF hm] at this;exact ⟨h.1,this⟩
 | .ptr q u idx off,v,fp,h=>by
  simp only [lK];simp only [R] at h;by_cases hm:Dx i j q
  .rw [eI hm];simp only [R];exact h.1
  .rw [cX hm];simp only [R];exact ⟨h.1,k.l _ _ _ _ _ hm h.2⟩
 | .sl g n l,v,fp,h=>by
  simp only [lK,R,Aa] at h⊢;rcases h with h|⟨a,cap,hv,hl,h⟩
  .exact .inl ⟨k.dead h.1,h.2⟩
  refine .inr ⟨a,cap,hv,hl,?_⟩;rcases h with ⟨hg,hl0,h1,h2⟩|⟨hg,b,off,C,e,fz,rD,ha,hb,hz,h1,h2,h3,JR,hr⟩|⟨hg,JR,h⟩
  .exact .inl ⟨XG.2 hg,by rw [hl0];rfl,h1,h2⟩
  .exact .inr (.inl ⟨XG.2 hg,b,off,C,e,fz,rD,ha,hb,hz,h1,h2,h3,JR,XH (k.sub g) _ _ _ _ _ hr⟩)
  .refine .inr (.inr ⟨λe=>hg (XG.1 e),JR,?_⟩)
   rcases h with rfl|⟨b,off,ha,ht,hr⟩
   .exact .inl rfl
   .exact .inr ⟨b,off,ha,k.tg ht,XH (k.sub g) _ _ _ _ _ hr⟩
 | .fA g c off,v,fp,h=>by
  simp only [lK,R] at h⊢;rcases h with h|⟨JR,b,o,cs,hv,ht,hcs,hc,hr⟩
  .exact .inl ⟨k.dead h.1,h.2⟩
  .exact .inr ⟨JR,b,o,cs,hv,k.tg ht,hcs,hc,Jt (k.sub g) _ _ _ hr⟩
 | .agg c,v,fp,h=>by simp only [lK,R] at h⊢;obtain ⟨cs,h1,h2,h3⟩:=h;exact ⟨cs,h1,h2,Jt k c cs fp h3⟩
 | .gZ c,v,fp,h=>by simp only [lK,R] at h⊢;obtain ⟨cs,h1,h3⟩:=h;exact ⟨cs,h1,Jt k c cs fp h3⟩
 | .fn f c,v,fp,h=>by simp only [lK,R] at h⊢;obtain ⟨h0,cs,h1,h3⟩:=h;exact ⟨h0,cs,h1,Jt k c cs [] h3⟩
 | .int _ _,v,fp,h=>by simpa [lK,R] using h
 | .bool _,v,fp,h=>by simpa [lK,R] using h
 | .str _,v,fp,h=>by simpa [lK,R] using h
 | .undef,v,fp,h=>by simpa [lK,R] using h
theorem Jt {w:World} {i j:Nat} {E E':Env} (k:Ren i j E E'):∀(c:List AV) (cs:List Value) (fp:List Nat),Rc w E c cs fp->Rc w E' (qP i j c) cs fp
 |[],[],_,h=>by simpa [Rc,qP] using h
 |[],_::_,_,h=>by simp [Rc] at h
 |_::_,[],_,h=>by simp [Rc] at h
 |x::xs,c::cs,fp,h=>by simp only [Rc,qP] at h⊢;obtain ⟨f1,f2,h1,h2,h3⟩:=h;exact ⟨f1,f2,aO1 k x c f1 h1,Jt k xs cs f2 h2,h3⟩
theorem XH {w:World} {i j:Nat} {E E':Env} (k:Ren i j E E'):∀(l:List (List AV)) (b off n:Nat) (fp:List Nat),Rr w E l b off n fp->Rr w E' (qB i j l) b off n fp
 |[],_,_,_,_,h=>by simpa [Rr,qB] using h
 |e::es,b,off,n,fp,h=>by simp only [Rr,qB] at h⊢;obtain ⟨cs,f1,f2,h1,h2,h3,h4,h5,h6⟩:=h;exact ⟨cs,f1,f2,h1,h2,h3,Jt k e cs f1 h4,XH k es b (off+n) n f2 h5,h6⟩
end
def aN.lK (i j:Nat) (ob:aN):aN:=if ob.box=true then {ob with eQ:=qB i j ob.eQ} else ob
def swo (i j:Nat) (o:List aN):List aN:=(range o.length).map λk=>((o[swp i j k]?).getD ⟨false,false,0,0,[]⟩).lK i j
theorem wF.ren {w:World} {i j:Nat} {E E':Env} {n:Nat} {l:List (List AV)} {a:Option Addr} {cap:Nat} {fp:List Nat} (k:Ren i j E E') (h:wF w E n l a cap fp):wF w E' n (qB i j l) a cap fp:=by
 refine ⟨by rw [Aa];exact h.1,?_⟩;rcases h.2 with h|⟨b,off,C,e,fz,rD,ha,hb,hz,h1,h2,h3,JR,hr⟩
 .exact .inl ⟨by rw [h.1];rfl,h.2⟩
 .exact .inr ⟨b,off,C,e,fz,rD,ha,hb,hz,h1,by rw [Aa];exact h2,h3,JR,XH k _ _ _ _ _ hr⟩
theorem S9 {t t':List AV} {o o':List aN} (i j:Nat) (hi:i < o.length) (hj:j < o.length) (hbi:∀ob,o[i]? =some ob->ob.box=false) (hbj:∀ob,o[j]? =some ob->ob.box=false) (ho:swo i j o=o') (hw:wk (qP i j t) t'):mX ⟨t,o⟩ ⟨t',o'⟩:=by
 subst ho;rintro P _ B a w ⟨G,r⟩;have hlen:=r.len;generalize hG':(range G.length).map (λk=>(G[swp i j k]?).getD ⟨none,0,λ_=>False⟩)=G';have slt:∀k,k < o.length->swp i j k < o.length:=by intro k hk;unfold swp;split<;>(try split)<;>omega
 have fz:∀ob:aN,(ob.lK i j).live=ob.live/\(ob.lK i j).box=ob.box/\(ob.lK i j).n=ob.n/\(ob.lK i j).cZ=ob.cZ/\(ob.lK i j).eQ.length=ob.eQ.length:=by intro ob;unfold aN.lK;split<;>simp [Aa]
 have og:∀k,(swo i j o)[k]? =(o[swp i j k]?).map (aN.lK i j):=by
  intro k;unfold swo;rw [sL];by_cases hk:k < o.length
  .rw [getElem?_range hk];simp only [mC,aE (slt k hk),rB]
  .have h1:(range o.length)[k]? =none:=by rw [tG];simp;omega
   have h2:swp i j k=k:=by unfold swp;rw [cX (by omega),cX (by omega)]
   rw [h1,h2,pA (by omega)];rfl
 have gg:∀k,G'[k]? =G[swp i j k]?:=by
  intro k;rw [<-hG',sL];by_cases hk:k < G.length
  .rw [getElem?_range hk];have h3:swp i j k < G.length:=by rw [hlen];exact slt k (by rw [<-hlen];exact hk)
   simp only [mC,aE h3,rB]
  .have h1:(range G.length)[k]? =none:=by rw [tG];simp;omega
   have h2:swp i j k=k:=by have:o.length=G.length:=hlen.symm;unfold swp;rw [cX (by omega),cX (by omega)]
   rw [h1,h2,pA (by omega)];rfl
 have back:∀{k ob g},look (swo i j o) G' k ob g->∃yP,look o G (swp i j k) yP g/\ob=yP.lK i j:=by
  rintro k ob g ⟨e1,e2⟩;rw [og] at e1;rw [gg] at e2;cases hx:o[swp i j k]? with
  |none=>rw [hx] at e1;cases e1
  |some yP=>rw [hx] at e1;exact ⟨yP,⟨hx,e2⟩,(cQ e1).symm⟩
 have Vk:∀{k ob g},look o G k ob g->look (swo i j o) G' (swp i j k) (ob.lK i j) g:=by rintro k ob g ⟨e1,e2⟩;exact ⟨by rw [og,KS,e1];rfl,by rw [gg,KS,e2]⟩
 have aVd:∀{k ob g},look o G k ob g->ob.box=true->¬Dx i j k:=by
  rintro k ob g ⟨e1,_⟩ hb (rfl|rfl)
  .rw [hbi ob e1] at hb;cases hb
  .rw [hbj ob e1] at hb;cases hb
 have rn:Ren i j (env B o G w) (env B (swo i j o) G' w):=by
  refine ⟨λb h=>⟨h.1,λk ob g hl Kg hF=> ?_⟩,λk h ob wG=> ?_,λk b h=> ?_,λk cZ x hm h=> ?_,λk cZ idx off x hm h=> ?_⟩
  .obtain ⟨yP,hl0,rfl⟩:=back hl;exact h.2 _ _ _ hl0 (by rw [<-(fz yP).1];exact Kg) hF
  .have h1:=h (ob.lK i j) (by rw [og,KS,wG];rfl);rw [(fz ob).1] at h1;exact h1
  .obtain ⟨ob,g,hl,Kg,hF,hne⟩:=h;exact ⟨_,g,Vk hl,by rw [(fz ob).1];exact Kg,hF,hne⟩
  .obtain ⟨ob,g,hl,DU,h5,hz⟩:=h;refine ⟨_,g,Vk hl,by rw [(fz ob).2.2.2.1];exact DU,λKg WC=> ?_,λhv0 y hy=> ?_⟩
   .rw [(fz ob).2.2.2.2];exact h5 (by rw [<-(fz ob).1];exact Kg) (by rw [<-(fz ob).2.2.2.1];exact WC)
   .by_cases hmv:Dx i j k
    .exact absurd hv0 (hm hmv)
    .rw [XF hmv] at hy;exact hz hv0 y hy
  .obtain ⟨ob,g,hl,DU,h5,hz⟩:=h;have hf:=Vk hl;rw [XF hm] at hf;refine ⟨_,g,hf,by rw [(fz ob).2.2.2.1];exact DU,λKg WC=> ?_,λhb hv e1 e2 y hy=> ?_⟩
   .rw [(fz ob).2.2.1];exact h5 (by rw [<-(fz ob).1];exact Kg) (by rw [<-(fz ob).2.2.2.1];exact WC)
   .have:=hz (by rw [<-(fz ob).2.1];exact hb) hv e1 e2 y hy;exact ⟨this.1,λKg WC=>this.2 (by rw [<-(fz ob).1];exact Kg) (by rw [<-(fz ob).2.2.2.1];exact WC)⟩
 refine ⟨G',{len:= ?_,defs:=r.defs,ok:= ?_,apart:= ?_,fresh:= ?_,tmps:=Kk hw (Jt rn _ _ _ r.tmps),size:=r.size,frame:=r.frame,base:=r.base,same:=r.same}⟩
 .rw [<-hG'];simp [swo,hlen]
 .intro k ob g hl Kg;obtain ⟨yP,hl0,rfl⟩:=back hl;obtain ⟨fp,hown,hnd,hF⟩:=r.ok _ _ g hl0 (by rw [<-(fz yP).1];exact Kg);refine ⟨fp,?_,hnd,hF⟩;cases hb0:yP.box with
  |false=>
   have e:yP.lK i j=yP:=by unfold aN.lK;rw [cX (by simp [hb0])]
   rw [e];rw [hb0] at hown⊢;exact hown.keeps (w:=w) (w':=w) ⟨λb hb=>⟨rn.a b hb,rfl⟩,λ_ _=>trivial,λ_ _ _ h=>h.elim,λ_ _ _ h=>h.elim,λ_ _ _ _ _ h=>h.elim⟩ (λ_ _=>rfl)
  |true=>
   have e:yP.lK i j={yP with eQ:=qB i j yP.eQ}:=by unfold aN.lK;rw [eI hb0]
   rw [e];simp only [hb0] at hown⊢;simp only [Env.of,gO] at hown⊢;exact hown.ren rn
 .intro p q op oq gp gq b hp hq hlp hlq hFp hFq;obtain ⟨op0,hp0,rfl⟩:=back hp;obtain ⟨oq0,hq0,rfl⟩:=back hq;have:=r.apart _ _ _ _ _ _ b hp0 hq0 (by rw [<-(fz op0).1];exact hlp) (by rw [<-(fz oq0).1];exact hlq) hFp hFq;have h2:=An (swp i j) this
  rwa [KS,KS] at h2
 .intro k ob g b hl Kg hF;obtain ⟨yP,hl0,rfl⟩:=back hl;exact r.fresh _ _ g b hl0 (by rw [<-(fz yP).1];exact Kg) hF
theorem aHs {i j:Nat} {o:List aN} {oi oj:aN} (hi:o[i]? =some oi) (hj:o[j]? =some oj):swo i j o=((o.set i oj).set j oi).map (aN.lK i j):=by
 have hil:=(cH.1 hi).1;have hjl:=(cH.1 hj).1;refine Bx λk=> ?_
 unfold swo;rw [sL,sL];by_cases hk:k < o.length
 .rw [getElem?_range hk];simp only [mC];by_cases hkj:k=j
  .subst hkj;rw [nB (by simpa using hk)];have:swp i k k=i:=by unfold swp;split<;>simp_all
   rw [this,hi];rfl
  .rw [lB (λe=>hkj e.symm)]
   by_cases hki:k=i
   .subst hki;rw [nB hk];have:swp k j k=j:=by unfold swp;simp
    rw [this,hj];rfl
   .rw [lB (λe=>hki e.symm)]
    have:swp i j k=k:=by unfold swp;rw [cX hki,cX hkj]
    rw [this,aE hk];rfl
 .have h1:(range o.length)[k]? =none:=by rw [tG];simp;omega
  have h2:((o.set i oj).set j oi)[k]? =none:=by rw [tG];simp;omega
  rw [h1,h2];rfl
theorem aR {t t':List AV} {o o':List aN} (i j:Nat) {oi oj:aN} (hi:o[i]? =some oi) (hj:o[j]? =some oj) (hb:oi.box=false/\oj.box=false) (ho:((o.set i oj).set j oi).map (aN.lK i j)=o') (hw:wk (qP i j t) t'):mX ⟨t,o⟩ ⟨t',o'⟩:=
 S9 i j (cH.1 hi).1 (cH.1 hj).1 (λob h=>by rw [hi] at h;obtain rfl:=cQ h;exact hb.1) (λob h=>by rw [hj] at h;obtain rfl:=cQ h;exact hb.2) (by rw [aHs hi hj];exact ho) hw
@[simp] theorem aP7 (i j:Nat) (l:Bool) (n v:Nat) (eQ:List (List AV)):aN.lK i j ⟨l,false,n,v,eQ⟩=⟨l,false,n,v,eQ⟩:=rfl
@[simp] theorem aP8 (i j:Nat) (l:Bool) (n v:Nat) (eQ:List (List AV)):aN.lK i j ⟨l,true,n,v,eQ⟩=⟨l,true,n,v,qB i j eQ⟩:=rfl
attribute [simp] lK qP qB gsw swp Dx
def KI:Nat->List GA->List AV
 |_,[]=>[]
 |k,.view x::gs=>x::KI k gs
 |k,.oK x::gs=>(gH 1 k x).1::KI (k+(gH 1 k x).2.length) gs
 |k,.tY c _::gs=> .ptr k 2 0 0::KI (k+(1+(fE 1 (k+1) c).2.length)) gs
def FU:Nat->List GA->List aN
 |_,[]=>[]
 |k,.view _::gs=>FU k gs
 |k,.oK x::gs=>(gH 1 k x).2++FU (k+(gH 1 k x).2.length) gs
 |k,.tY c _::gs=>(⟨true,true,c.length,2,[(fE 1 (k+1) c).1]⟩::(fE 1 (k+1) c).2)++FU (k+(1+(fE 1 (k+1) c).2.length)) gs
def Fc (E:Env) (k:Nat) (os:List aN) (Gs:List CO):Prop:=
 ∀j ob g,look os Gs j ob g->E.H (k+j) ob.cZ (.slice g.a ob.eQ.length g.cap)/\(ob.box=true->∀b f,g.a=some ⟨b,f,none⟩->E.L (k+j) ob.cZ 0 0 (.pointer (some ⟨b,f,none⟩)))
theorem Fc.left {E:Env} {k:Nat} {o1 o2:List aN} {G1 G2:List CO} (h:Fc E k (o1++o2) (G1++G2)):Fc E k o1 G1:=λj ob g hl=>h j ob g (qQ hl)
theorem Fc.right {E:Env} {k:Nat} {o1 o2:List aN} {G1 G2:List CO} (hlen:G1.length=o1.length) (h:Fc E k (o1++o2) (G1++G2)):Fc E (k+o1.length) o2 G2:=λj ob g hl=>by
 have:=h _ ob g (rP hlen hl)
 rwa [<-oB] at this
def Ent (w:World) (E:Env) (k:Nat) (os:List aN) (fp:List Nat) (pin:List CO->Prop) (done:Env->Prop):Prop:=
 ∃Gs:List CO,Gs.length=os.length/\
  (∀j ob g,look os Gs j ob g->ob.live=true/\(ob.box=false->ob.cZ=1)/\(ob.box=true->ob.cZ=2)/\∃f,f.Nodup/\(∀b,g.F b↔b∈f)/\(∀b∈f,b∈fp)/\
   ∀E',fK w E w E'->Fc E' k os Gs->wF w (E'.of ob.box) ob.n ob.eQ g.a g.cap f)/\
  (∀i j oi oj gi gj b,look os Gs i oi gi->look os Gs j oj gj->gi.F b->gj.F b->i=j)/\pin Gs/\
  ∀E':Env,fK w E w E'->Fc E' k os Gs->done E'
theorem Ent.ZC {w:World} {E:Env} {k:Nat} {os:List aN} {fp:List Nat} {done:Env->Prop} (h:lG 1 w E k os fp done):Ent w E k os fp (λ_=>True) done:=by
 obtain ⟨Gs,h1,h2,h3,h4⟩:=h;refine ⟨Gs,h1,λj ob g hl=> ?_,h3,trivial,λE' hk hf=>h4 E' hk λj ob g hl=> ?_⟩
 .obtain ⟨a1,a2,a3,f,a4,a5,a6,a7⟩:=h2 j ob g hl;refine ⟨a1,λ_=>a3,(λh=>by rw [a2] at h;cases h),f,a5,a6,a7,λE' hk _=> ?_⟩;rw [a2];exact a4.keeps hk.plain (λ_ _=>rfl)
 .have:=(hf j ob g hl).1;obtain ⟨_,_,a3,_⟩:=h2 j ob g hl
  rwa [a3] at this
theorem Ent.append {w:World} {E:Env} {k:Nat} {o1 o2:List aN} {f1 f2:List Nat} {p1 p2 p:List CO->Prop} {d1 d2 d:Env->Prop} (h1:Ent w E k o1 f1 p1 d1) (h2:Ent w E (k+o1.length) o2 f2 p2 d2) (hn:(f1++f2).Nodup)
  (hp:∀G1 G2,G1.length=o1.length->p1 G1->p2 G2->p (G1++G2)) (hd:∀E',d1 E'->d2 E'->d E'):Ent w E k (o1++o2) (f1++f2) p d:=by
 obtain ⟨G1,l1,a1,b1,q1,c1⟩:=h1;obtain ⟨G2,l2,a2,b2,q2,c2⟩:=h2;have hdj:=(gR.1 hn).2.2;refine ⟨G1++G2,by simp [l1,l2],?_,?_,hp G1 G2 l1 q1 q2,λE' hk hf=>hd E' (c1 E' hk hf.left) (c2 E' hk (hf.right l1))⟩
 .intro j ob g hl;rcases qJ l1 hl with ⟨_,h⟩|⟨_,h⟩
  .obtain ⟨x,y,y',f,z1,z2,z3,z4⟩:=a1 _ _ _ h;exact ⟨x,y,y',f,z1,z2,λb hb=>mN _ (z3 b hb),λE' hk hf=>z4 E' hk hf.left⟩
  .obtain ⟨x,y,y',f,z1,z2,z3,z4⟩:=a2 _ _ _ h;exact ⟨x,y,y',f,z1,z2,λb hb=>sE _ (z3 b hb),λE' hk hf=>z4 E' hk (hf.right l1)⟩
 .intro i j oi oj gi gj b hi hj Fp OG;rcases qJ l1 hi with ⟨_,h⟩|⟨hi',h⟩<;>rcases qJ l1 hj with ⟨_,h'⟩|⟨D8,h'⟩
  .exact b1 _ _ _ _ _ _ b h h' Fp OG
  .obtain ⟨_,_,_,f,_,z2,z3,_⟩:=a1 _ _ _ h;obtain ⟨_,_,_,f',_,z2',z3',_⟩:=a2 _ _ _ h';exact absurd rfl (hdj b (z3 b ((z2 b).1 Fp)) b (z3' b ((z2' b).1 OG)))
  .obtain ⟨_,_,_,f,_,z2,z3,_⟩:=a2 _ _ _ h;obtain ⟨_,_,_,f',_,z2',z3',_⟩:=a1 _ _ _ h';exact absurd rfl (hdj b (z3' b ((z2' b).1 OG)) b (z3 b ((z2 b).1 Fp)))
  .have:=b2 _ _ _ _ _ _ b h h' Fp OG;omega
theorem aDm {w:World} {O:Nat->Prop} {k:Nat} {c c':List AV} {v:Value} {fp:List Nat} {cap:Nat} (h:RG w O (.tY c c') v fp cap) (hn:fp.Nodup):
  Ent w (sW w O) k (⟨true,true,c.length,2,[(fE 1 (k+1) c).1]⟩::(fE 1 (k+1) c).2) fp
   (λGs=>∃g b f,Gs[0]? =some g/\g.a=some ⟨b,f,none⟩/\v= .pointer (some ⟨b,f,none⟩)/\g.cap=cap) (λE'=>R w E' (.ptr k 2 0 0) v []):=by
 simp only [RG] at h;obtain ⟨b,f,rfl,hlen,hown⟩:=h;rcases hown with ⟨h5,_⟩|⟨b',f',C,ty,fz,rD,wN,hbk,hz,k1,k2,k3,rfl,hr⟩
 .cases h5
 simp only [eC,pC,rK] at wN;obtain ⟨rfl,rfl⟩:=wN;simp only [Rr] at hr;obtain ⟨cs,f1,f2,hcl,hc,hone,wH,rfl,e⟩:=hr;have e:rD=f1:=by simpa using e
 subst e;simp only [lR] at hn;obtain ⟨Gs,a1,a2,a3,a4⟩:=Dh (q:=1) c cs rD (k+1) wH hn.2;have tail:∀{j ob g},look (⟨true,true,c.length,2,[(fE 1 (k+1) c).1]⟩::(fE 1 (k+1) c).2) (⟨some ⟨b,f,none⟩,cap,λx=>x=b⟩::Gs) j ob g->
   (j=0/\ob=⟨true,true,c.length,2,[(fE 1 (k+1) c).1]⟩/\g=⟨some ⟨b,f,none⟩,cap,λx=>x=b⟩)\/∃j',j=j'+1/\look (fE 1 (k+1) c).2 Gs j' ob g:=by
  rintro j ob g ⟨h1,h2⟩;cases j with
  |zero=>simp only [sC,eC] at h1 h2;exact .inl ⟨rfl,h1.symm,h2.symm⟩
  |succ j=>exact .inr ⟨j,rfl,by simpa using h1,by simpa using h2⟩
 have inner:∀{E':Env},Fc E' k (⟨true,true,c.length,2,[(fE 1 (k+1) c).1]⟩::(fE 1 (k+1) c).2) (⟨some ⟨b,f,none⟩,cap,λx=>x=b⟩::Gs)->
   ∀j ob g,look (fE 1 (k+1) c).2 Gs j ob g->E'.H (k+1+j) 1 (.slice g.a ob.eQ.length g.cap):=by
  intro E' hf j ob g hl;have:=(hf (j+1) ob g ⟨by simpa using hl.1,by simpa using hl.2⟩).1;obtain ⟨_,_,h3,_⟩:=a2 j ob g hl;rw [h3] at this
  rwa [show k+1+j=k+(j+1) by omega]
 refine ⟨⟨some ⟨b,f,none⟩,cap,λx=>x=b⟩::Gs,by simp [a1],?_,?_,⟨_,b,f,rfl,rfl,rfl,rfl⟩,?_⟩
 .intro j ob g hl;rcases tail hl with ⟨rfl,rfl,rfl⟩|⟨j',rfl,BZ⟩
  .refine ⟨rfl,(λh=>by cases h),λ_=>rfl,[b],by simp,by simp,by simp,λE' hk hf=> ?_⟩
   refine ⟨by simp [maxLen],.inr ⟨b,f,C,ty,fz,[],rfl,hbk,hz,k1,by simpa using k2,k3,rfl,?_⟩⟩;simp only [Rr];exact ⟨cs,[],[],hcl,hc,hone,a4 E' hk (inner hf),rfl,rfl⟩
  .obtain ⟨h1,h2,h3,f',h4,h5,h6,h7⟩:=a2 _ _ _ BZ;refine ⟨h1,λ_=>h3,(λh=>by rw [h2] at h;cases h),f',h5,h6,λx hx=>AI _ (h7 x hx),λE' hk _=> ?_⟩;rw [h2];exact h4.keeps hk.plain (λ_ _=>rfl)
 .intro i j oi oj gi gj x hi hj Fp OG;rcases tail hi with ⟨rfl,rfl,rfl⟩|⟨i',rfl,hi'⟩<;>rcases tail hj with ⟨rfl,rfl,rfl⟩|⟨j',rfl,D8⟩
  .rfl
  .obtain ⟨_,_,_,f',_,_,h6,h7⟩:=a2 _ _ _ D8;have hx:x=b:=Fp;subst hx;exact absurd (h7 _ ((h6 _).1 OG)) hn.1
  .obtain ⟨_,_,_,f',_,_,h6,h7⟩:=a2 _ _ _ hi';have hx:x=b:=OG;subst hx;exact absurd (h7 _ ((h6 _).1 Fp)) hn.1
  .have:=a3 _ _ _ _ _ _ x hi' D8 Fp OG;omega
 .intro E' hk hf;simp only [R];exact ⟨trivial,(hf 0 _ _ ⟨rfl,rfl⟩).2 rfl b f rfl⟩
def pinned (gat:Nat->Option CO):Nat->List GA->List Value->List Nat->Prop
 |_,[],[],[]=>True
 |k,.view _::gs,_::vs,_::jF=>pinned gat k gs vs jF
 |k,.oK x::gs,_::vs,_::jF=>pinned gat (k+(gH 1 k x).2.length) gs vs jF
 |k,.tY c _::gs,v::vs,cap::jF=>(∃g b f,gat k=some g/\g.a=some ⟨b,f,none⟩/\v= .pointer (some ⟨b,f,none⟩)/\g.cap=cap)/\pinned gat (k+(1+(fE 1 (k+1) c).2.length)) gs vs jF
 |_,_,_,_=>False
theorem XB {w:World} {O:Nat->Prop}:∀(gs:List GA) (vs:List Value) (uF:List (List Nat)) (jF:List Nat) (k:Nat),Ec w O gs vs uF jF->uF.flatten.Nodup->
  Ent w (sW w O) k (FU k gs) uF.flatten (λGs=>∀pre:List CO,pre.length=k->pinned (λi=>(pre++Gs)[i]?) k gs vs jF) (λE'=>Rc w E' (KI k gs) vs [])
 |[],[],[],[],k,_,_=>⟨[],rfl,λj ob g hl=>by simp [look,FU] at hl,λi j oi oj gi gj b hl=>by simp [look,FU] at hl,λ_ _=>by simp [pinned],λE' _ _=>by simp [KI,Rc]⟩
 | .view x::gs,v::vs,fp::uF,cap::jF,k,h,hn=>by
  simp only [Ec,RG] at h;obtain ⟨⟨rfl,hx⟩,h⟩:=h;simp only [pL,eM] at hn⊢;obtain ⟨Gs,a1,a2,a3,a4,a5⟩:=XB gs vs uF jF k h hn;refine ⟨Gs,a1,a2,a3,λpre hp=>by simp only [pinned];exact a4 pre hp,λE' hk hf=> ?_⟩
  .simp only [KI,Rc];exact ⟨[],[],pR hk _ _ _ (by simp) hx,a5 E' hk hf,rfl⟩
 | .oK x::gs,v::vs,fp::uF,cap::jF,k,h,hn=>by
  simp only [Ec,RG] at h;obtain ⟨hx,h⟩:=h;simp only [pL] at hn⊢;have hn':=gR.1 hn;refine (Ent.ZC (JW (q:=1) x v fp k hx hn'.1)).append (XB gs vs uF jF (k+(gH 1 k x).2.length) h hn'.2.1) hn (λG1 G2 hl _ h2 pre hp=> ?_) (λE' h1 h2=> ?_)
  .simp only [pinned];have:=h2 (pre++G1) (by simp [hp,hl]);simpa using this
  .simp only [KI,Rc];exact ⟨[],[],h1,h2,rfl⟩
 | .tY c c'::gs,v::vs,fp::uF,cap::jF,k,h,hn=>by
  simp only [Ec] at h;obtain ⟨hx,h⟩:=h;simp only [pL] at hn⊢;have hn':=gR.1 hn;have h2:=XB gs vs uF jF (k+(1+(fE 1 (k+1) c).2.length)) h hn'.2.1;simp only [FU];refine (aDm hx hn'.1).append (by
   rw [show k+(({live:=true,box:=true,n:=c.length,cZ:=2,eQ:=[(fE 1 (k+1) c).1]}:aN)::(fE 1 (k+1) c).2).length=k+(1+(fE 1 (k+1) c).2.length) by simp;omega];exact h2) hn (λG1 G2 hl h1 h2 pre hp=> ?_) (λE' h1 h2=> ?_)
  .simp only [pinned];refine ⟨?_,?_⟩
   .obtain ⟨g,b,f,e1,e2,e3,e4⟩:=h1;refine ⟨g,b,f,?_,e2,e3,e4⟩;subst hp;rw [hS (by omega),yW];cases G1 with
    |nil=>simp at e1
    |cons _ _=>simpa using e1
   .have:=h2 (pre++G1) (by simp only [eR,hp,hl,eN];omega);simpa using this
  .simp only [KI,Rc];exact ⟨[],[],h1,h2,rfl⟩
 |[],[],[],_::_,_,h,_=>by simp [Ec] at h
 |[],[],_::_,_,_,h,_=>by simp [Ec] at h
 |[],_::_,_,_,_,h,_=>by simp [Ec] at h
 | .view _::_,[],_,_,_,h,_=>by simp [Ec] at h
 | .view _::_,_::_,[],_,_,h,_=>by simp [Ec] at h
 | .view _::_,_::_,_::_,[],_,h,_=>by simp [Ec] at h
 | .oK _::_,[],_,_,_,h,_=>by simp [Ec] at h
 | .oK _::_,_::_,[],_,_,h,_=>by simp [Ec] at h
 | .oK _::_,_::_,_::_,[],_,h,_=>by simp [Ec] at h
 | .tY _ _::_,[],_,_,_,h,_=>by simp [Ec] at h
 | .tY _ _::_,_::_,[],_,_,h,_=>by simp [Ec] at h
 | .tY _ _::_,_::_,_::_,[],_,h,_=>by simp [Ec] at h
def dL (s:AS):Nat->Nat->List GA->Prop
 |_,_,[]=>True
 |pos,k,.view _::gs=>dL s (pos+1) k gs
 |pos,k,.oK x::gs=>dL s (pos+1) (k+(gH 1 k x).2.length) gs
 |pos,k,.tY c c'::gs=>(s.t.getD pos .undef= .ptr k 2 0 0/\∃cells,s.o[k]? =some ⟨true,true,c.length,2,[cells]⟩/\mV s.o cells=true/\uR s.o cells=c'/\CU c'=true)/\
   dL s (pos+1) (k+(1+(fE 1 (k+1) c).2.length)) gs
def dJ (s:AS):Nat->List GA->List Nat
 |_,[]=>[]
 |k,.view _::gs=>dJ s k gs
 |k,.oK x::gs=>dJ s (k+(gH 1 k x).2.length) gs
 |k,.tY c _::gs=>(k::kJ (rowOf s.o k))++dJ s (k+(1+(fE 1 (k+1) c).2.length)) gs
def gJ (P:Program) (fn:Func) (s:AS) (gs:List GA) (r:AV):Prop:=
 ∃ys,s.uS P fn.results.toList=some ys/\jR s.o (single ys)=true/\res s.o (single ys)=r/\clean r=true/\dL s 0 0 gs/\(dJ s 0 gs++lT (single ys)).Nodup
theorem GY {P:Program} [aC P] {B:gV P} {s:AS} {G:List CO} {a:Act} {w:World} (r:eF B s G a w) {gat:Nat->Option CO} (hp:∀i g,gat i=some g->B.p0 i=some (.pointer g.a,g.cap)):
  ∀(gs:List GA) (vs:List Value) (jF:List Nat) (pos k:Nat),pinned gat k gs vs jF->dL s pos k gs->(dJ s k gs).Nodup->
  ∃uF,TR w gs vs uF jF/\uF.flatten.Nodup/\∀b∈uF.flatten,Of s.o G (dJ s k gs) b
 |[],[],[],pos,k,_,_,_=>⟨[],by simp [TR],by simp,by simp⟩
 | .view x::gs,v::vs,cap::jF,pos,k,h1,h2,h3=>by simp only [pinned] at h1;simp only [dL] at h2;simp only [dJ] at h3⊢;obtain ⟨uF,q1,q2,q3⟩:=GY r hp gs vs jF (pos+1) k h1 h2 h3;exact ⟨[]::uF,by simp only [TR,RP];exact ⟨trivial,q1⟩,by simpa using q2,by simpa using q3⟩
 | .oK x::gs,v::vs,cap::jF,pos,k,h1,h2,h3=>by simp only [pinned] at h1;simp only [dL] at h2;simp only [dJ] at h3⊢;obtain ⟨uF,q1,q2,q3⟩:=GY r hp gs vs jF (pos+1) _ h1 h2 h3;exact ⟨[]::uF,by simp only [TR,RP];exact ⟨trivial,q1⟩,by simpa using q2,by simpa using q3⟩
 | .tY c c'::gs,v::vs,cap::jF,pos,k,h1,h2,h3=>by
  simp only [pinned] at h1;simp only [dL] at h2;simp only [dJ] at h3⊢;obtain ⟨⟨g0,b0,f0,e1,e2,e3,e4⟩,h1⟩:=h1;obtain ⟨⟨htp,cells,ho,nT,jU,hcl⟩,h2⟩:=h2;have hn:=gR.1 h3;obtain ⟨uF,q1,q2,q3⟩:=GY r hp gs vs jF (pos+1) _ h1 h2 hn.2.1;have hrow:rowOf s.o k=cells:=by simp [rowOf,ho]
  rw [hrow] at hn⊢;have wG:AV.isObj s.o k 2=some ⟨true,true,c.length,2,[cells]⟩:=by simp [AV.isObj,ho]
  obtain ⟨g,b,f,hl,hlive,hga,hv⟩:=r.ptr (x:= .tmp pos) htp wG;have aHm:=r.pin (x:= .tmp pos) htp wG hl rfl rfl rfl rfl _ (hp k g0 e1);rw [hv] at aHm;obtain ⟨hp1,Ya⟩:=aHm;have wS:g.cap=g0.cap:=Ya rfl rfl;simp only [CH] at hp1;rw [e2] at hp1;simp only [Nat.zero_mul,rN,eC,pC,rK] at hp1;obtain ⟨rfl,rfl⟩:=hp1;obtain ⟨fp0,⟨_,hown⟩,IY,PM⟩:=r.ok k _ g hl rfl;simp only [Env.of,gO] at hown;rcases hown with ⟨h5,_⟩|⟨b',f',C,ty,fz,rD,wN,hbk,hz,k1,k2,k3,rfl,hr⟩
  .cases h5
  rw [hga] at wN;simp only [eC,pC,rK] at wN;obtain ⟨rfl,rfl⟩:=wN;simp only [Rr] at hr;obtain ⟨cs,f1,f2,hcn,hc,hone,wH,rfl,e⟩:=hr;have e:rD=f1:=by simpa using e
  subst e;simp only [lR] at IY;have hn1:=hn.1;simp only [lR] at hn1;obtain ⟨BS,u1,u2,u3⟩:=Ka r hl rfl cells cs rD nT hn1.2 hn1.1 IY.2 (λx hx=>PM x (by simp [hx])) wH;have UZ:g.F b:=PM b (by simp);have hbn:b∉BS:=λhb=>by
   rcases u3 b hb with h|h
   .exact IY.1 h
   .obtain ⟨j,oj,gj,hj,hlj,hjl,WQ⟩:=h;have:=r.apart k j _ _ _ _ b hl hlj rfl hjl UZ WQ;exact hn1.1 (this▸hj)
  rw [jU] at u1;have u1':Rc w nH c' cs BS:=Di (E:=(env B s.o G w).plain) (λ_ _=>trivial) rfl rfl rfl _ _ _ hcl u1;have hin:∀x∈b::BS,Of s.o G (k::kJ cells) x:=by
   intro x hx;rcases lE.1 hx with rfl|hx
   .exact ⟨k,_,g,by simp,hl,rfl,UZ⟩
   .rcases u3 x hx with h|h
    .exact ⟨k,_,g,by simp,hl,rfl,PM x (by simp [h])⟩
    .exact Ca (λj hj=>by simp [hj]) h
  refine ⟨(b::BS)::uF,?_,?_,?_⟩
  .simp only [TR,RP];refine ⟨⟨b,f,e3,by simp [maxLen],.inr ⟨b,f,C,ty,fz,BS,rfl,hbk,hz,?_,?_,?_,rfl,?_⟩⟩,q1⟩
   .rw [<-e4,<-wS];exact k1
   .rw [<-e4,<-wS];simpa using k2
   .rw [<-e4,<-wS];exact k3
   .simp only [Rr];exact ⟨cs,BS,[],hcn,hc,hone,u1',rfl,by simp⟩
  .simp only [pL,gR];refine ⟨lR.2 ⟨hbn,u2⟩,q2,λx hx y hy e=> ?_⟩;subst e;exact Kb r (λi hi j hj=>hn.2.2 i hi j hj) (hin x hx) (q3 x hy)
  .intro x hx;simp only [pL,fL] at hx;rcases hx with hx|hx
   .exact Ca (λi hi=>mN _ hi) (hin x hx)
   .exact Ca (λi hi=>sE _ hi) (q3 x hx)
 |[],[],_::_,_,_,h,_,_=>by simp [pinned] at h
 |[],_::_,_,_,_,h,_,_=>by simp [pinned] at h
 | .view _::_,[],_,_,_,h,_,_=>by simp [pinned] at h
 | .view _::_,_::_,[],_,_,h,_,_=>by simp [pinned] at h
 | .oK _::_,[],_,_,_,h,_,_=>by simp [pinned] at h
 | .oK _::_,_::_,[],_,_,h,_,_=>by simp [pinned] at h
 | .tY _ _::_,[],_,_,_,h,_,_=>by simp [pinned] at h
 | .tY _ _::_,_::_,[],_,_,h,_,_=>by simp [pinned] at h
theorem RD {w:World} {O:Nat->Prop}:∀{gs:List GA} {vs:List Value} {uF:List (List Nat)} {jF:List Nat},Ec w O gs vs uF jF->vs.length=gs.length
 |[],[],_,_,_=>rfl
 |_::gs,_::vs,[],_,h=>by simp [Ec] at h
 |_::gs,_::vs,_::_,[],h=>by simp [Ec] at h
 |_::gs,_::vs,_::uF,_::jF,h=>by simp only [Ec] at h;simp [RD h.2]
 |[],_::_,_,_,h=>by simp [Ec] at h
 |_::_,[],_,_,h=>by simp [Ec] at h
theorem RF {P:Program} [aC P] (hm:P.follows .mixedOrders=true) {f:FuncId} {fn:Func} {c:Code} (hf:P.funcs[f]? =some fn) (hb:fn.body=some c) {gs:List GA} {rr:AV}
  (h:uV P c ⟨KI 0 gs++replicate (fn.ntmps - gs.length) .undef,FU 0 gs⟩ (λe s=>(e= .normal\/e= .ret)/\gJ P fn s gs rr)):Ma P f gs rr:=by
 intro w vs uF jF hg hab hnd hrg;obtain ⟨Gs,hlen,Fu,hap,aHm,sO⟩:=XB gs vs uF jF 0 hrg hnd;have hvl:=RD hrg;generalize hB:(⟨w,λb=>b < w.heap.size,(· ∈uF.flatten),λ_=>none,λi=>(Gs[i]?).map λg=>(.pointer g.a,g.cap),hg,λb hb=>(hab b hb).1,λb hb=>(hab b hb).2⟩:gV P)=B;have Q0:B.w0=w:=by rw [<-hB]
 have hA0:∀b,B.A0 b↔b < w.heap.size:=by intro b;rw [<-hB]
 have hO0:∀b,B.O0 b↔b∈uF.flatten:=by intro b;rw [<-hB]
 have hh0:∀i,B.h0 i=none:=by intro i;rw [<-hB]
 have hp0:∀i g,Gs[i]? =some g->B.p0 i=some (.pointer g.a,g.cap):=by intro i g hg;rw [<-hB];simp [hg]
 have kE:fK w (sW w (· ∈uF.flatten)) w (env B (FU 0 gs) Gs w):=by refine ⟨λb hb=>⟨⟨.inl ((hA0 b).2 hb.1),λi ob g hl _ hF=> ?_⟩,rfl⟩,λ_ _=>trivial,λ_ _ _ h=>h.elim,λ_ _ _ h=>h.elim,λ_ _ _ _ _ h=>h.elim⟩;obtain ⟨_,_,_,f',_,h2,h3,_⟩:=Fu _ _ _ hl;exact hb.2 (h3 _ ((h2 _).1 hF))
 have fc:Fc (env B (FU 0 gs) Gs w) 0 (FU 0 gs) Gs:=by intro j ob g hl;rw [lA];refine ⟨⟨ob,g,hl,eE _,λ_ _=>rfl,λ_ x hx=>by rw [hh0] at hx;cases hx⟩,λ_ b f hga=>⟨ob,g,hl,eE _,λ_ _=>⟨b,f,hga,by simp⟩,λ_ _ _ _ y hy=> ?_⟩⟩;rw [hp0 _ _ hl.2] at hy;obtain rfl:=cQ hy;exact ⟨by rw [hga],λ_ _=>rfl⟩
 have r0:eF B ⟨KI 0 gs++replicate (fn.ntmps - gs.length) .undef,FU 0 gs⟩ Gs {tmps:=vs.toArray++Array.replicate (fn.ntmps - vs.toArray.size) Go.undef,defers:=[]} w:=by
  refine {len:=hlen,defs:=rfl,ok:= ?_,apart:= ?_,fresh:= ?_,tmps:= ?_,size:=by rw [Q0];exact eE _,frame:=by rw [Q0];exact λ_ _ _=>rfl,base:= ?_,same:=by rw [Q0];exact oD.rfl}
  .intro i ob g hl _;obtain ⟨_,_,_,f',h1,h2,h3,h4⟩:=Fu _ _ _ hl;exact ⟨f',h4 _ kE fc,h1,λb hb=>(h2 b).2 hb⟩
  .intro i j oi oj gi gj b hi hj _ _ Fp OG;exact hap _ _ _ _ _ _ b hi hj Fp OG
  .intro i ob g b hl _ hF;obtain ⟨_,_,_,f',_,h2,h3,_⟩:=Fu _ _ _ hl;have:=h3 _ ((h2 _).1 hF);exact ⟨.inl ((hO0 b).2 this),(hab b this).2⟩
  .have h2:∀n,Rc w (env B (FU 0 gs) Gs w) (replicate n .undef) (replicate n Go.undef) []:=by
    intro n;induction n with
    |zero=>simp [Rc]
    |succ n ih=>simp only [qS,Rc];exact ⟨[],[],by simp [R],ih,rfl⟩
   have:=mU (sO _ kE fc) (h2 (fn.ntmps - gs.length));simpa [hvl] using this
  .intro b hb;rw [Q0];exact (hA0 b).1 hb
 refine calls_of_wp hf hb (wp_mono (uG hm c _ _ h _ _ ⟨_,r0⟩) λe a w' he=> ?_);obtain ⟨s,⟨he,ys,G8,nT,jU,hcl,hlo,hun⟩,G,r⟩:=he;obtain ⟨u,hrun,hR⟩:=Cc r G8;have hun':=gR.1 hun;obtain ⟨fp,k1,k2,k3⟩:=Nz r _ u nT hun'.2.1 hR;rw [jU] at k1;have aOs:pinned (λi=>Gs[i]?) 0 gs vs jF:=by simpa using aHm [] rfl
 obtain ⟨BX,q1,q2,q3⟩:=GY r hp0 gs vs jF 0 0 aOs hlo hun'.1;have hin:∀b∈BX.flatten++fp,(b∈uF.flatten\/w.heap.size<=b)/\b < w'.heap.size:=by
  intro b hb;have:∃i ob g,look s.o G i ob g/\ob.live=true/\g.F b:=by
   rcases fL.1 hb with hb|hb
   .obtain ⟨i,ob,g,_,h⟩:=q3 b hb;exact ⟨i,ob,g,h⟩
   .obtain ⟨i,ob,g,_,h⟩:=k3 b hb;exact ⟨i,ob,g,h⟩
  obtain ⟨i,ob,g,hl,hlive,hF⟩:=this;have:=r.fresh _ _ _ b hl hlive hF;rw [Q0,hO0] at this;exact this
 have hfin:∃v fp BX,Ending.returned u= .returned v/\R w' nH rr v fp/\TR w' gs vs BX jF/\(BX.flatten++fp).Nodup/\
   (∀b∈BX.flatten++fp,(b∈uF.flatten\/w.heap.size<=b)/\b < w'.heap.size)/\w.heap.size<=w'.heap.size/\(∀b,b < w.heap.size->b∉uF.flatten->w'.heap[b]? =w.heap[b]?)/\oD w w':=by
  refine ⟨u,fp,BX,rfl,PI (E:=(env B s.o G w').plain) (λ_ _=>trivial) rfl rfl rfl _ _ _ hcl k1,q1,gR.2 ⟨q2,k2,λx hx y hy e=> ?_⟩,hin,by have:=r.size;rwa [Q0] at this,λb hb hn=>by have:=r.frame b (by rw [Q0];exact hb) (λh=>hn ((hO0 b).1 h));rwa [Q0] at this,by have:=r.same;rwa [Q0] at this⟩;subst e;exact Kb r (λi hi j hj=>hun'.2.2 i hi j hj) (q3 x hx) (k3 x hy)
 rcases he with rfl|rfl
 .exact ⟨r.defs,u,hrun,hfin⟩
 .exact ⟨r.defs,u,hrun,hfin⟩
theorem rO {P:Program} [aC P] (hm:P.follows .mixedOrders=true) {f:FuncId} {fn:Func} {c:Code} (hf:P.funcs[f]? =some fn) {n:Nat} (hn:fn.ntmps=n) {gs:List GA} {t:List AV} {o:List aN} {rr:AV}
  (h:uV P c ⟨t,o⟩ (λe s=>(e= .normal\/e= .ret)/\gJ P fn s gs rr)) (hb:fn.body=some c:=by rfl)
  (ho:FU 0 gs=o:=by
   simp only [FU,uH,oG,Mo,Cf,Kl,Ao,OI,Ce,rN,lA,Nat.reduceAdd,eA,eM,fY,eN,eW];rfl)
  (ht:KI 0 gs++replicate (n - gs.length) .undef=t:=by
   simp only [KI,uH,oG,Mo,Cf,Kl,Ao,OI,Ce,rN,lA,eN,eW,Nat.reduceSub,Nat.reduceAdd,qS,Cd,eA,eM,fY];rfl):Ma P f gs rr:=by
 subst ht;subst hn;subst ho;exact RF hm hf hb h
theorem aPi {P:Program} [aC P] (hm:P.follows .mixedOrders=true) {f:FuncId} {fn:Func} {c c':Code} (L:List Nat) (hf:P.funcs[f]? =some fn) {n:Nat} (hn:fn.ntmps=n) {gs:List GA} {t:List AV} {o:List aN} {rr:AV}
  (h:uV P c' ⟨t,o⟩ (λe s=>(e= .normal\/e= .ret)/\gJ P fn s gs rr)) (hb:fn.body=some c:=by rfl)
  (hc:zX (λi=>L.contains i) c=c':=by simp [zX];rfl)
  (ho:FU 0 gs=o:=by
   simp only [FU,uH,oG,Mo,Cf,Kl,Ao,OI,Ce,rN,lA,Nat.reduceAdd,eA,eM,fY,eN,eW];rfl)
  (ht:KI 0 gs++replicate (n - gs.length) .undef=t:=by
   simp only [KI,uH,oG,Mo,Cf,Kl,Ao,OI,Ce,rN,lA,eN,eW,Nat.reduceSub,Nat.reduceAdd,qS,Cd,eA,eM,fY];rfl):Ma P f gs rr:=by
 subst ht;subst hn;subst ho;subst hc;rw [zY] at h;exact RF hm hf hb h
def sK (l:List (List AV)):Bool:=l.all λr=>r.all AV.iG
theorem uq {w:World} {E:Env}:∀(x:AV) (v:Value) (fp:List Nat),x.iG=true->R w E x v fp->fp=[]:=by intro x v fp hx h;cases x<;>simp only [AV.iG] at hx<;>first|(cases hx;done)|(simp only [R] at h;exact h.2)|(simp only [R] at h;exact h.1)|simp_all [R]
theorem Om {w:World} {E:Env}:∀(c:List AV) (cs:List Value) (fp:List Nat),c.all AV.iG=true->Rc w E c cs fp->fp=[]
 |[],[],fp,_,h=>by simpa [Rc] using h
 |[],_::_,_,_,h=>by simp [Rc] at h
 |_::_,[],_,_,h=>by simp [Rc] at h
 |x::xs,c::cs,fp,hp,h=>by simp only [CN,eJ] at hp;simp only [Rc] at h;obtain ⟨f1,f2,h1,h2,h3⟩:=h;have a:=uq _ _ _ hp.1 h1;have b:=Om _ _ _ hp.2 h2;subst a;subst b;simpa using h3
theorem Oo {w:World} {E:Env}:∀(l:List (List AV)) (news:List Value) (n:Nat) (fp:List Nat),sK l=true->Rv w E l news n fp->fp=[]
 |[],_,_,_,_,h=>by simp only [Rv] at h;simp_all
 |r::l,news,n,fp,hp,h=>by simp only [sK,CN,eJ] at hp;simp only [Rv] at h;obtain ⟨cs,rest,f1,f2,h1,h2,h3,h4,h5,h6⟩:=h;have a:=Om _ _ _ (by simpa using hp.1) h4;have b:=Oo l _ _ _ (by simpa [sK] using hp.2) h5;subst a;subst b;simpa using h6
theorem Nh (tS xT:TypeId) (x y:Operand) {e:TypeId} {n by' i j cZ:Nat} {ob oj:aN} {s1:AS} (he:gX P tS=some (e,n,by')) (hz:bQ P e n=true) (hxt:dP P xT=true)
  (ht:s.target n (s.ev x)=some (i,ob,s1)) (hy:s1.ev y= .obj j cZ) (ho:AV.isObj s1.o j cZ=some oj) (hj:oj.box=false/\oj.n=n/\j≠i) (hpl:sK oj.eQ=true)
  (hbytes:(ob.eQ.length+oj.eQ.length) * by'<=140737488355328) (h63:ob.eQ.length+oj.eQ.length<=9223372036854775807):
  Step P B ⟨dst,.call {callee:= .builtin .append,args:=#[x,y],argTypes:=#[tS,xT]},ty,pos,after,gd⟩ s (s.xR s1.o dst i ob oj.eQ):=
 rQ λG0 a w r0=>by
  obtain ⟨hu,inf,hi,hsz,hby⟩:=qU he;obtain ⟨z,xe,hz2⟩:=zO hz hi;obtain ⟨G,g,r,hl,hlive,vP,hn,hv,hst⟩:=r0.target ht;have hev:=Yp hst y;obtain ⟨gj,hlj,aA2,hvj⟩:=r.ja hy ho;rw [hev] at hy;have aPn:a.eval y= .slice gj.a oj.eQ.length gj.cap:=hvj;obtain ⟨fj,Yq,aNm,WQ⟩:=r.ok j oj gj hlj aA2;rw [hj.1] at Yq;obtain ⟨fp,hown,hnd,hF⟩:=r.ok i ob g hl hlive;rw [vP] at hown;obtain ⟨news,Ny,Fs⟩:∃news,Rv w (env B s1.o G w).plain oj.eQ news ob.n []/\∀w',w'.heap=w.heap->(Builtin.firstCells ob.n oj.eQ.length (.slice gj.a oj.eQ.length gj.cap)).run P w'= .ok news.toArray w':=by
   have Qo:oj.n=ob.n:=by rw [hj.2.1,hn]
   rcases Yq.2 with ⟨h1,h2,h3⟩|⟨b,off,C,ety,fz,rD,ha,hb,hz',k1,k2,k3,rfl,hr⟩
   .refine ⟨[],by rw [h1];simp [Rv],λw' _=> ?_⟩
    rw [h1];cases hga:gj.a with
    |none=>simp [Builtin.firstCells]
    |some a'=>simp [Builtin.firstCells,loadCells,loadCellsFrom]
   .obtain ⟨vs,hv',hc'⟩:=sV.1 hr;have h0:=Oo _ _ _ _ hpl hv';subst h0;refine ⟨vs,by rw [<-Qo];exact hv',λw' wz=> ?_⟩;rw [ha,<-Qo];exact kP (jX hv') (hc'.heap wz)
  obtain ⟨v,w',G',hrun,hr',hR⟩:=r.append (P:=P) (ty:=ty) hl hlive vP hu (EK hxt) hi xe (by rw [hsz,hn]) (by rw [hz2,hn]) (x:=a.eval y) (by rw [aPn];simp [Builtin.lenOf]) (by rw [aPn];exact Fs) Ny hown (by simpa using hnd) (by simpa using hF) (by rw [hby];exact hbytes) h63;refine ⟨v,w',by simp [execOp,resolve,invoke,builtin,hv,hrun],G',?_⟩;have:=hr'.put dst hR;rw [hst] at this;exact this
def AV.uU:AV->Bool
 | .agg c=>c.all AV.iG
 |x=>x.iG
theorem aEn {x:AV} (h:x.uU=true):x≠ .undef:=by cases x<;>simp_all [AV.uU,AV.iG]
theorem ax {o:List aN}:∀{c:List AV},(∀x∈c,x.uU=true)->uR o c=c/\mV o c=true/\kJ c=[]
 |[],_=>⟨rfl,rfl,rfl⟩
 |x::xs,h=>by
  obtain ⟨h1,h2,h3⟩:=ax (o:=o) (c:=xs) λy hy=>h y (by simp [hy])
  have hx:=h x (by simp);cases x with
  |agg c=>
   simp only [AV.uU] at hx;obtain ⟨k1,k2,k3⟩:=MK (o:=o) (c:=c) λy hy=>fW.1 hx y hy
   simp [uR,mV,kJ,res,jR,lT,h1,h2,h3,k1,k2,k3]
  |_=>simp only [AV.uU,AV.iG] at hx<;>first|(cases hx;done)|(simp [uR,mV,kJ,res,jR,lT,h1,h2,h3])
theorem ay (t:TypeId) (len:Nat) (parts:Array (Nat×Operand)) {e:TypeId} {n by' i:Nat} (he:gX P t=some (e,n,by')) (hz:bQ P e n=true) (Mj:wO parts.toList=true) (hlen:len=parts.toList.length) (hbig:len * n<=16777216) (hbig2:len<=16777216)
  (hpl:∀x∈(parts.toList.map (·.2)).map s.ev,x.uU=true) (hgood:∀x∈(parts.toList.map (·.2)).map s.ev,x.xO=true/\x.cells.length=n) (hi':s.o[i]? =some ⟨true,false,n,0,[]⟩):
  Step P B ⟨dst,.buildSlice t len parts,ty,pos,after,gd⟩ s (AS.put ⟨s.t,s.o.set i ⟨true,false,n,1,((parts.toList.map (·.2)).map s.ev).map AV.cells⟩⟩ dst (.obj i 1)):=
 rQ λG a w r=>by
  generalize hxs:parts.toList.map (·.2)=xs at *;have Ad:parts.toList=(xs.zipIdx).map λp=>(p.2,p.1):=by rw [<-hxs];exact DZ _ 0 Mj
  obtain ⟨hp1,Ya,hp3⟩:=ax (o:=s.o) hpl;obtain ⟨fp,wH,hnd,ND⟩:=IU r _ _ Ya (by rw [hp3];simp) (xE r xs);have JR:fp=[]:=by
   cases fp with
   |nil=>rfl
   |cons b _=>obtain ⟨i,ob,g,hi,_⟩:=ND b (by simp);rw [hp3] at hi;cases hi
  subst JR;rw [hp1] at wH;obtain ⟨Ny,hsz⟩:=PK wH hgood;have hvl:(xs.map a.eval).length=len:=by rw [hlen,<-hxs];simp
  have hrun:(execOp a.eval ⟨dst,.buildSlice t len parts,ty,pos,after,gd⟩).run P w= .ok (.value (.slice (some ⟨w.heap.size,0,none⟩) len len)) (w.alloc (.cells ((xs.map a.eval).flatMap λv=>v.cells.toList).toArray e)):=by
   have e1:parts.map (λ(i,x)=>(i,a.eval x))=(((xs.map a.eval).zipIdx).map λp=>(p.2,p.1)).toArray:=by apply DE;simp only [CC,Ad,map_map,zipIdx_map];rfl
   have:=uT (P:=P) (t:=t) (len:=len) (w:=w) he hz hvl.symm hbig hsz;simp only [execOp,e1,mT,this,lO,sA]
  have hlt:i < G.length:=by rw [r.len];exact (cH.1 hi').1
  have hlk:Aw.look s.o G i ⟨true,false,n,0,[]⟩ G[i]:=⟨hi',aE hlt⟩;generalize G[i]=g at hlk;generalize hCd:((xs.map a.eval).flatMap λv=>v.cells.toList)=cs at *;have hcl:=jX Ny;have hself:(w.alloc (.cells cs.toArray e)).heap[w.heap.size]? =some (.cells cs.toArray e):=fT w _;have hrl:((xs.map s.ev).map AV.cells).length=len:=by have:=gN wH;rw [oX,<-this,hvl]
  have Vb:len<=maxLen:=by simp only [maxLen];omega
  have hm:=r.modify hlk rfl ⟨true,false,n,1,(xs.map s.ev).map AV.cells⟩ ⟨some ⟨w.heap.size,0,none⟩,len,λb=>g.F b\/b=w.heap.size⟩ (w.alloc (.cells cs.toArray e)) (by simp) rfl (by simp)
   (λb hb=>by
    rcases hb with hb|hb
    .exact .inl hb
    .right;subst hb;simp) (λb hb hne=>⟨.inl hb,λa' wN=>by
     obtain rfl:=cQ wN;have:=(r.fresh _ _ _ b hlk rfl hb).2;simp only;omega⟩) (λb hlt _=>heap_alloc w _ b hlt) (by simp) (λk _=>by
   refine ⟨[w.heap.size],?_,by simp,by simp⟩;generalize env B _ _ (w.alloc (.cells cs.toArray e))=E' at k⊢;simp only [Env.of,eS,hH];refine ⟨by rw [hrl];exact Vb,.inr ⟨w.heap.size,0,cs.toArray,e,(0,0),[],rfl,hself,.inr rfl,?_,by rw [hrl];exact eE _,Vb,rfl,?_⟩⟩
   .simp [hcl];rw [<-hrl];simp
   .refine sV.2 ⟨cs,wI k.plain (λb hb=>by cases hb) Ny,?_⟩
    refine qR hself (λj v hv=>by simpa using hv))
  have hl2:Aw.look (s.o.set i ⟨true,false,n,1,(xs.map s.ev).map AV.cells⟩) (G.set i ⟨some ⟨w.heap.size,0,none⟩,len,λb=>g.F b\/b=w.heap.size⟩) i ⟨true,false,n,1,(xs.map s.ev).map AV.cells⟩ ⟨some ⟨w.heap.size,0,none⟩,len,λb=>g.F b\/b=w.heap.size⟩:=uE hlk;refine ⟨_,_,hrun,_,hm.1.put dst ?_⟩;simp only [R];exact ⟨trivial,_,_,hl2,eE _,λ_ _=>by rw [hrl],λh=>absurd h (by decide)⟩
theorem aH6 {P:Program} [aC P] {dst:Option Tmp} {ty:TypeId} {pos:String} {after:Array Edge} {gd:Option (Nat×Bool)} {m:List AV} {view:List aN} {pl:Nat} {T:TypeId} {len:Nat} {parts:Array (Nat×Operand)} {e:TypeId} {n by':Nat} {xs:List AV}
  (he:gX P T=some (e,n,by')) (hz:bQ P e n=true) (Mj:wO parts.toList=true) (hlen:len=parts.toList.length) (hbig:len * n<=16777216) (hbig2:len<=16777216)
  (hxs:(parts.toList.map (·.2)).map (AS.ev ⟨m,view⟩)=xs) (hpl:∀x∈xs,x.uU=true) (hgood:∀x∈xs,x.xO=true/\x.cells.length=n) (hv:view[pl]? =some (hole n)):
  Ep P ⟨dst,.buildSlice T len parts,ty,pos,after,gd⟩ m view pl (.obj pl 1) ⟨true,false,n,1,xs.map AV.cells⟩:=by
 intro B t2 o2 hw hs _;have e2:(parts.toList.map (·.2)).map (AS.ev ⟨t2,o2⟩)=xs:=by
  have key:∀(l:List Operand) (xs:List AV),l.map (AS.ev ⟨m,view⟩)=xs->(∀x∈xs,x.uU=true)->l.map (AS.ev ⟨t2,o2⟩)=xs:=by
   intro l;induction l with
   |nil=>intro xs h _;exact h
   |cons a l ih=>
    intro xs h hp;cases xs with
    |nil=>cases h
    |cons x xs=>simp only [mA,List.cons.injEq] at h⊢;exact ⟨Cg hw h.1 (aEn (hp x (by simp))),ih xs h.2 λy hy=>hp y (by simp [hy])⟩
  exact key _ _ hxs hpl
 have ho:o2[pl]? =some ⟨true,false,n,0,[]⟩:=hs pl _ hv rfl;have:=ay (P:=P) (B:=B) (s:=⟨t2,o2⟩) (dst:=dst) (ty:=ty) (pos:=pos) (after:=after) (gd:=gd) T len parts (i:=pl) he hz Mj hlen hbig hbig2 (by rw [e2];exact hpl) (by rw [e2];exact hgood) ho;rw [e2,put_eq] at this;exact this
theorem az {P:Program} [aC P] {dst:Option Tmp} {ty:TypeId} {pos:String} {after:Array Edge} {gd:Option (Nat×Bool)} {m:List AV} {view:List aN} {pl:Nat} {T:TypeId} {len:Nat} {parts:Array (Nat×Operand)} {e:TypeId} {n by':Nat} {xs:List AV} {eQ:List (List AV)}
  (he:gX P T=some (e,n,by')) (hz:bQ P e n=true) (Mj:wO parts.toList=true) (hlen:len=parts.toList.length) (hbig:len * n<=16777216) (hbig2:len<=16777216)
  (hxs:(parts.toList.map (·.2)).map (AS.ev ⟨m,view⟩)=xs) (hpl:∀x∈xs,x.uU=true) (hgood:∀x∈xs,x.xO=true/\x.cells.length=n) (hv:view[pl]? =some (hole n)) (hels:xs.map AV.cells=eQ):
  Ep P ⟨dst,.buildSlice T len parts,ty,pos,after,gd⟩ m view pl (.obj pl 1) ⟨true,false,n,1,eQ⟩:=by
 subst hels;exact aH6 he hz Mj hlen hbig hbig2 hxs hpl hgood hv
theorem EG {P:Program} [aC P] {dst:Option Tmp} {ty:TypeId} {pos:String} {after:Array Edge} {gd:Option (Nat×Bool)} {m:List AV} {view:List aN} {pl v v' q u:Nat} {x y:Operand} {tS xT:TypeId} {e:TypeId} {n by':Nat} {eQ els':List (List AV)} {l2:List (List AV)}
  (hx:AS.ev ⟨m,view⟩ x= .obj pl v) (hvv:v+1=v') (hv:view[pl]? =some ⟨true,false,n,v,eQ⟩) (hy:AS.ev ⟨m,view⟩ y= .obj q u) (hq:view[q]? =some ⟨true,false,n,u,l2⟩) (hqp:q≠pl) (hpl:sK l2=true) (hels:eQ++l2=els')
  (he:gX P tS=some (e,n,by')) (hz:bQ P e n=true) (hxt:dP P xT=true) (hbytes:(eQ.length+l2.length) * by'<=140737488355328) (h63:eQ.length+l2.length<=9223372036854775807):
  Ep P ⟨dst,.call {callee:= .builtin .append,args:=#[x,y],argTypes:=#[tS,xT]},ty,pos,after,gd⟩ m view pl (.obj pl v') ⟨true,false,n,v',els'⟩:=by
 subst hels;subst hvv;intro B t2 o2 hw hs _;have ho:o2[pl]? =some ⟨true,false,n,v,eQ⟩:=hs pl _ hv rfl;have ho2:o2[q]? =some ⟨true,false,n,u,l2⟩:=hs q _ hq rfl;have hx2:AS.ev ⟨t2,o2⟩ x= .obj pl v:=Cg hw hx (by simp);have hy2:AS.ev ⟨t2,o2⟩ y= .obj q u:=Cg hw hy (by simp);have Fg:AV.isObj o2 pl v=some ⟨true,false,n,v,eQ⟩:=by simp [AV.isObj,ho]
 have aSl:AV.isObj o2 q u=some ⟨true,false,n,u,l2⟩:=by simp [AV.isObj,ho2]
 have:=Nh (P:=P) (B:=B) (s:=⟨t2,o2⟩) (dst:=dst) (ty:=ty) (pos:=pos) (after:=after) (gd:=gd) tS xT x y (i:=pl) (ob:=⟨true,false,n,v,eQ⟩) (s1:=⟨t2,o2⟩) (oj:=⟨true,false,n,u,l2⟩) he hz hxt
  (by rw [hx2];simp only [AS.target,Fg,Fm,gO]) hy2 aSl ⟨rfl,rfl,hqp⟩ hpl hbytes h63
 simp only [AS.xR,put_eq] at this;exact this
theorem zM {α:Type} {f:α->List AV} (h:∀x,(f x).all AV.iG=true) (l:List α):sK (l.map f)=true:=by simp [sK,fW];intro a _ x hx;exact fW.1 (h a) x hx
theorem tq {t t':List AV} {o o':List aN} (i k:Nat) {ob:aN} {e e':List AV} (ho:o[i]? =some ob) (hl:ob.live=true) (hb:ob.box=false) (hall:(o.all λx=> !x.box || x.eQ.all λc=>wY i c)=true) (he:ob.eQ[k]? =some e)
  (hc:xM IV true e=e') (ho':o.set i {ob with eQ:=ob.eQ.set k e'}=o') (hw:wk (xM (jV [i]) true t) t'):mX ⟨t,o⟩ ⟨t',o'⟩:=by
 subst ho';subst hc;rintro P _ B a w ⟨G,r⟩;have nb:∀{j x g},look o G j x g->x.box=true->(x.eQ.all λc=>wY i c)=true:=λh hb=>by have:=fW.1 hall _ (mS h.1);simpa only [hb,Dd,Bool.false_or] using this
 obtain ⟨g,hlk⟩:=r.look ho;obtain ⟨fp,hown,hnd,hF⟩:=r.ok i ob g hlk hl;simp only [hb,Env.of,eS,hH] at hown;obtain ⟨hlen,⟨h,_⟩|⟨b,off,C,ty,fz,rD,ha,hbk,hz,h1,h2,h3,rfl,hr⟩⟩:=hown
 .rw [h] at he;simp at he
 have hk:k < ob.eQ.length:=(cH.1 he).1;obtain ⟨f1,f2,f3,cs,rfl,hn,hcs,hone,hre,hr1,hr3⟩:=CS hr he;have hsub2:∀x∈f2,g.F x:=λx hx=>hF x (by simp [hx])
 generalize Ay:({ob with eQ:=ob.eQ.set k (xM IV true e)}:aN)=fZ;generalize hg':({g with F:=λx=>g.F x/\x∉f2}:CO)=g';generalize hO:o.set i fZ=o';generalize hGG:G.set i g'=G';have back:∀{j x y},look o' G' j x y->(j=i/\x=fZ/\y=g')\/(j≠i/\look o G j x y):=by intro j x y h;rw [<-hO,<-hGG] at h;exact Bf h
 have fi:look o' G' i fZ g':=by rw [<-hO,<-hGG];exact uE hlk
 have fo:∀{j x y},j≠i->look o G j x y->look o' G' j x y:=λhj h=>by rw [<-hO,<-hGG];exact Fq h hj
 have aR4:fZ.live=true:=by rw [<-Ay];exact hl
 have aPb:fZ.box=false:=by rw [<-Ay];exact hb
 have aLi:fZ.n=ob.n:=by rw [<-Ay]
 have aR5:fZ.cZ=ob.cZ:=by rw [<-Ay]
 have aLj:fZ.eQ.length=ob.eQ.length:=by rw [<-Ay];simp
 have hga:g'.a=g.a:=by rw [<-hg']
 have hgc:g'.cap=g.cap:=by rw [<-hg']
 have zm:∀x,g'.F x↔g.F x/\x∉f2:=λx=>by rw [<-hg']
 let Er:Env:=(env B o G w).no i
 have rt1:nJ (jV [i]) true (env B o G w) Er (λ_=>True):=by
  refine ⟨λt e=>by simp [jV] at e,λt e=>by simp only [jV,eC] at e;exact ⟨e.symm,λb hb=>hb⟩,λj t e=> ?_,λ_ _ _ _ h=>h,λ_ _ _ _ _ _ h=>h⟩;simp only [jV] at e;split at e
  .cases e
  .rename_i hiu;obtain rfl:=cQ e;refine ⟨by simp,?_,λb hb=>⟨hiu,hb⟩⟩;by_cases hV:(env B o G w).V j
   .exact .inl hV
   .exact .inr hV
 have kA:∀x,(env B o G w).A x->(env B o' G' w).A x:=λx hx=>⟨hx.1,λj y z hlj hjl hf=>by
  rcases back hlj with ⟨rfl,rfl,rfl⟩|⟨_,h⟩
  .exact hx.2 _ _ _ hlk hl ((zm x).1 hf).1
  .exact hx.2 _ _ _ h hjl hf⟩
 have kS:∀x∈f2,(env B o' G' w).A x:=λx hx=>⟨(r.fresh _ _ _ x hlk hl (hsub2 x hx)).elim λh1 h2=>h1.elim (λh=> .inl (B.gA x h)) λh=> .inr ⟨h,h2⟩,λj y z hlj hjl hf=>by
  rcases back hlj with ⟨rfl,rfl,rfl⟩|⟨hj,h⟩
  .exact ((zm x).1 hf).2 hx
  .exact hj (r.apart _ _ _ _ _ _ x h hlk hjl hl hf (hsub2 x hx))⟩
 have k2':fK w Er w (env B o' G' w):=by
  refine ⟨λx hx=>⟨kA x hx,rfl⟩,λj h x hx=> ?_,λj x hV h=> ?_,λj cZ x h=> ?_,λj cZ p q x h=> ?_⟩
  .obtain ⟨y,hy⟩:=r.look hx;by_cases hj:j=i
   .subst hj;rw [ho] at hx;obtain rfl:=cQ hx;exact hl
   .exact h x (fo hj hy).1
  .obtain ⟨hji,x',y,hlj,hjl,hf,hne⟩:=h;exact ⟨⟨x',y,fo (by simpa using hji) hlj,hjl,hf,hne⟩,rfl⟩
  .obtain ⟨x',y,hlj,DU,hh,hz⟩:=h;by_cases hj:j=i
   .subst hj;obtain ⟨rfl,rfl⟩:=nK hlk hlj;exact ⟨fZ,g',fi,by omega,λ_ WC=>by rw [hga,hgc,aLj];exact hh hl (by omega),hz⟩
   .exact ⟨x',y,fo hj hlj,DU,hh,hz⟩
  .obtain ⟨x',y,hlj,DU,hh,hz⟩:=h;by_cases hj:j=i
   .subst hj;obtain ⟨rfl,rfl⟩:=nK hlk hlj;exact ⟨fZ,g',fi,by omega,λ_ WC=>by rw [hga,aLi];exact hh hl (by omega),λh=>by rw [aPb] at h;cases h⟩
   .exact ⟨x',y,fo hj hlj,DU,hh,hz⟩
 have kp:fK w (env B o G w).plain w (env B o' G' w).plain:=⟨λx hx=>⟨kA x hx,rfl⟩,λ_ _=>trivial,λ_ _ _ h=>h.elim,λ_ _ _ h=>h.elim,λ_ _ _ _ _ h=>h.elim⟩;have rv:nJ IV true (env B o G w).plain (env B o' G' w).plain (λx=>x∈f2):=by
  refine ⟨λt e=> ?_,λt e=> ?_,λj t e=>by simp [IV] at e,λ_ _ _ _ h=>h.elim,λ_ _ _ _ _ _ h=>h.elim⟩
  .simp only [IV,eC] at e;subst e;exact ⟨by simp,λb hb=>kS b hb⟩
  .simp only [IV,eC] at e;exact ⟨e.symm,λb hb=>kA b hb⟩
 have hnd':=hnd;simp only [lR] at hnd';refine ⟨G',{len:=by rw [<-hO,<-hGG];simp [r.len],defs:=r.defs,ok:= ?_,apart:= ?_,fresh:= ?_,tmps:=Kk hw (fB k2' _ _ _ (by simp) (yN rt1 _ _ _ (by simp) r.tmps)),size:=r.size,frame:=r.frame,base:=r.base,same:=r.same}⟩
 .intro j x y hlj hjl;rcases back hlj with ⟨rfl,rfl,rfl⟩|⟨hj,h⟩
  .refine ⟨b::(f1++[]++f3),?_,?_,?_⟩
   .rw [aPb,<-Ay,<-hg'];simp only [Env.of,eS,hH];refine ⟨by simpa using hlen,.inr ⟨b,off,C,ty,fz,_,ha,hbk,hz,h1,by simpa using h2,h3,rfl,?_⟩⟩;exact wy hk hn hcs hone (yN rv _ _ _ (λx hx=>hx) hre) (oI kp _ _ _ _ _ rfl (λ_ _=>rfl) hr1) (oI kp _ _ _ _ _ rfl (λ_ _=>rfl) hr3)
   .have hs:(f1++[]++f3).Sublist (f1++f2++f3):=((rS f1).append (nil_sublist f2)).append (rS f3);exact lR.2 ⟨λh=>hnd'.1 (hs.subset h),hs.nodup hnd'.2⟩
   .intro x hx;rw [zm];have hin:x∈b::(f1++f2++f3):=by simp only [lE,fL,not_mem_nil,or_false] at hx⊢;grind
    refine ⟨hF x hin,λhx2=> ?_⟩;have hd:=hnd'.2;simp only [gR,fL] at hd;simp only [lE,fL,not_mem_nil,or_false] at hx;rcases hx with rfl|hx|hx
    .exact hnd'.1 (by simp [hx2])
    .exact hd.1.2.2 x hx x hx2 rfl
    .exact hd.2.2 x (.inr hx2) x hx rfl
  .obtain ⟨fq,q1,q2,q3⟩:=r.ok j x y h hjl;refine ⟨fq,?_,q2,q3⟩;cases hbj:x.box with
   |false=>simp only [hbj,Env.of,eS,hH] at q1⊢;exact q1.keeps kp (λ_ _=>rfl)
   |true=>simp only [hbj,Env.of,gO] at q1⊢;exact (q1.ES (nb h hbj)).keeps k2' (λ_ _=>rfl)
 .intro j1 j2 x1 x2 y1 y2 z hl1 hl2 v1 v2 hf1 hf2;rcases back hl1 with ⟨rfl,rfl,rfl⟩|⟨hj1,h1⟩<;>rcases back hl2 with ⟨rfl,rfl,rfl⟩|⟨hj2,h2⟩
  .rfl
  .exact absurd (r.apart _ _ _ _ _ _ z hlk h2 hl v2 ((zm z).1 hf1).1 hf2).symm hj2
  .exact absurd (r.apart _ _ _ _ _ _ z h1 hlk v1 hl hf1 ((zm z).1 hf2).1) hj1
  .exact r.apart _ _ _ _ _ _ z h1 h2 v1 v2 hf1 hf2
 .intro j x y z hlj hjl hf;rcases back hlj with ⟨rfl,rfl,rfl⟩|⟨_,h⟩
  .exact r.fresh _ _ _ z hlk hl ((zm z).1 hf).1
  .exact r.fresh _ _ _ z h hjl hf
theorem go_openB {P:Program} [aC P] (i k c:Nat) {id:Nat} {L:List Oper} {Q:Exit->AS->Prop} {t t':List AV} {o o':List aN} {ob:aN} {e:List AV} {m:Nat} {rows:List (List AV)} (ho:o[i]? =some ob) (he:ob.eQ[k]? =some e) (hc:e[c]? =some (.sl .own m rows))
  (h:uV P (.region id L.toArray false) ⟨t',o'⟩ Q) (hl:ob.live=true:=by rfl) (hb:ob.box=true:=by rfl) (hall:(o.all λx=> !x.box || x.eQ.all λc=>wY i c)=true:=by simp)
  (ho':o.set i {ob with eQ:=ob.eQ.set k (e.set c (.obj o.length 1))}++[⟨true,false,m,1,rows⟩]=o':=by simp;rfl) (hw:xM (jV [i]) true t=t':=by simp;rfl):uV P (ZA (.region id L.toArray false)) ⟨t,o⟩ Q:=
 go_weak (vD i k c ho hl hb hall he hc ho' (hw▸mD _)) h
theorem go_share {P:Program} [aC P] (i k:Nat) {id:Nat} {L:List Oper} {Q:Exit->AS->Prop} {t t':List AV} {o o':List aN} {ob:aN} {e e':List AV} (ho:o[i]? =some ob) (he:ob.eQ[k]? =some e) (he':xM IV true e=e')
  (h:uV P (.region id L.toArray false) ⟨t',o'⟩ Q) (hl:ob.live=true:=by rfl) (hb:ob.box=false:=by rfl) (hall:(o.all λx=> !x.box || x.eQ.all λc=>wY i c)=true:=by simp)
  (ho':o.set i {ob with eQ:=ob.eQ.set k e'}=o':=by simp;rfl) (hw:xM (jV [i]) true t=t':=by simp;rfl):uV P (ZA (.region id L.toArray false)) ⟨t,o⟩ Q:=
 go_weak (tq i k ho hl hb hall he he' ho' (hw▸mD _)) h
theorem Wj {t t':List AV} {o o':List aN} (i:Nat) {ob:aN} (ho:o[i]? =some ob) (ho':o.set i ⟨false,false,0,ob.cZ,[]⟩=o') (hw:wk t t'):mX ⟨t,o⟩ ⟨t',o'⟩:=by
 subst ho';rintro P _ B a w ⟨G,r⟩;obtain ⟨g,hlk⟩:=r.look ho;have hi:i < o.length:=(cH.1 ho).1;have back:∀{j x y},look (o.set i ⟨false,false,0,ob.cZ,[]⟩) G j x y->(j=i/\x=⟨false,false,0,ob.cZ,[]⟩)\/(j≠i/\look o G j x y):=by
  intro j x y ⟨h1,h2⟩;rw [getElem?_set] at h1;by_cases hj:i=j
  .subst hj;rw [eI rfl,eI hi] at h1;exact .inl ⟨rfl,(cQ h1).symm⟩
  .rw [cX hj] at h1;exact .inr ⟨λh=>hj h.symm,h1,h2⟩
 have k:fK w (env B o G w) w (env B (o.set i ⟨false,false,0,ob.cZ,[]⟩) G w):=
  De (eE _) (λb hb=>⟨wR r hb,rfl⟩) r.len
   (λj x y h=>by
    by_cases hj:j=i
    .subst hj;obtain ⟨rfl,rfl⟩:=nK hlk h;exact ⟨⟨false,false,0,ob.cZ,[]⟩,g,⟨by rw [getElem?_set];simp [hi],hlk.2⟩,eE _,(λh=>by cases h),λh=>by cases h⟩
    .refine ⟨x,y,⟨by rw [getElem?_set,cX (λe=>hj e.symm)];exact h.1,h.2⟩,eE _,λh=> .inl h,λhl=>⟨hl,rfl,λ_=>⟨rfl,rfl,rfl⟩,λb h1 h2=>⟨h1,h2,rfl⟩⟩⟩)
   (λj x y b h hl hf=>by
    rcases back h with ⟨_,rfl⟩|⟨_,h⟩
    .cases hl
    .exact .inr ⟨j,x,y,h,hl,hf⟩)
 refine ⟨G,{len:=by simp [r.len],defs:=r.defs,ok:= ?_,apart:= ?_,fresh:= ?_,tmps:=Kk hw (fB k _ _ _ (by simp) r.tmps),size:=r.size,frame:=r.frame,base:=r.base,same:=r.same}⟩
 .intro j x y h hl;rcases back h with ⟨_,rfl⟩|⟨_,h⟩
  .cases hl
  .exact (r.ok j x y h hl).keeps k (λ_ _=>rfl)
 .intro j1 j2 x1 x2 y1 y2 z h1 h2 l1 l2 f1 f2;rcases back h1 with ⟨_,rfl⟩|⟨_,h1⟩
  .cases l1
  .rcases back h2 with ⟨_,rfl⟩|⟨_,h2⟩
   .cases l2
   .exact r.apart _ _ _ _ _ _ z h1 h2 l1 l2 f1 f2
 .intro j x y z h hl hf;rcases back h with ⟨_,rfl⟩|⟨_,h⟩
  .cases hl
  .exact r.fresh _ _ _ z h hl hf
theorem zw:∀a b:List UInt8,Lib.compareBytes a b=if a=b then 0 else if Op.bytesLess a b=true then -1 else 1
 |[],[]=>rfl
 |[],_::_=>by simp [Lib.compareBytes,Op.bytesLess]
 |_::_,[]=>by simp [Lib.compareBytes,Op.bytesLess]
 |x::xs,y::ys=>by
  have ih:=zw xs ys;simp only [Lib.compareBytes,Op.bytesLess];by_cases h:x < y
  .have hne:x≠y:=UInt8.ne_of_lt h;simp [h,hne]
  .by_cases h2:y < x
   .have hne:x≠y:=(UInt8.ne_of_lt h2).symm;simp [h,h2,hne]
   .have he:x=y:=UInt8.le_antisymm (UInt8.not_lt.1 h2) (UInt8.not_lt.1 h);subst he;simp [h,ih]
theorem ae {P:Program} [aC P] {f:FuncId} {fn:Func} (hf:P.funcs[f]? =some fn) (YP:(fn.name == "runtime.NumGoroutine")=false)
  (hb:fn.body.isNone=true) (hn:Extern.findNext fn=none) (he:Extern.find fn=some Extern.BytealgCompare.compare) (s t:bB):
  OkN P f [.str s,.str t] (.int .i64 (Lib.compareBytes s t)):=by
 intro w vs h;obtain ⟨v1,h⟩:∃v:Value,vs=[.string ⟨s.toArray⟩,.string ⟨t.toArray⟩]:=by
  cases vs with
  |nil=>simp [Rc] at h
  |cons a vs=>cases vs with
   |nil=>simp [Rc] at h
   |cons b vs=>cases vs with
    |nil=>simp only [Rc,R] at h;obtain ⟨f1,f2,h1,h2,h3⟩:=h;obtain ⟨f3,f4,h4,h5,h6⟩:=h2;exact ⟨a,by rw [h1.1,h4.1]⟩
    |cons d vs=>simp only [Rc,R] at h;obtain ⟨f1,f2,h1,h2,h3⟩:=h;obtain ⟨f3,f4,h4,h5,h6⟩:=h2;simp [Rc] at h5
 subst h;refine ⟨.int .i64 (Lib.compareBytes s t),w,?_,rfl,oD.rfl,λ_ _=>by simp [R]⟩;rw [run_callFunc_extern hf YP hb hn he,show [Value.string ⟨s.toArray⟩,Value.string ⟨t.toArray⟩].toArray=#[Value.string ⟨s.toArray⟩,Value.string ⟨t.toArray⟩] from rfl,Go.Lib.run_compareString];rfl
end
end Go.Aw
