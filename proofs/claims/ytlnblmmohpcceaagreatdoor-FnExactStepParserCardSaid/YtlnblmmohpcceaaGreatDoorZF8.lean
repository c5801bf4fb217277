/- Proved here: steps towards the statement of this claim. No condition. -/
import Derived.Test.YtlnblmmohpcceaaGreatDoorZF6
set_option linter.all false
namespace Go.Aw
open List
section
variable {P : Program} [aD P] {B : fG P} {s : AS} {dst : Option Tmp} {ty : TypeId} {pos : String} {after : Array Edge} {gd : Option (Nat × Bool)}
theorem Jk {o:List aG}:∀{c:List AV},(∀x∈c,x.gQ=true)->qQ o c=c/\kV o c=true/\iR c=[]
 |[],_=>⟨rfl,rfl,rfl⟩
 |x::xs,h=>by
  obtain ⟨h1,h2,h3⟩:=Jk (o:=o) (c:=xs) fun y hy=>h y (by simp [hy])
  have hx:=h x (by simp)
  cases x<;>simp only [AV.gQ] at hx<;>first|(cases hx;done)|(simp [qQ,kV,iR,res,iT,lI,h1,h2,h3])
theorem Yr (t:TypeId) (len:Nat) (parts:Array (Nat×Operand)) {e:TypeId} {n by' i:Nat} (he:gD P t=some (e,n,by')) (hz:bL P e n=true) (IE:sM parts.toList=true) (hlen:len=parts.toList.length) (hbig:len * n<=16777216) (hbig2:len<=16777216)
  (hpl:∀x∈(parts.toList.map (·.2)).map s.ev,x.gQ=true) (hgood:∀x∈(parts.toList.map (·.2)).map s.ev,x.Au=true/\x.cells.length=n) (hi':s.o[i]? =some ⟨true,false,n,0,[]⟩):
  Step P B ⟨dst,.buildSlice t len parts,ty,pos,after,gd⟩ s (AS.put ⟨s.t,s.o.set i ⟨true,false,n,1,((parts.toList.map (·.2)).map s.ev).map AV.cells⟩⟩ dst (.obj i 1)):=
 oC fun G a w r=>by
  generalize hxs:parts.toList.map (·.2)=xs at *
  have wY:parts.toList=(xs.zipIdx).map fun p=>(p.2,p.1):=by rw [<-hxs];exact BA _ 0 IE
  obtain ⟨sw,QM,hp3⟩:=Jk (o:=s.o) hpl
  obtain ⟨fp,rW,hnd,JU⟩:=EX r _ _ QM (by rw [hp3];simp) (tF r xs)
  have FY:fp=[]:=by
   cases fp with
   |nil=>rfl
   |cons b _=>
    obtain ⟨i,ob,g,hi,_⟩:=JU b (by simp)
    rw [hp3] at hi;cases hi
  subst FY
  rw [sw] at rW
  obtain ⟨JN,hsz⟩:=Lj rW hgood
  have hvl:(xs.map a.eval).length=len:=by rw [hlen,<-hxs];simp
  have hrun:(execOp a.eval ⟨dst,.buildSlice t len parts,ty,pos,after,gd⟩).run P w= .ok (.value (.slice (some ⟨w.heap.size,0,none⟩) len len)) (w.alloc (.cells ((xs.map a.eval).flatMap fun v=>v.cells.toList).toArray e)):=by
   have e1:parts.map (fun (i,x)=>(i,a.eval x))=(((xs.map a.eval).zipIdx).map fun p=>(p.2,p.1)).toArray:=by
    apply Array.ext'
    simp only [Array.toList_map,wY,map_map,zipIdx_map]
    rfl
   have:=qR (P:=P) (t:=t) (len:=len) (w:=w) he hz hvl.symm hbig hsz
   simp only [execOp,e1,Sem.run_bind,this,Result.andThen_ok,Sem.run_pure]
  have hlt:i < G.length:=by rw [r.len];exact (List.getElem?_eq_some_iff.1 hi').1
  have hlk:Aw.look s.o G i ⟨true,false,n,0,[]⟩ G[i]:=⟨hi',getElem?_eq_getElem hlt⟩
  generalize G[i]=g at hlk
  generalize hCd:((xs.map a.eval).flatMap fun v=>v.cells.toList)=cs at *
  have wU:=iH JN
  have hself:(w.alloc (.cells cs.toArray e)).heap[w.heap.size]? =some (.cells cs.toArray e):=eD w _
  have hrl:((xs.map s.ev).map AV.cells).length=len:=by
   have:=fB rW
   rw [length_map,<-this,hvl]
  have Qu:len<=maxLen:=by simp only [maxLen];omega
  have hm:=r.modify hlk rfl ⟨true,false,n,1,(xs.map s.ev).map AV.cells⟩ ⟨some ⟨w.heap.size,0,none⟩,len,fun b=>g.F b\/b=w.heap.size⟩ (w.alloc (.cells cs.toArray e)) (by simp) rfl (by simp)
   (fun b hb=>by
    rcases hb with hb|hb
    ·exact .inl hb
    ·right;subst hb;simp) (fun b hb hne=>⟨.inl hb,fun a' tZ=>by
     obtain rfl:=Option.some.inj tZ
     have:=(r.fresh _ _ _ b hlk rfl hb).2
     simp only;omega⟩) (fun b hlt _=>heap_alloc w _ b hlt) (by simp) (fun k _=>by
   refine ⟨[w.heap.size],?_,by simp,by simp⟩
   generalize env B _ _ (w.alloc (.cells cs.toArray e))=E' at k⊢
   simp only [Env.of,Bool.false_eq_true,if_false]
   refine ⟨by rw [hrl];exact Qu,.inr ⟨w.heap.size,0,cs.toArray,e,(0,0),[],rfl,hself,.inr rfl,?_,by rw [hrl];exact Nat.le_refl _,Qu,rfl,?_⟩⟩
   ·simp [wU]
    rw [<-hrl];simp
   ·refine pK.2 ⟨cs,rX k.plain (fun b hb=>by cases hb) JN,?_⟩
    refine nS hself (fun j v hv=>by simpa using hv))
  have hl2:Aw.look (s.o.set i ⟨true,false,n,1,(xs.map s.ev).map AV.cells⟩) (G.set i ⟨some ⟨w.heap.size,0,none⟩,len,fun b=>g.F b\/b=w.heap.size⟩) i ⟨true,false,n,1,(xs.map s.ev).map AV.cells⟩ ⟨some ⟨w.heap.size,0,none⟩,len,fun b=>g.F b\/b=w.heap.size⟩:=nR hlk
  refine ⟨_,_,hrun,_,hm.1.put dst ?_⟩
  simp only [R]
  exact ⟨trivial,_,_,hl2,Nat.le_refl _,fun _ _=>by rw [hrl],fun h=>absurd h (by decide)⟩
end
structure Pe where
  at_ : Nat
  n : Nat
  st : List (Nat × aG)
def Yt (J:Nat->Bool) (h:aG):List (Nat×aG)->aG
 |[]=>h
 |q::r=>if J q.1=true then q.2 else Yt J h r
def vst (i:Nat) (pr:List Nat) (h dead:aG):List (Nat×aG)->aG
 |[]=>h
 |q::r=>if q.1∈pr then q.2 else if q.1=i\/i∈r.map (·.1) then vst i pr h dead r else dead
def hole (n:Nat):aG:=⟨true,false,n,0,[]⟩
def N7 (n:Nat):aG:=⟨false,false,n,0,[]⟩
def wL (J:Nat->Bool):List Pe->List aG->List aG
 |[],o=>o
 |p::r,o=>wL J r (o.set p.at_ (Yt J (hole p.n) p.st))
def FD (i:Nat) (pr:List Nat):List Pe->List aG->List aG
 |[],o=>o
 |p::r,o=>FD i pr r (o.set p.at_ (vst i pr (hole p.n) (N7 p.n) p.st))
def NM (l:List Oper):List (Nat×aG)->Bool
 |[]=>true
 |[_]=>true
 |q::q'::r=>(lN l q.1).contains q'.1&&NM l (q'::r)
def aDs (l:List Oper) (fl:List Pe) (n:Nat):Bool:=
 decide (fl.map (·.at_)).Nodup&&(fl.all fun p=>decide (p.at_ < n)&&NM l p.st&&decide (p.st.map (·.1)).Nodup&&p.st.all fun q=>decide (q.1 < l.length))&&decide ((fl.flatMap fun p=>p.st.map (·.1))).Nodup
theorem Ag (J:Nat->Bool):∀(fl:List Pe) (o:List aG),(wL J fl o).length=o.length
 |[],_=>rfl
 |q::r,o=>by simp only [wL];rw [Ag J r];simp
theorem Di (i:Nat) (pr:List Nat):∀(fl:List Pe) (o:List aG),(FD i pr fl o).length=o.length
 |[],_=>rfl
 |q::r,o=>by simp only [FD];rw [Di i pr r];simp
theorem GY {J:Nat->Bool} {i:Nat}:∀{fl:List Pe} {o:List aG},(∀q∈fl,q.at_≠i)->(wL J fl o)[i]? =o[i]?
 |[],_,_=>rfl
 |q::r,o,h=>by
  simp only [wL]
  rw [GY fun p hp=>h p (by simp [hp]),getElem?_set_ne (h q (by simp))]
theorem Tz {k:Nat} {pr:List Nat} {i:Nat}:∀{fl:List Pe} {o:List aG},(∀q∈fl,q.at_≠i)->(FD k pr fl o)[i]? =o[i]?
 |[],_,_=>rfl
 |q::r,o,h=>by
  simp only [FD]
  rw [Tz fun p hp=>h p (by simp [hp]),getElem?_set_ne (h q (by simp))]
theorem GZ {J:Nat->Bool}:∀{fl:List Pe} {o:List aG} {q:Pe},(fl.map (·.at_)).Nodup->q∈fl->q.at_ < o.length->(wL J fl o)[q.at_]? =some (Yt J (hole q.n) q.st)
 |p::r,o,q,hn,hq,hl=>by
  simp only [wL]
  simp only [map_cons,nodup_cons] at hn
  rcases mem_cons.1 hq with rfl|hq
  ·rw [GY fun p hp e=>hn.1 (mem_map.2 ⟨p,hp,e⟩),getElem?_set_self hl]
  ·exact GZ hn.2 hq (by simpa using hl)
theorem VL {k:Nat} {pr:List Nat}:∀{fl:List Pe} {o:List aG} {q:Pe},(fl.map (·.at_)).Nodup->q∈fl->q.at_ < o.length->(FD k pr fl o)[q.at_]? =some (vst k pr (hole q.n) (N7 q.n) q.st)
 |p::r,o,q,hn,hq,hl=>by
  simp only [FD]
  simp only [map_cons,nodup_cons] at hn
  rcases mem_cons.1 hq with rfl|hq
  ·rw [Tz fun p hp e=>hn.1 (mem_map.2 ⟨p,hp,e⟩),getElem?_set_self hl]
  ·exact VL hn.2 hq (by simpa using hl)
theorem FE {J J':Nat->Bool}:∀{fl:List Pe} {o:List aG},(∀p∈fl,∀q∈p.st,J q.1=J' q.1)->wL J fl o=wL J' fl o
 |[],_,_=>rfl
 |p::r,o,h=>by
  simp only [wL]
  have:∀st:List (Nat×aG),(∀q∈st,J q.1=J' q.1)->Yt J (hole p.n) st=Yt J' (hole p.n) st:=by
   intro st
   induction st with
   |nil=>intros;rfl
   |cons q r ih=>intro h;simp only [Yt];rw [h q (by simp),ih fun x hx=>h x (by simp [hx])]
  rw [this p.st (h p (by simp)),FE fun q hq=>h q (by simp [hq])]
theorem VM {J:Nat->Bool} {i:Nat} {pr:List Nat} {n:Nat} (hi:J i=false) (hp:∀e∈pr,J e=true):∀(st:List (Nat×aG)),(∀s1 q s2,st=s1++q::s2->J q.1=false->∀p∈s1,J p.1=false)->(vst i pr (hole n) (N7 n) st).live=true->vst i pr (hole n) (N7 n) st=Yt J (hole n) st
 |[],_,_=>rfl
 |q::r,aDt,h=>by
  simp only [vst,Yt] at h⊢
  by_cases h1:q.1∈pr
  ·rw [if_pos h1,if_pos (hp _ h1)]
  ·rw [if_neg h1] at h⊢
   by_cases h2:q.1=i\/i∈r.map (·.1)
   ·rw [if_pos h2] at h⊢
    have hq:J q.1=false:=by
     rcases h2 with h2|h2
     ·rw [h2];exact hi
     ·obtain ⟨x,hx,rfl⟩:=mem_map.1 h2
      obtain ⟨r1,r2,rfl⟩:=append_of_mem hx
      exact aDt (q::r1) x r2 rfl hi q (by simp)
    rw [hq,if_neg (by simp)]
    exact VM hi hp r (fun s1 x s2 e hx p hp=>aDt (q::s1) x s2 (by rw [e];rfl) hx p (by simp [hp])) h
   ·rw [if_neg h2] at h;cases h
theorem Ro {l:List Oper} {q:Nat×aG} {r:List (Nat×aG)} (h:NM l (q::r)=true):NM l r=true:=by
 cases r with
 |nil=>rfl
 |cons q' r=>simp only [NM,Bool.and_eq_true] at h;exact h.2
theorem NN {l:List Oper} {J:Nat->Bool} (hJ:gy l J) (hlen:∀i,J i=true->i < l.length):∀{s1:List (Nat×aG)} {q:Nat×aG} {s2:List (Nat×aG)},NM l (s1++q::s2)=true->J q.1=false->∀p∈s1,J p.1=false
 |[],_,_,_,_=>fun _ hp=>by cases hp
 |x::s1,q,s2,h,hq=>by
  have ih:=NN hJ hlen (Ro h) hq
  intro p hp
  rcases mem_cons.1 hp with rfl|hp
  ·cases hJp:J p.1 with
   |false=>rfl
   |true=>
    exfalso
    have hnx:∃y,(lN l p.1).contains y=true/\J y=false:=by
     cases s1 with
     |nil=>simp only [cons_append,nil_append,NM,Bool.and_eq_true] at h;exact ⟨q.1,h.1,hq⟩
     |cons y s1=>simp only [cons_append,NM,Bool.and_eq_true] at h;exact ⟨y.1,h.1,ih y (by simp)⟩
    obtain ⟨y,hy,hyf⟩:=hnx
    have hlp:=hlen _ hJp
    have hop:l[p.1]? =some (l.get ⟨p.1,hlp⟩):=getElem?_eq_getElem hlp
    have hm:y∈pre (l.get ⟨p.1,hlp⟩):=by
     unfold lN at hy
     rw [hop] at hy
     simpa using hy
    have:=hJ _ _ hop hJp _ hm
    rw [hyf] at this;cases this
  ·exact ih p hp
theorem N8 {J:Nat->Bool} {i:Nat} {pr:List Nat} {fl:List Pe} {o:List aG} (hn:(fl.map (·.at_)).Nodup) (hs:∀q∈fl,q.at_ < o.length) (hi:J i=false) (hp:∀e∈pr,J e=true) (aDt:∀q∈fl,∀s1 x s2,q.st=s1++x::s2->J x.1=false->∀p∈s1,J p.1=false):Sub (FD i pr fl o) (wL J fl o):=by
 intro k ob h hl
 by_cases hk:∃q∈fl,q.at_=k
 ·obtain ⟨q,hq,rfl⟩:=hk
  rw [VL hn hq (hs q hq)] at h
  obtain rfl:=Option.some.inj h
  rw [GZ hn hq (hs q hq),VM hi hp _ (aDt q hq) hl]
 ·have hk':∀q∈fl,q.at_≠k:=fun q hq e=>hk ⟨q,hq,e⟩
  rw [Tz hk'] at h
  rw [GY hk'];exact h
theorem aDu {l:List Oper} {J:Nat->Bool} (hJ:gy l J) (hlen:∀i,J i=true->i < l.length) {n i:Nat} {dY:aG}:∀{s1 s2:List (Nat×aG)},NM l (s1++(i,dY)::s2)=true->((s1++(i,dY)::s2).map (·.1)).Nodup->J i=false->Yt (qL J i) (hole n) (s1++(i,dY)::s2)=dY
 |s1,s2,h,hn,hi=>by
  have hl:=NN hJ hlen h hi
  induction s1 with
  |nil=>simp [Yt,qL]
  |cons x s1 ih=>
   simp only [cons_append,map_cons,nodup_cons] at hn
   have hx:x.1≠i:=fun e=>hn.1 (by simp [e])
   simp only [cons_append,Yt]
   have:qL J i x.1=false:=by unfold qL;rw [if_neg hx];exact hl x (by simp)
   rw [this,if_neg (by simp)]
   exact ih (Ro h) hn.2 (fun p hp=>hl p (by simp [hp]))
def FH (P:Program) [aD P] (op:Oper) (m:List AV) (view:List aG) (pl:Nat) (val:AV) (dY:aG):Prop:=
 ∀(B:fG P) (t2:List AV) (o2:List aG),wk t2 m->Sub view o2->o2.length=view.length->Step P B op ⟨t2,o2⟩ ⟨pY t2 op.dst val,o2.set pl dY⟩
def Rp (P : Program) [aD P] (l : List Oper) (t : List AV) (b : List aG) (fl : List Pe) (j : Nat) (op : Oper) (vs : List AV) : Prop :=
  (∀ e ∈ pre op, e < j) /\
  (((∀ p ∈ fl, ∀ q ∈ p.st, q.1 ≠ j) /\ lY op.op ⟨mR j (pre op) 0 l (vs.take j) t, FD j (pre op) fl b⟩ = true /\ ∃ x, (vs.getD j .undef = x \/ vs.getD j .undef = .undef) /\
      oH P l op ⟨mR j (pre op) 0 l (vs.take j) t, FD j (pre op) fl b⟩ (fun s' => s' = ⟨pY (mR j (pre op) 0 l (vs.take j) t) op.dst x, FD j (pre op) fl b⟩)) \/
   (op.guard = none /\ ∃ p ∈ fl, ∃ s1 dY s2, p.st = s1 ++ (j, dY) :: s2 /\ FH P op (mR j (pre op) 0 l (vs.take j) t) (FD j (pre op) fl b) p.at_ (vs.getD j .undef) dY))
theorem Yu {P:Program} [aD P] {id:Nat} {l:List Oper} {s:AS} {Q:Exit->AS->Prop} (fl:List Pe) {b:List aG} (vs:List AV) (hfw:Kg l=true) (hdst:distinct l=true) (hfl:aDs l fl b.length=true)
  (hb0:wL (fun _=>false) fl b=s.o++(fl.map (·.n)).map fun n=>⟨true,false,n,0,[]⟩)
  (hit:∀j op,l[j]? =some op->Rp P l s.t b fl j op vs) (hK:Q .normal ⟨gI (fun _=>true) 0 l vs s.t,wL (fun _=>true) fl b⟩):qU P (.region id l.toArray true) s Q:=by
 simp only [aDs,Bool.and_eq_true,decide_eq_true_eq,all_eq_true] at hfl
 obtain ⟨⟨hnd,hsl⟩,aQd⟩:=hfl
 have hs:∀q∈fl,q.at_ < b.length:=fun q hq=>(hsl q hq).1.1.1
 have hsq:∀q∈fl,∀x∈q.st,x.1 < l.length:=fun q hq=>(hsl q hq).2
 have hst:∀q∈fl,NM l q.st=true:=fun q hq=>(hsl q hq).1.1.2
 have Yv:∀q∈fl,(q.st.map (·.1)).Nodup:=fun q hq=>(hsl q hq).1.2
 have aQe:∀p∈fl,∀p'∈fl,∀q∈p.st,∀q'∈p'.st,q.1=q'.1->p.at_=p'.at_:=by
  have:∀(fl:List Pe),(fl.flatMap fun p=>p.st.map (·.1)).Nodup->∀p∈fl,∀p'∈fl,∀q∈p.st,∀q'∈p'.st,q.1=q'.1->p.at_=p'.at_:=by
   intro fl
   induction fl with
   |nil=>intro _ p hp;cases hp
   |cons x fl ih=>
    intro hn p hp p' hp' q hq q' hq' e
    simp only [flatMap_cons,nodup_append] at hn
    rcases mem_cons.1 hp with e1|sw<;>rcases mem_cons.1 hp' with e2|QM
    ·rw [e1,e2]
    ·exfalso
     rw [e1] at hq
     exact hn.2.2 _ (mem_map.2 ⟨q,hq,rfl⟩) _ (mem_flatMap.2 ⟨p',QM,mem_map.2 ⟨q',hq',rfl⟩⟩) e
    ·exfalso
     rw [e2] at hq'
     exact hn.2.2 _ (mem_map.2 ⟨q',hq',rfl⟩) _ (mem_flatMap.2 ⟨p,sw,mem_map.2 ⟨q,hq,rfl⟩⟩) e.symm
    ·exact ih hn.2.1 p sw p' QM q hq q' hq' e
  exact this fl aQd
 unfold qU
 have hrest:uJ l l.length=true:=by
  unfold uJ
  rw [all_eq_true]
  intro i hi
  simp at hi
  simp only [Bool.or_eq_true,decide_eq_true_eq]
  exact .inl (by omega)
 refine Vb (ops:=l.toArray) l.length (by simp) (by simpa using hfw) (by simpa using hrest) (fun J=>⟨gI J 0 l vs s.t,wL J fl b⟩) ?_ ?_ ?_
 ·have e1:∀(l:List Oper) (j:Nat) (vs t:List AV),gI (fun _=>false) j l vs t=t:=by
   intro l
   induction l with
   |nil=>intros;rfl
   |cons op r ih=>
    intro j vs t
    simp only [gI]
    rw [ih]
    unfold xL
    cases op.dst<;>simp
  rw [e1,hb0]
  exact fun _ _ _ _ _ r=>LV _ r
 ·intro i op him hi J hJ hJm G6 hpre
  have hi':l[i]? =some op:=by simpa using hi
  have hJ':gy l J:=by simpa using hJ
  have aFg:∀k,J k=true->k < l.length:=fun k hk=>by
   rcases Nat.lt_or_ge k l.length with h|h
   ·exact h
   ·rw [hJm k h] at hk;cases hk
  obtain ⟨aQf,hex⟩:=hit i op hi'
  have QT:wk (gI J 0 l vs s.t) (mR i (pre op) 0 l (vs.take i) s.t):=
   Jf G6 (fun e he=>⟨hpre e he,aQf e he⟩) l 0 vs (vs.take i) s.t s.t (fun k q hk hJk=>hJ' k q hk (by simpa using hJk)) (fun k hk=>by
    rw [getD_eq_getElem?_getD,getD_eq_getElem?_getD,getElem?_take];simp [show k < i by omega]) (kK _)
  have hsub:=N8 (J:=J) (i:=i) (pr:=pre op) hnd hs G6 hpre (fun q hq s1 x s2 e hx=>NN hJ' aFg (by rw [<-e];exact hst q hq) hx)
  have aLq:∀v,vs.getD i .undef=v->gI (qL J i) 0 l vs s.t=pY (gI J 0 l vs s.t) op.dst v:=fun v hv=>by
   have:=DX l 0 i op vs s.t v hdst hi' (by simpa using G6) hv
   rwa [Nat.zero_add] at this
  rcases hex with ⟨hnf,hq,x,hvx,hop⟩|⟨hg,p,hp,s1,dY,s2,aDv,Jl⟩
  ·left
   obtain ⟨x',new',x2,rfl',hx2,_,hfin⟩:=Ae (o2:=wL J fl b) hq QT hop hsub (.inl (by rw [Ag,Di]))
   refine hfin _ ?_
   have hset:new'=[]/\(pY (mR i (pre op) 0 l (vs.take i) s.t) op.dst x'=pY (mR i (pre op) 0 l (vs.take i) s.t) op.dst x):=by
    simp only [AS.mk.injEq] at rfl'
    refine ⟨?_,rfl'.1⟩
    have:=congrArg length rfl'.2
    rw [length_append] at this
    exact eq_nil_of_length_eq_zero (by omega)
   have hto:wk (pY (gI J 0 l vs s.t) op.dst x2) (gI (qL J i) 0 l vs s.t):=by
    rw [aLq _ rfl]
    have hL:=Je QT
    have ZR:=hset.2
    unfold pY at ZR⊢
    cases hd:op.dst with
    |none=>exact kK _
    |some d=>
     rw [hd] at ZR
     dsimp only at ZR⊢
     rcases Nat.lt_or_ge d (gI J 0 l vs s.t).length with hdl|hle
     ·have hxx:x'=x:=by
       have h5:=congrArg (fun t=>t[d]?) ZR
       have aLr:d < (mR i (pre op) 0 l (vs.take i) s.t).length:=hL▸hdl
       rw [getElem?_set_self aLr,getElem?_set_self aLr] at h5
       exact Option.some.inj h5
      refine Nc d (kK _) ?_
      rcases hvx with e|e
      ·rw [e,<-hxx];assumption
      ·exact .inr e
     ·rw [set_eq_of_length_le hle,set_eq_of_length_le hle]
      exact kK _
   have zQ:wL J fl b++new'=wL (qL J i) fl b:=by
    rw [hset.1,append_nil]
    refine FE fun p hp q hq=> ?_
    unfold qL;rw [if_neg (hnf p hp q hq)]
   rw [zQ]
   exact wZ hto
  ·right
   refine ⟨hg,fun B=> ?_⟩
   have:=Jl B _ _ QT hsub (by rw [Ag,Di])
   have e:wL (qL J i) fl b=(wL J fl b).set p.at_ dY:=by
    refine ext_getElem? fun k=> ?_
    by_cases hk:∃q∈fl,q.at_=k
    ·obtain ⟨q,hq,rfl⟩:=hk
     rw [GZ hnd hq (hs q hq)]
     by_cases hqp:q.at_=p.at_
     ·have aQg:q=p:=DY (·.at_) fl hnd q p hq hp hqp
      subst aQg
      rw [getElem?_set_self (by rw [Ag];exact hs q hq),aDv]
      rw [aDu hJ' aFg (by rw [<-aDv];exact hst q hq) (by rw [<-aDv];exact Yv q hq) G6]
     ·rw [getElem?_set_ne (fun e=>hqp e.symm),GZ hnd hq (hs q hq)]
      have:∀st:List (Nat×aG),(∀x∈st,x.1≠i)->Yt (qL J i) (hole q.n) st=Yt J (hole q.n) st:=by
       intro st
       induction st with
       |nil=>intros;rfl
       |cons x r ih=>
        intro h
        have hx:qL J i x.1=J x.1:=by unfold qL;rw [if_neg (h x (by simp))]
        simp only [Yt];rw [hx,ih fun y hy=>h y (by simp [hy])]
      rw [this q.st fun x hx e=>hqp (aQe q hq p hp x hx (i,dY) (by rw [aDv];simp) e)]
    ·have hk':∀q∈fl,q.at_≠k:=fun q hq e=>hk ⟨q,hq,e⟩
     rw [GY hk',getElem?_set_ne (hk' p hp),GY hk']
   rw [aLq _ rfl,e]
   exact this
 ·intro J hJ hJm hor
  left
  have hsz:l.toArray.size=l.length:=by simp
  have hall:∀i,i < l.length->J i=true:=by
   intro i hi
   rcases hor with h|⟨op,hop,_⟩
   ·exact h i (by omega)
   ·have:=(List.getElem?_eq_some_iff.1 hop).1;simp at this
  rw [hsz]
  have e3:(range l.length).map J=replicate l.length true:=by
   refine ext_getElem? fun i=> ?_
   rw [getElem?_map,getElem?_replicate]
   by_cases hi:i < l.length
   ·simp [hi,hall i hi]
   ·simp [hi]
  have e4:left (replicate l.length true)=0:=by
   unfold left
   rw [filter_eq_nil_iff.2]
   ·rfl
   ·intro x hx
    rw [(mem_replicate.1 hx).2];simp
  rw [e3,e4]
  simp only [wJ]
  have e5:gI J 0 l vs s.t=gI (fun _=>true) 0 l vs s.t:=Ab l 0 vs s.t fun k hk=>by rw [Nat.zero_add];exact hall k hk
  have e6:wL J fl b=wL (fun _=>true) fl b:=FE fun p hp q hq=>hall _ (hsq p hp q hq)
  rw [e5,e6];exact hK
end Go.Aw

namespace Go.Aw
open List
theorem mh {x:AV} (h:x.gQ=true):x≠ .undef:=by rintro rfl;simp [AV.gQ] at h
theorem aHf {P:Program} [aD P] {dst:Option Tmp} {ty:TypeId} {pos:String} {after:Array Edge} {gd:Option (Nat×Bool)} {m:List AV} {view:List aG} {pl:Nat} {T:TypeId} {len:Nat} {parts:Array (Nat×Operand)} {e:TypeId} {n by':Nat} {xs:List AV}
  (he:gD P T=some (e,n,by')) (hz:bL P e n=true) (IE:sM parts.toList=true) (hlen:len=parts.toList.length) (hbig:len * n<=16777216) (hbig2:len<=16777216)
  (hxs:(parts.toList.map (·.2)).map (AS.ev ⟨m,view⟩)=xs) (hpl:∀x∈xs,x.gQ=true) (hgood:∀x∈xs,x.Au=true/\x.cells.length=n) (hv:view[pl]? =some (hole n)):
  FH P ⟨dst,.buildSlice T len parts,ty,pos,after,gd⟩ m view pl (.obj pl 1) ⟨true,false,n,1,xs.map AV.cells⟩:=by
 intro B t2 o2 hw hs _
 have e2:(parts.toList.map (·.2)).map (AS.ev ⟨t2,o2⟩)=xs:=by
  have key:∀(l:List Operand) (xs:List AV),l.map (AS.ev ⟨m,view⟩)=xs->(∀x∈xs,x.gQ=true)->l.map (AS.ev ⟨t2,o2⟩)=xs:=by
   intro l
   induction l with
   |nil=>intro xs h _;exact h
   |cons a l ih=>
    intro xs h hp
    cases xs with
    |nil=>cases h
    |cons x xs=>
     simp only [map_cons,List.cons.injEq] at h⊢
     exact ⟨DU hw h.1 (mh (hp x (by simp))),ih xs h.2 fun y hy=>hp y (by simp [hy])⟩
  exact key _ _ hxs hpl
 have ho:o2[pl]? =some ⟨true,false,n,0,[]⟩:=hs pl _ hv rfl
 have:=Yr (P:=P) (B:=B) (s:=⟨t2,o2⟩) (dst:=dst) (ty:=ty) (pos:=pos) (after:=after) (gd:=gd) T len parts (i:=pl) he hz IE hlen hbig hbig2 (by rw [e2];exact hpl) (by rw [e2];exact hgood) ho
 rw [e2,put_eq] at this
 exact this
theorem ZT {P:Program} [aD P] {dst:Option Tmp} {ty:TypeId} {pos:String} {after:Array Edge} {gd:Option (Nat×Bool)} {m:List AV} {view:List aG} {pl:Nat} {T:TypeId} {len:Nat} {parts:Array (Nat×Operand)} {e:TypeId} {n by':Nat} {xs:List AV} {dK:List (List AV)}
  (he:gD P T=some (e,n,by')) (hz:bL P e n=true) (IE:sM parts.toList=true) (hlen:len=parts.toList.length) (hbig:len * n<=16777216) (hbig2:len<=16777216)
  (hxs:(parts.toList.map (·.2)).map (AS.ev ⟨m,view⟩)=xs) (hpl:∀x∈xs,x.gQ=true) (hgood:∀x∈xs,x.Au=true/\x.cells.length=n) (hv:view[pl]? =some (hole n)) (hels:xs.map AV.cells=dK):
  FH P ⟨dst,.buildSlice T len parts,ty,pos,after,gd⟩ m view pl (.obj pl 1) ⟨true,false,n,1,dK⟩:=by
 subst hels
 exact aHf he hz IE hlen hbig hbig2 hxs hpl hgood hv
def Yw (P:Program) [aD P] (l:List Oper) (t:List AV) (b:List aG) (fl:List Pe) (K:AS->Prop):Nat->List Oper->List AV->Prop
 |_,[],vs=>K ⟨gI (fun _=>true) 0 l vs t,wL (fun _=>true) fl b⟩
 |j,op::r,vs=>∃x,Rp P l t b fl j op (vs++[x])/\Yw P l t b fl K (j+1) r (vs++[x])
theorem VN {P:Program} [aD P] {l:List Oper} {t:List AV} {b:List aG} {fl:List Pe} {j:Nat} {op:Oper} {vs vs':List AV} (h:Rp P l t b fl j op vs) (h1:vs.take j=vs'.take j) (h2:vs.getD j .undef=vs'.getD j .undef):Rp P l t b fl j op vs':=by
 unfold Rp at h⊢
 rw [h1,h2] at h;exact h
theorem ZU {P:Program} [aD P] {l:List Oper} {t:List AV} {b:List aG} {fl:List Pe} {K:AS->Prop}:∀(r:List Oper) (j:Nat) (vs:List AV),l.drop j=r->vs.length=j->Yw P l t b fl K j r vs->
  ∃vf,vf.take j=vs/\(∀k op,j<=k->l[k]? =some op->Rp P l t b fl k op vf)/\K ⟨gI (fun _=>true) 0 l vf t,wL (fun _=>true) fl b⟩
 |[],j,vs,hd,hl,h=>by
  refine ⟨vs,take_of_length_le (by omega),fun k op hk hop=> ?_,h⟩
  have h1:=(List.getElem?_eq_some_iff.1 hop).1
  have h2:=congrArg length hd
  simp at h2;omega
 |op::r,j,vs,hd,hl,h=>by
  simp only [Yw] at h
  obtain ⟨x,hi,h⟩:=h
  have hd':l.drop (j+1)=r:=by rw [<-drop_drop,hd];rfl
  have hop:l[j]? =some op:=by
   have:=congrArg (·[0]?) hd
   simpa using this
  obtain ⟨vf,h1,h2,h3⟩:=ZU r (j+1) (vs++[x]) hd' (by simp [hl]) h
  refine ⟨vf,?_,fun k op' hk hop'=> ?_,h3⟩
  ·have:=congrArg (take j) h1
   rw [take_take] at this
   rw [Nat.min_eq_left (by omega)] at this
   rw [this,take_append_of_le_length (by omega),take_of_length_le (by omega)]
  ·rcases Nat.lt_or_ge j k with hlt|hge
   ·exact h2 k op' hlt hop'
   ·obtain rfl:j=k:=by omega
    rw [hop] at hop'
    obtain rfl:=Option.some.inj hop'
    refine VN hi ?_ ?_
    ·have:=congrArg (take j) h1
     rw [take_take,Nat.min_eq_left (by omega)] at this
     rw [this]
    ·have:=congrArg (·[j]?) h1
     simp only [getElem?_take] at this
     rw [if_pos (by omega)] at this
     rw [getD_eq_getElem?_getD,getD_eq_getElem?_getD,this]
@[irreducible] def VO {α:Type} (x:α):α:=x
theorem uL {α:Type} (x:α):VO x=x:=by unfold VO;rfl
def wM (f:Nat->Bool):Code->Code
 | .region id ops true=>if f id then .region id (VO ops) true else .region id ops true
 | .region id ops false=>if f id then VO (.region id ops false) else .region id ops false
 | .seq x y=> .seq (wM f x) (wM f y)
 | .cond c x y=> .cond c (wM f x) (wM f y)
 | .block id c=> .block id (wM f c)
 | .loop c=> .loop (wM f c)
 |c=>c
theorem wN (f:Nat->Bool):∀c:Code,wM f c=c
 | .region id ops true=>by simp only [wM];split<;>simp [uL]
 | .region id ops false=>by simp only [wM];split<;>simp [uL]
 | .seq x y=>by simp [wM,wN f x,wN f y]
 | .cond c x y=>by simp [wM,wN f x,wN f y]
 | .block id c=>by simp [wM,wN f c]
 | .loop c=>by simp [wM,wN f c]
 | .skip=>rfl
 | .exit _=>rfl
 | .ret=>rfl
 | .rangeFunc _ _ _ _=>rfl
 | .scope _=>rfl
 | .label _=>rfl
 | .goto _=>rfl
 | .refuse _=>rfl
theorem rU {P:Program} [aD P] (hm:P.follows .mixedOrders=true) {f:FuncId} {fn:Func} {c c':Code} (L:List Nat) (hf:P.funcs[f]? =some fn) {n:Nat} (hn:fn.ntmps=n) {args t:List AV} {rr:AV}
  (h:qU P c' ⟨t,[]⟩ (fun e s=>(e= .normal\/e= .ret)/\aB P fn s rr)) (hb:fn.body=some c:=by rfl)
  (hc:wM (fun i=>L.contains i) c=c':=by simp [wM];rfl)
  (ht:args++replicate (n - args.length) .undef=t:=by
   simp only [length_cons,length_nil,Nat.reduceSub,Nat.reduceAdd,replicate_succ,replicate_zero,cons_append,nil_append];rfl):Ok P f args rr:=by
 subst ht;subst hn;subst hc;rw [wN] at h;exact QD hm hf hb h
theorem go_weak {P:Program} [aD P] {id:Nat} {l:List Oper} {s s2:AS} {Q:Exit->AS->Prop} (hw:lS s s2) (h:qU P (.region id l.toArray false) s2 Q):qU P (VO (.region id l.toArray false)) s Q:=by
 rw [uL];exact XF hw h
theorem go_drawn3 {P:Program} [aD P] {id:Nat} {l:List Oper} {s:AS} {Q:Exit->AS->Prop} (fl:List Pe) {b:List aG} (hb:s.o++(fl.map (·.n)).map (fun n=>⟨true,false,n,0,[]⟩)=b) (hfw:Kg l=true) (hdst:distinct l=true) (hfl:aDs l fl b.length=true)
  (hb0:wL (fun _=>false) fl b=b) (h:Yw P l s.t b fl (Q .normal) 0 l []):qU P (.region id (VO l.toArray) true) s Q:=by
 rw [uL]
 obtain ⟨vf,_,h2,h3⟩:=ZU l 0 [] rfl rfl h
 exact Yu fl vf hfw hdst hfl (by rw [hb0,hb]) (fun j op hop=>h2 j op (Nat.zero_le _) hop) h3
section
variable {P : Program} [aD P] {l : List Oper} {t : List AV} {b : List aG} {fl : List Pe} {K : AS -> Prop} {j : Nat} {op : Oper} {r : List Oper} {vs : List AV} {pr : List Nat} {m : List AV} {om : List aG}
theorem N9 {t':List AV} {o':List aG} (h1:gI (fun _=>true) 0 l vs t=t') (h2:wL (fun _=>true) fl b=o') (h:K ⟨t',o'⟩):Yw P l t b fl K j [] vs:=by
 simp only [Yw,h1,h2];exact h
theorem ZV {vs':List AV} {c:Prop} (hc:c) (hv:vs=vs') (hd:Yw P l t b fl K j r vs'):c/\Yw P l t b fl K j r vs:=by
 subst hv;exact ⟨hc,hd⟩
theorem ZW (hg:op.guard=none) (hnf:(fl.all fun p=>p.st.all fun q=>decide (q.1≠j))=true) (hpr:pre op=pr) (hlt:(pr.all fun e=>decide (e < j))=true) (hm:mR j pr 0 l vs t=m) (ho:FD j pr fl b=om) (hq:lY op.op ⟨m,om⟩=true) (hvl:vs.length=j) (hdl:(match op.dst with|some d=>decide (d < m.length)|none=>true)=true)
  (ha:Nx 2 P op ⟨m,om⟩ fun s'=>s'.o.length=om.length/\Yw P l t b fl K (j+1) r (vs++[Db op s'])):Yw P l t b fl K j (op::r) vs:=by
 have hst:oH P l op ⟨m,om⟩ fun s'=>s'.o.length=om.length/\Yw P l t b fl K (j+1) r (vs++[Db op s']):=by
  unfold oH
  simp only [hg]
  unfold Nx at ha
  rcases ha with ha|ha
  ·exact .inl ha
  ·rcases ha with ha|ha
   ·exact absurd ha.1 (by decide)
   ·exact .inr ha.2
 obtain ⟨x,new,x2,⟨hlen,hK⟩,hx,_,hfin⟩:=Ae (t2:=m) (o2:=om) hq (kK _) hst (fun i ob h _=>h) (.inl rfl)
 have hnew:new=[]:=by
  rw [length_append] at hlen
  exact eq_nil_of_length_eq_zero (by omega)
 subst hnew
 rw [append_nil] at hK
 simp only [Yw]
 refine ⟨_,?_,hK⟩
 have htk:(vs++[Db op ⟨pY m op.dst x,om⟩]).take j=vs:=by rw [take_append_of_le_length (by omega),take_of_length_le (by omega)]
 have hgd:(vs++[Db op ⟨pY m op.dst x,om⟩]).getD j .undef=Db op ⟨pY m op.dst x,om⟩:=by
  rw [getD_eq_getElem?_getD,getElem?_append_right (by omega),hvl,Nat.sub_self];rfl
 refine ⟨fun e he=>by rw [hpr] at he;have:=all_eq_true.1 hlt e he;simpa using this,.inl ⟨fun p hp q hq=> ?_,?_,x2,?_,?_⟩⟩
 ·have:=all_eq_true.1 (all_eq_true.1 hnf p hp) q hq
  simpa using this
 ·rw [htk,hpr,hm,ho];exact hq
 ·rw [hgd]
  unfold Db pY
  cases hd:op.dst with
  |none=>exact .inr rfl
  |some d=>
   rw [hd] at hdl
   have hdl:d < m.length:=by simpa using hdl
   dsimp only
   rw [getD_eq_getElem?_getD,getElem?_set_self hdl]
   exact hx
 ·rw [htk,hpr,hm,ho]
  exact hfin _ (by rw [append_nil])
theorem Ah {v:AV} {dY:aG} (p:Pe) (s1 s2:List (Nat×aG)) (hg:op.guard=none) (hp:p∈fl) (hst:p.st=s1++(j,dY)::s2) (hpr:pre op=pr) (hlt:(pr.all fun e=>decide (e < j))=true) (hm:mR j pr 0 l vs t=m) (ho:FD j pr fl b=om) (hvl:vs.length=j)
  (ha:FH P op m om p.at_ v dY) (h:Yw P l t b fl K (j+1) r (vs++[v])):Yw P l t b fl K j (op::r) vs:=by
 simp only [Yw]
 refine ⟨v,?_,h⟩
 have htk:(vs++[v]).take j=vs:=by rw [take_append_of_le_length (by omega),take_of_length_le (by omega)]
 have hgd:(vs++[v]).getD j .undef=v:=by
  rw [getD_eq_getElem?_getD,getElem?_append_right (by omega),hvl,Nat.sub_self];rfl
 refine ⟨fun e he=>by rw [hpr] at he;have:=all_eq_true.1 hlt e he;simpa using this,.inr ⟨hg,p,hp,s1,dY,s2,hst,?_⟩⟩
 rw [htk,hgd,hpr,hm,ho]
 exact ha
end
attribute [simp] wL FD Yt vst hole N7 aDs NM
end Go.Aw

namespace Go.Aw
open List
def swp (i j k:Nat):Nat:=if k=i then j else if k=j then i else k
theorem Ha (i j k:Nat):swp i j (swp i j k)=k:=by
 unfold swp;split<;>split<;>(try split)<;>omega
def Bh (i j k:Nat):Prop:=k=i\/k=j
instance (i j k : Nat) : Decidable (Bh i j k) := by unfold Bh; infer_instance
theorem TA {i j k:Nat} (h:¬Bh i j k):swp i j k=k:=by
 unfold Bh at h;unfold swp
 rw [if_neg (fun e=>h (.inl e)),if_neg (fun e=>h (.inr e))]
def H8 (i j:Nat):Tg->Tg
 | .iQ k=> .iQ (swp i j k)
 |g=>g
mutual
def mH (i j:Nat):AV->AV
 | .obj k v=>if Bh i j k then (if v=0 then .undef else .obj (swp i j k) v) else .obj k v
 | .ptr k v idx off=>if Bh i j k then .undef else .ptr k v idx off
 | .sl g n l=> .sl (H8 i j g) n (sW i j l)
 | .eH g c off=> .eH (H8 i j g) (qI i j c) off
 | .agg c=> .agg (qI i j c)
 | .gV c=> .gV (qI i j c)
 | .fn f c=> .fn f (qI i j c)
 | .int k n=> .int k n
 | .bool b=> .bool b
 | .str s=> .str s
 | .undef=> .undef
def qI (i j:Nat):List AV->List AV
 |[]=>[]
 |x::xs=>mH i j x::qI i j xs
def sW (i j:Nat):List (List AV)->List (List AV)
 |[]=>[]
 |x::xs=>qI i j x::sW i j xs
end
theorem wO (i j:Nat):∀l,(sW i j l).length=l.length
 |[]=>rfl
 |_::l=>by simp [sW,wO i j l]
structure Ren (i j : Nat) (E E' : Env) : Prop where
  a : ∀ b, E.A b -> E'.A b
  v : ∀ k, E'.V (swp i j k) -> E.V k
  d : ∀ k b, E.D k b -> E'.D (swp i j k) b
  h : ∀ k bN x, (Bh i j k -> bN ≠ 0) -> E.H k bN x -> E'.H (swp i j k) bN x
  l : ∀ k bN idx off x, ¬ Bh i j k -> E.L k bN idx off x -> E'.L k bN idx off x
theorem Ren.plain {i j:Nat} {E E':Env} (k:Ren i j E E'):Ren i j E.plain E'.plain:=
 ⟨k.a,fun _ _=>trivial,fun _ _ h=>h.elim,fun _ _ _ _ h=>h.elim,fun _ _ _ _ _ _ h=>h.elim⟩
theorem Ren.sub {i j:Nat} {E E':Env} (k:Ren i j E E') (g:Tg):Ren i j (E.sub g) (E'.sub (H8 i j g)):=by
 cases g with
 |own=>exact k.plain
 |view=>exact k.plain
 |iQ q=>exact ⟨k.a,fun _ _=>trivial,fun r b h=>⟨by rw [h.1],k.d _ _ h.2⟩,fun _ _ _ _ h=>h.elim,fun _ _ _ _ _ _ h=>h.elim⟩
theorem Ren.dead {i j:Nat} {E E':Env} (k:Ren i j E E') {g:Tg} (h:E.dead g):E'.dead (H8 i j g):=by
 cases g with
 |own=>exact h
 |view=>exact h
 |iQ q=>exact fun hv=>h (k.v q hv)
theorem Ren.tg {i j:Nat} {E E':Env} (k:Ren i j E E') {g:Tg} {b:Nat} (h:E.tg g b):E'.tg (H8 i j g) b:=by
 cases g with
 |own=>exact h
 |view=>exact k.a b h
 |iQ q=>exact k.d q b h
theorem TB {i j:Nat} {g:Tg}:H8 i j g= .own↔g= .own:=by cases g<;>simp [H8]
mutual
theorem aLt {w:World} {i j:Nat} {E E':Env} (k:Ren i j E E'):∀(x:AV) (v:Value) (fp:List Nat),R w E x v fp->R w E' (mH i j x) v fp
 | .obj q u,v,fp,h=>by
  simp only [mH]
  simp only [R] at h
  by_cases hm:Bh i j q
  ·rw [if_pos hm]
   by_cases hu:u=0
   ·rw [if_pos hu];simp only [R];exact h.1
   ·rw [if_neg hu];simp only [R];exact ⟨h.1,k.h _ _ _ (fun _=>hu) h.2⟩
  ·rw [if_neg hm]
   simp only [R]
   have:=k.h q u v (fun hm'=>absurd hm' hm) h.2
   rw [TA hm] at this
   exact ⟨h.1,this⟩
 | .ptr q u idx off,v,fp,h=>by
  simp only [mH]
  simp only [R] at h
  by_cases hm:Bh i j q
  ·rw [if_pos hm];simp only [R];exact h.1
  ·rw [if_neg hm];simp only [R];exact ⟨h.1,k.l _ _ _ _ _ hm h.2⟩
 | .sl g n l,v,fp,h=>by
  simp only [mH,R,wO] at h⊢
  rcases h with h|⟨a,cap,hv,hl,h⟩
  ·exact .inl ⟨k.dead h.1,h.2⟩
  refine .inr ⟨a,cap,hv,hl,?_⟩
  rcases h with ⟨hg,hl0,h1,h2⟩|⟨hg,b,off,C,e,fz,nQ,ha,hb,hz,h1,h2,h3,FY,hr⟩|⟨hg,FY,h⟩
  ·exact .inl ⟨TB.2 hg,by rw [hl0];rfl,h1,h2⟩
  ·exact .inr (.inl ⟨TB.2 hg,b,off,C,e,fz,nQ,ha,hb,hz,h1,h2,h3,FY,TC (k.sub g) _ _ _ _ _ hr⟩)
  ·refine .inr (.inr ⟨fun e=>hg (TB.1 e),FY,?_⟩)
   rcases h with rfl|⟨b,off,ha,ht,hr⟩
   ·exact .inl rfl
   ·exact .inr ⟨b,off,ha,k.tg ht,TC (k.sub g) _ _ _ _ _ hr⟩
 | .eH g c off,v,fp,h=>by
  simp only [mH,R] at h⊢
  rcases h with h|⟨FY,b,o,cs,hv,ht,hcs,hc,hr⟩
  ·exact .inl ⟨k.dead h.1,h.2⟩
  ·exact .inr ⟨FY,b,o,cs,hv,k.tg ht,hcs,hc,FI (k.sub g) _ _ _ hr⟩
 | .agg c,v,fp,h=>by
  simp only [mH,R] at h⊢
  obtain ⟨cs,h1,h2,h3⟩:=h
  exact ⟨cs,h1,h2,FI k c cs fp h3⟩
 | .gV c,v,fp,h=>by
  simp only [mH,R] at h⊢
  obtain ⟨cs,h1,h3⟩:=h
  exact ⟨cs,h1,FI k c cs fp h3⟩
 | .fn f c,v,fp,h=>by
  simp only [mH,R] at h⊢
  obtain ⟨h0,cs,h1,h3⟩:=h
  exact ⟨h0,cs,h1,FI k c cs [] h3⟩
 | .int _ _,v,fp,h=>by simpa [mH,R] using h
 | .bool _,v,fp,h=>by simpa [mH,R] using h
 | .str _,v,fp,h=>by simpa [mH,R] using h
 | .undef,v,fp,h=>by simpa [mH,R] using h
theorem FI {w:World} {i j:Nat} {E E':Env} (k:Ren i j E E'):∀(c:List AV) (cs:List Value) (fp:List Nat),Rc w E c cs fp->Rc w E' (qI i j c) cs fp
 |[],[],_,h=>by simpa [Rc,qI] using h
 |[],_::_,_,h=>by simp [Rc] at h
 |_::_,[],_,h=>by simp [Rc] at h
 |x::xs,c::cs,fp,h=>by
  simp only [Rc,qI] at h⊢
  obtain ⟨f1,f2,h1,h2,h3⟩:=h
  exact ⟨f1,f2,aLt k x c f1 h1,FI k xs cs f2 h2,h3⟩
theorem TC {w:World} {i j:Nat} {E E':Env} (k:Ren i j E E'):∀(l:List (List AV)) (b off n:Nat) (fp:List Nat),Rr w E l b off n fp->Rr w E' (sW i j l) b off n fp
 |[],_,_,_,_,h=>by simpa [Rr,sW] using h
 |e::es,b,off,n,fp,h=>by
  simp only [Rr,sW] at h⊢
  obtain ⟨cs,f1,f2,h1,h2,h3,h4,h5,h6⟩:=h
  exact ⟨cs,f1,f2,h1,h2,h3,FI k e cs f1 h4,TC k es b (off+n) n f2 h5,h6⟩
end
def aG.mH (i j:Nat) (ob:aG):aG:=if ob.box=true then {ob with dK:=sW i j ob.dK} else ob
def Tj (i j:Nat) (o:List aG):List aG:=(range o.length).map fun k=>((o[swp i j k]?).getD ⟨false,false,0,0,[]⟩).mH i j
theorem rV.ren {w:World} {i j:Nat} {E E':Env} {n:Nat} {l:List (List AV)} {a:Option Addr} {cap:Nat} {fp:List Nat} (k:Ren i j E E') (h:rV w E n l a cap fp):rV w E' n (sW i j l) a cap fp:=by
 refine ⟨by rw [wO];exact h.1,?_⟩
 rcases h.2 with h|⟨b,off,C,e,fz,nQ,ha,hb,hz,h1,h2,h3,FY,hr⟩
 ·exact .inl ⟨by rw [h.1];rfl,h.2⟩
 ·exact .inr ⟨b,off,C,e,fz,nQ,ha,hb,hz,h1,by rw [wO];exact h2,h3,FY,TC k _ _ _ _ _ hr⟩
theorem mi {t t':List AV} {o o':List aG} (i j:Nat) (hi:i < o.length) (hj:j < o.length) (hbi:∀ob,o[i]? =some ob->ob.box=false) (hbj:∀ob,o[j]? =some ob->ob.box=false) (ho:Tj i j o=o') (hw:wk (qI i j t) t'):lS ⟨t,o⟩ ⟨t',o'⟩:=by
 subst ho
 rintro P _ B a w ⟨G,r⟩
 have hlen:=r.len
 generalize hG':(range G.length).map (fun k=>(G[swp i j k]?).getD ⟨none,0,fun _=>False⟩)=G'
 have slt:∀k,k < o.length->swp i j k < o.length:=by intro k hk;unfold swp;split<;>(try split)<;>omega
 have fz:∀ob:aG,(ob.mH i j).live=ob.live/\(ob.mH i j).box=ob.box/\(ob.mH i j).n=ob.n/\(ob.mH i j).bN=ob.bN/\(ob.mH i j).dK.length=ob.dK.length:=by
  intro ob;unfold aG.mH;split<;>simp [wO]
 have og:∀k,(Tj i j o)[k]? =(o[swp i j k]?).map (aG.mH i j):=by
  intro k
  unfold Tj
  rw [getElem?_map]
  by_cases hk:k < o.length
  ·rw [getElem?_range hk]
   simp only [Option.map_some,getElem?_eq_getElem (slt k hk),Option.getD_some]
  ·have h1:(range o.length)[k]? =none:=by rw [List.getElem?_eq_none_iff];simp;omega
   have h2:swp i j k=k:=by unfold swp;rw [if_neg (by omega),if_neg (by omega)]
   rw [h1,h2,getElem?_eq_none (by omega)];rfl
 have gg:∀k,G'[k]? =G[swp i j k]?:=by
  intro k
  rw [<-hG',getElem?_map]
  by_cases hk:k < G.length
  ·rw [getElem?_range hk]
   have h3:swp i j k < G.length:=by rw [hlen];exact slt k (by rw [<-hlen];exact hk)
   simp only [Option.map_some,getElem?_eq_getElem h3,Option.getD_some]
  ·have h1:(range G.length)[k]? =none:=by rw [List.getElem?_eq_none_iff];simp;omega
   have h2:swp i j k=k:=by
    have:o.length=G.length:=hlen.symm
    unfold swp;rw [if_neg (by omega),if_neg (by omega)]
   rw [h1,h2,getElem?_eq_none (by omega)];rfl
 have back:∀{k ob g},look (Tj i j o) G' k ob g->∃uZ,look o G (swp i j k) uZ g/\ob=uZ.mH i j:=by
  rintro k ob g ⟨e1,e2⟩
  rw [og] at e1
  rw [gg] at e2
  cases hx:o[swp i j k]? with
  |none=>rw [hx] at e1;cases e1
  |some uZ=>
   rw [hx] at e1
   exact ⟨uZ,⟨hx,e2⟩,(Option.some.inj e1).symm⟩
 have QC:∀{k ob g},look o G k ob g->look (Tj i j o) G' (swp i j k) (ob.mH i j) g:=by
  rintro k ob g ⟨e1,e2⟩
  exact ⟨by rw [og,Ha,e1];rfl,by rw [gg,Ha,e2]⟩
 have aVi:∀{k ob g},look o G k ob g->ob.box=true->¬Bh i j k:=by
  rintro k ob g ⟨e1,_⟩ hb (rfl|rfl)
  ·rw [hbi ob e1] at hb;cases hb
  ·rw [hbj ob e1] at hb;cases hb
 have rn:Ren i j (env B o G w) (env B (Tj i j o) G' w):=by
  refine ⟨fun b h=>⟨h.1,fun k ob g hl Gl hF=> ?_⟩,fun k h ob uW=> ?_,fun k b h=> ?_,fun k bN x hm h=> ?_,fun k bN idx off x hm h=> ?_⟩
  ·obtain ⟨uZ,hl0,rfl⟩:=back hl
   exact h.2 _ _ _ hl0 (by rw [<-(fz uZ).1];exact Gl) hF
  ·have h1:=h (ob.mH i j) (by rw [og,Ha,uW];rfl)
   rw [(fz ob).1] at h1;exact h1
  ·obtain ⟨ob,g,hl,Gl,hF,hne⟩:=h
   exact ⟨_,g,QC hl,by rw [(fz ob).1];exact Gl,hF,hne⟩
  ·obtain ⟨ob,g,hl,wW,h5,hz⟩:=h
   refine ⟨_,g,QC hl,by rw [(fz ob).2.2.2.1];exact wW,fun Gl Pf=> ?_,fun jr y hy=> ?_⟩
   ·rw [(fz ob).2.2.2.2]
    exact h5 (by rw [<-(fz ob).1];exact Gl) (by rw [<-(fz ob).2.2.2.1];exact Pf)
   ·by_cases hmv:Bh i j k
    ·exact absurd jr (hm hmv)
    ·rw [TA hmv] at hy;exact hz jr y hy
  ·obtain ⟨ob,g,hl,wW,h5,hz⟩:=h
   have hf:=QC hl
   rw [TA hm] at hf
   refine ⟨_,g,hf,by rw [(fz ob).2.2.2.1];exact wW,fun Gl Pf=> ?_,fun hb hv e1 e2 y hy=> ?_⟩
   ·rw [(fz ob).2.2.1]
    exact h5 (by rw [<-(fz ob).1];exact Gl) (by rw [<-(fz ob).2.2.2.1];exact Pf)
   ·have:=hz (by rw [<-(fz ob).2.1];exact hb) hv e1 e2 y hy
    exact ⟨this.1,fun Gl Pf=>this.2 (by rw [<-(fz ob).1];exact Gl) (by rw [<-(fz ob).2.2.2.1];exact Pf)⟩
 refine ⟨G',{len:= ?_,defs:=r.defs,ok:= ?_,apart:= ?_,fresh:= ?_,tmps:=CR hw (FI rn _ _ _ r.tmps),size:=r.size,frame:=r.frame,base:=r.base,same:=r.same}⟩
 ·rw [<-hG'];simp [Tj,hlen]
 ·intro k ob g hl Gl
  obtain ⟨uZ,hl0,rfl⟩:=back hl
  obtain ⟨fp,hown,hnd,hF⟩:=r.ok _ _ g hl0 (by rw [<-(fz uZ).1];exact Gl)
  refine ⟨fp,?_,hnd,hF⟩
  cases hb0:uZ.box with
  |false=>
   have e:uZ.mH i j=uZ:=by unfold aG.mH;rw [if_neg (by simp [hb0])]
   rw [e]
   rw [hb0] at hown⊢
   exact hown.keeps (w:=w) (w':=w) ⟨fun b hb=>⟨rn.a b hb,rfl⟩,fun _ _=>trivial,fun _ _ _ h=>h.elim,fun _ _ _ h=>h.elim,fun _ _ _ _ _ h=>h.elim⟩ (fun _ _=>rfl)
  |true=>
   have e:uZ.mH i j={uZ with dK:=sW i j uZ.dK}:=by unfold aG.mH;rw [if_pos hb0]
   rw [e]
   simp only [hb0] at hown⊢
   simp only [Env.of,if_true] at hown⊢
   exact hown.ren rn
 ·intro p q op oq gp gq b hp hq hlp hlq hFp hFq
  obtain ⟨op0,jq,rfl⟩:=back hp
  obtain ⟨oq0,hq0,rfl⟩:=back hq
  have:=r.apart _ _ _ _ _ _ b jq hq0 (by rw [<-(fz op0).1];exact hlp) (by rw [<-(fz oq0).1];exact hlq) hFp hFq
  have h2:=congrArg (swp i j) this
  rwa [Ha,Ha] at h2
 ·intro k ob g b hl Gl hF
  obtain ⟨uZ,hl0,rfl⟩:=back hl
  exact r.fresh _ _ g b hl0 (by rw [<-(fz uZ).1];exact Gl) hF
theorem aDx {i j:Nat} {o:List aG} {oi oj:aG} (hi:o[i]? =some oi) (hj:o[j]? =some oj):Tj i j o=((o.set i oj).set j oi).map (aG.mH i j):=by
 have hil:=(List.getElem?_eq_some_iff.1 hi).1
 have hjl:=(List.getElem?_eq_some_iff.1 hj).1
 refine ext_getElem? fun k=> ?_
 unfold Tj
 rw [getElem?_map,getElem?_map]
 by_cases hk:k < o.length
 ·rw [getElem?_range hk]
  simp only [Option.map_some]
  by_cases hkj:k=j
  ·subst hkj
   rw [getElem?_set_self (by simpa using hk)]
   have:swp i k k=i:=by unfold swp;split<;>simp_all
   rw [this,hi];rfl
  ·rw [getElem?_set_ne (fun e=>hkj e.symm)]
   by_cases hki:k=i
   ·subst hki
    rw [getElem?_set_self hk]
    have:swp k j k=j:=by unfold swp;simp
    rw [this,hj];rfl
   ·rw [getElem?_set_ne (fun e=>hki e.symm)]
    have:swp i j k=k:=by unfold swp;rw [if_neg hki,if_neg hkj]
    rw [this,getElem?_eq_getElem hk];rfl
 ·have h1:(range o.length)[k]? =none:=by rw [List.getElem?_eq_none_iff];simp;omega
  have h2:((o.set i oj).set j oi)[k]? =none:=by rw [List.getElem?_eq_none_iff];simp;omega
  rw [h1,h2];rfl
theorem bJ {t t':List AV} {o o':List aG} (i j:Nat) {oi oj:aG} (hi:o[i]? =some oi) (hj:o[j]? =some oj) (hb:oi.box=false/\oj.box=false) (ho:((o.set i oj).set j oi).map (aG.mH i j)=o') (hw:wk (qI i j t) t'):lS ⟨t,o⟩ ⟨t',o'⟩:=
 mi i j (List.getElem?_eq_some_iff.1 hi).1 (List.getElem?_eq_some_iff.1 hj).1 (fun ob h=>by rw [hi] at h;obtain rfl:=Option.some.inj h;exact hb.1) (fun ob h=>by rw [hj] at h;obtain rfl:=Option.some.inj h;exact hb.2) (by rw [aDx hi hj];exact ho) hw
@[simp] theorem aNg (i j:Nat) (l:Bool) (n v:Nat) (dK:List (List AV)):aG.mH i j ⟨l,false,n,v,dK⟩=⟨l,false,n,v,dK⟩:=rfl
@[simp] theorem aNh (i j:Nat) (l:Bool) (n v:Nat) (dK:List (List AV)):aG.mH i j ⟨l,true,n,v,dK⟩=⟨l,true,n,v,sW i j dK⟩:=rfl
attribute [simp] mH qI sW H8 swp Bh
end Go.Aw

namespace Go.Aw
open List
def GG:Nat->List GA->List AV
 |_,[]=>[]
 |k,.view x::gs=>x::GG k gs
 |k,.mE x::gs=>(bW 1 k x).1::GG (k+(bW 1 k x).2.length) gs
 |k,.pX c _::gs=> .ptr k 2 0 0::GG (k+(1+(dX 1 (k+1) c).2.length)) gs
def CY:Nat->List GA->List aG
 |_,[]=>[]
 |k,.view _::gs=>CY k gs
 |k,.mE x::gs=>(bW 1 k x).2++CY (k+(bW 1 k x).2.length) gs
 |k,.pX c _::gs=>(⟨true,true,c.length,2,[(dX 1 (k+1) c).1]⟩::(dX 1 (k+1) c).2)++CY (k+(1+(dX 1 (k+1) c).2.length)) gs
def Fc (E:Env) (k:Nat) (os:List aG) (Gs:List CO):Prop:=
 ∀j ob g,look os Gs j ob g->E.H (k+j) ob.bN (.slice g.a ob.dK.length g.cap)/\(ob.box=true->∀b f,g.a=some ⟨b,f,none⟩->E.L (k+j) ob.bN 0 0 (.pointer (some ⟨b,f,none⟩)))
theorem Fc.left {E:Env} {k:Nat} {o1 o2:List aG} {G1 G2:List CO} (h:Fc E k (o1++o2) (G1++G2)):Fc E k o1 G1:=fun j ob g hl=>h j ob g (lH hl)
theorem Fc.right {E:Env} {k:Nat} {o1 o2:List aG} {G1 G2:List CO} (hlen:G1.length=o1.length) (h:Fc E k (o1++o2) (G1++G2)):Fc E (k+o1.length) o2 G2:=fun j ob g hl=>by
 have:=h _ ob g (mM hlen hl)
 rwa [<-Nat.add_assoc] at this
def Tf (w:World) (E:Env) (k:Nat) (os:List aG) (fp:List Nat) (pin:List CO->Prop) (done:Env->Prop):Prop:=
 ∃Gs:List CO,Gs.length=os.length/\
  (∀j ob g,look os Gs j ob g->ob.live=true/\(ob.box=false->ob.bN=1)/\(ob.box=true->ob.bN=2)/\∃f,f.Nodup/\(∀b,g.F b↔b∈f)/\(∀b∈f,b∈fp)/\
   ∀E',dU w E w E'->Fc E' k os Gs->rV w (E'.of ob.box) ob.n ob.dK g.a g.cap f)/\
  (∀i j oi oj gi gj b,look os Gs i oi gi->look os Gs j oj gj->gi.F b->gj.F b->i=j)/\pin Gs/\
  ∀E':Env,dU w E w E'->Fc E' k os Gs->done E'
theorem Tf.UY {w:World} {E:Env} {k:Nat} {os:List aG} {fp:List Nat} {done:Env->Prop} (h:jJ 1 w E k os fp done):Tf w E k os fp (fun _=>True) done:=by
 obtain ⟨Gs,h1,h2,h3,h4⟩:=h
 refine ⟨Gs,h1,fun j ob g hl=> ?_,h3,trivial,fun E' hk hf=>h4 E' hk fun j ob g hl=> ?_⟩
 ·obtain ⟨a1,a2,a3,f,a4,a5,a6,a7⟩:=h2 j ob g hl
  refine ⟨a1,fun _=>a3,(fun h=>by rw [a2] at h;cases h),f,a5,a6,a7,fun E' hk _=> ?_⟩
  rw [a2]
  exact a4.keeps hk.plain (fun _ _=>rfl)
 ·have:=(hf j ob g hl).1
  obtain ⟨_,_,a3,_⟩:=h2 j ob g hl
  rwa [a3] at this
theorem Tf.append {w:World} {E:Env} {k:Nat} {o1 o2:List aG} {f1 f2:List Nat} {p1 p2 p:List CO->Prop} {d1 d2 d:Env->Prop} (h1:Tf w E k o1 f1 p1 d1) (h2:Tf w E (k+o1.length) o2 f2 p2 d2) (hn:(f1++f2).Nodup)
  (hp:∀G1 G2,G1.length=o1.length->p1 G1->p2 G2->p (G1++G2)) (hd:∀E',d1 E'->d2 E'->d E'):Tf w E k (o1++o2) (f1++f2) p d:=by
 obtain ⟨G1,l1,a1,b1,q1,c1⟩:=h1
 obtain ⟨G2,l2,a2,b2,q2,c2⟩:=h2
 have hdj:=(nodup_append.1 hn).2.2
 refine ⟨G1++G2,by simp [l1,l2],?_,?_,hp G1 G2 l1 q1 q2,fun E' hk hf=>hd E' (c1 E' hk hf.left) (c2 E' hk (hf.right l1))⟩
 ·intro j ob g hl
  rcases mK l1 hl with ⟨_,h⟩|⟨_,h⟩
  ·obtain ⟨x,y,y',f,z1,z2,z3,z4⟩:=a1 _ _ _ h
   exact ⟨x,y,y',f,z1,z2,fun b hb=>mem_append_left _ (z3 b hb),fun E' hk hf=>z4 E' hk hf.left⟩
  ·obtain ⟨x,y,y',f,z1,z2,z3,z4⟩:=a2 _ _ _ h
   exact ⟨x,y,y',f,z1,z2,fun b hb=>mem_append_right _ (z3 b hb),fun E' hk hf=>z4 E' hk (hf.right l1)⟩
 ·intro i j oi oj gi gj b hi hj Fa Iz
  rcases mK l1 hi with ⟨_,h⟩|⟨hi',h⟩<;>rcases mK l1 hj with ⟨_,h'⟩|⟨au,h'⟩
  ·exact b1 _ _ _ _ _ _ b h h' Fa Iz
  ·obtain ⟨_,_,_,f,_,z2,z3,_⟩:=a1 _ _ _ h
   obtain ⟨_,_,_,f',_,z2',z3',_⟩:=a2 _ _ _ h'
   exact absurd rfl (hdj b (z3 b ((z2 b).1 Fa)) b (z3' b ((z2' b).1 Iz)))
  ·obtain ⟨_,_,_,f,_,z2,z3,_⟩:=a2 _ _ _ h
   obtain ⟨_,_,_,f',_,z2',z3',_⟩:=a1 _ _ _ h'
   exact absurd rfl (hdj b (z3' b ((z2' b).1 Iz)) b (z3 b ((z2 b).1 Fa)))
  ·have:=b2 _ _ _ _ _ _ b h h' Fa Iz
   omega
theorem F4 {w:World} {O:Nat->Prop} {k:Nat} {c c':List AV} {v:Value} {fp:List Nat} {cap:Nat} (h:RG w O (.pX c c') v fp cap) (hn:fp.Nodup):
  Tf w (oD w O) k (⟨true,true,c.length,2,[(dX 1 (k+1) c).1]⟩::(dX 1 (k+1) c).2) fp
   (fun Gs=>∃g b f,Gs[0]? =some g/\g.a=some ⟨b,f,none⟩/\v= .pointer (some ⟨b,f,none⟩)/\g.cap=cap) (fun E'=>R w E' (.ptr k 2 0 0) v []):=by
 simp only [RG] at h
 obtain ⟨b,f,rfl,hlen,hown⟩:=h
 rcases hown with ⟨h5,_⟩|⟨b',f',C,ty,fz,nQ,tZ,hbk,hz,k1,k2,k3,rfl,hr⟩
 ·cases h5
 simp only [Option.some.injEq,Addr.mk.injEq,and_true] at tZ
 obtain ⟨rfl,rfl⟩:=tZ
 simp only [Rr] at hr
 obtain ⟨cs,f1,f2,wU,hc,hone,rW,rfl,e⟩:=hr
 have e:nQ=f1:=by simpa using e
 subst e
 simp only [nodup_cons] at hn
 obtain ⟨Gs,a1,a2,a3,a4⟩:=AR (q:=1) c cs nQ (k+1) rW hn.2
 have tail:∀{j ob g},look (⟨true,true,c.length,2,[(dX 1 (k+1) c).1]⟩::(dX 1 (k+1) c).2) (⟨some ⟨b,f,none⟩,cap,fun x=>x=b⟩::Gs) j ob g->
   (j=0/\ob=⟨true,true,c.length,2,[(dX 1 (k+1) c).1]⟩/\g=⟨some ⟨b,f,none⟩,cap,fun x=>x=b⟩)\/∃j',j=j'+1/\look (dX 1 (k+1) c).2 Gs j' ob g:=by
  rintro j ob g ⟨h1,h2⟩
  cases j with
  |zero=>simp only [getElem?_cons_zero,Option.some.injEq] at h1 h2;exact .inl ⟨rfl,h1.symm,h2.symm⟩
  |succ j=>exact .inr ⟨j,rfl,by simpa using h1,by simpa using h2⟩
 have inner:∀{E':Env},Fc E' k (⟨true,true,c.length,2,[(dX 1 (k+1) c).1]⟩::(dX 1 (k+1) c).2) (⟨some ⟨b,f,none⟩,cap,fun x=>x=b⟩::Gs)->
   ∀j ob g,look (dX 1 (k+1) c).2 Gs j ob g->E'.H (k+1+j) 1 (.slice g.a ob.dK.length g.cap):=by
  intro E' hf j ob g hl
  have:=(hf (j+1) ob g ⟨by simpa using hl.1,by simpa using hl.2⟩).1
  obtain ⟨_,_,h3,_⟩:=a2 j ob g hl
  rw [h3] at this
  rwa [show k+1+j=k+(j+1) by omega]
 refine ⟨⟨some ⟨b,f,none⟩,cap,fun x=>x=b⟩::Gs,by simp [a1],?_,?_,⟨_,b,f,rfl,rfl,rfl,rfl⟩,?_⟩
 ·intro j ob g hl
  rcases tail hl with ⟨rfl,rfl,rfl⟩|⟨j',rfl,zS⟩
  ·refine ⟨rfl,(fun h=>by cases h),fun _=>rfl,[b],by simp,by simp,by simp,fun E' hk hf=> ?_⟩
   refine ⟨by simp [maxLen],.inr ⟨b,f,C,ty,fz,[],rfl,hbk,hz,k1,by simpa using k2,k3,rfl,?_⟩⟩
   simp only [Rr]
   exact ⟨cs,[],[],wU,hc,hone,a4 E' hk (inner hf),rfl,rfl⟩
  ·obtain ⟨h1,h2,h3,f',h4,h5,h6,h7⟩:=a2 _ _ _ zS
   refine ⟨h1,fun _=>h3,(fun h=>by rw [h2] at h;cases h),f',h5,h6,fun x hx=>mem_cons_of_mem _ (h7 x hx),fun E' hk _=> ?_⟩
   rw [h2]
   exact h4.keeps hk.plain (fun _ _=>rfl)
 ·intro i j oi oj gi gj x hi hj Fa Iz
  rcases tail hi with ⟨rfl,rfl,rfl⟩|⟨i',rfl,hi'⟩<;>rcases tail hj with ⟨rfl,rfl,rfl⟩|⟨j',rfl,au⟩
  ·rfl
  ·obtain ⟨_,_,_,f',_,_,h6,h7⟩:=a2 _ _ _ au
   have hx:x=b:=Fa
   subst hx
   exact absurd (h7 _ ((h6 _).1 Iz)) hn.1
  ·obtain ⟨_,_,_,f',_,_,h6,h7⟩:=a2 _ _ _ hi'
   have hx:x=b:=Iz
   subst hx
   exact absurd (h7 _ ((h6 _).1 Fa)) hn.1
  ·have:=a3 _ _ _ _ _ _ x hi' au Fa Iz
   omega
 ·intro E' hk hf
  simp only [R]
  exact ⟨trivial,(hf 0 _ _ ⟨rfl,rfl⟩).2 rfl b f rfl⟩
def pinned (gat:Nat->Option CO):Nat->List GA->List Value->List Nat->Prop
 |_,[],[],[]=>True
 |k,.view _::gs,_::vs,_::gX=>pinned gat k gs vs gX
 |k,.mE x::gs,_::vs,_::gX=>pinned gat (k+(bW 1 k x).2.length) gs vs gX
 |k,.pX c _::gs,v::vs,cap::gX=>(∃g b f,gat k=some g/\g.a=some ⟨b,f,none⟩/\v= .pointer (some ⟨b,f,none⟩)/\g.cap=cap)/\pinned gat (k+(1+(dX 1 (k+1) c).2.length)) gs vs gX
 |_,_,_,_=>False
theorem SC {w:World} {O:Nat->Prop}:∀(gs:List GA) (vs:List Value) (qC:List (List Nat)) (gX:List Nat) (k:Nat),BB w O gs vs qC gX->qC.flatten.Nodup->
  Tf w (oD w O) k (CY k gs) qC.flatten (fun Gs=>∀pre:List CO,pre.length=k->pinned (fun i=>(pre++Gs)[i]?) k gs vs gX) (fun E'=>Rc w E' (GG k gs) vs [])
 |[],[],[],[],k,_,_=>⟨[],rfl,fun j ob g hl=>by simp [look,CY] at hl,fun i j oi oj gi gj b hl=>by simp [look,CY] at hl,fun _ _=>by simp [pinned],fun E' _ _=>by simp [GG,Rc]⟩
 | .view x::gs,v::vs,fp::qC,cap::gX,k,h,hn=>by
  simp only [BB,RG] at h
  obtain ⟨⟨rfl,hx⟩,h⟩:=h
  simp only [flatten_cons,nil_append] at hn⊢
  obtain ⟨Gs,a1,a2,a3,a4,a5⟩:=SC gs vs qC gX k h hn
  refine ⟨Gs,a1,a2,a3,fun pre hp=>by simp only [pinned];exact a4 pre hp,fun E' hk hf=> ?_⟩
  ·simp only [GG,Rc]
   exact ⟨[],[],nK hk _ _ _ (by simp) hx,a5 E' hk hf,rfl⟩
 | .mE x::gs,v::vs,fp::qC,cap::gX,k,h,hn=>by
  simp only [BB,RG] at h
  obtain ⟨hx,h⟩:=h
  simp only [flatten_cons] at hn⊢
  have bz:=nodup_append.1 hn
  refine (Tf.UY (CE (q:=1) x v fp k hx bz.1)).append (SC gs vs qC gX (k+(bW 1 k x).2.length) h bz.2.1) hn (fun G1 G2 hl _ h2 pre hp=> ?_) (fun E' h1 h2=> ?_)
  ·simp only [pinned]
   have:=h2 (pre++G1) (by simp [hp,hl])
   simpa using this
  ·simp only [GG,Rc]
   exact ⟨[],[],h1,h2,rfl⟩
 | .pX c c'::gs,v::vs,fp::qC,cap::gX,k,h,hn=>by
  simp only [BB] at h
  obtain ⟨hx,h⟩:=h
  simp only [flatten_cons] at hn⊢
  have bz:=nodup_append.1 hn
  have h2:=SC gs vs qC gX (k+(1+(dX 1 (k+1) c).2.length)) h bz.2.1
  simp only [CY]
  refine (F4 hx bz.1).append (by
   rw [show k+(({live:=true,box:=true,n:=c.length,bN:=2,dK:=[(dX 1 (k+1) c).1]}:aG)::(dX 1 (k+1) c).2).length=k+(1+(dX 1 (k+1) c).2.length) by simp;omega]
   exact h2) hn (fun G1 G2 hl h1 h2 pre hp=> ?_) (fun E' h1 h2=> ?_)
  ·simp only [pinned]
   refine ⟨?_,?_⟩
   ·obtain ⟨g,b,f,e1,e2,e3,e4⟩:=h1
    refine ⟨g,b,f,?_,e2,e3,e4⟩
    subst hp
    rw [getElem?_append_right (by omega),Nat.sub_self]
    cases G1 with
    |nil=>simp at e1
    |cons _ _=>simpa using e1
   ·have:=h2 (pre++G1) (by simp only [length_append,hp,hl,length_cons];omega)
    simpa using this
  ·simp only [GG,Rc]
   exact ⟨[],[],h1,h2,rfl⟩
 |[],[],[],_::_,_,h,_=>by simp [BB] at h
 |[],[],_::_,_,_,h,_=>by simp [BB] at h
 |[],_::_,_,_,_,h,_=>by simp [BB] at h
 | .view _::_,[],_,_,_,h,_=>by simp [BB] at h
 | .view _::_,_::_,[],_,_,h,_=>by simp [BB] at h
 | .view _::_,_::_,_::_,[],_,h,_=>by simp [BB] at h
 | .mE _::_,[],_,_,_,h,_=>by simp [BB] at h
 | .mE _::_,_::_,[],_,_,h,_=>by simp [BB] at h
 | .mE _::_,_::_,_::_,[],_,h,_=>by simp [BB] at h
 | .pX _ _::_,[],_,_,_,h,_=>by simp [BB] at h
 | .pX _ _::_,_::_,[],_,_,h,_=>by simp [BB] at h
 | .pX _ _::_,_::_,_::_,[],_,h,_=>by simp [BB] at h
def cZ (s:AS):Nat->Nat->List GA->Prop
 |_,_,[]=>True
 |pos,k,.view _::gs=>cZ s (pos+1) k gs
 |pos,k,.mE x::gs=>cZ s (pos+1) (k+(bW 1 k x).2.length) gs
 |pos,k,.pX c c'::gs=>(s.t.getD pos .undef= .ptr k 2 0 0/\∃cells,s.o[k]? =some ⟨true,true,c.length,2,[cells]⟩/\kV s.o cells=true/\qQ s.o cells=c'/\Av c'=true)/\
   cZ s (pos+1) (k+(1+(dX 1 (k+1) c).2.length)) gs
def bZ (s:AS):Nat->List GA->List Nat
 |_,[]=>[]
 |k,.view _::gs=>bZ s k gs
 |k,.mE x::gs=>bZ s (k+(bW 1 k x).2.length) gs
 |k,.pX c _::gs=>(k::iR (rowOf s.o k))++bZ s (k+(1+(dX 1 (k+1) c).2.length)) gs
def eZ (P:Program) (fn:Func) (s:AS) (gs:List GA) (r:AV):Prop:=
 ∃ys,s.Cy P fn.results.toList=some ys/\iT s.o (single ys)=true/\res s.o (single ys)=r/\clean r=true/\cZ s 0 0 gs/\(bZ s 0 gs++lI (single ys)).Nodup
theorem DW {P:Program} [aD P] {B:fG P} {s:AS} {G:List CO} {a:Act} {w:World} (r:dN B s G a w) {gat:Nat->Option CO} (hp:∀i g,gat i=some g->B.p0 i=some (.pointer g.a,g.cap)):
  ∀(gs:List GA) (vs:List Value) (gX:List Nat) (pos k:Nat),pinned gat k gs vs gX->cZ s pos k gs->(bZ s k gs).Nodup->
  ∃qC,OY w gs vs qC gX/\qC.flatten.Nodup/\∀b∈qC.flatten,Of s.o G (bZ s k gs) b
 |[],[],[],pos,k,_,_,_=>⟨[],by simp [OY],by simp,by simp⟩
 | .view x::gs,v::vs,cap::gX,pos,k,h1,h2,h3=>by
  simp only [pinned] at h1
  simp only [cZ] at h2
  simp only [bZ] at h3⊢
  obtain ⟨qC,q1,q2,q3⟩:=DW r hp gs vs gX (pos+1) k h1 h2 h3
  exact ⟨[]::qC,by simp only [OY,RP];exact ⟨trivial,q1⟩,by simpa using q2,by simpa using q3⟩
 | .mE x::gs,v::vs,cap::gX,pos,k,h1,h2,h3=>by
  simp only [pinned] at h1
  simp only [cZ] at h2
  simp only [bZ] at h3⊢
  obtain ⟨qC,q1,q2,q3⟩:=DW r hp gs vs gX (pos+1) _ h1 h2 h3
  exact ⟨[]::qC,by simp only [OY,RP];exact ⟨trivial,q1⟩,by simpa using q2,by simpa using q3⟩
 | .pX c c'::gs,v::vs,cap::gX,pos,k,h1,h2,h3=>by
  simp only [pinned] at h1
  simp only [cZ] at h2
  simp only [bZ] at h3⊢
  obtain ⟨⟨g0,b0,f0,e1,e2,e3,e4⟩,h1⟩:=h1
  obtain ⟨⟨htp,cells,ho,uX,jD,wU⟩,h2⟩:=h2
  have hn:=nodup_append.1 h3
  obtain ⟨qC,q1,q2,q3⟩:=DW r hp gs vs gX (pos+1) _ h1 h2 hn.2.1
  have xx:rowOf s.o k=cells:=by simp [rowOf,ho]
  rw [xx] at hn⊢
  have uW:AV.isObj s.o k 2=some ⟨true,true,c.length,2,[cells]⟩:=by simp [AV.isObj,ho]
  obtain ⟨g,b,f,hl,hlive,hga,hv⟩:=r.ptr (x:= .tmp pos) htp uW
  have aCu:=r.pin (x:= .tmp pos) htp uW hl rfl rfl rfl rfl _ (hp k g0 e1)
  rw [hv] at aCu
  obtain ⟨sw,QM⟩:=aCu
  have sQ:g.cap=g0.cap:=QM rfl rfl
  simp only [Value.pointer.injEq] at sw
  rw [e2] at sw
  simp only [Nat.zero_mul,Nat.add_zero,Option.some.injEq,Addr.mk.injEq,and_true] at sw
  obtain ⟨rfl,rfl⟩:=sw
  obtain ⟨fp0,⟨_,hown⟩,Fe,Ll⟩:=r.ok k _ g hl rfl
  simp only [Env.of,if_true] at hown
  rcases hown with ⟨h5,_⟩|⟨b',f',C,ty,fz,nQ,tZ,hbk,hz,k1,k2,k3,rfl,hr⟩
  ·cases h5
  rw [hga] at tZ
  simp only [Option.some.injEq,Addr.mk.injEq,and_true] at tZ
  obtain ⟨rfl,rfl⟩:=tZ
  simp only [Rr] at hr
  obtain ⟨cs,f1,f2,hcn,hc,hone,rW,rfl,e⟩:=hr
  have e:nQ=f1:=by simpa using e
  subst e
  simp only [nodup_cons] at Fe
  have hn1:=hn.1
  simp only [nodup_cons] at hn1
  obtain ⟨wV,u1,u2,u3⟩:=Gh r hl rfl cells cs nQ uX hn1.2 hn1.1 Fe.2 (fun x hx=>Ll x (by simp [hx])) rW
  have Qs:g.F b:=Ll b (by simp)
  have PS:b∉wV:=fun hb=>by
   rcases u3 b hb with h|h
   ·exact Fe.1 h
   ·obtain ⟨j,oj,gj,hj,hlj,hjl,OX⟩:=h
    have:=r.apart k j _ _ _ _ b hl hlj rfl hjl Qs OX
    exact hn1.1 (this▸hj)
  rw [jD] at u1
  have u1':Rc w jU c' cs wV:=AU (E:=(env B s.o G w).plain) (fun _ _=>trivial) rfl rfl rfl _ _ _ wU u1
  have hin:∀x∈b::wV,Of s.o G (k::iR cells) x:=by
   intro x hx
   rcases mem_cons.1 hx with rfl|hx
   ·exact ⟨k,_,g,by simp,hl,rfl,Qs⟩
   ·rcases u3 x hx with h|h
    ·exact ⟨k,_,g,by simp,hl,rfl,Ll x (by simp [h])⟩
    ·exact zW (fun j hj=>by simp [hj]) h
  refine ⟨(b::wV)::qC,?_,?_,?_⟩
  ·simp only [OY,RP]
   refine ⟨⟨b,f,e3,by simp [maxLen],.inr ⟨b,f,C,ty,fz,wV,rfl,hbk,hz,?_,?_,?_,rfl,?_⟩⟩,q1⟩
   ·rw [<-e4,<-sQ];exact k1
   ·rw [<-e4,<-sQ];simpa using k2
   ·rw [<-e4,<-sQ];exact k3
   ·simp only [Rr]
    exact ⟨cs,wV,[],hcn,hc,hone,u1',rfl,by simp⟩
  ·simp only [flatten_cons,nodup_append]
   refine ⟨nodup_cons.2 ⟨PS,u2⟩,q2,fun x hx y hy e=> ?_⟩
   subst e
   exact Gi r (fun i hi j hj=>hn.2.2 i hi j hj) (hin x hx) (q3 x hy)
  ·intro x hx
   simp only [flatten_cons,mem_append] at hx
   rcases hx with hx|hx
   ·exact zW (fun i hi=>mem_append_left _ hi) (hin x hx)
   ·exact zW (fun i hi=>mem_append_right _ hi) (q3 x hx)
 |[],[],_::_,_,_,h,_,_=>by simp [pinned] at h
 |[],_::_,_,_,_,h,_,_=>by simp [pinned] at h
 | .view _::_,[],_,_,_,h,_,_=>by simp [pinned] at h
 | .view _::_,_::_,[],_,_,h,_,_=>by simp [pinned] at h
 | .mE _::_,[],_,_,_,h,_,_=>by simp [pinned] at h
 | .mE _::_,_::_,[],_,_,h,_,_=>by simp [pinned] at h
 | .pX _ _::_,[],_,_,_,h,_,_=>by simp [pinned] at h
 | .pX _ _::_,_::_,[],_,_,h,_,_=>by simp [pinned] at h
theorem MX {w:World} {O:Nat->Prop}:∀{gs:List GA} {vs:List Value} {qC:List (List Nat)} {gX:List Nat},BB w O gs vs qC gX->vs.length=gs.length
 |[],[],_,_,_=>rfl
 |_::gs,_::vs,[],_,h=>by simp [BB] at h
 |_::gs,_::vs,_::_,[],h=>by simp [BB] at h
 |_::gs,_::vs,_::qC,_::gX,h=>by simp only [BB] at h;simp [MX h.2]
 |[],_::_,_,_,h=>by simp [BB] at h
 |_::_,[],_,_,h=>by simp [BB] at h
theorem MZ {P:Program} [aD P] (hm:P.follows .mixedOrders=true) {f:FuncId} {fn:Func} {c:Code} (hf:P.funcs[f]? =some fn) (hb:fn.body=some c) {gs:List GA} {rr:AV}
  (h:qU P c ⟨GG 0 gs++replicate (fn.ntmps - gs.length) .undef,CY 0 gs⟩ (fun e s=>(e= .normal\/e= .ret)/\eZ P fn s gs rr)):IJ P f gs rr:=by
 intro w vs qC gX hg xe hnd hrg
 obtain ⟨Gs,hlen,zQ,hap,aCu,nL⟩:=SC gs vs qC gX 0 hrg hnd
 have hvl:=MX hrg
 generalize hB:(⟨w,fun b=>b < w.heap.size,(· ∈qC.flatten),fun _=>none,fun i=>(Gs[i]?).map fun g=>(.pointer g.a,g.cap),hg,fun b hb=>(xe b hb).1,fun b hb=>(xe b hb).2⟩:fG P)=B
 have MW:B.w0=w:=by rw [<-hB]
 have hA0:∀b,B.A0 b↔b < w.heap.size:=by intro b;rw [<-hB]
 have hO0:∀b,B.O0 b↔b∈qC.flatten:=by intro b;rw [<-hB]
 have hh0:∀i,B.h0 i=none:=by intro i;rw [<-hB]
 have jq:∀i g,Gs[i]? =some g->B.p0 i=some (.pointer g.a,g.cap):=by intro i g hg;rw [<-hB];simp [hg]
 have kE:dU w (oD w (· ∈qC.flatten)) w (env B (CY 0 gs) Gs w):=by
  refine ⟨fun b hb=>⟨⟨.inl ((hA0 b).2 hb.1),fun i ob g hl _ hF=> ?_⟩,rfl⟩,fun _ _=>trivial,fun _ _ _ h=>h.elim,fun _ _ _ h=>h.elim,fun _ _ _ _ _ h=>h.elim⟩
  obtain ⟨_,_,_,f',_,h2,h3,_⟩:=zQ _ _ _ hl
  exact hb.2 (h3 _ ((h2 _).1 hF))
 have fc:Fc (env B (CY 0 gs) Gs w) 0 (CY 0 gs) Gs:=by
  intro j ob g hl
  rw [Nat.zero_add]
  refine ⟨⟨ob,g,hl,Nat.le_refl _,fun _ _=>rfl,fun _ x hx=>by rw [hh0] at hx;cases hx⟩,fun _ b f hga=>⟨ob,g,hl,Nat.le_refl _,fun _ _=>⟨b,f,hga,by simp⟩,fun _ _ _ _ y hy=> ?_⟩⟩
  rw [jq _ _ hl.2] at hy
  obtain rfl:=Option.some.inj hy
  exact ⟨by rw [hga],fun _ _=>rfl⟩
 have r0:dN B ⟨GG 0 gs++replicate (fn.ntmps - gs.length) .undef,CY 0 gs⟩ Gs {tmps:=vs.toArray++Array.replicate (fn.ntmps - vs.toArray.size) Go.undef,defers:=[]} w:=by
  refine {len:=hlen,defs:=rfl,ok:= ?_,apart:= ?_,fresh:= ?_,tmps:= ?_,size:=by rw [MW];exact Nat.le_refl _,frame:=by rw [MW];exact fun _ _ _=>rfl,base:= ?_,same:=by rw [MW];exact lU.rfl}
  ·intro i ob g hl _
   obtain ⟨_,_,_,f',h1,h2,h3,h4⟩:=zQ _ _ _ hl
   exact ⟨f',h4 _ kE fc,h1,fun b hb=>(h2 b).2 hb⟩
  ·intro i j oi oj gi gj b hi hj _ _ Fa Iz
   exact hap _ _ _ _ _ _ b hi hj Fa Iz
  ·intro i ob g b hl _ hF
   obtain ⟨_,_,_,f',_,h2,h3,_⟩:=zQ _ _ _ hl
   have:=h3 _ ((h2 _).1 hF)
   exact ⟨.inl ((hO0 b).2 this),(xe b this).2⟩
  ·have h2:∀n,Rc w (env B (CY 0 gs) Gs w) (replicate n .undef) (replicate n Go.undef) []:=by
    intro n
    induction n with
    |zero=>simp [Rc]
    |succ n ih=>simp only [replicate_succ,Rc];exact ⟨[],[],by simp [R],ih,rfl⟩
   have:=kU (nL _ kE fc) (h2 (fn.ntmps - gs.length))
   simpa [hvl] using this
  ·intro b hb
   rw [MW];exact (hA0 b).1 hb
 refine calls_of_wp hf hb (wp_mono (qD hm c _ _ h _ _ ⟨_,r0⟩) fun e a w' he=> ?_)
 obtain ⟨s,⟨he,ys,yh,uX,jD,wU,hlo,hun⟩,G,r⟩:=he
 obtain ⟨u,hrun,hR⟩:=zY r yh
 have hun':=nodup_append.1 hun
 obtain ⟨fp,k1,k2,k3⟩:=JO r _ u uX hun'.2.1 hR
 rw [jD] at k1
 have aKp:pinned (fun i=>Gs[i]?) 0 gs vs gX:=by simpa using aCu [] rfl
 obtain ⟨zR,q1,q2,q3⟩:=DW r jq gs vs gX 0 0 aKp hlo hun'.1
 have hin:∀b∈zR.flatten++fp,(b∈qC.flatten\/w.heap.size<=b)/\b < w'.heap.size:=by
  intro b hb
  have:∃i ob g,look s.o G i ob g/\ob.live=true/\g.F b:=by
   rcases mem_append.1 hb with hb|hb
   ·obtain ⟨i,ob,g,_,h⟩:=q3 b hb;exact ⟨i,ob,g,h⟩
   ·obtain ⟨i,ob,g,_,h⟩:=k3 b hb;exact ⟨i,ob,g,h⟩
  obtain ⟨i,ob,g,hl,hlive,hF⟩:=this
  have:=r.fresh _ _ _ b hl hlive hF
  rw [MW,hO0] at this
  exact this
 have hfin:∃v fp zR,Ending.returned u= .returned v/\R w' jU rr v fp/\OY w' gs vs zR gX/\(zR.flatten++fp).Nodup/\
   (∀b∈zR.flatten++fp,(b∈qC.flatten\/w.heap.size<=b)/\b < w'.heap.size)/\w.heap.size<=w'.heap.size/\(∀b,b < w.heap.size->b∉qC.flatten->w'.heap[b]? =w.heap[b]?)/\lU w w':=by
  refine ⟨u,fp,zR,rfl,Gc (E:=(env B s.o G w').plain) (fun _ _=>trivial) rfl rfl rfl _ _ _ wU k1,q1,nodup_append.2 ⟨q2,k2,fun x hx y hy e=> ?_⟩,hin,by have:=r.size;rwa [MW] at this,fun b hb hn=>by have:=r.frame b (by rw [MW];exact hb) (fun h=>hn ((hO0 b).1 h));rwa [MW] at this,by have:=r.same;rwa [MW] at this⟩
  subst e
  exact Gi r (fun i hi j hj=>hun'.2.2 i hi j hj) (q3 x hx) (k3 x hy)
 rcases he with rfl|rfl
 ·exact ⟨r.defs,u,hrun,hfin⟩
 ·exact ⟨r.defs,u,hrun,hfin⟩
end Go.Aw

namespace Go.Aw
open List
theorem oI {P:Program} [aD P] (hm:P.follows .mixedOrders=true) {f:FuncId} {fn:Func} {c:Code} (hf:P.funcs[f]? =some fn) {n:Nat} (hn:fn.ntmps=n) {gs:List GA} {t:List AV} {o:List aG} {rr:AV}
  (h:qU P c ⟨t,o⟩ (fun e s=>(e= .normal\/e= .ret)/\eZ P fn s gs rr)) (hb:fn.body=some c:=by rfl)
  (ho:CY 0 gs=o:=by
   simp only [CY,nE,jV,Fp,xK,El,vB,Gq,xJ,Nat.add_zero,Nat.zero_add,Nat.reduceAdd,cons_append,nil_append,append_nil,length_cons,length_nil];rfl)
  (ht:GG 0 gs++replicate (n - gs.length) .undef=t:=by
   simp only [GG,nE,jV,Fp,xK,El,vB,Gq,xJ,Nat.add_zero,Nat.zero_add,length_cons,length_nil,Nat.reduceSub,Nat.reduceAdd,replicate_succ,replicate_zero,cons_append,nil_append,append_nil];rfl):IJ P f gs rr:=by
 subst ht;subst hn;subst ho;exact MZ hm hf hb h
end Go.Aw

namespace Go.Aw
open List
theorem aMa {P:Program} [aD P] (hm:P.follows .mixedOrders=true) {f:FuncId} {fn:Func} {c c':Code} (L:List Nat) (hf:P.funcs[f]? =some fn) {n:Nat} (hn:fn.ntmps=n) {gs:List GA} {t:List AV} {o:List aG} {rr:AV}
  (h:qU P c' ⟨t,o⟩ (fun e s=>(e= .normal\/e= .ret)/\eZ P fn s gs rr)) (hb:fn.body=some c:=by rfl)
  (hc:wM (fun i=>L.contains i) c=c':=by simp [wM];rfl)
  (ho:CY 0 gs=o:=by
   simp only [CY,nE,jV,Fp,xK,El,vB,Gq,xJ,Nat.add_zero,Nat.zero_add,Nat.reduceAdd,cons_append,nil_append,append_nil,length_cons,length_nil];rfl)
  (ht:GG 0 gs++replicate (n - gs.length) .undef=t:=by
   simp only [GG,nE,jV,Fp,xK,El,vB,Gq,xJ,Nat.add_zero,Nat.zero_add,length_cons,length_nil,Nat.reduceSub,Nat.reduceAdd,replicate_succ,replicate_zero,cons_append,nil_append,append_nil];rfl):IJ P f gs rr:=by
 subst ht;subst hn;subst ho;subst hc;rw [wN] at h;exact MZ hm hf hb h
end Go.Aw

namespace Go.Aw
open List
def oP (l:List (List AV)):Bool:=l.all fun r=>r.all AV.gQ
theorem YR {w:World} {E:Env}:∀(x:AV) (v:Value) (fp:List Nat),x.gQ=true->R w E x v fp->fp=[]:=by
 intro x v fp hx h
 cases x<;>simp only [AV.gQ] at hx<;>first|(cases hx;done)|(simp only [R] at h;exact h.2)|(simp only [R] at h;exact h.1)|simp_all [R]
theorem KE {w:World} {E:Env}:∀(c:List AV) (cs:List Value) (fp:List Nat),c.all AV.gQ=true->Rc w E c cs fp->fp=[]
 |[],[],fp,_,h=>by simpa [Rc] using h
 |[],_::_,_,_,h=>by simp [Rc] at h
 |_::_,[],_,_,h=>by simp [Rc] at h
 |x::xs,c::cs,fp,hp,h=>by
  simp only [all_cons,Bool.and_eq_true] at hp
  simp only [Rc] at h
  obtain ⟨f1,f2,h1,h2,h3⟩:=h
  have a:=YR _ _ _ hp.1 h1
  have b:=KE _ _ _ hp.2 h2
  subst a;subst b
  simpa using h3
theorem KF {w:World} {E:Env}:∀(l:List (List AV)) (news:List Value) (n:Nat) (fp:List Nat),oP l=true->Rv w E l news n fp->fp=[]
 |[],_,_,_,_,h=>by simp only [Rv] at h;simp_all
 |r::l,news,n,fp,hp,h=>by
  simp only [oP,all_cons,Bool.and_eq_true] at hp
  simp only [Rv] at h
  obtain ⟨cs,rest,f1,f2,h1,h2,h3,h4,h5,h6⟩:=h
  have a:=KE _ _ _ (by simpa using hp.1) h4
  have b:=KF l _ _ _ (by simpa [oP] using hp.2) h5
  subst a;subst b
  simpa using h6
section
variable {P : Program} [aD P] {B : fG P} {s : AS} {dst : Option Tmp} {ty : TypeId} {pos : String} {after : Array Edge} {gd : Option (Nat × Bool)}
theorem JD (tS xT:TypeId) (x y:Operand) {e:TypeId} {n by' i j bN:Nat} {ob oj:aG} {s1:AS} (he:gD P tS=some (e,n,by')) (hz:bL P e n=true) (PQ:dW P xT=true)
  (ht:s.target n (s.ev x)=some (i,ob,s1)) (hy:s1.ev y= .obj j bN) (ho:AV.isObj s1.o j bN=some oj) (hj:oj.box=false/\oj.n=n/\j≠i) (hpl:oP oj.dK=true)
  (Bv:(ob.dK.length+oj.dK.length) * by'<=140737488355328) (qb:ob.dK.length+oj.dK.length<=9223372036854775807):
  Step P B ⟨dst,.call {callee:= .builtin .append,args:=#[x,y],argTypes:=#[tS,xT]},ty,pos,after,gd⟩ s (s.wF s1.o dst i ob oj.dK):=
 oC fun G0 a w r0=>by
  obtain ⟨hu,inf,hi,hsz,hby⟩:=nT he
  obtain ⟨z,jm,hz2⟩:=wE hz hi
  obtain ⟨G,g,r,hl,hlive,rY,hn,hv,hst⟩:=r0.target ht
  have hev:=Ul hst y
  obtain ⟨gj,hlj,vk,hvj⟩:=r.Xp hy ho
  rw [hev] at hy
  have aMg:a.eval y= .slice gj.a oj.dK.length gj.cap:=hvj
  obtain ⟨fj,JR,aBv,OX⟩:=r.ok j oj gj hlj vk
  rw [hj.1] at JR
  obtain ⟨fp,hown,hnd,hF⟩:=r.ok i ob g hl hlive
  rw [rY] at hown
  obtain ⟨news,JN,CB⟩:∃news,Rv w (env B s1.o G w).plain oj.dK news ob.n []/\∀w',w'.heap=w.heap->(Builtin.firstCells ob.n oj.dK.length (.slice gj.a oj.dK.length gj.cap)).run P w'= .ok news.toArray w':=by
   have J4:oj.n=ob.n:=by rw [hj.2.1,hn]
   rcases JR.2 with ⟨h1,h2,h3⟩|⟨b,off,C,EF,fz,nQ,ha,hb,hz',k1,k2,k3,rfl,hr⟩
   ·refine ⟨[],by rw [h1];simp [Rv],fun w' _=> ?_⟩
    rw [h1]
    cases hga:gj.a with
    |none=>simp [Builtin.firstCells]
    |some a'=>simp [Builtin.firstCells,loadCells,loadCellsFrom]
   ·obtain ⟨vs,hv',hc'⟩:=pK.1 hr
    have h0:=KF _ _ _ _ hpl hv'
    subst h0
    refine ⟨vs,by rw [<-J4];exact hv',fun w' Zg=> ?_⟩
    rw [ha,<-J4]
    exact iZ (iH hv') (hc'.heap Zg)
  obtain ⟨v,w',G',hrun,GN,hR⟩:=r.append (P:=P) (ty:=ty) hl hlive rY hu (Cj PQ) hi jm (by rw [hsz,hn]) (by rw [hz2,hn]) (x:=a.eval y) (by rw [aMg];simp [Builtin.lenOf]) (by rw [aMg];exact CB) JN hown (by simpa using hnd) (by simpa using hF) (by rw [hby];exact Bv) qb
  refine ⟨v,w',by simp [execOp,resolve,invoke,builtin,hv,hrun],G',?_⟩
  have:=GN.put dst hR
  rw [hst] at this
  exact this
end
def AV.DD:AV->Bool
 | .agg c=>c.all AV.gQ
 |x=>x.gQ
theorem X6 {x:AV} (h:x.DD=true):x≠ .undef:=by
 cases x<;>simp_all [AV.DD,AV.gQ]
theorem Wp {o:List aG}:∀{c:List AV},(∀x∈c,x.DD=true)->qQ o c=c/\kV o c=true/\iR c=[]
 |[],_=>⟨rfl,rfl,rfl⟩
 |x::xs,h=>by
  obtain ⟨h1,h2,h3⟩:=Wp (o:=o) (c:=xs) fun y hy=>h y (by simp [hy])
  have hx:=h x (by simp)
  cases x with
  |agg c=>
   simp only [AV.DD] at hx
   obtain ⟨k1,k2,k3⟩:=Jk (o:=o) (c:=c) fun y hy=>all_eq_true.1 hx y hy
   simp [qQ,kV,iR,res,iT,lI,h1,h2,h3,k1,k2,k3]
  |_=>simp only [AV.DD,AV.gQ] at hx<;>first|(cases hx;done)|(simp [qQ,kV,iR,res,iT,lI,h1,h2,h3])
section
variable {P : Program} [aD P] {B : fG P} {s : AS} {dst : Option Tmp} {ty : TypeId} {pos : String} {after : Array Edge} {gd : Option (Nat × Bool)}
theorem Wq (t:TypeId) (len:Nat) (parts:Array (Nat×Operand)) {e:TypeId} {n by' i:Nat} (he:gD P t=some (e,n,by')) (hz:bL P e n=true) (IE:sM parts.toList=true) (hlen:len=parts.toList.length) (hbig:len * n<=16777216) (hbig2:len<=16777216)
  (hpl:∀x∈(parts.toList.map (·.2)).map s.ev,x.DD=true) (hgood:∀x∈(parts.toList.map (·.2)).map s.ev,x.Au=true/\x.cells.length=n) (hi':s.o[i]? =some ⟨true,false,n,0,[]⟩):
  Step P B ⟨dst,.buildSlice t len parts,ty,pos,after,gd⟩ s (AS.put ⟨s.t,s.o.set i ⟨true,false,n,1,((parts.toList.map (·.2)).map s.ev).map AV.cells⟩⟩ dst (.obj i 1)):=
 oC fun G a w r=>by
  generalize hxs:parts.toList.map (·.2)=xs at *
  have wY:parts.toList=(xs.zipIdx).map fun p=>(p.2,p.1):=by rw [<-hxs];exact BA _ 0 IE
  obtain ⟨sw,QM,hp3⟩:=Wp (o:=s.o) hpl
  obtain ⟨fp,rW,hnd,JU⟩:=EX r _ _ QM (by rw [hp3];simp) (tF r xs)
  have FY:fp=[]:=by
   cases fp with
   |nil=>rfl
   |cons b _=>
    obtain ⟨i,ob,g,hi,_⟩:=JU b (by simp)
    rw [hp3] at hi;cases hi
  subst FY
  rw [sw] at rW
  obtain ⟨JN,hsz⟩:=Lj rW hgood
  have hvl:(xs.map a.eval).length=len:=by rw [hlen,<-hxs];simp
  have hrun:(execOp a.eval ⟨dst,.buildSlice t len parts,ty,pos,after,gd⟩).run P w= .ok (.value (.slice (some ⟨w.heap.size,0,none⟩) len len)) (w.alloc (.cells ((xs.map a.eval).flatMap fun v=>v.cells.toList).toArray e)):=by
   have e1:parts.map (fun (i,x)=>(i,a.eval x))=(((xs.map a.eval).zipIdx).map fun p=>(p.2,p.1)).toArray:=by
    apply Array.ext'
    simp only [Array.toList_map,wY,map_map,zipIdx_map]
    rfl
   have:=qR (P:=P) (t:=t) (len:=len) (w:=w) he hz hvl.symm hbig hsz
   simp only [execOp,e1,Sem.run_bind,this,Result.andThen_ok,Sem.run_pure]
  have hlt:i < G.length:=by rw [r.len];exact (List.getElem?_eq_some_iff.1 hi').1
  have hlk:Aw.look s.o G i ⟨true,false,n,0,[]⟩ G[i]:=⟨hi',getElem?_eq_getElem hlt⟩
  generalize G[i]=g at hlk
  generalize hCd:((xs.map a.eval).flatMap fun v=>v.cells.toList)=cs at *
  have wU:=iH JN
  have hself:(w.alloc (.cells cs.toArray e)).heap[w.heap.size]? =some (.cells cs.toArray e):=eD w _
  have hrl:((xs.map s.ev).map AV.cells).length=len:=by
   have:=fB rW
   rw [length_map,<-this,hvl]
  have Qu:len<=maxLen:=by simp only [maxLen];omega
  have hm:=r.modify hlk rfl ⟨true,false,n,1,(xs.map s.ev).map AV.cells⟩ ⟨some ⟨w.heap.size,0,none⟩,len,fun b=>g.F b\/b=w.heap.size⟩ (w.alloc (.cells cs.toArray e)) (by simp) rfl (by simp)
   (fun b hb=>by
    rcases hb with hb|hb
    ·exact .inl hb
    ·right;subst hb;simp) (fun b hb hne=>⟨.inl hb,fun a' tZ=>by
     obtain rfl:=Option.some.inj tZ
     have:=(r.fresh _ _ _ b hlk rfl hb).2
     simp only;omega⟩) (fun b hlt _=>heap_alloc w _ b hlt) (by simp) (fun k _=>by
   refine ⟨[w.heap.size],?_,by simp,by simp⟩
   generalize env B _ _ (w.alloc (.cells cs.toArray e))=E' at k⊢
   simp only [Env.of,Bool.false_eq_true,if_false]
   refine ⟨by rw [hrl];exact Qu,.inr ⟨w.heap.size,0,cs.toArray,e,(0,0),[],rfl,hself,.inr rfl,?_,by rw [hrl];exact Nat.le_refl _,Qu,rfl,?_⟩⟩
   ·simp [wU]
    rw [<-hrl];simp
   ·refine pK.2 ⟨cs,rX k.plain (fun b hb=>by cases hb) JN,?_⟩
    refine nS hself (fun j v hv=>by simpa using hv))
  have hl2:Aw.look (s.o.set i ⟨true,false,n,1,(xs.map s.ev).map AV.cells⟩) (G.set i ⟨some ⟨w.heap.size,0,none⟩,len,fun b=>g.F b\/b=w.heap.size⟩) i ⟨true,false,n,1,(xs.map s.ev).map AV.cells⟩ ⟨some ⟨w.heap.size,0,none⟩,len,fun b=>g.F b\/b=w.heap.size⟩:=nR hlk
  refine ⟨_,_,hrun,_,hm.1.put dst ?_⟩
  simp only [R]
  exact ⟨trivial,_,_,hl2,Nat.le_refl _,fun _ _=>by rw [hrl],fun h=>absurd h (by decide)⟩
end
theorem aEi {P:Program} [aD P] {dst:Option Tmp} {ty:TypeId} {pos:String} {after:Array Edge} {gd:Option (Nat×Bool)} {m:List AV} {view:List aG} {pl:Nat} {T:TypeId} {len:Nat} {parts:Array (Nat×Operand)} {e:TypeId} {n by':Nat} {xs:List AV}
  (he:gD P T=some (e,n,by')) (hz:bL P e n=true) (IE:sM parts.toList=true) (hlen:len=parts.toList.length) (hbig:len * n<=16777216) (hbig2:len<=16777216)
  (hxs:(parts.toList.map (·.2)).map (AS.ev ⟨m,view⟩)=xs) (hpl:∀x∈xs,x.DD=true) (hgood:∀x∈xs,x.Au=true/\x.cells.length=n) (hv:view[pl]? =some (hole n)):
  FH P ⟨dst,.buildSlice T len parts,ty,pos,after,gd⟩ m view pl (.obj pl 1) ⟨true,false,n,1,xs.map AV.cells⟩:=by
 intro B t2 o2 hw hs _
 have e2:(parts.toList.map (·.2)).map (AS.ev ⟨t2,o2⟩)=xs:=by
  have key:∀(l:List Operand) (xs:List AV),l.map (AS.ev ⟨m,view⟩)=xs->(∀x∈xs,x.DD=true)->l.map (AS.ev ⟨t2,o2⟩)=xs:=by
   intro l
   induction l with
   |nil=>intro xs h _;exact h
   |cons a l ih=>
    intro xs h hp
    cases xs with
    |nil=>cases h
    |cons x xs=>
     simp only [map_cons,List.cons.injEq] at h⊢
     exact ⟨DU hw h.1 (X6 (hp x (by simp))),ih xs h.2 fun y hy=>hp y (by simp [hy])⟩
  exact key _ _ hxs hpl
 have ho:o2[pl]? =some ⟨true,false,n,0,[]⟩:=hs pl _ hv rfl
 have:=Wq (P:=P) (B:=B) (s:=⟨t2,o2⟩) (dst:=dst) (ty:=ty) (pos:=pos) (after:=after) (gd:=gd) T len parts (i:=pl) he hz IE hlen hbig hbig2 (by rw [e2];exact hpl) (by rw [e2];exact hgood) ho
 rw [e2,put_eq] at this
 exact this
theorem Ws {P:Program} [aD P] {dst:Option Tmp} {ty:TypeId} {pos:String} {after:Array Edge} {gd:Option (Nat×Bool)} {m:List AV} {view:List aG} {pl:Nat} {T:TypeId} {len:Nat} {parts:Array (Nat×Operand)} {e:TypeId} {n by':Nat} {xs:List AV} {dK:List (List AV)}
  (he:gD P T=some (e,n,by')) (hz:bL P e n=true) (IE:sM parts.toList=true) (hlen:len=parts.toList.length) (hbig:len * n<=16777216) (hbig2:len<=16777216)
  (hxs:(parts.toList.map (·.2)).map (AS.ev ⟨m,view⟩)=xs) (hpl:∀x∈xs,x.DD=true) (hgood:∀x∈xs,x.Au=true/\x.cells.length=n) (hv:view[pl]? =some (hole n)) (hels:xs.map AV.cells=dK):
  FH P ⟨dst,.buildSlice T len parts,ty,pos,after,gd⟩ m view pl (.obj pl 1) ⟨true,false,n,1,dK⟩:=by
 subst hels
 exact aEi he hz IE hlen hbig hbig2 hxs hpl hgood hv
theorem Cg {P:Program} [aD P] {dst:Option Tmp} {ty:TypeId} {pos:String} {after:Array Edge} {gd:Option (Nat×Bool)} {m:List AV} {view:List aG} {pl v v' q u:Nat} {x y:Operand} {tS xT:TypeId} {e:TypeId} {n by':Nat} {dK aMh:List (List AV)} {l2:List (List AV)}
  (hx:AS.ev ⟨m,view⟩ x= .obj pl v) (hvv:v+1=v') (hv:view[pl]? =some ⟨true,false,n,v,dK⟩) (hy:AS.ev ⟨m,view⟩ y= .obj q u) (hq:view[q]? =some ⟨true,false,n,u,l2⟩) (hqp:q≠pl) (hpl:oP l2=true) (hels:dK++l2=aMh)
  (he:gD P tS=some (e,n,by')) (hz:bL P e n=true) (PQ:dW P xT=true) (Bv:(dK.length+l2.length) * by'<=140737488355328) (qb:dK.length+l2.length<=9223372036854775807):
  FH P ⟨dst,.call {callee:= .builtin .append,args:=#[x,y],argTypes:=#[tS,xT]},ty,pos,after,gd⟩ m view pl (.obj pl v') ⟨true,false,n,v',aMh⟩:=by
 subst hels;subst hvv
 intro B t2 o2 hw hs _
 have ho:o2[pl]? =some ⟨true,false,n,v,dK⟩:=hs pl _ hv rfl
 have PU:o2[q]? =some ⟨true,false,n,u,l2⟩:=hs q _ hq rfl
 have hx2:AS.ev ⟨t2,o2⟩ x= .obj pl v:=DU hw hx (by simp)
 have hy2:AS.ev ⟨t2,o2⟩ y= .obj q u:=DU hw hy (by simp)
 have CF:AV.isObj o2 pl v=some ⟨true,false,n,v,dK⟩:=by simp [AV.isObj,ho]
 have aQs:AV.isObj o2 q u=some ⟨true,false,n,u,l2⟩:=by simp [AV.isObj,PU]
 have:=JD (P:=P) (B:=B) (s:=⟨t2,o2⟩) (dst:=dst) (ty:=ty) (pos:=pos) (after:=after) (gd:=gd) tS xT x y (i:=pl) (ob:=⟨true,false,n,v,dK⟩) (s1:=⟨t2,o2⟩) (oj:=⟨true,false,n,u,l2⟩) he hz PQ
  (by rw [hx2];simp only [AS.target,CF,and_self,if_true]) hy2 aQs ⟨rfl,rfl,hqp⟩ hpl Bv qb
 simp only [AS.wF,put_eq] at this
 exact this
theorem vZ {α:Type} {f:α->List AV} (h:∀x,(f x).all AV.gQ=true) (l:List α):oP (l.map f)=true:=by
 simp [oP,all_eq_true]
 intro a _ x hx
 exact all_eq_true.1 (h a) x hx
end Go.Aw

namespace Go.Aw
open List
theorem YF {t t':List AV} {o o':List aG} (i k:Nat) {ob:aG} {e e':List AV} (ho:o[i]? =some ob) (hl:ob.live=true) (hb:ob.box=false) (hall:(o.all fun x=> !x.box || x.dK.all fun c=>sU i c)=true) (he:ob.dK[k]? =some e)
  (hc:wT EZ true e=e') (ho':o.set i {ob with dK:=ob.dK.set k e'}=o') (hw:wk (wT (gM [i]) true t) t'):lS ⟨t,o⟩ ⟨t',o'⟩:=by
 subst ho';subst hc
 rintro P _ B a w ⟨G,r⟩
 have nb:∀{j x g},look o G j x g->x.box=true->(x.dK.all fun c=>sU i c)=true:=fun h hb=>by
  have:=all_eq_true.1 hall _ (mem_of_getElem? h.1)
  simpa only [hb,Bool.not_true,Bool.false_or] using this
 obtain ⟨g,hlk⟩:=r.look ho
 obtain ⟨fp,hown,hnd,hF⟩:=r.ok i ob g hlk hl
 simp only [hb,Env.of,Bool.false_eq_true,if_false] at hown
 obtain ⟨hlen,⟨h,_⟩|⟨b,off,C,ty,fz,nQ,ha,hbk,hz,h1,h2,h3,rfl,hr⟩⟩:=hown
 ·rw [h] at he;simp at he
 have hk:k < ob.dK.length:=(List.getElem?_eq_some_iff.1 he).1
 obtain ⟨f1,f2,f3,cs,rfl,hn,hcs,hone,hre,hr1,hr3⟩:=wX hr he
 have hsub2:∀x∈f2,g.F x:=fun x hx=>hF x (by simp [hx])
 generalize tY:({ob with dK:=ob.dK.set k (wT EZ true e)}:aG)=dY
 generalize hg':({g with F:=fun x=>g.F x/\x∉f2}:CO)=g'
 generalize hO:o.set i dY=o'
 generalize Xi:G.set i g'=G'
 have back:∀{j x y},look o' G' j x y->(j=i/\x=dY/\y=g')\/(j≠i/\look o G j x y):=by
  intro j x y h
  rw [<-hO,<-Xi] at h
  exact wD h
 have fi:look o' G' i dY g':=by rw [<-hO,<-Xi];exact nR hlk
 have fo:∀{j x y},j≠i->look o G j x y->look o' G' j x y:=fun hj h=>by rw [<-hO,<-Xi];exact zT h hj
 have aK3:dY.live=true:=by rw [<-tY];exact hl
 have aL3:dY.box=false:=by rw [<-tY];exact hb
 have H5:dY.n=ob.n:=by rw [<-tY]
 have aK4:dY.bN=ob.bN:=by rw [<-tY]
 have H6:dY.dK.length=ob.dK.length:=by rw [<-tY];simp
 have hga:g'.a=g.a:=by rw [<-hg']
 have hgc:g'.cap=g.cap:=by rw [<-hg']
 have Pd:∀x,g'.F x↔g.F x/\x∉f2:=fun x=>by rw [<-hg']
 let Er:Env:=(env B o G w).no i
 have xh:lL (gM [i]) true (env B o G w) Er (fun _=>True):=by
  refine ⟨fun t e=>by simp [gM] at e,fun t e=>by simp only [gM,Option.some.injEq] at e;exact ⟨e.symm,fun b hb=>hb⟩,fun j t e=> ?_,fun _ _ _ _ h=>h,fun _ _ _ _ _ _ h=>h⟩
  simp only [gM] at e
  split at e
  ·cases e
  ·rename_i hiu
   obtain rfl:=Option.some.inj e
   refine ⟨by simp,?_,fun b hb=>⟨hiu,hb⟩⟩
   by_cases hV:(env B o G w).V j
   ·exact .inl hV
   ·exact .inr hV
 have kA:∀x,(env B o G w).A x->(env B o' G' w).A x:=fun x hx=>⟨hx.1,fun j y z hlj hjl hf=>by
  rcases back hlj with ⟨rfl,rfl,rfl⟩|⟨_,h⟩
  ·exact hx.2 _ _ _ hlk hl ((Pd x).1 hf).1
  ·exact hx.2 _ _ _ h hjl hf⟩
 have kS:∀x∈f2,(env B o' G' w).A x:=fun x hx=>⟨(r.fresh _ _ _ x hlk hl (hsub2 x hx)).elim fun h1 h2=>h1.elim (fun h=> .inl (B.gA x h)) fun h=> .inr ⟨h,h2⟩,fun j y z hlj hjl hf=>by
  rcases back hlj with ⟨rfl,rfl,rfl⟩|⟨hj,h⟩
  ·exact ((Pd x).1 hf).2 hx
  ·exact hj (r.apart _ _ _ _ _ _ x h hlk hjl hl hf (hsub2 x hx))⟩
 have k2':dU w Er w (env B o' G' w):=by
  refine ⟨fun x hx=>⟨kA x hx,rfl⟩,fun j h x hx=> ?_,fun j x hV h=> ?_,fun j bN x h=> ?_,fun j bN p q x h=> ?_⟩
  ·obtain ⟨y,hy⟩:=r.look hx
   by_cases hj:j=i
   ·subst hj
    rw [ho] at hx
    obtain rfl:=Option.some.inj hx;exact hl
   ·exact h x (fo hj hy).1
  ·obtain ⟨hji,x',y,hlj,hjl,hf,hne⟩:=h
   exact ⟨⟨x',y,fo (by simpa using hji) hlj,hjl,hf,hne⟩,rfl⟩
  ·obtain ⟨x',y,hlj,wW,hh,hz⟩:=h
   by_cases hj:j=i
   ·subst hj
    obtain ⟨rfl,rfl⟩:=jI hlk hlj
    exact ⟨dY,g',fi,by omega,fun _ Pf=>by rw [hga,hgc,H6];exact hh hl (by omega),hz⟩
   ·exact ⟨x',y,fo hj hlj,wW,hh,hz⟩
  ·obtain ⟨x',y,hlj,wW,hh,hz⟩:=h
   by_cases hj:j=i
   ·subst hj
    obtain ⟨rfl,rfl⟩:=jI hlk hlj
    exact ⟨dY,g',fi,by omega,fun _ Pf=>by rw [hga,H5];exact hh hl (by omega),fun h=>by rw [aL3] at h;cases h⟩
   ·exact ⟨x',y,fo hj hlj,wW,hh,hz⟩
 have kp:dU w (env B o G w).plain w (env B o' G' w).plain:=⟨fun x hx=>⟨kA x hx,rfl⟩,fun _ _=>trivial,fun _ _ _ h=>h.elim,fun _ _ _ h=>h.elim,fun _ _ _ _ _ h=>h.elim⟩
 have rv:lL EZ true (env B o G w).plain (env B o' G' w).plain (fun x=>x∈f2):=by
  refine ⟨fun t e=> ?_,fun t e=> ?_,fun j t e=>by simp [EZ] at e,fun _ _ _ _ h=>h.elim,fun _ _ _ _ _ _ h=>h.elim⟩
  ·simp only [EZ,Option.some.injEq] at e
   subst e
   exact ⟨by simp,fun b hb=>kS b hb⟩
  ·simp only [EZ,Option.some.injEq] at e
   exact ⟨e.symm,fun b hb=>kA b hb⟩
 have hnd':=hnd
 simp only [nodup_cons] at hnd'
 refine ⟨G',{len:=by rw [<-hO,<-Xi];simp [r.len],defs:=r.defs,ok:= ?_,apart:= ?_,fresh:= ?_,tmps:=CR hw (dF k2' _ _ _ (by simp) (uB xh _ _ _ (by simp) r.tmps)),size:=r.size,frame:=r.frame,base:=r.base,same:=r.same}⟩
 ·intro j x y hlj hjl
  rcases back hlj with ⟨rfl,rfl,rfl⟩|⟨hj,h⟩
  ·refine ⟨b::(f1++[]++f3),?_,?_,?_⟩
   ·rw [aL3,<-tY,<-hg']
    simp only [Env.of,Bool.false_eq_true,if_false]
    refine ⟨by simpa using hlen,.inr ⟨b,off,C,ty,fz,_,ha,hbk,hz,h1,by simpa using h2,h3,rfl,?_⟩⟩
    exact Qq hk hn hcs hone (uB rv _ _ _ (fun x hx=>hx) hre) (kQ kp _ _ _ _ _ rfl (fun _ _=>rfl) hr1) (kQ kp _ _ _ _ _ rfl (fun _ _=>rfl) hr3)
   ·have hs:(f1++[]++f3).Sublist (f1++f2++f3):=((Sublist.refl f1).append (nil_sublist f2)).append (Sublist.refl f3)
    exact nodup_cons.2 ⟨fun h=>hnd'.1 (hs.subset h),hs.nodup hnd'.2⟩
   ·intro x hx
    rw [Pd]
    have hin:x∈b::(f1++f2++f3):=by
     simp only [mem_cons,mem_append,not_mem_nil,or_false] at hx⊢
     grind
    refine ⟨hF x hin,fun hx2=> ?_⟩
    have hd:=hnd'.2
    simp only [nodup_append,mem_append] at hd
    simp only [mem_cons,mem_append,not_mem_nil,or_false] at hx
    rcases hx with rfl|hx|hx
    ·exact hnd'.1 (by simp [hx2])
    ·exact hd.1.2.2 x hx x hx2 rfl
    ·exact hd.2.2 x (.inr hx2) x hx rfl
  ·obtain ⟨fq,q1,q2,q3⟩:=r.ok j x y h hjl
   refine ⟨fq,?_,q2,q3⟩
   cases hbj:x.box with
   |false=>
    simp only [hbj,Env.of,Bool.false_eq_true,if_false] at q1⊢
    exact q1.keeps kp (fun _ _=>rfl)
   |true=>
    simp only [hbj,Env.of,if_true] at q1⊢
    exact (q1.Cq (nb h hbj)).keeps k2' (fun _ _=>rfl)
 ·intro j1 j2 x1 x2 y1 y2 z hl1 hl2 v1 v2 hf1 hf2
  rcases back hl1 with ⟨rfl,rfl,rfl⟩|⟨hj1,h1⟩<;>rcases back hl2 with ⟨rfl,rfl,rfl⟩|⟨hj2,h2⟩
  ·rfl
  ·exact absurd (r.apart _ _ _ _ _ _ z hlk h2 hl v2 ((Pd z).1 hf1).1 hf2).symm hj2
  ·exact absurd (r.apart _ _ _ _ _ _ z h1 hlk v1 hl hf1 ((Pd z).1 hf2).1) hj1
  ·exact r.apart _ _ _ _ _ _ z h1 h2 v1 v2 hf1 hf2
 ·intro j x y z hlj hjl hf
  rcases back hlj with ⟨rfl,rfl,rfl⟩|⟨_,h⟩
  ·exact r.fresh _ _ _ z hlk hl ((Pd z).1 hf).1
  ·exact r.fresh _ _ _ z h hjl hf
theorem go_openB {P:Program} [aD P] (i k c:Nat) {id:Nat} {L:List Oper} {Q:Exit->AS->Prop} {t t':List AV} {o o':List aG} {ob:aG} {e:List AV} {m:Nat} {rows:List (List AV)} (ho:o[i]? =some ob) (he:ob.dK[k]? =some e) (hc:e[c]? =some (.sl .own m rows))
  (h:qU P (.region id L.toArray false) ⟨t',o'⟩ Q) (hl:ob.live=true:=by rfl) (hb:ob.box=true:=by rfl) (hall:(o.all fun x=> !x.box || x.dK.all fun c=>sU i c)=true:=by simp)
  (ho':o.set i {ob with dK:=ob.dK.set k (e.set c (.obj o.length 1))}++[⟨true,false,m,1,rows⟩]=o':=by simp;rfl) (hw:wT (gM [i]) true t=t':=by simp;rfl):qU P (VO (.region id L.toArray false)) ⟨t,o⟩ Q:=
 go_weak (qX i k c ho hl hb hall he hc ho' (hw▸kK _)) h
theorem go_share {P:Program} [aD P] (i k:Nat) {id:Nat} {L:List Oper} {Q:Exit->AS->Prop} {t t':List AV} {o o':List aG} {ob:aG} {e e':List AV} (ho:o[i]? =some ob) (he:ob.dK[k]? =some e) (he':wT EZ true e=e')
  (h:qU P (.region id L.toArray false) ⟨t',o'⟩ Q) (hl:ob.live=true:=by rfl) (hb:ob.box=false:=by rfl) (hall:(o.all fun x=> !x.box || x.dK.all fun c=>sU i c)=true:=by simp)
  (ho':o.set i {ob with dK:=ob.dK.set k e'}=o':=by simp;rfl) (hw:wT (gM [i]) true t=t':=by simp;rfl):qU P (VO (.region id L.toArray false)) ⟨t,o⟩ Q:=
 go_weak (YF i k ho hl hb hall he he' ho' (hw▸kK _)) h
end Go.Aw

namespace Go.Aw
open List
theorem Ru {t t':List AV} {o o':List aG} (i:Nat) {ob:aG} (ho:o[i]? =some ob) (ho':o.set i ⟨false,false,0,ob.bN,[]⟩=o') (hw:wk t t'):lS ⟨t,o⟩ ⟨t',o'⟩:=by
 subst ho'
 rintro P _ B a w ⟨G,r⟩
 obtain ⟨g,hlk⟩:=r.look ho
 have hi:i < o.length:=(List.getElem?_eq_some_iff.1 ho).1
 have back:∀{j x y},look (o.set i ⟨false,false,0,ob.bN,[]⟩) G j x y->(j=i/\x=⟨false,false,0,ob.bN,[]⟩)\/(j≠i/\look o G j x y):=by
  intro j x y ⟨h1,h2⟩
  rw [getElem?_set] at h1
  by_cases hj:i=j
  ·subst hj
   rw [if_pos rfl,if_pos hi] at h1
   exact .inl ⟨rfl,(Option.some.inj h1).symm⟩
  ·rw [if_neg hj] at h1
   exact .inr ⟨fun h=>hj h.symm,h1,h2⟩
 have k:dU w (env B o G w) w (env B (o.set i ⟨false,false,0,ob.bN,[]⟩) G w):=
  AP (Nat.le_refl _) (fun b hb=>⟨sP r hb,rfl⟩) r.len
   (fun j x y h=>by
    by_cases hj:j=i
    ·subst hj
     obtain ⟨rfl,rfl⟩:=jI hlk h
     exact ⟨⟨false,false,0,ob.bN,[]⟩,g,⟨by rw [getElem?_set];simp [hi],hlk.2⟩,Nat.le_refl _,(fun h=>by cases h),fun h=>by cases h⟩
    ·refine ⟨x,y,⟨by rw [getElem?_set,if_neg (fun e=>hj e.symm)];exact h.1,h.2⟩,Nat.le_refl _,fun h=> .inl h,fun hl=>⟨hl,rfl,fun _=>⟨rfl,rfl,rfl⟩,fun b h1 h2=>⟨h1,h2,rfl⟩⟩⟩)
   (fun j x y b h hl hf=>by
    rcases back h with ⟨_,rfl⟩|⟨_,h⟩
    ·cases hl
    ·exact .inr ⟨j,x,y,h,hl,hf⟩)
 refine ⟨G,{len:=by simp [r.len],defs:=r.defs,ok:= ?_,apart:= ?_,fresh:= ?_,tmps:=CR hw (dF k _ _ _ (by simp) r.tmps),size:=r.size,frame:=r.frame,base:=r.base,same:=r.same}⟩
 ·intro j x y h hl
  rcases back h with ⟨_,rfl⟩|⟨_,h⟩
  ·cases hl
  ·exact (r.ok j x y h hl).keeps k (fun _ _=>rfl)
 ·intro j1 j2 x1 x2 y1 y2 z h1 h2 l1 l2 f1 f2
  rcases back h1 with ⟨_,rfl⟩|⟨_,h1⟩
  ·cases l1
  ·rcases back h2 with ⟨_,rfl⟩|⟨_,h2⟩
   ·cases l2
   ·exact r.apart _ _ _ _ _ _ z h1 h2 l1 l2 f1 f2
 ·intro j x y z h hl hf
  rcases back h with ⟨_,rfl⟩|⟨_,h⟩
  ·cases hl
  ·exact r.fresh _ _ _ z h hl hf
end Go.Aw
