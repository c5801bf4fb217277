/-
  Proved here: steps towards the statement of this claim, text F8.
  No condition beyond what each statement spells out.
-/
import Derived.Test.YtaddkhdghlaalaaGreatDoorF6
import Derived.Test.YtaddkhdghlaalaaGreatDoorF3
import Derived.Test.YtaddkhdghlaalaaGreatDoorF9
import Derived.Test.YtaddkhdghlaalaaGreatDoorF4
set_option linter.all false
namespace Go.Aw
section
variable {P : Program} [aB P] {B : Base P} {s : AS} {dst : Option Tmp} {ty : TypeId} {pos : String} {after : Array Edge} {gd : Option (Nat × Bool)}
theorem aG3 {o:List aA}:∀{c:List AV},(∀x∈c,x.plainV=true)→jD o c=c∧iW o c=true∧fK c=[]
 |[],_=>⟨rfl,rfl,rfl⟩
 |x::xs,h=>by
  obtain ⟨h1,h2,h3⟩:=aG3 (o:=o) (c:=xs) fun y hy=>h y (by simp [hy])
  have hx:=h x (by simp)
  cases x<;>simp only [AV.plainV] at hx<;>first|(cases hx;done)|(simp [jD,iW,fK,res,eB,uses,h1,h2,h3])
theorem aXy (t:TypeId) (len:Nat) (parts:Array (Nat×Operand)) {e:TypeId} {n by' i:Nat} (he:elemA P t=some (e,n,by')) (hz:zeroSz P e n=true) (hord:qG parts.toList=true) (hlen:len=parts.toList.length) (hbig:len * n≤16777216) (hbig2:len≤16777216)
  (hpl:∀x∈(parts.toList.map (·.2)).map s.ev,x.plainV=true) (hgood:∀x∈(parts.toList.map (·.2)).map s.ev,x.good=true∧x.cells.length=n) (hi':s.o[i]? =some ⟨true,false,n,0,[]⟩):
  Step P B ⟨dst,.buildSlice t len parts,ty,pos,after,gd⟩ s (AS.put ⟨s.t,s.o.set i ⟨true,false,n,1,((parts.toList.map (·.2)).map s.ev).map AV.cells⟩⟩ dst (.obj i 1)):=
 nD fun G a w r=>by
  generalize hxs:parts.toList.map (·.2)=xs at *
  have hparts:parts.toList=(xs.zipIdx).map fun p=>(p.2,p.1):=by rw [←hxs];exact aAt _ 0 hord
  obtain ⟨hp1,hp2,hp3⟩:=aG3 (o:=s.o) hpl
  obtain ⟨fp,hrc,hnd,hOf⟩:=aBm r _ _ hp2 (by rw [hp3];simp) (pK r xs)
  have hfp:fp=[]:=by
   cases fp with
   |nil=>rfl
   |cons b _=>
    obtain ⟨i,ob,g,hi,_⟩:=hOf b (by simp)
    rw [hp3] at hi;cases hi
  subst hfp
  rw [hp1] at hrc
  obtain ⟨hrv,hsz⟩:=aHo hrc hgood
  have hvl:(xs.map a.eval).length=len:=by rw [hlen,←hxs];simp
  have hrun:(execOp a.eval ⟨dst,.buildSlice t len parts,ty,pos,after,gd⟩).run P w= .ok (.value (.slice (some ⟨w.heap.size,0,none⟩) len len)) (w.alloc (.cells ((xs.map a.eval).flatMap fun v=>v.cells.toList).toArray e)):=by
   have e1:parts.map (fun (i,x)=>(i,a.eval x))=(((xs.map a.eval).zipIdx).map fun p=>(p.2,p.1)).toArray:=by
    apply Array.ext'
    simp only [Array.toList_map,hparts,List.map_map,List.zipIdx_map]
    rfl
   have:=run_buildSlice (P:=P) (t:=t) (len:=len) (w:=w) he hz hvl.symm hbig hsz
   simp only [execOp,e1,Sem.run_bind,this,Result.andThen_ok,Sem.run_pure]
  have hlt:i < G.length:=by rw [r.len];exact (List.getElem?_eq_some_iff.1 hi').1
  have hlk:Aw.look s.o G i ⟨true,false,n,0,[]⟩ G[i]:=⟨hi',List.getElem?_eq_getElem hlt⟩
  generalize G[i]=g at hlk
  generalize hCd:((xs.map a.eval).flatMap fun v=>v.cells.toList)=cs at *
  have hcl:=jY hrv
  have hself:(w.alloc (.cells cs.toArray e)).heap[w.heap.size]? =some (.cells cs.toArray e):=jP w _
  have hrl:((xs.map s.ev).map AV.cells).length=len:=by
   have:=dZ hrc
   rw [List.length_map,←this,hvl]
  have hlm:len≤maxLen:=by simp only [maxLen];omega
  have hm:=r.modify hlk rfl ⟨true,false,n,1,(xs.map s.ev).map AV.cells⟩ ⟨some ⟨w.heap.size,0,none⟩,len,fun b=>g.F b∨b=w.heap.size⟩ (w.alloc (.cells cs.toArray e)) (by simp) rfl (by simp)
   (fun b hb=>by
    rcases hb with hb|hb
    ·exact .inl hb
    ·right;subst hb;simp) (fun b hb hne=>⟨.inl hb,fun a' ha'=>by
     obtain rfl:=Option.some.inj ha'
     have:=(r.fresh _ _ _ b hlk rfl hb).2
     simp only;omega⟩) (fun b hlt _=>heap_alloc w _ b hlt) (by simp) (fun k _=>by
   refine ⟨[w.heap.size],?_,by simp,by simp⟩
   generalize env B _ _ (w.alloc (.cells cs.toArray e))=E' at k⊢
   simp only [Env.of,Bool.false_eq_true,if_false]
   refine ⟨by rw [hrl];exact hlm,.inr ⟨w.heap.size,0,cs.toArray,e,(0,0),[],rfl,hself,.inr rfl,?_,by rw [hrl];exact Nat.le_refl _,hlm,rfl,?_⟩⟩
   ·simp [hcl]
    rw [←hrl];simp
   ·refine qA.2 ⟨cs,qU k.plain (fun b hb=>by cases hb) hrv,?_⟩
    refine qI hself (fun j v hv=>by simpa using hv))
  have hl2:Aw.look (s.o.set i ⟨true,false,n,1,(xs.map s.ev).map AV.cells⟩) (G.set i ⟨some ⟨w.heap.size,0,none⟩,len,fun b=>g.F b∨b=w.heap.size⟩) i ⟨true,false,n,1,(xs.map s.ev).map AV.cells⟩ ⟨some ⟨w.heap.size,0,none⟩,len,fun b=>g.F b∨b=w.heap.size⟩:=oM hlk
  refine ⟨_,_,hrun,_,hm.1.put dst ?_⟩
  simp only [R]
  exact ⟨trivial,_,_,hl2,Nat.le_refl _,fun _ _=>by rw [hrl],fun h=>absurd h (by decide)⟩
end
structure Plc where
  at_ : Nat
  n : Nat
  st : List (Nat × aA)
def stg (J:Nat→Bool) (h:aA):List (Nat×aA)→aA
 |[]=>h
 |q::r=>if J q.1=true then q.2 else stg J h r
def vst (i:Nat) (pr:List Nat) (h dead:aA):List (Nat×aA)→aA
 |[]=>h
 |q::r=>if q.1∈pr then q.2 else if q.1=i∨i∈r.map (·.1) then vst i pr h dead r else dead
def hole (n:Nat):aA:=⟨true,false,n,0,[]⟩
def aQ4 (n:Nat):aA:=⟨false,false,n,0,[]⟩
def nX (J:Nat→Bool):List Plc→List aA→List aA
 |[],o=>o
 |p::r,o=>nX J r (o.set p.at_ (stg J (hole p.n) p.st))
def vZ (i:Nat) (pr:List Nat):List Plc→List aA→List aA
 |[],o=>o
 |p::r,o=>vZ i pr r (o.set p.at_ (vst i pr (hole p.n) (aQ4 p.n) p.st))
def aB0 (l:List Oper):List (Nat×aA)→Bool
 |[]=>true
 |[_]=>true
 |q::q'::r=>(iA l q.1).contains q'.1&&aB0 l (q'::r)
def aXv (l:List Oper) (fl:List Plc) (n:Nat):Bool:=
 decide (fl.map (·.at_)).Nodup&&(fl.all fun p=>decide (p.at_ < n)&&aB0 l p.st&&decide (p.st.map (·.1)).Nodup&&p.st.all fun q=>decide (q.1 < l.length))&&decide ((fl.flatMap fun p=>p.st.map (·.1))).Nodup
theorem yV (J:Nat→Bool):∀(fl:List Plc) (o:List aA),(nX J fl o).length=o.length
 |[],_=>rfl
 |q::r,o=>by simp only [nX];rw [yV J r];simp
theorem aC9 (i:Nat) (pr:List Nat):∀(fl:List Plc) (o:List aA),(vZ i pr fl o).length=o.length
 |[],_=>rfl
 |q::r,o=>by simp only [vZ];rw [aC9 i pr r];simp
theorem aD2 {J:Nat→Bool} {i:Nat}:∀{fl:List Plc} {o:List aA},(∀q∈fl,q.at_≠i)→(nX J fl o)[i]? =o[i]?
 |[],_,_=>rfl
 |q::r,o,h=>by
  simp only [nX]
  rw [aD2 fun p hp=>h p (by simp [hp]),List.getElem?_set_ne (h q (by simp))]
theorem aM0 {k:Nat} {pr:List Nat} {i:Nat}:∀{fl:List Plc} {o:List aA},(∀q∈fl,q.at_≠i)→(vZ k pr fl o)[i]? =o[i]?
 |[],_,_=>rfl
 |q::r,o,h=>by
  simp only [vZ]
  rw [aM0 fun p hp=>h p (by simp [hp]),List.getElem?_set_ne (h q (by simp))]
theorem aE3 {J:Nat→Bool}:∀{fl:List Plc} {o:List aA} {q:Plc},(fl.map (·.at_)).Nodup→q∈fl→q.at_ < o.length→(nX J fl o)[q.at_]? =some (stg J (hole q.n) q.st)
 |p::r,o,q,hn,hq,hl=>by
  simp only [nX]
  simp only [List.map_cons,List.nodup_cons] at hn
  rcases List.mem_cons.1 hq with rfl|hq
  ·rw [aD2 fun p hp e=>hn.1 (List.mem_map.2 ⟨p,hp,e⟩),List.getElem?_set_self hl]
  ·exact aE3 hn.2 hq (by simpa using hl)
theorem aTy {k:Nat} {pr:List Nat}:∀{fl:List Plc} {o:List aA} {q:Plc},(fl.map (·.at_)).Nodup→q∈fl→q.at_ < o.length→(vZ k pr fl o)[q.at_]? =some (vst k pr (hole q.n) (aQ4 q.n) q.st)
 |p::r,o,q,hn,hq,hl=>by
  simp only [vZ]
  simp only [List.map_cons,List.nodup_cons] at hn
  rcases List.mem_cons.1 hq with rfl|hq
  ·rw [aM0 fun p hp e=>hn.1 (List.mem_map.2 ⟨p,hp,e⟩),List.getElem?_set_self hl]
  ·exact aTy hn.2 hq (by simpa using hl)
theorem aEv {J J':Nat→Bool}:∀{fl:List Plc} {o:List aA},(∀p∈fl,∀q∈p.st,J q.1=J' q.1)→nX J fl o=nX J' fl o
 |[],_,_=>rfl
 |p::r,o,h=>by
  simp only [nX]
  have:∀st:List (Nat×aA),(∀q∈st,J q.1=J' q.1)→stg J (hole p.n) st=stg J' (hole p.n) st:=by
   intro st
   induction st with
   |nil=>intros;rfl
   |cons q r ih=>intro h;simp only [stg];rw [h q (by simp),ih fun x hx=>h x (by simp [hx])]
  rw [this p.st (h p (by simp)),aEv fun q hq=>h q (by simp [hq])]
theorem aTr {J:Nat→Bool} {i:Nat} {pr:List Nat} {n:Nat} (hi:J i=false) (hp:∀e∈pr,J e=true):∀(st:List (Nat×aA)),(∀s1 q s2,st=s1++q::s2→J q.1=false→∀p∈s1,J p.1=false)→(vst i pr (hole n) (aQ4 n) st).live=true→vst i pr (hole n) (aQ4 n) st=stg J (hole n) st
 |[],_,_=>rfl
 |q::r,hlat,h=>by
  simp only [vst,stg] at h⊢
  by_cases h1:q.1∈pr
  ·rw [if_pos h1,if_pos (hp _ h1)]
  ·rw [if_neg h1] at h⊢
   by_cases h2:q.1=i∨i∈r.map (·.1)
   ·rw [if_pos h2] at h⊢
    have hq:J q.1=false:=by
     rcases h2 with h2|h2
     ·rw [h2];exact hi
     ·obtain ⟨x,hx,rfl⟩:=List.mem_map.1 h2
      obtain ⟨r1,r2,rfl⟩:=List.append_of_mem hx
      exact hlat (q::r1) x r2 rfl hi q (by simp)
    rw [hq,if_neg (by simp)]
    exact aTr hi hp r (fun s1 x s2 e hx p hp=>hlat (q::s1) x s2 (by rw [e];rfl) hx p (by simp [hp])) h
   ·rw [if_neg h2] at h;cases h
theorem aOd {l:List Oper} {q:Nat×aA} {r:List (Nat×aA)} (h:aB0 l (q::r)=true):aB0 l r=true:=by
 cases r with
 |nil=>rfl
 |cons q' r=>simp only [aB0,Bool.and_eq_true] at h;exact h.2
theorem aJr {l:List Oper} {J:Nat→Bool} (hJ:Clo l J) (hlen:∀i,J i=true→i < l.length):∀{s1:List (Nat×aA)} {q:Nat×aA} {s2:List (Nat×aA)},aB0 l (s1++q::s2)=true→J q.1=false→∀p∈s1,J p.1=false
 |[],_,_,_,_=>fun _ hp=>by cases hp
 |x::s1,q,s2,h,hq=>by
  have ih:=aJr hJ hlen (aOd h) hq
  intro p hp
  rcases List.mem_cons.1 hp with rfl|hp
  ·cases hJp:J p.1 with
   |false=>rfl
   |true=>
    exfalso
    have hnx:∃y,(iA l p.1).contains y=true∧J y=false:=by
     cases s1 with
     |nil=>simp only [List.cons_append,List.nil_append,aB0,Bool.and_eq_true] at h;exact ⟨q.1,h.1,hq⟩
     |cons y s1=>simp only [List.cons_append,aB0,Bool.and_eq_true] at h;exact ⟨y.1,h.1,ih y (by simp)⟩
    obtain ⟨y,hy,hyf⟩:=hnx
    have hlp:=hlen _ hJp
    have hop:l[p.1]? =some (l.get ⟨p.1,hlp⟩):=List.getElem?_eq_getElem hlp
    have hm:y∈pre (l.get ⟨p.1,hlp⟩):=by
     unfold iA at hy
     rw [hop] at hy
     simpa using hy
    have:=hJ _ _ hop hJp _ hm
    rw [hyf] at this;cases this
  ·exact ih p hp
theorem bDo {J:Nat→Bool} {i:Nat} {pr:List Nat} {fl:List Plc} {o:List aA} (hn:(fl.map (·.at_)).Nodup) (hs:∀q∈fl,q.at_ < o.length) (hi:J i=false) (hp:∀e∈pr,J e=true) (hlat:∀q∈fl,∀s1 x s2,q.st=s1++x::s2→J x.1=false→∀p∈s1,J p.1=false):Sub (vZ i pr fl o) (nX J fl o):=by
 intro k ob h hl
 by_cases hk:∃q∈fl,q.at_=k
 ·obtain ⟨q,hq,rfl⟩:=hk
  rw [aTy hn hq (hs q hq)] at h
  obtain rfl:=Option.some.inj h
  rw [aE3 hn hq (hs q hq),aTr hi hp _ (hlat q hq) hl]
 ·have hk':∀q∈fl,q.at_≠k:=fun q hq e=>hk ⟨q,hq,e⟩
  rw [aM0 hk'] at h
  rw [aD2 hk'];exact h
theorem bE8 {l:List Oper} {J:Nat→Bool} (hJ:Clo l J) (hlen:∀i,J i=true→i < l.length) {n i:Nat} {ob':aA}:∀{s1 s2:List (Nat×aA)},aB0 l (s1++(i,ob')::s2)=true→((s1++(i,ob')::s2).map (·.1)).Nodup→J i=false→stg (upd J i) (hole n) (s1++(i,ob')::s2)=ob'
 |s1,s2,h,hn,hi=>by
  have hl:=aJr hJ hlen h hi
  induction s1 with
  |nil=>simp [stg,upd]
  |cons x s1 ih=>
   simp only [List.cons_append,List.map_cons,List.nodup_cons] at hn
   have hx:x.1≠i:=fun e=>hn.1 (by simp [e])
   simp only [List.cons_append,stg]
   have:upd J i x.1=false:=by unfold upd;rw [if_neg hx];exact hl x (by simp)
   rw [this,if_neg (by simp)]
   exact ih (aOd h) hn.2 (fun p hp=>hl p (by simp [hp]))
def aBl (P:Program) [aB P] (op:Oper) (m:List AV) (view:List aA) (pl:Nat) (val:AV) (ob':aA):Prop:=
 ∀(B:Base P) (t2:List AV) (o2:List aA),wk t2 m→Sub view o2→o2.length=view.length→Step P B op ⟨t2,o2⟩ ⟨jF t2 op.dst val,o2.set pl ob'⟩
def aH5 (P : Program) [aB P] (l : List Oper) (t : List AV) (b : List aA) (fl : List Plc) (j : Nat) (op : Oper) (vs : List AV) : Prop :=
  (∀ e ∈ pre op, e < j) ∧
  (((∀ p ∈ fl, ∀ q ∈ p.st, q.1 ≠ j) ∧ jS op.op ⟨jC j (pre op) 0 l (vs.take j) t, vZ j (pre op) fl b⟩ = true ∧ ∃ x, (vs.getD j .undef = x ∨ vs.getD j .undef = .undef) ∧
      lV P l op ⟨jC j (pre op) 0 l (vs.take j) t, vZ j (pre op) fl b⟩ (fun s' => s' = ⟨jF (jC j (pre op) 0 l (vs.take j) t) op.dst x, vZ j (pre op) fl b⟩)) ∨
   (op.guard = none ∧ ∃ p ∈ fl, ∃ s1 ob' s2, p.st = s1 ++ (j, ob') :: s2 ∧ aBl P op (jC j (pre op) 0 l (vs.take j) t) (vZ j (pre op) fl b) p.at_ (vs.getD j .undef) ob'))
theorem aW3 {P:Program} [aB P] {id:Nat} {l:List Oper} {s:AS} {Q:Exit→AS→Prop} (fl:List Plc) {b:List aA} (vs:List AV) (hfw:zM l=true) (hdst:distinct l=true) (hfl:aXv l fl b.length=true)
  (hb0:nX (fun _=>false) fl b=s.o++(fl.map (·.n)).map fun n=>⟨true,false,n,0,[]⟩)
  (hit:∀j op,l[j]? =some op→aH5 P l s.t b fl j op vs) (hK:Q .normal ⟨dV (fun _=>true) 0 l vs s.t,nX (fun _=>true) fl b⟩):awp P (.region id l.toArray true) s Q:=by
 simp only [aXv,Bool.and_eq_true,decide_eq_true_eq,List.all_eq_true] at hfl
 obtain ⟨⟨hnd,hsl⟩,hnds⟩:=hfl
 have hs:∀q∈fl,q.at_ < b.length:=fun q hq=>(hsl q hq).1.1.1
 have hsq:∀q∈fl,∀x∈q.st,x.1 < l.length:=fun q hq=>(hsl q hq).2
 have hst:∀q∈fl,aB0 l q.st=true:=fun q hq=>(hsl q hq).1.1.2
 have hsn:∀q∈fl,(q.st.map (·.1)).Nodup:=fun q hq=>(hsl q hq).1.2
 have huni:∀p∈fl,∀p'∈fl,∀q∈p.st,∀q'∈p'.st,q.1=q'.1→p.at_=p'.at_:=by
  have:∀(fl:List Plc),(fl.flatMap fun p=>p.st.map (·.1)).Nodup→∀p∈fl,∀p'∈fl,∀q∈p.st,∀q'∈p'.st,q.1=q'.1→p.at_=p'.at_:=by
   intro fl
   induction fl with
   |nil=>intro _ p hp;cases hp
   |cons x fl ih=>
    intro hn p hp p' hp' q hq q' hq' e
    simp only [List.flatMap_cons,List.nodup_append] at hn
    rcases List.mem_cons.1 hp with e1|hp1<;>rcases List.mem_cons.1 hp' with e2|hp2
    ·rw [e1,e2]
    ·exfalso
     rw [e1] at hq
     exact hn.2.2 _ (List.mem_map.2 ⟨q,hq,rfl⟩) _ (List.mem_flatMap.2 ⟨p',hp2,List.mem_map.2 ⟨q',hq',rfl⟩⟩) e
    ·exfalso
     rw [e2] at hq'
     exact hn.2.2 _ (List.mem_map.2 ⟨q',hq',rfl⟩) _ (List.mem_flatMap.2 ⟨p,hp1,List.mem_map.2 ⟨q,hq,rfl⟩⟩) e.symm
    ·exact ih hn.2.1 p hp1 p' hp2 q hq q' hq' e
  exact this fl hnds
 unfold awp
 have hrest:qO l l.length=true:=by
  unfold qO
  rw [List.all_eq_true]
  intro i hi
  simp at hi
  simp only [Bool.or_eq_true,decide_eq_true_eq]
  exact .inl (by omega)
 refine aR5 (ops:=l.toArray) l.length (by simp) (by simpa using hfw) (by simpa using hrest) (fun J=>⟨dV J 0 l vs s.t,nX J fl b⟩) ?_ ?_ ?_
 ·have e1:∀(l:List Oper) (j:Nat) (vs t:List AV),dV (fun _=>false) j l vs t=t:=by
   intro l
   induction l with
   |nil=>intros;rfl
   |cons op r ih=>
    intro j vs t
    simp only [dV]
    rw [ih]
    unfold rE
    cases op.dst<;>simp
  rw [e1,hb0]
  exact fun _ _ _ _ _ r=>aJ2 _ r
 ·intro i op him hi J hJ hJm hJi hpre
  have hi':l[i]? =some op:=by simpa using hi
  have hJ':Clo l J:=by simpa using hJ
  have hJlen:∀k,J k=true→k < l.length:=fun k hk=>by
   rcases Nat.lt_or_ge k l.length with h|h
   ·exact h
   ·rw [hJm k h] at hk;cases hk
  obtain ⟨hprl,hex⟩:=hit i op hi'
  have hmask:wk (dV J 0 l vs s.t) (jC i (pre op) 0 l (vs.take i) s.t):=
   aG7 hJi (fun e he=>⟨hpre e he,hprl e he⟩) l 0 vs (vs.take i) s.t s.t (fun k q hk hJk=>hJ' k q hk (by simpa using hJk)) (fun k hk=>by
    rw [List.getD_eq_getElem?_getD,List.getD_eq_getElem?_getD,List.getElem?_take];simp [show k < i by omega]) (kQ _)
  have hsub:=bDo (J:=J) (i:=i) (pr:=pre op) hnd hs hJi hpre (fun q hq s1 x s2 e hx=>aJr hJ' hJlen (by rw [←e];exact hst q hq) hx)
  have htoD:∀v,vs.getD i .undef=v→dV (upd J i) 0 l vs s.t=jF (dV J 0 l vs s.t) op.dst v:=fun v hv=>by
   have:=aCv l 0 i op vs s.t v hdst hi' (by simpa using hJi) hv
   rwa [Nat.zero_add] at this
  rcases hex with ⟨hnf,hq,x,hvx,hop⟩|⟨hg,p,hp,s1,ob',s2,hpst,hat⟩
  ·left
   obtain ⟨x',new',x2,rfl',hx2,_,hfin⟩:=zJ (o2:=nX J fl b) hq hmask hop hsub (.inl (by rw [yV,aC9]))
   refine hfin _ ?_
   have hset:new'=[]∧(jF (jC i (pre op) 0 l (vs.take i) s.t) op.dst x'=jF (jC i (pre op) 0 l (vs.take i) s.t) op.dst x):=by
    simp only [AS.mk.injEq] at rfl'
    refine ⟨?_,rfl'.1⟩
    have:=congrArg List.length rfl'.2
    rw [List.length_append] at this
    exact List.eq_nil_of_length_eq_zero (by omega)
   have hto:wk (jF (dV J 0 l vs s.t) op.dst x2) (dV (upd J i) 0 l vs s.t):=by
    rw [htoD _ rfl]
    have hL:=aGw hmask
    have hset2:=hset.2
    unfold jF at hset2⊢
    cases hd:op.dst with
    |none=>exact kQ _
    |some d=>
     rw [hd] at hset2
     dsimp only at hset2⊢
     rcases Nat.lt_or_ge d (dV J 0 l vs s.t).length with hdl|hle
     ·have hxx:x'=x:=by
       have h5:=congrArg (fun t=>t[d]?) hset2
       have hdl2:d < (jC i (pre op) 0 l (vs.take i) s.t).length:=hL▸hdl
       rw [List.getElem?_set_self hdl2,List.getElem?_set_self hdl2] at h5
       exact Option.some.inj h5
      refine aGx d (kQ _) ?_
      rcases hvx with e|e
      ·rw [e,←hxx];assumption
      ·exact .inr e
     ·rw [List.set_eq_of_length_le hle,List.set_eq_of_length_le hle]
      exact kQ _
   have hobj:nX J fl b++new'=nX (upd J i) fl b:=by
    rw [hset.1,List.append_nil]
    refine aEv fun p hp q hq=> ?_
    unfold upd;rw [if_neg (hnf p hp q hq)]
   rw [hobj]
   exact vG hto
  ·right
   refine ⟨hg,fun B=> ?_⟩
   have:=hat B _ _ hmask hsub (by rw [yV,aC9])
   have e:nX (upd J i) fl b=(nX J fl b).set p.at_ ob':=by
    refine List.ext_getElem? fun k=> ?_
    by_cases hk:∃q∈fl,q.at_=k
    ·obtain ⟨q,hq,rfl⟩:=hk
     rw [aE3 hnd hq (hs q hq)]
     by_cases hqp:q.at_=p.at_
     ·have hqp':q=p:=aCx (·.at_) fl hnd q p hq hp hqp
      subst hqp'
      rw [List.getElem?_set_self (by rw [yV];exact hs q hq),hpst]
      rw [bE8 hJ' hJlen (by rw [←hpst];exact hst q hq) (by rw [←hpst];exact hsn q hq) hJi]
     ·rw [List.getElem?_set_ne (fun e=>hqp e.symm),aE3 hnd hq (hs q hq)]
      have:∀st:List (Nat×aA),(∀x∈st,x.1≠i)→stg (upd J i) (hole q.n) st=stg J (hole q.n) st:=by
       intro st
       induction st with
       |nil=>intros;rfl
       |cons x r ih=>
        intro h
        have hx:upd J i x.1=J x.1:=by unfold upd;rw [if_neg (h x (by simp))]
        simp only [stg];rw [hx,ih fun y hy=>h y (by simp [hy])]
      rw [this q.st fun x hx e=>hqp (huni q hq p hp x hx (i,ob') (by rw [hpst];simp) e)]
    ·have hk':∀q∈fl,q.at_≠k:=fun q hq e=>hk ⟨q,hq,e⟩
     rw [aD2 hk',List.getElem?_set_ne (hk' p hp),aD2 hk']
   rw [htoD _ rfl,e]
   exact this
 ·intro J hJ hJm hor
  left
  have hsz:l.toArray.size=l.length:=by simp
  have hall:∀i,i < l.length→J i=true:=by
   intro i hi
   rcases hor with h|⟨op,hop,_⟩
   ·exact h i (by omega)
   ·have:=(List.getElem?_eq_some_iff.1 hop).1;simp at this
  rw [hsz]
  have e3:(List.range l.length).map J=List.replicate l.length true:=by
   refine List.ext_getElem? fun i=> ?_
   rw [List.getElem?_map,List.getElem?_replicate]
   by_cases hi:i < l.length
   ·simp [hi,hall i hi]
   ·simp [hi]
  have e4:left (List.replicate l.length true)=0:=by
   unfold left
   rw [List.filter_eq_nil_iff.2]
   ·rfl
   ·intro x hx
    rw [(List.mem_replicate.1 hx).2];simp
  rw [e3,e4]
  simp only [nW]
  have e5:dV J 0 l vs s.t=dV (fun _=>true) 0 l vs s.t:=zI l 0 vs s.t fun k hk=>by rw [Nat.zero_add];exact hall k hk
  have e6:nX J fl b=nX (fun _=>true) fl b:=aEv fun p hp q hq=>hall _ (hsq p hp q hq)
  rw [e5,e6];exact hK
end Go.Aw

namespace Go.Aw
theorem aZt {x:AV} (h:x.plainV=true):x≠ .undef:=by rintro rfl;simp [AV.plainV] at h
theorem bHm {P:Program} [aB P] {dst:Option Tmp} {ty:TypeId} {pos:String} {after:Array Edge} {gd:Option (Nat×Bool)} {m:List AV} {view:List aA} {pl:Nat} {T:TypeId} {len:Nat} {parts:Array (Nat×Operand)} {e:TypeId} {n by':Nat} {xs:List AV}
  (he:elemA P T=some (e,n,by')) (hz:zeroSz P e n=true) (hord:qG parts.toList=true) (hlen:len=parts.toList.length) (hbig:len * n≤16777216) (hbig2:len≤16777216)
  (hxs:(parts.toList.map (·.2)).map (AS.ev ⟨m,view⟩)=xs) (hpl:∀x∈xs,x.plainV=true) (hgood:∀x∈xs,x.good=true∧x.cells.length=n) (hv:view[pl]? =some (hole n)):
  aBl P ⟨dst,.buildSlice T len parts,ty,pos,after,gd⟩ m view pl (.obj pl 1) ⟨true,false,n,1,xs.map AV.cells⟩:=by
 intro B t2 o2 hw hs _
 have e2:(parts.toList.map (·.2)).map (AS.ev ⟨t2,o2⟩)=xs:=by
  have key:∀(l:List Operand) (xs:List AV),l.map (AS.ev ⟨m,view⟩)=xs→(∀x∈xs,x.plainV=true)→l.map (AS.ev ⟨t2,o2⟩)=xs:=by
   intro l
   induction l with
   |nil=>intro xs h _;exact h
   |cons a l ih=>
    intro xs h hp
    cases xs with
    |nil=>cases h
    |cons x xs=>
     simp only [List.map_cons,List.cons.injEq] at h⊢
     exact ⟨aA6 hw h.1 (aZt (hp x (by simp))),ih xs h.2 fun y hy=>hp y (by simp [hy])⟩
  exact key _ _ hxs hpl
 have ho:o2[pl]? =some ⟨true,false,n,0,[]⟩:=hs pl _ hv rfl
 have:=aXy (P:=P) (B:=B) (s:=⟨t2,o2⟩) (dst:=dst) (ty:=ty) (pos:=pos) (after:=after) (gd:=gd) T len parts (i:=pl) he hz hord hlen hbig hbig2 (by rw [e2];exact hpl) (by rw [e2];exact hgood) ho
 rw [e2,put_eq] at this
 exact this
theorem aWf {P:Program} [aB P] {dst:Option Tmp} {ty:TypeId} {pos:String} {after:Array Edge} {gd:Option (Nat×Bool)} {m:List AV} {view:List aA} {pl:Nat} {T:TypeId} {len:Nat} {parts:Array (Nat×Operand)} {e:TypeId} {n by':Nat} {xs:List AV} {els:List (List AV)}
  (he:elemA P T=some (e,n,by')) (hz:zeroSz P e n=true) (hord:qG parts.toList=true) (hlen:len=parts.toList.length) (hbig:len * n≤16777216) (hbig2:len≤16777216)
  (hxs:(parts.toList.map (·.2)).map (AS.ev ⟨m,view⟩)=xs) (hpl:∀x∈xs,x.plainV=true) (hgood:∀x∈xs,x.good=true∧x.cells.length=n) (hv:view[pl]? =some (hole n)) (hels:xs.map AV.cells=els):
  aBl P ⟨dst,.buildSlice T len parts,ty,pos,after,gd⟩ m view pl (.obj pl 1) ⟨true,false,n,1,els⟩:=by
 subst hels
 exact bHm he hz hord hlen hbig hbig2 hxs hpl hgood hv
def dw3 (P:Program) [aB P] (l:List Oper) (t:List AV) (b:List aA) (fl:List Plc) (K:AS→Prop):Nat→List Oper→List AV→Prop
 |_,[],vs=>K ⟨dV (fun _=>true) 0 l vs t,nX (fun _=>true) fl b⟩
 |j,op::r,vs=>∃x,aH5 P l t b fl j op (vs++[x])∧dw3 P l t b fl K (j+1) r (vs++[x])
theorem aUs {P:Program} [aB P] {l:List Oper} {t:List AV} {b:List aA} {fl:List Plc} {j:Nat} {op:Oper} {vs vs':List AV} (h:aH5 P l t b fl j op vs) (h1:vs.take j=vs'.take j) (h2:vs.getD j .undef=vs'.getD j .undef):aH5 P l t b fl j op vs':=by
 unfold aH5 at h⊢
 rw [h1,h2] at h;exact h
theorem aVz {P:Program} [aB P] {l:List Oper} {t:List AV} {b:List aA} {fl:List Plc} {K:AS→Prop}:∀(r:List Oper) (j:Nat) (vs:List AV),l.drop j=r→vs.length=j→dw3 P l t b fl K j r vs→
  ∃vf,vf.take j=vs∧(∀k op,j≤k→l[k]? =some op→aH5 P l t b fl k op vf)∧K ⟨dV (fun _=>true) 0 l vf t,nX (fun _=>true) fl b⟩
 |[],j,vs,hd,hl,h=>by
  refine ⟨vs,List.take_of_length_le (by omega),fun k op hk hop=> ?_,h⟩
  have h1:=(List.getElem?_eq_some_iff.1 hop).1
  have h2:=congrArg List.length hd
  simp at h2;omega
 |op::r,j,vs,hd,hl,h=>by
  simp only [dw3] at h
  obtain ⟨x,hi,h⟩:=h
  have hd':l.drop (j+1)=r:=by rw [←List.drop_drop,hd];rfl
  have hop:l[j]? =some op:=by
   have:=congrArg (·[0]?) hd
   simpa using this
  obtain ⟨vf,h1,h2,h3⟩:=aVz r (j+1) (vs++[x]) hd' (by simp [hl]) h
  refine ⟨vf,?_,fun k op' hk hop'=> ?_,h3⟩
  ·have:=congrArg (List.take j) h1
   rw [List.take_take] at this
   rw [Nat.min_eq_left (by omega)] at this
   rw [this,List.take_append_of_le_length (by omega),List.take_of_length_le (by omega)]
  ·rcases Nat.lt_or_ge j k with hlt|hge
   ·exact h2 k op' hlt hop'
   ·obtain rfl:j=k:=by omega
    rw [hop] at hop'
    obtain rfl:=Option.some.inj hop'
    refine aUs hi ?_ ?_
    ·have:=congrArg (List.take j) h1
     rw [List.take_take,Nat.min_eq_left (by omega)] at this
     rw [this]
    ·have:=congrArg (·[j]?) h1
     simp only [List.getElem?_take] at this
     rw [if_pos (by omega)] at this
     rw [List.getD_eq_getElem?_getD,List.getD_eq_getElem?_getD,this]
@[irreducible] def hide {α:Type} (x:α):α:=x
theorem rG {α:Type} (x:α):hide x=x:=by unfold hide;rfl
def nQ (f:Nat→Bool):Code→Code
 | .region id ops true=>if f id then .region id (hide ops) true else .region id ops true
 | .region id ops false=>if f id then hide (.region id ops false) else .region id ops false
 | .seq x y=> .seq (nQ f x) (nQ f y)
 | .cond c x y=> .cond c (nQ f x) (nQ f y)
 | .block id c=> .block id (nQ f c)
 | .loop c=> .loop (nQ f c)
 |c=>c
theorem qR (f:Nat→Bool):∀c:Code,nQ f c=c
 | .region id ops true=>by simp only [nQ];split<;>simp [rG]
 | .region id ops false=>by simp only [nQ];split<;>simp [rG]
 | .seq x y=>by simp [nQ,qR f x,qR f y]
 | .cond c x y=>by simp [nQ,qR f x,qR f y]
 | .block id c=>by simp [nQ,qR f c]
 | .loop c=>by simp [nQ,qR f c]
 | .skip=>rfl
 | .exit _=>rfl
 | .ret=>rfl
 | .rangeFunc _ _ _ _=>rfl
 | .scope _=>rfl
 | .label _=>rfl
 | .goto _=>rfl
 | .refuse _=>rfl
theorem rJ {P:Program} [aB P] (hm:P.follows .mixedOrders=true) {f:FuncId} {fn:Func} {c c':Code} (L:List Nat) (hf:P.funcs[f]? =some fn) {n:Nat} (hn:fn.ntmps=n) {args t:List AV} {rr:AV}
  (h:awp P c' ⟨t,[]⟩ (fun e s=>(e= .normal∨e= .ret)∧Hands P fn s rr)) (hb:fn.body=some c:=by rfl)
  (hc:nQ (fun i=>L.contains i) c=c':=by simp [nQ];rfl)
  (ht:args++List.replicate (n - args.length) .undef=t:=by
   simp only [List.length_cons,List.length_nil,Nat.reduceSub,Nat.reduceAdd,List.replicate_succ,List.replicate_zero,List.cons_append,List.nil_append];rfl):Ok P f args rr:=by
 subst ht;subst hn;subst hc;rw [qR] at h;exact aN4 hm hf hb h
theorem aHr {P:Program} [aB P] {id:Nat} {l:List Oper} {s s2:AS} {Q:Exit→AS→Prop} (hw:fG s s2) (h:awp P (.region id l.toArray false) s2 Q):awp P (hide (.region id l.toArray false)) s Q:=by
 rw [rG];exact aLq hw h
theorem aNy {P:Program} [aB P] {id:Nat} {l:List Oper} {s:AS} {Q:Exit→AS→Prop} (fl:List Plc) {b:List aA} (hb:s.o++(fl.map (·.n)).map (fun n=>⟨true,false,n,0,[]⟩)=b) (hfw:zM l=true) (hdst:distinct l=true) (hfl:aXv l fl b.length=true)
  (hb0:nX (fun _=>false) fl b=b) (h:dw3 P l s.t b fl (Q .normal) 0 l []):awp P (.region id (hide l.toArray) true) s Q:=by
 rw [rG]
 obtain ⟨vf,_,h2,h3⟩:=aVz l 0 [] rfl rfl h
 exact aW3 fl vf hfw hdst hfl (by rw [hb0,hb]) (fun j op hop=>h2 j op (Nat.zero_le _) hop) h3
section
variable {P : Program} [aB P] {l : List Oper} {t : List AV} {b : List aA} {fl : List Plc} {K : AS → Prop} {j : Nat} {op : Oper} {r : List Oper} {vs : List AV} {pr : List Nat} {m : List AV} {om : List aA}
theorem aZ7 {t':List AV} {o':List aA} (h1:dV (fun _=>true) 0 l vs t=t') (h2:nX (fun _=>true) fl b=o') (h:K ⟨t',o'⟩):dw3 P l t b fl K j [] vs:=by
 simp only [dw3,h1,h2];exact h
theorem aWi {vs':List AV} {c:Prop} (hc:c) (hv:vs=vs') (hd:dw3 P l t b fl K j r vs'):c∧dw3 P l t b fl K j r vs:=by
 subst hv;exact ⟨hc,hd⟩
theorem aWm (hg:op.guard=none) (hnf:(fl.all fun p=>p.st.all fun q=>decide (q.1≠j))=true) (hpr:pre op=pr) (hlt:(pr.all fun e=>decide (e < j))=true) (hm:jC j pr 0 l vs t=m) (ho:vZ j pr fl b=om) (hq:jS op.op ⟨m,om⟩=true) (hvl:vs.length=j) (hdl:(match op.dst with|some d=>decide (d < m.length)|none=>true)=true)
  (ha:Nx 2 P op ⟨m,om⟩ fun s'=>s'.o.length=om.length∧dw3 P l t b fl K (j+1) r (vs++[uK op s'])):dw3 P l t b fl K j (op::r) vs:=by
 have hst:lV P l op ⟨m,om⟩ fun s'=>s'.o.length=om.length∧dw3 P l t b fl K (j+1) r (vs++[uK op s']):=by
  unfold lV
  simp only [hg]
  unfold Nx at ha
  rcases ha with ha|ha
  ·exact .inl ha
  ·rcases ha with ha|ha
   ·exact absurd ha.1 (by decide)
   ·exact .inr ha.2
 obtain ⟨x,new,x2,⟨hlen,hK⟩,hx,_,hfin⟩:=zJ (t2:=m) (o2:=om) hq (kQ _) hst (fun i ob h _=>h) (.inl rfl)
 have hnew:new=[]:=by
  rw [List.length_append] at hlen
  exact List.eq_nil_of_length_eq_zero (by omega)
 subst hnew
 rw [List.append_nil] at hK
 simp only [dw3]
 refine ⟨_,?_,hK⟩
 have htk:(vs++[uK op ⟨jF m op.dst x,om⟩]).take j=vs:=by rw [List.take_append_of_le_length (by omega),List.take_of_length_le (by omega)]
 have hgd:(vs++[uK op ⟨jF m op.dst x,om⟩]).getD j .undef=uK op ⟨jF m op.dst x,om⟩:=by
  rw [List.getD_eq_getElem?_getD,List.getElem?_append_right (by omega),hvl,Nat.sub_self];rfl
 refine ⟨fun e he=>by rw [hpr] at he;have:=List.all_eq_true.1 hlt e he;simpa using this,.inl ⟨fun p hp q hq=> ?_,?_,x2,?_,?_⟩⟩
 ·have:=List.all_eq_true.1 (List.all_eq_true.1 hnf p hp) q hq
  simpa using this
 ·rw [htk,hpr,hm,ho];exact hq
 ·rw [hgd]
  unfold uK jF
  cases hd:op.dst with
  |none=>exact .inr rfl
  |some d=>
   rw [hd] at hdl
   have hdl:d < m.length:=by simpa using hdl
   dsimp only
   rw [List.getD_eq_getElem?_getD,List.getElem?_set_self hdl]
   exact hx
 ·rw [htk,hpr,hm,ho]
  exact hfin _ (by rw [List.append_nil])
theorem wT {v:AV} {ob':aA} (p:Plc) (s1 s2:List (Nat×aA)) (hg:op.guard=none) (hp:p∈fl) (hst:p.st=s1++(j,ob')::s2) (hpr:pre op=pr) (hlt:(pr.all fun e=>decide (e < j))=true) (hm:jC j pr 0 l vs t=m) (ho:vZ j pr fl b=om) (hvl:vs.length=j)
  (ha:aBl P op m om p.at_ v ob') (h:dw3 P l t b fl K (j+1) r (vs++[v])):dw3 P l t b fl K j (op::r) vs:=by
 simp only [dw3]
 refine ⟨v,?_,h⟩
 have htk:(vs++[v]).take j=vs:=by rw [List.take_append_of_le_length (by omega),List.take_of_length_le (by omega)]
 have hgd:(vs++[v]).getD j .undef=v:=by
  rw [List.getD_eq_getElem?_getD,List.getElem?_append_right (by omega),hvl,Nat.sub_self];rfl
 refine ⟨fun e he=>by rw [hpr] at he;have:=List.all_eq_true.1 hlt e he;simpa using this,.inr ⟨hg,p,hp,s1,ob',s2,hst,?_⟩⟩
 rw [htk,hgd,hpr,hm,ho]
 exact ha
end
attribute [simp] nX vZ stg vst hole aQ4 aXv aB0
end Go.Aw

namespace Go.Aw
def jA (P:Program) (fn:Func) (s:AS) (r:AV):Prop:=
 ∃ys,s.rvs P fn.results.toList=some ys∧eB s.o (single ys)=true∧(uses (single ys)).Nodup∧res s.o (single ys)=r
def wJ (P:Program) (fn:Func) (s:AS) (r:AV):Prop:=
 ∃i ys,s.rvB P fn.results.toList=some (i,ys)∧eB s.o (single ys)=true∧(uses (single ys)).Nodup∧i∉uses (single ys)∧res s.o (single ys)=r
theorem nN {P:Program} {fn:Func} {s:AS} {r:AV} (h:match s.rvB P fn.results.toList with|some (i,ys)=>eB s.o (single ys)=true∧(uses (single ys)).Nodup∧i∉uses (single ys)∧res s.o (single ys)=r|none=>False):wJ P fn s r:=by
 unfold wJ
 split at h
 ·rename_i i ys hx;exact ⟨i,ys,hx,h⟩
 ·exact h.elim
theorem aXu {P:Program} [aB P] (hm:P.follows .mixedOrders=true) {f:FuncId} {fn:Func} {c:Code} (hf:P.funcs[f]? =some fn) (hb:fn.body=some c) {args:List AV} {rr:AV} (hflat:wY args=true)
  (h:awp P c ⟨args++List.replicate (fn.ntmps - args.length) .undef,[]⟩ (fun e s=>(e= .normal∨e= .ret)∧(jA P fn s rr∨wJ P fn s rr))):Ok P f args rr:=by
 intro w vs hg hargs
 have hl:=dZ hargs
 have r0:bG ⟨w,fun _=>False,fun _=>False,fun _=>none,fun _=>none,hg,fun _ h=>h.elim,fun _ h=>h.elim⟩ ⟨args++List.replicate (fn.ntmps - args.length) .undef,[]⟩ [] {tmps:=vs.toArray++Array.replicate (fn.ntmps - vs.toArray.size) Go.undef,defers:=[]} w:=by
  refine ⟨rfl,rfl,fun i ob g hl=>by simp [look] at hl,fun i j oi oj gi gj b hl=>by simp [look] at hl,fun i ob g b hl=>by simp [look] at hl,?_,Nat.le_refl _,fun _ _ _=>rfl,fun b hb=>hb.elim,Same.rfl⟩
  have h1:Rc w (env ⟨w,fun _=>False,fun _=>False,fun _=>none,fun _=>none,hg,fun _ h=>h.elim,fun _ h=>h.elim⟩ [] [] w) args vs []:=aE0 _ _ _ hflat hargs
  have h2:∀n,Rc w (env ⟨w,fun _=>False,fun _=>False,fun _=>none,fun _=>none,hg,fun _ h=>h.elim,fun _ h=>h.elim⟩ [] [] w) (List.replicate n .undef) (List.replicate n Go.undef) []:=by
   intro n
   induction n with
   |zero=>simp [Rc]
   |succ n ih=>simp only [List.replicate_succ,Rc];exact ⟨[],[],by simp [R],ih,rfl⟩
  have:=gT h1 (h2 (fn.ntmps - args.length))
  simpa [hl] using this
 refine calls_of_wp hf hb (wp_mono (lW hm c _ _ h _ _ ⟨_,r0⟩) fun e a w' he=> ?_)
 obtain ⟨s,⟨he,hhands⟩,G,r⟩:=he
 have key:∃(v:Value) (fp:List Nat),(results fn a.tmps).run P w'= .ok v w'∧R w' (env ⟨w,fun _=>False,fun _=>False,fun _=>none,fun _=>none,hg,fun _ h=>h.elim,fun _ h=>h.elim⟩ s.o G w').plain rr v fp∧fp.Nodup∧∀b∈fp,∃j ob g,look s.o G j ob g∧ob.live=true∧g.F b:=by
  rcases hhands with ⟨ys,hys,hok,hu,hres⟩|⟨i,ys,hys,hok,hu,hi,hres⟩
  ·obtain ⟨v,hrun,hR⟩:=qW r hys
   obtain ⟨fp,h1,h2,h3⟩:=zA r _ v hok hu hR
   rw [hres] at h1
   exact ⟨v,fp,hrun,h1,h2,fun b hb=>by obtain ⟨i,ob,g,_,h⟩:=h3 b hb;exact ⟨i,ob,g,h⟩⟩
  ·obtain ⟨v,fp0,ob,g,hlk,hlive,hrun,hR,hnd,hF⟩:=xB r hys
   obtain ⟨fp,h1,h2,h3⟩:=aGr r hlk hlive _ v fp0 hok hu hi hnd hF hR
   rw [hres] at h1
   refine ⟨v,fp,hrun,h1,h2,fun b hb=> ?_⟩
   rcases h3 b hb with h|⟨j,ob',g',_,h⟩
   ·exact ⟨i,ob,g,hlk,hlive,hF b h⟩
   ·exact ⟨j,ob',g',h⟩
 obtain ⟨v,fp,hrun,h1,h2,h3⟩:=key
 have hfin:∃v' fp,Ending.returned v= .returned v'∧R w' (vD w.heap.size w' fp) rr v' fp∧fp.Nodup∧(∀b∈fp,w.heap.size≤b∧b < w'.heap.size)∧w.heap.size≤w'.heap.size∧(∀b,b < w.heap.size→w'.heap[b]? =w.heap[b]?)∧Same w w':=by
  refine ⟨v,fp,rfl,?_,h2,fun b hb=> ?_,r.size,fun b hb=>r.frame b hb (fun h=>h),r.same⟩
  ·have k:bP w' (env ⟨w,fun _=>False,fun _=>False,fun _=>none,fun _=>none,hg,fun _ h=>h.elim,fun _ h=>h.elim⟩ s.o G w').plain w' (vD w.heap.size w' fp):=
    ⟨fun b hb=>⟨⟨(hb.1.resolve_left (fun h=>h)).1,(hb.1.resolve_left (fun h=>h)).2,fun hm=>by
     obtain ⟨j,ob,g,hl,hlive,hF⟩:=h3 b hm
     exact hb.2 j ob g hl hlive hF⟩,rfl⟩,fun _ _=>trivial,fun _ _ _ h=>h.elim,fun _ _ _ h=>h.elim,fun _ _ _ _ _ h=>h.elim⟩
   exact jL k _ _ _ (fun _ _=>rfl) h1
  ·obtain ⟨i,ob,g,hl,hlive,hF⟩:=h3 b hb
   have:=r.fresh _ _ _ b hl hlive hF
   exact ⟨this.1.resolve_left (fun h=>h),this.2⟩
 rcases he with rfl|rfl
 ·exact ⟨r.defs,v,hrun,hfin⟩
 ·exact ⟨r.defs,v,hrun,hfin⟩
theorem aC6 {P:Program} [aB P] (hm:P.follows .mixedOrders=true) {f:FuncId} {fn:Func} {c:Code} (hf:P.funcs[f]? =some fn) {n:Nat} (hn:fn.ntmps=n) {args t:List AV} {rr:AV}
  (h:awp P c ⟨t,[]⟩ (fun e s=>(e= .normal∨e= .ret)∧(jA P fn s rr∨wJ P fn s rr))) (hb:fn.body=some c:=by rfl) (hflat:wY args=true:=by simp [wY,flatV])
  (ht:args++List.replicate (n - args.length) .undef=t:=by
   simp only [List.length_cons,List.length_nil,Nat.reduceSub,Nat.reduceAdd,List.replicate_succ,List.replicate_zero,List.cons_append,List.nil_append];rfl):Ok P f args rr:=by
 subst ht;subst hn;exact aXu hm hf hb hflat h
theorem Ok.vw {P:Program} [aB P] {f:FuncId} {args:List AV} {r:AV} (h:Ok P f args r):Ok P f args (rt (fun _=>some .view) false r):=by
 intro w vs hg hr
 refine Calls.mono (h w vs hg hr) fun e w' he=> ?_
 obtain ⟨v,fp,rfl,h1,h2,h3,h4,h5,h6⟩:=he
 have k:iT (fun _=>some .view) false (vD w.heap.size w' fp) (vD w.heap.size w' []) (· ∈fp):=
  {own:=fun g e=>by obtain rfl:=Option.some.inj e;exact ⟨by simp,fun b hb=>⟨(h3 b hb).1,(h3 b hb).2,by simp⟩⟩
   view:=fun g e=>by obtain rfl:=Option.some.inj e;exact ⟨rfl,fun b hb=>⟨hb.1,hb.2.1,by simp⟩⟩
   dep:=fun i g e=>by obtain rfl:=Option.some.inj e;exact ⟨by simp,.inl trivial,fun b hb=>hb.elim⟩
   hh:=fun h=>by cases h
   hl:=fun h=>by cases h}
 exact ⟨v,[],rfl,aYy k r v fp (fun _ h=>h) h1,by simp,by simp,h4,h5,h6⟩
theorem Ok.vwas {P:Program} [aB P] {f:FuncId} {args:List AV} {r r':AV} (h:Ok P f args r) (e:rt (fun _=>some .view) false r=r'):Ok P f args r':=e▸h.vw
end Go.Aw

namespace Go.Aw
def swp (i j k:Nat):Nat:=if k=i then j else if k=j then i else k
theorem aDr (i j k:Nat):swp i j (swp i j k)=k:=by
 unfold swp;split<;>split<;>(try split)<;>omega
def moved (i j k:Nat):Prop:=k=i∨k=j
instance (i j k : Nat) : Decidable (moved i j k) := by unfold moved; infer_instance
theorem aMw {i j k:Nat} (h:¬moved i j k):swp i j k=k:=by
 unfold moved at h;unfold swp
 rw [if_neg (fun e=>h (.inl e)),if_neg (fun e=>h (.inr e))]
def gsw (i j:Nat):Tg→Tg
 | .dep k=> .dep (swp i j k)
 |g=>g
mutual
def rsw (i j : Nat) : AV → AV
  | .obj k v => if moved i j k then (if v = 0 then .undef else .obj (swp i j k) v) else .obj k v
  | .ptr k v idx off => if moved i j k then .undef else .ptr k v idx off
  | .sl g n l => .sl (gsw i j g) n (iU i j l)
  | .vptr g c off => .vptr (gsw i j g) (lD i j c) off
  | .agg c => .agg (lD i j c)
  | .tup c => .tup (lD i j c)
  | .fn f c => .fn f (lD i j c)
  | .int k n => .int k n
  | .bool b => .bool b
  | .str s => .str s
  | .undef => .undef
def lD (i j : Nat) : List AV → List AV
  | [] => []
  | x :: xs => rsw i j x :: lD i j xs
def iU (i j : Nat) : List (List AV) → List (List AV)
  | [] => []
  | x :: xs => lD i j x :: iU i j xs
end
theorem vK (i j:Nat):∀l,(iU i j l).length=l.length
 |[]=>rfl
 |_::l=>by simp [iU,vK i j l]
structure Ren (i j : Nat) (E E' : Env) : Prop where
  a : ∀ b, E.A b → E'.A b
  v : ∀ k, E'.V (swp i j k) → E.V k
  d : ∀ k b, E.D k b → E'.D (swp i j k) b
  h : ∀ k ver x, (moved i j k → ver ≠ 0) → E.H k ver x → E'.H (swp i j k) ver x
  l : ∀ k ver idx off x, ¬ moved i j k → E.L k ver idx off x → E'.L k ver idx off x
theorem Ren.plain {i j:Nat} {E E':Env} (k:Ren i j E E'):Ren i j E.plain E'.plain:=
 ⟨k.a,fun _ _=>trivial,fun _ _ h=>h.elim,fun _ _ _ _ h=>h.elim,fun _ _ _ _ _ _ h=>h.elim⟩
theorem Ren.sub {i j:Nat} {E E':Env} (k:Ren i j E E') (g:Tg):Ren i j (E.sub g) (E'.sub (gsw i j g)):=by
 cases g with
 |own=>exact k.plain
 |view=>exact k.plain
 |dep q=>exact ⟨k.a,fun _ _=>trivial,fun r b h=>⟨by rw [h.1],k.d _ _ h.2⟩,fun _ _ _ _ h=>h.elim,fun _ _ _ _ _ _ h=>h.elim⟩
theorem Ren.dead {i j:Nat} {E E':Env} (k:Ren i j E E') {g:Tg} (h:E.dead g):E'.dead (gsw i j g):=by
 cases g with
 |own=>exact h
 |view=>exact h
 |dep q=>exact fun hv=>h (k.v q hv)
theorem Ren.tg {i j:Nat} {E E':Env} (k:Ren i j E E') {g:Tg} {b:Nat} (h:E.tg g b):E'.tg (gsw i j g) b:=by
 cases g with
 |own=>exact h
 |view=>exact k.a b h
 |dep q=>exact k.d q b h
theorem aNk {i j:Nat} {g:Tg}:gsw i j g= .own↔g= .own:=by cases g<;>simp [gsw]
mutual
theorem bIw {w : World} {i j : Nat} {E E' : Env} (k : Ren i j E E') : ∀ (x : AV) (v : Value) (fp : List Nat), R w E x v fp → R w E' (rsw i j x) v fp
  | .obj q u, v, fp, h => by
    simp only [rsw]
    simp only [R] at h
    by_cases hm : moved i j q
    · rw [if_pos hm]
      by_cases hu : u = 0
      · rw [if_pos hu]; simp only [R]; exact h.1
      · rw [if_neg hu]; simp only [R]; exact ⟨h.1, k.h _ _ _ (fun _ => hu) h.2⟩
    · rw [if_neg hm]
      simp only [R]
      have := k.h q u v (fun hm' => absurd hm' hm) h.2
      rw [aMw hm] at this
      exact ⟨h.1, this⟩
  | .ptr q u idx off, v, fp, h => by
    simp only [rsw]
    simp only [R] at h
    by_cases hm : moved i j q
    · rw [if_pos hm]; simp only [R]; exact h.1
    · rw [if_neg hm]; simp only [R]; exact ⟨h.1, k.l _ _ _ _ _ hm h.2⟩
  | .sl g n l, v, fp, h => by
    simp only [rsw, R, vK] at h ⊢
    rcases h with h | ⟨a, cap, hv, hl, h⟩
    · exact .inl ⟨k.dead h.1, h.2⟩
    refine .inr ⟨a, cap, hv, hl, ?_⟩
    rcases h with ⟨hg, hl0, h1, h2⟩ | ⟨hg, b, off, C, e, fz, fps, ha, hb, hz, h1, h2, h3, hfp, hr⟩ | ⟨hg, hfp, h⟩
    · exact .inl ⟨aNk.2 hg, by rw [hl0]; rfl, h1, h2⟩
    · exact .inr (.inl ⟨aNk.2 hg, b, off, C, e, fz, fps, ha, hb, hz, h1, h2, h3, hfp, aKw (k.sub g) _ _ _ _ _ hr⟩)
    · refine .inr (.inr ⟨fun e => hg (aNk.1 e), hfp, ?_⟩)
      rcases h with rfl | ⟨b, off, ha, ht, hr⟩
      · exact .inl rfl
      · exact .inr ⟨b, off, ha, k.tg ht, aKw (k.sub g) _ _ _ _ _ hr⟩
  | .vptr g c off, v, fp, h => by
    simp only [rsw, R] at h ⊢
    rcases h with h | ⟨hfp, b, o, cs, hv, ht, hcs, hc, hr⟩
    · exact .inl ⟨k.dead h.1, h.2⟩
    · exact .inr ⟨hfp, b, o, cs, hv, k.tg ht, hcs, hc, aBh (k.sub g) _ _ _ hr⟩
  | .agg c, v, fp, h => by
    simp only [rsw, R] at h ⊢
    obtain ⟨cs, h1, h2, h3⟩ := h
    exact ⟨cs, h1, h2, aBh k c cs fp h3⟩
  | .tup c, v, fp, h => by
    simp only [rsw, R] at h ⊢
    obtain ⟨cs, h1, h3⟩ := h
    exact ⟨cs, h1, aBh k c cs fp h3⟩
  | .fn f c, v, fp, h => by
    simp only [rsw, R] at h ⊢
    obtain ⟨h0, cs, h1, h3⟩ := h
    exact ⟨h0, cs, h1, aBh k c cs [] h3⟩
  | .int _ _, v, fp, h => by simpa [rsw, R] using h
  | .bool _, v, fp, h => by simpa [rsw, R] using h
  | .str _, v, fp, h => by simpa [rsw, R] using h
  | .undef, v, fp, h => by simpa [rsw, R] using h
theorem aBh {w : World} {i j : Nat} {E E' : Env} (k : Ren i j E E') : ∀ (c : List AV) (cs : List Value) (fp : List Nat), Rc w E c cs fp → Rc w E' (lD i j c) cs fp
  | [], [], _, h => by simpa [Rc, lD] using h
  | [], _ :: _, _, h => by simp [Rc] at h
  | _ :: _, [], _, h => by simp [Rc] at h
  | x :: xs, c :: cs, fp, h => by
    simp only [Rc, lD] at h ⊢
    obtain ⟨f1, f2, h1, h2, h3⟩ := h
    exact ⟨f1, f2, bIw k x c f1 h1, aBh k xs cs f2 h2, h3⟩
theorem aKw {w : World} {i j : Nat} {E E' : Env} (k : Ren i j E E') : ∀ (l : List (List AV)) (b off n : Nat) (fp : List Nat), Rr w E l b off n fp → Rr w E' (iU i j l) b off n fp
  | [], _, _, _, _, h => by simpa [Rr, iU] using h
  | e :: es, b, off, n, fp, h => by
    simp only [Rr, iU] at h ⊢
    obtain ⟨cs, f1, f2, h1, h2, h3, h4, h5, h6⟩ := h
    exact ⟨cs, f1, f2, h1, h2, h3, aBh k e cs f1 h4, aKw k es b (off + n) n f2 h5, h6⟩
end
def aA.rsw (i j:Nat) (ob:aA):aA:=if ob.box=true then {ob with els:=iU i j ob.els} else ob
def swo (i j:Nat) (o:List aA):List aA:=(List.range o.length).map fun k=>((o[swp i j k]?).getD ⟨false,false,0,0,[]⟩).rsw i j
theorem kX.ren {w:World} {i j:Nat} {E E':Env} {n:Nat} {l:List (List AV)} {a:Option Addr} {cap:Nat} {fp:List Nat} (k:Ren i j E E') (h:kX w E n l a cap fp):kX w E' n (iU i j l) a cap fp:=by
 refine ⟨by rw [vK];exact h.1,?_⟩
 rcases h.2 with h|⟨b,off,C,e,fz,fps,ha,hb,hz,h1,h2,h3,hfp,hr⟩
 ·exact .inl ⟨by rw [h.1];rfl,h.2⟩
 ·exact .inr ⟨b,off,C,e,fz,fps,ha,hb,hz,h1,by rw [vK];exact h2,h3,hfp,aKw k _ _ _ _ _ hr⟩
theorem bBd {t t':List AV} {o o':List aA} (i j:Nat) (hi:i < o.length) (hj:j < o.length) (hbi:∀ob,o[i]? =some ob→ob.box=false) (hbj:∀ob,o[j]? =some ob→ob.box=false) (ho:swo i j o=o') (hw:wk (lD i j t) t'):fG ⟨t,o⟩ ⟨t',o'⟩:=by
 subst ho
 rintro P _ B a w ⟨G,r⟩
 have hlen:=r.len
 generalize hG':(List.range G.length).map (fun k=>(G[swp i j k]?).getD ⟨none,0,fun _=>False⟩)=G'
 have slt:∀k,k < o.length→swp i j k < o.length:=by intro k hk;unfold swp;split<;>(try split)<;>omega
 have fz:∀ob:aA,(ob.rsw i j).live=ob.live∧(ob.rsw i j).box=ob.box∧(ob.rsw i j).n=ob.n∧(ob.rsw i j).ver=ob.ver∧(ob.rsw i j).els.length=ob.els.length:=by
  intro ob;unfold aA.rsw;split<;>simp [vK]
 have og:∀k,(swo i j o)[k]? =(o[swp i j k]?).map (aA.rsw i j):=by
  intro k
  unfold swo
  rw [List.getElem?_map]
  by_cases hk:k < o.length
  ·rw [List.getElem?_range hk]
   simp only [Option.map_some,List.getElem?_eq_getElem (slt k hk),Option.getD_some]
  ·have h1:(List.range o.length)[k]? =none:=by rw [List.getElem?_eq_none_iff];simp;omega
   have h2:swp i j k=k:=by unfold swp;rw [if_neg (by omega),if_neg (by omega)]
   rw [h1,h2,List.getElem?_eq_none (by omega)];rfl
 have gg:∀k,G'[k]? =G[swp i j k]?:=by
  intro k
  rw [←hG',List.getElem?_map]
  by_cases hk:k < G.length
  ·rw [List.getElem?_range hk]
   have h3:swp i j k < G.length:=by rw [hlen];exact slt k (by rw [←hlen];exact hk)
   simp only [Option.map_some,List.getElem?_eq_getElem h3,Option.getD_some]
  ·have h1:(List.range G.length)[k]? =none:=by rw [List.getElem?_eq_none_iff];simp;omega
   have h2:swp i j k=k:=by
    have:o.length=G.length:=hlen.symm
    unfold swp;rw [if_neg (by omega),if_neg (by omega)]
   rw [h1,h2,List.getElem?_eq_none (by omega)];rfl
 have back:∀{k ob g},look (swo i j o) G' k ob g→∃ob0,look o G (swp i j k) ob0 g∧ob=ob0.rsw i j:=by
  rintro k ob g ⟨e1,e2⟩
  rw [og] at e1
  rw [gg] at e2
  cases hx:o[swp i j k]? with
  |none=>rw [hx] at e1;cases e1
  |some ob0=>
   rw [hx] at e1
   exact ⟨ob0,⟨hx,e2⟩,(Option.some.inj e1).symm⟩
 have forth:∀{k ob g},look o G k ob g→look (swo i j o) G' (swp i j k) (ob.rsw i j) g:=by
  rintro k ob g ⟨e1,e2⟩
  exact ⟨by rw [og,aDr,e1];rfl,by rw [gg,aDr,e2]⟩
 have nbox:∀{k ob g},look o G k ob g→ob.box=true→¬moved i j k:=by
  rintro k ob g ⟨e1,_⟩ hb (rfl|rfl)
  ·rw [hbi ob e1] at hb;cases hb
  ·rw [hbj ob e1] at hb;cases hb
 have rn:Ren i j (env B o G w) (env B (swo i j o) G' w):=by
  refine ⟨fun b h=>⟨h.1,fun k ob g hl hlv hF=> ?_⟩,fun k h ob hob=> ?_,fun k b h=> ?_,fun k ver x hm h=> ?_,fun k ver idx off x hm h=> ?_⟩
  ·obtain ⟨ob0,hl0,rfl⟩:=back hl
   exact h.2 _ _ _ hl0 (by rw [←(fz ob0).1];exact hlv) hF
  ·have h1:=h (ob.rsw i j) (by rw [og,aDr,hob];rfl)
   rw [(fz ob).1] at h1;exact h1
  ·obtain ⟨ob,g,hl,hlv,hF,hne⟩:=h
   exact ⟨_,g,forth hl,by rw [(fz ob).1];exact hlv,hF,hne⟩
  ·obtain ⟨ob,g,hl,hver,h5,hz⟩:=h
   refine ⟨_,g,forth hl,by rw [(fz ob).2.2.2.1];exact hver,fun hlv hve=> ?_,fun hv0 y hy=> ?_⟩
   ·rw [(fz ob).2.2.2.2]
    exact h5 (by rw [←(fz ob).1];exact hlv) (by rw [←(fz ob).2.2.2.1];exact hve)
   ·by_cases hmv:moved i j k
    ·exact absurd hv0 (hm hmv)
    ·rw [aMw hmv] at hy;exact hz hv0 y hy
  ·obtain ⟨ob,g,hl,hver,h5,hz⟩:=h
   have hf:=forth hl
   rw [aMw hm] at hf
   refine ⟨_,g,hf,by rw [(fz ob).2.2.2.1];exact hver,fun hlv hve=> ?_,fun hb hv e1 e2 y hy=> ?_⟩
   ·rw [(fz ob).2.2.1]
    exact h5 (by rw [←(fz ob).1];exact hlv) (by rw [←(fz ob).2.2.2.1];exact hve)
   ·have:=hz (by rw [←(fz ob).2.1];exact hb) hv e1 e2 y hy
    exact ⟨this.1,fun hlv hve=>this.2 (by rw [←(fz ob).1];exact hlv) (by rw [←(fz ob).2.2.2.1];exact hve)⟩
 refine ⟨G',{len:= ?_,defs:=r.defs,ok:= ?_,apart:= ?_,fresh:= ?_,tmps:=yY hw (aBh rn _ _ _ r.tmps),size:=r.size,frame:=r.frame,base:=r.base,same:=r.same}⟩
 ·rw [←hG'];simp [swo,hlen]
 ·intro k ob g hl hlv
  obtain ⟨ob0,hl0,rfl⟩:=back hl
  obtain ⟨fp,hown,hnd,hF⟩:=r.ok _ _ g hl0 (by rw [←(fz ob0).1];exact hlv)
  refine ⟨fp,?_,hnd,hF⟩
  cases hb0:ob0.box with
  |false=>
   have e:ob0.rsw i j=ob0:=by unfold aA.rsw;rw [if_neg (by simp [hb0])]
   rw [e]
   rw [hb0] at hown⊢
   exact hown.keeps (w:=w) (w':=w) ⟨fun b hb=>⟨rn.a b hb,rfl⟩,fun _ _=>trivial,fun _ _ _ h=>h.elim,fun _ _ _ h=>h.elim,fun _ _ _ _ _ h=>h.elim⟩ (fun _ _=>rfl)
  |true=>
   have e:ob0.rsw i j={ob0 with els:=iU i j ob0.els}:=by unfold aA.rsw;rw [if_pos hb0]
   rw [e]
   simp only [hb0] at hown⊢
   simp only [Env.of,if_true] at hown⊢
   exact hown.ren rn
 ·intro p q op oq gp gq b hp hq hlp hlq hFp hFq
  obtain ⟨op0,hp0,rfl⟩:=back hp
  obtain ⟨oq0,hq0,rfl⟩:=back hq
  have:=r.apart _ _ _ _ _ _ b hp0 hq0 (by rw [←(fz op0).1];exact hlp) (by rw [←(fz oq0).1];exact hlq) hFp hFq
  have h2:=congrArg (swp i j) this
  rwa [aDr,aDr] at h2
 ·intro k ob g b hl hlv hF
  obtain ⟨ob0,hl0,rfl⟩:=back hl
  exact r.fresh _ _ g b hl0 (by rw [←(fz ob0).1];exact hlv) hF
theorem bFs {i j:Nat} {o:List aA} {oi oj:aA} (hi:o[i]? =some oi) (hj:o[j]? =some oj):swo i j o=((o.set i oj).set j oi).map (aA.rsw i j):=by
 have hil:=(List.getElem?_eq_some_iff.1 hi).1
 have hjl:=(List.getElem?_eq_some_iff.1 hj).1
 refine List.ext_getElem? fun k=> ?_
 unfold swo
 rw [List.getElem?_map,List.getElem?_map]
 by_cases hk:k < o.length
 ·rw [List.getElem?_range hk]
  simp only [Option.map_some]
  by_cases hkj:k=j
  ·subst hkj
   rw [List.getElem?_set_self (by simpa using hk)]
   have:swp i k k=i:=by unfold swp;split<;>simp_all
   rw [this,hi];rfl
  ·rw [List.getElem?_set_ne (fun e=>hkj e.symm)]
   by_cases hki:k=i
   ·subst hki
    rw [List.getElem?_set_self hk]
    have:swp k j k=j:=by unfold swp;simp
    rw [this,hj];rfl
   ·rw [List.getElem?_set_ne (fun e=>hki e.symm)]
    have:swp i j k=k:=by unfold swp;rw [if_neg hki,if_neg hkj]
    rw [this,List.getElem?_eq_getElem hk];rfl
 ·have h1:(List.range o.length)[k]? =none:=by rw [List.getElem?_eq_none_iff];simp;omega
  have h2:((o.set i oj).set j oi)[k]? =none:=by rw [List.getElem?_eq_none_iff];simp;omega
  rw [h1,h2];rfl
theorem bH {t t':List AV} {o o':List aA} (i j:Nat) {oi oj:aA} (hi:o[i]? =some oi) (hj:o[j]? =some oj) (hb:oi.box=false∧oj.box=false) (ho:((o.set i oj).set j oi).map (aA.rsw i j)=o') (hw:wk (lD i j t) t'):fG ⟨t,o⟩ ⟨t',o'⟩:=
 bBd i j (List.getElem?_eq_some_iff.1 hi).1 (List.getElem?_eq_some_iff.1 hj).1 (fun ob h=>by rw [hi] at h;obtain rfl:=Option.some.inj h;exact hb.1) (fun ob h=>by rw [hj] at h;obtain rfl:=Option.some.inj h;exact hb.2) (by rw [bFs hi hj];exact ho) hw
@[simp] theorem bJ0 (i j:Nat) (l:Bool) (n v:Nat) (els:List (List AV)):aA.rsw i j ⟨l,false,n,v,els⟩=⟨l,false,n,v,els⟩:=rfl
@[simp] theorem bJy (i j:Nat) (l:Bool) (n v:Nat) (els:List (List AV)):aA.rsw i j ⟨l,true,n,v,els⟩=⟨l,true,n,v,iU i j els⟩:=rfl
attribute [simp] rsw lD iU gsw swp moved
end Go.Aw

namespace Go.Aw
def xJ:Nat→List GA→List AV
 |_,[]=>[]
 |k,.view x::gs=>x::xJ k gs
 |k,.give x::gs=>(dG 1 k x).1::xJ (k+(dG 1 k x).2.length) gs
 |k,.lend c _::gs=> .ptr k 2 0 0::xJ (k+(1+(dJ 1 (k+1) c).2.length)) gs
def uB:Nat→List GA→List aA
 |_,[]=>[]
 |k,.view _::gs=>uB k gs
 |k,.give x::gs=>(dG 1 k x).2++uB (k+(dG 1 k x).2.length) gs
 |k,.lend c _::gs=>(⟨true,true,c.length,2,[(dJ 1 (k+1) c).1]⟩::(dJ 1 (k+1) c).2)++uB (k+(1+(dJ 1 (k+1) c).2.length)) gs
def Fc (E:Env) (k:Nat) (os:List aA) (Gs:List CO):Prop:=
 ∀j ob g,look os Gs j ob g→E.H (k+j) ob.ver (.slice g.a ob.els.length g.cap)∧(ob.box=true→∀b f,g.a=some ⟨b,f,none⟩→E.L (k+j) ob.ver 0 0 (.pointer (some ⟨b,f,none⟩)))
theorem Fc.left {E:Env} {k:Nat} {o1 o2:List aA} {G1 G2:List CO} (h:Fc E k (o1++o2) (G1++G2)):Fc E k o1 G1:=fun j ob g hl=>h j ob g (lQ hl)
theorem Fc.right {E:Env} {k:Nat} {o1 o2:List aA} {G1 G2:List CO} (hlen:G1.length=o1.length) (h:Fc E k (o1++o2) (G1++G2)):Fc E (k+o1.length) o2 G2:=fun j ob g hl=>by
 have:=h _ ob g (mG hlen hl)
 rwa [←Nat.add_assoc] at this
def Ent (w:World) (E:Env) (k:Nat) (os:List aA) (fp:List Nat) (pin:List CO→Prop) (done:Env→Prop):Prop:=
 ∃Gs:List CO,Gs.length=os.length∧
  (∀j ob g,look os Gs j ob g→ob.live=true∧(ob.box=false→ob.ver=1)∧(ob.box=true→ob.ver=2)∧∃f,f.Nodup∧(∀b,g.F b↔b∈f)∧(∀b∈f,b∈fp)∧
   ∀E',bP w E w E'→Fc E' k os Gs→kX w (E'.of ob.box) ob.n ob.els g.a g.cap f)∧
  (∀i j oi oj gi gj b,look os Gs i oi gi→look os Gs j oj gj→gi.F b→gj.F b→i=j)∧pin Gs∧
  ∀E':Env,bP w E w E'→Fc E' k os Gs→done E'
theorem Ent.of_absorbed {w:World} {E:Env} {k:Nat} {os:List aA} {fp:List Nat} {done:Env→Prop} (h:iV 1 w E k os fp done):Ent w E k os fp (fun _=>True) done:=by
 obtain ⟨Gs,h1,h2,h3,h4⟩:=h
 refine ⟨Gs,h1,fun j ob g hl=> ?_,h3,trivial,fun E' hk hf=>h4 E' hk fun j ob g hl=> ?_⟩
 ·obtain ⟨a1,a2,a3,f,a4,a5,a6,a7⟩:=h2 j ob g hl
  refine ⟨a1,fun _=>a3,(fun h=>by rw [a2] at h;cases h),f,a5,a6,a7,fun E' hk _=> ?_⟩
  rw [a2]
  exact a4.keeps hk.plain (fun _ _=>rfl)
 ·have:=(hf j ob g hl).1
  obtain ⟨_,_,a3,_⟩:=h2 j ob g hl
  rwa [a3] at this
theorem Ent.append {w:World} {E:Env} {k:Nat} {o1 o2:List aA} {f1 f2:List Nat} {p1 p2 p:List CO→Prop} {d1 d2 d:Env→Prop} (h1:Ent w E k o1 f1 p1 d1) (h2:Ent w E (k+o1.length) o2 f2 p2 d2) (hn:(f1++f2).Nodup)
  (hp:∀G1 G2,G1.length=o1.length→p1 G1→p2 G2→p (G1++G2)) (hd:∀E',d1 E'→d2 E'→d E'):Ent w E k (o1++o2) (f1++f2) p d:=by
 obtain ⟨G1,l1,a1,b1,q1,c1⟩:=h1
 obtain ⟨G2,l2,a2,b2,q2,c2⟩:=h2
 have hdj:=(List.nodup_append.1 hn).2.2
 refine ⟨G1++G2,by simp [l1,l2],?_,?_,hp G1 G2 l1 q1 q2,fun E' hk hf=>hd E' (c1 E' hk hf.left) (c2 E' hk (hf.right l1))⟩
 ·intro j ob g hl
  rcases jX l1 hl with ⟨_,h⟩|⟨_,h⟩
  ·obtain ⟨x,y,y',f,z1,z2,z3,z4⟩:=a1 _ _ _ h
   exact ⟨x,y,y',f,z1,z2,fun b hb=>List.mem_append_left _ (z3 b hb),fun E' hk hf=>z4 E' hk hf.left⟩
  ·obtain ⟨x,y,y',f,z1,z2,z3,z4⟩:=a2 _ _ _ h
   exact ⟨x,y,y',f,z1,z2,fun b hb=>List.mem_append_right _ (z3 b hb),fun E' hk hf=>z4 E' hk (hf.right l1)⟩
 ·intro i j oi oj gi gj b hi hj hfi hfj
  rcases jX l1 hi with ⟨_,h⟩|⟨hi',h⟩<;>rcases jX l1 hj with ⟨_,h'⟩|⟨hj',h'⟩
  ·exact b1 _ _ _ _ _ _ b h h' hfi hfj
  ·obtain ⟨_,_,_,f,_,z2,z3,_⟩:=a1 _ _ _ h
   obtain ⟨_,_,_,f',_,z2',z3',_⟩:=a2 _ _ _ h'
   exact absurd rfl (hdj b (z3 b ((z2 b).1 hfi)) b (z3' b ((z2' b).1 hfj)))
  ·obtain ⟨_,_,_,f,_,z2,z3,_⟩:=a2 _ _ _ h
   obtain ⟨_,_,_,f',_,z2',z3',_⟩:=a1 _ _ _ h'
   exact absurd rfl (hdj b (z3' b ((z2' b).1 hfj)) b (z3 b ((z2 b).1 hfi)))
  ·have:=b2 _ _ _ _ _ _ b h h' hfi hfj
   omega
theorem bBx {w:World} {O:Nat→Prop} {k:Nat} {c c':List AV} {v:Value} {fp:List Nat} {cap:Nat} (h:RG w O (.lend c c') v fp cap) (hn:fp.Nodup):
  Ent w (nA w O) k (⟨true,true,c.length,2,[(dJ 1 (k+1) c).1]⟩::(dJ 1 (k+1) c).2) fp
   (fun Gs=>∃g b f,Gs[0]? =some g∧g.a=some ⟨b,f,none⟩∧v= .pointer (some ⟨b,f,none⟩)∧g.cap=cap) (fun E'=>R w E' (.ptr k 2 0 0) v []):=by
 simp only [RG] at h
 obtain ⟨b,f,rfl,hlen,hown⟩:=h
 rcases hown with ⟨h5,_⟩|⟨b',f',C,ty,fz,fps,ha',hbk,hz,k1,k2,k3,rfl,hr⟩
 ·cases h5
 simp only [Option.some.injEq,Addr.mk.injEq,and_true] at ha'
 obtain ⟨rfl,rfl⟩:=ha'
 simp only [Rr] at hr
 obtain ⟨cs,f1,f2,hcl,hc,hone,hrc,rfl,e⟩:=hr
 have e:fps=f1:=by simpa using e
 subst e
 simp only [List.nodup_cons] at hn
 obtain ⟨Gs,a1,a2,a3,a4⟩:=aAe (q:=1) c cs fps (k+1) hrc hn.2
 have tail:∀{j ob g},look (⟨true,true,c.length,2,[(dJ 1 (k+1) c).1]⟩::(dJ 1 (k+1) c).2) (⟨some ⟨b,f,none⟩,cap,fun x=>x=b⟩::Gs) j ob g→
   (j=0∧ob=⟨true,true,c.length,2,[(dJ 1 (k+1) c).1]⟩∧g=⟨some ⟨b,f,none⟩,cap,fun x=>x=b⟩)∨∃j',j=j'+1∧look (dJ 1 (k+1) c).2 Gs j' ob g:=by
  rintro j ob g ⟨h1,h2⟩
  cases j with
  |zero=>simp only [List.getElem?_cons_zero,Option.some.injEq] at h1 h2;exact .inl ⟨rfl,h1.symm,h2.symm⟩
  |succ j=>exact .inr ⟨j,rfl,by simpa using h1,by simpa using h2⟩
 have inner:∀{E':Env},Fc E' k (⟨true,true,c.length,2,[(dJ 1 (k+1) c).1]⟩::(dJ 1 (k+1) c).2) (⟨some ⟨b,f,none⟩,cap,fun x=>x=b⟩::Gs)→
   ∀j ob g,look (dJ 1 (k+1) c).2 Gs j ob g→E'.H (k+1+j) 1 (.slice g.a ob.els.length g.cap):=by
  intro E' hf j ob g hl
  have:=(hf (j+1) ob g ⟨by simpa using hl.1,by simpa using hl.2⟩).1
  obtain ⟨_,_,h3,_⟩:=a2 j ob g hl
  rw [h3] at this
  rwa [show k+1+j=k+(j+1) by omega]
 refine ⟨⟨some ⟨b,f,none⟩,cap,fun x=>x=b⟩::Gs,by simp [a1],?_,?_,⟨_,b,f,rfl,rfl,rfl,rfl⟩,?_⟩
 ·intro j ob g hl
  rcases tail hl with ⟨rfl,rfl,rfl⟩|⟨j',rfl,hl'⟩
  ·refine ⟨rfl,(fun h=>by cases h),fun _=>rfl,[b],by simp,by simp,by simp,fun E' hk hf=> ?_⟩
   refine ⟨by simp [maxLen],.inr ⟨b,f,C,ty,fz,[],rfl,hbk,hz,k1,by simpa using k2,k3,rfl,?_⟩⟩
   simp only [Rr]
   exact ⟨cs,[],[],hcl,hc,hone,a4 E' hk (inner hf),rfl,rfl⟩
  ·obtain ⟨h1,h2,h3,f',h4,h5,h6,h7⟩:=a2 _ _ _ hl'
   refine ⟨h1,fun _=>h3,(fun h=>by rw [h2] at h;cases h),f',h5,h6,fun x hx=>List.mem_cons_of_mem _ (h7 x hx),fun E' hk _=> ?_⟩
   rw [h2]
   exact h4.keeps hk.plain (fun _ _=>rfl)
 ·intro i j oi oj gi gj x hi hj hfi hfj
  rcases tail hi with ⟨rfl,rfl,rfl⟩|⟨i',rfl,hi'⟩<;>rcases tail hj with ⟨rfl,rfl,rfl⟩|⟨j',rfl,hj'⟩
  ·rfl
  ·obtain ⟨_,_,_,f',_,_,h6,h7⟩:=a2 _ _ _ hj'
   have hx:x=b:=hfi
   subst hx
   exact absurd (h7 _ ((h6 _).1 hfj)) hn.1
  ·obtain ⟨_,_,_,f',_,_,h6,h7⟩:=a2 _ _ _ hi'
   have hx:x=b:=hfj
   subst hx
   exact absurd (h7 _ ((h6 _).1 hfi)) hn.1
  ·have:=a3 _ _ _ _ _ _ x hi' hj' hfi hfj
   omega
 ·intro E' hk hf
  simp only [R]
  exact ⟨trivial,(hf 0 _ _ ⟨rfl,rfl⟩).2 rfl b f rfl⟩
def pinned (gat:Nat→Option CO):Nat→List GA→List Value→List Nat→Prop
 |_,[],[],[]=>True
 |k,.view _::gs,_::vs,_::caps=>pinned gat k gs vs caps
 |k,.give x::gs,_::vs,_::caps=>pinned gat (k+(dG 1 k x).2.length) gs vs caps
 |k,.lend c _::gs,v::vs,cap::caps=>(∃g b f,gat k=some g∧g.a=some ⟨b,f,none⟩∧v= .pointer (some ⟨b,f,none⟩)∧g.cap=cap)∧pinned gat (k+(1+(dJ 1 (k+1) c).2.length)) gs vs caps
 |_,_,_,_=>False
theorem aKu {w:World} {O:Nat→Prop}:∀(gs:List GA) (vs:List Value) (fss:List (List Nat)) (caps:List Nat) (k:Nat),RGs w O gs vs fss caps→fss.flatten.Nodup→
  Ent w (nA w O) k (uB k gs) fss.flatten (fun Gs=>∀pre:List CO,pre.length=k→pinned (fun i=>(pre++Gs)[i]?) k gs vs caps) (fun E'=>Rc w E' (xJ k gs) vs [])
 |[],[],[],[],k,_,_=>⟨[],rfl,fun j ob g hl=>by simp [look,uB] at hl,fun i j oi oj gi gj b hl=>by simp [look,uB] at hl,fun _ _=>by simp [pinned],fun E' _ _=>by simp [xJ,Rc]⟩
 | .view x::gs,v::vs,fp::fss,cap::caps,k,h,hn=>by
  simp only [RGs,RG] at h
  obtain ⟨⟨rfl,hx⟩,h⟩:=h
  simp only [List.flatten_cons,List.nil_append] at hn⊢
  obtain ⟨Gs,a1,a2,a3,a4,a5⟩:=aKu gs vs fss caps k h hn
  refine ⟨Gs,a1,a2,a3,fun pre hp=>by simp only [pinned];exact a4 pre hp,fun E' hk hf=> ?_⟩
  ·simp only [xJ,Rc]
   exact ⟨[],[],jL hk _ _ _ (by simp) hx,a5 E' hk hf,rfl⟩
 | .give x::gs,v::vs,fp::fss,cap::caps,k,h,hn=>by
  simp only [RGs,RG] at h
  obtain ⟨hx,h⟩:=h
  simp only [List.flatten_cons] at hn⊢
  have hn':=List.nodup_append.1 hn
  refine (Ent.of_absorbed (yR (q:=1) x v fp k hx hn'.1)).append (aKu gs vs fss caps (k+(dG 1 k x).2.length) h hn'.2.1) hn (fun G1 G2 hl _ h2 pre hp=> ?_) (fun E' h1 h2=> ?_)
  ·simp only [pinned]
   have:=h2 (pre++G1) (by simp [hp,hl])
   simpa using this
  ·simp only [xJ,Rc]
   exact ⟨[],[],h1,h2,rfl⟩
 | .lend c c'::gs,v::vs,fp::fss,cap::caps,k,h,hn=>by
  simp only [RGs] at h
  obtain ⟨hx,h⟩:=h
  simp only [List.flatten_cons] at hn⊢
  have hn':=List.nodup_append.1 hn
  have h2:=aKu gs vs fss caps (k+(1+(dJ 1 (k+1) c).2.length)) h hn'.2.1
  simp only [uB]
  refine (bBx hx hn'.1).append (by
   rw [show k+(({live:=true,box:=true,n:=c.length,ver:=2,els:=[(dJ 1 (k+1) c).1]}:aA)::(dJ 1 (k+1) c).2).length=k+(1+(dJ 1 (k+1) c).2.length) by simp;omega]
   exact h2) hn (fun G1 G2 hl h1 h2 pre hp=> ?_) (fun E' h1 h2=> ?_)
  ·simp only [pinned]
   refine ⟨?_,?_⟩
   ·obtain ⟨g,b,f,e1,e2,e3,e4⟩:=h1
    refine ⟨g,b,f,?_,e2,e3,e4⟩
    subst hp
    rw [List.getElem?_append_right (by omega),Nat.sub_self]
    cases G1 with
    |nil=>simp at e1
    |cons _ _=>simpa using e1
   ·have:=h2 (pre++G1) (by simp only [List.length_append,hp,hl,List.length_cons];omega)
    simpa using this
  ·simp only [xJ,Rc]
   exact ⟨[],[],h1,h2,rfl⟩
 |[],[],[],_::_,_,h,_=>by simp [RGs] at h
 |[],[],_::_,_,_,h,_=>by simp [RGs] at h
 |[],_::_,_,_,_,h,_=>by simp [RGs] at h
 | .view _::_,[],_,_,_,h,_=>by simp [RGs] at h
 | .view _::_,_::_,[],_,_,h,_=>by simp [RGs] at h
 | .view _::_,_::_,_::_,[],_,h,_=>by simp [RGs] at h
 | .give _::_,[],_,_,_,h,_=>by simp [RGs] at h
 | .give _::_,_::_,[],_,_,h,_=>by simp [RGs] at h
 | .give _::_,_::_,_::_,[],_,h,_=>by simp [RGs] at h
 | .lend _ _::_,[],_,_,_,h,_=>by simp [RGs] at h
 | .lend _ _::_,_::_,[],_,_,h,_=>by simp [RGs] at h
 | .lend _ _::_,_::_,_::_,[],_,h,_=>by simp [RGs] at h
def fB (s:AS):Nat→Nat→List GA→Prop
 |_,_,[]=>True
 |pos,k,.view _::gs=>fB s (pos+1) k gs
 |pos,k,.give x::gs=>fB s (pos+1) (k+(dG 1 k x).2.length) gs
 |pos,k,.lend c c'::gs=>(s.t.getD pos .undef= .ptr k 2 0 0∧∃cells,s.o[k]? =some ⟨true,true,c.length,2,[cells]⟩∧iW s.o cells=true∧jD s.o cells=c'∧vI c'=true)∧
   fB s (pos+1) (k+(1+(dJ 1 (k+1) c).2.length)) gs
def eH (s:AS):Nat→List GA→List Nat
 |_,[]=>[]
 |k,.view _::gs=>eH s k gs
 |k,.give x::gs=>eH s (k+(dG 1 k x).2.length) gs
 |k,.lend c _::gs=>(k::fK (rowOf s.o k))++eH s (k+(1+(dJ 1 (k+1) c).2.length)) gs
def iM (P:Program) (fn:Func) (s:AS) (gs:List GA) (r:AV):Prop:=
 ∃ys,s.rvs P fn.results.toList=some ys∧eB s.o (single ys)=true∧res s.o (single ys)=r∧clean r=true∧fB s 0 0 gs∧(eH s 0 gs++uses (single ys)).Nodup
theorem aCk {P:Program} [aB P] {B:Base P} {s:AS} {G:List CO} {a:Act} {w:World} (r:bG B s G a w) {gat:Nat→Option CO} (hp:∀i g,gat i=some g→B.p0 i=some (.pointer g.a,g.cap)):
  ∀(gs:List GA) (vs:List Value) (caps:List Nat) (pos k:Nat),pinned gat k gs vs caps→fB s pos k gs→(eH s k gs).Nodup→
  ∃fss,RPs w gs vs fss caps∧fss.flatten.Nodup∧∀b∈fss.flatten,Of s.o G (eH s k gs) b
 |[],[],[],pos,k,_,_,_=>⟨[],by simp [RPs],by simp,by simp⟩
 | .view x::gs,v::vs,cap::caps,pos,k,h1,h2,h3=>by
  simp only [pinned] at h1
  simp only [fB] at h2
  simp only [eH] at h3⊢
  obtain ⟨fss,q1,q2,q3⟩:=aCk r hp gs vs caps (pos+1) k h1 h2 h3
  exact ⟨[]::fss,by simp only [RPs,RP];exact ⟨trivial,q1⟩,by simpa using q2,by simpa using q3⟩
 | .give x::gs,v::vs,cap::caps,pos,k,h1,h2,h3=>by
  simp only [pinned] at h1
  simp only [fB] at h2
  simp only [eH] at h3⊢
  obtain ⟨fss,q1,q2,q3⟩:=aCk r hp gs vs caps (pos+1) _ h1 h2 h3
  exact ⟨[]::fss,by simp only [RPs,RP];exact ⟨trivial,q1⟩,by simpa using q2,by simpa using q3⟩
 | .lend c c'::gs,v::vs,cap::caps,pos,k,h1,h2,h3=>by
  simp only [pinned] at h1
  simp only [fB] at h2
  simp only [eH] at h3⊢
  obtain ⟨⟨g0,b0,f0,e1,e2,e3,e4⟩,h1⟩:=h1
  obtain ⟨⟨htp,cells,ho,hok,hres,hcl⟩,h2⟩:=h2
  have hn:=List.nodup_append.1 h3
  obtain ⟨fss,q1,q2,q3⟩:=aCk r hp gs vs caps (pos+1) _ h1 h2 hn.2.1
  have hrow:rowOf s.o k=cells:=by simp [rowOf,ho]
  rw [hrow] at hn⊢
  have hob:AV.isObj s.o k 2=some ⟨true,true,c.length,2,[cells]⟩:=by simp [AV.isObj,ho]
  obtain ⟨g,b,f,hl,hlive,hga,hv⟩:=r.ptr (x:= .tmp pos) htp hob
  have hpin:=r.pin (x:= .tmp pos) htp hob hl rfl rfl rfl rfl _ (hp k g0 e1)
  rw [hv] at hpin
  obtain ⟨hp1,hp2⟩:=hpin
  have hcap:g.cap=g0.cap:=hp2 rfl rfl
  simp only [Value.pointer.injEq] at hp1
  rw [e2] at hp1
  simp only [Nat.zero_mul,Nat.add_zero,Option.some.injEq,Addr.mk.injEq,and_true] at hp1
  obtain ⟨rfl,rfl⟩:=hp1
  obtain ⟨fp0,⟨_,hown⟩,hndo,hFo⟩:=r.ok k _ g hl rfl
  simp only [Env.of,if_true] at hown
  rcases hown with ⟨h5,_⟩|⟨b',f',C,ty,fz,fps,ha',hbk,hz,k1,k2,k3,rfl,hr⟩
  ·cases h5
  rw [hga] at ha'
  simp only [Option.some.injEq,Addr.mk.injEq,and_true] at ha'
  obtain ⟨rfl,rfl⟩:=ha'
  simp only [Rr] at hr
  obtain ⟨cs,f1,f2,hcn,hc,hone,hrc,rfl,e⟩:=hr
  have e:fps=f1:=by simpa using e
  subst e
  simp only [List.nodup_cons] at hndo
  have hn1:=hn.1
  simp only [List.nodup_cons] at hn1
  obtain ⟨fp',u1,u2,u3⟩:=aDt r hl rfl cells cs fps hok hn1.2 hn1.1 hndo.2 (fun x hx=>hFo x (by simp [hx])) hrc
  have hbF:g.F b:=hFo b (by simp)
  have hbn:b∉fp':=fun hb=>by
   rcases u3 b hb with h|h
   ·exact hndo.1 h
   ·obtain ⟨j,oj,gj,hj,hlj,hjl,hFj⟩:=h
    have:=r.apart k j _ _ _ _ b hl hlj rfl hjl hbF hFj
    exact hn1.1 (this▸hj)
  rw [hres] at u1
  have u1':Rc w mP c' cs fp':=yC (E:=(env B s.o G w).plain) (fun _ _=>trivial) rfl rfl rfl _ _ _ hcl u1
  have hin:∀x∈b::fp',Of s.o G (k::fK cells) x:=by
   intro x hx
   rcases List.mem_cons.1 hx with rfl|hx
   ·exact ⟨k,_,g,by simp,hl,rfl,hbF⟩
   ·rcases u3 x hx with h|h
    ·exact ⟨k,_,g,by simp,hl,rfl,hFo x (by simp [h])⟩
    ·exact wS (fun j hj=>by simp [hj]) h
  refine ⟨(b::fp')::fss,?_,?_,?_⟩
  ·simp only [RPs,RP]
   refine ⟨⟨b,f,e3,by simp [maxLen],.inr ⟨b,f,C,ty,fz,fp',rfl,hbk,hz,?_,?_,?_,rfl,?_⟩⟩,q1⟩
   ·rw [←e4,←hcap];exact k1
   ·rw [←e4,←hcap];simpa using k2
   ·rw [←e4,←hcap];exact k3
   ·simp only [Rr]
    exact ⟨cs,fp',[],hcn,hc,hone,u1',rfl,by simp⟩
  ·simp only [List.flatten_cons,List.nodup_append]
   refine ⟨List.nodup_cons.2 ⟨hbn,u2⟩,q2,fun x hx y hy e=> ?_⟩
   subst e
   exact aEo r (fun i hi j hj=>hn.2.2 i hi j hj) (hin x hx) (q3 x hy)
  ·intro x hx
   simp only [List.flatten_cons,List.mem_append] at hx
   rcases hx with hx|hx
   ·exact wS (fun i hi=>List.mem_append_left _ hi) (hin x hx)
   ·exact wS (fun i hi=>List.mem_append_right _ hi) (q3 x hx)
 |[],[],_::_,_,_,h,_,_=>by simp [pinned] at h
 |[],_::_,_,_,_,h,_,_=>by simp [pinned] at h
 | .view _::_,[],_,_,_,h,_,_=>by simp [pinned] at h
 | .view _::_,_::_,[],_,_,h,_,_=>by simp [pinned] at h
 | .give _::_,[],_,_,_,h,_,_=>by simp [pinned] at h
 | .give _::_,_::_,[],_,_,h,_,_=>by simp [pinned] at h
 | .lend _ _::_,[],_,_,_,h,_,_=>by simp [pinned] at h
 | .lend _ _::_,_::_,[],_,_,h,_,_=>by simp [pinned] at h
theorem aKi {w:World} {O:Nat→Prop}:∀{gs:List GA} {vs:List Value} {fss:List (List Nat)} {caps:List Nat},RGs w O gs vs fss caps→vs.length=gs.length
 |[],[],_,_,_=>rfl
 |_::gs,_::vs,[],_,h=>by simp [RGs] at h
 |_::gs,_::vs,_::_,[],h=>by simp [RGs] at h
 |_::gs,_::vs,_::fss,_::caps,h=>by simp only [RGs] at h;simp [aKi h.2]
 |[],_::_,_,_,h=>by simp [RGs] at h
 |_::_,[],_,_,h=>by simp [RGs] at h
theorem aLb {P:Program} [aB P] (hm:P.follows .mixedOrders=true) {f:FuncId} {fn:Func} {c:Code} (hf:P.funcs[f]? =some fn) (hb:fn.body=some c) {gs:List GA} {rr:AV}
  (h:awp P c ⟨xJ 0 gs++List.replicate (fn.ntmps - gs.length) .undef,uB 0 gs⟩ (fun e s=>(e= .normal∨e= .ret)∧iM P fn s gs rr)):OkG P f gs rr:=by
 intro w vs fss caps hg hab hnd hrg
 obtain ⟨Gs,hlen,hobj,hap,hpin,hdone⟩:=aKu gs vs fss caps 0 hrg hnd
 have hvl:=aKi hrg
 generalize hB:(⟨w,fun b=>b < w.heap.size,(· ∈fss.flatten),fun _=>none,fun i=>(Gs[i]?).map fun g=>(.pointer g.a,g.cap),hg,fun b hb=>(hab b hb).1,fun b hb=>(hab b hb).2⟩:Base P)=B
 have hw0:B.w0=w:=by rw [←hB]
 have hA0:∀b,B.A0 b↔b < w.heap.size:=by intro b;rw [←hB]
 have hO0:∀b,B.O0 b↔b∈fss.flatten:=by intro b;rw [←hB]
 have hh0:∀i,B.h0 i=none:=by intro i;rw [←hB]
 have hp0:∀i g,Gs[i]? =some g→B.p0 i=some (.pointer g.a,g.cap):=by intro i g hg;rw [←hB];simp [hg]
 have kE:bP w (nA w (· ∈fss.flatten)) w (env B (uB 0 gs) Gs w):=by
  refine ⟨fun b hb=>⟨⟨.inl ((hA0 b).2 hb.1),fun i ob g hl _ hF=> ?_⟩,rfl⟩,fun _ _=>trivial,fun _ _ _ h=>h.elim,fun _ _ _ h=>h.elim,fun _ _ _ _ _ h=>h.elim⟩
  obtain ⟨_,_,_,f',_,h2,h3,_⟩:=hobj _ _ _ hl
  exact hb.2 (h3 _ ((h2 _).1 hF))
 have fc:Fc (env B (uB 0 gs) Gs w) 0 (uB 0 gs) Gs:=by
  intro j ob g hl
  rw [Nat.zero_add]
  refine ⟨⟨ob,g,hl,Nat.le_refl _,fun _ _=>rfl,fun _ x hx=>by rw [hh0] at hx;cases hx⟩,fun _ b f hga=>⟨ob,g,hl,Nat.le_refl _,fun _ _=>⟨b,f,hga,by simp⟩,fun _ _ _ _ y hy=> ?_⟩⟩
  rw [hp0 _ _ hl.2] at hy
  obtain rfl:=Option.some.inj hy
  exact ⟨by rw [hga],fun _ _=>rfl⟩
 have r0:bG B ⟨xJ 0 gs++List.replicate (fn.ntmps - gs.length) .undef,uB 0 gs⟩ Gs {tmps:=vs.toArray++Array.replicate (fn.ntmps - vs.toArray.size) Go.undef,defers:=[]} w:=by
  refine {len:=hlen,defs:=rfl,ok:= ?_,apart:= ?_,fresh:= ?_,tmps:= ?_,size:=by rw [hw0];exact Nat.le_refl _,frame:=by rw [hw0];exact fun _ _ _=>rfl,base:= ?_,same:=by rw [hw0];exact Same.rfl}
  ·intro i ob g hl _
   obtain ⟨_,_,_,f',h1,h2,h3,h4⟩:=hobj _ _ _ hl
   exact ⟨f',h4 _ kE fc,h1,fun b hb=>(h2 b).2 hb⟩
  ·intro i j oi oj gi gj b hi hj _ _ hfi hfj
   exact hap _ _ _ _ _ _ b hi hj hfi hfj
  ·intro i ob g b hl _ hF
   obtain ⟨_,_,_,f',_,h2,h3,_⟩:=hobj _ _ _ hl
   have:=h3 _ ((h2 _).1 hF)
   exact ⟨.inl ((hO0 b).2 this),(hab b this).2⟩
  ·have h2:∀n,Rc w (env B (uB 0 gs) Gs w) (List.replicate n .undef) (List.replicate n Go.undef) []:=by
    intro n
    induction n with
    |zero=>simp [Rc]
    |succ n ih=>simp only [List.replicate_succ,Rc];exact ⟨[],[],by simp [R],ih,rfl⟩
   have:=gT (hdone _ kE fc) (h2 (fn.ntmps - gs.length))
   simpa [hvl] using this
  ·intro b hb
   rw [hw0];exact (hA0 b).1 hb
 refine calls_of_wp hf hb (wp_mono (lW hm c _ _ h _ _ ⟨_,r0⟩) fun e a w' he=> ?_)
 obtain ⟨s,⟨he,ys,hys,hok,hres,hcl,hlo,hun⟩,G,r⟩:=he
 obtain ⟨u,hrun,hR⟩:=qW r hys
 have hun':=List.nodup_append.1 hun
 obtain ⟨fp,k1,k2,k3⟩:=zA r _ u hok hun'.2.1 hR
 rw [hres] at k1
 have hpin0:pinned (fun i=>Gs[i]?) 0 gs vs caps:=by simpa using hpin [] rfl
 obtain ⟨fss',q1,q2,q3⟩:=aCk r hp0 gs vs caps 0 0 hpin0 hlo hun'.1
 have hin:∀b∈fss'.flatten++fp,(b∈fss.flatten∨w.heap.size≤b)∧b < w'.heap.size:=by
  intro b hb
  have:∃i ob g,look s.o G i ob g∧ob.live=true∧g.F b:=by
   rcases List.mem_append.1 hb with hb|hb
   ·obtain ⟨i,ob,g,_,h⟩:=q3 b hb;exact ⟨i,ob,g,h⟩
   ·obtain ⟨i,ob,g,_,h⟩:=k3 b hb;exact ⟨i,ob,g,h⟩
  obtain ⟨i,ob,g,hl,hlive,hF⟩:=this
  have:=r.fresh _ _ _ b hl hlive hF
  rw [hw0,hO0] at this
  exact this
 have hfin:∃v fp fss',Ending.returned u= .returned v∧R w' mP rr v fp∧RPs w' gs vs fss' caps∧(fss'.flatten++fp).Nodup∧
   (∀b∈fss'.flatten++fp,(b∈fss.flatten∨w.heap.size≤b)∧b < w'.heap.size)∧w.heap.size≤w'.heap.size∧(∀b,b < w.heap.size→b∉fss.flatten→w'.heap[b]? =w.heap[b]?)∧Same w w':=by
  refine ⟨u,fp,fss',rfl,aHy (E:=(env B s.o G w').plain) (fun _ _=>trivial) rfl rfl rfl _ _ _ hcl k1,q1,List.nodup_append.2 ⟨q2,k2,fun x hx y hy e=> ?_⟩,hin,by have:=r.size;rwa [hw0] at this,fun b hb hn=>by have:=r.frame b (by rw [hw0];exact hb) (fun h=>hn ((hO0 b).1 h));rwa [hw0] at this,by have:=r.same;rwa [hw0] at this⟩
  subst e
  exact aEo r (fun i hi j hj=>hun'.2.2 i hi j hj) (q3 x hx) (k3 x hy)
 rcases he with rfl|rfl
 ·exact ⟨r.defs,u,hrun,hfin⟩
 ·exact ⟨r.defs,u,hrun,hfin⟩
end Go.Aw

namespace Go.Aw
theorem qD {P:Program} [aB P] (hm:P.follows .mixedOrders=true) {f:FuncId} {fn:Func} {c:Code} (hf:P.funcs[f]? =some fn) {n:Nat} (hn:fn.ntmps=n) {gs:List GA} {t:List AV} {o:List aA} {rr:AV}
  (h:awp P c ⟨t,o⟩ (fun e s=>(e= .normal∨e= .ret)∧iM P fn s gs rr)) (hb:fn.body=some c:=by rfl)
  (ho:uB 0 gs=o:=by
   simp only [uB,aL,aH,bS,bC,bR,bB,bV,bD,Nat.add_zero,Nat.zero_add,Nat.reduceAdd,List.cons_append,List.nil_append,List.append_nil,List.length_cons,List.length_nil];rfl)
  (ht:xJ 0 gs++List.replicate (n - gs.length) .undef=t:=by
   simp only [xJ,aL,aH,bS,bC,bR,bB,bV,bD,Nat.add_zero,Nat.zero_add,List.length_cons,List.length_nil,Nat.reduceSub,Nat.reduceAdd,List.replicate_succ,List.replicate_zero,List.cons_append,List.nil_append,List.append_nil];rfl):OkG P f gs rr:=by
 subst ht;subst hn;subst ho;exact aLb hm hf hb h
end Go.Aw

namespace Go.Aw
theorem bIk {P:Program} [aB P] (hm:P.follows .mixedOrders=true) {f:FuncId} {fn:Func} {c c':Code} (L:List Nat) (hf:P.funcs[f]? =some fn) {n:Nat} (hn:fn.ntmps=n) {gs:List GA} {t:List AV} {o:List aA} {rr:AV}
  (h:awp P c' ⟨t,o⟩ (fun e s=>(e= .normal∨e= .ret)∧iM P fn s gs rr)) (hb:fn.body=some c:=by rfl)
  (hc:nQ (fun i=>L.contains i) c=c':=by simp [nQ];rfl)
  (ho:uB 0 gs=o:=by
   simp only [uB,aL,aH,bS,bC,bR,bB,bV,bD,Nat.add_zero,Nat.zero_add,Nat.reduceAdd,List.cons_append,List.nil_append,List.append_nil,List.length_cons,List.length_nil];rfl)
  (ht:xJ 0 gs++List.replicate (n - gs.length) .undef=t:=by
   simp only [xJ,aL,aH,bS,bC,bR,bB,bV,bD,Nat.add_zero,Nat.zero_add,List.length_cons,List.length_nil,Nat.reduceSub,Nat.reduceAdd,List.replicate_succ,List.replicate_zero,List.cons_append,List.nil_append,List.append_nil];rfl):OkG P f gs rr:=by
 subst ht;subst hn;subst ho;subst hc;rw [qR] at h;exact aLb hm hf hb h
end Go.Aw

namespace Go.Aw
def nS (l:List (List AV)):Bool:=l.all fun r=>r.all AV.plainV
theorem aX9 {w:World} {E:Env}:∀(x:AV) (v:Value) (fp:List Nat),x.plainV=true→R w E x v fp→fp=[]:=by
 intro x v fp hx h
 cases x<;>simp only [AV.plainV] at hx<;>first|(cases hx;done)|(simp only [R] at h;exact h.2)|(simp only [R] at h;exact h.1)|simp_all [R]
theorem aIz {w:World} {E:Env}:∀(c:List AV) (cs:List Value) (fp:List Nat),c.all AV.plainV=true→Rc w E c cs fp→fp=[]
 |[],[],fp,_,h=>by simpa [Rc] using h
 |[],_::_,_,_,h=>by simp [Rc] at h
 |_::_,[],_,_,h=>by simp [Rc] at h
 |x::xs,c::cs,fp,hp,h=>by
  simp only [List.all_cons,Bool.and_eq_true] at hp
  simp only [Rc] at h
  obtain ⟨f1,f2,h1,h2,h3⟩:=h
  have a:=aX9 _ _ _ hp.1 h1
  have b:=aIz _ _ _ hp.2 h2
  subst a;subst b
  simpa using h3
theorem aI1 {w:World} {E:Env}:∀(l:List (List AV)) (news:List Value) (n:Nat) (fp:List Nat),nS l=true→Rv w E l news n fp→fp=[]
 |[],_,_,_,_,h=>by simp only [Rv] at h;simp_all
 |r::l,news,n,fp,hp,h=>by
  simp only [nS,List.all_cons,Bool.and_eq_true] at hp
  simp only [Rv] at h
  obtain ⟨cs,rest,f1,f2,h1,h2,h3,h4,h5,h6⟩:=h
  have a:=aIz _ _ _ (by simpa using hp.1) h4
  have b:=aI1 l _ _ _ (by simpa [nS] using hp.2) h5
  subst a;subst b
  simpa using h6
section
variable {P : Program} [aB P] {B : Base P} {s : AS} {dst : Option Tmp} {ty : TypeId} {pos : String} {after : Array Edge} {gd : Option (Nat × Bool)}
theorem aJv (tS xT:TypeId) (x y:Operand) {e:TypeId} {n by' i j ver:Nat} {ob oj:aA} {s1:AS} (he:elemA P tS=some (e,n,by')) (hz:zeroSz P e n=true) (hxt:appendable P xT=true)
  (ht:s.target n (s.ev x)=some (i,ob,s1)) (hy:s1.ev y= .obj j ver) (ho:AV.isObj s1.o j ver=some oj) (hj:oj.box=false∧oj.n=n∧j≠i) (hpl:nS oj.els=true)
  (hbytes:(ob.els.length+oj.els.length) * by'≤140737488355328) (h63:ob.els.length+oj.els.length≤9223372036854775807):
  Step P B ⟨dst,.call {callee:= .builtin .append,args:=#[x,y],argTypes:=#[tS,xT]},ty,pos,after,gd⟩ s (s.appended s1.o dst i ob oj.els):=
 nD fun G0 a w r0=>by
  obtain ⟨hu,inf,hi,hsz,hby⟩:=nO he
  obtain ⟨z,hz1,hz2⟩:=zC hz hi
  obtain ⟨G,g,r,hl,hlive,hbox,hn,hv,hst⟩:=r0.target ht
  have hev:=aQs hst y
  obtain ⟨gj,hlj,hlj',hvj⟩:=r.objv hy ho
  rw [hev] at hy
  have hvj':a.eval y= .slice gj.a oj.els.length gj.cap:=hvj
  obtain ⟨fj,hownj,hndj,hFj⟩:=r.ok j oj gj hlj hlj'
  rw [hj.1] at hownj
  obtain ⟨fp,hown,hnd,hF⟩:=r.ok i ob g hl hlive
  rw [hbox] at hown
  obtain ⟨news,hrv,hnews⟩:∃news,Rv w (env B s1.o G w).plain oj.els news ob.n []∧∀w',w'.heap=w.heap→(Builtin.firstCells ob.n oj.els.length (.slice gj.a oj.els.length gj.cap)).run P w'= .ok news.toArray w':=by
   have hnn:oj.n=ob.n:=by rw [hj.2.1,hn]
   rcases hownj.2 with ⟨h1,h2,h3⟩|⟨b,off,C,ety,fz,fps,ha,hb,hz',k1,k2,k3,rfl,hr⟩
   ·refine ⟨[],by rw [h1];simp [Rv],fun w' _=> ?_⟩
    rw [h1]
    cases hga:gj.a with
    |none=>simp [Builtin.firstCells]
    |some a'=>simp [Builtin.firstCells,loadCells,loadCellsFrom]
   ·obtain ⟨vs,hv',hc'⟩:=qA.1 hr
    have h0:=aI1 _ _ _ _ hpl hv'
    subst h0
    refine ⟨vs,by rw [←hnn];exact hv',fun w' hw'=> ?_⟩
    rw [ha,←hnn]
    exact rQ (jY hv') (hc'.heap hw')
  obtain ⟨v,w',G',hrun,hr',hR⟩:=r.append (P:=P) (ty:=ty) hl hlive hbox hu (aCe hxt) hi hz1 (by rw [hsz,hn]) (by rw [hz2,hn]) (x:=a.eval y) (by rw [hvj'];simp [Builtin.lenOf]) (by rw [hvj'];exact hnews) hrv hown (by simpa using hnd) (by simpa using hF) (by rw [hby];exact hbytes) h63
  refine ⟨v,w',by simp [execOp,resolve,invoke,builtin,hv,hrun],G',?_⟩
  have:=hr'.put dst hR
  rw [hst] at this
  exact this
end
def AV.flatV:AV→Bool
 | .agg c=>c.all AV.plainV
 |x=>x.plainV
theorem bC5 {x:AV} (h:x.flatV=true):x≠ .undef:=by
 cases x<;>simp_all [AV.flatV,AV.plainV]
theorem aTo {o:List aA}:∀{c:List AV},(∀x∈c,x.flatV=true)→jD o c=c∧iW o c=true∧fK c=[]
 |[],_=>⟨rfl,rfl,rfl⟩
 |x::xs,h=>by
  obtain ⟨h1,h2,h3⟩:=aTo (o:=o) (c:=xs) fun y hy=>h y (by simp [hy])
  have hx:=h x (by simp)
  cases x with
  |agg c=>
   simp only [AV.flatV] at hx
   obtain ⟨k1,k2,k3⟩:=aG3 (o:=o) (c:=c) fun y hy=>List.all_eq_true.1 hx y hy
   simp [jD,iW,fK,res,eB,uses,h1,h2,h3,k1,k2,k3]
  |_=>simp only [AV.flatV,AV.plainV] at hx<;>first|(cases hx;done)|(simp [jD,iW,fK,res,eB,uses,h1,h2,h3])
section
variable {P : Program} [aB P] {B : Base P} {s : AS} {dst : Option Tmp} {ty : TypeId} {pos : String} {after : Array Edge} {gd : Option (Nat × Bool)}
theorem aUx (t:TypeId) (len:Nat) (parts:Array (Nat×Operand)) {e:TypeId} {n by' i:Nat} (he:elemA P t=some (e,n,by')) (hz:zeroSz P e n=true) (hord:qG parts.toList=true) (hlen:len=parts.toList.length) (hbig:len * n≤16777216) (hbig2:len≤16777216)
  (hpl:∀x∈(parts.toList.map (·.2)).map s.ev,x.flatV=true) (hgood:∀x∈(parts.toList.map (·.2)).map s.ev,x.good=true∧x.cells.length=n) (hi':s.o[i]? =some ⟨true,false,n,0,[]⟩):
  Step P B ⟨dst,.buildSlice t len parts,ty,pos,after,gd⟩ s (AS.put ⟨s.t,s.o.set i ⟨true,false,n,1,((parts.toList.map (·.2)).map s.ev).map AV.cells⟩⟩ dst (.obj i 1)):=
 nD fun G a w r=>by
  generalize hxs:parts.toList.map (·.2)=xs at *
  have hparts:parts.toList=(xs.zipIdx).map fun p=>(p.2,p.1):=by rw [←hxs];exact aAt _ 0 hord
  obtain ⟨hp1,hp2,hp3⟩:=aTo (o:=s.o) hpl
  obtain ⟨fp,hrc,hnd,hOf⟩:=aBm r _ _ hp2 (by rw [hp3];simp) (pK r xs)
  have hfp:fp=[]:=by
   cases fp with
   |nil=>rfl
   |cons b _=>
    obtain ⟨i,ob,g,hi,_⟩:=hOf b (by simp)
    rw [hp3] at hi;cases hi
  subst hfp
  rw [hp1] at hrc
  obtain ⟨hrv,hsz⟩:=aHo hrc hgood
  have hvl:(xs.map a.eval).length=len:=by rw [hlen,←hxs];simp
  have hrun:(execOp a.eval ⟨dst,.buildSlice t len parts,ty,pos,after,gd⟩).run P w= .ok (.value (.slice (some ⟨w.heap.size,0,none⟩) len len)) (w.alloc (.cells ((xs.map a.eval).flatMap fun v=>v.cells.toList).toArray e)):=by
   have e1:parts.map (fun (i,x)=>(i,a.eval x))=(((xs.map a.eval).zipIdx).map fun p=>(p.2,p.1)).toArray:=by
    apply Array.ext'
    simp only [Array.toList_map,hparts,List.map_map,List.zipIdx_map]
    rfl
   have:=run_buildSlice (P:=P) (t:=t) (len:=len) (w:=w) he hz hvl.symm hbig hsz
   simp only [execOp,e1,Sem.run_bind,this,Result.andThen_ok,Sem.run_pure]
  have hlt:i < G.length:=by rw [r.len];exact (List.getElem?_eq_some_iff.1 hi').1
  have hlk:Aw.look s.o G i ⟨true,false,n,0,[]⟩ G[i]:=⟨hi',List.getElem?_eq_getElem hlt⟩
  generalize G[i]=g at hlk
  generalize hCd:((xs.map a.eval).flatMap fun v=>v.cells.toList)=cs at *
  have hcl:=jY hrv
  have hself:(w.alloc (.cells cs.toArray e)).heap[w.heap.size]? =some (.cells cs.toArray e):=jP w _
  have hrl:((xs.map s.ev).map AV.cells).length=len:=by
   have:=dZ hrc
   rw [List.length_map,←this,hvl]
  have hlm:len≤maxLen:=by simp only [maxLen];omega
  have hm:=r.modify hlk rfl ⟨true,false,n,1,(xs.map s.ev).map AV.cells⟩ ⟨some ⟨w.heap.size,0,none⟩,len,fun b=>g.F b∨b=w.heap.size⟩ (w.alloc (.cells cs.toArray e)) (by simp) rfl (by simp)
   (fun b hb=>by
    rcases hb with hb|hb
    ·exact .inl hb
    ·right;subst hb;simp) (fun b hb hne=>⟨.inl hb,fun a' ha'=>by
     obtain rfl:=Option.some.inj ha'
     have:=(r.fresh _ _ _ b hlk rfl hb).2
     simp only;omega⟩) (fun b hlt _=>heap_alloc w _ b hlt) (by simp) (fun k _=>by
   refine ⟨[w.heap.size],?_,by simp,by simp⟩
   generalize env B _ _ (w.alloc (.cells cs.toArray e))=E' at k⊢
   simp only [Env.of,Bool.false_eq_true,if_false]
   refine ⟨by rw [hrl];exact hlm,.inr ⟨w.heap.size,0,cs.toArray,e,(0,0),[],rfl,hself,.inr rfl,?_,by rw [hrl];exact Nat.le_refl _,hlm,rfl,?_⟩⟩
   ·simp [hcl]
    rw [←hrl];simp
   ·refine qA.2 ⟨cs,qU k.plain (fun b hb=>by cases hb) hrv,?_⟩
    refine qI hself (fun j v hv=>by simpa using hv))
  have hl2:Aw.look (s.o.set i ⟨true,false,n,1,(xs.map s.ev).map AV.cells⟩) (G.set i ⟨some ⟨w.heap.size,0,none⟩,len,fun b=>g.F b∨b=w.heap.size⟩) i ⟨true,false,n,1,(xs.map s.ev).map AV.cells⟩ ⟨some ⟨w.heap.size,0,none⟩,len,fun b=>g.F b∨b=w.heap.size⟩:=oM hlk
  refine ⟨_,_,hrun,_,hm.1.put dst ?_⟩
  simp only [R]
  exact ⟨trivial,_,_,hl2,Nat.le_refl _,fun _ _=>by rw [hrl],fun h=>absurd h (by decide)⟩
end
theorem bF1 {P:Program} [aB P] {dst:Option Tmp} {ty:TypeId} {pos:String} {after:Array Edge} {gd:Option (Nat×Bool)} {m:List AV} {view:List aA} {pl:Nat} {T:TypeId} {len:Nat} {parts:Array (Nat×Operand)} {e:TypeId} {n by':Nat} {xs:List AV}
  (he:elemA P T=some (e,n,by')) (hz:zeroSz P e n=true) (hord:qG parts.toList=true) (hlen:len=parts.toList.length) (hbig:len * n≤16777216) (hbig2:len≤16777216)
  (hxs:(parts.toList.map (·.2)).map (AS.ev ⟨m,view⟩)=xs) (hpl:∀x∈xs,x.flatV=true) (hgood:∀x∈xs,x.good=true∧x.cells.length=n) (hv:view[pl]? =some (hole n)):
  aBl P ⟨dst,.buildSlice T len parts,ty,pos,after,gd⟩ m view pl (.obj pl 1) ⟨true,false,n,1,xs.map AV.cells⟩:=by
 intro B t2 o2 hw hs _
 have e2:(parts.toList.map (·.2)).map (AS.ev ⟨t2,o2⟩)=xs:=by
  have key:∀(l:List Operand) (xs:List AV),l.map (AS.ev ⟨m,view⟩)=xs→(∀x∈xs,x.flatV=true)→l.map (AS.ev ⟨t2,o2⟩)=xs:=by
   intro l
   induction l with
   |nil=>intro xs h _;exact h
   |cons a l ih=>
    intro xs h hp
    cases xs with
    |nil=>cases h
    |cons x xs=>
     simp only [List.map_cons,List.cons.injEq] at h⊢
     exact ⟨aA6 hw h.1 (bC5 (hp x (by simp))),ih xs h.2 fun y hy=>hp y (by simp [hy])⟩
  exact key _ _ hxs hpl
 have ho:o2[pl]? =some ⟨true,false,n,0,[]⟩:=hs pl _ hv rfl
 have:=aUx (P:=P) (B:=B) (s:=⟨t2,o2⟩) (dst:=dst) (ty:=ty) (pos:=pos) (after:=after) (gd:=gd) T len parts (i:=pl) he hz hord hlen hbig hbig2 (by rw [e2];exact hpl) (by rw [e2];exact hgood) ho
 rw [e2,put_eq] at this
 exact this
theorem aRm {P:Program} [aB P] {dst:Option Tmp} {ty:TypeId} {pos:String} {after:Array Edge} {gd:Option (Nat×Bool)} {m:List AV} {view:List aA} {pl:Nat} {T:TypeId} {len:Nat} {parts:Array (Nat×Operand)} {e:TypeId} {n by':Nat} {xs:List AV} {els:List (List AV)}
  (he:elemA P T=some (e,n,by')) (hz:zeroSz P e n=true) (hord:qG parts.toList=true) (hlen:len=parts.toList.length) (hbig:len * n≤16777216) (hbig2:len≤16777216)
  (hxs:(parts.toList.map (·.2)).map (AS.ev ⟨m,view⟩)=xs) (hpl:∀x∈xs,x.flatV=true) (hgood:∀x∈xs,x.good=true∧x.cells.length=n) (hv:view[pl]? =some (hole n)) (hels:xs.map AV.cells=els):
  aBl P ⟨dst,.buildSlice T len parts,ty,pos,after,gd⟩ m view pl (.obj pl 1) ⟨true,false,n,1,els⟩:=by
 subst hels
 exact bF1 he hz hord hlen hbig hbig2 hxs hpl hgood hv
theorem aAy {P:Program} [aB P] {dst:Option Tmp} {ty:TypeId} {pos:String} {after:Array Edge} {gd:Option (Nat×Bool)} {m:List AV} {view:List aA} {pl v v' q u:Nat} {x y:Operand} {tS xT:TypeId} {e:TypeId} {n by':Nat} {els els':List (List AV)} {l2:List (List AV)}
  (hx:AS.ev ⟨m,view⟩ x= .obj pl v) (hvv:v+1=v') (hv:view[pl]? =some ⟨true,false,n,v,els⟩) (hy:AS.ev ⟨m,view⟩ y= .obj q u) (hq:view[q]? =some ⟨true,false,n,u,l2⟩) (hqp:q≠pl) (hpl:nS l2=true) (hels:els++l2=els')
  (he:elemA P tS=some (e,n,by')) (hz:zeroSz P e n=true) (hxt:appendable P xT=true) (hbytes:(els.length+l2.length) * by'≤140737488355328) (h63:els.length+l2.length≤9223372036854775807):
  aBl P ⟨dst,.call {callee:= .builtin .append,args:=#[x,y],argTypes:=#[tS,xT]},ty,pos,after,gd⟩ m view pl (.obj pl v') ⟨true,false,n,v',els'⟩:=by
 subst hels;subst hvv
 intro B t2 o2 hw hs _
 have ho:o2[pl]? =some ⟨true,false,n,v,els⟩:=hs pl _ hv rfl
 have ho2:o2[q]? =some ⟨true,false,n,u,l2⟩:=hs q _ hq rfl
 have hx2:AS.ev ⟨t2,o2⟩ x= .obj pl v:=aA6 hw hx (by simp)
 have hy2:AS.ev ⟨t2,o2⟩ y= .obj q u:=aA6 hw hy (by simp)
 have hio:AV.isObj o2 pl v=some ⟨true,false,n,v,els⟩:=by simp [AV.isObj,ho]
 have hio2:AV.isObj o2 q u=some ⟨true,false,n,u,l2⟩:=by simp [AV.isObj,ho2]
 have:=aJv (P:=P) (B:=B) (s:=⟨t2,o2⟩) (dst:=dst) (ty:=ty) (pos:=pos) (after:=after) (gd:=gd) tS xT x y (i:=pl) (ob:=⟨true,false,n,v,els⟩) (s1:=⟨t2,o2⟩) (oj:=⟨true,false,n,u,l2⟩) he hz hxt
  (by rw [hx2];simp only [AS.target,hio,and_self,if_true]) hy2 hio2 ⟨rfl,rfl,hqp⟩ hpl hbytes h63
 simp only [AS.appended,put_eq] at this
 exact this
theorem vO {α:Type} {f:α→List AV} (h:∀x,(f x).all AV.plainV=true) (l:List α):nS (l.map f)=true:=by
 simp [nS,List.all_eq_true]
 intro a _ x hx
 exact List.all_eq_true.1 (h a) x hx
end Go.Aw

namespace Go.Aw
theorem aYq {t t':List AV} {o o':List aA} (i k:Nat) {ob:aA} {e e':List AV} (ho:o[i]? =some ob) (hl:ob.live=true) (hb:ob.box=false) (hall:(o.all fun x=> !x.box || x.els.all fun c=>lH i c)=true) (he:ob.els[k]? =some e)
  (hc:rtc vwf true e=e') (ho':o.set i {ob with els:=ob.els.set k e'}=o') (hw:wk (rtc (eZ [i]) true t) t'):fG ⟨t,o⟩ ⟨t',o'⟩:=by
 subst ho';subst hc
 rintro P _ B a w ⟨G,r⟩
 have nb:∀{j x g},look o G j x g→x.box=true→(x.els.all fun c=>lH i c)=true:=fun h hb=>by
  have:=List.all_eq_true.1 hall _ (List.mem_of_getElem? h.1)
  simpa only [hb,Bool.not_true,Bool.false_or] using this
 obtain ⟨g,hlk⟩:=r.look ho
 obtain ⟨fp,hown,hnd,hF⟩:=r.ok i ob g hlk hl
 simp only [hb,Env.of,Bool.false_eq_true,if_false] at hown
 obtain ⟨hlen,⟨h,_⟩|⟨b,off,C,ty,fz,fps,ha,hbk,hz,h1,h2,h3,rfl,hr⟩⟩:=hown
 ·rw [h] at he;simp at he
 have hk:k < ob.els.length:=(List.getElem?_eq_some_iff.1 he).1
 obtain ⟨f1,f2,f3,cs,rfl,hn,hcs,hone,hre,hr1,hr3⟩:=vF hr he
 have hsub2:∀x∈f2,g.F x:=fun x hx=>hF x (by simp [hx])
 generalize hob':({ob with els:=ob.els.set k (rtc vwf true e)}:aA)=ob'
 generalize hg':({g with F:=fun x=>g.F x∧x∉f2}:CO)=g'
 generalize hO:o.set i ob'=o'
 generalize hGG:G.set i g'=G'
 have back:∀{j x y},look o' G' j x y→(j=i∧x=ob'∧y=g')∨(j≠i∧look o G j x y):=by
  intro j x y h
  rw [←hO,←hGG] at h
  exact tY h
 have fi:look o' G' i ob' g':=by rw [←hO,←hGG];exact oM hlk
 have fo:∀{j x y},j≠i→look o G j x y→look o' G' j x y:=fun hj h=>by rw [←hO,←hGG];exact zD h hj
 have hobl:ob'.live=true:=by rw [←hob'];exact hl
 have hobb:ob'.box=false:=by rw [←hob'];exact hb
 have hobn:ob'.n=ob.n:=by rw [←hob']
 have hobv:ob'.ver=ob.ver:=by rw [←hob']
 have hobe:ob'.els.length=ob.els.length:=by rw [←hob'];simp
 have hga:g'.a=g.a:=by rw [←hg']
 have hgc:g'.cap=g.cap:=by rw [←hg']
 have hgF:∀x,g'.F x↔g.F x∧x∉f2:=fun x=>by rw [←hg']
 let Er:Env:=(env B o G w).no i
 have rt1:iT (eZ [i]) true (env B o G w) Er (fun _=>True):=by
  refine ⟨fun t e=>by simp [eZ] at e,fun t e=>by simp only [eZ,Option.some.injEq] at e;exact ⟨e.symm,fun b hb=>hb⟩,fun j t e=> ?_,fun _ _ _ _ h=>h,fun _ _ _ _ _ _ h=>h⟩
  simp only [eZ] at e
  split at e
  ·cases e
  ·rename_i hiu
   obtain rfl:=Option.some.inj e
   refine ⟨by simp,?_,fun b hb=>⟨hiu,hb⟩⟩
   by_cases hV:(env B o G w).V j
   ·exact .inl hV
   ·exact .inr hV
 have kA:∀x,(env B o G w).A x→(env B o' G' w).A x:=fun x hx=>⟨hx.1,fun j y z hlj hjl hf=>by
  rcases back hlj with ⟨rfl,rfl,rfl⟩|⟨_,h⟩
  ·exact hx.2 _ _ _ hlk hl ((hgF x).1 hf).1
  ·exact hx.2 _ _ _ h hjl hf⟩
 have kS:∀x∈f2,(env B o' G' w).A x:=fun x hx=>⟨(r.fresh _ _ _ x hlk hl (hsub2 x hx)).elim fun h1 h2=>h1.elim (fun h=> .inl (B.gA x h)) fun h=> .inr ⟨h,h2⟩,fun j y z hlj hjl hf=>by
  rcases back hlj with ⟨rfl,rfl,rfl⟩|⟨hj,h⟩
  ·exact ((hgF x).1 hf).2 hx
  ·exact hj (r.apart _ _ _ _ _ _ x h hlk hjl hl hf (hsub2 x hx))⟩
 have k2':bP w Er w (env B o' G' w):=by
  refine ⟨fun x hx=>⟨kA x hx,rfl⟩,fun j h x hx=> ?_,fun j x hV h=> ?_,fun j ver x h=> ?_,fun j ver p q x h=> ?_⟩
  ·obtain ⟨y,hy⟩:=r.look hx
   by_cases hj:j=i
   ·subst hj
    rw [ho] at hx
    obtain rfl:=Option.some.inj hx;exact hl
   ·exact h x (fo hj hy).1
  ·obtain ⟨hji,x',y,hlj,hjl,hf,hne⟩:=h
   exact ⟨⟨x',y,fo (by simpa using hji) hlj,hjl,hf,hne⟩,rfl⟩
  ·obtain ⟨x',y,hlj,hver,hh,hz⟩:=h
   by_cases hj:j=i
   ·subst hj
    obtain ⟨rfl,rfl⟩:=gL hlk hlj
    exact ⟨ob',g',fi,by omega,fun _ hve=>by rw [hga,hgc,hobe];exact hh hl (by omega),hz⟩
   ·exact ⟨x',y,fo hj hlj,hver,hh,hz⟩
  ·obtain ⟨x',y,hlj,hver,hh,hz⟩:=h
   by_cases hj:j=i
   ·subst hj
    obtain ⟨rfl,rfl⟩:=gL hlk hlj
    exact ⟨ob',g',fi,by omega,fun _ hve=>by rw [hga,hobn];exact hh hl (by omega),fun h=>by rw [hobb] at h;cases h⟩
   ·exact ⟨x',y,fo hj hlj,hver,hh,hz⟩
 have kp:bP w (env B o G w).plain w (env B o' G' w).plain:=⟨fun x hx=>⟨kA x hx,rfl⟩,fun _ _=>trivial,fun _ _ _ h=>h.elim,fun _ _ _ h=>h.elim,fun _ _ _ _ _ h=>h.elim⟩
 have rv:iT vwf true (env B o G w).plain (env B o' G' w).plain (fun x=>x∈f2):=by
  refine ⟨fun t e=> ?_,fun t e=> ?_,fun j t e=>by simp [vwf] at e,fun _ _ _ _ h=>h.elim,fun _ _ _ _ _ _ h=>h.elim⟩
  ·simp only [vwf,Option.some.injEq] at e
   subst e
   exact ⟨by simp,fun b hb=>kS b hb⟩
  ·simp only [vwf,Option.some.injEq] at e
   exact ⟨e.symm,fun b hb=>kA b hb⟩
 have hnd':=hnd
 simp only [List.nodup_cons] at hnd'
 refine ⟨G',{len:=by rw [←hO,←hGG];simp [r.len],defs:=r.defs,ok:= ?_,apart:= ?_,fresh:= ?_,tmps:=yY hw (dI k2' _ _ _ (by simp) (qB rt1 _ _ _ (by simp) r.tmps)),size:=r.size,frame:=r.frame,base:=r.base,same:=r.same}⟩
 ·intro j x y hlj hjl
  rcases back hlj with ⟨rfl,rfl,rfl⟩|⟨hj,h⟩
  ·refine ⟨b::(f1++[]++f3),?_,?_,?_⟩
   ·rw [hobb,←hob',←hg']
    simp only [Env.of,Bool.false_eq_true,if_false]
    refine ⟨by simpa using hlen,.inr ⟨b,off,C,ty,fz,_,ha,hbk,hz,h1,by simpa using h2,h3,rfl,?_⟩⟩
    exact aKx hk hn hcs hone (qB rv _ _ _ (fun x hx=>hx) hre) (kK kp _ _ _ _ _ rfl (fun _ _=>rfl) hr1) (kK kp _ _ _ _ _ rfl (fun _ _=>rfl) hr3)
   ·have hs:(f1++[]++f3).Sublist (f1++f2++f3):=((List.Sublist.refl f1).append (List.nil_sublist f2)).append (List.Sublist.refl f3)
    exact List.nodup_cons.2 ⟨fun h=>hnd'.1 (hs.subset h),hs.nodup hnd'.2⟩
   ·intro x hx
    rw [hgF]
    have hin:x∈b::(f1++f2++f3):=by
     simp only [List.mem_cons,List.mem_append,List.not_mem_nil,or_false] at hx⊢
     grind
    refine ⟨hF x hin,fun hx2=> ?_⟩
    have hd:=hnd'.2
    simp only [List.nodup_append,List.mem_append] at hd
    simp only [List.mem_cons,List.mem_append,List.not_mem_nil,or_false] at hx
    rcases hx with rfl|hx|hx
    ·exact hnd'.1 (by simp [hx2])
    ·exact hd.1.2.2 x hx x hx2 rfl
    ·exact hd.2.2 x (.inr hx2) x hx rfl
  ·obtain ⟨fq,q1,q2,q3⟩:=r.ok j x y h hjl
   refine ⟨fq,?_,q2,q3⟩
   cases hbj:x.box with
   |false=>
    simp only [hbj,Env.of,Bool.false_eq_true,if_false] at q1⊢
    exact q1.keeps kp (fun _ _=>rfl)
   |true=>
    simp only [hbj,Env.of,if_true] at q1⊢
    exact (q1.nodep (nb h hbj)).keeps k2' (fun _ _=>rfl)
 ·intro j1 j2 x1 x2 y1 y2 z hl1 hl2 v1 v2 hf1 hf2
  rcases back hl1 with ⟨rfl,rfl,rfl⟩|⟨hj1,h1⟩<;>rcases back hl2 with ⟨rfl,rfl,rfl⟩|⟨hj2,h2⟩
  ·rfl
  ·exact absurd (r.apart _ _ _ _ _ _ z hlk h2 hl v2 ((hgF z).1 hf1).1 hf2).symm hj2
  ·exact absurd (r.apart _ _ _ _ _ _ z h1 hlk v1 hl hf1 ((hgF z).1 hf2).1) hj1
  ·exact r.apart _ _ _ _ _ _ z h1 h2 v1 v2 hf1 hf2
 ·intro j x y z hlj hjl hf
  rcases back hlj with ⟨rfl,rfl,rfl⟩|⟨_,h⟩
  ·exact r.fresh _ _ _ z hlk hl ((hgF z).1 hf).1
  ·exact r.fresh _ _ _ z h hjl hf
theorem bDy {P:Program} [aB P] (i k c:Nat) {id:Nat} {L:List Oper} {Q:Exit→AS→Prop} {t t':List AV} {o o':List aA} {ob:aA} {e:List AV} {m:Nat} {rows:List (List AV)} (ho:o[i]? =some ob) (he:ob.els[k]? =some e) (hc:e[c]? =some (.sl .own m rows))
  (h:awp P (.region id L.toArray false) ⟨t',o'⟩ Q) (hl:ob.live=true:=by rfl) (hb:ob.box=true:=by rfl) (hall:(o.all fun x=> !x.box || x.els.all fun c=>lH i c)=true:=by simp)
  (ho':o.set i {ob with els:=ob.els.set k (e.set c (.obj o.length 1))}++[⟨true,false,m,1,rows⟩]=o':=by simp;rfl) (hw:rtc (eZ [i]) true t=t':=by simp;rfl):awp P (hide (.region id L.toArray false)) ⟨t,o⟩ Q:=
 aHr (sP i k c ho hl hb hall he hc ho' (hw▸kQ _)) h
theorem lT {P:Program} [aB P] (i k:Nat) {id:Nat} {L:List Oper} {Q:Exit→AS→Prop} {t t':List AV} {o o':List aA} {ob:aA} {e e':List AV} (ho:o[i]? =some ob) (he:ob.els[k]? =some e) (he':rtc vwf true e=e')
  (h:awp P (.region id L.toArray false) ⟨t',o'⟩ Q) (hl:ob.live=true:=by rfl) (hb:ob.box=false:=by rfl) (hall:(o.all fun x=> !x.box || x.els.all fun c=>lH i c)=true:=by simp)
  (ho':o.set i {ob with els:=ob.els.set k e'}=o':=by simp;rfl) (hw:rtc (eZ [i]) true t=t':=by simp;rfl):awp P (hide (.region id L.toArray false)) ⟨t,o⟩ Q:=
 aHr (aYq i k ho hl hb hall he he' ho' (hw▸kQ _)) h
end Go.Aw

namespace Go.Aw
theorem bA0 {t t':List AV} {o o':List aA} (i:Nat) {ob:aA} (ho:o[i]? =some ob) (ho':o.set i ⟨false,false,0,ob.ver,[]⟩=o') (hw:wk t t'):fG ⟨t,o⟩ ⟨t',o'⟩:=by
 subst ho'
 rintro P _ B a w ⟨G,r⟩
 obtain ⟨g,hlk⟩:=r.look ho
 have hi:i < o.length:=(List.getElem?_eq_some_iff.1 ho).1
 have back:∀{j x y},look (o.set i ⟨false,false,0,ob.ver,[]⟩) G j x y→(j=i∧x=⟨false,false,0,ob.ver,[]⟩)∨(j≠i∧look o G j x y):=by
  intro j x y ⟨h1,h2⟩
  rw [List.getElem?_set] at h1
  by_cases hj:i=j
  ·subst hj
   rw [if_pos rfl,if_pos hi] at h1
   exact .inl ⟨rfl,(Option.some.inj h1).symm⟩
  ·rw [if_neg hj] at h1
   exact .inr ⟨fun h=>hj h.symm,h1,h2⟩
 have k:bP w (env B o G w) w (env B (o.set i ⟨false,false,0,ob.ver,[]⟩) G w):=
  wD (Nat.le_refl _) (fun b hb=>⟨lX r hb,rfl⟩) r.len
   (fun j x y h=>by
    by_cases hj:j=i
    ·subst hj
     obtain ⟨rfl,rfl⟩:=gL hlk h
     exact ⟨⟨false,false,0,ob.ver,[]⟩,g,⟨by rw [List.getElem?_set];simp [hi],hlk.2⟩,Nat.le_refl _,(fun h=>by cases h),fun h=>by cases h⟩
    ·refine ⟨x,y,⟨by rw [List.getElem?_set,if_neg (fun e=>hj e.symm)];exact h.1,h.2⟩,Nat.le_refl _,fun h=> .inl h,fun hl=>⟨hl,rfl,fun _=>⟨rfl,rfl,rfl⟩,fun b h1 h2=>⟨h1,h2,rfl⟩⟩⟩)
   (fun j x y b h hl hf=>by
    rcases back h with ⟨_,rfl⟩|⟨_,h⟩
    ·cases hl
    ·exact .inr ⟨j,x,y,h,hl,hf⟩)
 refine ⟨G,{len:=by simp [r.len],defs:=r.defs,ok:= ?_,apart:= ?_,fresh:= ?_,tmps:=yY hw (dI k _ _ _ (by simp) r.tmps),size:=r.size,frame:=r.frame,base:=r.base,same:=r.same}⟩
 ·intro j x y h hl
  rcases back h with ⟨_,rfl⟩|⟨_,h⟩
  ·cases hl
  ·exact (r.ok j x y h hl).keeps k (fun _ _=>rfl)
 ·intro j1 j2 x1 x2 y1 y2 z h1 h2 l1 l2 f1 f2
  rcases back h1 with ⟨_,rfl⟩|⟨_,h1⟩
  ·cases l1
  ·rcases back h2 with ⟨_,rfl⟩|⟨_,h2⟩
   ·cases l2
   ·exact r.apart _ _ _ _ _ _ z h1 h2 l1 l2 f1 f2
 ·intro j x y z h hl hf
  rcases back h with ⟨_,rfl⟩|⟨_,h⟩
  ·cases hl
  ·exact r.fresh _ _ _ z h hl hf
end Go.Aw

namespace Go.Aw
theorem aVw:∀a b:List UInt8,Lib.compareBytes a b=if a=b then 0 else if Op.bytesLess a b=true then -1 else 1
 |[],[]=>rfl
 |[],_::_=>by simp [Lib.compareBytes,Op.bytesLess]
 |_::_,[]=>by simp [Lib.compareBytes,Op.bytesLess]
 |x::xs,y::ys=>by
  have ih:=aVw xs ys
  simp only [Lib.compareBytes,Op.bytesLess]
  by_cases h:x < y
  ·have hne:x≠y:=UInt8.ne_of_lt h
   simp [h,hne]
  ·by_cases h2:y < x
   ·have hne:x≠y:=(UInt8.ne_of_lt h2).symm
    simp [h,h2,hne]
   ·have he:x=y:=UInt8.le_antisymm (UInt8.not_lt.1 h2) (UInt8.not_lt.1 h)
    subst he
    simp [h,ih]
end Go.Aw

namespace Go.Aw
theorem aVk {w:World} {E:Env} {code:List UInt8} {i h:Int} {a:Option Addr} {cap:Nat} {fp:List Nat} (ho:kX w E 3 [aQ code i h] a cap fp):code.length≤maxLen:=by
 rcases ho.2 with h0|⟨b,off,C,e,fz,fps,ha,hb,hz,h1,h2,h3,hf,hr⟩
 ·exact absurd h0.1 (by simp)
 ·simp only [Rr,aQ] at hr
  obtain ⟨cs,f1,f2,hn,hc,hone,hrc,hf2,hfe⟩:=hr
  cases cs with
  |nil=>simp at hn
  |cons v0 cs=>
   simp only [Rc,R] at hrc
   obtain ⟨g1,g2,r1,_⟩:=hrc
   rcases r1 with h|⟨_,_,_,hl,_⟩
   ·exact h.1.elim
   ·simpa [aT] using hl.1
def aGk (P : Program) (fn : Func) (s : AS) (code : List UInt8) (r : AV) : Prop :=
  s.t.getD 0 .undef = .ptr 0 2 0 0 ∧ (∃ i h : Int, 0 ≤ i ∧ s.o[0]? = some ⟨true, true, 3, 2, [aQ code i h]⟩) ∧
  ((∃ ys, s.rvs P fn.results.toList = some ys ∧ eB s.o (single ys) = true ∧ (0 :: uses (single ys)).Nodup ∧ res s.o (single ys) = r) ∨
   (∃ j ys, s.rvB P fn.results.toList = some (j, ys) ∧ eB s.o (single ys) = true ∧ (0 :: uses (single ys)).Nodup ∧ j ∉ uses (single ys) ∧ j ≠ 0 ∧ res s.o (single ys) = r))
theorem aJ7 {P:Program} [aB P] (hm:P.follows .mixedOrders=true) {f:FuncId} {fn:Func} {c:Code} (hf:P.funcs[f]? =some fn) (hb:fn.body=some c) {xs:List AV} {Q:AV→Prop} (hflat:xs.all eD=true)
  (h:∀code i h,0≤i→code.length≤maxLen→awp P c ⟨.ptr 0 2 0 0::xs++List.replicate (fn.ntmps - (xs.length+1)) .undef,[⟨true,true,3,2,[aQ code i h]⟩]⟩ (fun e s=>(e= .normal∨e= .ret)∧∃r,Q r∧aGk P fn s code r)):OkC P f xs Q:=by
 intro w S b fo cap code vs hg hlow hbl hSb hS hcur hargs
 obtain ⟨i,h',hi,hown⟩:=hcur
 have hcl0:code.length≤maxLen:=aVk hown
 have hl:=dZ hargs
 generalize hB:(⟨w,fun x=>S x∨x=b,(· =b),fun _=>none,fun j=>if j=0 then some (.pointer (some ⟨b,fo,none⟩),cap) else none,hg,fun x e=>by rw [e];exact hlow,fun x e=> .inr e⟩:Base P)=B
 have hw0:B.w0=w:=by rw [←hB]
 have hA0:∀x,B.A0 x↔(S x∨x=b):=by intro x;rw [←hB]
 have hO0:∀x,B.O0 x↔x=b:=by intro x;rw [←hB]
 have hp0:B.p0 0=some (.pointer (some ⟨b,fo,none⟩),cap):=by rw [←hB];rfl
 have hh0:∀j,B.h0 j=none:=by intro j;rw [←hB]
 generalize hob:(⟨true,true,3,2,[aQ code i h']⟩:aA)=ob
 generalize hgo:(⟨some ⟨b,fo,none⟩,cap,(· =b)⟩:CO)=go
 have hobp:ob.live=true∧ob.box=true∧ob.n=3∧ob.ver=2∧ob.els=[aQ code i h']:=by rw [←hob];exact ⟨rfl,rfl,rfl,rfl,rfl⟩
 have hgop:go.a=some ⟨b,fo,none⟩∧go.cap=cap∧∀x,go.F x↔x=b:=by rw [←hgo];exact ⟨rfl,rfl,fun _=>Iff.rfl⟩
 have lk0:∀{j o2 g2},look [ob] [go] j o2 g2→j=0∧o2=ob∧g2=go:=by
  rintro j o2 g2 ⟨h1,h2⟩
  cases j with
  |zero=>simp at h1 h2;exact ⟨rfl,h1.symm,h2.symm⟩
  |succ j=>simp at h1
 have hlk:look [ob] [go] 0 ob go:=⟨rfl,rfl⟩
 have hEA:∀x,S x→(env B [ob] [go] w).A x:=fun x hx=>⟨.inl ((hA0 x).2 (.inl hx)),fun j o2 g2 h2 _ hF=>by
  obtain ⟨_,_,rfl⟩:=lk0 h2
  exact hSb (((hgop.2.2 x).1 hF)▸hx)⟩
 have r0:bG B ⟨.ptr 0 2 0 0::xs++List.replicate (fn.ntmps - (xs.length+1)) .undef,[ob]⟩ [go] {tmps:=(.pointer (some ⟨b,fo,none⟩)::vs).toArray++Array.replicate (fn.ntmps - (.pointer (some ⟨b,fo,none⟩)::vs).toArray.size) Go.undef,defers:=[]} w:=by
  refine ⟨rfl,rfl,?_,?_,?_,?_,by rw [hw0];exact Nat.le_refl _,fun x _ _=>by rw [hw0],?_,by rw [hw0];exact Same.rfl⟩
  ·intro j o2 g2 h2 _
   obtain ⟨_,rfl,rfl⟩:=lk0 h2
   refine ⟨[b],?_,by simp,by simp [hgop.2.2]⟩
   rw [hobp.2.1,hobp.2.2.1,hobp.2.2.2.2,hgop.1,hgop.2.1]
   simp only [Env.of,if_true]
   exact yI (E:=pY S) ⟨fun x hx=>⟨hEA x hx,rfl⟩,fun _ _=>trivial,fun _ _ _ h=>h.elim,fun _ _ _ h=>h.elim,fun _ _ _ _ _ h=>h.elim⟩ hown
  ·intro j1 j2 o1 o2 g1 g2 x a1 a2 _ _ _ _
   obtain ⟨rfl,_,_⟩:=lk0 a1
   obtain ⟨rfl,_,_⟩:=lk0 a2
   rfl
  ·intro j o2 g2 x h2 _ hF
   obtain ⟨_,rfl,rfl⟩:=lk0 h2
   have:=(hgop.2.2 x).1 hF
   exact ⟨.inl ((hO0 x).2 this),by rw [this];exact hbl⟩
  ·have h1:Rc w (env B [ob] [go] w) xs vs []:=aKm (E:=pY S) (E':=env B [ob] [go] w) ⟨fun x hx=>⟨hEA x hx,rfl⟩,fun _ _=>trivial,fun _ _ _ h=>h.elim,fun _ _ _ h=>h.elim,fun _ _ _ _ _ h=>h.elim⟩ hflat hargs
   have h2:∀n,Rc w (env B [ob] [go] w) (List.replicate n .undef) (List.replicate n Go.undef) []:=by
    intro n
    induction n with
    |zero=>simp [Rc]
    |succ n ih=>simp only [List.replicate_succ,Rc];exact ⟨[],[],by simp [R],ih,rfl⟩
   have h3:R w (env B [ob] [go] w) (.ptr 0 2 0 0) (.pointer (some ⟨b,fo,none⟩)) []:=by
    simp only [R]
    refine ⟨trivial,ob,go,hlk,by rw [hobp.2.2.2.1];exact Nat.le_refl _,fun _ _=>⟨b,fo,hgop.1,by simp⟩,fun _ _ _ _ x hx=> ?_⟩
    rw [hp0] at hx
    obtain rfl:=Option.some.inj hx
    exact ⟨rfl,fun _ _=>hgop.2.1⟩
   have:=gT (gT (f1:=[]) (f2:=[]) (show Rc w (env B [ob] [go] w) [.ptr 0 2 0 0] [.pointer (some ⟨b,fo,none⟩)] [] by simp only [Rc];exact ⟨[],[],h3,rfl,rfl⟩) h1) (h2 (fn.ntmps - (xs.length+1)))
   simpa [hl] using this
  ·intro x hx
   rw [hw0]
   rcases (hA0 x).1 hx with h|h
   ·exact hS x h
   ·rw [h];exact hbl
 refine calls_of_wp hf hb (wp_mono (lW hm c _ _ (hob▸h code i h' hi hcl0) _ _ ⟨_,r0⟩) fun e a w' he=> ?_)
 obtain ⟨s,⟨he,rv,hQ,ht,⟨i2,h2,hi2,ho2⟩,hhands⟩,G,r⟩:=he
 have hob2:AV.isObj s.o 0 2=some ⟨true,true,3,2,[aQ code i2 h2]⟩:=by simp [AV.isObj,ho2]
 obtain ⟨g,b2,f2,hlk2,hlive2,hga2,hv2⟩:=r.ptr (x:= .tmp 0) ht hob2
 have hpin:=r.pin (x:= .tmp 0) ht hob2 hlk2 rfl rfl rfl rfl _ hp0
 rw [hv2] at hpin
 obtain ⟨hp1,hp2⟩:=hpin
 have hcap:g.cap=cap:=hp2 rfl rfl
 simp only [Value.pointer.injEq,Nat.zero_mul,Nat.add_zero,Option.some.injEq,Addr.mk.injEq,and_true] at hp1
 obtain ⟨rfl,rfl⟩:=hp1
 obtain ⟨fp0,hown2,_,hF2⟩:=r.ok 0 _ g hlk2 rfl
 simp only [Env.of,if_true] at hown2
 obtain ⟨b3,off3,ha3,rfl⟩:=aE7 hown2
 rw [hga2] at ha3
 simp only [Option.some.injEq,Addr.mk.injEq,and_true] at ha3
 obtain ⟨rfl,rfl⟩:=ha3
 have hbF:g.F b2:=hF2 b2 (by simp)
 have key:∃(v:Value) (fp:List Nat),(results fn a.tmps).run P w'= .ok v w'∧R w' (env B s.o G w').plain rv v fp∧fp.Nodup∧∀x∈fp,∃j ob g,j≠0∧look s.o G j ob g∧ob.live=true∧g.F x:=by
  rcases hhands with ⟨ys,hys,hok,hu,hres⟩|⟨j,ys,hys,hok,hu,hj,hj0,hres⟩
  ·obtain ⟨v,hrun,hR⟩:=qW r hys
   rw [List.nodup_cons] at hu
   obtain ⟨fp,h1,h2,h3⟩:=zA r _ v hok hu.2 hR
   rw [hres] at h1
   exact ⟨v,fp,hrun,h1,h2,fun x hx=>by obtain ⟨j,ob,g,hj,h⟩:=h3 x hx;exact ⟨j,ob,g,fun e=>hu.1 (e▸hj),h⟩⟩
  ·obtain ⟨v,fp0,ob1,g1,hlk1,hlive1,hrun,hR,hnd,hF⟩:=xB r hys
   rw [List.nodup_cons] at hu
   obtain ⟨fp,h1,h2,h3⟩:=aGr r hlk1 hlive1 _ v fp0 hok hu.2 hj hnd hF hR
   rw [hres] at h1
   refine ⟨v,fp,hrun,h1,h2,fun x hx=> ?_⟩
   rcases h3 x hx with h|⟨j2,ob',g',hj2,h⟩
   ·exact ⟨j,ob1,g1,hj0,hlk1,hlive1,hF x h⟩
   ·exact ⟨j2,ob',g',fun e=>hu.1 (e▸hj2),h⟩
 obtain ⟨v,fp,hrun,k1,k2,k3⟩:=key
 have hfp:∀x∈fp,w.heap.size≤x∧x < w'.heap.size:=fun x hx=>by
  obtain ⟨j,ob1,g1,hj,hl1,hlive1,hF⟩:=k3 x hx
  have:=r.fresh _ _ _ x hl1 hlive1 hF
  refine ⟨?_,this.2⟩
  rcases this.1 with h|h
  ·have e:=(hO0 x).1 h
   exact absurd (r.apart _ _ _ _ _ _ x hl1 hlk2 hlive1 rfl hF (e▸hbF)) hj
  ·rwa [hw0] at h
 have hkp:bP w' (env B s.o G w').plain w' (pY fun x=>(S x∨(w.heap.size≤x∧x < w'.heap.size))∧x∉fp):=by
  refine ⟨fun x hx=>⟨⟨?_,fun hm=> ?_⟩,rfl⟩,fun _ _=>trivial,fun _ _ _ h=>h.elim,fun _ _ _ h=>h.elim,fun _ _ _ _ _ h=>h.elim⟩
  ·rcases hx.1 with h|h
   ·rcases (hA0 x).1 h with h|h
    ·exact .inl h
    ·exact absurd (h▸hbF) (hx.2 _ _ _ hlk2 rfl)
   ·rw [hw0] at h;exact .inr h
  ·obtain ⟨j,ob1,g1,_,hl1,hlive1,hF⟩:=k3 x hm
   exact hx.2 _ _ _ hl1 hlive1 hF
 have hfin:∃r v' fp,Ending.returned v= .returned v'∧Q r∧R w' (pY fun x=>(S x∨(w.heap.size≤x∧x < w'.heap.size))∧x∉fp) r v' fp∧fp.Nodup∧(∀x∈fp,w.heap.size≤x∧x < w'.heap.size)∧w.heap.size≤w'.heap.size∧
   (∀x,x < w.heap.size→x≠b2→w'.heap[x]? =w.heap[x]?)∧Same w w'∧aHp w' (fun x=>(S x∨(w.heap.size≤x∧x < w'.heap.size))∧x∉fp) b2 f2 cap code:=by
  refine ⟨rv,v,fp,rfl,hQ,jL hkp _ _ _ (fun _ _=>rfl) k1,k2,hfp,by have:=r.size;rwa [hw0] at this,fun x hx hne=> ?_,by have:=r.same;rwa [hw0] at this,i2,h2,hi2,?_⟩
  ·have:=r.frame x (by rw [hw0];exact hx) (fun h=>hne ((hO0 x).1 h))
   rwa [hw0] at this
  ·rw [hga2,hcap] at hown2
   exact yI ⟨fun x hx=>hkp.1 x hx,fun _ _=>trivial,fun _ _ _ h=>h.elim,fun _ _ _ h=>h.elim,fun _ _ _ _ _ h=>h.elim⟩ hown2
 rcases he with rfl|rfl
 ·exact ⟨r.defs,v,hrun,hfin⟩
 ·exact ⟨r.defs,v,hrun,hfin⟩
theorem aLe {P:Program} [aB P] (hm:P.follows .mixedOrders=true) {f:FuncId} {fn:Func} {c:Code} (hf:P.funcs[f]? =some fn) (hb:fn.body=some c) {args:List AV} {Q:AV→Prop} (hflat:args.all eD=true)
  (h:awp P c ⟨args++List.replicate (fn.ntmps - args.length) .undef,[]⟩ (fun e s=>(e= .normal∨e= .ret)∧∃r,Q r∧(jA P fn s r∨wJ P fn s r))):OkE P f args Q:=by
 intro w S vs hg hS hargs
 have hl:=dZ hargs
 have r0:bG ⟨w,S,fun _=>False,fun _=>none,fun _=>none,hg,fun _ h=>h.elim,fun _ h=>h.elim⟩ ⟨args++List.replicate (fn.ntmps - args.length) .undef,[]⟩ [] {tmps:=vs.toArray++Array.replicate (fn.ntmps - vs.toArray.size) Go.undef,defers:=[]} w:=by
  refine ⟨rfl,rfl,fun i ob g hl=>by simp [look] at hl,fun i j oi oj gi gj b hl=>by simp [look] at hl,fun i ob g b hl=>by simp [look] at hl,?_,Nat.le_refl _,fun _ _ _=>rfl,fun b hb=>hS b hb,Same.rfl⟩
  have h1:Rc w (env ⟨w,S,fun _=>False,fun _=>none,fun _=>none,hg,fun _ h=>h.elim,fun _ h=>h.elim⟩ [] [] w) args vs []:=
   aKm (E:=pY S) (E':=env ⟨w,S,fun _=>False,fun _=>none,fun _=>none,hg,fun _ h=>h.elim,fun _ h=>h.elim⟩ [] [] w) ⟨fun x hx=>⟨⟨.inl hx,fun i ob g hl=>by simp [look] at hl⟩,rfl⟩,fun _ _=>trivial,fun _ _ _ h=>h.elim,fun _ _ _ h=>h.elim,fun _ _ _ _ _ h=>h.elim⟩ hflat hargs
  have h2:∀n,Rc w (env ⟨w,S,fun _=>False,fun _=>none,fun _=>none,hg,fun _ h=>h.elim,fun _ h=>h.elim⟩ [] [] w) (List.replicate n .undef) (List.replicate n Go.undef) []:=by
   intro n
   induction n with
   |zero=>simp [Rc]
   |succ n ih=>simp only [List.replicate_succ,Rc];exact ⟨[],[],by simp [R],ih,rfl⟩
  have:=gT h1 (h2 (fn.ntmps - args.length))
  simpa [hl] using this
 refine calls_of_wp hf hb (wp_mono (lW hm c _ _ h _ _ ⟨_,r0⟩) fun e a w' he=> ?_)
 obtain ⟨s,⟨he,rr,hQ,hhands⟩,G,r⟩:=he
 have key:∃(v:Value) (fp:List Nat),(results fn a.tmps).run P w'= .ok v w'∧R w' (env ⟨w,S,fun _=>False,fun _=>none,fun _=>none,hg,fun _ h=>h.elim,fun _ h=>h.elim⟩ s.o G w').plain rr v fp∧fp.Nodup∧∀b∈fp,∃j ob g,look s.o G j ob g∧ob.live=true∧g.F b:=by
  rcases hhands with ⟨ys,hys,hok,hu,hres⟩|⟨i,ys,hys,hok,hu,hi,hres⟩
  ·obtain ⟨v,hrun,hR⟩:=qW r hys
   obtain ⟨fp,h1,h2,h3⟩:=zA r _ v hok hu hR
   rw [hres] at h1
   exact ⟨v,fp,hrun,h1,h2,fun b hb=>by obtain ⟨i,ob,g,_,h⟩:=h3 b hb;exact ⟨i,ob,g,h⟩⟩
  ·obtain ⟨v,fp0,ob,g,hlk,hlive,hrun,hR,hnd,hF⟩:=xB r hys
   obtain ⟨fp,h1,h2,h3⟩:=aGr r hlk hlive _ v fp0 hok hu hi hnd hF hR
   rw [hres] at h1
   refine ⟨v,fp,hrun,h1,h2,fun b hb=> ?_⟩
   rcases h3 b hb with h|⟨j,ob',g',_,h⟩
   ·exact ⟨i,ob,g,hlk,hlive,hF b h⟩
   ·exact ⟨j,ob',g',h⟩
 obtain ⟨v,fp,hrun,h1,h2,h3⟩:=key
 have hfin:∃r v' fp,Ending.returned v= .returned v'∧Q r∧R w' (pY fun x=>(S x∨(w.heap.size≤x∧x < w'.heap.size))∧x∉fp) r v' fp∧fp.Nodup∧(∀b∈fp,w.heap.size≤b∧b < w'.heap.size)∧w.heap.size≤w'.heap.size∧(∀b,b < w.heap.size→w'.heap[b]? =w.heap[b]?)∧Same w w':=by
  refine ⟨rr,v,fp,rfl,hQ,?_,h2,fun b hb=> ?_,r.size,fun b hb=>r.frame b hb (fun h=>h),r.same⟩
  ·have k:bP w' (env ⟨w,S,fun _=>False,fun _=>none,fun _=>none,hg,fun _ h=>h.elim,fun _ h=>h.elim⟩ s.o G w').plain w' (pY fun x=>(S x∨(w.heap.size≤x∧x < w'.heap.size))∧x∉fp):=
    ⟨fun b hb=>⟨⟨hb.1,fun hm=>by
     obtain ⟨j,ob,g,hl,hlive,hF⟩:=h3 b hm
     exact hb.2 j ob g hl hlive hF⟩,rfl⟩,fun _ _=>trivial,fun _ _ _ h=>h.elim,fun _ _ _ h=>h.elim,fun _ _ _ _ _ h=>h.elim⟩
   exact jL k _ _ _ (fun _ _=>rfl) h1
  ·obtain ⟨i,ob,g,hl,hlive,hF⟩:=h3 b hb
   have:=r.fresh _ _ _ b hl hlive hF
   exact ⟨this.1.resolve_left (fun h=>h),this.2⟩
 rcases he with rfl|rfl
 ·exact ⟨r.defs,v,hrun,hfin⟩
 ·exact ⟨r.defs,v,hrun,hfin⟩
theorem bGy {w w':World} {S:Nat→Prop} {fp:List Nat} (h3:∀b∈fp,w.heap.size≤b∧b < w'.heap.size):iT (fun _=>some .view) false (pY fun x=>(S x∨(w.heap.size≤x∧x < w'.heap.size))∧x∉fp) (pY fun x=>(S x∨(w.heap.size≤x∧x < w'.heap.size))∧x∉([]:List Nat)) (· ∈fp):=
 {own:=fun g e=>by obtain rfl:=Option.some.inj e;exact ⟨by simp,fun b hb=>⟨.inr (h3 b hb),by simp⟩⟩
  view:=fun g e=>by obtain rfl:=Option.some.inj e;exact ⟨rfl,fun b hb=>⟨hb.1,by simp⟩⟩
  dep:=fun i g e=>by obtain rfl:=Option.some.inj e;exact ⟨by simp,.inl trivial,fun b hb=>hb.elim⟩
  hh:=fun h=>by cases h
  hl:=fun h=>by cases h}
theorem OkC.vwas {P:Program} [aB P] {f:FuncId} {xs:List AV} {Q Q':AV→Prop} (h:OkC P f xs Q) (hq:∀r,Q r→Q' (rt (fun _=>some .view) false r)):OkC P f xs Q':=by
 intro w S b fo cap code vs a1 a2 a3 a4 a5 a6 a7
 refine Calls.mono (h w S b fo cap code vs a1 a2 a3 a4 a5 a6 a7) fun e w' he=> ?_
 obtain ⟨r,v,fp,rfl,hQ,h1,h2,h3,h4,h5,h6,i,g,hi,hc⟩:=he
 refine ⟨_,v,[],rfl,hq r hQ,aYy (bGy h3) r v fp (fun _ h=>h) h1,by simp,by simp,h4,h5,h6,i,g,hi,?_⟩
 exact yI (E:=pY fun x=>(S x∨(w.heap.size≤x∧x < w'.heap.size))∧x∉fp) ⟨fun x (hx:(S x∨(w.heap.size≤x∧x < w'.heap.size))∧x∉fp)=>⟨⟨hx.1,by simp⟩,rfl⟩,fun _ _=>trivial,fun _ _ _ h=>h.elim,fun _ _ _ h=>h.elim,fun _ _ _ _ _ h=>h.elim⟩ hc
theorem OkE.vwas {P:Program} [aB P] {f:FuncId} {xs:List AV} {Q Q':AV→Prop} (h:OkE P f xs Q) (hq:∀r,Q r→Q' (rt (fun _=>some .view) false r)):OkE P f xs Q':=by
 intro w S vs a1 a5 a7
 refine Calls.mono (h w S vs a1 a5 a7) fun e w' he=> ?_
 obtain ⟨r,v,fp,rfl,hQ,h1,h2,h3,h4,h5,h6⟩:=he
 exact ⟨_,v,[],rfl,hq r hQ,aYy (bGy h3) r v fp (fun _ h=>h) h1,by simp,by simp,h4,h5,h6⟩
theorem uF {P:Program} [aB P] (hm:P.follows .mixedOrders=true) {f:FuncId} {fn:Func} {c:Code} (hf:P.funcs[f]? =some fn) {n:Nat} (hn:fn.ntmps=n) {xs t:List AV} {Q:AV→Prop}
  (h:∀code i h,0≤i→code.length≤maxLen→awp P c ⟨t,[⟨true,true,3,2,[aQ code i h]⟩]⟩ (fun e s=>(e= .normal∨e= .ret)∧∃r,Q r∧aGk P fn s code r)) (hb:fn.body=some c:=by rfl) (hflat:xs.all eD=true:=by simp [eD,oW])
  (ht: .ptr 0 2 0 0::xs++List.replicate (n - (xs.length+1)) .undef=t:=by
   simp only [List.length_cons,List.length_nil,Nat.reduceSub,Nat.reduceAdd,List.replicate_succ,List.replicate_zero,List.cons_append,List.nil_append];rfl):OkC P f xs Q:=by
 subst ht;subst hn;exact aJ7 hm hf hb hflat h
theorem bCd {P:Program} [aB P] (hm:P.follows .mixedOrders=true) {f:FuncId} {fn:Func} {c:Code} (hf:P.funcs[f]? =some fn) {n:Nat} (hn:fn.ntmps=n) {args t:List AV} {Q:AV→Prop}
  (h:awp P c ⟨t,[]⟩ (fun e s=>(e= .normal∨e= .ret)∧∃r,Q r∧(jA P fn s r∨wJ P fn s r))) (hb:fn.body=some c:=by rfl) (hflat:args.all eD=true:=by simp [eD,oW])
  (ht:args++List.replicate (n - args.length) .undef=t:=by
   simp only [List.length_cons,List.length_nil,Nat.reduceSub,Nat.reduceAdd,List.replicate_succ,List.replicate_zero,List.cons_append,List.nil_append];rfl):OkE P f args Q:=by
 subst ht;subst hn;exact aLe hm hf hb hflat h
section
variable {P : Program} [aB P] {dst : Option Tmp} {ty : TypeId} {pos : String} {after : Array Edge} {gd : Option (Nat × Bool)} {s : AS} {X : AS → Prop} {f : Operand} {tys : Array TypeId} {g : FuncId}
theorem cu {x:Operand} {zs:List Operand} {xs:List AV} {Q:AV→Prop} {k ver:Nat} {code:List UInt8} {i h:Int} (hc:OkC P g xs Q)
  (hn:∀rv i' h',Q rv→0≤i'→X (s.drew dst k ver code i' h' rv)) (hf:s.ev f= .fn g []:=by rfl) (hx:s.ev x= .ptr k ver 0 0:=by first|rfl|(simp;done))
  (ho:AV.isObj s.o k ver=some ⟨true,true,3,ver,[aQ code i h]⟩:=by first|rfl|(simp [aQ];done)) (h0:0≤i:=by first|assumption|omega) (hxs:zs.map s.ev=xs:=by first|rfl|(simp;done)) (hfl:xs.all eD=true:=by first|rfl|(simp [eD,oW];done)) (hcal:callable P g=true:=by simp):
  Nx 1 P ⟨dst,.call {callee:= .value f,args:=⟨x::zs⟩,argTypes:=tys},ty,pos,after,gd⟩ s X:=by
 refine aSf ?_
 unfold aCy
 simp only [hf]
 exact ⟨hcal,.inl ⟨x,zs,k,ver,code,i,h,Q,rfl,hx,ho,h0,by rw [hxs];exact hfl,by rw [hxs];exact hc,hn⟩⟩
theorem cn {x:Operand} {code:List UInt8} (hc:aMr P g) (hn:∀i h,0≤i→X (s.newCur dst code i h)) (hf:s.ev f= .fn g []:=by rfl) (hx:s.ev x= .sl .view 1 (aT code):=by first|rfl|(simp;done)) (hcal:callable P g=true:=by simp):
  Nx 1 P ⟨dst,.call {callee:= .value f,args:=#[x],argTypes:=tys},ty,pos,after,gd⟩ s X:=by
 refine aSf ?_
 unfold aCy
 simp only [hf]
 exact ⟨hcal,.inr (.inl ⟨x,code,rfl,hx,hc,hn⟩)⟩
theorem ce {ys:List Operand} {xs:List AV} {Q:AV→Prop} (hc:OkE P g xs Q) (hn:∀rv,Q rv→X (s.called dst rv)) (hf:s.ev f= .fn g []:=by rfl) (hxs:ys.map s.ev=xs:=by first|rfl|(simp;done)) (hfl:xs.all eD=true:=by first|rfl|(simp [eD,oW];done)) (hcal:callable P g=true:=by simp):
  Nx 1 P ⟨dst,.call {callee:= .value f,args:=⟨ys⟩,argTypes:=tys},ty,pos,after,gd⟩ s X:=by
 refine aSf ?_
 unfold aCy
 simp only [hf]
 exact ⟨hcal,.inr (.inr ⟨Q,⟨by rw [hxs];exact hfl,by rw [hxs];exact hc⟩,hn⟩)⟩
end
theorem jH {P:Program} {fn:Func} {s:AS} {code:List UInt8} {Q:AV→Prop} {ys:List AV} {i h:Int} (hys:s.rvs P fn.results.toList=some ys) (ht:s.t.getD 0 .undef= .ptr 0 2 0 0) (ho:s.o[0]? =some ⟨true,true,3,2,[aQ code i h]⟩) (hi:0≤i)
  (hok:eB s.o (single ys)=true) (hu:(0::uses (single ys)).Nodup) (hq:Q (res s.o (single ys))):∃r,Q r∧aGk P fn s code r:=
 ⟨_,hq,ht,⟨i,h,hi,ho⟩,.inl ⟨ys,hys,hok,hu,rfl⟩⟩
theorem bIs {P:Program} {fn:Func} {s:AS} {code:List UInt8} {Q:AV→Prop} {ys:List AV} {k:Nat} {i h:Int} (hys:s.rvB P fn.results.toList=some (k,ys)) (ht:s.t.getD 0 .undef= .ptr 0 2 0 0) (ho:s.o[0]? =some ⟨true,true,3,2,[aQ code i h]⟩) (hi:0≤i)
  (hok:eB s.o (single ys)=true) (hu:(0::uses (single ys)).Nodup) (hk:k∉uses (single ys)) (hk0:k≠0) (hq:Q (res s.o (single ys))):∃r,Q r∧aGk P fn s code r:=
 ⟨_,hq,ht,⟨i,h,hi,ho⟩,.inr ⟨k,ys,hys,hok,hu,hk,hk0,rfl⟩⟩
def aZk (P:Program) (fn:Func) (s:AS) (code:List UInt8):Prop:=∃(k ver:Nat) (i h:Int),s.rvs P fn.results.toList=some [.ptr k ver 0 0]∧AV.isObj s.o k ver=some ⟨true,true,3,ver,[aQ code i h]⟩∧0≤i
theorem aYb {P:Program} [aB P] (hm:P.follows .mixedOrders=true) {f:FuncId} {fn:Func} {c:Code} (hf:P.funcs[f]? =some fn) (hb:fn.body=some c)
  (h:∀code:List UInt8,code.length≤maxLen→awp P c ⟨[.sl .view 1 (aT code)]++List.replicate (fn.ntmps - 1) .undef,[]⟩ (fun e s=>(e= .normal∨e= .ret)∧aZk P fn s code)):aMr P f:=by
 intro w S v code hg hS hv
 have hl0:code.length≤maxLen:=by
  simp only [R] at hv
  rcases hv with h|⟨_,_,_,hl,_⟩
  ·exact h.1.elim
  ·simpa [aT] using hl.1
 have r0:bG ⟨w,S,fun _=>False,fun _=>none,fun _=>none,hg,fun _ h=>h.elim,fun _ h=>h.elim⟩ ⟨[.sl .view 1 (aT code)]++List.replicate (fn.ntmps - 1) .undef,[]⟩ [] {tmps:=#[v]++Array.replicate (fn.ntmps - (#[v]:Array Value).size) Go.undef,defers:=[]} w:=by
  refine ⟨rfl,rfl,fun i ob g hl=>by simp [look] at hl,fun i j oi oj gi gj b hl=>by simp [look] at hl,fun i ob g b hl=>by simp [look] at hl,?_,Nat.le_refl _,fun _ _ _=>rfl,fun b hb=>hS b hb,Same.rfl⟩
  have h1:Rc w (env ⟨w,S,fun _=>False,fun _=>none,fun _=>none,hg,fun _ h=>h.elim,fun _ h=>h.elim⟩ [] [] w) [.sl .view 1 (aT code)] [v] []:=by
   simp only [Rc]
   exact ⟨[],[],aHv (E:=pY S) ⟨fun b hb=>⟨⟨.inl hb,fun i ob g hl=>by simp [look] at hl⟩,rfl⟩,fun _ _=>trivial,fun _ _ _ h=>h.elim,fun _ _ _ h=>h.elim,fun _ _ _ _ _ h=>h.elim⟩ hv,rfl,rfl⟩
  have h2:∀n,Rc w (env ⟨w,S,fun _=>False,fun _=>none,fun _=>none,hg,fun _ h=>h.elim,fun _ h=>h.elim⟩ [] [] w) (List.replicate n .undef) (List.replicate n Go.undef) []:=by
   intro n
   induction n with
   |zero=>simp [Rc]
   |succ n ih=>simp only [List.replicate_succ,Rc];exact ⟨[],[],by simp [R],ih,rfl⟩
  have:=gT h1 (h2 (fn.ntmps - 1))
  simpa using this
 refine calls_of_wp hf hb (wp_mono (lW hm c _ _ (h code hl0) _ _ ⟨_,r0⟩) fun e a w' he=> ?_)
 obtain ⟨s,⟨he,k,ver,i,h',hys,hob,hi⟩,G,r⟩:=he
 obtain ⟨u,hrun,hR⟩:=qW r hys
 simp only [single] at hR
 have hR2:=hR
 simp only [R] at hR2
 obtain ⟨_,ob,g,hl,_,hpt,_⟩:=hR2
 obtain ⟨h1,h2,h3⟩:=iO hob
 obtain rfl:=Option.some.inj (hl.1.symm.trans h1)
 obtain ⟨b,fo,hga,hu⟩:=hpt rfl rfl
 simp only [Nat.zero_mul,Nat.add_zero] at hu
 obtain ⟨fp0,hown,_,hF⟩:=r.ok k _ g hl rfl
 simp only [Env.of,if_true] at hown
 obtain ⟨b3,off3,ha3,rfl⟩:=aE7 hown
 rw [hga] at ha3
 simp only [Option.some.injEq,Addr.mk.injEq,and_true] at ha3
 obtain ⟨rfl,rfl⟩:=ha3
 have hbF:g.F b:=hF b (by simp)
 have hfr:=r.fresh _ _ _ b hl rfl hbF
 have hfin:∃b fo cap,Ending.returned u= .returned (.pointer (some ⟨b,fo,none⟩))∧w.heap.size≤b∧b < w'.heap.size∧aHp w' (fun x=>(S x∨(w.heap.size≤x∧x < w'.heap.size))∧x≠b) b fo cap code∧
   w.heap.size≤w'.heap.size∧(∀b,b < w.heap.size→w'.heap[b]? =w.heap[b]?)∧Same w w':=by
  refine ⟨b,fo,g.cap,by rw [hu],hfr.1.resolve_left (fun h=>h),hfr.2,⟨i,h',hi,?_⟩,r.size,fun x hx=>r.frame x hx (fun h=>h),r.same⟩
  rw [hga] at hown
  exact yI (E:=env ⟨w,S,fun _=>False,fun _=>none,fun _=>none,hg,fun _ h=>h.elim,fun _ h=>h.elim⟩ s.o G w') ⟨fun x hx=>⟨⟨hx.1,fun e=>hx.2 _ _ _ hl rfl (e▸hbF)⟩,rfl⟩,fun _ _=>trivial,fun _ _ _ h=>h.elim,fun _ _ _ h=>h.elim,fun _ _ _ _ _ h=>h.elim⟩ hown
 rcases he with rfl|rfl
 ·exact ⟨r.defs,u,hrun,hfin⟩
 ·exact ⟨r.defs,u,hrun,hfin⟩
theorem jR {P:Program} [aB P] {o:Oper} {s s':AS} {X:AS→Prop} {i ver:Nat} {ob:aA} (hob:AV.isObj s.o i ver=some ob) (hbx:ob.box=false) (h:Nx 1 P o s' X) (e:s.frozen i ver ob=s'):Nx 1 P o s X:=by
 subst e
 exact sw (fun _ _ B a w hr=>aMx hob hbx hr) h
end Go.Aw

namespace Go.Aw
theorem bJs {P:Program} [aB P] (hm:P.follows .mixedOrders=true) {f:FuncId} {fn:Func} {c:Code} (hf:P.funcs[f]? =some fn) {n:Nat} (hn:fn.ntmps=n) {t:List AV}
  (h:∀code:List UInt8,code.length≤maxLen→awp P c ⟨.sl .view 1 (aT code)::t,[]⟩ (fun e s=>(e= .normal∨e= .ret)∧aZk P fn s code)) (hb:fn.body=some c:=by rfl)
  (ht:List.replicate (n - 1) AV.undef=t:=by
   simp only [Nat.reduceSub,Nat.reduceAdd,List.replicate_succ,List.replicate_zero];rfl):aMr P f:=by
 subst ht;subst hn;exact aYb hm hf hb h
theorem vB {P:Program} {fn:Func} {s:AS} {Q:AV→Prop} {ys:List AV} (hys:s.rvs P fn.results.toList=some ys) (hok:eB s.o (single ys)=true) (hu:(uses (single ys)).Nodup) (hq:Q (res s.o (single ys))):∃r,Q r∧(jA P fn s r∨wJ P fn s r):=
 ⟨_,hq,.inl ⟨ys,hys,hok,hu,rfl⟩⟩
end Go.Aw

namespace Go.Aw
theorem bIi {P:Program} [aB P] (hm:P.follows .mixedOrders=true) {f:FuncId} {fn:Func} {c c':Code} (L:List Nat) (hf:P.funcs[f]? =some fn) {n:Nat} (hn:fn.ntmps=n) {xs t:List AV} {Q:AV→Prop}
  (h:∀code i h,0≤i→code.length≤maxLen→awp P c' ⟨t,[⟨true,true,3,2,[aQ code i h]⟩]⟩ (fun e s=>(e= .normal∨e= .ret)∧∃r,Q r∧aGk P fn s code r)) (hb:fn.body=some c:=by rfl) (hflat:xs.all eD=true:=by simp [eD,oW])
  (hc:nQ (fun i=>L.contains i) c=c':=by simp [nQ];rfl)
  (ht: .ptr 0 2 0 0::xs++List.replicate (n - (xs.length+1)) .undef=t:=by
   simp only [List.length_cons,List.length_nil,Nat.reduceSub,Nat.reduceAdd,List.replicate_succ,List.replicate_zero,List.cons_append,List.nil_append];rfl):OkC P f xs Q:=by
 subst ht;subst hn;subst hc;rw [qR] at h;exact aJ7 hm hf hb hflat h
theorem bEj {P:Program} [aB P] (hm:P.follows .mixedOrders=true) {f:FuncId} {fn:Func} {c c':Code} (L:List Nat) (hf:P.funcs[f]? =some fn) {n:Nat} (hn:fn.ntmps=n) {args t:List AV} {Q:AV→Prop}
  (h:awp P c' ⟨t,[]⟩ (fun e s=>(e= .normal∨e= .ret)∧∃r,Q r∧(jA P fn s r∨wJ P fn s r))) (hb:fn.body=some c:=by rfl) (hflat:args.all eD=true:=by simp [eD,oW])
  (hc:nQ (fun i=>L.contains i) c=c':=by simp [nQ];rfl)
  (ht:args++List.replicate (n - args.length) .undef=t:=by
   simp only [List.length_cons,List.length_nil,Nat.reduceSub,Nat.reduceAdd,List.replicate_succ,List.replicate_zero,List.cons_append,List.nil_append];rfl):OkE P f args Q:=by
 subst ht;subst hn;subst hc;rw [qR] at h;exact aLe hm hf hb hflat h
theorem bIh (d:Tmp) {P:Program} [aB P] {all r:List Oper} {op:Op} {ty:TypeId} {pos:String} {after:Array Edge} {s:AS} {K:AS→Prop} (h:Nx 1 P ⟨some d,op,ty,pos,after,none⟩ s fun s'=>dP P all r s' K):dP P all (⟨some d,op,ty,pos,after,none⟩::r) s K:=aNs rfl h
end Go.Aw

namespace Go.Aw
def invS (P:Program) [aB P] {ι:Type} (l:List Oper) (S:(Nat→Bool)→ι→AS):Nat→List Oper→Prop
 |_,[]=>True
 |i,o::r=>(∀(J:Nat→Bool) (y:ι),Clo l J→J i=false→(∀e∈pre o,J e=true)→dP P l [o] (S J y) fun s'=>∃y',fG s' (S (upd J i) y'))∧invS P l S (i+1) r
theorem aSt {P:Program} [aB P] {ι:Type} {L:List Oper} {S:(Nat→Bool)→ι→AS}:∀{l:List Oper} {k i:Nat} {o:Oper},invS P L S k l→l[i]? =some o→
  ∀(J:Nat→Bool) (y:ι),Clo L J→J (k+i)=false→(∀e∈pre o,J e=true)→dP P L [o] (S J y) fun s'=>∃y',fG s' (S (upd J (k+i)) y')
 |[],_,_,_,_,h=>by simp at h
 |x::xs,k,0,o,hd,h=>by
  simp at h;subst h;exact hd.1
 |x::xs,k,i+1,o,hd,h=>by
  have:=aSt (k:=k+1) (i:=i) hd.2 (by simpa using h)
  rwa [show k+1+i=k+(i+1) by omega] at this
theorem bBk {P:Program} [aB P] {B:Base P} {ops:Array Oper} {Q:Exit→Act→World→Prop} {ι:Type} {S:(Nat→Bool)→ι→AS} (hfw:zM ops.toList=true) (hs:invS P ops.toList S 0 ops.toList)
  (he:∀J y,(∀i,i < ops.size→J i=true)→∀a w,Rel B (S J y) a w→Q .normal a w):
  ∀(n:Nat) (listed:Array Bool) (y:ι) (a:Act) (w:World),listed.size=ops.size→Clo ops.toList (fun i=>listed.getD i false)→left listed.toList=n→Rel B (S (fun i=>listed.getD i false) y) a w→wpAny P .any ops Q n listed a w
 |0,listed,y,a,w,hl,hc,hn,r=>by
  have hall:∀i,i < ops.size→listed.getD i false=true:=by
   intro i hi
   have hi':i < listed.size:=by omega
   have:=aCu hn (i:=i) (b:=listed[i]) (by simp [hi'])
   simp [Array.getD,hi',this]
  refine ⟨?_,he _ _ hall _ _ r⟩
  rw [List.eq_nil_iff_forall_not_mem]
  intro i hi
  obtain ⟨op,hop,h1,_⟩:=(mem_ready hl).1 hi
  have hio:=(List.getElem?_eq_some_iff.1 hop).1
  have:=hall i (by simpa using hio)
  rw [this] at h1;cases h1
 |n+1,listed,y,a,w,hl,hc,hn,r=>by
  constructor
  ·intro hnil
   exfalso
   obtain ⟨i,h1,h2⟩:=aD5 (l:=listed.toList) (by omega)
   have hi:i < listed.size:=by have:=(List.getElem?_eq_some_iff.1 h1).1;simpa using this
   have hio:i < ops.toList.length:=by simp;omega
   have hop:=List.getElem?_eq_getElem hio
   have hg:∀j:Nat,listed.toList[j]? =listed[j]?:=fun j=>Array.getElem?_toList
   have:i∈Region.ready .any ops listed:=(mem_ready hl).2 ⟨_,hop,by rw [Array.getD_eq_getD_getElem?,←hg,h1];rfl,fun e he=>by
    have:=h2 e (aCr hfw hop e he)
    rw [Array.getD_eq_getD_getElem?,←hg,this];rfl⟩
   rw [hnil] at this;cases this
  ·intro i hi
   obtain ⟨op,hop,h1,h2⟩:=(mem_ready hl).1 hi
   have hio:=(List.getElem?_eq_some_iff.1 hop).1
   have hil:i < listed.size:=by simp at hio;omega
   have hst:=aSt hs hop (fun j=>listed.getD j false) y hc (by rw [Nat.zero_add];exact h1) h2
   rw [Nat.zero_add] at hst
   unfold wpOp
   have hopa:ops[i]? =some op:=by simpa using hop
   rw [hopa]
   have:=aGg hst r (Kc:=wpAny P .any ops Q n (listed.setIfInBounds i true)) (Q:=Q) (fun a' w' s' h' r'=>by
    simp only [dP] at h'
    obtain ⟨y',hw⟩:=h'
    have hu:upd (fun j=>listed.getD j false) i=fun j=>(listed.setIfInBounds i true).getD j false:=by
     funext j
     exact (aEp hil j).symm
    refine bBk hfw hs he n _ y' a' w' (by simpa using hl) ?_ ?_ ?_
    ·rw [←hu]
     intro j o hj hJ e he
     unfold upd at hJ⊢
     by_cases hji:j=i
     ·subst hji
      rw [hop] at hj
      obtain rfl:=Option.some.inj hj
      have h3:=h2 e he
      split
      ·rfl
      ·exact h3
     ·rw [if_neg hji] at hJ
      have h3:=hc j o hj hJ e he
      split
      ·rfl
      ·exact h3
    ·have h1':listed[i]? =some false:=by
      rw [Array.getD_eq_getD_getElem?,Array.getElem?_eq_getElem hil] at h1
      rw [Array.getElem?_eq_getElem hil]
      exact congrArg some h1
     have:=aBx (l:=listed.toList) (i:=i) (by simpa using h1')
     rw [Array.toList_setIfInBounds]
     omega
    ·rw [←hu]
     exact hw B a' w' r')
   simpa using this
theorem aB8 {l:List Oper} {J:Nat→Bool} (hc:Clo l J) {e:Nat} (he:J e=false) (k:Nat) {o:Oper} (hk:l[k]? =some o) (hm:e∈pre o):J k=false:=by
 cases h:J k
 ·rfl
 ·have:=hc k o hk h e hm
  rw [he] at this;cases this
theorem bFl {P:Program} [aB P] {id:Nat} {l:List Oper} {s:AS} {Q:Exit→AS→Prop} {ι:Type} (S:(Nat→Bool)→ι→AS) (y0:ι) (h0:fG s (S (fun _=>false) y0)) (hs:invS P l S 0 l)
  (he:∀J y,(∀i,i < l.length→J i=true)→Q .normal (S J y)) (hfw:zM l=true:=by decide+kernel):awp P (.region id (hide l.toArray) true) s Q:=by
 rw [rG]
 unfold awp
 intro B a w Q0 hr hq
 have hJ:(fun i=>(Array.replicate l.toArray.size false).getD i false)=fun _=>false:=by
  funext i
  simp only [Array.getD_eq_getD_getElem?,Array.getElem?_replicate]
  split<;>rfl
 have r2:Rel B s a {w with drawn:=w.drawn+1}:=by
  obtain ⟨G,r⟩:=hr
  exact ⟨G,{len:=r.len,defs:=r.defs,ok:=fun i ob g hl hlive=>(r.ok i ob g hl hlive).keeps (w':={w with drawn:=w.drawn+1}) ⟨fun b h=>⟨h,rfl⟩,fun _ h=>h,fun _ _ _ h=>⟨h,rfl⟩,fun _ _ _ h=>h,fun _ _ _ _ _ h=>h⟩ (fun _ _=>rfl),apart:=r.apart,fresh:=r.fresh,tmps:=dI (w:=w) (E:=env B s.o G w) (w':={w with drawn:=w.drawn+1}) (E':=env B s.o G {w with drawn:=w.drawn+1}) ⟨fun b h=>⟨h,rfl⟩,fun _ h=>h,fun _ _ _ h=>⟨h,rfl⟩,fun _ _ _ h=>h,fun _ _ _ _ _ h=>h⟩ _ _ _ (by simp) r.tmps,size:=r.size,frame:=r.frame,base:=r.base,same:=r.same.trans ⟨rfl,rfl,rfl⟩}⟩
 refine bBk (ops:=l.toArray) (B:=B) (S:=S) (by simpa using hfw) (by simpa using hs) (fun J y h a' w' r'=>hq a' w' _ (he J y (by simpa using h)) r') _ _ y0 _ _ (by simp) (by rw [hJ];intro j o hj hJ;cases hJ) (by simp [left]) ?_
 rw [hJ]
 exact h0 B _ _ r2
end Go.Aw

namespace Go.Aw
theorem bEv {P:Program} [aB P] {c1 c2:Code} {s:AS} {K:AS→Prop} {Q Q':Exit→AS→Prop} (Post:AS→Prop) (hk:∀s',Post s'→K s')
  (h:awp P c1 s (oC (fun s'=>awp P c2 s' (fun e s'=>e= .normal∧Post s')) (fun _ _=>False))):awp P c1 s (oC (fun s'=>awp P c2 s' (oC K Q)) Q'):=by
 refine wE c1 s _ _ (fun e s' he=> ?_) h
 cases e<;>simp only [oC] at he⊢
 exact wE c2 s' _ _ (fun e s'' hp=>by obtain ⟨rfl,hp⟩:=hp;simp only [oC];exact hk _ hp) he
end Go.Aw
