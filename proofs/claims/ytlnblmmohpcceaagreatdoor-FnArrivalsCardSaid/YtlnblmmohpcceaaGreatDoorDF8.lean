/-
  Proved here: steps towards the statement of this claim, text F8.
  No condition beyond what each statement spells out.
-/
import Derived.Test.YtlnblmmohpcceaaGreatDoorDF6
import Derived.Test.YtlnblmmohpcceaaGreatDoorDF3
import Derived.Test.YtlnblmmohpcceaaGreatDoorDF9
set_option linter.all false
namespace Go.Aw
section
variable {P : Program} [aB P] {B : Base P} {s : AS} {dst : Option Tmp} {ty : TypeId} {pos : String} {after : Array Edge} {gd : Option (Nat × Bool)}
theorem aCg {o:List aA}:∀{c:List AV},(∀x∈c,x.plainV=true)→eD o c=c∧eT o c=true∧bR c=[]
 |[],_=>⟨rfl,rfl,rfl⟩
 |x::xs,h=>by
  obtain ⟨h1,h2,h3⟩:=aCg (o:=o) (c:=xs) fun y hy=>h y (by simp [hy])
  have hx:=h x (by simp)
  cases x<;>simp only [AV.plainV] at hx<;>first|(cases hx;done)|(simp [eD,eT,bR,res,bF,uses,h1,h2,h3])
theorem aIl (t:TypeId) (len:Nat) (parts:Array (Nat×Operand)) {e:TypeId} {n by' i:Nat} (he:elemA P t=some (e,n,by')) (hz:zeroSz P e n=true) (hord:kS parts.toList=true) (hlen:len=parts.toList.length) (hbig:len * n≤16777216) (hbig2:len≤16777216)
  (hpl:∀x∈(parts.toList.map (·.2)).map s.ev,x.plainV=true) (hgood:∀x∈(parts.toList.map (·.2)).map s.ev,x.good=true∧x.cells.length=n) (hi':s.o[i]? =some ⟨true,false,n,0,[]⟩):
  Step P B ⟨dst,.buildSlice t len parts,ty,pos,after,gd⟩ s (AS.put ⟨s.t,s.o.set i ⟨true,false,n,1,((parts.toList.map (·.2)).map s.ev).map AV.cells⟩⟩ dst (.obj i 1)):=
 iI fun G a w r=>by
  generalize hxs:parts.toList.map (·.2)=xs at *
  have hparts:parts.toList=(xs.zipIdx).map fun p=>(p.2,p.1):=by rw [←hxs];exact tT _ 0 hord
  obtain ⟨hp1,hp2,hp3⟩:=aCg (o:=s.o) hpl
  obtain ⟨fp,hrc,hnd,hOf⟩:=sU r _ _ hp2 (by rw [hp3];simp) (iP r xs)
  have hfp:fp=[]:=by
   cases fp with
   |nil=>rfl
   |cons b _=>
    obtain ⟨i,ob,g,hi,_⟩:=hOf b (by simp)
    rw [hp3] at hi;cases hi
  subst hfp
  rw [hp1] at hrc
  obtain ⟨hrv,hsz⟩:=aBq hrc hgood
  have hvl:(xs.map a.eval).length=len:=by rw [hlen,←hxs];simp
  have hrun:(execOp a.eval ⟨dst,.buildSlice t len parts,ty,pos,after,gd⟩).run P w= .ok (.value (.slice (some ⟨w.heap.size,0,none⟩) len len)) (w.alloc (.cells ((xs.map a.eval).flatMap fun v=>v.cells.toList).toArray e)):=by
   have e1:parts.map (fun (i,x)=>(i,a.eval x))=(((xs.map a.eval).zipIdx).map fun p=>(p.2,p.1)).toArray:=by
    apply Array.ext'
    simp only [Array.toList_map,hparts,List.map_map,List.zipIdx_map]
    rfl
   have:=run_buildSlice (P:=P) (t:=t) (len:=len) (w:=w) he hz hvl.symm hbig hsz
   simp only [execOp,e1,Sem.run_bind,this,Result.andThen_ok,Sem.run_pure]
  have hlt:i < G.length:=by rw [r.len];exact (List.getElem?_eq_some_iff.1 hi').1
  have hlk:Aw.look s.o G i ⟨true,false,n,0,[]⟩ G[i]:=⟨hi',List.getElem?_eq_getElem hlt⟩
  generalize G[i]=g at hlk
  generalize hCd:((xs.map a.eval).flatMap fun v=>v.cells.toList)=cs at *
  have hcl:=fM hrv
  have hself:(w.alloc (.cells cs.toArray e)).heap[w.heap.size]? =some (.cells cs.toArray e):=eY w _
  have hrl:((xs.map s.ev).map AV.cells).length=len:=by
   have:=bD hrc
   rw [List.length_map,←this,hvl]
  have hlm:len≤maxLen:=by simp only [maxLen];omega
  have hm:=r.modify hlk rfl ⟨true,false,n,1,(xs.map s.ev).map AV.cells⟩ ⟨some ⟨w.heap.size,0,none⟩,len,fun b=>g.F b∨b=w.heap.size⟩ (w.alloc (.cells cs.toArray e)) (by simp) rfl (by simp)
   (fun b hb=>by
    rcases hb with hb|hb
    ·exact .inl hb
    ·right;subst hb;simp) (fun b hb hne=>⟨.inl hb,fun a' ha'=>by
     obtain rfl:=Option.some.inj ha'
     have:=(r.fresh _ _ _ b hlk rfl hb).2
     simp only;omega⟩) (fun b hlt _=>heap_alloc w _ b hlt) (by simp) (fun k _=>by
   refine ⟨[w.heap.size],?_,by simp,by simp⟩
   generalize env B _ _ (w.alloc (.cells cs.toArray e))=E' at k⊢
   simp only [Env.of,Bool.false_eq_true,if_false]
   refine ⟨by rw [hrl];exact hlm,.inr ⟨w.heap.size,0,cs.toArray,e,(0,0),[],rfl,hself,.inr rfl,?_,by rw [hrl];exact Nat.le_refl _,hlm,rfl,?_⟩⟩
   ·simp [hcl]
    rw [←hrl];simp
   ·refine kG.2 ⟨cs,jL k.plain (fun b hb=>by cases hb) hrv,?_⟩
    refine lD hself (fun j v hv=>by simpa using hv))
  have hl2:Aw.look (s.o.set i ⟨true,false,n,1,(xs.map s.ev).map AV.cells⟩) (G.set i ⟨some ⟨w.heap.size,0,none⟩,len,fun b=>g.F b∨b=w.heap.size⟩) i ⟨true,false,n,1,(xs.map s.ev).map AV.cells⟩ ⟨some ⟨w.heap.size,0,none⟩,len,fun b=>g.F b∨b=w.heap.size⟩:=lG hlk
  refine ⟨_,_,hrun,_,hm.1.put dst ?_⟩
  simp only [R]
  exact ⟨trivial,_,_,hl2,Nat.le_refl _,fun _ _=>by rw [hrl],fun h=>absurd h (by decide)⟩
end
structure Plc where
  at_ : Nat
  n : Nat
  st : List (Nat × aA)
def stg (J:Nat→Bool) (h:aA):List (Nat×aA)→aA
 |[]=>h
 |q::r=>if J q.1=true then q.2 else stg J h r
def vst (i:Nat) (pr:List Nat) (h dead:aA):List (Nat×aA)→aA
 |[]=>h
 |q::r=>if q.1∈pr then q.2 else if q.1=i∨i∈r.map (·.1) then vst i pr h dead r else dead
def hole (n:Nat):aA:=⟨true,false,n,0,[]⟩
def aEw (n:Nat):aA:=⟨false,false,n,0,[]⟩
def gU (J:Nat→Bool):List Plc→List aA→List aA
 |[],o=>o
 |p::r,o=>gU J r (o.set p.at_ (stg J (hole p.n) p.st))
def lN (i:Nat) (pr:List Nat):List Plc→List aA→List aA
 |[],o=>o
 |p::r,o=>lN i pr r (o.set p.at_ (vst i pr (hole p.n) (aEw p.n) p.st))
def pV (l:List Oper):List (Nat×aA)→Bool
 |[]=>true
 |[_]=>true
 |q::q'::r=>(dE l q.1).contains q'.1&&pV l (q'::r)
def aH9 (l:List Oper) (fl:List Plc) (n:Nat):Bool:=
 decide (fl.map (·.at_)).Nodup&&(fl.all fun p=>decide (p.at_ < n)&&pV l p.st&&decide (p.st.map (·.1)).Nodup&&p.st.all fun q=>decide (q.1 < l.length))&&decide ((fl.flatMap fun p=>p.st.map (·.1))).Nodup
theorem nX (J:Nat→Bool):∀(fl:List Plc) (o:List aA),(gU J fl o).length=o.length
 |[],_=>rfl
 |q::r,o=>by simp only [gU];rw [nX J r];simp
theorem rU (i:Nat) (pr:List Nat):∀(fl:List Plc) (o:List aA),(lN i pr fl o).length=o.length
 |[],_=>rfl
 |q::r,o=>by simp only [lN];rw [rU i pr r];simp
theorem sG {J:Nat→Bool} {i:Nat}:∀{fl:List Plc} {o:List aA},(∀q∈fl,q.at_≠i)→(gU J fl o)[i]? =o[i]?
 |[],_,_=>rfl
 |q::r,o,h=>by
  simp only [gU]
  rw [sG fun p hp=>h p (by simp [hp]),List.getElem?_set_ne (h q (by simp))]
theorem aBu {k:Nat} {pr:List Nat} {i:Nat}:∀{fl:List Plc} {o:List aA},(∀q∈fl,q.at_≠i)→(lN k pr fl o)[i]? =o[i]?
 |[],_,_=>rfl
 |q::r,o,h=>by
  simp only [lN]
  rw [aBu fun p hp=>h p (by simp [hp]),List.getElem?_set_ne (h q (by simp))]
theorem uH {J:Nat→Bool}:∀{fl:List Plc} {o:List aA} {q:Plc},(fl.map (·.at_)).Nodup→q∈fl→q.at_ < o.length→(gU J fl o)[q.at_]? =some (stg J (hole q.n) q.st)
 |p::r,o,q,hn,hq,hl=>by
  simp only [gU]
  simp only [List.map_cons,List.nodup_cons] at hn
  rcases List.mem_cons.1 hq with rfl|hq
  ·rw [sG fun p hp e=>hn.1 (List.mem_map.2 ⟨p,hp,e⟩),List.getElem?_set_self hl]
  ·exact uH hn.2 hq (by simpa using hl)
theorem aE9 {k:Nat} {pr:List Nat}:∀{fl:List Plc} {o:List aA} {q:Plc},(fl.map (·.at_)).Nodup→q∈fl→q.at_ < o.length→(lN k pr fl o)[q.at_]? =some (vst k pr (hole q.n) (aEw q.n) q.st)
 |p::r,o,q,hn,hq,hl=>by
  simp only [lN]
  simp only [List.map_cons,List.nodup_cons] at hn
  rcases List.mem_cons.1 hq with rfl|hq
  ·rw [aBu fun p hp e=>hn.1 (List.mem_map.2 ⟨p,hp,e⟩),List.getElem?_set_self hl]
  ·exact aE9 hn.2 hq (by simpa using hl)
theorem tF {J J':Nat→Bool}:∀{fl:List Plc} {o:List aA},(∀p∈fl,∀q∈p.st,J q.1=J' q.1)→gU J fl o=gU J' fl o
 |[],_,_=>rfl
 |p::r,o,h=>by
  simp only [gU]
  have:∀st:List (Nat×aA),(∀q∈st,J q.1=J' q.1)→stg J (hole p.n) st=stg J' (hole p.n) st:=by
   intro st
   induction st with
   |nil=>intros;rfl
   |cons q r ih=>intro h;simp only [stg];rw [h q (by simp),ih fun x hx=>h x (by simp [hx])]
  rw [this p.st (h p (by simp)),tF fun q hq=>h q (by simp [hq])]
theorem aE3 {J:Nat→Bool} {i:Nat} {pr:List Nat} {n:Nat} (hi:J i=false) (hp:∀e∈pr,J e=true):∀(st:List (Nat×aA)),(∀s1 q s2,st=s1++q::s2→J q.1=false→∀p∈s1,J p.1=false)→(vst i pr (hole n) (aEw n) st).live=true→vst i pr (hole n) (aEw n) st=stg J (hole n) st
 |[],_,_=>rfl
 |q::r,hlat,h=>by
  simp only [vst,stg] at h⊢
  by_cases h1:q.1∈pr
  ·rw [if_pos h1,if_pos (hp _ h1)]
  ·rw [if_neg h1] at h⊢
   by_cases h2:q.1=i∨i∈r.map (·.1)
   ·rw [if_pos h2] at h⊢
    have hq:J q.1=false:=by
     rcases h2 with h2|h2
     ·rw [h2];exact hi
     ·obtain ⟨x,hx,rfl⟩:=List.mem_map.1 h2
      obtain ⟨r1,r2,rfl⟩:=List.append_of_mem hx
      exact hlat (q::r1) x r2 rfl hi q (by simp)
    rw [hq,if_neg (by simp)]
    exact aE3 hi hp r (fun s1 x s2 e hx p hp=>hlat (q::s1) x s2 (by rw [e];rfl) hx p (by simp [hp])) h
   ·rw [if_neg h2] at h;cases h
theorem aBv {l:List Oper} {q:Nat×aA} {r:List (Nat×aA)} (h:pV l (q::r)=true):pV l r=true:=by
 cases r with
 |nil=>rfl
 |cons q' r=>simp only [pV,Bool.and_eq_true] at h;exact h.2
theorem xR {l:List Oper} {J:Nat→Bool} (hJ:Clo l J) (hlen:∀i,J i=true→i < l.length):∀{s1:List (Nat×aA)} {q:Nat×aA} {s2:List (Nat×aA)},pV l (s1++q::s2)=true→J q.1=false→∀p∈s1,J p.1=false
 |[],_,_,_,_=>fun _ hp=>by cases hp
 |x::s1,q,s2,h,hq=>by
  have ih:=xR hJ hlen (aBv h) hq
  intro p hp
  rcases List.mem_cons.1 hp with rfl|hp
  ·cases hJp:J p.1 with
   |false=>rfl
   |true=>
    exfalso
    have hnx:∃y,(dE l p.1).contains y=true∧J y=false:=by
     cases s1 with
     |nil=>simp only [List.cons_append,List.nil_append,pV,Bool.and_eq_true] at h;exact ⟨q.1,h.1,hq⟩
     |cons y s1=>simp only [List.cons_append,pV,Bool.and_eq_true] at h;exact ⟨y.1,h.1,ih y (by simp)⟩
    obtain ⟨y,hy,hyf⟩:=hnx
    have hlp:=hlen _ hJp
    have hop:l[p.1]? =some (l.get ⟨p.1,hlp⟩):=List.getElem?_eq_getElem hlp
    have hm:y∈pre (l.get ⟨p.1,hlp⟩):=by
     unfold dE at hy
     rw [hop] at hy
     simpa using hy
    have:=hJ _ _ hop hJp _ hm
    rw [hyf] at this;cases this
  ·exact ih p hp
theorem aLl {J:Nat→Bool} {i:Nat} {pr:List Nat} {fl:List Plc} {o:List aA} (hn:(fl.map (·.at_)).Nodup) (hs:∀q∈fl,q.at_ < o.length) (hi:J i=false) (hp:∀e∈pr,J e=true) (hlat:∀q∈fl,∀s1 x s2,q.st=s1++x::s2→J x.1=false→∀p∈s1,J p.1=false):Sub (lN i pr fl o) (gU J fl o):=by
 intro k ob h hl
 by_cases hk:∃q∈fl,q.at_=k
 ·obtain ⟨q,hq,rfl⟩:=hk
  rw [aE9 hn hq (hs q hq)] at h
  obtain rfl:=Option.some.inj h
  rw [uH hn hq (hs q hq),aE3 hi hp _ (hlat q hq) hl]
 ·have hk':∀q∈fl,q.at_≠k:=fun q hq e=>hk ⟨q,hq,e⟩
  rw [aBu hk'] at h
  rw [sG hk'];exact h
theorem aMe {l:List Oper} {J:Nat→Bool} (hJ:Clo l J) (hlen:∀i,J i=true→i < l.length) {n i:Nat} {ob':aA}:∀{s1 s2:List (Nat×aA)},pV l (s1++(i,ob')::s2)=true→((s1++(i,ob')::s2).map (·.1)).Nodup→J i=false→stg (upd J i) (hole n) (s1++(i,ob')::s2)=ob'
 |s1,s2,h,hn,hi=>by
  have hl:=xR hJ hlen h hi
  induction s1 with
  |nil=>simp [stg,upd]
  |cons x s1 ih=>
   simp only [List.cons_append,List.map_cons,List.nodup_cons] at hn
   have hx:x.1≠i:=fun e=>hn.1 (by simp [e])
   simp only [List.cons_append,stg]
   have:upd J i x.1=false:=by unfold upd;rw [if_neg hx];exact hl x (by simp)
   rw [this,if_neg (by simp)]
   exact ih (aBv h) hn.2 (fun p hp=>hl p (by simp [hp]))
def sJ (P:Program) [aB P] (op:Oper) (m:List AV) (view:List aA) (pl:Nat) (val:AV) (ob':aA):Prop:=
 ∀(B:Base P) (t2:List AV) (o2:List aA),wk t2 m→Sub view o2→o2.length=view.length→Step P B op ⟨t2,o2⟩ ⟨dM t2 op.dst val,o2.set pl ob'⟩
def wQ (P : Program) [aB P] (l : List Oper) (t : List AV) (b : List aA) (fl : List Plc) (j : Nat) (op : Oper) (vs : List AV) : Prop :=
  (∀ e ∈ pre op, e < j) ∧
  (((∀ p ∈ fl, ∀ q ∈ p.st, q.1 ≠ j) ∧ fB op.op ⟨dI j (pre op) 0 l (vs.take j) t, lN j (pre op) fl b⟩ = true ∧ ∃ x, (vs.getD j .undef = x ∨ vs.getD j .undef = .undef) ∧
      fT P l op ⟨dI j (pre op) 0 l (vs.take j) t, lN j (pre op) fl b⟩ (fun s' => s' = ⟨dM (dI j (pre op) 0 l (vs.take j) t) op.dst x, lN j (pre op) fl b⟩)) ∨
   (op.guard = none ∧ ∃ p ∈ fl, ∃ s1 ob' s2, p.st = s1 ++ (j, ob') :: s2 ∧ sJ P op (dI j (pre op) 0 l (vs.take j) t) (lN j (pre op) fl b) p.at_ (vs.getD j .undef) ob'))
theorem aH4 {P:Program} [aB P] {id:Nat} {l:List Oper} {s:AS} {Q:Exit→AS→Prop} (fl:List Plc) {b:List aA} (vs:List AV) (hfw:qO l=true) (hdst:distinct l=true) (hfl:aH9 l fl b.length=true)
  (hb0:gU (fun _=>false) fl b=s.o++(fl.map (·.n)).map fun n=>⟨true,false,n,0,[]⟩)
  (hit:∀j op,l[j]? =some op→wQ P l s.t b fl j op vs) (hK:Q .normal ⟨bA (fun _=>true) 0 l vs s.t,gU (fun _=>true) fl b⟩):awp P (.region id l.toArray true) s Q:=by
 simp only [aH9,Bool.and_eq_true,decide_eq_true_eq,List.all_eq_true] at hfl
 obtain ⟨⟨hnd,hsl⟩,hnds⟩:=hfl
 have hs:∀q∈fl,q.at_ < b.length:=fun q hq=>(hsl q hq).1.1.1
 have hsq:∀q∈fl,∀x∈q.st,x.1 < l.length:=fun q hq=>(hsl q hq).2
 have hst:∀q∈fl,pV l q.st=true:=fun q hq=>(hsl q hq).1.1.2
 have hsn:∀q∈fl,(q.st.map (·.1)).Nodup:=fun q hq=>(hsl q hq).1.2
 have huni:∀p∈fl,∀p'∈fl,∀q∈p.st,∀q'∈p'.st,q.1=q'.1→p.at_=p'.at_:=by
  have:∀(fl:List Plc),(fl.flatMap fun p=>p.st.map (·.1)).Nodup→∀p∈fl,∀p'∈fl,∀q∈p.st,∀q'∈p'.st,q.1=q'.1→p.at_=p'.at_:=by
   intro fl
   induction fl with
   |nil=>intro _ p hp;cases hp
   |cons x fl ih=>
    intro hn p hp p' hp' q hq q' hq' e
    simp only [List.flatMap_cons,List.nodup_append] at hn
    rcases List.mem_cons.1 hp with e1|hp1<;>rcases List.mem_cons.1 hp' with e2|hp2
    ·rw [e1,e2]
    ·exfalso
     rw [e1] at hq
     exact hn.2.2 _ (List.mem_map.2 ⟨q,hq,rfl⟩) _ (List.mem_flatMap.2 ⟨p',hp2,List.mem_map.2 ⟨q',hq',rfl⟩⟩) e
    ·exfalso
     rw [e2] at hq'
     exact hn.2.2 _ (List.mem_map.2 ⟨q',hq',rfl⟩) _ (List.mem_flatMap.2 ⟨p,hp1,List.mem_map.2 ⟨q,hq,rfl⟩⟩) e.symm
    ·exact ih hn.2.1 p hp1 p' hp2 q hq q' hq' e
  exact this fl hnds
 unfold awp
 have hrest:iQ l l.length=true:=by
  unfold iQ
  rw [List.all_eq_true]
  intro i hi
  simp at hi
  simp only [Bool.or_eq_true,decide_eq_true_eq]
  exact .inl (by omega)
 refine aFa (ops:=l.toArray) l.length (by simp) (by simpa using hfw) (by simpa using hrest) (fun J=>⟨bA J 0 l vs s.t,gU J fl b⟩) ?_ ?_ ?_
 ·have e1:∀(l:List Oper) (j:Nat) (vs t:List AV),bA (fun _=>false) j l vs t=t:=by
   intro l
   induction l with
   |nil=>intros;rfl
   |cons op r ih=>
    intro j vs t
    simp only [bA]
    rw [ih]
    unfold iZ
    cases op.dst<;>simp
  rw [e1,hb0]
  exact fun _ _ _ _ _ r=>zW _ r
 ·intro i op him hi J hJ hJm hJi hpre
  have hi':l[i]? =some op:=by simpa using hi
  have hJ':Clo l J:=by simpa using hJ
  have hJlen:∀k,J k=true→k < l.length:=fun k hk=>by
   rcases Nat.lt_or_ge k l.length with h|h
   ·exact h
   ·rw [hJm k h] at hk;cases hk
  obtain ⟨hprl,hex⟩:=hit i op hi'
  have hmask:wk (bA J 0 l vs s.t) (dI i (pre op) 0 l (vs.take i) s.t):=
   uR hJi (fun e he=>⟨hpre e he,hprl e he⟩) l 0 vs (vs.take i) s.t s.t (fun k q hk hJk=>hJ' k q hk (by simpa using hJk)) (fun k hk=>by
    rw [List.getD_eq_getElem?_getD,List.getD_eq_getElem?_getD,List.getElem?_take];simp [show k < i by omega]) (jY _)
  have hsub:=aLl (J:=J) (i:=i) (pr:=pre op) hnd hs hJi hpre (fun q hq s1 x s2 e hx=>xR hJ' hJlen (by rw [←e];exact hst q hq) hx)
  have htoD:∀v,vs.getD i .undef=v→bA (upd J i) 0 l vs s.t=dM (bA J 0 l vs s.t) op.dst v:=fun v hv=>by
   have:=qL l 0 i op vs s.t v hdst hi' (by simpa using hJi) hv
   rwa [Nat.zero_add] at this
  rcases hex with ⟨hnf,hq,x,hvx,hop⟩|⟨hg,p,hp,s1,ob',s2,hpst,hat⟩
  ·left
   obtain ⟨x',new',x2,rfl',hx2,_,hfin⟩:=nV (o2:=gU J fl b) hq hmask hop hsub (.inl (by rw [nX,rU]))
   refine hfin _ ?_
   have hset:new'=[]∧(dM (dI i (pre op) 0 l (vs.take i) s.t) op.dst x'=dM (dI i (pre op) 0 l (vs.take i) s.t) op.dst x):=by
    simp only [AS.mk.injEq] at rfl'
    refine ⟨?_,rfl'.1⟩
    have:=congrArg List.length rfl'.2
    rw [List.length_append] at this
    exact List.eq_nil_of_length_eq_zero (by omega)
   have hto:wk (dM (bA J 0 l vs s.t) op.dst x2) (bA (upd J i) 0 l vs s.t):=by
    rw [htoD _ rfl]
    have hL:=vM hmask
    have hset2:=hset.2
    unfold dM at hset2⊢
    cases hd:op.dst with
    |none=>exact jY _
    |some d=>
     rw [hd] at hset2
     dsimp only at hset2⊢
     rcases Nat.lt_or_ge d (bA J 0 l vs s.t).length with hdl|hle
     ·have hxx:x'=x:=by
       have h5:=congrArg (fun t=>t[d]?) hset2
       have hdl2:d < (dI i (pre op) 0 l (vs.take i) s.t).length:=hL▸hdl
       rw [List.getElem?_set_self hdl2,List.getElem?_set_self hdl2] at h5
       exact Option.some.inj h5
      refine vD d (jY _) ?_
      rcases hvx with e|e
      ·rw [e,←hxx];assumption
      ·exact .inr e
     ·rw [List.set_eq_of_length_le hle,List.set_eq_of_length_le hle]
      exact jY _
   have hobj:gU J fl b++new'=gU (upd J i) fl b:=by
    rw [hset.1,List.append_nil]
    refine tF fun p hp q hq=> ?_
    unfold upd;rw [if_neg (hnf p hp q hq)]
   rw [hobj]
   exact aFk hto
  ·right
   refine ⟨hg,fun B=> ?_⟩
   have:=hat B _ _ hmask hsub (by rw [nX,rU])
   have e:gU (upd J i) fl b=(gU J fl b).set p.at_ ob':=by
    refine List.ext_getElem? fun k=> ?_
    by_cases hk:∃q∈fl,q.at_=k
    ·obtain ⟨q,hq,rfl⟩:=hk
     rw [uH hnd hq (hs q hq)]
     by_cases hqp:q.at_=p.at_
     ·have hqp':q=p:=qQ (·.at_) fl hnd q p hq hp hqp
      subst hqp'
      rw [List.getElem?_set_self (by rw [nX];exact hs q hq),hpst]
      rw [aMe hJ' hJlen (by rw [←hpst];exact hst q hq) (by rw [←hpst];exact hsn q hq) hJi]
     ·rw [List.getElem?_set_ne (fun e=>hqp e.symm),uH hnd hq (hs q hq)]
      have:∀st:List (Nat×aA),(∀x∈st,x.1≠i)→stg (upd J i) (hole q.n) st=stg J (hole q.n) st:=by
       intro st
       induction st with
       |nil=>intros;rfl
       |cons x r ih=>
        intro h
        have hx:upd J i x.1=J x.1:=by unfold upd;rw [if_neg (h x (by simp))]
        simp only [stg];rw [hx,ih fun y hy=>h y (by simp [hy])]
      rw [this q.st fun x hx e=>hqp (huni q hq p hp x hx (i,ob') (by rw [hpst];simp) e)]
    ·have hk':∀q∈fl,q.at_≠k:=fun q hq e=>hk ⟨q,hq,e⟩
     rw [sG hk',List.getElem?_set_ne (hk' p hp),sG hk']
   rw [htoD _ rfl,e]
   exact this
 ·intro J hJ hJm hor
  left
  have hsz:l.toArray.size=l.length:=by simp
  have hall:∀i,i < l.length→J i=true:=by
   intro i hi
   rcases hor with h|⟨op,hop,_⟩
   ·exact h i (by omega)
   ·have:=(List.getElem?_eq_some_iff.1 hop).1;simp at this
  rw [hsz]
  have e3:(List.range l.length).map J=List.replicate l.length true:=by
   refine List.ext_getElem? fun i=> ?_
   rw [List.getElem?_map,List.getElem?_replicate]
   by_cases hi:i < l.length
   ·simp [hi,hall i hi]
   ·simp [hi]
  have e4:left (List.replicate l.length true)=0:=by
   unfold left
   rw [List.filter_eq_nil_iff.2]
   ·rfl
   ·intro x hx
    rw [(List.mem_replicate.1 hx).2];simp
  rw [e3,e4]
  simp only [gV]
  have e5:bA J 0 l vs s.t=bA (fun _=>true) 0 l vs s.t:=nU l 0 vs s.t fun k hk=>by rw [Nat.zero_add];exact hall k hk
  have e6:gU J fl b=gU (fun _=>true) fl b:=tF fun p hp q hq=>hall _ (hsq p hp q hq)
  rw [e5,e6];exact hK
end Go.Aw

namespace Go.Aw
theorem aKa {x:AV} (h:x.plainV=true):x≠ .undef:=by rintro rfl;simp [AV.plainV] at h
theorem aN8 {P:Program} [aB P] {dst:Option Tmp} {ty:TypeId} {pos:String} {after:Array Edge} {gd:Option (Nat×Bool)} {m:List AV} {view:List aA} {pl:Nat} {T:TypeId} {len:Nat} {parts:Array (Nat×Operand)} {e:TypeId} {n by':Nat} {xs:List AV}
  (he:elemA P T=some (e,n,by')) (hz:zeroSz P e n=true) (hord:kS parts.toList=true) (hlen:len=parts.toList.length) (hbig:len * n≤16777216) (hbig2:len≤16777216)
  (hxs:(parts.toList.map (·.2)).map (AS.ev ⟨m,view⟩)=xs) (hpl:∀x∈xs,x.plainV=true) (hgood:∀x∈xs,x.good=true∧x.cells.length=n) (hv:view[pl]? =some (hole n)):
  sJ P ⟨dst,.buildSlice T len parts,ty,pos,after,gd⟩ m view pl (.obj pl 1) ⟨true,false,n,1,xs.map AV.cells⟩:=by
 intro B t2 o2 hw hs _
 have e2:(parts.toList.map (·.2)).map (AS.ev ⟨t2,o2⟩)=xs:=by
  have key:∀(l:List Operand) (xs:List AV),l.map (AS.ev ⟨m,view⟩)=xs→(∀x∈xs,x.plainV=true)→l.map (AS.ev ⟨t2,o2⟩)=xs:=by
   intro l
   induction l with
   |nil=>intro xs h _;exact h
   |cons a l ih=>
    intro xs h hp
    cases xs with
    |nil=>cases h
    |cons x xs=>
     simp only [List.map_cons,List.cons.injEq] at h⊢
     exact ⟨sH hw h.1 (aKa (hp x (by simp))),ih xs h.2 fun y hy=>hp y (by simp [hy])⟩
  exact key _ _ hxs hpl
 have ho:o2[pl]? =some ⟨true,false,n,0,[]⟩:=hs pl _ hv rfl
 have:=aIl (P:=P) (B:=B) (s:=⟨t2,o2⟩) (dst:=dst) (ty:=ty) (pos:=pos) (after:=after) (gd:=gd) T len parts (i:=pl) he hz hord hlen hbig hbig2 (by rw [e2];exact hpl) (by rw [e2];exact hgood) ho
 rw [e2,put_eq] at this
 exact this
theorem aJi {P:Program} [aB P] {dst:Option Tmp} {ty:TypeId} {pos:String} {after:Array Edge} {gd:Option (Nat×Bool)} {m:List AV} {view:List aA} {pl v:Nat} {x y:Operand} {tS xT:TypeId} {e:TypeId} {n by':Nat} {ob:aA} {l2:List (List AV)}
  (he:elemA P tS=some (e,n,by')) (hz:zeroSz P e n=true) (hxt:appendable P xT=true) (hx:AS.ev ⟨m,view⟩ x= .obj pl v) (hv:view[pl]? =some ob) (hob:ob.live=true∧ob.ver=v∧ob.box=false∧ob.n=n)
  (hy:AS.ev ⟨m,view⟩ y= .sl .view n l2) (hbytes:(ob.els.length+l2.length) * by'≤140737488355328) (h63:ob.els.length+l2.length≤9223372036854775807):
  sJ P ⟨dst,.call {callee:= .builtin .append,args:=#[x,y],argTypes:=#[tS,xT]},ty,pos,after,gd⟩ m view pl (.obj pl (v+1)) {ob with ver:=v+1,els:=ob.els++l2}:=by
 intro B t2 o2 hw hs _
 have ho:o2[pl]? =some ob:=hs pl _ hv hob.1
 have hx2:AS.ev ⟨t2,o2⟩ x= .obj pl v:=sH hw hx (by simp)
 have hy2:AS.ev ⟨t2,o2⟩ y= .sl .view n l2:=sH hw hy (by simp)
 have hio:AV.isObj o2 pl v=some ob:=by simp [AV.isObj,ho,hob.1,hob.2.1]
 have:=xK (P:=P) (B:=B) (s:=⟨t2,o2⟩) (dst:=dst) (ty:=ty) (pos:=pos) (after:=after) (gd:=gd) tS xT x y (i:=pl) (ob:=ob) (s1:=⟨t2,o2⟩) (l2:=l2) (o2:=o2) he hz hxt
  (by rw [hx2];simp only [AS.target,hio,hob.2.2.1,hob.2.2.2,and_self,if_true]) (by rw [hy2];simp only [AS.source,if_true]) hbytes h63
 simp only [AS.appended,put_eq,hob.2.1] at this
 exact this
theorem pI {P:Program} [aB P] {dst:Option Tmp} {ty:TypeId} {pos:String} {after:Array Edge} {gd:Option (Nat×Bool)} {m:List AV} {view:List aA} {pl:Nat} {T:TypeId} {len:Nat} {parts:Array (Nat×Operand)} {e:TypeId} {n by':Nat} {xs:List AV} {els:List (List AV)}
  (he:elemA P T=some (e,n,by')) (hz:zeroSz P e n=true) (hord:kS parts.toList=true) (hlen:len=parts.toList.length) (hbig:len * n≤16777216) (hbig2:len≤16777216)
  (hxs:(parts.toList.map (·.2)).map (AS.ev ⟨m,view⟩)=xs) (hpl:∀x∈xs,x.plainV=true) (hgood:∀x∈xs,x.good=true∧x.cells.length=n) (hv:view[pl]? =some (hole n)) (hels:xs.map AV.cells=els):
  sJ P ⟨dst,.buildSlice T len parts,ty,pos,after,gd⟩ m view pl (.obj pl 1) ⟨true,false,n,1,els⟩:=by
 subst hels
 exact aN8 he hz hord hlen hbig hbig2 hxs hpl hgood hv
theorem kQ {P:Program} [aB P] {dst:Option Tmp} {ty:TypeId} {pos:String} {after:Array Edge} {gd:Option (Nat×Bool)} {m:List AV} {view:List aA} {pl v v':Nat} {x y:Operand} {tS xT:TypeId} {e:TypeId} {n by':Nat} {els els':List (List AV)} {l2:List (List AV)}
  (hx:AS.ev ⟨m,view⟩ x= .obj pl v) (hvv:v+1=v') (hv:view[pl]? =some ⟨true,false,n,v,els⟩) (hy:AS.ev ⟨m,view⟩ y= .sl .view n l2) (hels:els++l2=els')
  (he:elemA P tS=some (e,n,by')) (hz:zeroSz P e n=true) (hxt:appendable P xT=true) (hbytes:(els.length+l2.length) * by'≤140737488355328) (h63:els.length+l2.length≤9223372036854775807):
  sJ P ⟨dst,.call {callee:= .builtin .append,args:=#[x,y],argTypes:=#[tS,xT]},ty,pos,after,gd⟩ m view pl (.obj pl v') ⟨true,false,n,v',els'⟩:=by
 subst hels;subst hvv
 exact aJi he hz hxt hx hv ⟨rfl,rfl,rfl,rfl⟩ hy hbytes h63
def dw3 (P:Program) [aB P] (l:List Oper) (t:List AV) (b:List aA) (fl:List Plc) (K:AS→Prop):Nat→List Oper→List AV→Prop
 |_,[],vs=>K ⟨bA (fun _=>true) 0 l vs t,gU (fun _=>true) fl b⟩
 |j,op::r,vs=>∃x,wQ P l t b fl j op (vs++[x])∧dw3 P l t b fl K (j+1) r (vs++[x])
theorem aFv {P:Program} [aB P] {l:List Oper} {t:List AV} {b:List aA} {fl:List Plc} {j:Nat} {op:Oper} {vs vs':List AV} (h:wQ P l t b fl j op vs) (h1:vs.take j=vs'.take j) (h2:vs.getD j .undef=vs'.getD j .undef):wQ P l t b fl j op vs':=by
 unfold wQ at h⊢
 rw [h1,h2] at h;exact h
theorem aHd {P:Program} [aB P] {l:List Oper} {t:List AV} {b:List aA} {fl:List Plc} {K:AS→Prop}:∀(r:List Oper) (j:Nat) (vs:List AV),l.drop j=r→vs.length=j→dw3 P l t b fl K j r vs→
  ∃vf,vf.take j=vs∧(∀k op,j≤k→l[k]? =some op→wQ P l t b fl k op vf)∧K ⟨bA (fun _=>true) 0 l vf t,gU (fun _=>true) fl b⟩
 |[],j,vs,hd,hl,h=>by
  refine ⟨vs,List.take_of_length_le (by omega),fun k op hk hop=> ?_,h⟩
  have h1:=(List.getElem?_eq_some_iff.1 hop).1
  have h2:=congrArg List.length hd
  simp at h2;omega
 |op::r,j,vs,hd,hl,h=>by
  simp only [dw3] at h
  obtain ⟨x,hi,h⟩:=h
  have hd':l.drop (j+1)=r:=by rw [←List.drop_drop,hd];rfl
  have hop:l[j]? =some op:=by
   have:=congrArg (·[0]?) hd
   simpa using this
  obtain ⟨vf,h1,h2,h3⟩:=aHd r (j+1) (vs++[x]) hd' (by simp [hl]) h
  refine ⟨vf,?_,fun k op' hk hop'=> ?_,h3⟩
  ·have:=congrArg (List.take j) h1
   rw [List.take_take] at this
   rw [Nat.min_eq_left (by omega)] at this
   rw [this,List.take_append_of_le_length (by omega),List.take_of_length_le (by omega)]
  ·rcases Nat.lt_or_ge j k with hlt|hge
   ·exact h2 k op' hlt hop'
   ·obtain rfl:j=k:=by omega
    rw [hop] at hop'
    obtain rfl:=Option.some.inj hop'
    refine aFv hi ?_ ?_
    ·have:=congrArg (List.take j) h1
     rw [List.take_take,Nat.min_eq_left (by omega)] at this
     rw [this]
    ·have:=congrArg (·[j]?) h1
     simp only [List.getElem?_take] at this
     rw [if_pos (by omega)] at this
     rw [List.getD_eq_getElem?_getD,List.getD_eq_getElem?_getD,this]
@[irreducible] def hide {α:Type} (x:α):α:=x
theorem aAf {α:Type} (x:α):hide x=x:=by unfold hide;rfl
def jN (f:Nat→Bool):Code→Code
 | .region id ops true=>if f id then .region id (hide ops) true else .region id ops true
 | .region id ops false=>if f id then hide (.region id ops false) else .region id ops false
 | .seq x y=> .seq (jN f x) (jN f y)
 | .cond c x y=> .cond c (jN f x) (jN f y)
 | .block id c=> .block id (jN f c)
 | .loop c=> .loop (jN f c)
 |c=>c
theorem lM (f:Nat→Bool):∀c:Code,jN f c=c
 | .region id ops true=>by simp only [jN];split<;>simp [aAf]
 | .region id ops false=>by simp only [jN];split<;>simp [aAf]
 | .seq x y=>by simp [jN,lM f x,lM f y]
 | .cond c x y=>by simp [jN,lM f x,lM f y]
 | .block id c=>by simp [jN,lM f c]
 | .loop c=>by simp [jN,lM f c]
 | .skip=>rfl
 | .exit _=>rfl
 | .ret=>rfl
 | .rangeFunc _ _ _ _=>rfl
 | .scope _=>rfl
 | .label _=>rfl
 | .goto _=>rfl
 | .refuse _=>rfl
theorem aOi {P:Program} [aB P] (hm:P.follows .mixedOrders=true) {f:FuncId} {fn:Func} {c c':Code} (L:List Nat) (hf:P.funcs[f]? =some fn) {n:Nat} (hn:fn.ntmps=n) {args t:List AV} {rr:AV}
  (h:awp P c' ⟨t,[]⟩ (fun e s=>(e= .normal∨e= .ret)∧Hands P fn s rr)) (hb:fn.body=some c:=by rfl)
  (hc:jN (fun i=>L.contains i) c=c':=by simp [jN];rfl)
  (ht:args++List.replicate (n - args.length) .undef=t:=by
   simp only [List.length_cons,List.length_nil,Nat.reduceSub,Nat.reduceAdd,List.replicate_succ,List.replicate_zero,List.cons_append,List.nil_append];rfl):Ok P f args rr:=by
 subst ht;subst hn;subst hc;rw [lM] at h;exact aCm hm hf hb h
theorem aCl {P:Program} [aB P] {id:Nat} {l:List Oper} {s:AS} {Q:Exit→AS→Prop} (fl:List Plc) {b:List aA} (hb:s.o++(fl.map (·.n)).map (fun n=>⟨true,false,n,0,[]⟩)=b) (hfw:qO l=true) (hdst:distinct l=true) (hfl:aH9 l fl b.length=true)
  (hb0:gU (fun _=>false) fl b=b) (h:dw3 P l s.t b fl (Q .normal) 0 l []):awp P (.region id (hide l.toArray) true) s Q:=by
 rw [aAf]
 obtain ⟨vf,_,h2,h3⟩:=aHd l 0 [] rfl rfl h
 exact aH4 fl vf hfw hdst hfl (by rw [hb0,hb]) (fun j op hop=>h2 j op (Nat.zero_le _) hop) h3
section
variable {P : Program} [aB P] {l : List Oper} {t : List AV} {b : List aA} {fl : List Plc} {K : AS → Prop} {j : Nat} {op : Oper} {r : List Oper} {vs : List AV} {pr : List Nat} {m : List AV} {om : List aA}
theorem aJg {t':List AV} {o':List aA} (h1:bA (fun _=>true) 0 l vs t=t') (h2:gU (fun _=>true) fl b=o') (h:K ⟨t',o'⟩):dw3 P l t b fl K j [] vs:=by
 simp only [dw3,h1,h2];exact h
theorem aGk {vs':List AV} {c:Prop} (hc:c) (hv:vs=vs') (hd:dw3 P l t b fl K j r vs'):c∧dw3 P l t b fl K j r vs:=by
 subst hv;exact ⟨hc,hd⟩
theorem aG8 (hg:op.guard=none) (hnf:(fl.all fun p=>p.st.all fun q=>decide (q.1≠j))=true) (hpr:pre op=pr) (hlt:(pr.all fun e=>decide (e < j))=true) (hm:dI j pr 0 l vs t=m) (ho:lN j pr fl b=om) (hq:fB op.op ⟨m,om⟩=true) (hvl:vs.length=j) (hdl:(match op.dst with|some d=>decide (d < m.length)|none=>true)=true)
  (ha:Nx 2 P op ⟨m,om⟩ fun s'=>s'.o.length=om.length∧dw3 P l t b fl K (j+1) r (vs++[jZ op s'])):dw3 P l t b fl K j (op::r) vs:=by
 have hst:fT P l op ⟨m,om⟩ fun s'=>s'.o.length=om.length∧dw3 P l t b fl K (j+1) r (vs++[jZ op s']):=by
  unfold fT
  simp only [hg]
  unfold Nx at ha
  rcases ha with ha|ha
  ·exact .inl ha
  ·rcases ha with ha|ha
   ·exact absurd ha.1 (by decide)
   ·exact .inr ha.2
 obtain ⟨x,new,x2,⟨hlen,hK⟩,hx,_,hfin⟩:=nV (t2:=m) (o2:=om) hq (jY _) hst (fun i ob h _=>h) (.inl rfl)
 have hnew:new=[]:=by
  rw [List.length_append] at hlen
  exact List.eq_nil_of_length_eq_zero (by omega)
 subst hnew
 rw [List.append_nil] at hK
 simp only [dw3]
 refine ⟨_,?_,hK⟩
 have htk:(vs++[jZ op ⟨dM m op.dst x,om⟩]).take j=vs:=by rw [List.take_append_of_le_length (by omega),List.take_of_length_le (by omega)]
 have hgd:(vs++[jZ op ⟨dM m op.dst x,om⟩]).getD j .undef=jZ op ⟨dM m op.dst x,om⟩:=by
  rw [List.getD_eq_getElem?_getD,List.getElem?_append_right (by omega),hvl,Nat.sub_self];rfl
 refine ⟨fun e he=>by rw [hpr] at he;have:=List.all_eq_true.1 hlt e he;simpa using this,.inl ⟨fun p hp q hq=> ?_,?_,x2,?_,?_⟩⟩
 ·have:=List.all_eq_true.1 (List.all_eq_true.1 hnf p hp) q hq
  simpa using this
 ·rw [htk,hpr,hm,ho];exact hq
 ·rw [hgd]
  unfold jZ dM
  cases hd:op.dst with
  |none=>exact .inr rfl
  |some d=>
   rw [hd] at hdl
   have hdl:d < m.length:=by simpa using hdl
   dsimp only
   rw [List.getD_eq_getElem?_getD,List.getElem?_set_self hdl]
   exact hx
 ·rw [htk,hpr,hm,ho]
  exact hfin _ (by rw [List.append_nil])
theorem iN {v:AV} {ob':aA} (p:Plc) (s1 s2:List (Nat×aA)) (hg:op.guard=none) (hp:p∈fl) (hst:p.st=s1++(j,ob')::s2) (hpr:pre op=pr) (hlt:(pr.all fun e=>decide (e < j))=true) (hm:dI j pr 0 l vs t=m) (ho:lN j pr fl b=om) (hvl:vs.length=j)
  (ha:sJ P op m om p.at_ v ob') (h:dw3 P l t b fl K (j+1) r (vs++[v])):dw3 P l t b fl K j (op::r) vs:=by
 simp only [dw3]
 refine ⟨v,?_,h⟩
 have htk:(vs++[v]).take j=vs:=by rw [List.take_append_of_le_length (by omega),List.take_of_length_le (by omega)]
 have hgd:(vs++[v]).getD j .undef=v:=by
  rw [List.getD_eq_getElem?_getD,List.getElem?_append_right (by omega),hvl,Nat.sub_self];rfl
 refine ⟨fun e he=>by rw [hpr] at he;have:=List.all_eq_true.1 hlt e he;simpa using this,.inr ⟨hg,p,hp,s1,ob',s2,hst,?_⟩⟩
 rw [htk,hgd,hpr,hm,ho]
 exact ha
end
attribute [simp] gU lN stg vst hole aEw aH9 pV
end Go.Aw

namespace Go.Aw
def eU (P:Program) (fn:Func) (s:AS) (r:AV):Prop:=
 ∃ys,s.rvs P fn.results.toList=some ys∧bF s.o (single ys)=true∧(uses (single ys)).Nodup∧res s.o (single ys)=r
def wM (P:Program) (fn:Func) (s:AS) (r:AV):Prop:=
 ∃i ys,s.rvB P fn.results.toList=some (i,ys)∧bF s.o (single ys)=true∧(uses (single ys)).Nodup∧i∉uses (single ys)∧res s.o (single ys)=r
theorem gQ {P:Program} {fn:Func} {s:AS} {r:AV} (h:match s.rvB P fn.results.toList with|some (i,ys)=>bF s.o (single ys)=true∧(uses (single ys)).Nodup∧i∉uses (single ys)∧res s.o (single ys)=r|none=>False):wM P fn s r:=by
 unfold wM
 split at h
 ·rename_i i ys hx;exact ⟨i,ys,hx,h⟩
 ·exact h.elim
theorem aIe {P:Program} [aB P] (hm:P.follows .mixedOrders=true) {f:FuncId} {fn:Func} {c:Code} (hf:P.funcs[f]? =some fn) (hb:fn.body=some c) {args:List AV} {rr:AV} (hflat:kH args=true)
  (h:awp P c ⟨args++List.replicate (fn.ntmps - args.length) .undef,[]⟩ (fun e s=>(e= .normal∨e= .ret)∧(eU P fn s rr∨wM P fn s rr))):Ok P f args rr:=by
 intro w vs hg hargs
 have hl:=bD hargs
 have r0:aH ⟨w,fun _=>False,fun _=>False,fun _=>none,fun _=>none,hg,fun _ h=>h.elim,fun _ h=>h.elim⟩ ⟨args++List.replicate (fn.ntmps - args.length) .undef,[]⟩ [] {tmps:=vs.toArray++Array.replicate (fn.ntmps - vs.toArray.size) Go.undef,defers:=[]} w:=by
  refine ⟨rfl,rfl,fun i ob g hl=>by simp [look] at hl,fun i j oi oj gi gj b hl=>by simp [look] at hl,fun i ob g b hl=>by simp [look] at hl,?_,Nat.le_refl _,fun _ _ _=>rfl,fun b hb=>hb.elim,Same.rfl⟩
  have h1:Rc w (env ⟨w,fun _=>False,fun _=>False,fun _=>none,fun _=>none,hg,fun _ h=>h.elim,fun _ h=>h.elim⟩ [] [] w) args vs []:=tJ _ _ _ hflat hargs
  have h2:∀n,Rc w (env ⟨w,fun _=>False,fun _=>False,fun _=>none,fun _=>none,hg,fun _ h=>h.elim,fun _ h=>h.elim⟩ [] [] w) (List.replicate n .undef) (List.replicate n Go.undef) []:=by
   intro n
   induction n with
   |zero=>simp [Rc]
   |succ n ih=>simp only [List.replicate_succ,Rc];exact ⟨[],[],by simp [R],ih,rfl⟩
  have:=cO h1 (h2 (fn.ntmps - args.length))
  simpa [hl] using this
 refine calls_of_wp hf hb (wp_mono (gI hm c _ _ h _ _ ⟨_,r0⟩) fun e a w' he=> ?_)
 obtain ⟨s,⟨he,hhands⟩,G,r⟩:=he
 have key:∃(v:Value) (fp:List Nat),(results fn a.tmps).run P w'= .ok v w'∧R w' (env ⟨w,fun _=>False,fun _=>False,fun _=>none,fun _=>none,hg,fun _ h=>h.elim,fun _ h=>h.elim⟩ s.o G w').plain rr v fp∧fp.Nodup∧∀b∈fp,∃j ob g,look s.o G j ob g∧ob.live=true∧g.F b:=by
  rcases hhands with ⟨ys,hys,hok,hu,hres⟩|⟨i,ys,hys,hok,hu,hi,hres⟩
  ·obtain ⟨v,hrun,hR⟩:=jP r hys
   obtain ⟨fp,h1,h2,h3⟩:=pE r _ v hok hu hR
   rw [hres] at h1
   exact ⟨v,fp,hrun,h1,h2,fun b hb=>by obtain ⟨i,ob,g,_,h⟩:=h3 b hb;exact ⟨i,ob,g,h⟩⟩
  ·obtain ⟨v,fp0,ob,g,hlk,hlive,hrun,hR,hnd,hF⟩:=pK r hys
   obtain ⟨fp,h1,h2,h3⟩:=zO r hlk hlive _ v fp0 hok hu hi hnd hF hR
   rw [hres] at h1
   refine ⟨v,fp,hrun,h1,h2,fun b hb=> ?_⟩
   rcases h3 b hb with h|⟨j,ob',g',_,h⟩
   ·exact ⟨i,ob,g,hlk,hlive,hF b h⟩
   ·exact ⟨j,ob',g',h⟩
 obtain ⟨v,fp,hrun,h1,h2,h3⟩:=key
 have hfin:∃v' fp,Ending.returned v= .returned v'∧R w' (jI w.heap.size w' fp) rr v' fp∧fp.Nodup∧(∀b∈fp,w.heap.size≤b∧b < w'.heap.size)∧w.heap.size≤w'.heap.size∧(∀b,b < w.heap.size→w'.heap[b]? =w.heap[b]?)∧Same w w':=by
  refine ⟨v,fp,rfl,?_,h2,fun b hb=> ?_,r.size,fun b hb=>r.frame b hb (fun h=>h),r.same⟩
  ·have k:aN w' (env ⟨w,fun _=>False,fun _=>False,fun _=>none,fun _=>none,hg,fun _ h=>h.elim,fun _ h=>h.elim⟩ s.o G w').plain w' (jI w.heap.size w' fp):=
    ⟨fun b hb=>⟨⟨(hb.1.resolve_left (fun h=>h)).1,(hb.1.resolve_left (fun h=>h)).2,fun hm=>by
     obtain ⟨j,ob,g,hl,hlive,hF⟩:=h3 b hm
     exact hb.2 j ob g hl hlive hF⟩,rfl⟩,fun _ _=>trivial,fun _ _ _ h=>h.elim,fun _ _ _ h=>h.elim,fun _ _ _ _ _ h=>h.elim⟩
   exact fP k _ _ _ (fun _ _=>rfl) h1
  ·obtain ⟨i,ob,g,hl,hlive,hF⟩:=h3 b hb
   have:=r.fresh _ _ _ b hl hlive hF
   exact ⟨this.1.resolve_left (fun h=>h),this.2⟩
 rcases he with rfl|rfl
 ·exact ⟨r.defs,v,hrun,hfin⟩
 ·exact ⟨r.defs,v,hrun,hfin⟩
theorem rW {P:Program} [aB P] (hm:P.follows .mixedOrders=true) {f:FuncId} {fn:Func} {c:Code} (hf:P.funcs[f]? =some fn) {n:Nat} (hn:fn.ntmps=n) {args t:List AV} {rr:AV}
  (h:awp P c ⟨t,[]⟩ (fun e s=>(e= .normal∨e= .ret)∧(eU P fn s rr∨wM P fn s rr))) (hb:fn.body=some c:=by rfl) (hflat:kH args=true:=by simp [kH,fV])
  (ht:args++List.replicate (n - args.length) .undef=t:=by
   simp only [List.length_cons,List.length_nil,Nat.reduceSub,Nat.reduceAdd,List.replicate_succ,List.replicate_zero,List.cons_append,List.nil_append];rfl):Ok P f args rr:=by
 subst ht;subst hn;exact aIe hm hf hb hflat h
theorem Ok.vw {P:Program} [aB P] {f:FuncId} {args:List AV} {r:AV} (h:Ok P f args r):Ok P f args (rt (fun _=>some .view) false r):=by
 intro w vs hg hr
 refine Calls.mono (h w vs hg hr) fun e w' he=> ?_
 obtain ⟨v,fp,rfl,h1,h2,h3,h4,h5,h6⟩:=he
 have k:dU (fun _=>some .view) false (jI w.heap.size w' fp) (jI w.heap.size w' []) (· ∈fp):=
  {own:=fun g e=>by obtain rfl:=Option.some.inj e;exact ⟨by simp,fun b hb=>⟨(h3 b hb).1,(h3 b hb).2,by simp⟩⟩
   view:=fun g e=>by obtain rfl:=Option.some.inj e;exact ⟨rfl,fun b hb=>⟨hb.1,hb.2.1,by simp⟩⟩
   dep:=fun i g e=>by obtain rfl:=Option.some.inj e;exact ⟨by simp,.inl trivial,fun b hb=>hb.elim⟩
   hh:=fun h=>by cases h
   hl:=fun h=>by cases h}
 exact ⟨v,[],rfl,aOn k r v fp (fun _ h=>h) h1,by simp,by simp,h4,h5,h6⟩
theorem Ok.vwas {P:Program} [aB P] {f:FuncId} {args:List AV} {r r':AV} (h:Ok P f args r) (e:rt (fun _=>some .view) false r=r'):Ok P f args r':=e▸h.vw
end Go.Aw

namespace Go.Aw
def Fc (E:Env) (k:Nat) (os:List aA) (Gs:List CO):Prop:=
 ∀j ob g,look os Gs j ob g→E.H (k+j) ob.ver (.slice g.a ob.els.length g.cap)∧(ob.box=true→∀b f,g.a=some ⟨b,f,none⟩→E.L (k+j) ob.ver 0 0 (.pointer (some ⟨b,f,none⟩)))
theorem Fc.left {E:Env} {k:Nat} {o1 o2:List aA} {G1 G2:List CO} (h:Fc E k (o1++o2) (G1++G2)):Fc E k o1 G1:=fun j ob g hl=>h j ob g (fF hl)
theorem Fc.right {E:Env} {k:Nat} {o1 o2:List aA} {G1 G2:List CO} (hlen:G1.length=o1.length) (h:Fc E k (o1++o2) (G1++G2)):Fc E (k+o1.length) o2 G2:=fun j ob g hl=>by
 have:=h _ ob g (fO hlen hl)
 rwa [←Nat.add_assoc] at this
def Ent (w:World) (E:Env) (k:Nat) (os:List aA) (fp:List Nat) (pin:List CO→Prop) (done:Env→Prop):Prop:=
 ∃Gs:List CO,Gs.length=os.length∧
  (∀j ob g,look os Gs j ob g→ob.live=true∧(ob.box=false→ob.ver=1)∧(ob.box=true→ob.ver=2)∧∃f,f.Nodup∧(∀b,g.F b↔b∈f)∧(∀b∈f,b∈fp)∧
   ∀E',aN w E w E'→Fc E' k os Gs→gB w (E'.of ob.box) ob.n ob.els g.a g.cap f)∧
  (∀i j oi oj gi gj b,look os Gs i oi gi→look os Gs j oj gj→gi.F b→gj.F b→i=j)∧pin Gs∧
  ∀E':Env,aN w E w E'→Fc E' k os Gs→done E'
theorem Ent.append {w:World} {E:Env} {k:Nat} {o1 o2:List aA} {f1 f2:List Nat} {p1 p2 p:List CO→Prop} {d1 d2 d:Env→Prop} (h1:Ent w E k o1 f1 p1 d1) (h2:Ent w E (k+o1.length) o2 f2 p2 d2) (hn:(f1++f2).Nodup)
  (hp:∀G1 G2,G1.length=o1.length→p1 G1→p2 G2→p (G1++G2)) (hd:∀E',d1 E'→d2 E'→d E'):Ent w E k (o1++o2) (f1++f2) p d:=by
 obtain ⟨G1,l1,a1,b1,q1,c1⟩:=h1
 obtain ⟨G2,l2,a2,b2,q2,c2⟩:=h2
 have hdj:=(List.nodup_append.1 hn).2.2
 refine ⟨G1++G2,by simp [l1,l2],?_,?_,hp G1 G2 l1 q1 q2,fun E' hk hf=>hd E' (c1 E' hk hf.left) (c2 E' hk (hf.right l1))⟩
 ·intro j ob g hl
  rcases dZ l1 hl with ⟨_,h⟩|⟨_,h⟩
  ·obtain ⟨x,y,y',f,z1,z2,z3,z4⟩:=a1 _ _ _ h
   exact ⟨x,y,y',f,z1,z2,fun b hb=>List.mem_append_left _ (z3 b hb),fun E' hk hf=>z4 E' hk hf.left⟩
  ·obtain ⟨x,y,y',f,z1,z2,z3,z4⟩:=a2 _ _ _ h
   exact ⟨x,y,y',f,z1,z2,fun b hb=>List.mem_append_right _ (z3 b hb),fun E' hk hf=>z4 E' hk (hf.right l1)⟩
 ·intro i j oi oj gi gj b hi hj hfi hfj
  rcases dZ l1 hi with ⟨_,h⟩|⟨hi',h⟩<;>rcases dZ l1 hj with ⟨_,h'⟩|⟨hj',h'⟩
  ·exact b1 _ _ _ _ _ _ b h h' hfi hfj
  ·obtain ⟨_,_,_,f,_,z2,z3,_⟩:=a1 _ _ _ h
   obtain ⟨_,_,_,f',_,z2',z3',_⟩:=a2 _ _ _ h'
   exact absurd rfl (hdj b (z3 b ((z2 b).1 hfi)) b (z3' b ((z2' b).1 hfj)))
  ·obtain ⟨_,_,_,f,_,z2,z3,_⟩:=a2 _ _ _ h
   obtain ⟨_,_,_,f',_,z2',z3',_⟩:=a1 _ _ _ h'
   exact absurd rfl (hdj b (z3' b ((z2' b).1 hfj)) b (z3 b ((z2 b).1 hfi)))
  ·have:=b2 _ _ _ _ _ _ b h h' hfi hfj
   omega
def pinned (gat:Nat→Option CO):Nat→List GA→List Value→List Nat→Prop
 |_,[],[],[]=>True
 |k,.view _::gs,_::vs,_::caps=>pinned gat k gs vs caps
 |k,.give x::gs,_::vs,_::caps=>pinned gat (k+(aZ 1 k x).2.length) gs vs caps
 |k,.lend c _::gs,v::vs,cap::caps=>(∃g b f,gat k=some g∧g.a=some ⟨b,f,none⟩∧v= .pointer (some ⟨b,f,none⟩)∧g.cap=cap)∧pinned gat (k+(1+(cB 1 (k+1) c).2.length)) gs vs caps
 |_,_,_,_=>False
end Go.Aw

namespace Go.Aw
theorem aF2 {w:World} {E:Env} {code:List UInt8} {i h:Int} {a:Option Addr} {cap:Nat} {fp:List Nat} (ho:gB w E 3 [aD code i h] a cap fp):code.length≤maxLen:=by
 rcases ho.2 with h0|⟨b,off,C,e,fz,fps,ha,hb,hz,h1,h2,h3,hf,hr⟩
 ·exact absurd h0.1 (by simp)
 ·simp only [Rr,aD] at hr
  obtain ⟨cs,f1,f2,hn,hc,hone,hrc,hf2,hfe⟩:=hr
  cases cs with
  |nil=>simp at hn
  |cons v0 cs=>
   simp only [Rc,R] at hrc
   obtain ⟨g1,g2,r1,_⟩:=hrc
   rcases r1 with h|⟨_,_,_,hl,_⟩
   ·exact h.1.elim
   ·simpa [aO] using hl.1
def zC (P : Program) (fn : Func) (s : AS) (code : List UInt8) (r : AV) : Prop :=
  s.t.getD 0 .undef = .ptr 0 2 0 0 ∧ (∃ i h : Int, 0 ≤ i ∧ s.o[0]? = some ⟨true, true, 3, 2, [aD code i h]⟩) ∧ clean r = true ∧
  ((∃ ys, s.rvs P fn.results.toList = some ys ∧ bF s.o (single ys) = true ∧ (0 :: uses (single ys)).Nodup ∧ res s.o (single ys) = r) ∨
   (∃ j ys, s.rvB P fn.results.toList = some (j, ys) ∧ bF s.o (single ys) = true ∧ (0 :: uses (single ys)).Nodup ∧ j ∉ uses (single ys) ∧ j ≠ 0 ∧ res s.o (single ys) = r))
theorem aHx {P:Program} [aB P] (hm:P.follows .mixedOrders=true) {f:FuncId} {fn:Func} {c:Code} (hf:P.funcs[f]? =some fn) (hb:fn.body=some c) {xs:List AV} {Q:AV→Prop} (hflat:xs.all iW=true)
  (h:∀code i h,0≤i→code.length≤maxLen→awp P c ⟨.ptr 0 2 0 0::xs++List.replicate (fn.ntmps - (xs.length+1)) .undef,[⟨true,true,3,2,[aD code i h]⟩]⟩ (fun e s=>(e= .normal∨e= .ret)∧∃r,Q r∧zC P fn s code r)):OkC P f xs Q:=by
 intro w S b fo cap code vs hg hlow hbl hSb hS hcur hargs
 obtain ⟨i,h',hi,hown⟩:=hcur
 have hcl0:code.length≤maxLen:=aF2 hown
 have hl:=bD hargs
 generalize hB:(⟨w,fun x=>S x∨x=b,(· =b),fun _=>none,fun j=>if j=0 then some (.pointer (some ⟨b,fo,none⟩),cap) else none,hg,fun x e=>by rw [e];exact hlow,fun x e=> .inr e⟩:Base P)=B
 have hw0:B.w0=w:=by rw [←hB]
 have hA0:∀x,B.A0 x↔(S x∨x=b):=by intro x;rw [←hB]
 have hO0:∀x,B.O0 x↔x=b:=by intro x;rw [←hB]
 have hp0:B.p0 0=some (.pointer (some ⟨b,fo,none⟩),cap):=by rw [←hB];rfl
 have hh0:∀j,B.h0 j=none:=by intro j;rw [←hB]
 generalize hob:(⟨true,true,3,2,[aD code i h']⟩:aA)=ob
 generalize hgo:(⟨some ⟨b,fo,none⟩,cap,(· =b)⟩:CO)=go
 have hobp:ob.live=true∧ob.box=true∧ob.n=3∧ob.ver=2∧ob.els=[aD code i h']:=by rw [←hob];exact ⟨rfl,rfl,rfl,rfl,rfl⟩
 have hgop:go.a=some ⟨b,fo,none⟩∧go.cap=cap∧∀x,go.F x↔x=b:=by rw [←hgo];exact ⟨rfl,rfl,fun _=>Iff.rfl⟩
 have lk0:∀{j o2 g2},look [ob] [go] j o2 g2→j=0∧o2=ob∧g2=go:=by
  rintro j o2 g2 ⟨h1,h2⟩
  cases j with
  |zero=>simp at h1 h2;exact ⟨rfl,h1.symm,h2.symm⟩
  |succ j=>simp at h1
 have hlk:look [ob] [go] 0 ob go:=⟨rfl,rfl⟩
 have hEA:∀x,S x→(env B [ob] [go] w).A x:=fun x hx=>⟨.inl ((hA0 x).2 (.inl hx)),fun j o2 g2 h2 _ hF=>by
  obtain ⟨_,_,rfl⟩:=lk0 h2
  exact hSb (((hgop.2.2 x).1 hF)▸hx)⟩
 have r0:aH B ⟨.ptr 0 2 0 0::xs++List.replicate (fn.ntmps - (xs.length+1)) .undef,[ob]⟩ [go] {tmps:=(.pointer (some ⟨b,fo,none⟩)::vs).toArray++Array.replicate (fn.ntmps - (.pointer (some ⟨b,fo,none⟩)::vs).toArray.size) Go.undef,defers:=[]} w:=by
  refine ⟨rfl,rfl,?_,?_,?_,?_,by rw [hw0];exact Nat.le_refl _,fun x _ _=>by rw [hw0],?_,by rw [hw0];exact Same.rfl⟩
  ·intro j o2 g2 h2 _
   obtain ⟨_,rfl,rfl⟩:=lk0 h2
   refine ⟨[b],?_,by simp,by simp [hgop.2.2]⟩
   rw [hobp.2.1,hobp.2.2.1,hobp.2.2.2.2,hgop.1,hgop.2.1]
   simp only [Env.of,if_true]
   exact pG (E:=uE S) ⟨fun x hx=>⟨hEA x hx,rfl⟩,fun _ _=>trivial,fun _ _ _ h=>h.elim,fun _ _ _ h=>h.elim,fun _ _ _ _ _ h=>h.elim⟩ hown
  ·intro j1 j2 o1 o2 g1 g2 x a1 a2 _ _ _ _
   obtain ⟨rfl,_,_⟩:=lk0 a1
   obtain ⟨rfl,_,_⟩:=lk0 a2
   rfl
  ·intro j o2 g2 x h2 _ hF
   obtain ⟨_,rfl,rfl⟩:=lk0 h2
   have:=(hgop.2.2 x).1 hF
   exact ⟨.inl ((hO0 x).2 this),by rw [this];exact hbl⟩
  ·have h1:Rc w (env B [ob] [go] w) xs vs []:=aIt (E:=uE S) (E':=env B [ob] [go] w) ⟨fun x hx=>⟨hEA x hx,rfl⟩,fun _ _=>trivial,fun _ _ _ h=>h.elim,fun _ _ _ h=>h.elim,fun _ _ _ _ _ h=>h.elim⟩ hflat hargs
   have h2:∀n,Rc w (env B [ob] [go] w) (List.replicate n .undef) (List.replicate n Go.undef) []:=by
    intro n
    induction n with
    |zero=>simp [Rc]
    |succ n ih=>simp only [List.replicate_succ,Rc];exact ⟨[],[],by simp [R],ih,rfl⟩
   have h3:R w (env B [ob] [go] w) (.ptr 0 2 0 0) (.pointer (some ⟨b,fo,none⟩)) []:=by
    simp only [R]
    refine ⟨trivial,ob,go,hlk,by rw [hobp.2.2.2.1];exact Nat.le_refl _,fun _ _=>⟨b,fo,hgop.1,by simp⟩,fun _ _ _ _ x hx=> ?_⟩
    rw [hp0] at hx
    obtain rfl:=Option.some.inj hx
    exact ⟨rfl,fun _ _=>hgop.2.1⟩
   have:=cO (cO (f1:=[]) (f2:=[]) (show Rc w (env B [ob] [go] w) [.ptr 0 2 0 0] [.pointer (some ⟨b,fo,none⟩)] [] by simp only [Rc];exact ⟨[],[],h3,rfl,rfl⟩) h1) (h2 (fn.ntmps - (xs.length+1)))
   simpa [hl] using this
  ·intro x hx
   rw [hw0]
   rcases (hA0 x).1 hx with h|h
   ·exact hS x h
   ·rw [h];exact hbl
 refine calls_of_wp hf hb (wp_mono (gI hm c _ _ (hob▸h code i h' hi hcl0) _ _ ⟨_,r0⟩) fun e a w' he=> ?_)
 obtain ⟨s,⟨he,rv,hQ,ht,⟨i2,h2,hi2,ho2⟩,hcl,hhands⟩,G,r⟩:=he
 have hob2:AV.isObj s.o 0 2=some ⟨true,true,3,2,[aD code i2 h2]⟩:=by simp [AV.isObj,ho2]
 obtain ⟨g,b2,f2,hlk2,hlive2,hga2,hv2⟩:=r.ptr (x:= .tmp 0) ht hob2
 have hpin:=r.pin (x:= .tmp 0) ht hob2 hlk2 rfl rfl rfl rfl _ hp0
 rw [hv2] at hpin
 obtain ⟨hp1,hp2⟩:=hpin
 have hcap:g.cap=cap:=hp2 rfl rfl
 simp only [Value.pointer.injEq,Nat.zero_mul,Nat.add_zero,Option.some.injEq,Addr.mk.injEq,and_true] at hp1
 obtain ⟨rfl,rfl⟩:=hp1
 obtain ⟨fp0,hown2,_,hF2⟩:=r.ok 0 _ g hlk2 rfl
 simp only [Env.of,if_true] at hown2
 obtain ⟨b3,off3,ha3,rfl⟩:=tL hown2
 rw [hga2] at ha3
 simp only [Option.some.injEq,Addr.mk.injEq,and_true] at ha3
 obtain ⟨rfl,rfl⟩:=ha3
 have hbF:g.F b2:=hF2 b2 (by simp)
 have key:∃(v:Value) (fp:List Nat),(results fn a.tmps).run P w'= .ok v w'∧R w' (env B s.o G w').plain rv v fp∧fp.Nodup∧∀x∈fp,∃j ob g,j≠0∧look s.o G j ob g∧ob.live=true∧g.F x:=by
  rcases hhands with ⟨ys,hys,hok,hu,hres⟩|⟨j,ys,hys,hok,hu,hj,hj0,hres⟩
  ·obtain ⟨v,hrun,hR⟩:=jP r hys
   rw [List.nodup_cons] at hu
   obtain ⟨fp,h1,h2,h3⟩:=pE r _ v hok hu.2 hR
   rw [hres] at h1
   exact ⟨v,fp,hrun,h1,h2,fun x hx=>by obtain ⟨j,ob,g,hj,h⟩:=h3 x hx;exact ⟨j,ob,g,fun e=>hu.1 (e▸hj),h⟩⟩
  ·obtain ⟨v,fp0,ob1,g1,hlk1,hlive1,hrun,hR,hnd,hF⟩:=pK r hys
   rw [List.nodup_cons] at hu
   obtain ⟨fp,h1,h2,h3⟩:=zO r hlk1 hlive1 _ v fp0 hok hu.2 hj hnd hF hR
   rw [hres] at h1
   refine ⟨v,fp,hrun,h1,h2,fun x hx=> ?_⟩
   rcases h3 x hx with h|⟨j2,ob',g',hj2,h⟩
   ·exact ⟨j,ob1,g1,hj0,hlk1,hlive1,hF x h⟩
   ·exact ⟨j2,ob',g',fun e=>hu.1 (e▸hj2),h⟩
 obtain ⟨v,fp,hrun,k1,k2,k3⟩:=key
 have hfp:∀x∈fp,w.heap.size≤x∧x < w'.heap.size:=fun x hx=>by
  obtain ⟨j,ob1,g1,hj,hl1,hlive1,hF⟩:=k3 x hx
  have:=r.fresh _ _ _ x hl1 hlive1 hF
  refine ⟨?_,this.2⟩
  rcases this.1 with h|h
  ·have e:=(hO0 x).1 h
   exact absurd (r.apart _ _ _ _ _ _ x hl1 hlk2 hlive1 rfl hF (e▸hbF)) hj
  ·rwa [hw0] at h
 have hfin:∃r v' fp,Ending.returned v= .returned v'∧Q r∧R w' eZ r v' fp∧fp.Nodup∧(∀x∈fp,w.heap.size≤x∧x < w'.heap.size)∧w.heap.size≤w'.heap.size∧
   (∀x,x < w.heap.size→x≠b2→w'.heap[x]? =w.heap[x]?)∧Same w w'∧wN w' (fun x=>(S x∨(w.heap.size≤x∧x < w'.heap.size))∧x∉fp) b2 f2 cap code:=by
  refine ⟨rv,v,fp,rfl,hQ,sO (E:=(env B s.o G w').plain) (fun _ _=>trivial) rfl rfl rfl _ _ _ hcl k1,k2,hfp,by have:=r.size;rwa [hw0] at this,fun x hx hne=> ?_,by have:=r.same;rwa [hw0] at this,i2,h2,hi2,?_⟩
  ·have:=r.frame x (by rw [hw0];exact hx) (fun h=>hne ((hO0 x).1 h))
   rwa [hw0] at this
  ·rw [hga2,hcap] at hown2
   refine pG ⟨fun x hx=>⟨⟨?_,fun hm=> ?_⟩,rfl⟩,fun _ _=>trivial,fun _ _ _ h=>h.elim,fun _ _ _ h=>h.elim,fun _ _ _ _ _ h=>h.elim⟩ hown2
   ·rcases hx.1 with h|h
    ·rcases (hA0 x).1 h with h|h
     ·exact .inl h
     ·exact absurd (h▸hbF) (hx.2 _ _ _ hlk2 rfl)
    ·rw [hw0] at h;exact .inr h
   ·obtain ⟨j,ob1,g1,_,hl1,hlive1,hF⟩:=k3 x hm
    exact hx.2 _ _ _ hl1 hlive1 hF
 rcases he with rfl|rfl
 ·exact ⟨r.defs,v,hrun,hfin⟩
 ·exact ⟨r.defs,v,hrun,hfin⟩
theorem aHk {P:Program} [aB P] (hm:P.follows .mixedOrders=true) {f:FuncId} {fn:Func} {c:Code} (hf:P.funcs[f]? =some fn) (hb:fn.body=some c) {args:List AV} {Q:AV→Prop}
  (h:awp P c ⟨args++List.replicate (fn.ntmps - args.length) .undef,[]⟩ (fun e s=>(e= .normal∨e= .ret)∧∃r,Q r∧Hands P fn s r)):OkE P f args Q:=by
 intro w vs hg hargs
 have hl:=bD hargs
 have r0:aH ⟨w,fun b=>b < w.heap.size,fun _=>False,fun _=>none,fun _=>none,hg,fun _ h=>h.elim,fun _ h=>h.elim⟩ ⟨args++List.replicate (fn.ntmps - args.length) .undef,[]⟩ [] {tmps:=vs.toArray++Array.replicate (fn.ntmps - vs.toArray.size) Go.undef,defers:=[]} w:=by
  refine ⟨rfl,rfl,fun i ob g hl=>by simp [look] at hl,fun i j oi oj gi gj b hl=>by simp [look] at hl,fun i ob g b hl=>by simp [look] at hl,?_,Nat.le_refl _,fun _ _ _=>rfl,fun b hb=>hb,Same.rfl⟩
  have h1:Rc w (env ⟨w,fun b=>b < w.heap.size,fun _=>False,fun _=>none,fun _=>none,hg,fun _ h=>h.elim,fun _ h=>h.elim⟩ [] [] w) args vs []:=aY (w:=w) (w':=w) (E:=dD w) (E':=env ⟨w,fun b=>b < w.heap.size,fun _=>False,fun _=>none,fun _=>none,hg,fun _ h=>h.elim,fun _ h=>h.elim⟩ [] [] w) ⟨fun b hb=>⟨⟨.inl hb,fun i ob g hl=>by simp [look] at hl⟩,rfl⟩,fun _ _=>trivial,fun _ _ _ h=>by exact h.elim,fun _ _ _ h=>by exact h.elim,fun _ _ _ _ _ h=>by exact h.elim⟩ _ _ _ (by simp) hargs
  have h2:∀n,Rc w (env ⟨w,fun b=>b < w.heap.size,fun _=>False,fun _=>none,fun _=>none,hg,fun _ h=>h.elim,fun _ h=>h.elim⟩ [] [] w) (List.replicate n .undef) (List.replicate n Go.undef) []:=by
   intro n
   induction n with
   |zero=>simp [Rc]
   |succ n ih=>simp only [List.replicate_succ,Rc];exact ⟨[],[],by simp [R],ih,rfl⟩
  have:=cO h1 (h2 (fn.ntmps - args.length))
  simpa [hl] using this
 refine calls_of_wp hf hb (wp_mono (gI hm c _ _ h _ _ ⟨_,r0⟩) fun e a w' he=> ?_)
 obtain ⟨s,⟨he,rr,hQ,ys,hys,hok,hu,hres,hcl⟩,G,r⟩:=he
 obtain ⟨v,hrun,hR⟩:=jP r hys
 obtain ⟨fp,h1,h2,h3⟩:=pE r _ v hok hu hR
 rw [hres] at h1
 have hfin:∃r v' fp,Ending.returned v= .returned v'∧Q r∧R w' (jI w.heap.size w' fp) r v' fp∧fp.Nodup∧(∀b∈fp,w.heap.size≤b∧b < w'.heap.size)∧w.heap.size≤w'.heap.size∧(∀b,b < w.heap.size→w'.heap[b]? =w.heap[b]?)∧Same w w':=by
  refine ⟨rr,v,fp,rfl,hQ,aHv <| sO (E:=(env _ s.o G w').plain) (fun _ _=>trivial) rfl rfl rfl _ _ _ hcl h1,h2,fun b hb=> ?_,r.size,fun b hb=>r.frame b hb (fun h=>h),r.same⟩
  obtain ⟨i,ob,g,_,hl,hlive,hF⟩:=h3 b hb
  have:=r.fresh _ _ _ b hl hlive hF
  exact ⟨this.1.resolve_left (fun h=>h),this.2⟩
 rcases he with rfl|rfl
 ·exact ⟨r.defs,v,hrun,hfin⟩
 ·exact ⟨r.defs,v,hrun,hfin⟩
theorem jU {P:Program} [aB P] (hm:P.follows .mixedOrders=true) {f:FuncId} {fn:Func} {c:Code} (hf:P.funcs[f]? =some fn) {n:Nat} (hn:fn.ntmps=n) {xs t:List AV} {Q:AV→Prop}
  (h:∀code i h,0≤i→code.length≤maxLen→awp P c ⟨t,[⟨true,true,3,2,[aD code i h]⟩]⟩ (fun e s=>(e= .normal∨e= .ret)∧∃r,Q r∧zC P fn s code r)) (hb:fn.body=some c:=by rfl) (hflat:xs.all iW=true:=by simp [iW,kH,fV])
  (ht: .ptr 0 2 0 0::xs++List.replicate (n - (xs.length+1)) .undef=t:=by
   simp only [List.length_cons,List.length_nil,Nat.reduceSub,Nat.reduceAdd,List.replicate_succ,List.replicate_zero,List.cons_append,List.nil_append];rfl):OkC P f xs Q:=by
 subst ht;subst hn;exact aHx hm hf hb hflat h
theorem aOu {P:Program} [aB P] (hm:P.follows .mixedOrders=true) {f:FuncId} {fn:Func} {c:Code} (hf:P.funcs[f]? =some fn) {n:Nat} (hn:fn.ntmps=n) {args t:List AV} {Q:AV→Prop}
  (h:awp P c ⟨t,[]⟩ (fun e s=>(e= .normal∨e= .ret)∧∃r,Q r∧Hands P fn s r)) (hb:fn.body=some c:=by rfl)
  (ht:args++List.replicate (n - args.length) .undef=t:=by
   simp only [List.length_cons,List.length_nil,Nat.reduceSub,Nat.reduceAdd,List.replicate_succ,List.replicate_zero,List.cons_append,List.nil_append];rfl):OkE P f args Q:=by
 subst ht;subst hn;exact aHk hm hf hb h
section
variable {P : Program} [aB P] {dst : Option Tmp} {ty : TypeId} {pos : String} {after : Array Edge} {gd : Option (Nat × Bool)} {s : AS} {X : AS → Prop} {f : Operand} {tys : Array TypeId} {g : FuncId}
theorem cu {x:Operand} {zs:List Operand} {xs:List AV} {Q:AV→Prop} {k ver:Nat} {code:List UInt8} {i h:Int} (hc:OkC P g xs Q)
  (hn:∀rv i' h',Q rv→0≤i'→X (s.drew dst k ver code i' h' rv)) (hf:s.ev f= .fn g []:=by rfl) (hx:s.ev x= .ptr k ver 0 0:=by first|rfl|(simp;done))
  (ho:AV.isObj s.o k ver=some ⟨true,true,3,ver,[aD code i h]⟩:=by first|rfl|(simp [aD];done)) (h0:0≤i:=by first|assumption|omega) (hxs:zs.map s.ev=xs:=by first|rfl|(simp;done)) (hfl:xs.all iW=true:=by first|rfl|(simp [iW,kH,fV];done)) (hcal:callable P g=true:=by simp):
  Nx 1 P ⟨dst,.call {callee:= .value f,args:=⟨x::zs⟩,argTypes:=tys},ty,pos,after,gd⟩ s X:=by
 refine aEk ?_
 unfold rR
 simp only [hf]
 exact ⟨hcal,.inl ⟨x,zs,k,ver,code,i,h,Q,rfl,hx,ho,h0,by rw [hxs];exact hfl,by rw [hxs];exact hc,hn⟩⟩
theorem cn {x:Operand} {code:List UInt8} (hc:aAs P g) (hn:∀i h,0≤i→X (s.newCur dst code i h)) (hf:s.ev f= .fn g []:=by rfl) (hx:s.ev x= .sl .view 1 (aO code):=by first|rfl|(simp;done)) (hcal:callable P g=true:=by simp):
  Nx 1 P ⟨dst,.call {callee:= .value f,args:=#[x],argTypes:=tys},ty,pos,after,gd⟩ s X:=by
 refine aEk ?_
 unfold rR
 simp only [hf]
 exact ⟨hcal,.inr (.inl ⟨x,code,rfl,hx,hc,hn⟩)⟩
theorem ce {ys:List Operand} {xs:List AV} {Q:AV→Prop} (hc:OkE P g xs Q) (hn:∀rv,Q rv→X (s.called dst rv)) (hf:s.ev f= .fn g []:=by rfl) (hxs:iC s.o (ys.map s.ev)=xs:=by first|rfl|(simp;done)) (hcal:callable P g=true:=by simp):
  Nx 1 P ⟨dst,.call {callee:= .value f,args:=⟨ys⟩,argTypes:=tys},ty,pos,after,gd⟩ s X:=by
 refine aEk ?_
 unfold rR
 simp only [hf]
 exact ⟨hcal,.inr (.inr ⟨Q,by rw [hxs];exact hc,hn⟩)⟩
end
theorem dB {P:Program} {fn:Func} {s:AS} {code:List UInt8} {Q:AV→Prop} {ys:List AV} {i h:Int} (hys:s.rvs P fn.results.toList=some ys) (ht:s.t.getD 0 .undef= .ptr 0 2 0 0) (ho:s.o[0]? =some ⟨true,true,3,2,[aD code i h]⟩) (hi:0≤i)
  (hok:bF s.o (single ys)=true) (hu:(0::uses (single ys)).Nodup) (hcl:clean (res s.o (single ys))=true) (hq:Q (res s.o (single ys))):∃r,Q r∧zC P fn s code r:=
 ⟨_,hq,ht,⟨i,h,hi,ho⟩,hcl,.inl ⟨ys,hys,hok,hu,rfl⟩⟩
def aI9 (P:Program) (fn:Func) (s:AS) (code:List UInt8):Prop:=∃(k ver:Nat) (i h:Int),s.rvs P fn.results.toList=some [.ptr k ver 0 0]∧AV.isObj s.o k ver=some ⟨true,true,3,ver,[aD code i h]⟩∧0≤i
theorem aHp {P:Program} [aB P] (hm:P.follows .mixedOrders=true) {f:FuncId} {fn:Func} {c:Code} (hf:P.funcs[f]? =some fn) (hb:fn.body=some c)
  (h:∀code:List UInt8,code.length≤maxLen→awp P c ⟨[.sl .view 1 (aO code)]++List.replicate (fn.ntmps - 1) .undef,[]⟩ (fun e s=>(e= .normal∨e= .ret)∧aI9 P fn s code)):aAs P f:=by
 intro w S v code hg hS hv
 have hl0:code.length≤maxLen:=by
  simp only [R] at hv
  rcases hv with h|⟨_,_,_,hl,_⟩
  ·exact h.1.elim
  ·simpa [aO] using hl.1
 have r0:aH ⟨w,S,fun _=>False,fun _=>none,fun _=>none,hg,fun _ h=>h.elim,fun _ h=>h.elim⟩ ⟨[.sl .view 1 (aO code)]++List.replicate (fn.ntmps - 1) .undef,[]⟩ [] {tmps:=#[v]++Array.replicate (fn.ntmps - (#[v]:Array Value).size) Go.undef,defers:=[]} w:=by
  refine ⟨rfl,rfl,fun i ob g hl=>by simp [look] at hl,fun i j oi oj gi gj b hl=>by simp [look] at hl,fun i ob g b hl=>by simp [look] at hl,?_,Nat.le_refl _,fun _ _ _=>rfl,fun b hb=>hS b hb,Same.rfl⟩
  have h1:Rc w (env ⟨w,S,fun _=>False,fun _=>none,fun _=>none,hg,fun _ h=>h.elim,fun _ h=>h.elim⟩ [] [] w) [.sl .view 1 (aO code)] [v] []:=by
   simp only [Rc]
   exact ⟨[],[],wK (E:=uE S) ⟨fun b hb=>⟨⟨.inl hb,fun i ob g hl=>by simp [look] at hl⟩,rfl⟩,fun _ _=>trivial,fun _ _ _ h=>h.elim,fun _ _ _ h=>h.elim,fun _ _ _ _ _ h=>h.elim⟩ hv,rfl,rfl⟩
  have h2:∀n,Rc w (env ⟨w,S,fun _=>False,fun _=>none,fun _=>none,hg,fun _ h=>h.elim,fun _ h=>h.elim⟩ [] [] w) (List.replicate n .undef) (List.replicate n Go.undef) []:=by
   intro n
   induction n with
   |zero=>simp [Rc]
   |succ n ih=>simp only [List.replicate_succ,Rc];exact ⟨[],[],by simp [R],ih,rfl⟩
  have:=cO h1 (h2 (fn.ntmps - 1))
  simpa using this
 refine calls_of_wp hf hb (wp_mono (gI hm c _ _ (h code hl0) _ _ ⟨_,r0⟩) fun e a w' he=> ?_)
 obtain ⟨s,⟨he,k,ver,i,h',hys,hob,hi⟩,G,r⟩:=he
 obtain ⟨u,hrun,hR⟩:=jP r hys
 simp only [single] at hR
 have hR2:=hR
 simp only [R] at hR2
 obtain ⟨_,ob,g,hl,_,hpt,_⟩:=hR2
 obtain ⟨h1,h2,h3⟩:=dA hob
 obtain rfl:=Option.some.inj (hl.1.symm.trans h1)
 obtain ⟨b,fo,hga,hu⟩:=hpt rfl rfl
 simp only [Nat.zero_mul,Nat.add_zero] at hu
 obtain ⟨fp0,hown,_,hF⟩:=r.ok k _ g hl rfl
 simp only [Env.of,if_true] at hown
 obtain ⟨b3,off3,ha3,rfl⟩:=tL hown
 rw [hga] at ha3
 simp only [Option.some.injEq,Addr.mk.injEq,and_true] at ha3
 obtain ⟨rfl,rfl⟩:=ha3
 have hbF:g.F b:=hF b (by simp)
 have hfr:=r.fresh _ _ _ b hl rfl hbF
 have hfin:∃b fo cap,Ending.returned u= .returned (.pointer (some ⟨b,fo,none⟩))∧w.heap.size≤b∧b < w'.heap.size∧wN w' (fun x=>(S x∨(w.heap.size≤x∧x < w'.heap.size))∧x≠b) b fo cap code∧
   w.heap.size≤w'.heap.size∧(∀b,b < w.heap.size→w'.heap[b]? =w.heap[b]?)∧Same w w':=by
  refine ⟨b,fo,g.cap,by rw [hu],hfr.1.resolve_left (fun h=>h),hfr.2,⟨i,h',hi,?_⟩,r.size,fun x hx=>r.frame x hx (fun h=>h),r.same⟩
  rw [hga] at hown
  exact pG (E:=env ⟨w,S,fun _=>False,fun _=>none,fun _=>none,hg,fun _ h=>h.elim,fun _ h=>h.elim⟩ s.o G w') ⟨fun x hx=>⟨⟨hx.1,fun e=>hx.2 _ _ _ hl rfl (e▸hbF)⟩,rfl⟩,fun _ _=>trivial,fun _ _ _ h=>h.elim,fun _ _ _ h=>h.elim,fun _ _ _ _ _ h=>h.elim⟩ hown
 rcases he with rfl|rfl
 ·exact ⟨r.defs,u,hrun,hfin⟩
 ·exact ⟨r.defs,u,hrun,hfin⟩
theorem dL {P:Program} [aB P] {o:Oper} {s s':AS} {X:AS→Prop} {i ver:Nat} {ob:aA} (hob:AV.isObj s.o i ver=some ob) (hbx:ob.box=false) (h:Nx 1 P o s' X) (e:s.frozen i ver ob=s'):Nx 1 P o s X:=by
 subst e
 exact sw (fun _ _ B a w hr=>aG6 hob hbx hr) h
end Go.Aw

namespace Go.Aw
theorem aP4 {P:Program} [aB P] (hm:P.follows .mixedOrders=true) {f:FuncId} {fn:Func} {c:Code} (hf:P.funcs[f]? =some fn) {n:Nat} (hn:fn.ntmps=n) {t:List AV}
  (h:∀code:List UInt8,code.length≤maxLen→awp P c ⟨.sl .view 1 (aO code)::t,[]⟩ (fun e s=>(e= .normal∨e= .ret)∧aI9 P fn s code)) (hb:fn.body=some c:=by rfl)
  (ht:List.replicate (n - 1) AV.undef=t:=by
   simp only [Nat.reduceSub,Nat.reduceAdd,List.replicate_succ,List.replicate_zero];rfl):aAs P f:=by
 subst ht;subst hn;exact aHp hm hf hb h
theorem aKl {P:Program} {fn:Func} {s:AS} {Q:AV→Prop} {ys:List AV} (hys:s.rvs P fn.results.toList=some ys) (hok:bF s.o (single ys)=true) (hu:(uses (single ys)).Nodup) (hcl:clean (res s.o (single ys))=true) (hq:Q (res s.o (single ys))):∃r,Q r∧Hands P fn s r:=
 ⟨_,hq,ys,hys,hok,hu,rfl,hcl⟩
end Go.Aw
