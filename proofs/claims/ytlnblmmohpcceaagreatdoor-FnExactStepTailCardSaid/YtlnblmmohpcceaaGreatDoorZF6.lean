/- Proved here: steps towards the statement of this claim. No condition. -/
import Derived.Test.YtlnblmmohpcceaaGreatDoorZF3
import Derived.ProofKit
set_option linter.all false
namespace Go.Aw
open List
def pre (op:Oper):List Nat:=(op.after.toList.filter fun e=>Region.binds .any e).map (·.on)
def gy (l:List Oper) (J:Nat->Bool):Prop:=∀j op,l[j]? =some op->J j=true->∀e∈pre op,J e=true
theorem ZF {op:Oper} {n:Nat}:n∈pre op↔∃e∈op.after.toList,Region.binds .any e=true/\e.on=n:=by
 simp [pre,mem_map,mem_filter,and_assoc]
def oH (P:Program) [aD P] (l:List Oper) (op:Oper) (s:AS) (K:AS->Prop):Prop:=
 match op.guard with
 |none=>nZ P op s K\/Po P op s K
 |some (j,want)=>match oG l s j want with
  | .bool b=>(b=want->nZ P op s K\/Po P op s K)/\(b≠want->K (s.put op.dst (.gV [])))
  |_=>False
def lN (l:List Oper) (j:Nat):List Nat:=match l[j]? with|some o=>pre o|none=>[]
def reach (l:List Oper):Nat->List Nat->List Nat
 |0,acc=>acc
 |k+1,acc=>reach l k (if k∈acc then acc++lN l k else acc)
def BL (l:List Oper) (m:Nat):Bool:=
 decide (m<=l.length)&&((range (l.length - m)).all (fun d=>(lN l (m+d)).all (fun e=>decide (e < m+d))&&(d == 0 || decide (m+d - 1∈lN l (m+d))))&&
 (decide (l.length<=m) || (range m).all fun j=>decide (j∈reach l m (lN l m))))
theorem Jb {l:List Oper} {J:Nat->Bool} (hc:gy l J):∀(k:Nat) (acc:List Nat),(∀e∈acc,J e=true)->∀e∈reach l k acc,J e=true
 |0,acc,h=>h
 |k+1,acc,h=>by
  simp only [reach]
  refine Jb hc k _ ?_
  split
  ·rename_i hk
   intro e he
   rcases mem_append.1 he with he|he
   ·exact h e he
   ·unfold lN at he
    split at he
    ·rename_i o ho;exact hc k o ho (h k hk) e he
    ·cases he
  ·exact h
theorem UZ {l:List Oper} {m j:Nat} {op:Oper} (ht:BL l m=true) (hm:m<=j) (hj:l[j]? =some op):(∀e∈pre op,e < j)/\(m < j->j - 1∈pre op):=by
 unfold BL at ht
 simp only [Bool.and_eq_true,all_eq_true] at ht
 have hlt:=(List.getElem?_eq_some_iff.1 hj).1
 have h:=ht.2.1 (j - m) (by simp;omega)
 have e:m+(j - m)=j:=by omega
 have hp:lN l j=pre op:=by simp [lN,hj]
 rw [e,hp] at h
 simp only [all_eq_true,decide_eq_true_eq,Bool.or_eq_true,beq_iff_eq] at h
 exact ⟨h.1,fun hlt=>h.2.resolve_left (by omega)⟩
theorem F7 {l:List Oper} {m:Nat} {op:Oper} {J:Nat->Bool} (ht:BL l m=true) (hm:l[m]? =some op) (hc:gy l J) (hp:∀e∈pre op,J e=true):∀j,j < m->J j=true:=by
 intro j hj
 unfold BL at ht
 simp only [Bool.and_eq_true,Bool.or_eq_true,decide_eq_true_eq] at ht
 have hlt:=(List.getElem?_eq_some_iff.1 hm).1
 have h:=ht.2.2.resolve_left (by omega)
 rw [all_eq_true] at h
 have:=h j (by simpa using hj)
 simp only [decide_eq_true_eq] at this
 have hpa:lN l m=pre op:=by simp [lN,hm]
 rw [hpa] at this
 exact Jb hc m _ hp j this
theorem Va {listed:Array Bool} {i:Nat} (h:i < listed.size):(!listed.getD i true)= !listed.getD i false:=by
 rw [Array.getD_eq_getD_getElem?,Array.getD_eq_getD_getElem?,Array.getElem?_eq_getElem h];rfl
theorem mem_ready {ops:Array Oper} {listed:Array Bool} (hl:listed.size=ops.size) {i:Nat}:i∈Region.ready .any ops listed↔∃op,ops.toList[i]? =some op/\listed.getD i false=false/\∀e∈pre op,listed.getD e false=true:=by
 unfold Region.ready
 rw [mem_filter]
 constructor
 ·rintro ⟨hi1,hi2⟩
  have CF:i < ops.size:=by simpa using hi1
  have hop:ops[i]? =some ops[i]:=by simp [CF]
  simp only [Bool.and_eq_true,hop,Option.map_some,Option.getD_some] at hi2
  obtain ⟨h1,h2⟩:=hi2
  rw [Array.all_eq_true'] at h2
  refine ⟨ops[i],by simp [CF],?_,fun n hn=> ?_⟩
  ·rw [Va (by omega)] at h1;simpa using h1
  ·obtain ⟨e,he,hb,rfl⟩:=ZF.1 hn
   have:=h2 e (by simpa using he)
   simpa [hb] using this
 ·rintro ⟨op,hop,h1,h2⟩
  have CF:i < ops.size:=by have:=(List.getElem?_eq_some_iff.1 hop).1;simpa using this
  have hop':ops[i]? =some op:=by simpa using hop
  refine ⟨by simpa using CF,?_⟩
  simp only [Bool.and_eq_true,hop',Option.map_some,Option.getD_some]
  refine ⟨by rw [Va (by omega)];simp [h1],?_⟩
  rw [Array.all_eq_true']
  intro e he
  cases hb:Region.binds .any e with
  |false=>simp
  |true=>
   have:=h2 e.on (ZF.2 ⟨e,by simpa using he,hb,rfl⟩)
   simp [this]
theorem SF {P:Program} [aD P] {B:fG P} {l:List Oper} {op:Oper} {s:AS} {K:AS->Prop} (h:oH P l op s K) {a:Act} {w:World} (r:Rel B s a w) {Kc:Act->World->Prop} {Q:Exit->Act->World->Prop} (hk:∀a' w' s',K s'->Rel B s' a' w'->Kc a' w'):
  if Region.wanted op (yielded l.toArray a.tmps) then op.wp P a w Kc Q\/(op.asks P a w/\LetsOut Q) else Kc (a.put op.dst undef) w:=by
 unfold oH at h
 split at h
 ·rename_i hg
  rw [if_pos (by simp [Region.wanted,hg])]
  obtain ⟨s',h',hst⟩:=h.elim (vD (B:=B)) (Ml (B:=B))
  exact .inl (hst a w _ Q r fun a' w' r'=>hk a' w' s' h' r')
 ·rename_i j want hg
  split at h
  ·rename_i b hb
   obtain ⟨G,r'⟩:=r
   have hy:=MB r' hb
   by_cases hbw:b=want
   ·rw [if_pos (by simp [Region.wanted,hg,hy,hbw])]
    obtain ⟨s',h',hst⟩:=(h.1 hbw).elim (vD (B:=B)) (Ml (B:=B))
    exact .inl (hst a w _ Q ⟨G,r'⟩ fun a' w' r'=>hk a' w' s' h' r')
   ·rw [if_neg (by simp [Region.wanted,hg,hy,hbw])]
    exact hk _ _ _ (h.2 hbw) ⟨G,r'.put op.dst (XC _ _)⟩
  ·exact h.elim
theorem QO {P:Program} [aD P] {B:fG P} {all r:List Oper} {o:Oper} {s:AS} {K:AS->Prop} (h:kW P all (o::r) s K) {a:Act} {w:World} (rl:Rel B s a w) {Kc:Act->World->Prop} {Q:Exit->Act->World->Prop} (hk:∀a' w' s',kW P all r s' K->Rel B s' a' w'->Kc a' w'):
  if Region.wanted o (yielded all.toArray a.tmps) then o.wp P a w Kc Q\/(o.asks P a w/\LetsOut Q) else Kc (a.put o.dst undef) w:=by
 simp only [kW] at h
 split at h
 ·rename_i hg
  rw [if_pos (by simp [Region.wanted,hg])]
  have:∃s',kW P all r s' K/\Step P B o s s':=by
   rcases h with h|h
   ·exact vD (B:=B) h
   ·exact Mx (B:=B) h
  obtain ⟨s',h',hst⟩:=this
  exact .inl (hst a w _ Q rl fun a' w' r'=>hk a' w' s' h' r')
 ·rename_i j want hg
  split at h
  ·rename_i b hb
   obtain ⟨G,r'⟩:=rl
   have hy:=MB r' hb
   by_cases hbw:b=want
   ·rw [if_pos (by simp [Region.wanted,hg,hy,hbw])]
    obtain ⟨s',h',hst⟩:=vD (B:=B) (h.1 hbw)
    exact .inl (hst a w _ Q ⟨G,r'⟩ fun a' w' r'=>hk a' w' s' h' r')
   ·rw [if_neg (by simp [Region.wanted,hg,hy,hbw])]
    exact hk _ _ _ (h.2 hbw) ⟨G,r'.put o.dst (XC _ _)⟩
  ·exact h.elim
theorem Na {listed:Array Bool} {i:Nat} (h:i < listed.size) (j:Nat):(listed.setIfInBounds i true).getD j false=qL (fun j=>listed.getD j false) i j:=by
 unfold qL
 simp only [Array.getD_eq_getD_getElem?,Array.getElem?_setIfInBounds]
 by_cases hj:j=i
 ·subst hj;simp [h]
 ·simp [hj,Ne.symm hj]
theorem ZG {P:Program} [aD P] {B:fG P} {ops:Array Oper} {m:Nat} {K:AS->Prop} {Q:Exit->Act->World->Prop} (ht:BL ops.toList m=true) (hk:∀a' w' s',K s'->Rel B s' a' w'->Q .normal a' w'):
  ∀(n k:Nat) (listed:Array Bool) (s:AS) (a:Act) (w:World),listed.size=ops.size->k+n=ops.size->m<=k->(∀j,listed.getD j false=decide (j < k))->kW P ops.toList (ops.toList.drop k) s K->Rel B s a w->wpAny P .any ops Q n listed a w
 |0,k,listed,s,a,w,hl,hn,hm,hj,h,r=>by
  have hdr:ops.toList.drop k=[]:=drop_of_length_le (by simp;omega)
  rw [hdr] at h
  simp only [kW] at h
  refine ⟨?_,hk _ _ _ h r⟩
  rw [eq_nil_iff_forall_not_mem]
  intro i hi
  obtain ⟨op,hop,h1,_⟩:=(mem_ready hl).1 hi
  have CF:=(List.getElem?_eq_some_iff.1 hop).1
  rw [hj] at h1
  simp at h1 CF
  omega
 |n+1,k,listed,s,a,w,hl,hn,hm,hj,h,r=>by
  have hkl:k < ops.toList.length:=by simp;omega
  have hop:ops.toList[k]? =some ops.toList[k]:=getElem?_eq_getElem hkl
  have hpre:=UZ ht hm hop
  constructor
  ·intro hnil
   exfalso
   have:k∈Region.ready .any ops listed:=(mem_ready hl).2 ⟨_,hop,by rw [hj];simp,fun e he=>by rw [hj];simpa using hpre.1 e he⟩
   rw [hnil] at this;cases this
  ·intro i hi
   obtain ⟨op,aGr,h1,h2⟩:=(mem_ready hl).1 hi
   rw [hj] at h1
   have hki:k<=i:=by simpa using h1
   have hik:i=k:=by
    rcases Nat.lt_or_ge k i with hlt|hge
    ·exfalso
     have:=h2 _ ((UZ ht (by omega) aGr).2 (by omega))
     rw [hj] at this
     simp at this
     omega
    ·omega
   subst hik
   rw [hop] at aGr
   obtain rfl:=Option.some.inj aGr
   rw [drop_eq_getElem_cons hkl] at h
   unfold wpOp
   have F8:ops[i]? =some ops.toList[i]:=by simpa using hop
   rw [F8]
   have:=QO h r (Kc:=wpAny P .any ops Q n (listed.setIfInBounds i true)) (Q:=Q) (fun a' w' s' h' r'=>
    ZG ht hk n (i+1) _ s' a' w' (by simpa using hl) (by omega) (by omega) (fun j=>by
     rw [Na (by simpa [hl] using hkl)]
     unfold qL
     by_cases hji:j=i
     ·subst hji;simp
     ·rw [if_neg hji]
      show listed.getD j false=_
      rw [hj]
      have:(j < i)↔(j < i+1):=by omega
      simp [this]) h' r')
   simpa using this
def SG (l:List Oper) (d:List Bool):List Nat:=(range l.length).filter fun i=> !d.getD i false&&(lN l i).all fun e=>d.getD e false
mutual
def wJ (P:Program) [aD P] (l:List Oper) (K:AS->Prop):Nat->List Bool->AS->Prop
 |0,_,s=>K s
 |n+1,d,s=>rZ P l K n d s (SG l d)
def rZ (P:Program) [aD P] (l:List Oper) (K:AS->Prop):Nat->List Bool->AS->List Nat->Prop
 |_,_,_,[]=>True
 |n,d,s,i::r=>(∃op,l[i]? =some op/\kW P l [op] s fun s'=>wJ P l K n (d.set i true) s')/\rZ P l K n d s r
end
theorem Jc {P:Program} [aD P] {l:List Oper} {K:AS->Prop} {n:Nat} {d:List Bool} {s:AS}:∀{r:List Nat},rZ P l K n d s r->∀i∈r,∃op,l[i]? =some op/\kW P l [op] s fun s'=>wJ P l K n (d.set i true) s'
 |[],_,i,hi=>by cases hi
 |j::r,h,i,hi=>by
  simp only [rZ] at h
  rcases mem_cons.1 hi with rfl|hi
  ·exact h.1
  ·exact Jc h.2 i hi
def Kg (l:List Oper):Bool:=(range l.length).all fun i=>(lN l i).all fun e=>decide (e < i)
theorem Jd {l:List Oper} (h:Kg l=true) {i:Nat} {op:Oper} (hi:l[i]? =some op):∀e∈pre op,e < i:=by
 unfold Kg at h
 rw [all_eq_true] at h
 have:=h i (by simp;exact (List.getElem?_eq_some_iff.1 hi).1)
 have hp:lN l i=pre op:=by simp [lN,hi]
 rw [hp,all_eq_true] at this
 exact fun e he=>by simpa using this e he
theorem ZH {P:Program} [aD P] {B:fG P} {ops:Array Oper} {K:AS->Prop} {Q:Exit->Act->World->Prop} (hfw:Kg ops.toList=true) (hk:∀a' w' s',K s'->Rel B s' a' w'->Q .normal a' w'):
  ∀(n:Nat) (d:List Bool) (listed:Array Bool) (s:AS) (a:Act) (w:World),listed.toList=d->listed.size=ops.size->left d=n->wJ P ops.toList K n d s->Rel B s a w->wpAny P .any ops Q n listed a w
 |0,d,listed,s,a,w,hd,hl,hn,h,r=>by
  simp only [wJ] at h
  refine ⟨?_,hk _ _ _ h r⟩
  rw [eq_nil_iff_forall_not_mem]
  intro i hi
  obtain ⟨op,hop,h1,_⟩:=(mem_ready hl).1 hi
  have CF:=(List.getElem?_eq_some_iff.1 hop).1
  have hi':i < listed.size:=by simp at CF;omega
  have:=IP (l:=d) hn (i:=i) (b:=listed[i]) (by rw [<-hd];simp [hi'])
  rw [Array.getD_eq_getD_getElem?,Array.getElem?_eq_getElem hi'] at h1
  simp [this] at h1
 |n+1,d,listed,s,a,w,hd,hl,hn,h,r=>by
  have hget:∀j,d.getD j false=listed.getD j false:=fun j=>by rw [<-hd,getD_eq_getElem?_getD,Array.getD_eq_getD_getElem?];simp
  simp only [wJ] at h
  constructor
  ·intro hnil
   exfalso
   obtain ⟨i,h1,h2⟩:=MH (l:=d) (by omega)
   have hi:i < listed.size:=by have:=(List.getElem?_eq_some_iff.1 h1).1;rw [<-hd] at this;simpa using this
   have CF:i < ops.toList.length:=by simp;omega
   have hop:=getElem?_eq_getElem CF
   have:i∈Region.ready .any ops listed:=(mem_ready hl).2 ⟨_,hop,by rw [<-hget,getD_eq_getElem?_getD,h1];rfl,fun e he=>by
    have:=h2 e (Jd hfw hop e he)
    rw [<-hget,getD_eq_getElem?_getD,this];rfl⟩
   rw [hnil] at this;cases this
  ·intro i hi
   obtain ⟨op,hop,h1,h2⟩:=(mem_ready hl).1 hi
   have CF:=(List.getElem?_eq_some_iff.1 hop).1
   have hir:i∈SG ops.toList d:=by
    unfold SG
    rw [mem_filter]
    refine ⟨by simpa using CF,?_⟩
    have hp:lN ops.toList i=pre op:=by simp [lN,hop]
    rw [hget,h1,hp]
    simp only [Bool.not_false,Bool.true_and,all_eq_true]
    exact fun e he=>by rw [hget];exact h2 e he
   obtain ⟨op',hop',hst⟩:=Jc h i hir
   rw [hop] at hop'
   obtain rfl:=Option.some.inj hop'
   unfold wpOp
   have F8:ops[i]? =some op:=by simpa using hop
   rw [F8]
   have hil:i < listed.size:=by simp at CF;omega
   have:=QO hst r (Kc:=wpAny P .any ops Q n (listed.setIfInBounds i true)) (Q:=Q) (fun a' w' s' h' r'=>by
    simp only [kW] at h'
    refine ZH hfw hk n (d.set i true) _ s' a' w' (by rw [Array.toList_setIfInBounds,hd]) (by simpa using hl) ?_ h' r'
    have hdi:d[i]? =some false:=by
     have h3:=hget i
     rw [h1,getD_eq_getElem?_getD] at h3
     have hid:i < d.length:=by rw [<-hd];simpa using hil
     rw [getElem?_eq_getElem hid] at h3⊢
     simpa using h3
    have:=Gu hdi
    omega)
   simpa using this
def uJ (l:List Oper) (m:Nat):Bool:=(range l.length).all fun i=>decide (i<=m) || (lN l i).any fun e=>decide (m<=e)
theorem Fs:∀(L:List Bool) (q:Nat),(∀j,L.getD j false=decide (j < q))->q<=L.length->left L+q=L.length
 |[],q,_,h=>by simp at h;simp [left,h]
 |b::L,q,hq,hle=>by
  have hb:=hq 0
  simp [getD] at hb
  rw [AZ]
  cases q with
  |zero=>
   have hb':b=false:=by simpa using hb
   have:=Fs L 0 (fun j=>by have:=hq (j+1);simpa [getD] using this) (by omega)
   rw [hb',if_neg (by simp)]
   simp;omega
  |succ q=>
   have hb':b=true:=by simpa using hb
   have:=Fs L q (fun j=>by have:=hq (j+1);simpa [getD] using this) (by simpa using hle)
   rw [hb',if_pos rfl]
   simp;omega
theorem Vb {P:Program} [aD P] {ops:Array Oper} {s:AS} {K:AS->Prop} (m:Nat) (aT6:m<=ops.size) (hfw:Kg ops.toList=true) (hrest:uJ ops.toList m=true) (S:(Nat->Bool)->AS) (h0:lS s (S fun _=>false))
  (hs:∀i op,i < m->ops.toList[i]? =some op->∀J:Nat->Bool,gy ops.toList J->(∀k,m<=k->J k=false)->J i=false->(∀e∈pre op,J e=true)->(oH P ops.toList op (S J) fun s'=>lS s' (S (qL J i)))\/(op.guard=none/\∀B,Step P B op (S J) (S (qL J i))))
  (he:∀J:Nat->Bool,gy ops.toList J->(∀k,m<=k->J k=false)->((∀i,i < m->J i=true)\/∃op,ops.toList[m]? =some op/\∀e∈pre op,J e=true)->wJ P ops.toList K (left ((range ops.size).map J)) ((range ops.size).map J) (S J)\/(BL ops.toList m=true/\(∀i,i < m->J i=true)/\kW P ops.toList (ops.toList.drop m) (S J) K)):XE P ops s K:=by
 intro B a w Q hr hk
 have toJ:∀listed:Array Bool,listed.size=ops.size->listed.toList=(range ops.size).map fun i=>listed.getD i false:=by
  intro listed hl
  refine ext_getElem? fun i=> ?_
  rw [getElem?_map]
  by_cases hi:i < ops.size
  ·have hil:i < listed.size:=by omega
   simp [hi,hil]
  ·have hil:listed.toList.length<=i:=by simp;omega
   rw [getElem?_eq_none hil];simp [hi]
 have fin:∀(fuel:Nat) (listed:Array Bool) (a:Act) (w:World),listed.size=ops.size->left listed.toList=fuel->(∀k,m<=k->listed.getD k false=false)->gy ops.toList (fun i=>listed.getD i false)->Rel B (S fun i=>listed.getD i false) a w->
   ((∀i,i < m->listed.getD i false=true)\/∃op,ops.toList[m]? =some op/\∀e∈pre op,listed.getD e false=true)->wpAny P .any ops Q fuel listed a w:=by
  intro fuel listed a w hl hz hhi hc r hor
  rcases he _ hc hhi hor with this|⟨ht,hall,h⟩
  ·rw [<-toJ listed hl] at this
   exact ZH hfw hk fuel listed.toList listed _ a w rfl hl hz (hz▸this) r
  ·have hJ:(fun i=>listed.getD i false)=fun k=>decide (k < m):=by
    funext i
    by_cases hi:i < m
    ·rw [hall i hi];simp [hi]
    ·rw [hhi i (by omega)];simp [hi]
   have hcount:m+fuel=ops.size:=by
    have:=Fs listed.toList m (fun j=>by have:=congrFun hJ j;simpa [Array.getD_eq_getD_getElem?,getD_eq_getElem?_getD] using this) (by simp;omega)
    rw [hz] at this
    simp at this;omega
   exact ZG ht hk fuel m listed _ a w hl hcount (Nat.le_refl _) (fun j=>congrFun hJ j) h r
 have key:∀(fuel:Nat) (listed:Array Bool) (a:Act) (w:World),listed.size=ops.size->left listed.toList=fuel->(∀k,m<=k->listed.getD k false=false)->gy ops.toList (fun i=>listed.getD i false)->Rel B (S fun i=>listed.getD i false) a w->wpAny P .any ops Q fuel listed a w:=by
  intro fuel
  induction fuel with
  |zero=>
   intro listed a w hl hz hhi hc r
   refine fin 0 listed a w hl hz hhi hc r (.inl fun i hi=> ?_)
   have hi':i < listed.size:=by omega
   have:=IP hz (i:=i) (b:=listed[i]) (by simp [hi'])
   simp [Array.getD,hi',this]
  |succ fuel ih=>
   intro listed a w hl hz hhi hc r
   by_cases hall:(∀i,i < m->listed.getD i false=true)\/∃op,ops.toList[m]? =some op/\∀e∈pre op,listed.getD e false=true
   ·exact fin _ listed a w hl hz hhi hc r hall
   ·have hlow:∀i∈Region.ready .any ops listed,i < m:=by
     intro i hi
     obtain ⟨op,hop,h1,h2⟩:=(mem_ready hl).1 hi
     rcases Nat.lt_or_ge i m with h|h
     ·exact h
     ·exfalso
      rcases Nat.lt_or_ge m i with hlt|hge
      ·unfold uJ at hrest
       rw [all_eq_true] at hrest
       have:=hrest i (by simp;have:=(List.getElem?_eq_some_iff.1 hop).1;simpa using this)
       have hp:lN ops.toList i=pre op:=by simp [lN,hop]
       simp only [hp,Bool.or_eq_true,decide_eq_true_eq,any_eq_true] at this
       rcases this with h'|⟨e,he,hme⟩
       ·omega
       ·have h3:=h2 e he
        rw [hhi e hme] at h3;cases h3
      ·have:i=m:=by omega
       subst this
       exact hall (.inr ⟨op,hop,h2⟩)
    constructor
    ·intro hnil
     exfalso
     obtain ⟨i,h1,h2⟩:=MH (l:=listed.toList) (by omega)
     have hi:i < listed.size:=by have:=(List.getElem?_eq_some_iff.1 h1).1;simpa using this
     have hgi:listed.getD i false=false:=by
      have:listed[i]? =some false:=by simpa using h1
      rw [Array.getD_eq_getD_getElem?,this];rfl
     have aPp:i < ops.toList.length:=by simp;omega
     have hop:=getElem?_eq_getElem aPp
     have:i∈Region.ready .any ops listed:=(mem_ready hl).2 ⟨_,hop,hgi,fun e he=>by
      have:=h2 e (Jd hfw hop e he)
      have h3:listed[e]? =some true:=by simpa using this
      rw [Array.getD_eq_getD_getElem?,h3];rfl⟩
     rw [hnil] at this
     cases this
    ·intro i hi
     have him:=hlow i hi
     obtain ⟨op,hop,h1,h2⟩:=(mem_ready hl).1 hi
     have CF:i < ops.size:=by omega
     have hil:i < listed.size:=by omega
     have hst:=hs i op him hop (fun j=>listed.getD j false) hc hhi h1 h2
     unfold wpOp
     have F8:ops[i]? =some op:=by simpa using hop
     rw [F8]
     have hu:(fun j=>(listed.setIfInBounds i true).getD j false)=qL (fun j=>listed.getD j false) i:=funext fun j=>Na hil j
     have hnext:∀a' w',Rel B (S (qL (fun j=>listed.getD j false) i)) a' w'->wpAny P .any ops Q fuel (listed.setIfInBounds i true) a' w':=fun a' w' r'=>by
      refine ih _ _ _ (by simpa using hl) ?_ ?_ ?_ ?_
      ·have h1':listed.toList[i]? =some false:=by
        have:listed[i]? =some listed[i]:=by simp [hil]
        rw [Array.getD_eq_getD_getElem?,this] at h1
        simp only [Option.getD_some] at h1
        rw [h1] at this
        simpa using this
       have:=Gu h1'
       rw [Array.toList_setIfInBounds]
       omega
      ·intro k hk
       rw [Na hil]
       unfold qL
       rw [if_neg (by omega)]
       exact hhi k hk
      ·rw [hu]
       intro j op' hj hJ e he
       by_cases hji:j=i
       ·subst hji
        rw [hop] at hj
        obtain rfl:=Option.some.inj hj
        unfold qL
        split
        ·rfl
        ·exact h2 e he
       ·unfold qL at hJ⊢
        rw [if_neg hji] at hJ
        split
        ·rfl
        ·exact hc j op' hj hJ e he
      ·rw [hu]
       exact r'
     rcases hst with hst|⟨hg,hst⟩
     ·have:=SF hst r (Kc:=wpAny P .any ops Q fuel (listed.setIfInBounds i true)) (Q:=Q) (fun a' w' s' hw r'=>hnext a' w' (hw B a' w' r'))
      simpa using this
     ·have:Region.wanted op (yielded ops a.tmps)=true:=by simp [Region.wanted,hg]
      simp only [this,if_true]
      exact .inl (hst B a w _ Q r hnext)
 obtain ⟨G,r⟩:=hr
 have r2:Rel B s a {w with drawn:=w.drawn+1}:=⟨G,{len:=r.len,defs:=r.defs,ok:=fun i ob g hl hlive=>(r.ok i ob g hl hlive).keeps (w':={w with drawn:=w.drawn+1}) ⟨fun b h=>⟨h,rfl⟩,fun _ h=>h,fun _ _ _ h=>⟨h,rfl⟩,fun _ _ _ h=>h,fun _ _ _ _ _ h=>h⟩ (fun _ _=>rfl),apart:=r.apart,fresh:=r.fresh,tmps:=dF (w:=w) (E:=env B s.o G w) (w':={w with drawn:=w.drawn+1}) (E':=env B s.o G {w with drawn:=w.drawn+1}) ⟨fun b h=>⟨h,rfl⟩,fun _ h=>h,fun _ _ _ h=>⟨h,rfl⟩,fun _ _ _ h=>h,fun _ _ _ _ _ h=>h⟩ _ _ _ (by simp) r.tmps,size:=r.size,frame:=r.frame,base:=r.base,same:=r.same.trans ⟨rfl,rfl,rfl⟩}⟩
 have hJ:(fun i=>(Array.replicate ops.size false).getD i false)=fun _=>false:=by
  funext i
  simp only [Array.getD_eq_getD_getElem?,Array.getElem?_replicate]
  split<;>rfl
 refine key _ _ _ _ (by simp) (by simp [left]) (fun k _=>congrFun hJ k) (by rw [hJ];intro j op _ h;cases h) ?_
 rw [hJ]
 exact h0 _ _ _ r2
def jz (m:Nat) (z:List Nat) (k:Nat):Bool:=decide (k < m)&& !z.contains k
def qG (l:List Oper) (m:Nat):List Nat:=(range m).filter fun j=> !(reach l m (lN l m)).contains j
def Bc (F:List Nat->Prop):List Nat->List Nat->Prop
 |acc,[]=>F acc
 |acc,z::r=>Bc F acc r/\Bc F (z::acc) r
theorem Nb {F:List Nat->Prop} (p:Nat->Bool):∀(z acc:List Nat),Bc F acc z->F ((z.filter p).reverse++acc)
 |[],acc,h=>by simpa [Bc] using h
 |x::z,acc,h=>by
  simp only [Bc] at h
  by_cases hx:p x=true
  ·have:=Nb p z (x::acc) h.2
   rw [filter_cons_of_pos hx]
   simpa using this
  ·have:=Nb p z acc h.1
   rw [filter_cons_of_neg hx]
   exact this
theorem aKq {l:List Oper} {m:Nat} {op:Oper} {J:Nat->Bool} (hm:l[m]? =some op) (hc:gy l J) (hhi:∀k,m<=k->J k=false) (hp:∀e∈pre op,J e=true):J=jz m ((qG l m).filter fun k=> !J k).reverse:=by
 funext k
 unfold jz
 by_cases hk:k < m
 ·simp only [hk,decide_true,Bool.true_and]
  cases hJ:J k with
  |true=>
   have:((qG l m).filter fun k=> !J k).reverse.contains k=false:=by
    rw [contains_eq_mem];simp [hJ]
   rw [this];rfl
  |false=>
   have hs:k∈qG l m:=by
    unfold qG
    rw [mem_filter]
    refine ⟨by simpa using hk,?_⟩
    have hpa:lN l m=pre op:=by simp [lN,hm]
    rw [hpa]
    cases hcn:(reach l m (pre op)).contains k with
    |false=>rfl
    |true=>
     rw [contains_eq_mem] at hcn
     have:=Jb hc m (pre op) hp k (by simpa using hcn)
     rw [hJ] at this;cases this
   have:((qG l m).filter fun k=> !J k).reverse.contains k=true:=by
    rw [contains_eq_mem];simp [hJ,hs]
   rw [this];rfl
 ·rw [hhi k (by omega)];simp [hk]
def F9 (i:Nat) (pr:List Nat) (j:Nat) (op:Oper) (v:AV) (t:List AV):List AV:=
 match op.dst with
 |none=>t
 |some d=>if j=i then t else if j∈pr then t.set d v else if i∈pre op then t else t.set d .undef
def mR (i:Nat) (pr:List Nat):Nat->List Oper->List AV->List AV->List AV
 |_,[],_,t=>t
 |j,op::r,vs,t=>mR i pr (j+1) r vs.tail (F9 i pr j op (vs.headD .undef) t)
def xL (J:Nat->Bool) (j:Nat) (op:Oper) (v:AV) (t:List AV):List AV:=
 match op.dst with
 |none=>t
 |some d=>if J j=true then t.set d v else t
def gI (J:Nat->Bool):Nat->List Oper->List AV->List AV->List AV
 |_,[],_,t=>t
 |j,op::r,vs,t=>gI J (j+1) r vs.tail (xL J j op (vs.headD .undef) t)
theorem Nc:∀{t2 t:List AV} (d:Nat) {v2 v:AV},wk t2 t->(v=v2\/v= .undef)->wk (t2.set d v2) (t.set d v)
 |[],[],_,_,_,_,_=>trivial
 |[],_::_,_,_,_,h,_=>h.elim
 |_::_,[],_,_,_,h,_=>h.elim
 |_::_,_::_,0,_,_,h,hv=>⟨hv,h.2⟩
 |_::_,_::_,d+1,_,_,h,hv=>⟨h.1,Nc d h.2 hv⟩
theorem GH:∀{t2 t:List AV} (d:Nat),wk t2 t->wk t2 (t.set d .undef)
 |[],[],_,_=>trivial
 |[],_::_,_,h=>h.elim
 |_::_,[],_,h=>h.elim
 |_::_,_::_,0,h=>⟨.inr rfl,h.2⟩
 |_::_,_::_,d+1,h=>⟨h.1,GH d h.2⟩
theorem Je:∀{t2 t:List AV},wk t2 t->t2.length=t.length
 |[],[],_=>rfl
 |[],_::_,h=>h.elim
 |_::_,[],h=>h.elim
 |_::_,_::_,h=>by simp [Je h.2]
theorem kK:∀t:List AV,wk t t
 |[]=>trivial
 |_::xs=>⟨.inl rfl,kK xs⟩
theorem Jf {J:Nat->Bool} {i:Nat} {pr:List Nat} (hi:J i=false) (hpr:∀e∈pr,J e=true/\e < i):
  ∀(l:List Oper) (j:Nat) (vs vs':List AV) (t2 t:List AV),(∀k op,l[k]? =some op->J (j+k)=true->∀e∈pre op,J e=true)->(∀k,j+k < i->vs'.getD k .undef=vs.getD k .undef)->wk t2 t->wk (gI J j l vs t2) (mR i pr j l vs' t)
 |[],_,_,_,_,_,_,_,h=>h
 |op::r,j,vs,vs',t2,t,hc,hv,h=>by
  simp only [gI,mR]
  refine Jf hi hpr r (j+1) vs.tail vs'.tail _ _ (fun k q hk hJ=>hc (k+1) q (by simpa using hk) (by rwa [show j+(k+1)=j+1+k by omega])) (fun k hk=>by
   have:=hv (k+1) (by omega)
   cases vs<;>cases vs'<;>simpa [getD] using this) ?_
  have h0:j < i->vs'.headD .undef=vs.headD .undef:=fun hj=>by
   have:=hv 0 (by omega)
   cases vs<;>cases vs'<;>simpa [getD] using this
  unfold xL F9
  cases hd:op.dst with
  |none=>exact h
  |some d=>
   dsimp only
   by_cases hji:j=i
   ·subst hji;rw [if_pos rfl,if_neg (by rw [hi];simp)];exact h
   ·rw [if_neg hji]
    by_cases hp:j∈pr
    ·rw [if_pos hp,if_pos (hpr j hp).1]
     exact Nc d h (.inl (h0 (hpr j hp).2))
    ·rw [if_neg hp]
     by_cases hq:i∈pre op
     ·rw [if_pos hq]
      have:J j≠true:=fun hJ=>by
       have:=hc 0 op rfl hJ i hq
       rw [hi] at this;cases this
      rw [if_neg this];exact h
     ·rw [if_neg hq]
      split
      ·exact Nc d h (.inr rfl)
      ·exact GH d h
theorem QP {J:Nat->Bool} (d:Nat) (x:AV):∀(l:List Oper) (j:Nat) (vs:List AV) (t:List AV),(∀op∈l,op.dst≠some d)->gI J j l vs (t.set d x)=(gI J j l vs t).set d x
 |[],_,_,_,_=>rfl
 |op::r,j,vs,t,h=>by
  simp only [gI]
  rw [<-QP d x r (j+1) vs.tail _ (fun q hq=>h q (by simp [hq]))]
  congr 1
  unfold xL
  cases hd:op.dst with
  |none=>rfl
  |some d'=>
   dsimp only
   have:d'≠d:=fun e=>h op (by simp) (by rw [hd,e])
   split
   ·rw [set_comm _ _ (Ne.symm this)]
   ·rfl
theorem Ab {J J':Nat->Bool}:∀(l:List Oper) (j:Nat) (vs:List AV) (t:List AV),(∀k,k < l.length->J (j+k)=J' (j+k))->gI J j l vs t=gI J' j l vs t
 |[],_,_,_,_=>rfl
 |op::r,j,vs,t,h=>by
  simp only [gI]
  have h0:J j=J' j:=h 0 (by simp)
  have:xL J j op (vs.headD .undef) t=xL J' j op (vs.headD .undef) t:=by unfold xL;rw [h0]
  rw [this]
  exact Ab r (j+1) vs.tail _ fun k hk=>by
   have:=h (k+1) (by simpa using hk)
   rwa [show j+(k+1)=j+1+k by omega] at this
def distinct:List Oper->Bool
 |[]=>true
 |op::r=>(match op.dst with
  |none=>true
  |some d=>r.all fun q=>decide (q.dst≠some d))&&distinct r
theorem DX {J:Nat->Bool}:∀(l:List Oper) (j i:Nat) (op:Oper) (vs:List AV) (t:List AV) (v:AV),distinct l=true->l[i]? =some op->J (j+i)=false->vs.getD i .undef=v->
  gI (qL J (j+i)) j l vs t=pY (gI J j l vs t) op.dst v
 |[],_,_,_,_,_,_,_,h,_,_=>by simp at h
 |q::r,j,0,op,vs,t,v,hd,h,hJ,hv=>by
  simp at h;subst h
  simp only [gI,Nat.add_zero] at hJ⊢
  rw [Ab (J:=qL J j) (J':=J) r (j+1) vs.tail _ (fun k _=>by unfold qL;rw [if_neg (by omega)])]
  have h1:xL (qL J j) j q (vs.headD .undef) t=pY t q.dst v:=by
   have hv':vs.headD .undef=v:=by cases vs<;>simpa [getD] using hv
   unfold xL pY
   rw [hv']
   cases q.dst with
   |none=>rfl
   |some d=>simp [qL]
  have h2:xL J j q (vs.headD .undef) t=t:=by
   unfold xL
   cases q.dst with
   |none=>rfl
   |some d=>simp [hJ]
  rw [h1,h2]
  cases hq:q.dst with
  |none=>rfl
  |some d=>
   simp only [distinct,hq,Bool.and_eq_true,all_eq_true,decide_eq_true_eq] at hd
   exact QP d v r (j+1) vs.tail t hd.1
 |q::r,j,i+1,op,vs,t,v,hd,h,hJ,hv=>by
  simp only [distinct,Bool.and_eq_true] at hd
  simp only [gI]
  have h1:xL (qL J (j+(i+1))) j q (vs.headD .undef) t=xL J j q (vs.headD .undef) t:=by
   unfold xL
   have:qL J (j+(i+1)) j=J j:=by unfold qL;rw [if_neg (by omega)]
   rw [this]
  rw [h1,show j+(i+1)=j+1+i by omega]
  exact DX r (j+1) i op vs.tail _ v hd.2 (by simpa using h) (by rwa [show j+1+i=j+(i+1) by omega]) (by cases vs<;>simpa [getD] using hv)
def oJ (J:Nat->Bool) (b:List aG):List (Nat×List aG)->List aG
 |[]=>b
 |q::r=>if J q.1=true then q.2 else oJ J b r
def top (b:List aG):List (Nat×List aG)->List aG
 |[]=>b
 |q::_=>q.2
def Cn (pr:List Nat):List (Nat×List aG)->Bool
 |[]=>true
 |q::_=>decide (q.1∈pr)
def rT (pr:List Nat) (n:Nat):Bool:=decide (n∈pr)
def Ac (l:List Oper) (b:List aG):List (Nat×List aG)->Prop
 |[]=>True
 |q::r=>(∃new,q.2=top b r++new)/\(∀p,r.head? =some p->p.1 < q.1/\∃op,l[q.1]? =some op/\p.1∈pre op)/\Ac l b r
theorem G5 {l:List Oper} {b:List aG} (J:Nat->Bool):∀{h:List (Nat×List aG)},Ac l b h->∃ext,top b h=oJ J b h++ext
 |[],_=>⟨[],by simp [top,oJ]⟩
 |q::r,hc=>by
  obtain ⟨new,hn⟩:=hc.1
  obtain ⟨ext,he⟩:=G5 J hc.2.2
  simp only [oJ,top]
  split
  ·exact ⟨[],by simp⟩
  ·exact ⟨ext++new,by rw [hn,he,append_assoc]⟩
theorem XU {l:List Oper} {b:List aG} {J:Nat->Bool} {pr:List Nat} (hp:∀e∈pr,J e=true):∀{h:List (Nat×List aG)},Ac l b h->∃ext,oJ J b h=oJ (rT pr) b h++ext
 |[],_=>⟨[],by simp [oJ]⟩
 |q::r,hc=>by
  simp only [oJ]
  by_cases hq:q.1∈pr
  ·rw [if_pos (hp _ hq),if_pos (by simpa [rT] using hq)];exact ⟨[],by simp⟩
  ·rw [if_neg (show¬rT pr q.1=true by simpa [rT] using hq)]
   split
   ·obtain ⟨new,hn⟩:=hc.1
    obtain ⟨ext,he⟩:=G5 (rT pr) hc.2.2
    exact ⟨ext++new,by rw [hn,he,append_assoc]⟩
   ·exact XU hp hc.2.2
theorem SH (J:Nat->Bool) (b:List aG):∀{s h:List (Nat×List aG)},(∀q∈s,J q.1=false)->oJ J b (s++h)=oJ J b h
 |[],_,_=>rfl
 |q::s,h,hs=>by
  simp only [cons_append,oJ]
  rw [if_neg (by rw [hs q (by simp)];simp)]
  exact SH J b fun p hp=>hs p (by simp [hp])
theorem Kh {l:List Oper} {b:List aG} {J:Nat->Bool} (hJ:gy l J):∀{s h:List (Nat×List aG)} {q:Nat×List aG},Ac l b (s++q::h)->J q.1=false->∀p∈s,J p.1=false
 |[],_,_,_,_=>fun _ hp=>by cases hp
 |x::s,h,q,hc,hq=>by
  have ih:=Kh hJ hc.2.2 hq
  intro p hp
  rcases mem_cons.1 hp with rfl|hp
  ·cases hJx:J p.1 with
   |false=>rfl
   |true=>
    exfalso
    cases s with
    |nil=>
     obtain ⟨_,op,h1,h2⟩:=hc.2.1 q rfl
     have:=hJ _ op h1 hJx _ h2
     rw [hq] at this;cases this
    |cons y s=>
     obtain ⟨_,op,h1,h2⟩:=hc.2.1 y rfl
     have:=hJ _ op h1 hJx _ h2
     rw [ih y (by simp)] at this;cases this
  ·exact ih p hp
def PK (J:Nat->Bool) (dead:Bool) (q:Nat×Nat×List AV):aG:=
 if J q.1=true then ⟨true,true,q.2.2.length,1,[q.2.2]⟩ else ⟨!dead,false,q.2.2.length,0,[]⟩
def oU (J:Nat->Bool) (dead:Bool):List (Nat×Nat×List AV)->List aG->List aG
 |[],o=>o
 |q::r,o=>oU J dead r (o.set q.2.1 (PK J dead q))
def CZ:Nat->Bool:=fun _=>false
def Vd (fl:List (Nat×Nat×List AV)) (n:Nat):Bool:=decide (fl.map (·.1)).Nodup&&(decide (fl.map (·.2.1)).Nodup&&fl.all fun q=>decide (q.2.1 < n))
theorem nU (J:Nat->Bool) (d:Bool):∀(fl:List (Nat×Nat×List AV)) (o:List aG),(oU J d fl o).length=o.length
 |[],_=>rfl
 |q::r,o=>by simp only [oU];rw [nU J d r];simp
theorem Da {J:Nat->Bool} {d:Bool} {i:Nat}:∀{fl:List (Nat×Nat×List AV)} {o:List aG},(∀q∈fl,q.2.1≠i)->(oU J d fl o)[i]? =o[i]?
 |[],_,_=>rfl
 |q::r,o,h=>by
  simp only [oU]
  rw [Da fun p hp=>h p (by simp [hp]),getElem?_set_ne (h q (by simp))]
theorem Ad {J:Nat->Bool} {d:Bool}:∀{fl:List (Nat×Nat×List AV)} {o:List aG} {q:Nat×Nat×List AV},(fl.map (·.2.1)).Nodup->q∈fl->q.2.1 < o.length->(oU J d fl o)[q.2.1]? =some (PK J d q)
 |p::r,o,q,hn,hq,hl=>by
  simp only [oU]
  simp only [map_cons,nodup_cons] at hn
  rcases mem_cons.1 hq with rfl|hq
  ·rw [Da fun p hp e=>hn.1 (mem_map.2 ⟨p,hp,e⟩),getElem?_set_self hl]
  ·exact Ad hn.2 hq (by simpa using hl)
theorem Lu {J:Nat->Bool} {d:Bool} {n:List aG}:∀{fl:List (Nat×Nat×List AV)} {o:List aG},(∀q∈fl,q.2.1 < o.length)->oU J d fl (o++n)=oU J d fl o++n
 |[],_,_=>rfl
 |q::r,o,h=>by
  simp only [oU]
  rw [set_append_left _ _ (h q (by simp)),Lu fun p hp=>by simpa using h p (by simp [hp])]
theorem ZI {fl:List (Nat×Nat×List AV)} {o o':List aG} (hl:o.length=o'.length) (h:∀q∈fl,o[q.2.1]? =o'[q.2.1]?) (h2:∀i,(∀q∈fl,q.2.1≠i)->o[i]? =o'[i]?):o=o':=by
 refine ext_getElem? fun i=> ?_
 by_cases hi:∃q∈fl,q.2.1=i
 ·obtain ⟨q,hq,rfl⟩:=hi;exact h q hq
 ·exact h2 i fun q hq e=>hi ⟨q,hq,e⟩
theorem aCv {J J':Nat->Bool} {d d':Bool} {fl:List (Nat×Nat×List AV)} {o:List aG} (hn:(fl.map (·.2.1)).Nodup) (hs:∀q∈fl,q.2.1 < o.length):oU J d fl (oU J' d' fl o)=oU J d fl o:=
 ZI (fl:=fl) (by simp [nU]) (fun q hq=>by rw [Ad hn hq (by rw [nU];exact hs q hq),Ad hn hq (hs q hq)]) (fun i hi=>by rw [Da hi,Da hi,Da hi])
theorem QQ {J J':Nat->Bool} {d:Bool}:∀{fl:List (Nat×Nat×List AV)} {o:List aG},(∀q∈fl,J q.1=J' q.1)->oU J d fl o=oU J' d fl o
 |[],_,_=>rfl
 |q::r,o,h=>by
  simp only [oU]
  have:PK J d q=PK J' d q:=by unfold PK;rw [h q (by simp)]
  rw [this,QQ fun p hp=>h p (by simp [hp])]
theorem DY {α β:Type} (f:α->β):∀(L:List α),(L.map f).Nodup->∀p q,p∈L->q∈L->f p=f q->p=q
 |[],_,_,_,h,_,_=>by cases h
 |x::L,hn,p,q,hp,hq,e=>by
  simp only [map_cons,nodup_cons] at hn
  rcases mem_cons.1 hp with hp'|hp'
  ·rcases mem_cons.1 hq with hq'|hq'
   ·rw [hp',hq']
   ·exfalso;exact hn.1 (mem_map.2 ⟨q,hq',by rw [<-e,hp']⟩)
  ·rcases mem_cons.1 hq with hq'|hq'
   ·exfalso;exact hn.1 (mem_map.2 ⟨p,hp',by rw [e,hq']⟩)
   ·exact DY f L hn.2 p q hp' hq' e
theorem aCw {J:Nat->Bool} {d:Bool} {fl:List (Nat×Nat×List AV)} {o:List aG} {q:Nat×Nat×List AV} (hn1:(fl.map (·.1)).Nodup) (hn:(fl.map (·.2.1)).Nodup) (hs:∀q∈fl,q.2.1 < o.length) (hq:q∈fl):
  oU (qL J q.1) d fl o=(oU J d fl o).set q.2.1 ⟨true,true,q.2.2.length,1,[q.2.2]⟩:=by
 have hinj:∀p∈fl,p.1=q.1->p=q:=fun p hp e=>DY (·.1) fl hn1 p q hp hq e
 have aKr:∀p∈fl,p.2.1=q.2.1->p=q:=fun p hp e=>DY (·.2.1) fl hn p q hp hq e
 refine ZI (fl:=fl) (by simp [nU]) (fun p hp=> ?_) (fun i hi=> ?_)
 ·rw [Ad hn hp (hs p hp)]
  by_cases hpq:p=q
  ·subst hpq
   rw [getElem?_set_self (by rw [nU];exact hs p hp)]
   simp [PK,qL]
  ·rw [getElem?_set_ne (fun e=>hpq (aKr p hp e.symm)),Ad hn hp (hs p hp)]
   have:qL J q.1 p.1=J p.1:=by unfold qL;rw [if_neg (fun e=>hpq (hinj p hp e))]
   simp [PK,this]
 ·rw [Da hi,getElem?_set_ne (hi q hq),Da hi]
theorem aCx {J:Nat->Bool} {pr:List Nat} {fl:List (Nat×Nat×List AV)} {o ext:List aG} (hn:(fl.map (·.2.1)).Nodup) (hs:∀q∈fl,q.2.1 < o.length) (hp:∀e∈pr,J e=true):
  Sub (oU (rT pr) true fl o) (oU J false fl (o++ext)):=by
 intro i ob h hl
 by_cases hi:∃q∈fl,q.2.1=i
 ·obtain ⟨q,hq,rfl⟩:=hi
  rw [Ad hn hq (hs q hq)] at h
  obtain rfl:=Option.some.inj h
  rw [Ad hn hq (by have:=hs q hq;simp;omega)]
  unfold PK at hl⊢
  by_cases hb:rT pr q.1=true
  ·rw [if_pos hb,if_pos (hp q.1 (by simpa [rT] using hb))]
  ·rw [if_neg hb] at hl;cases hl
 ·have hi':∀q∈fl,q.2.1≠i:=fun q hq e=>hi ⟨q,hq,e⟩
  rw [Da hi'] at h⊢
  rw [getElem?_append_left (List.getElem?_eq_some_iff.1 h).1];exact h
theorem ZJ {l:List Oper} {b:List aG} {J:Nat->Bool} {h:List (Nat×List aG)} (hc:Ac l b h):∃ext,oJ J b h=b++ext:=by
 obtain ⟨ext,he⟩:=XU (J:=J) (pr:=[]) (by simp) hc
 have:∀h:List (Nat×List aG),oJ (rT []) b h=b:=by
  intro h
  induction h with
  |nil=>rfl
  |cons q r ih=>simp [oJ,ih,rT]
 exact ⟨ext,by rw [he,this]⟩
theorem SI {fl:List (Nat×Nat×List AV)} {b:List aG} (J:Nat->Bool) (hb:oU CZ true fl b=b):∀{h:List (Nat×List aG)},(∀q∈h,oU CZ true fl q.2=q.2)->oU CZ true fl (oJ J b h)=oJ J b h
 |[],_=>hb
 |q::r,h=>by
  simp only [oJ]
  split
  ·exact h q (by simp)
  ·exact SI J hb fun p hp=>h p (by simp [hp])
def Db (op:Oper) (s:AS):AV:=match op.dst with
 |some d=>s.t.getD d .undef
 |none=> .undef
def lG (P:Program) [aD P] (l:List Oper) (t:List AV) (b:List aG) (fl:List (Nat×Nat×List AV)) (K:AS->Prop):Nat->List Oper->List AV->List (Nat×List aG)->Prop
 |i,[],vs,h=>K ⟨gI (fun _=>true) 0 l vs t,oU (fun k=>decide (k < i)) false fl (top b h)⟩
 |i,op::r,vs,h=>(∃q∈fl,q.1=i/\op.guard=none/\(∃T,op.op= .alloc T/\dA P T=some q.2.2)/\(∀e∈pre op,e < i)/\lG P l t b fl K (i+1) r (vs++[.ptr q.2.1 1 0 0]) h)\/
   ((∀q∈fl,q.1≠i)/\lY op.op ⟨mR i (pre op) 0 l vs t,oU (rT (pre op)) true fl (oJ (rT (pre op)) b h)⟩=true/\(∀e∈pre op,e < i)/\
   oH P l op ⟨mR i (pre op) 0 l vs t,oU (rT (pre op)) true fl (oJ (rT (pre op)) b h)⟩ fun s'=>
    (Cn (pre op) h=true\/s'.o.length=(oJ (rT (pre op)) b h).length)/\
    lG P l t b fl K (i+1) r (vs++[Db op s']) (if s'.o.length=(oJ (rT (pre op)) b h).length then h else (i,oU CZ true fl s'.o)::h))\/
   (uJ l i=true/\Bc (fun z=>wJ P l K (left ((range l.length).map (jz i z))) ((range l.length).map (jz i z)) ⟨gI (jz i z) 0 l vs t,oU (jz i z) false fl (oJ (jz i z) b h)⟩) [] (qG l i))\/
   (uJ l i=true/\BL l i=true/\kW P l (op::r) ⟨gI (fun k=>decide (k < i)) 0 l vs t,oU (fun k=>decide (k < i)) false fl (top b h)⟩ K)
structure Item (P : Program) [aD P] (l : List Oper) (t : List AV) (b : List aG) (fl : List (Nat × Nat × List AV)) (j : Nat) (op : Oper) (vs : List AV) (hf : List (Nat × List aG)) : Prop where
  pre : ∀ e ∈ pre op, e < j
  ex : (∃ q ∈ fl, q.1 = j /\ op.guard = none /\ (∃ T, op.op = .alloc T /\ dA P T = some q.2.2) /\ vs.getD j .undef = .ptr q.2.1 1 0 0 /\ ∀ p ∈ hf, p.1 ≠ j) \/
    ((∀ q ∈ fl, q.1 ≠ j) /\ ∃ x new hj QR, lY op.op ⟨mR j (Aw.pre op) 0 l (vs.take j) t, oU (rT (Aw.pre op)) true fl (oJ (rT (Aw.pre op)) b hj)⟩ = true /\ hf = QR ++ hj /\ (∀ q ∈ hj, q.1 < j) /\ (vs.getD j .undef = x \/ vs.getD j .undef = .undef) /\
    oH P l op ⟨mR j (Aw.pre op) 0 l (vs.take j) t, oU (rT (Aw.pre op)) true fl (oJ (rT (Aw.pre op)) b hj)⟩ (fun s' => s' = ⟨pY (mR j (Aw.pre op) 0 l (vs.take j) t) op.dst x, oU (rT (Aw.pre op)) true fl (oJ (rT (Aw.pre op)) b hj) ++ new⟩) /\
    ((new = [] /\ ∀ q ∈ QR, j < q.1) \/ (Cn (Aw.pre op) hj = true /\ ∃ s2, QR = s2 ++ [(j, oJ (rT (Aw.pre op)) b hj ++ new)] /\ ∀ q ∈ s2, j < q.1)))
theorem Ve {b:List aG} {pr:List Nat} {h:List (Nat×List aG)} (ht:Cn pr h=true):oJ (rT pr) b h=top b h:=by
 cases h with
 |nil=>rfl
 |cons q r=>simp only [Cn] at ht;simp only [oJ,top,rT,ht,if_true]
theorem QS {P:Program} [aD P] {op:Oper} {t t2:List AV} {o o2:List aG} {K:AS->Prop} (h:Po P op ⟨t,o⟩ K):
  ∃x new x2,K ⟨pY t op.dst x,o++new⟩/\(x=x2\/x= .undef)/\(o2.length=o.length\/new=[])/\∀K2:AS->Prop,K2 ⟨pY t2 op.dst x2,o2++new⟩->Po P op ⟨t2,o2⟩ K2:=by
 obtain ⟨dst,op,ty,pos,after,gd⟩:=op
 unfold Po at h
 dsimp only at h
 split at h
 ·split at h
  ·rename_i e n by' he
   refine ⟨.sl .own n [],[],.sl .own n [],by rw [append_nil,<-put_eq];exact h.2,.inl rfl,.inr rfl,fun K2 hK=> ?_⟩
   rw [append_nil] at hK
   rename_i tt _
   show (match gD P tt with
    |some (e,n,_)=>bL P e n=true/\K2 (AS.put ⟨t2,o2⟩ dst (.sl .own n []))
    |none=>False)
   rw [he]
   exact ⟨h.1,by rw [put_eq];exact hK⟩
  ·exact h.elim
 ·exact h.elim
theorem Ae {P:Program} [aD P] {l:List Oper} {op:Oper} {t t2:List AV} {o o2:List aG} {K:AS->Prop} (q:lY op.op ⟨t,o⟩=true) (hw:wk t2 t) (h:oH P l op ⟨t,o⟩ K) (hs:Sub o o2) (xA:o2.length=o.length\/∀s',K s'->s'.o.length=o.length):
  ∃x new x2,K ⟨pY t op.dst x,o++new⟩/\(x=x2\/x= .undef)/\(o2.length=o.length\/new=[])/\∀K2:AS->Prop,K2 ⟨pY t2 op.dst x2,o2++new⟩->oH P l op ⟨t2,o2⟩ K2:=by
 unfold oH at h
 split at h
 ·rename_i hg
  rcases h with h|h
  ·obtain ⟨x,new,x2,h1,h2,h3,h4⟩:=UH q hw h hs xA
   exact ⟨x,new,x2,h1,h2,h3,fun K2 hK=>by unfold oH;simp only [hg];exact .inl (h4 K2 hK)⟩
  ·obtain ⟨x,new,x2,h1,h2,h3,h4⟩:=QS (t2:=t2) (o2:=o2) h
   exact ⟨x,new,x2,h1,h2,h3,fun K2 hK=>by unfold oH;simp only [hg];exact .inr (h4 K2 hK)⟩
 ·rename_i j want hg
  split at h
  ·rename_i b hb
   have hb2:oG l ⟨t2,o2⟩ j want= .bool b:=by
    unfold oG at hb⊢
    split at hb
    ·rename_i o' ho'
     split at hb
     ·rename_i d hd
      rcases XG d hw with e|e
      ·rw [<-e];exact hb
      ·rw [e] at hb;cases hb
     ·cases hb
    ·cases hb
   by_cases hbw:b=want
   ·rcases h.1 hbw with h|h
    ·obtain ⟨x,new,x2,h1,h2,h3,h4⟩:=UH q hw h hs xA
     exact ⟨x,new,x2,h1,h2,h3,fun K2 hK=>by unfold oH;simp only [hg,hb2];exact ⟨fun _=> .inl (h4 K2 hK),fun hn=>absurd hbw hn⟩⟩
    ·obtain ⟨x,new,x2,h1,h2,h3,h4⟩:=QS (t2:=t2) (o2:=o2) h
     exact ⟨x,new,x2,h1,h2,h3,fun K2 hK=>by unfold oH;simp only [hg,hb2];exact ⟨fun _=> .inr (h4 K2 hK),fun hn=>absurd hbw hn⟩⟩
   ·have h1:=h.2 hbw
    rw [put_eq] at h1
    exact ⟨.gV [],[],.gV [],by rw [append_nil];exact h1,.inl rfl,.inr rfl,fun K2 hK=>by
     unfold oH;simp only [hg,hb2]
     refine ⟨fun hn=>absurd hn hbw,fun _=> ?_⟩
     rw [put_eq];rw [append_nil] at hK;exact hK⟩
  ·exact h.elim
def aPq (P:Program) [aD P] (l:List Oper) (t:List AV) (b:List aG) (fl:List (Nat×Nat×List AV)) (K:AS->Prop) (m:Nat) (vs:List AV) (h:List (Nat×List aG)):Prop:=
 (m=l.length/\K ⟨gI (fun _=>true) 0 l vs t,oU (fun k=>decide (k < m)) false fl (top b h)⟩)\/
 (m < l.length/\uJ l m=true/\Bc (fun z=>wJ P l K (left ((range l.length).map (jz m z))) ((range l.length).map (jz m z)) ⟨gI (jz m z) 0 l vs t,oU (jz m z) false fl (oJ (jz m z) b h)⟩) [] (qG l m))\/
 (m < l.length/\uJ l m=true/\BL l m=true/\kW P l (l.drop m) ⟨gI (fun k=>decide (k < m)) 0 l vs t,oU (fun k=>decide (k < m)) false fl (top b h)⟩ K)
theorem DZ {P : Program} [aD P] {l : List Oper} {t : List AV} {b : List aG} {fl : List (Nat × Nat × List AV)} {K : AS -> Prop} (hnd : (fl.map (·.2.1)).Nodup) (hsl : ∀ q ∈ fl, q.2.1 < b.length) (hb : oU CZ true fl b = b) : ∀ (r : List Oper) (i : Nat) (vs : List AV) (h : List (Nat × List aG)), l.drop i = r -> vs.length = i -> i <= l.length -> (∀ q ∈ h, q.1 < i) -> (∀ q ∈ h, oU CZ true fl q.2 = q.2) -> Ac l b h -> lG P l t b fl K i r vs h ->
    ∃ m vs' hf, i <= m /\ aPq P l t b fl K m (vs ++ vs') hf /\ Ac l b hf /\ (∃ QR, hf = QR ++ h /\ ∀ q ∈ QR, i <= q.1 /\ q.1 < m) /\ (∀ q ∈ hf, oU CZ true fl q.2 = q.2) /\ ∀ j op, i <= j -> j < m -> l[j]? = some op -> Item P l t b fl j op (vs ++ vs') hf
  | [], i, vs, h, hr, hv, hi, hlt, hN, hc, hd => by
    have hil : i = l.length := by have : l.length <= i := by simpa using hr
                                  omega
    subst hil
    refine ⟨l.length, [], h, Nat.le_refl _, ?_, hc, ⟨[], rfl, by simp⟩, hN, fun j op hij hj => by omega⟩
    simp only [lG] at hd
    exact .inl ⟨rfl, by simpa using hd⟩
  | op :: r, i, vs, h, hr, hv, hi, hlt, hN, hc, hd => by
    have hil : i < l.length := by
      rcases Nat.lt_or_ge i l.length with h' | h'
      · exact h'
      · rw [drop_of_length_le h'] at hr; cases hr
    have hop : l[i]? = some op := by
      have := congrArg head? hr
      rw [head?_drop] at this; simpa using this
    have hdr : l.drop (i + 1) = r := by rw [<- drop_drop, hr]; rfl
    simp only [lG] at hd
    rcases hd with ⟨q, hq, hqi, hg, hT, hpr, hd⟩ | ⟨hnf, hq, hpr, ha⟩ | ⟨htl, ha⟩ | ⟨htl, aPr, ha⟩
    case inr.inr.inr =>
      refine ⟨i, [], h, Nat.le_refl _, ?_, hc, ⟨[], rfl, by simp⟩, hN, fun j op' hij hj => by omega⟩
      rw [append_nil]
      exact .inr (.inr ⟨hil, htl, aPr, by rw [hr]; exact ha⟩)
    case inr.inr.inl =>
      refine ⟨i, [], h, Nat.le_refl _, ?_, hc, ⟨[], rfl, by simp⟩, hN, fun j op' hij hj => by omega⟩
      rw [append_nil]
      exact .inr (.inl ⟨hil, htl, ha⟩)
    case inl =>
      obtain ⟨m, vs', hf, km, k1, k2, ⟨QR, k3, k4⟩, k6, k5⟩ := DZ hnd hsl hb r (i + 1) (vs ++ [.ptr q.2.1 1 0 0]) h hdr (by simp [hv]) (by omega) (fun q hq => by have := hlt q hq; omega) hN hc hd
      refine ⟨m, .ptr q.2.1 1 0 0 :: vs', hf, by omega, by simpa using k1, k2, ⟨QR, k3, fun q hq => by have := k4 q hq; omega⟩, k6, fun j op' hij hjm hj => ?_⟩
      by_cases hji : j = i
      · subst hji
        rw [hop] at hj; obtain rfl := Option.some.inj hj
        refine ⟨hpr, .inl ⟨q, hq, hqi, hg, hT, ?_, fun p hp => ?_⟩⟩
        · rw [getD_eq_getElem?_getD, getElem?_append_right (by omega), hv, Nat.sub_self]; rfl
        · rw [k3] at hp
          rcases mem_append.1 hp with hp | hp
          · have := k4 p hp; omega
          · have := hlt p hp; omega
      · have := k5 j op' (by omega) hjm hj
        simpa using this
    have hsub : Sub (oU (rT (pre op)) true fl (oJ (rT (pre op)) b h)) (oU (rT (pre op)) true fl (oJ (rT (pre op)) b h)) := fun _ _ h _ => h
    obtain ⟨x, new, x2, ⟨h1, h2⟩, _, _, h3⟩ := Ae hq (kK _) ha hsub (.inl rfl)
    have h4 := h3 (fun s' => s' = ⟨pY (mR i (pre op) 0 l vs t) op.dst x2, oU (rT (pre op)) true fl (oJ (rT (pre op)) b h) ++ new⟩) rfl
    have hval : ∀ (y : AV) (os : List aG), Db op ⟨pY (mR i (pre op) 0 l vs t) op.dst y, os⟩ = y \/ Db op ⟨pY (mR i (pre op) 0 l vs t) op.dst y, os⟩ = .undef := by
      intro y os
      unfold Db pY
      cases op.dst with
      | none => exact .inr rfl
      | some d =>
        dsimp only
        rw [getD_eq_getElem?_getD, getElem?_set_self']
        cases (mR i (pre op) 0 l vs t)[d]? with
        | none => exact .inr rfl
        | some z => exact .inl rfl
    obtain ⟨aT7, hbase⟩ := ZJ (J := rT (pre op)) hc
    have aGs : ∀ q ∈ fl, q.2.1 < (oJ (rT (pre op)) b h).length := fun q hq => by rw [hbase]; have := hsl q hq; simp; omega
    have aKs : oU CZ true fl (oU (rT (pre op)) true fl (oJ (rT (pre op)) b h) ++ new) = oJ (rT (pre op)) b h ++ new := by
      rw [Lu (by rw [nU]; exact aGs), aCv hnd aGs, SI _ hb hN]
    simp only [aKs] at h2
    generalize hvv : Db op ⟨pY (mR i (pre op) 0 l vs t) op.dst x, oU (rT (pre op)) true fl (oJ (rT (pre op)) b h) ++ new⟩ = vv at h2
    have hvx : vv = x2 \/ vv = .undef := by
      rcases hval x (oU (rT (pre op)) true fl (oJ (rT (pre op)) b h) ++ new) with e | e
      · rw [hvv] at e; subst e; assumption
      · rw [hvv] at e; exact .inr e
    have hlen : ((oU (rT (pre op)) true fl (oJ (rT (pre op)) b h) ++ new).length = (oJ (rT (pre op)) b h).length) ↔ new = [] := by
      rw [length_append, nU]; constructor
      · intro e; exact eq_nil_of_length_eq_zero (by omega)
      · rintro rfl; simp
    have item : ∀ (vs' : List AV) (hf : List (Nat × List aG)), ((∃ QR, hf = QR ++ h /\ new = [] /\ ∀ q ∈ QR, i < q.1) \/ (Cn (pre op) h = true /\ ∃ s2, hf = s2 ++ (i, oJ (rT (pre op)) b h ++ new) :: h /\ ∀ q ∈ s2, i < q.1)) -> Item P l t b fl i op ((vs ++ [vv]) ++ vs') hf := by
      intro vs' hf hcase
      have e1 : ((vs ++ [vv]) ++ vs').take i = vs := by rw [append_assoc, take_left' hv]
      have e2 : ((vs ++ [vv]) ++ vs').getD i .undef = vv := by
        rw [append_assoc, getD_eq_getElem?_getD, getElem?_append_right (by omega), hv, Nat.sub_self]; rfl
      refine ⟨hpr, .inr ⟨hnf, x2, new, h, ?_⟩⟩
      rw [e1, e2]
      rcases hcase with ⟨QR, rfl, hn, hs⟩ | ⟨ht, s2, rfl, hs⟩
      · exact ⟨QR, hq, rfl, hlt, hvx, h4, .inl ⟨hn, hs⟩⟩
      · exact ⟨s2 ++ [(i, oJ (rT (pre op)) b h ++ new)], hq, by simp, hlt, hvx, h4, .inr ⟨ht, s2, rfl, hs⟩⟩
    by_cases hnew : new = []
    · rw [if_pos (hlen.2 hnew)] at h2
      obtain ⟨m, vs', hf, km, k1, k2, ⟨QR, k3, k4⟩, k6, k5⟩ := DZ hnd hsl hb r (i + 1) (vs ++ [vv]) h hdr (by simp [hv]) (by omega) (fun q hq => by have := hlt q hq; omega) hN hc h2
      refine ⟨m, vv :: vs', hf, by omega, by simpa using k1, k2, ⟨QR, k3, fun q hq => by have := k4 q hq; omega⟩, k6, fun j op' hij hjm hj => ?_⟩
      by_cases hji : j = i
      · subst hji
        rw [hop] at hj; obtain rfl := Option.some.inj hj
        have := item vs' hf (.inl ⟨QR, k3, hnew, fun q hq => by have := k4 q hq; omega⟩)
        simpa using this
      · have := k5 j op' (by omega) hjm hj
        simpa using this
    · rw [if_neg (fun e => hnew (hlen.1 e))] at h2
      have ht : Cn (pre op) h = true := h1.resolve_right (fun e => hnew (hlen.1 e))
      have hc' : Ac l b ((i, oJ (rT (pre op)) b h ++ new) :: h) := by
        refine ⟨⟨new, by rw [Ve ht]⟩, fun p hp => ?_, hc⟩
        cases h with
        | nil => cases hp
        | cons q h =>
          obtain rfl := Option.some.inj hp
          exact ⟨hlt _ (by simp), op, hop, by simpa [Cn] using ht⟩
      obtain ⟨m, vs', hf, km, k1, k2, ⟨QR, k3, k4⟩, k6, k5⟩ := DZ hnd hsl hb r (i + 1) (vs ++ [vv]) _ hdr (by simp [hv]) (by omega) (fun q hq => by
        rcases mem_cons.1 hq with rfl | hq
        · simp
        · have := hlt q hq; omega) (fun q hq => by
        rcases mem_cons.1 hq with rfl | hq
        · show oU CZ true fl (oJ (rT (pre op)) b h ++ new) = _
          rw [Lu aGs, SI _ hb hN]
        · exact hN q hq) hc' h2
      refine ⟨m, vv :: vs', hf, by omega, by simpa using k1, k2, ⟨QR ++ [(i, oJ (rT (pre op)) b h ++ new)], by simp [k3], fun q hq => by
        rcases mem_append.1 hq with hq | hq
        · have := k4 q hq; omega
        · simp at hq; subst hq; exact ⟨by simp, by omega⟩⟩, k6, fun j op' hij hjm hj => ?_⟩
      by_cases hji : j = i
      · subst hji
        rw [hop] at hj; obtain rfl := Option.some.inj hj
        have := item vs' hf (.inr ⟨ht, QR, k3, fun q hq => by have := k4 q hq; omega⟩)
        simpa using this
      · have := k5 j op' (by omega) hjm hj
        simpa using this
theorem gz {P:Program} [aD P] {id:Nat} {l:List Oper} {s:AS} {Q:Exit->AS->Prop} {fl:List (Nat×Nat×List AV)} {b:List aG} (hfw:Kg l=true) (hdst:distinct l=true) (hfl:Vd fl b.length=true) (hb:oU CZ true fl b=b) (hb0:oU CZ false fl b=s.o++(fl.map (·.2.2.length)).map fun n=>⟨true,false,n,0,[]⟩)
  (h:lG P l s.t b fl (Q .normal) 0 l [] []):qU P (.region id l.toArray true) s Q:=by
 simp only [Vd,Bool.and_eq_true,decide_eq_true_eq,all_eq_true] at hfl
 obtain ⟨aPs,hnd,hsl⟩:=hfl
 obtain ⟨m,vs,hf,_,hK,hc,⟨aKt,aFd,Py⟩,hN,hit⟩:=DZ hnd hsl hb l 0 [] [] rfl rfl (by omega) (by simp) (by simp) trivial h
 simp only [nil_append] at hK hit
 have aPt:∀j op,j < m->l[j]? =some op->Item P l s.t b fl j op vs hf:=fun j op hjm hj=>hit j op (by omega) hjm hj
 have aGt:∀J:Nat->Bool,∀q∈fl,q.2.1 < (oJ J b hf).length:=fun J q hq=>by
  obtain ⟨ext,he⟩:=ZJ (J:=J) hc
  rw [he];have:=hsl q hq;simp;omega
 unfold qU
 have Cz:m<=l.length:=by
  rcases hK with h|h|h
  ·omega
  ·omega
  ·omega
 have hrest:uJ l m=true:=by
  rcases hK with h|h|h
  ·rw [h.1]
   unfold uJ
   rw [all_eq_true]
   intro i hi
   simp at hi
   simp only [Bool.or_eq_true,decide_eq_true_eq]
   exact .inl (by omega)
  ·exact h.2.1
  ·exact h.2.1
 refine Vb (ops:=l.toArray) m (by simpa using Cz) (by simpa using hfw) (by simpa using hrest) (fun J=>⟨gI J 0 l vs s.t,oU J false fl (oJ J b hf)⟩) ?_ ?_ ?_
 ·have e1:∀(l:List Oper) (j:Nat) (vs t:List AV),gI (fun _=>false) j l vs t=t:=by
   intro l
   induction l with
   |nil=>intros;rfl
   |cons op r ih=>
    intro j vs t
    simp only [gI]
    rw [ih]
    unfold xL
    cases op.dst<;>simp
  have e2:∀h:List (Nat×List aG),oJ (fun _=>false) b h=b:=by
   intro h
   induction h with
   |nil=>rfl
   |cons q r ih=>simp [oJ,ih]
  rw [e1,e2]
  have e3:oU (fun _=>false) false fl b=_:=hb0
  rw [e3]
  exact fun _ _ _ _ _ r=>LV _ r
 ·intro i op him hi
  have hi':l[i]? =some op:=by simpa using hi
  have it:=aPt i op him hi'
  intro J hJ hJm G6 hpre
  have hJ':gy l J:=by simpa using hJ
  rcases it.ex with ⟨q,hq,hqi,hg,⟨T,hT,hz⟩,hval,hne⟩|⟨hnf,x,new,hj,QR,hqq,hfe,hlt,hvx,hop,hcase⟩
  ·right
   refine ⟨hg,fun B=> ?_⟩
   have hoJ:∀h:List (Nat×List aG),(∀p∈h,p.1≠i)->oJ (qL J i) b h=oJ J b h:=by
    intro h
    induction h with
    |nil=>intro _;rfl
    |cons p r ih=>
     intro hq
     simp only [oJ]
     rw [ih fun p hp=>hq p (by simp [hp])]
     have:qL J i p.1=J p.1:=by unfold qL;rw [if_neg (hq p (by simp))]
     rw [this]
   have hto:gI (qL J i) 0 l vs s.t=pY (gI J 0 l vs s.t) op.dst (.ptr q.2.1 1 0 0):=by
    have:=DX l 0 i op vs s.t (.ptr q.2.1 1 0 0) hdst hi' (by simpa using G6) hval
    rwa [Nat.zero_add] at this
   have aPu:oU (qL J i) false fl (oJ J b hf)=(oU J false fl (oJ J b hf)).set q.2.1 ⟨true,true,q.2.2.length,1,[q.2.2]⟩:=by
    rw [<-hqi];exact aCw aPs hnd (aGt J) hq
   rw [hto,hoJ hf hne,aPu]
   have aKu:(oU J false fl (oJ J b hf))[q.2.1]? =some ⟨true,false,q.2.2.length,0,[]⟩:=by
    rw [Ad hnd hq (aGt J q hq)]
    unfold PK
    rw [if_neg (by rw [hqi,G6];simp)]
    rfl
   obtain ⟨dst,o,ty,pos,after,gd⟩:=op
   dsimp only at hT hg⊢
   subst hT
   have:=RX (B:=B) (s:=⟨gI J 0 l vs s.t,oU J false fl (oJ J b hf)⟩) (dst:=dst) (ty:=ty) (pos:=pos) (after:=after) (gd:=gd) T hz aKu
   rw [put_eq] at this
   exact this
  left
  have QT:wk (gI J 0 l vs s.t) (mR i (pre op) 0 l (vs.take i) s.t):=
   Jf G6 (fun e he=>⟨hpre e he,it.pre e he⟩) l 0 vs (vs.take i) s.t s.t (fun k q hk hJk=>hJ' k q hk (by simpa using hJk)) (fun k hk=>by
    rw [getD_eq_getElem?_getD,getD_eq_getElem?_getD,getElem?_take];simp [show k < i by omega]) (kK _)
  have aFe:∀(J':Nat->Bool) (s2:List (Nat×List aG)),(∀q∈s2,J' q.1=false)->∀h',oJ J' b (s2++h')=oJ J' b h':=fun J' s2 h1 h'=>SH J' b h1
  have aPw:∀q:Nat×List aG,i<=q.1->rT (pre op) q.1=false:=fun q hq=>by
   cases hb:rT (pre op) q.1 with
   |false=>rfl
   |true=>have:=it.pre q.1 (by simpa [rT] using hb);omega
  have hoc:oJ (rT (pre op)) b hf=oJ (rT (pre op)) b hj:=by
   rw [hfe]
   refine SH _ _ fun q hq=>aPw q ?_
   rcases hcase with ⟨_,h1⟩|⟨_,s2,rfl,h1⟩
   ·have:=h1 q hq;omega
   ·rcases mem_append.1 hq with hq|hq
    ·have:=h1 q hq;omega
    ·simp at hq;subst hq;simp
  obtain ⟨ext,xA⟩:=XU (J:=J) hpre hc
  rw [hoc] at xA
  have aKv:∀q∈fl,q.2.1 < (oJ (rT (pre op)) b hj).length:=fun q hq=>by rw [<-hoc];exact aGt _ q hq
  have zQ:(new=[]/\oJ (qL J i) b hf=oJ J b hf)\/(ext=[]/\oJ (qL J i) b hf=oJ (rT (pre op)) b hj++new):=by
   rcases hcase with ⟨h1,h2⟩|⟨ht,s2,rfl,h2⟩
   ·refine .inl ⟨h1,?_⟩
    have:∀h:List (Nat×List aG),(∀q∈h,q.1≠i)->oJ (qL J i) b h=oJ J b h:=by
     intro h
     induction h with
     |nil=>intro _;rfl
     |cons q r ih=>
      intro hq
      simp only [oJ]
      rw [ih fun p hp=>hq p (by simp [hp])]
      have:qL J i q.1=J q.1:=by unfold qL;rw [if_neg (hq q (by simp))]
      rw [this]
    refine this hf fun q hq=> ?_
    rw [hfe] at hq
    rcases mem_append.1 hq with hq|hq
    ·have:=h2 q hq;omega
    ·have:=hlt q hq;omega
   ·right
    have aGv:hf=s2++(i,oJ (rT (pre op)) b hj++new)::hj:=by simp [hfe]
    have hs2:=Kh hJ' (s:=s2) (by rw [<-aGv];exact hc) G6
    constructor
    ·have h3:oJ J b hf=oJ J b hj:=by
      rw [aGv,aFe J s2 hs2]
      simp only [oJ];rw [if_neg (by rw [G6];simp)]
     have h4:oJ J b hj=oJ (rT (pre op)) b hj:=by
      rw [Ve ht]
      cases hj with
      |nil=>rfl
      |cons q r=>
       simp only [Cn,decide_eq_true_eq] at ht
       simp only [oJ,top];rw [if_pos (hpre _ ht)]
     rw [h3,h4] at xA
     have:=congrArg length xA
     rw [length_append] at this
     exact eq_nil_of_length_eq_zero (by omega)
    ·rw [aGv,aFe (qL J i) s2 (fun q hq=>by
      have:=h2 q hq
      unfold qL;rw [if_neg (by omega)];exact hs2 q hq)]
     simp [oJ,qL]
  have hsub:Sub (oU (rT (pre op)) true fl (oJ (rT (pre op)) b hj)) (oU J false fl (oJ J b hf)):=by
   rw [xA];exact aCx hnd aKv hpre
  obtain ⟨x',new',x2,rfl',hx2,_,hfin⟩:=Ae (o2:=oU J false fl (oJ J b hf)) hqq QT hop hsub (by
   rcases zQ with ⟨h1,_⟩|⟨h1,_⟩
   ·right;rintro s' rfl;simp [h1]
   ·left;rw [nU,nU,xA,h1,append_nil])
  refine hfin _ ?_
  have hset:new'=new/\(pY (mR i (pre op) 0 l (vs.take i) s.t) op.dst x'=pY (mR i (pre op) 0 l (vs.take i) s.t) op.dst x):=by
   simp only [AS.mk.injEq,append_cancel_left_eq] at rfl'
   exact ⟨rfl'.2,rfl'.1⟩
  have hto:wk (pY (gI J 0 l vs s.t) op.dst x2) (gI (qL J i) 0 l vs s.t):=by
   have:=DX l 0 i op vs s.t (vs.getD i .undef) hdst hi' (by simpa using G6) rfl
   rw [Nat.zero_add] at this
   rw [this]
   have hL:=Je QT
   unfold pY at hset⊢
   cases hd:op.dst with
   |none=>exact kK _
   |some d=>
    rw [hd] at hset
    dsimp only at hset⊢
    rcases Nat.lt_or_ge d (gI J 0 l vs s.t).length with hdl|hle
    ·have hxx:x'=x:=by
      have:=congrArg (fun t=>t[d]?) hset.2
      simpa [hL▸hdl] using this
     refine Nc d (kK _) ?_
     rcases hvx with e|e
     ·rw [e,<-hxx];assumption
     ·exact .inr e
    ·rw [set_eq_of_length_le hle,set_eq_of_length_le hle]
     exact kK _
  have aKw:∀o:List aG,oU (qL J i) false fl o=oU J false fl o:=fun o=>QQ fun q hq=>by
   unfold qL;rw [if_neg (hnf q hq)]
  have aKx:oU J false fl (oJ J b hf)++new'=oU (qL J i) false fl (oJ (qL J i) b hf):=by
   rw [aKw,hset.1]
   rcases zQ with ⟨h1,h2⟩|⟨h1,h2⟩
   ·rw [h2,h1,append_nil]
   ·rw [h2,Lu aKv,xA,h1,append_nil]
  rw [aKx]
  exact wZ hto
 ·intro J hJ hJm hor
  have hJ':gy l J:=by simpa using hJ
  have hsz:l.toArray.size=l.length:=by simp
  rw [hsz]
  have e0:l.toArray.toList=l:=by simp
  rw [e0] at hor⊢
  rcases hK with ⟨hme,hK⟩|⟨aGw,_,hK⟩|⟨aGw,_,htl,hK⟩
  ·left
   have hall:∀i,i < l.length->J i=true:=by
    intro i hi
    rcases hor with h|⟨op,hop,_⟩
    ·exact h i (by omega)
    ·have:=(List.getElem?_eq_some_iff.1 hop).1;omega
   have e3:(range l.length).map J=replicate l.length true:=by
    refine ext_getElem? fun i=> ?_
    rw [getElem?_map,getElem?_replicate]
    by_cases hi:i < l.length
    ·simp [hi,hall i hi]
    ·simp [hi]
   have e4:left (replicate l.length true)=0:=by
    unfold left
    rw [filter_eq_nil_iff.2]
    ·rfl
    ·intro x hx
     rw [(mem_replicate.1 hx).2];simp
   rw [e3,e4]
   simp only [wJ]
   have e5:gI J 0 l vs s.t=gI (fun _=>true) 0 l vs s.t:=Ab l 0 vs s.t fun k hk=>by rw [Nat.zero_add];exact hall k hk
   have e6:oJ J b hf=top b hf:=by
    cases hf with
    |nil=>rfl
    |cons q r=>
     simp only [oJ,top]
     rw [if_pos]
     have:=(Py q (by
      have:q::r=aKt:=by simpa using aFd
      rw [<-this];simp)).2
     exact hall _ (by omega)
   have e7:oU J false fl (top b hf)=oU (fun k=>decide (k < m)) false fl (top b hf):=by
    have:J=fun k=>decide (k < m):=by
     funext k
     by_cases hk:k < m
     ·rw [hall k (by omega)];simp [hk]
     ·rw [hJm k (by omega)];simp [hk]
    rw [this]
   rw [e5,e6,e7]
   exact hK
  ·left
   have hop:=getElem?_eq_getElem aGw
   have hpre:∀e∈pre l[m],J e=true:=by
    rcases hor with h|⟨op,hop',h⟩
    ·exact fun e he=>h e (Jd hfw hop e he)
    ·rw [hop] at hop'
     obtain rfl:=Option.some.inj hop'
     exact h
   have e1:=aKq hop hJ' hJm hpre
   have:=Nb (fun k=> !J k) (qG l m) [] hK
   rw [append_nil,<-e1] at this
   exact this
  ·right
   have hop:=getElem?_eq_getElem aGw
   have hall:∀i,i < m->J i=true:=by
    rcases hor with h|⟨op,hop',h⟩
    ·exact h
    ·exact F7 htl hop' hJ' h
   refine ⟨htl,hall,?_⟩
   have hJf:J=fun k=>decide (k < m):=by
    funext k
    by_cases hk:k < m
    ·rw [hall k hk];simp [hk]
    ·rw [hJm k (by omega)];simp [hk]
   have e6:oJ J b hf=top b hf:=by
    cases hf with
    |nil=>rfl
    |cons q r=>
     simp only [oJ,top]
     rw [if_pos]
     have:=(Py q (by
      have:q::r=aKt:=by simpa using aFd
      rw [<-this];simp)).2
     exact hall _ (by omega)
   rw [e6,hJf]
   exact hK
theorem QU {P:Program} [aD P] {l:List Oper} {t:List AV} {b:List aG} {fl:List (Nat×Nat×List AV)} {K:AS->Prop} {i:Nat} {vs:List AV} {h:List (Nat×List aG)} {t':List AV} {o':List aG} (ht:gI (fun _=>true) 0 l vs t=t') (ho:oU (fun k=>decide (k < i)) false fl (top b h)=o') (hk:K ⟨t',o'⟩):lG P l t b fl K i [] vs h:=by
 simp only [lG,ht,ho];exact hk
theorem Fu {P:Program} [aD P] {l:List Oper} {t:List AV} {b:List aG} {fl:List (Nat×Nat×List AV)} {K:AS->Prop} {i:Nat} {op:Oper} {r:List Oper} {vs:List AV} {h:List (Nat×List aG)}
  {pr:List Nat} {m:List AV} {om:List aG} (hnf:(fl.all fun q=>decide (q.1≠i))=true) (hpr:pre op=pr) (hlt:(pr.all fun e=>decide (e < i))=true) (hm:mR i pr 0 l vs t=m) (ho:oU (rT pr) true fl (oJ (rT pr) b h)=om) (hq:lY op.op ⟨m,om⟩=true)
  (ha:oH P l op ⟨m,om⟩ fun s'=>(Cn pr h=true\/s'.o.length=om.length)/\lG P l t b fl K (i+1) r (vs++[Db op s']) (if s'.o.length=om.length then h else (i,oU CZ true fl s'.o)::h)):lG P l t b fl K i (op::r) vs h:=by
 subst hpr;subst hm;subst ho
 simp only [lG]
 simp only [nU] at ha
 exact .inr (.inl ⟨fun q hq=>by have:=all_eq_true.1 hnf q hq;simpa using this,hq,fun e he=>by have:=all_eq_true.1 hlt e he;simpa using this,ha⟩)
theorem Vf {P:Program} [aD P] {l:List Oper} {t:List AV} {b:List aG} {fl:List (Nat×Nat×List AV)} {K:AS->Prop} {i:Nat} {op:Oper} {r:List Oper} {vs:List AV} {h:List (Nat×List aG)} {q:Nat×Nat×List AV} {T:TypeId}
  (hq:fl.find? (fun q=>q.1 == i)=some q) (hg:op.guard=none) (hT:op.op= .alloc T) (hz:dA P T=some q.2.2) (hlt:((pre op).all fun e=>decide (e < i))=true) (hd:lG P l t b fl K (i+1) r (vs++[.ptr q.2.1 1 0 0]) h):lG P l t b fl K i (op::r) vs h:=by
 simp only [lG]
 refine .inl ⟨q,mem_of_find?_eq_some hq,by have:=find?_some hq;simpa using this,hg,⟨T,hT,hz⟩,fun e he=>by have:=all_eq_true.1 hlt e he;simpa using this,hd⟩
theorem Jg {P:Program} [aD P] {l:List Oper} {t:List AV} {b:List aG} {fl:List (Nat×Nat×List AV)} {K:AS->Prop} {i:Nat} {op:Oper} {r:List Oper} {vs:List AV} {h:List (Nat×List aG)} {z:List Nat}
  (hr:uJ l i=true) (hz:qG l i=z) (ha:Bc (fun z=>wJ P l K (left ((range l.length).map (jz i z))) ((range l.length).map (jz i z)) ⟨gI (jz i z) 0 l vs t,oU (jz i z) false fl (oJ (jz i z) b h)⟩) [] z):lG P l t b fl K i (op::r) vs h:=by
 subst hz
 simp only [lG]
 exact .inr (.inr (.inl ⟨hr,ha⟩))
theorem QV {P:Program} [aD P] {l:List Oper} {t t':List AV} {b b':List aG} {fl:List (Nat×Nat×List AV)} {K:AS->Prop} {i:Nat} {op:Oper} {r:List Oper} {vs:List AV} {h:List (Nat×List aG)}
  (htl:(uJ l i&&BL l i)=true) (ht:gI (fun k=>decide (k < i)) 0 l vs t=t') (ho:oU (fun k=>decide (k < i)) false fl (top b h)=b') (ha:kW P l (op::r) ⟨t',b'⟩ K):lG P l t b fl K i (op::r) vs h:=by
 subst ht;subst ho
 simp only [Bool.and_eq_true] at htl
 simp only [lG]
 exact .inr (.inr (.inr ⟨htl.1,htl.2,ha⟩))
def Ki (J:Nat->Bool):Nat->List Oper->List Bool
 |_,[]=>[]
 |j,_::r=>J j::Ki J (j+1) r
theorem QW {J:Nat->Bool}:∀(l:List Oper) (j i:Nat),(Ki J j l)[i]? =if i < l.length then some (J (j+i)) else none
 |[],_,_=>by simp [Ki]
 |_::r,j,0=>by simp [Ki]
 |_::r,j,i+1=>by
  simp only [Ki,getElem?_cons_succ,length_cons]
  rw [QW r (j+1) i,show j+1+i=j+(i+1) by omega]
  simp
theorem G7 (J:Nat->Bool) (l:List Oper):(range l.length).map J=Ki J 0 l:=by
 refine ext_getElem? fun i=> ?_
 rw [QW,getElem?_map]
 by_cases hi:i < l.length
 ·simp [hi]
 ·simp [hi]
def Nf (d:List Bool):Nat->List Oper->List Nat
 |_,[]=>[]
 |i,op::r=>if (!d.getD i false&&(pre op).all fun e=>d.getD e false)=true then i::Nf d (i+1) r else Nf d (i+1) r
theorem Ea {d:List Bool}:∀{l:List Oper} {k i:Nat},i∈Nf d k l↔∃j op,l[j]? =some op/\i=k+j/\(!d.getD i false&&(pre op).all fun e=>d.getD e false)=true
 |[],k,i=>by simp [Nf]
 |op::r,k,i=>by
  simp only [Nf]
  constructor
  ·intro h
   by_cases hc:(!d.getD k false&&(pre op).all fun e=>d.getD e false)=true
   ·rw [if_pos hc] at h
    rcases mem_cons.1 h with rfl|h
    ·exact ⟨0,op,rfl,rfl,hc⟩
    ·obtain ⟨j,o,h1,h2,h3⟩:=Ea.1 h
     exact ⟨j+1,o,by simpa using h1,by omega,h3⟩
   ·rw [if_neg hc] at h
    obtain ⟨j,o,h1,h2,h3⟩:=Ea.1 h
    exact ⟨j+1,o,by simpa using h1,by omega,h3⟩
  ·rintro ⟨j,o,h1,rfl,h3⟩
   cases j with
   |zero=>
    simp at h1;subst h1
    rw [Nat.add_zero] at h3⊢
    rw [if_pos h3];simp
   |succ j=>
    have:=Ea.2 ⟨j,o,by simpa using h1,show k+(j+1)=k+1+j by omega,h3⟩
    split
    ·exact mem_cons_of_mem _ this
    ·exact this
theorem QX {P:Program} [aD P] {l:List Oper} {K:AS->Prop} {n:Nat} {d:List Bool} {s:AS} {r':List Nat} (h:rZ P l K n d s r'):∀r:List Nat,(∀i∈r,i∈r')->rZ P l K n d s r
 |[],_=>by simp only [rZ]
 |i::r,hs=>by
  simp only [rZ]
  exact ⟨Jc h i (hs i (by simp)),QX h r fun j hj=>hs j (by simp [hj])⟩
theorem go_all {P:Program} [aD P] {l:List Oper} {K:AS->Prop} {n:Nat} {d:List Bool} {s:AS} {rl:List Nat} (hr:Nf d 0 l=rl) (h:rZ P l K n d s rl):wJ P l K (n+1) d s:=by
 simp only [wJ]
 refine QX h _ fun i hi=> ?_
 rw [<-hr,Ea]
 unfold SG at hi
 rw [mem_filter] at hi
 obtain ⟨h1,h2⟩:=hi
 have hlt:i < l.length:=by simpa using h1
 have hop:=getElem?_eq_getElem hlt
 have hp:lN l i=pre l[i]:=by simp [lN,hop]
 exact ⟨i,l[i],hop,by omega,by rw [<-hp];exact h2⟩
theorem go_end {P:Program} [aD P] {l:List Oper} {K:AS->Prop} {d:List Bool} {s:AS} (h:K s):wJ P l K 0 d s:=by simpa only [wJ] using h
theorem go_one {P:Program} [aD P] {l:List Oper} {K:AS->Prop} {n:Nat} {d d':List Bool} {s:AS} {i:Nat} {op:Oper} (hop:l[i]? =some op) (hd:d.set i true=d') (h:kW P l [op] s fun s'=>wJ P l K n d' s'):rZ P l K n d s [i]:=by
 subst hd
 simp only [rZ]
 exact ⟨⟨op,hop,h⟩,trivial⟩
theorem sy {P:Program} [aD P] {l:List Oper} {K:AS->Prop} {n:Nat} {d:List Bool} {s:AS} {i j:Nat} {r:List Nat} (h1:rZ P l K n d s [i]) (h2:rZ P l K n d s (j::r)):rZ P l K n d s (i::j::r):=by
 simp only [rZ] at h1 h2⊢
 exact ⟨h1.1,h2⟩
theorem sx {F:List Nat->Prop} {acc:List Nat} {z:Nat} {r:List Nat} (h1:Bc F acc r) (h2:Bc F (z::acc) r):Bc F acc (z::r):=⟨h1,h2⟩
theorem go_sub {P:Program} [aD P] {l:List Oper} {t t':List AV} {b o':List aG} {fl:List (Nat×Nat×List AV)} {K:AS->Prop} {i n:Nat} {vs:List AV} {h:List (Nat×List aG)} {acc:List Nat} {d:List Bool} (hd:Ki (jz i acc) 0 l=d) (hn:left d=n) (ht:gI (jz i acc) 0 l vs t=t') (ho:oU (jz i acc) false fl (oJ (jz i acc) b h)=o')
  (ha:wJ P l K n d ⟨t',o'⟩):Bc (fun z=>wJ P l K (left ((range l.length).map (jz i z))) ((range l.length).map (jz i z)) ⟨gI (jz i z) 0 l vs t,oU (jz i z) false fl (oJ (jz i z) b h)⟩) acc []:=by
 subst hn;subst ht;subst ho;subst hd
 simp only [Bc,G7]
 exact ha
theorem Dc {P:Program} [aD P] {all:List Oper} {K1 K2:AS->Prop} (hk:∀s',K1 s'->K2 s'):∀(r:List Oper) (s:AS),kW P all r s K1->kW P all r s K2
 |[],s,h=>by simp only [kW] at h⊢;exact hk s h
 |o::r,s,h=>by
  simp only [kW] at h⊢
  split at h
  ·rcases h with h|h
   ·exact .inl (SE (Dc hk r) h)
   ·exact .inr (F6 (Dc hk r) h)
  ·split at h
   ·exact ⟨fun e=>SE (Dc hk r) (h.1 e),fun e=>Dc hk r _ (h.2 e)⟩
   ·exact h.elim
mutual
theorem Vg {P:Program} [aD P] {l:List Oper} {K1 K2:AS->Prop} (hk:∀s',K1 s'->K2 s'):∀(n:Nat) (d:List Bool) (s:AS),wJ P l K1 n d s->wJ P l K2 n d s
 |0,d,s,h=>by simp only [wJ] at h⊢;exact hk s h
 |n+1,d,s,h=>by simp only [wJ] at h⊢;exact QY hk n d s _ h
theorem QY {P:Program} [aD P] {l:List Oper} {K1 K2:AS->Prop} (hk:∀s',K1 s'->K2 s'):∀(n:Nat) (d:List Bool) (s:AS) (r:List Nat),rZ P l K1 n d s r->rZ P l K2 n d s r
 |n,d,s,[],h=>by simp only [rZ]
 |n,d,s,i::r,h=>by
  simp only [rZ] at h⊢
  obtain ⟨⟨op,h1,h2⟩,h3⟩:=h
  exact ⟨⟨op,h1,Dc (fun s'=>Vg hk n _ s') _ _ h2⟩,QY hk n d s r h3⟩
end
theorem Ng {F1 F2:List Nat->Prop} (hk:∀z,F1 z->F2 z):∀(z acc:List Nat),Bc F1 acc z->Bc F2 acc z
 |[],acc,h=>hk acc h
 |x::z,acc,h=>⟨Ng hk z acc h.1,Ng hk z (x::acc) h.2⟩
theorem BM {P:Program} [aD P] {l:List Oper} {t:List AV} {b:List aG} {fl:List (Nat×Nat×List AV)} {K:AS->Prop} {i:Nat} {op:Oper} {r:List Oper} {vs:List AV} {h:List (Nat×List aG)} {z:List Nat} {s1:AS}
  (hr:uJ l i=true) (hz:qG l i=z) (ha:Bc (fun z=>wJ P l (fun s'=>s'=s1) (left ((range l.length).map (jz i z))) ((range l.length).map (jz i z)) ⟨gI (jz i z) 0 l vs t,oU (jz i z) false fl (oJ (jz i z) b h)⟩) [] z) (hk:K s1):lG P l t b fl K i (op::r) vs h:=
 Jg hr hz (Ng (fun z h=>Vg (fun s' e=>by subst e;exact hk) _ _ _ h) _ _ ha)
def Nh (P:Program):Nat->Nat->List Oper->List (Nat×Nat×List AV)
 |_,_,[]=>[]
 |i,n,op::r=>match op.op with
  | .alloc T=>match dA P T with
   |some z=>(i,n,z)::Nh P (i+1) (n+1) r
   |none=>Nh P (i+1) n r
  |_=>Nh P (i+1) n r
attribute [irreducible] lG
def aZ (t:List AV):List (Nat×AV)->List AV
 |[]=>t
 |p::r=>aZ (t.set p.1 p.2) r
theorem aJ {P:Program} [aD P] {c:Code} {s:AS} {Q:Exit->AS->Prop} {ι:Type} (inv:List AV->List aG->ι->AS) (μ:ι->Nat) (i:ι) (h0:lS s (inv s.t s.o i)) (h:∀i,∀K:AS->Prop,(∀s' j,lS s' (inv s.t s.o j)->μ j < μ i->K s')->qU P c (inv s.t s.o i) (AY K Q)):qU P (.loop c) s Q:=yj (inv s.t s.o) μ i h0 h
attribute [irreducible] Bc
attribute [simp] Ki Nf jz left oU PK CZ Nh pre F9 mR xL gI oJ top Cn rT Db aZ
end Go.Aw

namespace Go.Aw
open List
theorem ib {P:Program} [aD P] {all r:List Oper} {o:Oper} {s:AS} {K:AS->Prop} {j:Nat} {want:Bool} (hg:o.guard=some (j,want)) (hb:oG all s j want= .bool (!want)) (h:kW P all r (s.put o.dst (.gV [])) K):kW P all (o::r) s K:=by
 unfold kW
 rw [hg]
 dsimp only
 rw [hb]
 exact ⟨fun hn=>(by cases want<;>cases hn),fun _=>h⟩
theorem Vh {α:Type} {l:List α} {i:Nat} {x:α} (h:l[i]? =some x):l.set i x=l:=by
 obtain ⟨hi,rfl⟩:=List.getElem?_eq_some_iff.1 h
 exact set_getElem_self hi
theorem XV {P:Program} [aD P] {all r:List Oper} {o:Oper} {s:AS} {K:AS->Prop} {j d:Nat} {want b:Bool} (hg:o.guard=some (j,want)) (hd:(all[j]?).bind (·.dst)=some d) (hb:s.t[d]? =some (.bool b))
  (h1:b=true->kW P all (o::r) ⟨s.t.set d (.bool true),s.o⟩ K) (h2:b=false->kW P all (o::r) ⟨s.t.set d (.bool false),s.o⟩ K):kW P all (o::r) s K:=by
 cases b
 ·have:=h2 rfl
  rw [Vh hb] at this;exact this
 ·have:=h1 rfl
  rw [Vh hb] at this;exact this
def BN {α:Type} (f:α->Bool) (l:List α):Int:=if l.any f=true then (l.findIdx f:Nat) else -1
theorem Eb {α:Type} {f:α->Bool} {l:List α} {k:Nat} (h:k < l.length) (hf:f l[k]=true) (hn:∀x∈l.take k,f x=false):BN f l=k:=by
 unfold BN
 rw [if_pos (any_eq_true.2 ⟨_,getElem_mem h,hf⟩)]
 have:l.findIdx f=k:=by
  rw [findIdx_eq h]
  refine ⟨hf,fun j hj=> ?_⟩
  exact hn _ (mem_take_iff_getElem.2 ⟨j,by omega,rfl⟩)
 rw [this]
theorem vH {α:Type} {f:α->Bool} {l:List α} (hn:∀x∈l,f x=false):BN f l= -1:=by
 unfold BN
 rw [if_neg]
 intro h
 obtain ⟨x,hx,hf⟩:=any_eq_true.1 h
 rw [hn x hx] at hf;cases hf
theorem Kj {α:Type} (f:α->Bool) (l:List α):decide (0<=BN f l)=l.any f:=by
 unfold BN
 cases h:l.any f<;>simp
theorem dS {α:Type} {p:α->Prop} {l:List α} {k:Nat} (h:k < l.length) (ha:∀x∈l.take k,p x) (hk:p l[k]):∀x∈l.take (k+1),p x:=by
 rw [take_succ_eq_append_getElem h]
 intro x hx
 rcases mem_append.1 hx with hx|hx
 ·exact ha x hx
 ·rw [mem_singleton.1 hx];exact hk
theorem lW {α:Type} {p:α->Prop} {l:List α} {k:Nat} (hk:l.length<=k) (ha:∀x∈l.take k,p x):∀x∈l,p x:=by
 rwa [take_of_length_le hk] at ha
theorem jX {n:Int} {k:Nat} (h:n<=1048576):sub n k<=1048576:=by unfold sub;split<;>omega
theorem iI {n:Int} {k:Nat} (h:n<=1048576):n - (k:Int)<=1048576:=by omega
theorem jY {n m:Int} {k:Nat} (e:sub n k=m) (h:0<=m):m=n - k/\(k:Int)<=n:=by unfold sub at e;split at e<;>omega
theorem iJ {n m:Int} {k:Nat} (e:sub n k=m) (h0:0<=n) (h:m < 0):m= -1/\n < k:=by unfold sub at e;split at e<;>omega
end Go.Aw

namespace Go.Aw
open List
open Go.ChangeShapes Go.WideShapes Go.ChangeAt Go.RowKit
inductive Sh
  | int (k : IntKind)
  | bool
  | str
  | sl (n : Nat) (row : List Sh)
mutual
def Fits:Sh->AV->Prop
 | .int k,.int k' n=>k'=k/\(Lit.int k n).wf=true
 | .bool,.bool _=>True
 | .str,.str s=>s.length<=maxLen
 | .sl n row,.sl g n' rows=>g= .view/\n'=n/\rows.length<=maxLen/\∀r∈rows,jR row r
 |_,_=>False
def jR:List Sh->List AV->Prop
 |[],[]=>True
 |s::ss,x::xs=>Fits s x/\jR ss xs
 |_,_=>False
end
theorem Gr:∀{ss tt:List Sh} {xs ys:List AV},jR ss xs->jR tt ys->jR (ss++tt) (xs++ys)
 |[],_,[],_,_,h=>h
 |s::ss,_,x::xs,_,h,h'=>by simp only [jR,cons_append] at h⊢;exact ⟨h.1,Gr h.2 h'⟩
 |[],_,_::_,_,h,_=>h.elim
 |_::_,_,[],_,h,_=>h.elim
def H7 (sh:TypeId->Option (List Sh)) (P:Program):List Field->Nat->Option (List Sh)
 |[],_=>some []
 |x::xs,o=>if x.offset=o then match sh x.type with
   |some a=>if a.length=P.cellsOf x.type then match H7 sh P xs (o+a.length) with
     |some b=>some (a++b)
     |none=>none
    else none
   |none=>none
  else none
def Zq (P:Program):Nat->TypeId->Option (List Sh)
 |0,_=>none
 |f+1,t=>match P.underlying t with
  |some .bool=>some [.bool]
  |some (.int k)=>some [.int k]
  |some .string=>some [.str]
  |some (.slice e)=>match Zq P f e with
   |some row=>if row.length=P.cellsOf e/\0 < row.length then some [.sl row.length row] else none
   |none=>none
  |some (.struct fs)=>match H7 (Zq P f) P fs.toList 0 with
   |some r=>if r.length=P.cellsOf t then some r else none
   |none=>none
  |_=>none
theorem JY {α:Type} {p:Nat->α->Prop}:∀(n:Nat),(∀i,i < n->∃x,p i x)->∃l:List α,l.length=n/\∀i x,l[i]? =some x->p i x
 |0,_=>⟨[],rfl,fun i x h=>by simp at h⟩
 |n+1,h=>by
  obtain ⟨l,hl,hp⟩:=JY n (fun i hi=>h i (by omega))
  obtain ⟨x,hx⟩:=h n (by omega)
  refine ⟨l++[x],by simp [hl],fun i y hy=> ?_⟩
  by_cases hi:i < l.length
  ·rw [getElem?_append_left hi] at hy;exact hp i y hy
  ·rw [getElem?_append_right (by omega)] at hy
   have:i - l.length=0:=by
    cases hk:i - l.length with
    |zero=>rfl
    |succ k=>rw [hk] at hy;simp at hy
   rw [this] at hy
   simp at hy
   subst hy
   have:i=n:=by omega
   subst this;exact hx
theorem aEx {w:World} {E:Env} {b n:Nat}:∀(rows:List (List AV)) (off:Nat),
  (∀j r,rows[j]? =some r->∃cs:List Value,cs.length=n/\bD w b (off+j * n) cs/\(∀x∈cs,x.oneCell'=true)/\Rc w E r cs [])->Rr w E rows b off n []
 |[],_,_=>by simp [Rr]
 |r::rs,off,h=>by
  obtain ⟨cs,h1,h2,h3,h4⟩:=h 0 r rfl
  refine ⟨cs,[],[],h1,by simpa using h2,h3,h4,aEx rs (off+n) fun j r hj=> ?_,rfl⟩
  obtain ⟨cs,h1,h2,h3,h4⟩:=h (j+1) r (by simpa using hj)
  exact ⟨cs,h1,by rw [Nat.add_mul,Nat.one_mul,show off+(j * n+n)=off+n+j * n by omega] at h2;exact h2,h3,h4⟩
section
variable {H : Type} {enc : TypeId × Value -> H} {P : Program} [aD P] {w : World} {spare : Nat -> Bool} {held : Bool}
def Reads (enc:TypeId×Value->H) (P:Program) (w:World) (spare:Nat->Bool) (held:Bool) (t:TypeId) (ss:List Sh):Prop:=
 ∀fuel cs x,DataW.trod enc P w 0 spare held fuel t cs=some x->∃QH,jR ss QH/\Rc w (lV w) QH cs []/\∀c∈cs,c.oneCell'=true
theorem Gt {sh:TypeId->Option (List Sh)} (ih:∀t ss,sh t=some ss->Reads enc P w spare held t ss) {n:Nat} {cs:List Value}:
  ∀(fs:List Field) (o:Nat) (rs:List Sh),H7 sh P fs o=some rs->(∀f∈fs,∃y,DataW.trod enc P w 0 spare held n f.type ((cs.drop f.offset).take (P.cellsOf f.type))=some y)->
   ∃QH,jR rs QH/\Rc w (lV w) QH ((cs.drop o).take rs.length) []/\∀c∈(cs.drop o).take rs.length,c.oneCell'=true
 |[],o,rs,h,_=>by
  simp only [H7,Option.some.injEq] at h
  subst h
  exact ⟨[],by simp [jR],by simp [Rc],by simp⟩
 |f::fs,o,rs,h,hf=>by
  simp only [H7] at h
  split at h
  ·rename_i ho
   split at h
   ·rename_i a ha
    split at h
    ·rename_i hl
     split at h
     ·rename_i b hb
      obtain rfl:=Option.some.inj h
      obtain ⟨y,hy⟩:=hf f (by simp)
      obtain ⟨x1,h1,h2,h3⟩:=ih _ _ ha _ _ _ hy
      obtain ⟨x2,h4,h5,h6⟩:=Gt ih fs _ _ hb fun f hf'=>hf f (by simp [hf'])
      rw [ho,<-hl] at h2 h3
      have e:(cs.drop o).take (a++b).length=(cs.drop o).take a.length++(cs.drop (o+a.length)).take b.length:=by
       rw [length_append,take_add,drop_drop]
      refine ⟨x1++x2,Gr h1 h4,by rw [e];exact kU h2 h5,fun c hc=> ?_⟩
      rw [e,mem_append] at hc
      exact hc.elim (h3 c) (h6 c)
     ·cases h
    ·cases h
   ·cases h
  ·cases h
theorem reads:∀(f:Nat) (t:TypeId) (ss:List Sh),Zq P f t=some ss->Reads enc P w spare held t ss
 |0,_,_,h=>by simp [Zq] at h
 |f+1,t,ss,h=>by
  intro fuel cs x hx
  unfold Zq at h
  split at h
  ·rename_i ht
   obtain rfl:=Option.some.inj h
   obtain ⟨b,rfl,_⟩:=DataW.trod_bool ht hx
   exact ⟨[.bool b],by simp [jR,Fits],by simp [Rc,R],by simp [Value.oneCell']⟩
  ·rename_i k ht
   obtain rfl:=Option.some.inj h
   obtain ⟨n,rfl,_,hw⟩:=DataW.trod_int ht hx
   exact ⟨[.int k n],by simp [jR,Fits,hw],by simp [Rc,R],by simp [Value.oneCell']⟩
  ·rename_i ht
   obtain rfl:=Option.some.inj h
   obtain ⟨s,rfl,_,hw⟩:=DataW.trod_string ht hx
   exact ⟨[.str s.data.toList],by simpa [jR,Fits] using hw,by simp [Rc,R],by simp [Value.oneCell']⟩
  ·rename_i e ht
   split at h
   ·rename_i row xx
    split at h
    ·rename_i hc
     obtain rfl:=Option.some.inj h
     have ih:=reads f e row xx
     rcases DataW.trod_slice ht hx with ⟨rfl,_⟩|⟨a,len,cap,elems,rest,n,_,rfl,_,_,hlc,Zr,hlen,Ls,_,_⟩
     ·exact ⟨[.sl .view row.length []],by simp [jR,Fits],by simp [Rc,R,maxLen],by simp [Value.oneCell']⟩
     ·rw [<-hc.1] at Ls
      have yl:∀i,i < len->∃r:List AV,jR row r/\∃cs,w.cells? 0 (a.add (i * row.length)) row.length=some cs/\(∀x∈cs,x.oneCell'=true)/\Rc w (lV w) r cs []:=by
       intro i hi
       have h1:=Ls i hi
       rw [getElem?_eq_getElem (by omega)] at h1
       obtain ⟨cs,hcs,jo⟩:=Option.bind_eq_some_iff.1 h1
       obtain ⟨r,h2,h3,h4⟩:=ih _ _ _ jo
       exact ⟨r,h2,cs,hcs,h4,h3⟩
      obtain ⟨rows,hrl,Tc⟩:=JY len yl
      refine ⟨[.sl .view row.length rows],?_,?_,by simp [Value.oneCell']⟩
      ·simp only [jR,Fits,and_true,true_and]
       refine ⟨by omega,fun r hr=> ?_⟩
       obtain ⟨i,hi⟩:=getElem?_of_mem hr
       exact (Tc i r hi).1
      ·simp only [Rc]
       refine ⟨[],[],?_,rfl,rfl⟩
       simp only [R]
       refine .inr ⟨some a,cap,by rw [hrl],⟨by omega,by omega⟩,.inr (.inr ⟨by simp,trivial,?_⟩)⟩
       by_cases hl0:len=0
       ·exact .inl (length_eq_zero_iff.1 (by omega))
       right
       have h0:rows[0]? =some rows[0]:=getElem?_eq_getElem (by omega)
       obtain ⟨_,cs0,aGc,_⟩:=Tc 0 _ h0
       have hcell:=(World.cells?_some aGc).2.2 0 hc.2
       have aRo:=(World.cells?_some aGc).2.1
       have aEy:a.spot=none:=by
        have:w.cell? a=cs0[0]?:=by simpa [Addr.add] using hcell
        rw [getElem?_eq_getElem (by omega)] at this
        unfold World.cell? at this
        split at this
        ·split at this
         ·cases this
         ·rename_i hs;simpa using hs
        ·cases this
       have aBw:a.block < w.heap.size:=by
        have:=World.cells?_block aGc hc.2
        unfold Addr.add at this
        split at this<;>exact this
       obtain ⟨ab,ao,asp⟩:=a
       simp only at aEy aBw
       subst aEy
       refine ⟨ab,ao,rfl,aBw,aEx rows ao fun j r hj=> ?_⟩
       obtain ⟨_,cs,hcs,h1,hR⟩:=Tc j r hj
       have hs:=World.cells?_some hcs
       refine ⟨cs,hs.2.1,fun k v hv=> ?_,h1,?_⟩
       ·have hk:k < row.length:=by
         have:=(List.getElem?_eq_some_iff.1 hv).1
         omega
        have:=hs.2.2 k hk
        rw [hv] at this
        rw [<-this]
        congr 1
        unfold Addr.add
        split<;>split<;>simp_all<;>omega
       ·exact dF (w:=w) (w':=w) (E:=lV w) ⟨fun b hb=>⟨hb,rfl⟩,fun _ h=>trivial,fun _ _ _ h=>by exact h.elim,fun _ _ _ h=>by exact h.elim,fun _ _ _ _ _ h=>by exact h.elim⟩ _ _ _ (by simp) hR
    ·cases h
   ·cases h
  ·rename_i fs ht
   split at h
   ·rename_i r hr
    split at h
    ·rename_i hc
     obtain rfl:=Option.some.inj h
     obtain ⟨xs,n,_,_,wU,hxl,vC⟩:=DataW.trod_struct ht hx
     obtain ⟨QH,h1,h2,h3⟩:=Gt (enc:=enc) (w:=w) (spare:=spare) (held:=held) (n:=n) (cs:=cs) (reads f) fs.toList 0 _ hr fun fl hfl=>by
      obtain ⟨i,hi⟩:=getElem?_of_mem hfl
      have:=vC i fl (by simpa using hi)
      have hlt:=(List.getElem?_eq_some_iff.1 hi).1
      simp at hlt
      rw [getElem?_eq_getElem (by omega)] at this
      exact ⟨_,this⟩
     rw [drop_zero,take_of_length_le (by omega)] at h2 h3
     exact ⟨QH,h1,h2,h3⟩
    ·cases h
   ·cases h
  ·cases h
inductive Td
  | one (s : Sh)
  | agg (row : List Sh)
def ym:Td->AV->Prop
 | .one s,x=>Fits s x
 | .agg row,.agg c=>jR row c
 |_,_=>False
def IM:List Td->List AV->Prop
 |[],[]=>True
 |s::ss,x::xs=>ym s x/\IM ss xs
 |_,_=>False
def shV (P:Program) (f:Nat) (t:TypeId):Option Td:=match P.underlying t with
 |some (.struct _)=>(Zq P f t).map .agg
 |some .bool|some (.int _)|some .string|some (.slice _)=>match Zq P f t with
  |some [s]=>some (.one s)
  |_=>none
 |_=>none
def yn (P:Program) (f:Nat):List TypeId->Option (List Td)
 |[]=>some []
 |t::ts=>match shV P f t,yn P f ts with
  |some s,some ss=>some (s::ss)
  |_,_=>none
theorem dh {v:Value} (h:∀cs,v≠ .agg cs):v.cells=#[v]:=by
 cases v<;>first|rfl|exact absurd rfl (h _)
theorem aGd {base:Nat} {f:Nat} {t:TypeId} {s:Td} (h:shV P f t=some s) {v:Value} {d:DataW H} {ps:List MemPlace} (uX:Value.okWide P w .any base t v)
  (hT:DataW.Trod enc P w 0 spare held t v d ps):∃av,ym s av/\R w (lV w) av v []:=by
 obtain ⟨fuel,hT⟩:=hT
 unfold shV at h
 have one:(∀cs,v≠ .agg cs)->(match Zq P f t with|some [s]=>some (Td.one s)|_=>none)=some s->∃av,ym s av/\R w (lV w) av v []:=by
  intro hv h
  split at h
  ·rename_i s1 hs
   obtain rfl:=Option.some.inj h
   obtain ⟨QH,h1,h2,_⟩:=reads f t _ hs _ _ _ hT
   rw [dh hv] at h2
   cases QH with
   |nil=>exact h1.elim
   |cons x xs=>
    cases xs with
    |nil=>
     simp only [Rc] at h2
     obtain ⟨f1,f2,hr,rfl,e⟩:=h2
     simp only [append_nil] at e
     subst e
     simp only [jR] at h1
     exact ⟨x,h1.1,hr⟩
    |cons y ys=>simp [jR] at h1
  ·cases h
 split at h
 ·rename_i fs ht
  obtain ⟨ss,hs,rfl⟩:=Option.map_eq_some_iff.1 h
  obtain ⟨cs,rfl,_⟩:=okWide_struct ht uX
  obtain ⟨QH,h1,h2,h3⟩:=reads f t _ hs _ _ _ hT
  exact ⟨.agg QH,h1,by simp only [R];exact ⟨cs.toList,by simp,h3,h2⟩⟩
 ·rename_i ht;exact one (fun cs e=>by subst e;simp [Value.okWide,ht,Cell.okWide,Cell.ok] at uX) h
 ·rename_i ht;exact one (fun cs e=>by subst e;simp [Value.okWide,ht,Cell.okWide,Cell.ok] at uX) h
 ·rename_i ht;exact one (fun cs e=>by subst e;simp [Value.okWide,ht,Cell.okWide,Cell.ok] at uX) h
 ·rename_i ht;exact one (fun cs e=>by subst e;simp [Value.okWide,ht,Cell.okWide,Cell.ok] at uX) h
 ·cases h
theorem Zt {base:Nat} {f:Nat}:∀{ts:List TypeId} {ss:List Td},yn P f ts=some ss->∀{vs:List Value} {ds:List (DataW H)} {ps:List MemPlace},
  (∀(j:Nat) t v,ts[j]? =some t->vs[j]? =some v->Value.okWide P w .any base t v)->DataW.TrodAll enc P w 0 spare held ts vs ds ps->∃QH,IM ss QH/\Rc w (lV w) QH vs []
 |[],ss,h,[],_,_,_,_=>by
  simp only [yn,Option.some.injEq] at h
  subst h
  exact ⟨[],trivial,by simp [Rc]⟩
 |t::ts,ss,h,v::vs,d::ds,ps,uX,hT=>by
  simp only [yn] at h
  split at h
  ·rename_i s ss' h1 h2
   obtain rfl:=Option.some.inj h
   obtain ⟨p,q,ht,hr,_⟩:=hT
   obtain ⟨x,hx,hR⟩:=aGd h1 (uX 0 t v rfl rfl) ht
   obtain ⟨xs,hxs,hRs⟩:=Zt h2 (fun j t v h1 h2=>uX (j+1) t v (by simpa using h1) (by simpa using h2)) hr
   exact ⟨x::xs,⟨hx,hxs⟩,by simp only [Rc];exact ⟨[],[],hR,hRs,rfl⟩⟩
  ·cases h
 |[],_,_,_::_,_,_,_,hT=>by simp [DataW.TrodAll] at hT
 |_::_,_,_,[],_,_,_,hT=>by simp [DataW.TrodAll] at hT
 |_::_,_,_,_::_,[],_,_,hT=>by simp [DataW.TrodAll] at hT
theorem Ex (hl:laidOutB P=true) {W W':World} (hb:Below W.heap.size W W'):∀{ts:List TypeId} {vs:List Value} {ds:List (DataW H)} {ps:List MemPlace},
  (∀t∈ts,P.readableRec t=true/\t < P.types.size)->DataW.TrodAll enc P W 0 (fun _=>true) true ts vs ds ps->(∀x∈ps,x.block < W.heap.size)->∀sp:Nat->Bool,(∀p∈ps,sp p.block=true)->
   DataW.TrodAll enc P W' 0 sp true ts vs ds ps
 |[],[],[],_,_,h,_,_,_=>h
 |t::ts,v::vs,d::ds,ps,hr,h,hlt,sp,hsp=>by
  obtain ⟨p,q,h1,h2,rfl⟩:=h
  refine ⟨p,q,?_,?_,rfl⟩
  ·exact WideElems.Trod_stays hl (hr t (by simp)).1 (hr t (by simp)).2 h1 (fun x hx=>hb.same (hlt x (by simp [hx]))) (fun x hx=>hsp x (by simp [hx]))
  ·exact Ex hl hb (fun t ht=>hr t (by simp [ht])) h2 (fun x hx=>hlt x (by simp [hx])) sp (fun x hx=>hsp x (by simp [hx]))
 |[],_::_,_,_,_,h,_,_,_=>h.elim
 |[],[],_::_,_,_,h,_,_,_=>h.elim
 |_::_,[],_,_,_,h,_,_,_=>h.elim
 |_::_,_::_,[],_,_,h,_,_,_=>h.elim
end
theorem nM {α:Type} {row:List Sh} {e:α->List AV} {p:α->Prop} (h:∀r,jR row r->∃x,r=e x/\p x):∀rows:List (List AV),(∀r∈rows,jR row r)->∃l:List α,rows=l.map e/\∀x∈l,p x
 |[],_=>⟨[],rfl,by simp⟩
 |r::rs,hr=>by
  obtain ⟨x,rfl,hx⟩:=h r (hr r (by simp))
  obtain ⟨l,rfl,hl⟩:=nM h rs (fun r h=>hr r (by simp [h]))
  exact ⟨x::l,rfl,by simpa using ⟨hx,hl⟩⟩
theorem uF {r:List AV} (h:jR [] r):r=[]:=by
 cases r with
 |nil=>rfl
 |cons _ _=>exact h.elim
theorem jK {ss:List Sh} {r:List AV} (h:jR (.str::ss) r):∃s r',r= .str s::r'/\s.length<=9223372036854775807/\jR ss r':=by
 match r,h with
 |[],h=>exact h.elim
 | .str s::r',h=>exact ⟨s,r',rfl,h.1,h.2⟩
theorem fits_int {k:IntKind} {ss:List Sh} {r:List AV} (h:jR (.int k::ss) r):∃n r',r= .int k n::r'/\(k.min<=n/\n<=k.max)/\jR ss r':=by
 match r,h with
 |[],h=>exact h.elim
 | .int k' n::r',h=>
  obtain ⟨⟨rfl,hw⟩,h2⟩:=h
  exact ⟨n,r',rfl,by simpa [Lit.wf] using hw,h2⟩
theorem fits_bool {ss:List Sh} {r:List AV} (h:jR (.bool::ss) r):∃b r',r= .bool b::r'/\jR ss r':=by
 match r,h with
 |[],h=>exact h.elim
 | .bool b::r',h=>exact ⟨b,r',rfl,h.2⟩
theorem rG {n:Nat} {row ss:List Sh} {r:List AV} (h:jR (.sl n row::ss) r):∃rows r',r= .sl .view n rows::r'/\rows.length<=9223372036854775807/\(∀x∈rows,jR row x)/\jR ss r':=by
 match r,h with
 |[],h=>exact h.elim
 | .sl g n' rows::r',h=>
  obtain ⟨⟨rfl,rfl,h1,h2⟩,h3⟩:=h
  exact ⟨rows,r',rfl,h1,h2,h3⟩
theorem di {r:List AV} (h:IM [] r):r=[]:=by
 cases r with
 |nil=>rfl
 |cons _ _=>exact h.elim
theorem dm {row:List Sh} {ss:List Td} {r:List AV} (h:IM (.agg row::ss) r):∃c r',r= .agg c::r'/\jR row c/\IM ss r':=by
 match r,h with
 |[],h=>exact h.elim
 |x::r',h=>
  cases x with
  |agg c=>exact ⟨c,r',rfl,h.1,h.2⟩
  |_=>exact h.1.elim
theorem yo {C:Checked} [T:aD C.prog] {f:FuncId} {fn:Func} {s:ChangeSpec} {apart fresh handsOn again:Bool} {H:Type} {enc:TypeId×Value->H} {ss:List Td} {fuel:Nat} {tb:TypeId}
  (hl:laidOutB C.prog=true) (aJ4:∀t∈fn.params.toList,C.prog.readableRec t=true/\t < C.prog.types.size)
  (hsh:yn C.prog fuel fn.params.toList=some ss) (jD:fn.resultTypes=#[tb]) (hb:C.prog.underlying tb=some .bool) (aEz:s.vars=[])
  (hfn:∀ds:List (DataW H),ds.length=fn.params.toList.length->s.fn H ds={results:=[.lit (.bool true)],args:=ds})
  (uX:∀QH,IM ss QH->Ok C.prog f QH (.bool true))
  {W:World} {base:Nat} {args:Array Value} {ds gs:List (DataW H)} {before:List MemPlace} (hT:aD.holds C.prog W)
  (hval:∀(j:Nat) t v,fn.params[j]? =some t->args[j]? =some v->Value.okWide C.prog W .any base t v)
  (hW:DataW.Whole enc C.prog fn.params.toList s.vars apart W args.toList ds gs before):
  Calls C.prog f args W fun e W'=>∃v,e= .returned v/\s.post enc C.prog fn apart fresh handsOn again W args v W':=by
 obtain ⟨p,q,hA,hV,hpq,hz,hn⟩:=id hW
 rw [aEz] at hV
 obtain ⟨rfl,rfl⟩:gs=[]/\q=[]:=by
  cases gs with
  |nil=>exact ⟨rfl,hV⟩
  |cons _ _=>exact hV.elim
 rw [append_nil] at hpq
 subst hpq
 have hlen:ds.length=fn.params.toList.length:=by
  have:∀(ts:List TypeId) (vs:List Value) (ds:List (DataW H)) ps,DataW.TrodAll enc C.prog W 0 (fun _=>true) true ts vs ds ps->ds.length=ts.length:=by
   intro ts
   induction ts with
   |nil=>intro vs ds ps h;cases vs<;>cases ds<;>simp_all [DataW.TrodAll]
   |cons t ts ih=>intro vs ds ps h;cases vs<;>cases ds<;>simp_all [DataW.TrodAll];obtain ⟨_,_,_,h,_⟩:=h;exact ih _ _ _ h
  exact this _ _ _ _ hA
 have aJ7:=hfn ds hlen
 obtain ⟨QH,aJ8,hR⟩:=Zt hsh (fun j t v h1 h2=>hval j t v (by simpa using h1) (by simpa using h2)) hA
 have hc:=uX QH aJ8 W args.toList hT hR
 rw [show args.toList.toArray=args from rfl] at hc
 refine hc.mono fun e W' ⟨v,fp,he,hr,_,_,hsz,mJ,CF⟩=>⟨v,he,?_⟩
 simp only [R] at hr
 obtain ⟨rfl,_⟩:=hr
 have hbl:Below W.heap.size W W':=⟨CF.os,CF.tape,CF.output,hsz,mJ⟩
 have hlt:∀x∈before,x.block < W.heap.size:=fun x hx=>hW.lt x hx
 have hsp:s.fn H (ds++[])={results:=[.lit (.bool true)],args:=ds}:=by rw [append_nil];exact aJ7
 have hargs:∀sp:Nat->Bool,(∀p∈before,sp p.block=true)->DataW.TrodAll enc C.prog W' 0 sp true fn.params.toList args.toList (s.fn H (ds++[])).args before:=by
  intro sp h;rw [hsp];exact Ex hl hbl aJ4 hA hlt sp h
 have hone:(Value.bool true).resultList fn.resultTypes.size=[.bool true]:=by rw [jD];rfl
 have aE0:∀(b:Nat) (sp:Nat->Bool) (hd:Bool),DataW.TrodAll enc C.prog W' b sp hd fn.resultTypes.toList ((Value.bool true).resultList fn.resultTypes.size) (s.fn H (ds++[])).results []:=by
  intro b sp hd
  rw [hsp,hone,jD]
  exact ⟨[],[],shut_bool hb true,rfl,rfl⟩
 have yt:∀sp:Nat->Bool,DataW.TrodVars enc C.prog W' sp s.vars (s.fn H (ds++[])).vars []:=by
  intro sp;rw [hsp,aEz];rfl
 have hold:∀p∈before,(fun b=>decide (b < W.heap.size)) p.block=true:=fun p hp=>by simpa using hlt p hp
 refine ⟨ds,[],before,[],before,[],hW,aE0 _ _ _,hargs _ hold,yt _,World.keptBut_mono (fun p hp=>hp.elim) (hbl.frame (fun _=>False)),fun _=> ?_⟩
 refine ⟨ok_one jD rfl (okWide_bool_mk hb true),_,_,([]++before)++[],⟨[]++before,[],trodAll_append (hargs _ (fun _ _=>rfl)) (aE0 _ _ _),yt _,rfl,?_,?_⟩,?_⟩
 ·intro b off hp
  have hp':MemPlace.cell b off∈before:=by simpa using hp
  rw [hbl.frozen (p:=⟨b,off,none⟩) (hlt _ hp')]
  exact hz b off hp'
 ·intro ha
  simpa using hn ha
 ·intro p hp _
  simpa using hp
end Go.Aw

namespace Go.Aw
open List
def NW:Sh->AV->Prop
 | .int k,.int k' _=>k'=k
 | .bool,.bool _=>True
 | .str,.str _=>True
 |_,_=>False
def uN:List Sh->List AV->Prop
 |[],[]=>True
 |s::ss,x::xs=>NW s x/\uN ss xs
 |_,_=>False
theorem uO:∀{ss:List Sh} {xs:List AV},uN ss xs->xs.length=ss.length
 |[],[],_=>rfl
 |s::ss,x::xs,h=>by simp only [uN] at h;simp [uO h.2]
 |[],_::_,h=>h.elim
 |_::_,[],h=>h.elim
theorem Dr:∀{ss tt:List Sh} {xs:List AV},uN (ss++tt) xs->uN ss (xs.take ss.length)/\uN tt (xs.drop ss.length)
 |[],_,xs,h=>by simpa [uN] using h
 |s::ss,tt,x::xs,h=>by
  simp only [cons_append,uN] at h
  simp only [length_cons,take_succ_cons,drop_succ_cons,uN]
  have:=Dr h.2
  exact ⟨⟨h.1,this.1⟩,this.2⟩
 |_::_,_,[],h=>h.elim
def Ak (P:Program) (t:TypeId):Bool:=match P.underlying t with|some (.struct _)=>true|_=>false
def valOf (P:Program) (t:TypeId) (cs:List Value):Value:=if Ak P t then .agg cs.toArray else cs.headD (.tuple #[])
def jg (P:Program):Nat->TypeId->Bool
 |0,_=>false
 |f+1,t=>match P.underlying t with
  |some .bool|some (.int _)|some .string=>P.cellsOf t == 1
  |some (.struct fs)=> !P.stoodInHeld t&&fs.toList.all fun x=>x.name != "_" &&jg P f x.type
  |_=>false
theorem Ku {P:Program} {w:World} {f:Nat} {t:TypeId} (he:jg P f t=true) (xs:List Value) (o:Nat) (h:P.cellsOf t=0\/o+P.cellsOf t<=xs.length):
  (part t xs.toArray o).run P w= .ok (valOf P t ((xs.drop o).take (P.cellsOf t))) w:=by
 cases f with
 |zero=>simp [jg] at he
 |succ f=>
  unfold jg at he
  have one:∀d,P.underlying t=some d->(d= .bool\/(∃k,d= .int k)\/d= .string)->P.cellsOf t=1->(part t xs.toArray o).run P w= .ok (valOf P t ((xs.drop o).take (P.cellsOf t))) w:=by
   intro d hu hd h1
   have hlt:o < xs.length:=by omega
   have e:(xs.drop o).take 1=[xs[o]]:=by rw [drop_eq_getElem_cons hlt,take_succ_cons,take_zero]
   rw [h1,e]
   rcases hd with rfl|⟨k,rfl⟩|rfl<;>simp [part,isAgg,run_underlying hu,valOf,Ak,hu,hlt]
  split at he
  ·rename_i hu;exact one _ hu (.inl rfl) (by simpa using he)
  ·rename_i hu;exact one _ hu (.inr (.inl ⟨_,rfl⟩)) (by simpa using he)
  ·rename_i hu;exact one _ hu (.inr (.inr rfl)) (by simpa using he)
  ·rename_i fs hu
   obtain ⟨i,hi⟩:=info_of_underlying hu
   have hl:xs.toArray.extract o (o+P.cellsOf t)=((xs.drop o).take (P.cellsOf t)).toArray:=by
    apply Array.toList_inj.1
    rw [Array.toList_extract]
    simp [extract]
   simp [part,isAgg,run_underlying hu,run_sizeOf w hi,valOf,Ak,hu,hl]
  ·cases he
section
variable {P : Program}
theorem Cw {f:Nat} (ih:∀t ss,Zq P f t=some ss->jg P f t=true->∀c1 c2:List AV,uN ss c1->uN ss c2->∀d w,f<=d->∃b,(Op.equalIn d t (valOf P t (c1.map toV)) (valOf P t (c2.map toV))).run P w= .ok b w/\(b=true↔c1=c2)) (c1 c2:List AV) (d:Nat) (w:World) (hd:f<=d):
  ∀(fs:List Field) (o:Nat) (rs:List Sh),H7 (Zq P f) P fs o=some rs->(fs.all fun x=>x.name != "_" &&jg P f x.type)=true->uN rs (c1.drop o)->uN rs (c2.drop o)->
   ∃b,(Op.eqFields d (c1.map toV).toArray (c2.map toV).toArray fs).run P w= .ok b w/\(b=true↔c1.drop o=c2.drop o)
 |[],o,rs,h,_,h1,h2=>by
  simp only [H7,Option.some.injEq] at h
  subst h
  refine ⟨true,by simp [Op.eqFields],?_⟩
  have e1:=uO h1
  have e2:=uO h2
  simp only [length_nil,length_eq_zero_iff] at e1 e2
  simp [e1,e2]
 |x::fs,o,rs,h,ha,h1,h2=>by
  simp only [H7] at h
  simp only [all_cons,Bool.and_eq_true] at ha
  split at h
  ·rename_i ho
   split at h
   ·rename_i a hsa
    split at h
    ·rename_i hl
     split at h
     ·rename_i b hb
      obtain rfl:=Option.some.inj h
      have s1:=Dr h1
      have s2:=Dr h2
      rw [drop_drop] at s1 s2
      have n1:=uO h1
      have n2:=uO h2
      simp only [length_drop,length_append] at n1 n2
      obtain ⟨b1,hr1,hi1⟩:=ih _ _ hsa ha.1.2 _ _ s1.1 s2.1 d w hd
      obtain ⟨b2,Re,hi2⟩:=Cw ih c1 c2 d w hd fs (o+a.length) b hb ha.2 s1.2 s2.2
      have p1:=Ku (w:=w) ha.1.2 (c1.map toV) o (by rw [length_map];omega)
      have p2:=Ku (w:=w) ha.1.2 (c2.map toV) o (by rw [length_map];omega)
      rw [<-hl,<-map_drop,<-map_take] at p1 p2
      have UM:x.name≠ "_" :=by simpa using ha.1.1
      simp only [Op.eqFields,UM,ne_eq,not_false_eq_true,if_true,ho,Sem.run_bind,p1,p2,Result.andThen_ok,hr1]
      have aHm:c1.drop o=(c1.drop o).take a.length++c1.drop (o+a.length):=by rw [<-drop_drop,take_append_drop]
      have aHn:c2.drop o=(c2.drop o).take a.length++c2.drop (o+a.length):=by rw [<-drop_drop,take_append_drop]
      have key:c1.drop o=c2.drop o↔((c1.drop o).take a.length=(c2.drop o).take a.length/\c1.drop (o+a.length)=c2.drop (o+a.length)):=by
       constructor
       ·intro e
        rw [e]
        refine ⟨rfl,?_⟩
        rw [<-drop_drop,<-drop_drop,e]
       ·intro e
        rw [aHm,aHn,e.1,e.2]
      cases b1 with
      |false=>exact ⟨false,by simp,by simp only [Bool.false_eq_true,false_iff];intro e;exact absurd (hi1.2 (key.1 e).1) (by simp)⟩
      |true=>exact ⟨b2,by simpa using Re,by rw [hi2,key];exact ⟨fun e=>⟨hi1.1 rfl,e⟩,fun e=>e.2⟩⟩
     ·cases h
    ·cases h
   ·cases h
  ·cases h
theorem aa:∀(f:Nat) (t:TypeId) (ss:List Sh),Zq P f t=some ss->jg P f t=true->∀c1 c2:List AV,uN ss c1->uN ss c2->∀d w,f<=d->
  ∃b,(Op.equalIn d t (valOf P t (c1.map toV)) (valOf P t (c2.map toV))).run P w= .ok b w/\(b=true↔c1=c2)
 |0,_,_,h,_,_,_,_,_,_,_,_=>by simp [Zq] at h
 |f+1,t,ss,h,he,c1,c2,h1,h2,d,w,hd=>by
  obtain ⟨d,rfl⟩:∃d',d=d'+1:=⟨d - 1,by omega⟩
  unfold Zq at h
  unfold jg at he
  have one:∀s:Sh,ss=[s]->∃x y,c1=[x]/\c2=[y]/\NW s x/\NW s y:=by
   rintro s rfl
   match c1,c2,h1,h2 with
   |[x],[y],h1,h2=>exact ⟨x,y,rfl,rfl,h1.1,h2.1⟩
   |[],_,h1,_=>exact h1.elim
   |_::_::_,_,h1,_=>exact h1.2.elim
   |[_],[],_,h2=>exact h2.elim
   |[_],_::_::_,_,h2=>exact h2.2.elim
  split at h
  ·rename_i hu
   obtain ⟨x,y,rfl,rfl,l1,l2⟩:=one _ (Option.some.inj h).symm
   cases x<;>simp only [NW] at l1
   cases y<;>simp only [NW] at l2
   rename_i p q
   exact ⟨p == q,by simp [valOf,Ak,hu,toV,Go.run_equalIn_bool w d t p q hu],by simp⟩
  ·rename_i k hu
   obtain ⟨x,y,rfl,rfl,l1,l2⟩:=one _ (Option.some.inj h).symm
   cases x<;>simp only [NW] at l1
   cases y<;>simp only [NW] at l2
   rename_i k1 p k2 q
   have e1:k1=k:=l1
   have e2:k2=k:=l2
   subst e1;subst e2
   exact ⟨p == q,by simp [valOf,Ak,hu,toV,run_equalIn_int w d t _ _ p q hu],by simp⟩
  ·rename_i hu
   obtain ⟨x,y,rfl,rfl,l1,l2⟩:=one _ (Option.some.inj h).symm
   cases x<;>simp only [NW] at l1
   cases y<;>simp only [NW] at l2
   rename_i p q
   refine ⟨p == q,?_,by simp⟩
   have:=run_equalIn_string w d t ⟨p.toArray⟩ ⟨q.toArray⟩ hu
   rw [ByteArray.toList_eq,ByteArray.toList_eq] at this
   simpa [valOf,Ak,hu,toV] using this
  ·rename_i e hu
   rw [hu] at he
   cases he
  ·rename_i fs hu
   rw [hu] at he
   simp only [Bool.and_eq_true,Bool.not_eq_true'] at he
   split at h
   ·rename_i r hr
    split at h
    ·obtain rfl:=Option.some.inj h
     have hf:P.fieldsOf t=fs:=by simp [Program.fieldsOf,hu]
     obtain ⟨b,hb,hi⟩:=Cw (fun t ss a b c1 c2 e1 e2 d w hd=>aa f t ss a b c1 c2 e1 e2 d w hd) c1 c2 d w (by omega) fs.toList 0 _ hr he.2 (by simpa using h1) (by simpa using h2)
     refine ⟨b,?_,by simpa using hi⟩
     have:=run_equalIn_struct w d t (c1.map toV).toArray (c2.map toV).toArray (by rw [hf];exact hu) he.1
     rw [hf] at this
     simpa [valOf,Ak,hu] using this.trans hb
    ·cases h
   ·cases h
  ·cases h
theorem aHo {t:TypeId} {f:Nat} {ss:List Sh} (hf:f<=10000) (hs:Zq P f t=some ss) (he:jg P f t=true) (hst:Ak P t=true) (hg:P.eqGuardType P.depth t=false) {c1 c2:List AV} (h1:uN ss c1) (h2:uN ss c2) {b:Bool} (hb:b=true↔c1=c2):
  EqA P t c1 c2 b:=by
 intro op x y w hop
 obtain ⟨b',hb',hi⟩:=aa f t ss hs he c1 c2 h1 h2 10000 w hf
 have e:b'=b:=by
  rw [<-hb] at hi
  cases b<;>cases b'<;>simp_all
 subst e
 simp only [valOf,hst,if_true] at hb'
 rcases hop with rfl|rfl
 ·simp only [Sem.run_bind,run_eqGuard_agg w _ t x y _ _ hg,Result.andThen_ok,run_eql_struct,hb',if_true]
 ·simp only [Sem.run_bind,run_eqGuard_agg w _ t x y _ _ hg,Result.andThen_ok,run_neq_struct,hb']
  rfl
end
end Go.Aw

namespace Go.Aw
open List
def Nx (m:Nat) (P:Program) [aD P] (o:Oper) (s:AS) (X:AS->Prop):Prop:=nZ P o s X\/((m=1/\IL P o s X)\/(m=2/\Po P o s X))
theorem go_seq {P:Program} [aD P] {x y:Code} {s:AS} {Q:Exit->AS->Prop} (h:qU P x s (AY (fun s'=>qU P y s' Q) Q)):qU P (.seq x y) s Q:=by unfold qU;exact h
theorem go_then {K:AS->Prop} {Q:Exit->AS->Prop} {s:AS} (h:K s):AY K Q .normal s:=by unfold AY;exact h
theorem go_cons {P:Program} [aD P] {all r:List Oper} {o:Oper} {s:AS} {K:AS->Prop} (hg:o.guard=none) (h:Nx 1 P o s fun s'=>kW P all r s' K):kW P all (o::r) s K:=by
 simp only [kW,hg]
 rcases h with h|h
 ·exact .inl h
 ·rcases h with h|h
  ·exact .inr h.2
  ·exact absurd h.1 (by decide)
theorem go_take {P:Program} [aD P] {all r:List Oper} {o:Oper} {s:AS} {K:AS->Prop} {j:Nat} {want:Bool} (hg:o.guard=some (j,want)) (hb:oG all s j want= .bool want) (h:Nx 0 P o s fun s'=>kW P all r s' K):kW P all (o::r) s K:=by
 simp only [kW,hg,hb]
 rcases h with h|h
 ·exact ⟨fun _=>h,fun hn=>absurd rfl hn⟩
 ·rcases h with h|h<;>exact absurd h.1 (by decide)
theorem go_skip {P:Program} [aD P] {all r:List Oper} {o:Oper} {s s':AS} {K:AS->Prop} {j:Nat} {want:Bool} (hg:o.guard=some (j,want)) (hb:oG all s j want= .bool (!want)) (h:kW P all r s' K) (hs:∀K':AS->Prop,K' s'->K' (s.put o.dst (.gV [])):=by intro K' hK';(try simp only [AS.put,set_cons_succ,set_cons_zero]);exact hK'):kW P all (o::r) s K:=
 ib hg hb (hs (fun s=>kW P all r s K) h)
theorem go_drawn {P:Program} [aD P] {id:Nat} {l:List Oper} {s:AS} {Q:Exit->AS->Prop} {fl:List (Nat×Nat×List AV)} {b:List aG} (hf:Nh P 0 s.o.length l=fl) (hbb:s.o++(fl.map fun q=>(⟨false,false,q.2.2.length,0,[]⟩:aG))=b) (hfw:Kg l=true) (hdst:distinct l=true) (hfl:Vd fl b.length=true) (hb:oU CZ true fl b=b) (hb0:oU CZ false fl b=s.o++(fl.map (·.2.2.length)).map fun n=>⟨true,false,n,0,[]⟩)
  (h:lG P l s.t b fl (Q .normal) 0 l [] []):qU P (.region id l.toArray true) s Q:=gz hfw hdst hfl hb hb0 h
section
variable {P : Program} [aD P] {l : List Oper} {t : List AV} {b : List aG} {fl : List (Nat × Nat × List AV)} {K : AS -> Prop} {i : Nat} {op : Oper} {r : List Oper} {vs : List AV} {h : List (Nat × List aG)} {pr : List Nat} {m : List AV} {om : List aG}
theorem go_draw (hg:op.guard=none) (hnf:(fl.all fun q=>decide (q.1≠i))=true) (hpr:pre op=pr) (hlt:(pr.all fun e=>decide (e < i))=true) (hm:mR i pr 0 l vs t=m) (ho:oU (rT pr) true fl (oJ (rT pr) b h)=om) (hq:lY op.op ⟨m,om⟩=true)
  (ha:Nx 2 P op ⟨m,om⟩ fun s'=>(Cn pr h=true\/s'.o.length=om.length)/\lG P l t b fl K (i+1) r (vs++[Db op s']) (if s'.o.length=om.length then h else (i,oU CZ true fl s'.o)::h)):lG P l t b fl K i (op::r) vs h:=by
 refine Fu hnf hpr hlt hm ho hq ?_
 unfold oH
 simp only [hg]
 rcases ha with ha|ha
 ·exact .inl ha
 ·rcases ha with ha|ha
  ·exact absurd ha.1 (by decide)
  ·exact .inr ha.2
theorem go_drawT {j:Nat} {want:Bool} (hg:op.guard=some (j,want)) (hnf:(fl.all fun q=>decide (q.1≠i))=true) (hpr:pre op=pr) (hlt:(pr.all fun e=>decide (e < i))=true) (hm:mR i pr 0 l vs t=m) (ho:oU (rT pr) true fl (oJ (rT pr) b h)=om) (hq:lY op.op ⟨m,om⟩=true) (hb:oG l ⟨m,om⟩ j want= .bool want)
  (ha:Nx 2 P op ⟨m,om⟩ fun s'=>(Cn pr h=true\/s'.o.length=om.length)/\lG P l t b fl K (i+1) r (vs++[Db op s']) (if s'.o.length=om.length then h else (i,oU CZ true fl s'.o)::h)):lG P l t b fl K i (op::r) vs h:=by
 refine Fu hnf hpr hlt hm ho hq ?_
 unfold oH
 simp only [hg,hb]
 rcases ha with ha|ha
 ·exact ⟨fun _=> .inl ha,fun hn=>absurd rfl hn⟩
 ·rcases ha with ha|ha
  ·exact absurd ha.1 (by decide)
  ·exact ⟨fun _=> .inr ha.2,fun hn=>absurd rfl hn⟩
theorem go_drawS {j:Nat} {want:Bool} (hg:op.guard=some (j,want)) (hnf:(fl.all fun q=>decide (q.1≠i))=true) (hpr:pre op=pr) (hlt:(pr.all fun e=>decide (e < i))=true) (hm:mR i pr 0 l vs t=m) (ho:oU (rT pr) true fl (oJ (rT pr) b h)=om) (hds:(match op.dst with|some d=>decide (d < m.length)|none=>false)=true) (hq:lY op.op ⟨m,om⟩=true) (hb:oG l ⟨m,om⟩ j want= .bool (!want))
  (ha:lG P l t b fl K (i+1) r (vs++[.gV []]) h):lG P l t b fl K i (op::r) vs h:=by
 refine Fu hnf hpr hlt hm ho hq ?_
 unfold oH
 simp only [hg,hb]
 refine ⟨fun hn=> ?_,fun _=> ?_⟩
 ·cases want<;>cases hn
 ·rw [put_eq]
  refine ⟨.inr rfl,?_⟩
  rw [if_pos rfl]
  have:Db op ⟨pY m op.dst (.gV []),om⟩= .gV []:=by
   unfold Db pY
   cases hd:op.dst with
   |none=>rw [hd] at hds;cases hds
   |some d=>
    rw [hd] at hds
    have hdl:d < m.length:=by simpa using hds
    dsimp only
    rw [getD_eq_getElem?_getD,getElem?_set_self hdl]
    rfl
  rw [this];exact ha
theorem go_barC {z:List Nat} {s1:AS} (hr:uJ l i=true) (hz:qG l i=z) (hk:K s1) (ha:Bc (fun z=>wJ P l (fun s'=>s'=s1) (left ((range l.length).map (jz i z))) ((range l.length).map (jz i z)) ⟨gI (jz i z) 0 l vs t,oU (jz i z) false fl (oJ (jz i z) b h)⟩) [] z:=by
  repeat' (first|refine st ?_|(refine nx ?_;refine so ?_)|refine sx ?_ ?_|refine sy ?_ ?_|fail)
  all_goals rfl):lG P l t b fl K i (op::r) vs h:=BM hr hz ha hk
theorem go_float {q:Nat×Nat×List AV} {T:TypeId} {vs':List AV} (hq:fl.find? (fun q=>q.1 == i)=some q) (hg:op.guard=none) (hT:op.op= .alloc T) (hz:dA P T=some q.2.2) (hlt:((pre op).all fun e=>decide (e < i))=true) (hv:vs++[.ptr q.2.1 1 0 0]=vs') (hd:lG P l t b fl K (i+1) r vs' h):lG P l t b fl K i (op::r) vs h:=by
 subst hv;exact Vf hq hg hT hz hlt hd
theorem go_next {vs':List AV} {h':List (Nat×List aG)} {c:Prop} (hc:c) (hv:vs=vs') (hh:h=h') (hd:lG P l t b fl K i r vs' h'):c/\lG P l t b fl K i r vs h:=by
 subst hv;subst hh;exact ⟨hc,hd⟩
theorem kB {F:List Nat->Prop} {acc:List Nat} (h:Bc F acc []):Bc F acc []:=h
theorem kE {n:Nat} {d:List Bool} {s:AS} (h:wJ P l K n d s):wJ P l K n d s:=h
theorem kF {n:Nat} {d:List Bool} {s:AS} {j:Nat} (h:rZ P l K n d s [j]):rZ P l K n d s [j]:=h
theorem kD (hd:lG P l t b fl K i r vs h):lG P l t b fl K i r vs h:=hd
theorem kN {c:Prop} (hd:c/\lG P l t b fl K i r vs h):c/\lG P l t b fl K i r vs h:=hd
end
attribute [irreducible] Nx
theorem kL {P:Program} [aD P] {all l:List Oper} {s:AS} {K:AS->Prop} (h:kW P all l s K):kW P all l s K:=h
theorem kA {P:Program} [aD P] {c:Code} {s:AS} {Q:Exit->AS->Prop} (h:qU P c s Q):qU P c s Q:=h
theorem kT {K:AS->Prop} {Q:Exit->AS->Prop} {e:Exit} {s:AS} (h:AY K Q e s):AY K Q e s:=h
theorem kI {id:Nat} {Q:Exit->AS->Prop} {e:Exit} {s:AS} (h:df id Q e s):df id Q e s:=h
structure Hid (q : Prop) : Prop where
  out : q
theorem st {p q:Prop} (h:q) (e:Hid q->p:=by
 intro h
 (first
  |(refine kL ?_;first
    |refine UC ?_
    |refine go_cons rfl ?_
    |(refine go_take rfl ?_ ?_;(focus (simp [oG,W];done)))
    |(refine go_skip rfl ?_ ?_;(focus (simp [oG,W];done))))
  |(refine kA ?_;first
    |refine go_seq ?_|refine ME ?_|refine Zp ?_|refine QE ?_|refine UD ?_|refine UE ?_|refine go_drawn (by simp;rfl) (by simp;rfl) (by decide+kernel) (by decide) (by first|rfl|(simp [Vd];done)) (by simp) (by simp) ?_)
  |(refine kT ?_;first|refine go_then ?_|refine Gp ?_|refine Ev ?_)
  |(refine kI ?_;first|refine Ew ?_|refine MG ?_|refine QF ?_|refine QG (by decide) ?_)
  |(refine kN ?_;refine go_next (by simp;done) (by simp;rfl) (by simp;rfl) ?_)
  |(refine kD ?_;first
    |refine QU (by simp;rfl) (by simp;rfl) ?_
    |refine go_float rfl rfl rfl (by simp;done) (by first|rfl|(simp [Region.binds];done)) (by simp;rfl) ?_
    |(refine go_draw rfl (by first|rfl|(simp;done)) (by simp [Region.binds];rfl) (by decide) (by simp [Region.binds];rfl) (by simp;rfl) ?_ ?_;(focus (first|rfl|(simp [lY];done))))
    |(refine go_drawT rfl (by first|rfl|(simp;done)) (by simp [Region.binds];rfl) (by decide) (by simp [Region.binds];rfl) (by simp;rfl) ?_ ?_ ?_;(focus (first|rfl|(simp [lY];done)));(focus (simp [oG,W];done)))
    |(refine go_drawS rfl (by first|rfl|(simp;done)) (by simp [Region.binds];rfl) (by decide) (by simp [Region.binds];rfl) (by simp;rfl) ?_ ?_ ?_ ?_;(focus (first|rfl|(simp;done)));(focus (first|rfl|(simp [lY];done)));(focus (simp [oG,W];done)))
    |refine QV (by decide+kernel) (by simp;rfl) (by simp;rfl) ?_
    |refine go_barC (by decide+kernel) (by simp [qG,reach,lN,Region.binds,range_succ];rfl) ?_
    |refine Jg (by decide+kernel) (by simp [qG,reach,lN,Region.binds,range_succ];rfl) ?_)
  |(refine kB ?_;refine go_sub (by simp;rfl) (by simp;rfl) (by simp;rfl) (by simp;rfl) ?_)
  |(refine kE ?_;first|refine go_end ?_|refine go_all (by simp [Region.binds];rfl) ?_)
  |(refine kF ?_;refine go_one rfl (by simp only [set_cons_succ,set_cons_zero];rfl) ?_))
 repeat (first
  |(refine kL ?_;first
    |refine UC ?_
    |refine go_cons rfl ?_
    |(refine go_take rfl ?_ ?_;(focus (simp [oG,W];done)))
    |(refine go_skip rfl ?_ ?_;(focus (simp [oG,W];done))))
  |(refine kA ?_;first
    |refine go_seq ?_|refine ME ?_|refine Zp ?_|refine QE ?_|refine UD ?_|refine UE ?_|refine go_drawn (by simp;rfl) (by simp;rfl) (by decide+kernel) (by decide) (by first|rfl|(simp [Vd];done)) (by simp) (by simp) ?_)
  |(refine kT ?_;first|refine go_then ?_|refine Gp ?_|refine Ev ?_)
  |(refine kI ?_;first|refine Ew ?_|refine MG ?_|refine QF ?_|refine QG (by decide) ?_)
  |(refine kN ?_;refine go_next (by simp;done) (by simp;rfl) (by simp;rfl) ?_)
  |(refine kD ?_;first
    |refine QU (by simp;rfl) (by simp;rfl) ?_
    |refine go_float rfl rfl rfl (by simp;done) (by first|rfl|(simp [Region.binds];done)) (by simp;rfl) ?_
    |(refine go_draw rfl (by first|rfl|(simp;done)) (by simp [Region.binds];rfl) (by decide) (by simp [Region.binds];rfl) (by simp;rfl) ?_ ?_;(focus (first|rfl|(simp [lY];done))))
    |(refine go_drawT rfl (by first|rfl|(simp;done)) (by simp [Region.binds];rfl) (by decide) (by simp [Region.binds];rfl) (by simp;rfl) ?_ ?_ ?_;(focus (first|rfl|(simp [lY];done)));(focus (simp [oG,W];done)))
    |(refine go_drawS rfl (by first|rfl|(simp;done)) (by simp [Region.binds];rfl) (by decide) (by simp [Region.binds];rfl) (by simp;rfl) ?_ ?_ ?_ ?_;(focus (first|rfl|(simp;done)));(focus (first|rfl|(simp [lY];done)));(focus (simp [oG,W];done)))
    |refine QV (by decide+kernel) (by simp;rfl) (by simp;rfl) ?_
    |refine go_barC (by decide+kernel) (by simp [qG,reach,lN,Region.binds,range_succ];rfl) ?_
    |refine Jg (by decide+kernel) (by simp [qG,reach,lN,Region.binds,range_succ];rfl) ?_)
  |(refine kB ?_;refine go_sub (by simp;rfl) (by simp;rfl) (by simp;rfl) (by simp;rfl) ?_)
  |(refine kE ?_;first|refine go_end ?_|refine go_all (by simp [Region.binds];rfl) ?_)
  |(refine kF ?_;refine go_one rfl (by simp only [set_cons_succ,set_cons_zero];rfl) ?_))
 exact h.out):p:=e ⟨h⟩
theorem so {P : Program} [aD P] {o : Oper} {s s' : AS} {X : AS -> Prop} {m : Nat} (h : X s') (e : ∀ K : AS -> Prop, K s' -> nZ P o s K := by
  intro K hK
  first
    | (simp [-Bool.exists_bool, nZ, W]
       (try simp (disch := omega) only [wrap64])
       first
         | exact hK
         | (refine ⟨_, by assumption, ?_⟩; (try simp only [nE, jV, Fp, xK, El, vB, Gq, xJ, append_nil, nil_append, cons_append, length_cons, length_nil, Nat.add_zero, Nat.zero_add, Nat.reduceAdd]); exact hK)
         | (refine ⟨?_, hK⟩; omega)
         | (refine ⟨?_, ?_, hK⟩ <;> omega)
         | (refine ⟨?_, ?_, ?_, hK⟩ <;> omega))
    | (simp [-Bool.exists_bool, nZ, V]
       (try simp (disch := omega) only [wrap64])
       first
         | exact hK
         | (refine ⟨_, by assumption, ?_⟩; (try simp only [nE, jV, Fp, xK, El, vB, Gq, xJ, append_nil, nil_append, cons_append, length_cons, length_nil, Nat.add_zero, Nat.zero_add, Nat.reduceAdd]); exact hK)
         | (refine ⟨?_, hK⟩; omega)
         | (refine ⟨?_, ?_, hK⟩ <;> omega)
         | (refine ⟨?_, ?_, ?_, hK⟩ <;> omega))) : Nx m P o s X := by
  unfold Nx; exact .inl (e X h)
theorem sk {P:Program} [aD P] {o:Oper} {s s':AS} {X:AS->Prop} {m:Nat} {H:Prop} (e:∀K:AS->Prop,H->K s'->nZ P o s K:=by
 intro K hc hK
 first
  |(simp [-Bool.exists_bool,nZ,W];refine ⟨_,hc,?_⟩;(try simp only [nE,jV,Fp,xK,El,vB,Gq,xJ,append_nil,nil_append,cons_append,length_cons,length_nil,Nat.add_zero,Nat.zero_add,Nat.reduceAdd]);exact hK)
  |(simp [-Bool.exists_bool,nZ,V];refine ⟨_,hc,?_⟩;(try simp only [nE,jV,Fp,xK,El,vB,Gq,xJ,append_nil,nil_append,cons_append,length_cons,length_nil,Nat.add_zero,Nat.zero_add,Nat.reduceAdd]);exact hK)) (hc:H) (h:X s'):Nx m P o s X:=by
 unfold Nx;exact .inl (e X hc h)
theorem sm {P:Program} [aD P] {o:Oper} {s s':AS} {X:AS->Prop} {H:Prop} (e:∀K:AS->Prop,H->K s'->IL P o s K:=by
 intro K hc hK
 refine yf ?_
 simp [-Bool.exists_bool,Gm,W]
 refine ⟨_,_,hc,?_⟩
 simp [-Bool.exists_bool,AS.Lm,KL,aG.aBy,aG.forget,zV,AX,Go.Aw.mt,Go.Aw.J7,W]
 exact hK) (hc:H) (h:X s'):Nx 1 P o s X:=by
 unfold Nx;exact .inr (.inl ⟨rfl,e X hc h⟩)
theorem sg {P:Program} [aD P] {o:Oper} {s s':AS} {X:AS->Prop} {H:Prop} (e:∀K:AS->Prop,H->K s'->IL P o s K:=by
 intro K hc hK
 refine aF9 ?_
 simp [-Bool.exists_bool,UB,W]
 refine ⟨_,_,hc,?_⟩
 simp [-Bool.exists_bool,takes,handed,aB0,Qx,rowOf,lI,iR,Ms,Mt,iT,kV,res,qQ,AV.isObj,AS.given,Fh,Ay,Ck,aG.Zn,aG.forget,rt,wT,lD,gM,AV.kept,W]
 exact hK) (hc:H) (h:X s'):Nx 1 P o s X:=by
 unfold Nx;exact .inr (.inl ⟨rfl,e X hc h⟩)
theorem sz {P:Program} [aD P] {o:Oper} {s s':AS} {X:AS->Prop} (h:X s') (e:∀K:AS->Prop,K s'->IL P o s K:=by
 intro K hK
 refine aGa ?_
 simp [-Bool.exists_bool,aF6,nZ,lD,wT,rt,aG.kill,W]
 exact hK):Nx 1 P o s X:=by
 unfold Nx;exact .inr (.inl ⟨rfl,e X h⟩)
theorem sb {P:Program} [aD P] {o:Oper} {s s':AS} {X:AS->Prop} (h:X s') (e:∀K:AS->Prop,K s'->IL P o s K:=by
 intro K hK
 refine yf ?_
 simp [-Bool.exists_bool,Gm,AS.made,W]
 first
  |exact hK
  |(refine ⟨?_,hK⟩;omega)):Nx 1 P o s X:=by
 unfold Nx;exact .inr (.inl ⟨rfl,e X h⟩)
theorem se {P:Program} [aD P] {o:Oper} {s s':AS} {X:AS->Prop} (h:X s') (e:∀K:AS->Prop,K s'->Po P o s K:=by
 intro K hK
 simp [Po]
 exact hK):Nx 2 P o s X:=by
 unfold Nx;exact .inr (.inr ⟨rfl,e X h⟩)
theorem sc {P:Program} [aD P] {c:Operand} {x y:Code} {s:AS} {Q:Exit->AS->Prop} {b:Bool} {p1 p2:Prop} (h1:p1->qU P x s Q) (h2:p2->qU P y s Q) (hc:s.ev c= .bool b:=by rfl)
  (e1:b=true->p1:=by
   intro h
   first|(refine (?_:False);simp at h;done)|(refine (?_:False);(try simp at h);omega;done)|(simp at h;exact h)|exact h)
  (e2:b=false->p2:=by
   intro h
   first|(refine (?_:False);simp at h;done)|(refine (?_:False);(try simp at h);omega;done)|(simp at h;exact h)|exact h):qU P (.cond c x y) s Q:=
 MF hc (fun h=>h1 (e1 h)) (fun h=>h2 (e2 h))
theorem sp {P:Program} [aD P] {all r:List Oper} {o:Oper} {s:AS} {K:AS->Prop} {j d:Nat} {want b:Bool} {s1 s2:AS} {p1 p2:Prop} (h1:p1->kW P all (o::r) s1 K) (h2:p2->kW P all (o::r) s2 K) (hg:o.guard=some (j,want):=by rfl) (hd:(all[j]?).bind (·.dst)=some d:=by rfl) (hb:s.t[d]? =some (.bool b):=by rfl) (hx:(b=true)=(b=true):=by (fail_if_success (with_reducible refine Eq.refl (true=true)));(fail_if_success (with_reducible refine Eq.refl (false=true)));rfl)
  (e1:∀K':AS->Prop,K' s1->K' ⟨s.t.set d (.bool true),s.o⟩:=by intro K' hK';(try simp only [set_cons_succ,set_cons_zero]);exact hK')
  (e2:∀K':AS->Prop,K' s2->K' ⟨s.t.set d (.bool false),s.o⟩:=by intro K' hK';(try simp only [set_cons_succ,set_cons_zero]);exact hK')
  (e3:b=true->p1:=by
   intro h
   first|(refine (?_:False);simp at h;done)|(refine (?_:False);(try simp at h);omega;done)|(simp at h;exact h)|exact h)
  (e4:b=false->p2:=by
   intro h
   first|(refine (?_:False);simp at h;done)|(refine (?_:False);(try simp at h);omega;done)|(simp at h;exact h)|exact h):kW P all (o::r) s K:=
 XV hg hd hb (fun h=>e1 (fun s=>kW P all (o::r) s K) (h1 (e3 h))) (fun h=>e2 (fun s=>kW P all (o::r) s K) (h2 (e4 h)))
theorem nx {m:Nat} {P:Program} [aD P] {o:Oper} {s:AS} {X:AS->Prop} (h:Nx m P o s X):Nx m P o s X:=h
theorem cx {P:Program} [aD P] {c:Operand} {x y:Code} {s:AS} {Q:Exit->AS->Prop} (h:qU P (.cond c x y) s Q):qU P (.cond c x y) s Q:=h
theorem lx {P:Program} [aD P] {all r:List Oper} {o:Oper} {s:AS} {K:AS->Prop} (h:kW P all (o::r) s K):kW P all (o::r) s K:=h
theorem bR {P:Program} [aD P] (hm:P.follows .mixedOrders=true) {f:FuncId} {fn:Func} {c:Code} (hf:P.funcs[f]? =some fn) {n:Nat} (hn:fn.ntmps=n) {args t:List AV} {rr:AV}
  (h:qU P c ⟨t,[]⟩ (fun e s=>(e= .normal\/e= .ret)/\aB P fn s rr)) (hb:fn.body=some c:=by rfl)
  (ht:args++replicate (n - args.length) .undef=t:=by
   simp only [length_cons,length_nil,Nat.reduceSub,Nat.reduceAdd,replicate_succ,replicate_zero,cons_append,nil_append];rfl):Ok P f args rr:=by
 subst ht;subst hn;exact QD hm hf hb h
theorem Ni {P:Program} [aD P] (hm:P.follows .mixedOrders=true) {f:FuncId} {fn:Func} {c:Code} (hf:P.funcs[f]? =some fn) {n:Nat} (hn:fn.ntmps=n) {x x':AV} {rest t:List AV} {o:List aG} {p rr:AV}
  (h:qU P c ⟨t,o⟩ (fun e s=>(e= .normal\/e= .ret)/\vG P fn s p x' rr)) (hb:fn.body=some c:=by rfl)
  (aGo:Bb (bW 0 0 x).2.length (bW 0 0 x).1=true:=by simp [Bb,Ja])
  (ho:(bW 0 0 x).2=o:=by
   simp only [nE,jV,Fp,xK,El,vB,Gq,xJ,Nat.add_zero,Nat.zero_add,Nat.reduceAdd,cons_append,nil_append,append_nil];rfl)
  (hp:(bW 0 0 x).1=p:=by
   simp only [nE,jV,Fp,xK,El,vB,Gq,xJ,Nat.add_zero,Nat.zero_add,Nat.reduceAdd,cons_append,nil_append,append_nil];rfl)
  (ht:(p::rest)++replicate (n - (rest.length+1)) .undef=t:=by
   simp only [length_cons,length_nil,Nat.reduceSub,Nat.reduceAdd,replicate_succ,replicate_zero,cons_append,nil_append];rfl):Xu P f x x' rest rr:=by
 subst ht;subst hn;subst hp;subst ho;exact XT hm hf hb aGo h
attribute [simp] bytesOf
end Go.Aw

namespace Go.Aw
open List
theorem sT {P:Program} [aD P] {c:Operand} {x y:Code} {s:AS} {Q:Exit->AS->Prop} {b:Bool} (h1:qU P x s Q) (hc:s.ev c= .bool b:=by rfl)
  (e2:b=false->False:=by intro h;first|(simp at h;done)|((try simp at h);omega;done)):qU P (.cond c x y) s Q:=
 MF hc (fun _=>h1) (fun h=>(e2 h).elim)
theorem sF {P:Program} [aD P] {c:Operand} {x y:Code} {s:AS} {Q:Exit->AS->Prop} {b:Bool} (h2:qU P y s Q) (hc:s.ev c= .bool b:=by rfl)
  (e1:b=true->False:=by intro h;first|(simp at h;done)|((try simp at h);omega;done)):qU P (.cond c x y) s Q:=
 MF hc (fun h=>(e1 h).elim) (fun _=>h2)
theorem wl {p q:Prop} (h:q) (e:Hid q->p:=by
 intro h
 first|refine st ?_|(refine nx ?_;refine so ?_)|(refine cx ?_;first|refine sT ?_|refine sF ?_|fail)|fail
 repeat' first|refine st ?_|(refine nx ?_;refine so ?_)|(refine cx ?_;first|refine sT ?_|refine sF ?_|fail)|fail
 exact h.out):p:=e ⟨h⟩
theorem we {p q:Prop} (h:q) (e:Hid q->p:=by
 intro h
 first|refine st ?_|(refine nx ?_;first|refine se ?_|refine so ?_)|(refine cx ?_;first|refine sT ?_|refine sF ?_|fail)|fail
 repeat' first|refine st ?_|(refine nx ?_;first|refine se ?_|refine so ?_)|(refine cx ?_;first|refine sT ?_|refine sF ?_|fail)|fail
 exact h.out):p:=e ⟨h⟩
theorem sq {p p1 p2 q1 q2:Prop} (h1:p1->q1) (h2:p2->q2) (e:Hid (p1->q1)->Hid (p2->q2)->p:=by
 intro h1 h2
 first
  |(refine cx ?_;refine sc h1.out h2.out)
  |(refine lx ?_;refine sp h1.out h2.out)
  |refine sx (h1.out trivial) (h2.out trivial)
  |refine sy (h1.out trivial) (h2.out trivial)
  |fail):p:=e ⟨h1⟩ ⟨h2⟩
end Go.Aw

namespace Go.Aw
open List
section
variable {P : Program} {p q : List Nat} {l : List Oper} {Q : Exit -> Act -> World -> Prop}
structure aP5 (p q : List Nat) (n : Nat) : Prop where
  pl : p.length = n
  ql : q.length = n
  pq : ∀ k, k < n -> p.getD k n < n /\ q.getD (p.getD k n) n = k
  qp : ∀ i, i < n -> q.getD i n < n /\ p.getD (q.getD i n) n = i
end
end Go.Aw

namespace Go.Aw
open List
def AS.FB (P:Program) (s:AS):List ResultVar->Option (Nat×List AV)
 | .cell t ty::xs=>match s.t.getD t .undef with
  | .ptr i bN idx off=>match s.at i bN idx with
   |some (ob,e)=>match bI P ty with
    |some n=>if ob.box=true/\off+n<=e.length then (match s.Cy P xs with
     |some ys=>some (i,.agg ((e.drop off).take n)::ys)
     |none=>none) else none
    |none=>none
   |none=>none
  |_=>none
 |_=>none
def Yo (P:Program) (fn:Func) (s:AS) (r:AV):Prop:=
 ∃i ys,s.FB P fn.results.toList=some (i,ys)/\iT s.o (single ys)=true/\(lI (single ys)).Nodup/\i∉lI (single ys)/\res s.o (single ys)=r/\clean r=true
theorem fD {P:Program} {fn:Func} {s:AS} {r:AV} (h:match s.FB P fn.results.toList with
  |some p=>iT s.o (single p.2)=true/\(lI (single p.2)).Nodup/\p.1∉lI (single p.2)/\res s.o (single p.2)=r/\clean r=true
  |none=>False):Yo P fn s r:=by
 split at h
 ·rename_i p hp
  exact ⟨p.1,p.2,hp,h⟩
 ·exact h.elim
theorem lu {P:Program} [aD P] {B:fG P} {s:AS} {G:List CO} {a:Act} {w:World} (r:dN B s G a w) {t:Tmp} {ty:TypeId} {i bN idx off n:Nat} {ob:aG} {e:List AV}
  (hx:s.t.getD t .undef= .ptr i bN idx off) (ha:s.at i bN idx=some (ob,e)) (rY:ob.box=true) (hn:bI P ty=some n) (hfit:off+n<=e.length):
  ∃v fp g,look s.o G i ob g/\ob.live=true/\(Gn a (.cell t ty)).run P w= .ok v w/\R w (env B s.o G w) (.agg ((e.drop off).take n)) v fp/\fp.Nodup/\∀b∈fp,g.F b:=by
 obtain ⟨ho,he⟩:=zU ha
 obtain ⟨g,b,f,hl,hlive,hga,hv⟩:=r.ptr (x:= .tmp t) hx ho
 obtain ⟨fp0,⟨_,hown⟩,hnd,hF⟩:=r.ok i ob g hl hlive
 simp only [rY,Env.of,if_true] at hown
 rcases hown with ⟨h5,_⟩|⟨b',f',C,tyc,fz,nQ,tZ,hbk,hz,k1,k2,k3,rfl,hr⟩
 ·rw [h5] at he;simp at he
 rw [hga] at tZ
 simp only [Option.some.injEq,Addr.mk.injEq,and_true] at tZ
 obtain ⟨rfl,rfl⟩:=tZ
 obtain ⟨f1,f2,f3,cs,rfl,hcn,hc,hone,rW,_,_⟩:=wX hr he
 have hle:=fB rW
 simp only [Act.eval] at hv
 obtain ⟨g1,g2,rfl,_,TZ⟩:=pV off rW
 obtain ⟨g3,g4,rfl,I9,_⟩:=pV n TZ
 have hsub:∀x∈g3,x∈f1++(g1++(g3++g4))++f3:=fun x hx=>by simp [hx]
 refine ⟨.agg ((cs.drop off).take n).toArray,g3,g,hl,hlive,?_,by simp only [R];exact ⟨_,rfl,DL hone,I9⟩,?_,fun x hx=>hF x (mem_cons_of_mem _ (hsub x hx))⟩
 ·have:=qK (P:=P) (t:=ty) (k:=off) (n:=n) (cs:=cs) hn (by omega) hc
  simp only [Instr.loadAt,Instr.sureAddr,pure_bind] at this
  simp [Gn,hv,asAddr,<-Nat.add_assoc,this]
 ·simp only [nodup_cons] at hnd
  have h1:=(nodup_append.1 hnd.2).1
  have h2:=(nodup_append.1 h1).2.1
  have h3:=(nodup_append.1 h2).2.1
  exact (nodup_append.1 h3).1
theorem L9 {P:Program} {s:AS} {l:List ResultVar} {i:Nat} {ys:List AV} (h:s.FB P l=some (i,ys)):
  ∃t ty xs bN idx off ob e n zs,l= .cell t ty::xs/\s.t.getD t .undef= .ptr i bN idx off/\s.at i bN idx=some (ob,e)/\bI P ty=some n/\ob.box=true/\off+n<=e.length/\s.Cy P xs=some zs/\ys= .agg ((e.drop off).take n)::zs:=by
 unfold AS.FB at h
 split at h
 ·split at h
  ·rename_i i' bN idx off hx
   split at h
   ·rename_i ob e ha
    split at h
    ·rename_i n hn
     split at h
     ·rename_i hc
      split at h
      ·rename_i zs hzs
       simp only [Option.some.injEq,Prod.mk.injEq] at h
       obtain ⟨rfl,rfl⟩:=h
       exact ⟨_,_,_,_,_,_,_,_,_,_,rfl,hx,ha,hn,hc.1,hc.2,hzs,rfl⟩
      ·cases h
     ·cases h
    ·cases h
   ·cases h
  ·cases h
 ·cases h
theorem Tx {P:Program} [aD P] {B:fG P} {s:AS} {G:List CO} {a:Act} {w:World} (r:dN B s G a w) {fn:Func} {i:Nat} {ys:List AV} (h:s.FB P fn.results.toList=some (i,ys)):
  ∃v fp ob g,look s.o G i ob g/\ob.live=true/\(results fn a.tmps).run P w= .ok v w/\R w (env B s.o G w) (single ys) v fp/\fp.Nodup/\∀b∈fp,g.F b:=by
 obtain ⟨t,ty,xs,bN,idx,off,ob,e,n,zs,jD,hx,ha,hn,rY,hfit,hzs,rfl⟩:=L9 h
 obtain ⟨v0,fp,g,hl,hlive,uo,hR0,hnd,hF⟩:=lu r hx ha rY hn hfit
 obtain ⟨vs,h1,h2⟩:=Su r hzs
 have hl2:=fB h2
 have hm:(fn.results.mapM (m:=Sem) (Gn a)).run P w= .ok (v0::vs).toArray w:=by
  rw [Array.mapM_eq_mapM_toList,jD]
  simp only [Sem.run_map,mapM_cons,Sem.run_bind]
  rw [uo]
  simp only [Result.andThen_ok]
  rw [h1]
  simp
 rw [MC]
 simp only [Sem.run_bind]
 rw [hm]
 simp only [Result.andThen_ok,Sem.run_pure]
 match zs,vs,hl2,h2 with
 |[],[],_,h2=>exact ⟨v0,fp,ob,g,hl,hlive,by simp,hR0,hnd,hF⟩
 |z::zs,v1::vs,_,h2=>exact ⟨.tuple (v0::v1::vs).toArray,fp,ob,g,hl,hlive,by simp,by simp only [single];rw [R];exact ⟨_,rfl,by rw [Rc];exact ⟨fp,[],hR0,h2,by simp⟩⟩,hnd,hF⟩
theorem Yp {P:Program} [aD P] (hm:P.follows .mixedOrders=true) {f:FuncId} {fn:Func} {c:Code} (hf:P.funcs[f]? =some fn) (hb:fn.body=some c) {args:List AV} {rr:AV}
  (h:qU P c ⟨args++replicate (fn.ntmps - args.length) .undef,[]⟩ (fun e s=>(e= .normal\/e= .ret)/\(aB P fn s rr\/Yo P fn s rr))):Ok P f args rr:=by
 intro w vs hg hargs
 have hl:=fB hargs
 have r0:dN ⟨w,fun b=>b < w.heap.size,fun _=>False,fun _=>none,fun _=>none,hg,fun _ h=>h.elim,fun _ h=>h.elim⟩ ⟨args++replicate (fn.ntmps - args.length) .undef,[]⟩ [] {tmps:=vs.toArray++Array.replicate (fn.ntmps - vs.toArray.size) Go.undef,defers:=[]} w:=by
  refine ⟨rfl,rfl,fun i ob g hl=>by simp [look] at hl,fun i j oi oj gi gj b hl=>by simp [look] at hl,fun i ob g b hl=>by simp [look] at hl,?_,Nat.le_refl _,fun _ _ _=>rfl,fun b hb=>hb,lU.rfl⟩
  have h1:Rc w (env ⟨w,fun b=>b < w.heap.size,fun _=>False,fun _=>none,fun _=>none,hg,fun _ h=>h.elim,fun _ h=>h.elim⟩ [] [] w) args vs []:=dF (w:=w) (w':=w) (E:=lV w) (E':=env ⟨w,fun b=>b < w.heap.size,fun _=>False,fun _=>none,fun _=>none,hg,fun _ h=>h.elim,fun _ h=>h.elim⟩ [] [] w) ⟨fun b hb=>⟨⟨.inl hb,fun i ob g hl=>by simp [look] at hl⟩,rfl⟩,fun _ _=>trivial,fun _ _ _ h=>h.elim,fun _ _ _ h=>h.elim,fun _ _ _ _ _ h=>h.elim⟩ _ _ _ (by simp) hargs
  have h2:∀n,Rc w (env ⟨w,fun b=>b < w.heap.size,fun _=>False,fun _=>none,fun _=>none,hg,fun _ h=>h.elim,fun _ h=>h.elim⟩ [] [] w) (replicate n .undef) (replicate n Go.undef) []:=by
   intro n
   induction n with
   |zero=>simp [Rc]
   |succ n ih=>simp only [replicate_succ,Rc];exact ⟨[],[],by simp [R],ih,rfl⟩
  have:=kU h1 (h2 (fn.ntmps - args.length))
  simpa [hl] using this
 refine calls_of_wp hf hb (wp_mono (qD hm c _ _ h _ _ ⟨_,r0⟩) fun e a w' he=> ?_)
 obtain ⟨s,⟨he,aHc⟩,G,r⟩:=he
 have key:∃(E:Env) (v:Value) (fp:List Nat),(results fn a.tmps).run P w'= .ok v w'/\R w' E.plain rr v fp/\fp.Nodup/\clean rr=true/\∀b∈fp,∃j ob g,look s.o G j ob g/\ob.live=true/\g.F b:=by
  rcases aHc with ⟨ys,yh,uX,hu,jD,wU⟩|⟨i,ys,yh,uX,hu,hi,jD,wU⟩
  ·obtain ⟨v,hrun,hR⟩:=zY r yh
   obtain ⟨fp,h1,h2,h3⟩:=JO r _ v uX hu hR
   rw [jD] at h1
   exact ⟨_,v,fp,hrun,h1,h2,wU,fun b hb=>by obtain ⟨i,ob,g,_,h⟩:=h3 b hb;exact ⟨i,ob,g,h⟩⟩
  ·obtain ⟨v,fp0,ob,g,hlk,hlive,hrun,hR,hnd,hF⟩:=Tx r yh
   obtain ⟨fp,h1,h2,h3⟩:=xu r hlk hlive _ v fp0 uX hu hi hnd hF hR
   rw [jD] at h1
   refine ⟨_,v,fp,hrun,h1,h2,wU,fun b hb=> ?_⟩
   rcases h3 b hb with h|⟨j,dY,g',_,h⟩
   ·exact ⟨i,ob,g,hlk,hlive,hF b h⟩
   ·exact ⟨j,dY,g',h⟩
 obtain ⟨E,v,fp,hrun,h1,h2,wU,h3⟩:=key
 have hfin:∃v' fp,Ending.returned v= .returned v'/\R w' (EY w.heap.size w' fp) rr v' fp/\fp.Nodup/\(∀b∈fp,w.heap.size<=b/\b < w'.heap.size)/\w.heap.size<=w'.heap.size/\(∀b,b < w.heap.size->w'.heap[b]? =w.heap[b]?)/\lU w w':=by
  refine ⟨v,fp,rfl,aEn <| Gc (E:=E.plain) (fun _ _=>trivial) rfl rfl rfl _ _ _ wU h1,h2,fun b hb=> ?_,r.size,fun b hb=>r.frame b hb (fun h=>h),r.same⟩
  obtain ⟨i,ob,g,hl,hlive,hF⟩:=h3 b hb
  have:=r.fresh _ _ _ b hl hlive hF
  exact ⟨this.1.resolve_left (fun h=>h),this.2⟩
 rcases he with rfl|rfl
 ·exact ⟨r.defs,v,hrun,hfin⟩
 ·exact ⟨r.defs,v,hrun,hfin⟩
theorem NA {P:Program} [aD P] (hm:P.follows .mixedOrders=true) {f:FuncId} {fn:Func} {c:Code} (hf:P.funcs[f]? =some fn) {n:Nat} (hn:fn.ntmps=n) {args t:List AV} {rr:AV}
  (h:qU P c ⟨t,[]⟩ (fun e s=>(e= .normal\/e= .ret)/\(aB P fn s rr\/Yo P fn s rr))) (hb:fn.body=some c:=by rfl)
  (ht:args++replicate (n - args.length) .undef=t:=by
   simp only [length_cons,length_nil,Nat.reduceSub,Nat.reduceAdd,replicate_succ,replicate_zero,cons_append,nil_append];rfl):Ok P f args rr:=by
 subst ht;subst hn;exact Yp hm hf hb h
end Go.Aw
