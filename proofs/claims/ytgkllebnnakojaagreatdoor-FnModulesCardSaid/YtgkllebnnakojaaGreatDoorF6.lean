/-
  Proved here: a region whose order of evaluation is open is walked as if its order were given.
  No condition beyond what each statement spells out.
-/
import Derived.Test.YtgkllebnnakojaaGreatDoorF3
import Derived.ProofKit
import Derived.Laws.StructEq
import Derived.DeepKeys
import Derived.KernelRfl
import Derived.Test.YtgkllebnnakojaaGreatDoorF9
import Derived.Test.YtgkllebnnakojaaGreatDoorF2
set_option linter.all false
namespace Go.Aw
def pre (op:Oper):List Nat:=(op.after.toList.filter fun e=>Region.binds .any e).map (·.on)
def Clo (l:List Oper) (J:Nat→Bool):Prop:=∀j op,l[j]? =some op→J j=true→∀e∈pre op,J e=true
theorem aNc {op:Oper} {n:Nat}:n∈pre op↔∃e∈op.after.toList,Region.binds .any e=true∧e.on=n:=by
 simp [pre,List.mem_map,List.mem_filter,and_assoc]
def iG (P:Program) [aB P] (l:List Oper) (op:Oper) (s:AS) (K:AS→Prop):Prop:=
 match op.guard with
 |none=>aop P op s K∨wR P op s K
 |some (j,want)=>match fH l s j want with
  | .bool b=>(b=want→aop P op s K∨wR P op s K)∧(b≠want→K (s.put op.dst (.tup [])))
  |_=>False
def dM (l:List Oper) (j:Nat):List Nat:=match l[j]? with|some o=>pre o|none=>[]
def reach (l:List Oper):Nat→List Nat→List Nat
 |0,acc=>acc
 |k+1,acc=>reach l k (if k∈acc then acc++dM l k else acc)
def qL (l:List Oper) (m:Nat):Bool:=
 decide (m≤l.length)&&((List.range (l.length - m)).all (fun d=>(dM l (m+d)).all (fun e=>decide (e < m+d))&&(d == 0 || decide (m+d - 1∈dM l (m+d))))&&
 (decide (l.length≤m) || (List.range m).all fun j=>decide (j∈reach l m (dM l m))))
theorem aAt {l:List Oper} {J:Nat→Bool} (hc:Clo l J):∀(k:Nat) (acc:List Nat),(∀e∈acc,J e=true)→∀e∈reach l k acc,J e=true
 |0,acc,h=>h
 |k+1,acc,h=>by
  simp only [reach]
  refine aAt hc k _ ?_
  split
  ·rename_i hk
   intro e he
   rcases List.mem_append.1 he with he|he
   ·exact h e he
   ·unfold dM at he
    split at he
    ·rename_i o ho;exact hc k o ho (h k hk) e he
    ·cases he
  ·exact h
theorem aJ4 {l:List Oper} {m j:Nat} {op:Oper} (ht:qL l m=true) (hm:m≤j) (hj:l[j]? =some op):(∀e∈pre op,e < j)∧(m < j→j - 1∈pre op):=by
 unfold qL at ht
 simp only [Bool.and_eq_true,List.all_eq_true] at ht
 have hlt:=(List.getElem?_eq_some_iff.1 hj).1
 have h:=ht.2.1 (j - m) (by simp;omega)
 have e:m+(j - m)=j:=by omega
 have hp:dM l j=pre op:=by simp [dM,hj]
 rw [e,hp] at h
 simp only [List.all_eq_true,decide_eq_true_eq,Bool.or_eq_true,beq_iff_eq] at h
 exact ⟨h.1,fun hlt=>h.2.resolve_left (by omega)⟩
theorem aSg {l:List Oper} {m:Nat} {op:Oper} {J:Nat→Bool} (ht:qL l m=true) (hm:l[m]? =some op) (hc:Clo l J) (hp:∀e∈pre op,J e=true):∀j,j < m→J j=true:=by
 intro j hj
 unfold qL at ht
 simp only [Bool.and_eq_true,Bool.or_eq_true,decide_eq_true_eq] at ht
 have hlt:=(List.getElem?_eq_some_iff.1 hm).1
 have h:=ht.2.2.resolve_left (by omega)
 rw [List.all_eq_true] at h
 have:=h j (by simpa using hj)
 simp only [decide_eq_true_eq] at this
 have hpa:dM l m=pre op:=by simp [dM,hm]
 rw [hpa] at this
 exact aAt hc m _ hp j this
theorem aJa {listed:Array Bool} {i:Nat} (h:i < listed.size):(!listed.getD i true)= !listed.getD i false:=by
 rw [Array.getD_eq_getD_getElem?,Array.getD_eq_getD_getElem?,Array.getElem?_eq_getElem h];rfl
theorem mem_ready {ops:Array Oper} {listed:Array Bool} (hl:listed.size=ops.size) {i:Nat}:i∈Region.ready .any ops listed↔∃op,ops.toList[i]? =some op∧listed.getD i false=false∧∀e∈pre op,listed.getD e false=true:=by
 unfold Region.ready
 rw [List.mem_filter]
 constructor
 ·rintro ⟨hi1,hi2⟩
  have hio:i < ops.size:=by simpa using hi1
  have hop:ops[i]? =some ops[i]:=by simp [hio]
  simp only [Bool.and_eq_true,hop,Option.map_some,Option.getD_some] at hi2
  obtain ⟨h1,h2⟩:=hi2
  rw [Array.all_eq_true'] at h2
  refine ⟨ops[i],by simp [hio],?_,fun n hn=> ?_⟩
  ·rw [aJa (by omega)] at h1;simpa using h1
  ·obtain ⟨e,he,hb,rfl⟩:=aNc.1 hn
   have:=h2 e (by simpa using he)
   simpa [hb] using this
 ·rintro ⟨op,hop,h1,h2⟩
  have hio:i < ops.size:=by have:=(List.getElem?_eq_some_iff.1 hop).1;simpa using this
  have hop':ops[i]? =some op:=by simpa using hop
  refine ⟨by simpa using hio,?_⟩
  simp only [Bool.and_eq_true,hop',Option.map_some,Option.getD_some]
  refine ⟨by rw [aJa (by omega)];simp [h1],?_⟩
  rw [Array.all_eq_true']
  intro e he
  cases hb:Region.binds .any e with
  |false=>simp
  |true=>
   have:=h2 e.on (aNc.2 ⟨e,by simpa using he,hb,rfl⟩)
   simp [this]
theorem aJe {P:Program} [aB P] {B:Base P} {l:List Oper} {op:Oper} {s:AS} {K:AS→Prop} (h:iG P l op s K) {a:Act} {w:World} (r:Rel B s a w) {Kc:Act→World→Prop} {Q:Exit→Act→World→Prop} (hk:∀a' w' s',K s'→Rel B s' a' w'→Kc a' w'):
  if Region.wanted op (yielded l.toArray a.tmps) then op.wp P a w Kc Q∨(op.asks P a w∧LetsOut Q) else Kc (a.put op.dst undef) w:=by
 unfold iG at h
 split at h
 ·rename_i hg
  rw [if_pos (by simp [Region.wanted,hg])]
  obtain ⟨s',h',hst⟩:=h.elim (sZ (B:=B)) (aEj (B:=B))
  exact .inl (hst a w _ Q r fun a' w' r'=>hk a' w' s' h' r')
 ·rename_i j want hg
  split at h
  ·rename_i b hb
   obtain ⟨G,r'⟩:=r
   have hy:=aC5 r' hb
   by_cases hbw:b=want
   ·rw [if_pos (by simp [Region.wanted,hg,hy,hbw])]
    obtain ⟨s',h',hst⟩:=(h.1 hbw).elim (sZ (B:=B)) (aEj (B:=B))
    exact .inl (hst a w _ Q ⟨G,r'⟩ fun a' w' r'=>hk a' w' s' h' r')
   ·rw [if_neg (by simp [Region.wanted,hg,hy,hbw])]
    exact hk _ _ _ (h.2 hbw) ⟨G,r'.put op.dst (aLc _ _)⟩
  ·exact h.elim
theorem wJ {P:Program} [aB P] {B:Base P} {all r:List Oper} {o:Oper} {s:AS} {K:AS→Prop} (h:bP P all (o::r) s K) {a:Act} {w:World} (rl:Rel B s a w) {Kc:Act→World→Prop} {Q:Exit→Act→World→Prop} (hk:∀a' w' s',bP P all r s' K→Rel B s' a' w'→Kc a' w'):
  if Region.wanted o (yielded all.toArray a.tmps) then o.wp P a w Kc Q∨(o.asks P a w∧LetsOut Q) else Kc (a.put o.dst undef) w:=by
 simp only [bP] at h
 have stepped:((aop P o s fun s'=>bP P all r s' K)∨(nK P o s fun s'=>bP P all r s' K)∨(sJ P o s fun s'=>bP P all r s' K))→o.wp P a w Kc Q∨(o.asks P a w∧LetsOut Q):=by
  intro h
  by_cases hcu:sJ P o s fun s'=>bP P all r s' K
  ·exact .inl (aCv hcu a w _ Q rl fun a' w' s' h' r'=>hk a' w' s' h' r')
  have:∃s',bP P all r s' K∧Step P B o s s':=by
   rcases h with h|h|h
   ·exact sZ (B:=B) h
   ·exact aEl (B:=B) h
   ·exact (hcu h).elim
  obtain ⟨s',h',hst⟩:=this
  exact .inl (hst a w _ Q rl fun a' w' r'=>hk a' w' s' h' r')
 split at h
 ·rename_i hg
  rw [if_pos (by simp [Region.wanted,hg])]
  exact stepped h
 ·rename_i j want hg
  split at h
  ·rename_i b hb
   have rl2:=rl
   obtain ⟨G,r'⟩:=rl2
   have hy:=aC5 r' hb
   by_cases hbw:b=want
   ·rw [if_pos (by simp [Region.wanted,hg,hy,hbw])]
    exact stepped (h.1 hbw)
   ·rw [if_neg (by simp [Region.wanted,hg,hy,hbw])]
    exact hk _ _ _ (h.2 hbw) ⟨G,r'.put o.dst (aLc _ _)⟩
  ·exact h.elim
theorem yQ {listed:Array Bool} {i:Nat} (h:i < listed.size) (j:Nat):(listed.setIfInBounds i true).getD j false=upd (fun j=>listed.getD j false) i j:=by
 unfold upd
 simp only [Array.getD_eq_getD_getElem?,Array.getElem?_setIfInBounds]
 by_cases hj:j=i
 ·subst hj;simp [h]
 ·simp [hj,Ne.symm hj]
theorem aNd {P:Program} [aB P] {B:Base P} {ops:Array Oper} {m:Nat} {K:AS→Prop} {Q:Exit→Act→World→Prop} (ht:qL ops.toList m=true) (hk:∀a' w' s',K s'→Rel B s' a' w'→Q .normal a' w'):
  ∀(n k:Nat) (listed:Array Bool) (s:AS) (a:Act) (w:World),listed.size=ops.size→k+n=ops.size→m≤k→(∀j,listed.getD j false=decide (j < k))→bP P ops.toList (ops.toList.drop k) s K→Rel B s a w→wpAny P .any ops Q n listed a w
 |0,k,listed,s,a,w,hl,hn,hm,hj,h,r=>by
  have hdr:ops.toList.drop k=[]:=List.drop_of_length_le (by simp;omega)
  rw [hdr] at h
  simp only [bP] at h
  refine ⟨?_,hk _ _ _ h r⟩
  rw [List.eq_nil_iff_forall_not_mem]
  intro i hi
  obtain ⟨op,hop,h1,_⟩:=(mem_ready hl).1 hi
  have hio:=(List.getElem?_eq_some_iff.1 hop).1
  rw [hj] at h1
  simp at h1 hio
  omega
 |n+1,k,listed,s,a,w,hl,hn,hm,hj,h,r=>by
  have hkl:k < ops.toList.length:=by simp;omega
  have hop:ops.toList[k]? =some ops.toList[k]:=List.getElem?_eq_getElem hkl
  have hpre:=aJ4 ht hm hop
  constructor
  ·intro hnil
   exfalso
   have:k∈Region.ready .any ops listed:=(mem_ready hl).2 ⟨_,hop,by rw [hj];simp,fun e he=>by rw [hj];simpa using hpre.1 e he⟩
   rw [hnil] at this;cases this
  ·intro i hi
   obtain ⟨op,hopi,h1,h2⟩:=(mem_ready hl).1 hi
   rw [hj] at h1
   have hki:k≤i:=by simpa using h1
   have hik:i=k:=by
    rcases Nat.lt_or_ge k i with hlt|hge
    ·exfalso
     have:=h2 _ ((aJ4 ht (by omega) hopi).2 (by omega))
     rw [hj] at this
     simp at this
     omega
    ·omega
   subst hik
   rw [hop] at hopi
   obtain rfl:=Option.some.inj hopi
   rw [List.drop_eq_getElem_cons hkl] at h
   unfold wpOp
   have hopa:ops[i]? =some ops.toList[i]:=by simpa using hop
   rw [hopa]
   have:=wJ h r (Kc:=wpAny P .any ops Q n (listed.setIfInBounds i true)) (Q:=Q) (fun a' w' s' h' r'=>
    aNd ht hk n (i+1) _ s' a' w' (by simpa using hl) (by omega) (by omega) (fun j=>by
     rw [yQ (by simpa [hl] using hkl)]
     unfold upd
     by_cases hji:j=i
     ·subst hji;simp
     ·rw [if_neg hji]
      show listed.getD j false=_
      rw [hj]
      have:(j < i)↔(j < i+1):=by omega
      simp [this]) h' r')
   simpa using this
def mU (l:List Oper) (d:List Bool):List Nat:=(List.range l.length).filter fun i=> !d.getD i false&&(dM l i).all fun e=>d.getD e false
mutual
def jH (P : Program) [aB P] (l : List Oper) (K : AS → Prop) : Nat → List Bool → AS → Prop
  | 0, _, s => K s
  | n + 1, d, s => jD P l K n d s (mU l d)
def jD (P : Program) [aB P] (l : List Oper) (K : AS → Prop) : Nat → List Bool → AS → List Nat → Prop
  | _, _, _, [] => True
  | n, d, s, i :: r => (∃ op, l[i]? = some op ∧ bP P l [op] s fun s' => jH P l K n (d.set i true) s') ∧ jD P l K n d s r
end
theorem aBj {P:Program} [aB P] {l:List Oper} {K:AS→Prop} {n:Nat} {d:List Bool} {s:AS}:∀{r:List Nat},jD P l K n d s r→∀i∈r,∃op,l[i]? =some op∧bP P l [op] s fun s'=>jH P l K n (d.set i true) s'
 |[],_,i,hi=>by cases hi
 |j::r,h,i,hi=>by
  simp only [jD] at h
  rcases List.mem_cons.1 hi with rfl|hi
  ·exact h.1
  ·exact aBj h.2 i hi
def nW (l:List Oper):Bool:=(List.range l.length).all fun i=>(dM l i).all fun e=>decide (e < i)
theorem tH {l:List Oper} (h:nW l=true) {i:Nat} {op:Oper} (hi:l[i]? =some op):∀e∈pre op,e < i:=by
 unfold nW at h
 rw [List.all_eq_true] at h
 have:=h i (by simp;exact (List.getElem?_eq_some_iff.1 hi).1)
 have hp:dM l i=pre op:=by simp [dM,hi]
 rw [hp,List.all_eq_true] at this
 exact fun e he=>by simpa using this e he
theorem aM7 {P:Program} [aB P] {B:Base P} {ops:Array Oper} {K:AS→Prop} {Q:Exit→Act→World→Prop} (hfw:nW ops.toList=true) (hk:∀a' w' s',K s'→Rel B s' a' w'→Q .normal a' w'):
  ∀(n:Nat) (d:List Bool) (listed:Array Bool) (s:AS) (a:Act) (w:World),listed.toList=d→listed.size=ops.size→left d=n→jH P ops.toList K n d s→Rel B s a w→wpAny P .any ops Q n listed a w
 |0,d,listed,s,a,w,hd,hl,hn,h,r=>by
  simp only [jH] at h
  refine ⟨?_,hk _ _ _ h r⟩
  rw [List.eq_nil_iff_forall_not_mem]
  intro i hi
  obtain ⟨op,hop,h1,_⟩:=(mem_ready hl).1 hi
  have hio:=(List.getElem?_eq_some_iff.1 hop).1
  have hi':i < listed.size:=by simp at hio;omega
  have:=wD (l:=d) hn (i:=i) (b:=listed[i]) (by rw [←hd];simp [hi'])
  rw [Array.getD_eq_getD_getElem?,Array.getElem?_eq_getElem hi'] at h1
  simp [this] at h1
 |n+1,d,listed,s,a,w,hd,hl,hn,h,r=>by
  have hget:∀j,d.getD j false=listed.getD j false:=fun j=>by rw [←hd,List.getD_eq_getElem?_getD,Array.getD_eq_getD_getElem?];simp
  simp only [jH] at h
  constructor
  ·intro hnil
   exfalso
   obtain ⟨i,h1,h2⟩:=zA (l:=d) (by omega)
   have hi:i < listed.size:=by have:=(List.getElem?_eq_some_iff.1 h1).1;rw [←hd] at this;simpa using this
   have hio:i < ops.toList.length:=by simp;omega
   have hop:=List.getElem?_eq_getElem hio
   have:i∈Region.ready .any ops listed:=(mem_ready hl).2 ⟨_,hop,by rw [←hget,List.getD_eq_getElem?_getD,h1];rfl,fun e he=>by
    have:=h2 e (tH hfw hop e he)
    rw [←hget,List.getD_eq_getElem?_getD,this];rfl⟩
   rw [hnil] at this;cases this
  ·intro i hi
   obtain ⟨op,hop,h1,h2⟩:=(mem_ready hl).1 hi
   have hio:=(List.getElem?_eq_some_iff.1 hop).1
   have hir:i∈mU ops.toList d:=by
    unfold mU
    rw [List.mem_filter]
    refine ⟨by simpa using hio,?_⟩
    have hp:dM ops.toList i=pre op:=by simp [dM,hop]
    rw [hget,h1,hp]
    simp only [Bool.not_false,Bool.true_and,List.all_eq_true]
    exact fun e he=>by rw [hget];exact h2 e he
   obtain ⟨op',hop',hst⟩:=aBj h i hir
   rw [hop] at hop'
   obtain rfl:=Option.some.inj hop'
   unfold wpOp
   have hopa:ops[i]? =some op:=by simpa using hop
   rw [hopa]
   have hil:i < listed.size:=by simp at hio;omega
   have:=wJ hst r (Kc:=wpAny P .any ops Q n (listed.setIfInBounds i true)) (Q:=Q) (fun a' w' s' h' r'=>by
    simp only [bP] at h'
    refine aM7 hfw hk n (d.set i true) _ s' a' w' (by rw [Array.toList_setIfInBounds,hd]) (by simpa using hl) ?_ h' r'
    have hdi:d[i]? =some false:=by
     have h3:=hget i
     rw [h1,List.getD_eq_getElem?_getD] at h3
     have hid:i < d.length:=by rw [←hd];simpa using hil
     rw [List.getElem?_eq_getElem hid] at h3⊢
     simpa using h3
    have:=uR hdi
    omega)
   simpa using this
def kY (l:List Oper) (m:Nat):Bool:=(List.range l.length).all fun i=>decide (i≤m) || (dM l i).any fun e=>decide (m≤e)
theorem uI:∀(L:List Bool) (q:Nat),(∀j,L.getD j false=decide (j < q))→q≤L.length→left L+q=L.length
 |[],q,_,h=>by simp at h;simp [left,h]
 |b::L,q,hq,hle=>by
  have hb:=hq 0
  simp [List.getD] at hb
  rw [sN]
  cases q with
  |zero=>
   have hb':b=false:=by simpa using hb
   have:=uI L 0 (fun j=>by have:=hq (j+1);simpa [List.getD] using this) (by omega)
   rw [hb',if_neg (by simp)]
   simp;omega
  |succ q=>
   have hb':b=true:=by simpa using hb
   have:=uI L q (fun j=>by have:=hq (j+1);simpa [List.getD] using this) (by simpa using hle)
   rw [hb',if_pos rfl]
   simp;omega
theorem aJi {P:Program} [aB P] {ops:Array Oper} {s:AS} {K:AS→Prop} (m:Nat) (hmle:m≤ops.size) (hfw:nW ops.toList=true) (hrest:kY ops.toList m=true) (S:(Nat→Bool)→AS) (h0:dV s (S fun _=>false))
  (hs:∀i op,i < m→ops.toList[i]? =some op→∀J:Nat→Bool,Clo ops.toList J→(∀k,m≤k→J k=false)→J i=false→(∀e∈pre op,J e=true)→(iG P ops.toList op (S J) fun s'=>dV s' (S (upd J i)))∨(op.guard=none∧∀B,Step P B op (S J) (S (upd J i))))
  (he:∀J:Nat→Bool,Clo ops.toList J→(∀k,m≤k→J k=false)→((∀i,i < m→J i=true)∨∃op,ops.toList[m]? =some op∧∀e∈pre op,J e=true)→jH P ops.toList K (left ((List.range ops.size).map J)) ((List.range ops.size).map J) (S J)∨(qL ops.toList m=true∧(∀i,i < m→J i=true)∧bP P ops.toList (ops.toList.drop m) (S J) K)):aPi P ops s K:=by
 intro B a w Q hr hk
 have toJ:∀listed:Array Bool,listed.size=ops.size→listed.toList=(List.range ops.size).map fun i=>listed.getD i false:=by
  intro listed hl
  refine List.ext_getElem? fun i=> ?_
  rw [List.getElem?_map]
  by_cases hi:i < ops.size
  ·have hil:i < listed.size:=by omega
   simp [hi,hil]
  ·have hil:listed.toList.length≤i:=by simp;omega
   rw [List.getElem?_eq_none hil];simp [hi]
 have fin:∀(fuel:Nat) (listed:Array Bool) (a:Act) (w:World),listed.size=ops.size→left listed.toList=fuel→(∀k,m≤k→listed.getD k false=false)→Clo ops.toList (fun i=>listed.getD i false)→Rel B (S fun i=>listed.getD i false) a w→
   ((∀i,i < m→listed.getD i false=true)∨∃op,ops.toList[m]? =some op∧∀e∈pre op,listed.getD e false=true)→wpAny P .any ops Q fuel listed a w:=by
  intro fuel listed a w hl hz hhi hc r hor
  rcases he _ hc hhi hor with this|⟨ht,hall,h⟩
  ·rw [←toJ listed hl] at this
   exact aM7 hfw hk fuel listed.toList listed _ a w rfl hl hz (hz▸this) r
  ·have hJ:(fun i=>listed.getD i false)=fun k=>decide (k < m):=by
    funext i
    by_cases hi:i < m
    ·rw [hall i hi];simp [hi]
    ·rw [hhi i (by omega)];simp [hi]
   have hcount:m+fuel=ops.size:=by
    have:=uI listed.toList m (fun j=>by have:=congrFun hJ j;simpa [Array.getD_eq_getD_getElem?,List.getD_eq_getElem?_getD] using this) (by simp;omega)
    rw [hz] at this
    simp at this;omega
   exact aNd ht hk fuel m listed _ a w hl hcount (Nat.le_refl _) (fun j=>congrFun hJ j) h r
 have key:∀(fuel:Nat) (listed:Array Bool) (a:Act) (w:World),listed.size=ops.size→left listed.toList=fuel→(∀k,m≤k→listed.getD k false=false)→Clo ops.toList (fun i=>listed.getD i false)→Rel B (S fun i=>listed.getD i false) a w→wpAny P .any ops Q fuel listed a w:=by
  intro fuel
  induction fuel with
  |zero=>
   intro listed a w hl hz hhi hc r
   refine fin 0 listed a w hl hz hhi hc r (.inl fun i hi=> ?_)
   have hi':i < listed.size:=by omega
   have:=wD hz (i:=i) (b:=listed[i]) (by simp [hi'])
   simp [Array.getD,hi',this]
  |succ fuel ih=>
   intro listed a w hl hz hhi hc r
   by_cases hall:(∀i,i < m→listed.getD i false=true)∨∃op,ops.toList[m]? =some op∧∀e∈pre op,listed.getD e false=true
   ·exact fin _ listed a w hl hz hhi hc r hall
   ·have hlow:∀i∈Region.ready .any ops listed,i < m:=by
     intro i hi
     obtain ⟨op,hop,h1,h2⟩:=(mem_ready hl).1 hi
     rcases Nat.lt_or_ge i m with h|h
     ·exact h
     ·exfalso
      rcases Nat.lt_or_ge m i with hlt|hge
      ·unfold kY at hrest
       rw [List.all_eq_true] at hrest
       have:=hrest i (by simp;have:=(List.getElem?_eq_some_iff.1 hop).1;simpa using this)
       have hp:dM ops.toList i=pre op:=by simp [dM,hop]
       simp only [hp,Bool.or_eq_true,decide_eq_true_eq,List.any_eq_true] at this
       rcases this with h'|⟨e,he,hme⟩
       ·omega
       ·have h3:=h2 e he
        rw [hhi e hme] at h3;cases h3
      ·have:i=m:=by omega
       subst this
       exact hall (.inr ⟨op,hop,h2⟩)
    constructor
    ·intro hnil
     exfalso
     obtain ⟨i,h1,h2⟩:=zA (l:=listed.toList) (by omega)
     have hi:i < listed.size:=by have:=(List.getElem?_eq_some_iff.1 h1).1;simpa using this
     have hgi:listed.getD i false=false:=by
      have:listed[i]? =some false:=by simpa using h1
      rw [Array.getD_eq_getD_getElem?,this];rfl
     have hio':i < ops.toList.length:=by simp;omega
     have hop:=List.getElem?_eq_getElem hio'
     have:i∈Region.ready .any ops listed:=(mem_ready hl).2 ⟨_,hop,hgi,fun e he=>by
      have:=h2 e (tH hfw hop e he)
      have h3:listed[e]? =some true:=by simpa using this
      rw [Array.getD_eq_getD_getElem?,h3];rfl⟩
     rw [hnil] at this
     cases this
    ·intro i hi
     have him:=hlow i hi
     obtain ⟨op,hop,h1,h2⟩:=(mem_ready hl).1 hi
     have hio:i < ops.size:=by omega
     have hil:i < listed.size:=by omega
     have hst:=hs i op him hop (fun j=>listed.getD j false) hc hhi h1 h2
     unfold wpOp
     have hopa:ops[i]? =some op:=by simpa using hop
     rw [hopa]
     have hu:(fun j=>(listed.setIfInBounds i true).getD j false)=upd (fun j=>listed.getD j false) i:=funext fun j=>yQ hil j
     have hnext:∀a' w',Rel B (S (upd (fun j=>listed.getD j false) i)) a' w'→wpAny P .any ops Q fuel (listed.setIfInBounds i true) a' w':=fun a' w' r'=>by
      refine ih _ _ _ (by simpa using hl) ?_ ?_ ?_ ?_
      ·have h1':listed.toList[i]? =some false:=by
        have:listed[i]? =some listed[i]:=by simp [hil]
        rw [Array.getD_eq_getD_getElem?,this] at h1
        simp only [Option.getD_some] at h1
        rw [h1] at this
        simpa using this
       have:=uR h1'
       rw [Array.toList_setIfInBounds]
       omega
      ·intro k hk
       rw [yQ hil]
       unfold upd
       rw [if_neg (by omega)]
       exact hhi k hk
      ·rw [hu]
       intro j op' hj hJ e he
       by_cases hji:j=i
       ·subst hji
        rw [hop] at hj
        obtain rfl:=Option.some.inj hj
        unfold upd
        split
        ·rfl
        ·exact h2 e he
       ·unfold upd at hJ⊢
        rw [if_neg hji] at hJ
        split
        ·rfl
        ·exact hc j op' hj hJ e he
      ·rw [hu]
       exact r'
     rcases hst with hst|⟨hg,hst⟩
     ·have:=aJe hst r (Kc:=wpAny P .any ops Q fuel (listed.setIfInBounds i true)) (Q:=Q) (fun a' w' s' hw r'=>hnext a' w' (hw B a' w' r'))
      simpa using this
     ·have:Region.wanted op (yielded ops a.tmps)=true:=by simp [Region.wanted,hg]
      simp only [this,if_true]
      exact .inl (hst B a w _ Q r hnext)
 obtain ⟨G,r⟩:=hr
 have r2:Rel B s a {w with drawn:=w.drawn+1}:=⟨G,{len:=r.len,defs:=r.defs,ok:=fun i ob g hl hlive=>(r.ok i ob g hl hlive).keeps (w':={w with drawn:=w.drawn+1}) ⟨fun b h=>⟨h,rfl⟩,fun _ h=>h,fun _ _ _ h=>⟨h,rfl⟩,fun _ _ _ h=>h,fun _ _ _ _ _ h=>h⟩ (fun _ _=>rfl),apart:=r.apart,fresh:=r.fresh,tmps:=bW (w:=w) (E:=env B s.o G w) (w':={w with drawn:=w.drawn+1}) (E':=env B s.o G {w with drawn:=w.drawn+1}) ⟨fun b h=>⟨h,rfl⟩,fun _ h=>h,fun _ _ _ h=>⟨h,rfl⟩,fun _ _ _ h=>h,fun _ _ _ _ _ h=>h⟩ _ _ _ (by simp) r.tmps,size:=r.size,frame:=r.frame,base:=r.base,same:=r.same.trans ⟨rfl,rfl,rfl⟩}⟩
 have hJ:(fun i=>(Array.replicate ops.size false).getD i false)=fun _=>false:=by
  funext i
  simp only [Array.getD_eq_getD_getElem?,Array.getElem?_replicate]
  split<;>rfl
 refine key _ _ _ _ (by simp) (by simp [left]) (fun k _=>congrFun hJ k) (by rw [hJ];intro j op _ h;cases h) ?_
 rw [hJ]
 exact h0 _ _ _ r2
def jz (m:Nat) (z:List Nat) (k:Nat):Bool:=decide (k < m)&& !z.contains k
def jQ (l:List Oper) (m:Nat):List Nat:=(List.range m).filter fun j=> !(reach l m (dM l m)).contains j
def lX (F:List Nat→Prop):List Nat→List Nat→Prop
 |acc,[]=>F acc
 |acc,z::r=>lX F acc r∧lX F (z::acc) r
theorem aDi {F:List Nat→Prop} (p:Nat→Bool):∀(z acc:List Nat),lX F acc z→F ((z.filter p).reverse++acc)
 |[],acc,h=>by simpa [lX] using h
 |x::z,acc,h=>by
  simp only [lX] at h
  by_cases hx:p x=true
  ·have:=aDi p z (x::acc) h.2
   rw [List.filter_cons_of_pos hx]
   simpa using this
  ·have:=aDi p z acc h.1
   rw [List.filter_cons_of_neg hx]
   exact this
theorem aXk {l:List Oper} {m:Nat} {op:Oper} {J:Nat→Bool} (hm:l[m]? =some op) (hc:Clo l J) (hhi:∀k,m≤k→J k=false) (hp:∀e∈pre op,J e=true):J=jz m ((jQ l m).filter fun k=> !J k).reverse:=by
 funext k
 unfold jz
 by_cases hk:k < m
 ·simp only [hk,decide_true,Bool.true_and]
  cases hJ:J k with
  |true=>
   have:((jQ l m).filter fun k=> !J k).reverse.contains k=false:=by
    rw [List.contains_eq_mem];simp [hJ]
   rw [this];rfl
  |false=>
   have hs:k∈jQ l m:=by
    unfold jQ
    rw [List.mem_filter]
    refine ⟨by simpa using hk,?_⟩
    have hpa:dM l m=pre op:=by simp [dM,hm]
    rw [hpa]
    cases hcn:(reach l m (pre op)).contains k with
    |false=>rfl
    |true=>
     rw [List.contains_eq_mem] at hcn
     have:=aAt hc m (pre op) hp k (by simpa using hcn)
     rw [hJ] at this;cases this
   have:((jQ l m).filter fun k=> !J k).reverse.contains k=true:=by
    rw [List.contains_eq_mem];simp [hJ,hs]
   rw [this];rfl
 ·rw [hhi k (by omega)];simp [hk]
def aNl (i:Nat) (pr:List Nat) (j:Nat) (op:Oper) (v:AV) (t:List AV):List AV:=
 match op.dst with
 |none=>t
 |some d=>if j=i then t else if j∈pr then t.set d v else if i∈pre op then t else t.set d .undef
def fB (i:Nat) (pr:List Nat):Nat→List Oper→List AV→List AV→List AV
 |_,[],_,t=>t
 |j,op::r,vs,t=>fB i pr (j+1) r vs.tail (aNl i pr j op (vs.headD .undef) t)
def lN (J:Nat→Bool) (j:Nat) (op:Oper) (v:AV) (t:List AV):List AV:=
 match op.dst with
 |none=>t
 |some d=>if J j=true then t.set d v else t
def bY (J:Nat→Bool):Nat→List Oper→List AV→List AV→List AV
 |_,[],_,t=>t
 |j,op::r,vs,t=>bY J (j+1) r vs.tail (lN J j op (vs.headD .undef) t)
theorem aAx:∀{t2 t:List AV} (d:Nat) {v2 v:AV},wk t2 t→(v=v2∨v= .undef)→wk (t2.set d v2) (t.set d v)
 |[],[],_,_,_,_,_=>trivial
 |[],_::_,_,_,_,h,_=>h.elim
 |_::_,[],_,_,_,h,_=>h.elim
 |_::_,_::_,0,_,_,h,hv=>⟨hv,h.2⟩
 |_::_,_::_,d+1,_,_,h,hv=>⟨h.1,aAx d h.2 hv⟩
theorem aAe:∀{t2 t:List AV} (d:Nat),wk t2 t→wk t2 (t.set d .undef)
 |[],[],_,_=>trivial
 |[],_::_,_,h=>h.elim
 |_::_,[],_,h=>h.elim
 |_::_,_::_,0,h=>⟨.inr rfl,h.2⟩
 |_::_,_::_,d+1,h=>⟨h.1,aAe d h.2⟩
theorem aAn:∀{t2 t:List AV},wk t2 t→t2.length=t.length
 |[],[],_=>rfl
 |[],_::_,h=>h.elim
 |_::_,[],h=>h.elim
 |_::_,_::_,h=>by simp [aAn h.2]
theorem jR:∀t:List AV,wk t t
 |[]=>trivial
 |_::xs=>⟨.inl rfl,jR xs⟩
theorem aBf {J:Nat→Bool} {i:Nat} {pr:List Nat} (hi:J i=false) (hpr:∀e∈pr,J e=true∧e < i):
  ∀(l:List Oper) (j:Nat) (vs vs':List AV) (t2 t:List AV),(∀k op,l[k]? =some op→J (j+k)=true→∀e∈pre op,J e=true)→(∀k,j+k < i→vs'.getD k .undef=vs.getD k .undef)→wk t2 t→wk (bY J j l vs t2) (fB i pr j l vs' t)
 |[],_,_,_,_,_,_,_,h=>h
 |op::r,j,vs,vs',t2,t,hc,hv,h=>by
  simp only [bY,fB]
  refine aBf hi hpr r (j+1) vs.tail vs'.tail _ _ (fun k q hk hJ=>hc (k+1) q (by simpa using hk) (by rwa [show j+(k+1)=j+1+k by omega])) (fun k hk=>by
   have:=hv (k+1) (by omega)
   cases vs<;>cases vs'<;>simpa [List.getD] using this) ?_
  have h0:j < i→vs'.headD .undef=vs.headD .undef:=fun hj=>by
   have:=hv 0 (by omega)
   cases vs<;>cases vs'<;>simpa [List.getD] using this
  unfold lN aNl
  cases hd:op.dst with
  |none=>exact h
  |some d=>
   dsimp only
   by_cases hji:j=i
   ·subst hji;rw [if_pos rfl,if_neg (by rw [hi];simp)];exact h
   ·rw [if_neg hji]
    by_cases hp:j∈pr
    ·rw [if_pos hp,if_pos (hpr j hp).1]
     exact aAx d h (.inl (h0 (hpr j hp).2))
    ·rw [if_neg hp]
     by_cases hq:i∈pre op
     ·rw [if_pos hq]
      have:J j≠true:=fun hJ=>by
       have:=hc 0 op rfl hJ i hq
       rw [hi] at this;cases this
      rw [if_neg this];exact h
     ·rw [if_neg hq]
      split
      ·exact aAx d h (.inr rfl)
      ·exact aAe d h
theorem aGp {J:Nat→Bool} (d:Nat) (x:AV):∀(l:List Oper) (j:Nat) (vs:List AV) (t:List AV),(∀op∈l,op.dst≠some d)→bY J j l vs (t.set d x)=(bY J j l vs t).set d x
 |[],_,_,_,_=>rfl
 |op::r,j,vs,t,h=>by
  simp only [bY]
  rw [←aGp d x r (j+1) vs.tail _ (fun q hq=>h q (by simp [hq]))]
  congr 1
  unfold lN
  cases hd:op.dst with
  |none=>rfl
  |some d'=>
   dsimp only
   have:d'≠d:=fun e=>h op (by simp) (by rw [hd,e])
   split
   ·rw [List.set_comm _ _ (Ne.symm this)]
   ·rfl
theorem sI {J J':Nat→Bool}:∀(l:List Oper) (j:Nat) (vs:List AV) (t:List AV),(∀k,k < l.length→J (j+k)=J' (j+k))→bY J j l vs t=bY J' j l vs t
 |[],_,_,_,_=>rfl
 |op::r,j,vs,t,h=>by
  simp only [bY]
  have h0:J j=J' j:=h 0 (by simp)
  have:lN J j op (vs.headD .undef) t=lN J' j op (vs.headD .undef) t:=by unfold lN;rw [h0]
  rw [this]
  exact sI r (j+1) vs.tail _ fun k hk=>by
   have:=h (k+1) (by simpa using hk)
   rwa [show j+(k+1)=j+1+k by omega] at this
def distinct:List Oper→Bool
 |[]=>true
 |op::r=>(match op.dst with
  |none=>true
  |some d=>r.all fun q=>decide (q.dst≠some d))&&distinct r
theorem wH {J:Nat→Bool}:∀(l:List Oper) (j i:Nat) (op:Oper) (vs:List AV) (t:List AV) (v:AV),distinct l=true→l[i]? =some op→J (j+i)=false→vs.getD i .undef=v→
  bY (upd J (j+i)) j l vs t=fG (bY J j l vs t) op.dst v
 |[],_,_,_,_,_,_,_,h,_,_=>by simp at h
 |q::r,j,0,op,vs,t,v,hd,h,hJ,hv=>by
  simp at h;subst h
  simp only [bY,Nat.add_zero] at hJ⊢
  rw [sI (J:=upd J j) (J':=J) r (j+1) vs.tail _ (fun k _=>by unfold upd;rw [if_neg (by omega)])]
  have h1:lN (upd J j) j q (vs.headD .undef) t=fG t q.dst v:=by
   have hv':vs.headD .undef=v:=by cases vs<;>simpa [List.getD] using hv
   unfold lN fG
   rw [hv']
   cases q.dst with
   |none=>rfl
   |some d=>simp [upd]
  have h2:lN J j q (vs.headD .undef) t=t:=by
   unfold lN
   cases q.dst with
   |none=>rfl
   |some d=>simp [hJ]
  rw [h1,h2]
  cases hq:q.dst with
  |none=>rfl
  |some d=>
   simp only [distinct,hq,Bool.and_eq_true,List.all_eq_true,decide_eq_true_eq] at hd
   exact aGp d v r (j+1) vs.tail t hd.1
 |q::r,j,i+1,op,vs,t,v,hd,h,hJ,hv=>by
  simp only [distinct,Bool.and_eq_true] at hd
  simp only [bY]
  have h1:lN (upd J (j+(i+1))) j q (vs.headD .undef) t=lN J j q (vs.headD .undef) t:=by
   unfold lN
   have:upd J (j+(i+1)) j=J j:=by unfold upd;rw [if_neg (by omega)]
   rw [this]
  rw [h1,show j+(i+1)=j+1+i by omega]
  exact wH r (j+1) i op vs.tail _ v hd.2 (by simpa using h) (by rwa [show j+1+i=j+(i+1) by omega]) (by cases vs<;>simpa [List.getD] using hv)
def oJ (J:Nat→Bool) (b:List aA):List (Nat×List aA)→List aA
 |[]=>b
 |q::r=>if J q.1=true then q.2 else oJ J b r
def top (b:List aA):List (Nat×List aA)→List aA
 |[]=>b
 |q::_=>q.2
def oU (pr:List Nat):List (Nat×List aA)→Bool
 |[]=>true
 |q::_=>decide (q.1∈pr)
def inb (pr:List Nat) (n:Nat):Bool:=decide (n∈pr)
def qC (l:List Oper) (b:List aA):List (Nat×List aA)→Prop
 |[]=>True
 |q::r=>(∃new,q.2=top b r++new)∧(∀p,r.head? =some p→p.1 < q.1∧∃op,l[q.1]? =some op∧p.1∈pre op)∧qC l b r
theorem aPp {l:List Oper} {b:List aA} (J:Nat→Bool):∀{h:List (Nat×List aA)},qC l b h→∃ext,top b h=oJ J b h++ext
 |[],_=>⟨[],by simp [top,oJ]⟩
 |q::r,hc=>by
  obtain ⟨new,hn⟩:=hc.1
  obtain ⟨ext,he⟩:=aPp J hc.2.2
  simp only [oJ,top]
  split
  ·exact ⟨[],by simp⟩
  ·exact ⟨ext++new,by rw [hn,he,List.append_assoc]⟩
theorem aJo {l:List Oper} {b:List aA} {J:Nat→Bool} {pr:List Nat} (hp:∀e∈pr,J e=true):∀{h:List (Nat×List aA)},qC l b h→∃ext,oJ J b h=oJ (inb pr) b h++ext
 |[],_=>⟨[],by simp [oJ]⟩
 |q::r,hc=>by
  simp only [oJ]
  by_cases hq:q.1∈pr
  ·rw [if_pos (hp _ hq),if_pos (by simpa [inb] using hq)];exact ⟨[],by simp⟩
  ·rw [if_neg (show¬inb pr q.1=true by simpa [inb] using hq)]
   split
   ·obtain ⟨new,hn⟩:=hc.1
    obtain ⟨ext,he⟩:=aPp (inb pr) hc.2.2
    exact ⟨ext++new,by rw [hn,he,List.append_assoc]⟩
   ·exact aJo hp hc.2.2
theorem aFu (J:Nat→Bool) (b:List aA):∀{s h:List (Nat×List aA)},(∀q∈s,J q.1=false)→oJ J b (s++h)=oJ J b h
 |[],_,_=>rfl
 |q::s,h,hs=>by
  simp only [List.cons_append,oJ]
  rw [if_neg (by rw [hs q (by simp)];simp)]
  exact aFu J b fun p hp=>hs p (by simp [hp])
theorem aCw {l:List Oper} {b:List aA} {J:Nat→Bool} (hJ:Clo l J):∀{s h:List (Nat×List aA)} {q:Nat×List aA},qC l b (s++q::h)→J q.1=false→∀p∈s,J p.1=false
 |[],_,_,_,_=>fun _ hp=>by cases hp
 |x::s,h,q,hc,hq=>by
  have ih:=aCw hJ hc.2.2 hq
  intro p hp
  rcases List.mem_cons.1 hp with rfl|hp
  ·cases hJx:J p.1 with
   |false=>rfl
   |true=>
    exfalso
    cases s with
    |nil=>
     obtain ⟨_,op,h1,h2⟩:=hc.2.1 q rfl
     have:=hJ _ op h1 hJx _ h2
     rw [hq] at this;cases this
    |cons y s=>
     obtain ⟨_,op,h1,h2⟩:=hc.2.1 y rfl
     have:=hJ _ op h1 hJx _ h2
     rw [ih y (by simp)] at this;cases this
  ·exact ih p hp
def flv (J:Nat→Bool) (dead:Bool) (q:Nat×Nat×List AV):aA:=
 if J q.1=true then ⟨true,true,q.2.2.length,1,[q.2.2]⟩ else ⟨!dead,false,q.2.2.length,0,[]⟩
def plc (J:Nat→Bool) (dead:Bool):List (Nat×Nat×List AV)→List aA→List aA
 |[],o=>o
 |q::r,o=>plc J dead r (o.set q.2.1 (flv J dead q))
def nL:Nat→Bool:=fun _=>false
def aFq (fl:List (Nat×Nat×List AV)) (n:Nat):Bool:=decide (fl.map (·.1)).Nodup&&(decide (fl.map (·.2.1)).Nodup&&fl.all fun q=>decide (q.2.1 < n))
theorem jB (J:Nat→Bool) (d:Bool):∀(fl:List (Nat×Nat×List AV)) (o:List aA),(plc J d fl o).length=o.length
 |[],_=>rfl
 |q::r,o=>by simp only [plc];rw [jB J d r];simp
theorem tC {J:Nat→Bool} {d:Bool} {i:Nat}:∀{fl:List (Nat×Nat×List AV)} {o:List aA},(∀q∈fl,q.2.1≠i)→(plc J d fl o)[i]? =o[i]?
 |[],_,_=>rfl
 |q::r,o,h=>by
  simp only [plc]
  rw [tC fun p hp=>h p (by simp [hp]),List.getElem?_set_ne (h q (by simp))]
theorem pK {J:Nat→Bool} {d:Bool}:∀{fl:List (Nat×Nat×List AV)} {o:List aA} {q:Nat×Nat×List AV},(fl.map (·.2.1)).Nodup→q∈fl→q.2.1 < o.length→(plc J d fl o)[q.2.1]? =some (flv J d q)
 |p::r,o,q,hn,hq,hl=>by
  simp only [plc]
  simp only [List.map_cons,List.nodup_cons] at hn
  rcases List.mem_cons.1 hq with rfl|hq
  ·rw [tC fun p hp e=>hn.1 (List.mem_map.2 ⟨p,hp,e⟩),List.getElem?_set_self hl]
  ·exact pK hn.2 hq (by simpa using hl)
theorem aBw {J:Nat→Bool} {d:Bool} {n:List aA}:∀{fl:List (Nat×Nat×List AV)} {o:List aA},(∀q∈fl,q.2.1 < o.length)→plc J d fl (o++n)=plc J d fl o++n
 |[],_,_=>rfl
 |q::r,o,h=>by
  simp only [plc]
  rw [List.set_append_left _ _ (h q (by simp)),aBw fun p hp=>by simpa using h p (by simp [hp])]
theorem aMw {fl:List (Nat×Nat×List AV)} {o o':List aA} (hl:o.length=o'.length) (h:∀q∈fl,o[q.2.1]? =o'[q.2.1]?) (h2:∀i,(∀q∈fl,q.2.1≠i)→o[i]? =o'[i]?):o=o':=by
 refine List.ext_getElem? fun i=> ?_
 by_cases hi:∃q∈fl,q.2.1=i
 ·obtain ⟨q,hq,rfl⟩:=hi;exact h q hq
 ·exact h2 i fun q hq e=>hi ⟨q,hq,e⟩
theorem aUm {J J':Nat→Bool} {d d':Bool} {fl:List (Nat×Nat×List AV)} {o:List aA} (hn:(fl.map (·.2.1)).Nodup) (hs:∀q∈fl,q.2.1 < o.length):plc J d fl (plc J' d' fl o)=plc J d fl o:=
 aMw (fl:=fl) (by simp [jB]) (fun q hq=>by rw [pK hn hq (by rw [jB];exact hs q hq),pK hn hq (hs q hq)]) (fun i hi=>by rw [tC hi,tC hi,tC hi])
theorem aGr {J J':Nat→Bool} {d:Bool}:∀{fl:List (Nat×Nat×List AV)} {o:List aA},(∀q∈fl,J q.1=J' q.1)→plc J d fl o=plc J' d fl o
 |[],_,_=>rfl
 |q::r,o,h=>by
  simp only [plc]
  have:flv J d q=flv J' d q:=by unfold flv;rw [h q (by simp)]
  rw [this,aGr fun p hp=>h p (by simp [hp])]
theorem wM {α β:Type} (f:α→β):∀(L:List α),(L.map f).Nodup→∀p q,p∈L→q∈L→f p=f q→p=q
 |[],_,_,_,h,_,_=>by cases h
 |x::L,hn,p,q,hp,hq,e=>by
  simp only [List.map_cons,List.nodup_cons] at hn
  rcases List.mem_cons.1 hp with hp'|hp'
  ·rcases List.mem_cons.1 hq with hq'|hq'
   ·rw [hp',hq']
   ·exfalso;exact hn.1 (List.mem_map.2 ⟨q,hq',by rw [←e,hp']⟩)
  ·rcases List.mem_cons.1 hq with hq'|hq'
   ·exfalso;exact hn.1 (List.mem_map.2 ⟨p,hp',by rw [e,hq']⟩)
   ·exact wM f L hn.2 p q hp' hq' e
theorem aUc {J:Nat→Bool} {d:Bool} {fl:List (Nat×Nat×List AV)} {o:List aA} {q:Nat×Nat×List AV} (hn1:(fl.map (·.1)).Nodup) (hn:(fl.map (·.2.1)).Nodup) (hs:∀q∈fl,q.2.1 < o.length) (hq:q∈fl):
  plc (upd J q.1) d fl o=(plc J d fl o).set q.2.1 ⟨true,true,q.2.2.length,1,[q.2.2]⟩:=by
 have hinj:∀p∈fl,p.1=q.1→p=q:=fun p hp e=>wM (·.1) fl hn1 p q hp hq e
 have hinj2:∀p∈fl,p.2.1=q.2.1→p=q:=fun p hp e=>wM (·.2.1) fl hn p q hp hq e
 refine aMw (fl:=fl) (by simp [jB]) (fun p hp=> ?_) (fun i hi=> ?_)
 ·rw [pK hn hp (hs p hp)]
  by_cases hpq:p=q
  ·subst hpq
   rw [List.getElem?_set_self (by rw [jB];exact hs p hp)]
   simp [flv,upd]
  ·rw [List.getElem?_set_ne (fun e=>hpq (hinj2 p hp e.symm)),pK hn hp (hs p hp)]
   have:upd J q.1 p.1=J p.1:=by unfold upd;rw [if_neg (fun e=>hpq (hinj p hp e))]
   simp [flv,this]
 ·rw [tC hi,List.getElem?_set_ne (hi q hq),tC hi]
theorem aUf {J:Nat→Bool} {pr:List Nat} {fl:List (Nat×Nat×List AV)} {o ext:List aA} (hn:(fl.map (·.2.1)).Nodup) (hs:∀q∈fl,q.2.1 < o.length) (hp:∀e∈pr,J e=true):
  Sub (plc (inb pr) true fl o) (plc J false fl (o++ext)):=by
 intro i ob h hl
 by_cases hi:∃q∈fl,q.2.1=i
 ·obtain ⟨q,hq,rfl⟩:=hi
  rw [pK hn hq (hs q hq)] at h
  obtain rfl:=Option.some.inj h
  rw [pK hn hq (by have:=hs q hq;simp;omega)]
  unfold flv at hl⊢
  by_cases hb:inb pr q.1=true
  ·rw [if_pos hb,if_pos (hp q.1 (by simpa [inb] using hb))]
  ·rw [if_neg hb] at hl;cases hl
 ·have hi':∀q∈fl,q.2.1≠i:=fun q hq e=>hi ⟨q,hq,e⟩
  rw [tC hi'] at h⊢
  rw [List.getElem?_append_left (List.getElem?_eq_some_iff.1 h).1];exact h
theorem aMi {l:List Oper} {b:List aA} {J:Nat→Bool} {h:List (Nat×List aA)} (hc:qC l b h):∃ext,oJ J b h=b++ext:=by
 obtain ⟨ext,he⟩:=aJo (J:=J) (pr:=[]) (by simp) hc
 have:∀h:List (Nat×List aA),oJ (inb []) b h=b:=by
  intro h
  induction h with
  |nil=>rfl
  |cons q r ih=>simp [oJ,ih,inb]
 exact ⟨ext,by rw [he,this]⟩
theorem aF4 {fl:List (Nat×Nat×List AV)} {b:List aA} (J:Nat→Bool) (hb:plc nL true fl b=b):∀{h:List (Nat×List aA)},(∀q∈h,plc nL true fl q.2=q.2)→plc nL true fl (oJ J b h)=oJ J b h
 |[],_=>hb
 |q::r,h=>by
  simp only [oJ]
  split
  ·exact h q (by simp)
  ·exact aF4 J hb fun p hp=>h p (by simp [hp])
def nP (op:Oper) (s:AS):AV:=match op.dst with
 |some d=>s.t.getD d .undef
 |none=> .undef
def dS (P:Program) [aB P] (l:List Oper) (t:List AV) (b:List aA) (fl:List (Nat×Nat×List AV)) (K:AS→Prop):Nat→List Oper→List AV→List (Nat×List aA)→Prop
 |i,[],vs,h=>K ⟨bY (fun _=>true) 0 l vs t,plc (fun k=>decide (k < i)) false fl (top b h)⟩
 |i,op::r,vs,h=>(∃q∈fl,q.1=i∧op.guard=none∧(∃T,op.op= .alloc T∧zeroA P T=some q.2.2)∧(∀e∈pre op,e < i)∧dS P l t b fl K (i+1) r (vs++[.ptr q.2.1 1 0 0]) h)∨
   ((∀q∈fl,q.1≠i)∧gM op.op ⟨fB i (pre op) 0 l vs t,plc (inb (pre op)) true fl (oJ (inb (pre op)) b h)⟩=true∧(∀e∈pre op,e < i)∧
   iG P l op ⟨fB i (pre op) 0 l vs t,plc (inb (pre op)) true fl (oJ (inb (pre op)) b h)⟩ fun s'=>
    (oU (pre op) h=true∨s'.o.length=(oJ (inb (pre op)) b h).length)∧
    dS P l t b fl K (i+1) r (vs++[nP op s']) (if s'.o.length=(oJ (inb (pre op)) b h).length then h else (i,plc nL true fl s'.o)::h))∨
   (kY l i=true∧lX (fun z=>jH P l K (left ((List.range l.length).map (jz i z))) ((List.range l.length).map (jz i z)) ⟨bY (jz i z) 0 l vs t,plc (jz i z) false fl (oJ (jz i z) b h)⟩) [] (jQ l i))∨
   (kY l i=true∧qL l i=true∧bP P l (op::r) ⟨bY (fun k=>decide (k < i)) 0 l vs t,plc (fun k=>decide (k < i)) false fl (top b h)⟩ K)
structure Item (P : Program) [aB P] (l : List Oper) (t : List AV) (b : List aA) (fl : List (Nat × Nat × List AV)) (j : Nat) (op : Oper) (vs : List AV) (hf : List (Nat × List aA)) : Prop where
  pre : ∀ e ∈ pre op, e < j
  ex : (∃ q ∈ fl, q.1 = j ∧ op.guard = none ∧ (∃ T, op.op = .alloc T ∧ zeroA P T = some q.2.2) ∧ vs.getD j .undef = .ptr q.2.1 1 0 0 ∧ ∀ p ∈ hf, p.1 ≠ j) ∨
    ((∀ q ∈ fl, q.1 ≠ j) ∧ ∃ x new hj suf, gM op.op ⟨fB j (Aw.pre op) 0 l (vs.take j) t, plc (inb (Aw.pre op)) true fl (oJ (inb (Aw.pre op)) b hj)⟩ = true ∧ hf = suf ++ hj ∧ (∀ q ∈ hj, q.1 < j) ∧ (vs.getD j .undef = x ∨ vs.getD j .undef = .undef) ∧
    iG P l op ⟨fB j (Aw.pre op) 0 l (vs.take j) t, plc (inb (Aw.pre op)) true fl (oJ (inb (Aw.pre op)) b hj)⟩ (fun s' => s' = ⟨fG (fB j (Aw.pre op) 0 l (vs.take j) t) op.dst x, plc (inb (Aw.pre op)) true fl (oJ (inb (Aw.pre op)) b hj) ++ new⟩) ∧
    ((new = [] ∧ ∀ q ∈ suf, j < q.1) ∨ (oU (Aw.pre op) hj = true ∧ ∃ s2, suf = s2 ++ [(j, oJ (inb (Aw.pre op)) b hj ++ new)] ∧ ∀ q ∈ s2, j < q.1)))
theorem aIz {b:List aA} {pr:List Nat} {h:List (Nat×List aA)} (ht:oU pr h=true):oJ (inb pr) b h=top b h:=by
 cases h with
 |nil=>rfl
 |cons q r=>simp only [oU] at ht;simp only [oJ,top,inb,ht,if_true]
theorem aG7 {P:Program} [aB P] {op:Oper} {t t2:List AV} {o o2:List aA} {K:AS→Prop} (h:wR P op ⟨t,o⟩ K):
  ∃x new x2,K ⟨fG t op.dst x,o++new⟩∧(x=x2∨x= .undef)∧(o2.length=o.length∨new=[])∧∀K2:AS→Prop,K2 ⟨fG t2 op.dst x2,o2++new⟩→wR P op ⟨t2,o2⟩ K2:=by
 obtain ⟨dst,op,ty,pos,after,gd⟩:=op
 unfold wR at h
 dsimp only at h
 split at h
 ·split at h
  ·rename_i e n by' he
   refine ⟨.sl .own n [],[],.sl .own n [],by rw [List.append_nil,←put_eq];exact h.2,.inl rfl,.inr rfl,fun K2 hK=> ?_⟩
   rw [List.append_nil] at hK
   rename_i tt _
   show (match elemA P tt with
    |some (e,n,_)=>zeroSz P e n=true∧K2 (AS.put ⟨t2,o2⟩ dst (.sl .own n []))
    |none=>False)
   rw [he]
   exact ⟨h.1,by rw [put_eq];exact hK⟩
  ·exact h.elim
 ·exact h.elim
theorem sG {P:Program} [aB P] {l:List Oper} {op:Oper} {t t2:List AV} {o o2:List aA} {K:AS→Prop} (q:gM op.op ⟨t,o⟩=true) (hw:wk t2 t) (h:iG P l op ⟨t,o⟩ K) (hs:Sub o o2) (hext:o2.length=o.length∨∀s',K s'→s'.o.length=o.length):
  ∃x new x2,K ⟨fG t op.dst x,o++new⟩∧(x=x2∨x= .undef)∧(o2.length=o.length∨new=[])∧∀K2:AS→Prop,K2 ⟨fG t2 op.dst x2,o2++new⟩→iG P l op ⟨t2,o2⟩ K2:=by
 unfold iG at h
 split at h
 ·rename_i hg
  rcases h with h|h
  ·obtain ⟨x,new,x2,h1,h2,h3,h4⟩:=aI6 q hw h hs hext
   exact ⟨x,new,x2,h1,h2,h3,fun K2 hK=>by unfold iG;simp only [hg];exact .inl (h4 K2 hK)⟩
  ·obtain ⟨x,new,x2,h1,h2,h3,h4⟩:=aG7 (t2:=t2) (o2:=o2) h
   exact ⟨x,new,x2,h1,h2,h3,fun K2 hK=>by unfold iG;simp only [hg];exact .inr (h4 K2 hK)⟩
 ·rename_i j want hg
  split at h
  ·rename_i b hb
   have hb2:fH l ⟨t2,o2⟩ j want= .bool b:=by
    unfold fH at hb⊢
    split at hb
    ·rename_i o' ho'
     split at hb
     ·rename_i d hd
      rcases aJu d hw with e|e
      ·rw [←e];exact hb
      ·rw [e] at hb;cases hb
     ·cases hb
    ·cases hb
   by_cases hbw:b=want
   ·rcases h.1 hbw with h|h
    ·obtain ⟨x,new,x2,h1,h2,h3,h4⟩:=aI6 q hw h hs hext
     exact ⟨x,new,x2,h1,h2,h3,fun K2 hK=>by unfold iG;simp only [hg,hb2];exact ⟨fun _=> .inl (h4 K2 hK),fun hn=>absurd hbw hn⟩⟩
    ·obtain ⟨x,new,x2,h1,h2,h3,h4⟩:=aG7 (t2:=t2) (o2:=o2) h
     exact ⟨x,new,x2,h1,h2,h3,fun K2 hK=>by unfold iG;simp only [hg,hb2];exact ⟨fun _=> .inr (h4 K2 hK),fun hn=>absurd hbw hn⟩⟩
   ·have h1:=h.2 hbw
    rw [put_eq] at h1
    exact ⟨.tup [],[],.tup [],by rw [List.append_nil];exact h1,.inl rfl,.inr rfl,fun K2 hK=>by
     unfold iG;simp only [hg,hb2]
     refine ⟨fun hn=>absurd hn hbw,fun _=> ?_⟩
     rw [put_eq];rw [List.append_nil] at hK;exact hK⟩
  ·exact h.elim
def aY5 (P:Program) [aB P] (l:List Oper) (t:List AV) (b:List aA) (fl:List (Nat×Nat×List AV)) (K:AS→Prop) (m:Nat) (vs:List AV) (h:List (Nat×List aA)):Prop:=
 (m=l.length∧K ⟨bY (fun _=>true) 0 l vs t,plc (fun k=>decide (k < m)) false fl (top b h)⟩)∨
 (m < l.length∧kY l m=true∧lX (fun z=>jH P l K (left ((List.range l.length).map (jz m z))) ((List.range l.length).map (jz m z)) ⟨bY (jz m z) 0 l vs t,plc (jz m z) false fl (oJ (jz m z) b h)⟩) [] (jQ l m))∨
 (m < l.length∧kY l m=true∧qL l m=true∧bP P l (l.drop m) ⟨bY (fun k=>decide (k < m)) 0 l vs t,plc (fun k=>decide (k < m)) false fl (top b h)⟩ K)
theorem vU {P : Program} [aB P] {l : List Oper} {t : List AV} {b : List aA} {fl : List (Nat × Nat × List AV)} {K : AS → Prop} (hnd : (fl.map (·.2.1)).Nodup) (hsl : ∀ q ∈ fl, q.2.1 < b.length) (hb : plc nL true fl b = b) : ∀ (r : List Oper) (i : Nat) (vs : List AV) (h : List (Nat × List aA)), l.drop i = r → vs.length = i → i ≤ l.length → (∀ q ∈ h, q.1 < i) → (∀ q ∈ h, plc nL true fl q.2 = q.2) → qC l b h → dS P l t b fl K i r vs h →
    ∃ m vs' hf, i ≤ m ∧ aY5 P l t b fl K m (vs ++ vs') hf ∧ qC l b hf ∧ (∃ suf, hf = suf ++ h ∧ ∀ q ∈ suf, i ≤ q.1 ∧ q.1 < m) ∧ (∀ q ∈ hf, plc nL true fl q.2 = q.2) ∧ ∀ j op, i ≤ j → j < m → l[j]? = some op → Item P l t b fl j op (vs ++ vs') hf
  | [], i, vs, h, hr, hv, hi, hlt, hN, hc, hd => by
    have hil : i = l.length := by have : l.length ≤ i := by simpa using hr
                                  omega
    subst hil
    refine ⟨l.length, [], h, Nat.le_refl _, ?_, hc, ⟨[], rfl, by simp⟩, hN, fun j op hij hj => by omega⟩
    simp only [dS] at hd
    exact .inl ⟨rfl, by simpa using hd⟩
  | op :: r, i, vs, h, hr, hv, hi, hlt, hN, hc, hd => by
    have hil : i < l.length := by
      rcases Nat.lt_or_ge i l.length with h' | h'
      · exact h'
      · rw [List.drop_of_length_le h'] at hr; cases hr
    have hop : l[i]? = some op := by
      have := congrArg List.head? hr
      rw [List.head?_drop] at this; simpa using this
    have hdr : l.drop (i + 1) = r := by rw [← List.drop_drop, hr]; rfl
    simp only [dS] at hd
    rcases hd with ⟨q, hq, hqi, hg, hT, hpr, hd⟩ | ⟨hnf, hq, hpr, ha⟩ | ⟨htl, ha⟩ | ⟨htl, htl2, ha⟩
    case inr.inr.inr =>
      refine ⟨i, [], h, Nat.le_refl _, ?_, hc, ⟨[], rfl, by simp⟩, hN, fun j op' hij hj => by omega⟩
      rw [List.append_nil]
      exact .inr (.inr ⟨hil, htl, htl2, by rw [hr]; exact ha⟩)
    case inr.inr.inl =>
      refine ⟨i, [], h, Nat.le_refl _, ?_, hc, ⟨[], rfl, by simp⟩, hN, fun j op' hij hj => by omega⟩
      rw [List.append_nil]
      exact .inr (.inl ⟨hil, htl, ha⟩)
    case inl =>
      obtain ⟨m, vs', hf, km, k1, k2, ⟨suf, k3, k4⟩, k6, k5⟩ := vU hnd hsl hb r (i + 1) (vs ++ [.ptr q.2.1 1 0 0]) h hdr (by simp [hv]) (by omega) (fun q hq => by have := hlt q hq; omega) hN hc hd
      refine ⟨m, .ptr q.2.1 1 0 0 :: vs', hf, by omega, by simpa using k1, k2, ⟨suf, k3, fun q hq => by have := k4 q hq; omega⟩, k6, fun j op' hij hjm hj => ?_⟩
      by_cases hji : j = i
      · subst hji
        rw [hop] at hj; obtain rfl := Option.some.inj hj
        refine ⟨hpr, .inl ⟨q, hq, hqi, hg, hT, ?_, fun p hp => ?_⟩⟩
        · rw [List.getD_eq_getElem?_getD, List.getElem?_append_right (by omega), hv, Nat.sub_self]; rfl
        · rw [k3] at hp
          rcases List.mem_append.1 hp with hp | hp
          · have := k4 p hp; omega
          · have := hlt p hp; omega
      · have := k5 j op' (by omega) hjm hj
        simpa using this
    have hsub : Sub (plc (inb (pre op)) true fl (oJ (inb (pre op)) b h)) (plc (inb (pre op)) true fl (oJ (inb (pre op)) b h)) := fun _ _ h _ => h
    obtain ⟨x, new, x2, ⟨h1, h2⟩, _, _, h3⟩ := sG hq (jR _) ha hsub (.inl rfl)
    have h4 := h3 (fun s' => s' = ⟨fG (fB i (pre op) 0 l vs t) op.dst x2, plc (inb (pre op)) true fl (oJ (inb (pre op)) b h) ++ new⟩) rfl
    have hval : ∀ (y : AV) (os : List aA), nP op ⟨fG (fB i (pre op) 0 l vs t) op.dst y, os⟩ = y ∨ nP op ⟨fG (fB i (pre op) 0 l vs t) op.dst y, os⟩ = .undef := by
      intro y os
      unfold nP fG
      cases op.dst with
      | none => exact .inr rfl
      | some d =>
        dsimp only
        rw [List.getD_eq_getElem?_getD, List.getElem?_set_self']
        cases (fB i (pre op) 0 l vs t)[d]? with
        | none => exact .inr rfl
        | some z => exact .inl rfl
    obtain ⟨ext0, hbase⟩ := aMi (J := inb (pre op)) hc
    have hsl' : ∀ q ∈ fl, q.2.1 < (oJ (inb (pre op)) b h).length := fun q hq => by rw [hbase]; have := hsl q hq; simp; omega
    have hnorm : plc nL true fl (plc (inb (pre op)) true fl (oJ (inb (pre op)) b h) ++ new) = oJ (inb (pre op)) b h ++ new := by
      rw [aBw (by rw [jB]; exact hsl'), aUm hnd hsl', aF4 _ hb hN]
    simp only [hnorm] at h2
    generalize hvv : nP op ⟨fG (fB i (pre op) 0 l vs t) op.dst x, plc (inb (pre op)) true fl (oJ (inb (pre op)) b h) ++ new⟩ = vv at h2
    have hvx : vv = x2 ∨ vv = .undef := by
      rcases hval x (plc (inb (pre op)) true fl (oJ (inb (pre op)) b h) ++ new) with e | e
      · rw [hvv] at e; subst e; assumption
      · rw [hvv] at e; exact .inr e
    have hlen : ((plc (inb (pre op)) true fl (oJ (inb (pre op)) b h) ++ new).length = (oJ (inb (pre op)) b h).length) ↔ new = [] := by
      rw [List.length_append, jB]; constructor
      · intro e; exact List.eq_nil_of_length_eq_zero (by omega)
      · rintro rfl; simp
    have item : ∀ (vs' : List AV) (hf : List (Nat × List aA)), ((∃ suf, hf = suf ++ h ∧ new = [] ∧ ∀ q ∈ suf, i < q.1) ∨ (oU (pre op) h = true ∧ ∃ s2, hf = s2 ++ (i, oJ (inb (pre op)) b h ++ new) :: h ∧ ∀ q ∈ s2, i < q.1)) → Item P l t b fl i op ((vs ++ [vv]) ++ vs') hf := by
      intro vs' hf hcase
      have e1 : ((vs ++ [vv]) ++ vs').take i = vs := by rw [List.append_assoc, List.take_left' hv]
      have e2 : ((vs ++ [vv]) ++ vs').getD i .undef = vv := by
        rw [List.append_assoc, List.getD_eq_getElem?_getD, List.getElem?_append_right (by omega), hv, Nat.sub_self]; rfl
      refine ⟨hpr, .inr ⟨hnf, x2, new, h, ?_⟩⟩
      rw [e1, e2]
      rcases hcase with ⟨suf, rfl, hn, hs⟩ | ⟨ht, s2, rfl, hs⟩
      · exact ⟨suf, hq, rfl, hlt, hvx, h4, .inl ⟨hn, hs⟩⟩
      · exact ⟨s2 ++ [(i, oJ (inb (pre op)) b h ++ new)], hq, by simp, hlt, hvx, h4, .inr ⟨ht, s2, rfl, hs⟩⟩
    by_cases hnew : new = []
    · rw [if_pos (hlen.2 hnew)] at h2
      obtain ⟨m, vs', hf, km, k1, k2, ⟨suf, k3, k4⟩, k6, k5⟩ := vU hnd hsl hb r (i + 1) (vs ++ [vv]) h hdr (by simp [hv]) (by omega) (fun q hq => by have := hlt q hq; omega) hN hc h2
      refine ⟨m, vv :: vs', hf, by omega, by simpa using k1, k2, ⟨suf, k3, fun q hq => by have := k4 q hq; omega⟩, k6, fun j op' hij hjm hj => ?_⟩
      by_cases hji : j = i
      · subst hji
        rw [hop] at hj; obtain rfl := Option.some.inj hj
        have := item vs' hf (.inl ⟨suf, k3, hnew, fun q hq => by have := k4 q hq; omega⟩)
        simpa using this
      · have := k5 j op' (by omega) hjm hj
        simpa using this
    · rw [if_neg (fun e => hnew (hlen.1 e))] at h2
      have ht : oU (pre op) h = true := h1.resolve_right (fun e => hnew (hlen.1 e))
      have hc' : qC l b ((i, oJ (inb (pre op)) b h ++ new) :: h) := by
        refine ⟨⟨new, by rw [aIz ht]⟩, fun p hp => ?_, hc⟩
        cases h with
        | nil => cases hp
        | cons q h =>
          obtain rfl := Option.some.inj hp
          exact ⟨hlt _ (by simp), op, hop, by simpa [oU] using ht⟩
      obtain ⟨m, vs', hf, km, k1, k2, ⟨suf, k3, k4⟩, k6, k5⟩ := vU hnd hsl hb r (i + 1) (vs ++ [vv]) _ hdr (by simp [hv]) (by omega) (fun q hq => by
        rcases List.mem_cons.1 hq with rfl | hq
        · simp
        · have := hlt q hq; omega) (fun q hq => by
        rcases List.mem_cons.1 hq with rfl | hq
        · show plc nL true fl (oJ (inb (pre op)) b h ++ new) = _
          rw [aBw hsl', aF4 _ hb hN]
        · exact hN q hq) hc' h2
      refine ⟨m, vv :: vs', hf, by omega, by simpa using k1, k2, ⟨suf ++ [(i, oJ (inb (pre op)) b h ++ new)], by simp [k3], fun q hq => by
        rcases List.mem_append.1 hq with hq | hq
        · have := k4 q hq; omega
        · simp at hq; subst hq; exact ⟨by simp, by omega⟩⟩, k6, fun j op' hij hjm hj => ?_⟩
      by_cases hji : j = i
      · subst hji
        rw [hop] at hj; obtain rfl := Option.some.inj hj
        have := item vs' hf (.inr ⟨ht, suf, k3, fun q hq => by have := k4 q hq; omega⟩)
        simpa using this
      · have := k5 j op' (by omega) hjm hj
        simpa using this
theorem aP3 {P:Program} [aB P] {id:Nat} {l:List Oper} {s:AS} {Q:Exit→AS→Prop} {fl:List (Nat×Nat×List AV)} {b:List aA} (hfw:nW l=true) (hdst:distinct l=true) (hfl:aFq fl b.length=true) (hb:plc nL true fl b=b) (hb0:plc nL false fl b=s.o++(fl.map (·.2.2.length)).map fun n=>⟨true,false,n,0,[]⟩)
  (h:dS P l s.t b fl (Q .normal) 0 l [] []):awp P (.region id l.toArray true) s Q:=by
 simp only [aFq,Bool.and_eq_true,decide_eq_true_eq,List.all_eq_true] at hfl
 obtain ⟨hnd1,hnd,hsl⟩:=hfl
 obtain ⟨m,vs,hf,_,hK,hc,⟨suf0,hsuf0,hlt0⟩,hN,hit⟩:=vU hnd hsl hb l 0 [] [] rfl rfl (by omega) (by simp) (by simp) trivial h
 simp only [List.nil_append] at hK hit
 have hit':∀j op,j < m→l[j]? =some op→Item P l s.t b fl j op vs hf:=fun j op hjm hj=>hit j op (by omega) hjm hj
 have hslJ:∀J:Nat→Bool,∀q∈fl,q.2.1 < (oJ J b hf).length:=fun J q hq=>by
  obtain ⟨ext,he⟩:=aMi (J:=J) hc
  rw [he];have:=hsl q hq;simp;omega
 unfold awp
 have hml:m≤l.length:=by
  rcases hK with h|h|h
  ·omega
  ·omega
  ·omega
 have hrest:kY l m=true:=by
  rcases hK with h|h|h
  ·rw [h.1]
   unfold kY
   rw [List.all_eq_true]
   intro i hi
   simp at hi
   simp only [Bool.or_eq_true,decide_eq_true_eq]
   exact .inl (by omega)
  ·exact h.2.1
  ·exact h.2.1
 refine aJi (ops:=l.toArray) m (by simpa using hml) (by simpa using hfw) (by simpa using hrest) (fun J=>⟨bY J 0 l vs s.t,plc J false fl (oJ J b hf)⟩) ?_ ?_ ?_
 ·have e1:∀(l:List Oper) (j:Nat) (vs t:List AV),bY (fun _=>false) j l vs t=t:=by
   intro l
   induction l with
   |nil=>intros;rfl
   |cons op r ih=>
    intro j vs t
    simp only [bY]
    rw [ih]
    unfold lN
    cases op.dst<;>simp
  have e2:∀h:List (Nat×List aA),oJ (fun _=>false) b h=b:=by
   intro h
   induction h with
   |nil=>rfl
   |cons q r ih=>simp [oJ,ih]
  rw [e1,e2]
  have e3:plc (fun _=>false) false fl b=_:=hb0
  rw [e3]
  exact fun _ _ _ _ _ r=>aEx _ r
 ·intro i op him hi
  have hi':l[i]? =some op:=by simpa using hi
  have it:=hit' i op him hi'
  intro J hJ hJm hJi hpre
  have hJ':Clo l J:=by simpa using hJ
  rcases it.ex with ⟨q,hq,hqi,hg,⟨T,hT,hz⟩,hval,hne⟩|⟨hnf,x,new,hj,suf,hqq,hfe,hlt,hvx,hop,hcase⟩
  ·right
   refine ⟨hg,fun B=> ?_⟩
   have hoJ:∀h:List (Nat×List aA),(∀p∈h,p.1≠i)→oJ (upd J i) b h=oJ J b h:=by
    intro h
    induction h with
    |nil=>intro _;rfl
    |cons p r ih=>
     intro hq
     simp only [oJ]
     rw [ih fun p hp=>hq p (by simp [hp])]
     have:upd J i p.1=J p.1:=by unfold upd;rw [if_neg (hq p (by simp))]
     rw [this]
   have hto:bY (upd J i) 0 l vs s.t=fG (bY J 0 l vs s.t) op.dst (.ptr q.2.1 1 0 0):=by
    have:=wH l 0 i op vs s.t (.ptr q.2.1 1 0 0) hdst hi' (by simpa using hJi) hval
    rwa [Nat.zero_add] at this
   have hplc:plc (upd J i) false fl (oJ J b hf)=(plc J false fl (oJ J b hf)).set q.2.1 ⟨true,true,q.2.2.length,1,[q.2.2]⟩:=by
    rw [←hqi];exact aUc hnd1 hnd (hslJ J) hq
   rw [hto,hoJ hf hne,hplc]
   have hslot:(plc J false fl (oJ J b hf))[q.2.1]? =some ⟨true,false,q.2.2.length,0,[]⟩:=by
    rw [pK hnd hq (hslJ J q hq)]
    unfold flv
    rw [if_neg (by rw [hqi,hJi];simp)]
    rfl
   obtain ⟨dst,o,ty,pos,after,gd⟩:=op
   dsimp only at hT hg⊢
   subst hT
   have:=aI8 (B:=B) (s:=⟨bY J 0 l vs s.t,plc J false fl (oJ J b hf)⟩) (dst:=dst) (ty:=ty) (pos:=pos) (after:=after) (gd:=gd) T hz hslot
   rw [put_eq] at this
   exact this
  left
  have hmask:wk (bY J 0 l vs s.t) (fB i (pre op) 0 l (vs.take i) s.t):=
   aBf hJi (fun e he=>⟨hpre e he,it.pre e he⟩) l 0 vs (vs.take i) s.t s.t (fun k q hk hJk=>hJ' k q hk (by simpa using hJk)) (fun k hk=>by
    rw [List.getD_eq_getElem?_getD,List.getD_eq_getElem?_getD,List.getElem?_take];simp [show k < i by omega]) (jR _)
  have hskip:∀(J':Nat→Bool) (s2:List (Nat×List aA)),(∀q∈s2,J' q.1=false)→∀h',oJ J' b (s2++h')=oJ J' b h':=fun J' s2 h1 h'=>aFu J' b h1
  have hprf:∀q:Nat×List aA,i≤q.1→inb (pre op) q.1=false:=fun q hq=>by
   cases hb:inb (pre op) q.1 with
   |false=>rfl
   |true=>have:=it.pre q.1 (by simpa [inb] using hb);omega
  have hoc:oJ (inb (pre op)) b hf=oJ (inb (pre op)) b hj:=by
   rw [hfe]
   refine aFu _ _ fun q hq=>hprf q ?_
   rcases hcase with ⟨_,h1⟩|⟨_,s2,rfl,h1⟩
   ·have:=h1 q hq;omega
   ·rcases List.mem_append.1 hq with hq|hq
    ·have:=h1 q hq;omega
    ·simp at hq;subst hq;simp
  obtain ⟨ext,hext⟩:=aJo (J:=J) hpre hc
  rw [hoc] at hext
  have hslm:∀q∈fl,q.2.1 < (oJ (inb (pre op)) b hj).length:=fun q hq=>by rw [←hoc];exact hslJ _ q hq
  have hobj:(new=[]∧oJ (upd J i) b hf=oJ J b hf)∨(ext=[]∧oJ (upd J i) b hf=oJ (inb (pre op)) b hj++new):=by
   rcases hcase with ⟨h1,h2⟩|⟨ht,s2,rfl,h2⟩
   ·refine .inl ⟨h1,?_⟩
    have:∀h:List (Nat×List aA),(∀q∈h,q.1≠i)→oJ (upd J i) b h=oJ J b h:=by
     intro h
     induction h with
     |nil=>intro _;rfl
     |cons q r ih=>
      intro hq
      simp only [oJ]
      rw [ih fun p hp=>hq p (by simp [hp])]
      have:upd J i q.1=J q.1:=by unfold upd;rw [if_neg (hq q (by simp))]
      rw [this]
    refine this hf fun q hq=> ?_
    rw [hfe] at hq
    rcases List.mem_append.1 hq with hq|hq
    ·have:=h2 q hq;omega
    ·have:=hlt q hq;omega
   ·right
    have hfe':hf=s2++(i,oJ (inb (pre op)) b hj++new)::hj:=by simp [hfe]
    have hs2:=aCw hJ' (s:=s2) (by rw [←hfe'];exact hc) hJi
    constructor
    ·have h3:oJ J b hf=oJ J b hj:=by
      rw [hfe',hskip J s2 hs2]
      simp only [oJ];rw [if_neg (by rw [hJi];simp)]
     have h4:oJ J b hj=oJ (inb (pre op)) b hj:=by
      rw [aIz ht]
      cases hj with
      |nil=>rfl
      |cons q r=>
       simp only [oU,decide_eq_true_eq] at ht
       simp only [oJ,top];rw [if_pos (hpre _ ht)]
     rw [h3,h4] at hext
     have:=congrArg List.length hext
     rw [List.length_append] at this
     exact List.eq_nil_of_length_eq_zero (by omega)
    ·rw [hfe',hskip (upd J i) s2 (fun q hq=>by
      have:=h2 q hq
      unfold upd;rw [if_neg (by omega)];exact hs2 q hq)]
     simp [oJ,upd]
  have hsub:Sub (plc (inb (pre op)) true fl (oJ (inb (pre op)) b hj)) (plc J false fl (oJ J b hf)):=by
   rw [hext];exact aUf hnd hslm hpre
  obtain ⟨x',new',x2,rfl',hx2,_,hfin⟩:=sG (o2:=plc J false fl (oJ J b hf)) hqq hmask hop hsub (by
   rcases hobj with ⟨h1,_⟩|⟨h1,_⟩
   ·right;rintro s' rfl;simp [h1]
   ·left;rw [jB,jB,hext,h1,List.append_nil])
  refine hfin _ ?_
  have hset:new'=new∧(fG (fB i (pre op) 0 l (vs.take i) s.t) op.dst x'=fG (fB i (pre op) 0 l (vs.take i) s.t) op.dst x):=by
   simp only [AS.mk.injEq,List.append_cancel_left_eq] at rfl'
   exact ⟨rfl'.2,rfl'.1⟩
  have hto:wk (fG (bY J 0 l vs s.t) op.dst x2) (bY (upd J i) 0 l vs s.t):=by
   have:=wH l 0 i op vs s.t (vs.getD i .undef) hdst hi' (by simpa using hJi) rfl
   rw [Nat.zero_add] at this
   rw [this]
   have hL:=aAn hmask
   unfold fG at hset⊢
   cases hd:op.dst with
   |none=>exact jR _
   |some d=>
    rw [hd] at hset
    dsimp only at hset⊢
    rcases Nat.lt_or_ge d (bY J 0 l vs s.t).length with hdl|hle
    ·have hxx:x'=x:=by
      have:=congrArg (fun t=>t[d]?) hset.2
      simpa [hL▸hdl] using this
     refine aAx d (jR _) ?_
     rcases hvx with e|e
     ·rw [e,←hxx];assumption
     ·exact .inr e
    ·rw [List.set_eq_of_length_le hle,List.set_eq_of_length_le hle]
     exact jR _
  have hcong:∀o:List aA,plc (upd J i) false fl o=plc J false fl o:=fun o=>aGr fun q hq=>by
   unfold upd;rw [if_neg (hnf q hq)]
  have hobj2:plc J false fl (oJ J b hf)++new'=plc (upd J i) false fl (oJ (upd J i) b hf):=by
   rw [hcong,hset.1]
   rcases hobj with ⟨h1,h2⟩|⟨h1,h2⟩
   ·rw [h2,h1,List.append_nil]
   ·rw [h2,aBw hslm,hext,h1,List.append_nil]
  rw [hobj2]
  exact vJ hto
 ·intro J hJ hJm hor
  have hJ':Clo l J:=by simpa using hJ
  have hsz:l.toArray.size=l.length:=by simp
  rw [hsz]
  have e0:l.toArray.toList=l:=by simp
  rw [e0] at hor⊢
  rcases hK with ⟨hme,hK⟩|⟨hmlt,_,hK⟩|⟨hmlt,_,htl,hK⟩
  ·left
   have hall:∀i,i < l.length→J i=true:=by
    intro i hi
    rcases hor with h|⟨op,hop,_⟩
    ·exact h i (by omega)
    ·have:=(List.getElem?_eq_some_iff.1 hop).1;omega
   have e3:(List.range l.length).map J=List.replicate l.length true:=by
    refine List.ext_getElem? fun i=> ?_
    rw [List.getElem?_map,List.getElem?_replicate]
    by_cases hi:i < l.length
    ·simp [hi,hall i hi]
    ·simp [hi]
   have e4:left (List.replicate l.length true)=0:=by
    unfold left
    rw [List.filter_eq_nil_iff.2]
    ·rfl
    ·intro x hx
     rw [(List.mem_replicate.1 hx).2];simp
   rw [e3,e4]
   simp only [jH]
   have e5:bY J 0 l vs s.t=bY (fun _=>true) 0 l vs s.t:=sI l 0 vs s.t fun k hk=>by rw [Nat.zero_add];exact hall k hk
   have e6:oJ J b hf=top b hf:=by
    cases hf with
    |nil=>rfl
    |cons q r=>
     simp only [oJ,top]
     rw [if_pos]
     have:=(hlt0 q (by
      have:q::r=suf0:=by simpa using hsuf0
      rw [←this];simp)).2
     exact hall _ (by omega)
   have e7:plc J false fl (top b hf)=plc (fun k=>decide (k < m)) false fl (top b hf):=by
    have:J=fun k=>decide (k < m):=by
     funext k
     by_cases hk:k < m
     ·rw [hall k (by omega)];simp [hk]
     ·rw [hJm k (by omega)];simp [hk]
    rw [this]
   rw [e5,e6,e7]
   exact hK
  ·left
   have hop:=List.getElem?_eq_getElem hmlt
   have hpre:∀e∈pre l[m],J e=true:=by
    rcases hor with h|⟨op,hop',h⟩
    ·exact fun e he=>h e (tH hfw hop e he)
    ·rw [hop] at hop'
     obtain rfl:=Option.some.inj hop'
     exact h
   have e1:=aXk hop hJ' hJm hpre
   have:=aDi (fun k=> !J k) (jQ l m) [] hK
   rw [List.append_nil,←e1] at this
   exact this
  ·right
   have hop:=List.getElem?_eq_getElem hmlt
   have hall:∀i,i < m→J i=true:=by
    rcases hor with h|⟨op,hop',h⟩
    ·exact h
    ·exact aSg htl hop' hJ' h
   refine ⟨htl,hall,?_⟩
   have hJf:J=fun k=>decide (k < m):=by
    funext k
    by_cases hk:k < m
    ·rw [hall k hk];simp [hk]
    ·rw [hJm k (by omega)];simp [hk]
   have e6:oJ J b hf=top b hf:=by
    cases hf with
    |nil=>rfl
    |cons q r=>
     simp only [oJ,top]
     rw [if_pos]
     have:=(hlt0 q (by
      have:q::r=suf0:=by simpa using hsuf0
      rw [←this];simp)).2
     exact hall _ (by omega)
   rw [e6,hJf]
   exact hK
theorem aG1 {P:Program} [aB P] {l:List Oper} {t:List AV} {b:List aA} {fl:List (Nat×Nat×List AV)} {K:AS→Prop} {i:Nat} {vs:List AV} {h:List (Nat×List aA)} {t':List AV} {o':List aA} (ht:bY (fun _=>true) 0 l vs t=t') (ho:plc (fun k=>decide (k < i)) false fl (top b h)=o') (hk:K ⟨t',o'⟩):dS P l t b fl K i [] vs h:=by
 simp only [dS,ht,ho];exact hk
theorem yO {P:Program} [aB P] {l:List Oper} {t:List AV} {b:List aA} {fl:List (Nat×Nat×List AV)} {K:AS→Prop} {i:Nat} {op:Oper} {r:List Oper} {vs:List AV} {h:List (Nat×List aA)}
  {pr:List Nat} {m:List AV} {om:List aA} (hnf:(fl.all fun q=>decide (q.1≠i))=true) (hpr:pre op=pr) (hlt:(pr.all fun e=>decide (e < i))=true) (hm:fB i pr 0 l vs t=m) (ho:plc (inb pr) true fl (oJ (inb pr) b h)=om) (hq:gM op.op ⟨m,om⟩=true)
  (ha:iG P l op ⟨m,om⟩ fun s'=>(oU pr h=true∨s'.o.length=om.length)∧dS P l t b fl K (i+1) r (vs++[nP op s']) (if s'.o.length=om.length then h else (i,plc nL true fl s'.o)::h)):dS P l t b fl K i (op::r) vs h:=by
 subst hpr;subst hm;subst ho
 simp only [dS]
 simp only [jB] at ha
 exact .inr (.inl ⟨fun q hq=>by have:=List.all_eq_true.1 hnf q hq;simpa using this,hq,fun e he=>by have:=List.all_eq_true.1 hlt e he;simpa using this,ha⟩)
theorem aLm {P:Program} [aB P] {l:List Oper} {t:List AV} {b:List aA} {fl:List (Nat×Nat×List AV)} {K:AS→Prop} {i:Nat} {op:Oper} {r:List Oper} {vs:List AV} {h:List (Nat×List aA)} {q:Nat×Nat×List AV} {T:TypeId}
  (hq:fl.find? (fun q=>q.1 == i)=some q) (hg:op.guard=none) (hT:op.op= .alloc T) (hz:zeroA P T=some q.2.2) (hlt:((pre op).all fun e=>decide (e < i))=true) (hd:dS P l t b fl K (i+1) r (vs++[.ptr q.2.1 1 0 0]) h):dS P l t b fl K i (op::r) vs h:=by
 simp only [dS]
 refine .inl ⟨q,List.mem_of_find?_eq_some hq,by have:=List.find?_some hq;simpa using this,hg,⟨T,hT,hz⟩,fun e he=>by have:=List.all_eq_true.1 hlt e he;simpa using this,hd⟩
theorem aAo {P:Program} [aB P] {l:List Oper} {t:List AV} {b:List aA} {fl:List (Nat×Nat×List AV)} {K:AS→Prop} {i:Nat} {op:Oper} {r:List Oper} {vs:List AV} {h:List (Nat×List aA)} {z:List Nat}
  (hr:kY l i=true) (hz:jQ l i=z) (ha:lX (fun z=>jH P l K (left ((List.range l.length).map (jz i z))) ((List.range l.length).map (jz i z)) ⟨bY (jz i z) 0 l vs t,plc (jz i z) false fl (oJ (jz i z) b h)⟩) [] z):dS P l t b fl K i (op::r) vs h:=by
 subst hz
 simp only [dS]
 exact .inr (.inr (.inl ⟨hr,ha⟩))
theorem aHc {P:Program} [aB P] {l:List Oper} {t t':List AV} {b b':List aA} {fl:List (Nat×Nat×List AV)} {K:AS→Prop} {i:Nat} {op:Oper} {r:List Oper} {vs:List AV} {h:List (Nat×List aA)}
  (htl:(kY l i&&qL l i)=true) (ht:bY (fun k=>decide (k < i)) 0 l vs t=t') (ho:plc (fun k=>decide (k < i)) false fl (top b h)=b') (ha:bP P l (op::r) ⟨t',b'⟩ K):dS P l t b fl K i (op::r) vs h:=by
 subst ht;subst ho
 simp only [Bool.and_eq_true] at htl
 simp only [dS]
 exact .inr (.inr (.inr ⟨htl.1,htl.2,ha⟩))
def vT (J:Nat→Bool):Nat→List Oper→List Bool
 |_,[]=>[]
 |j,_::r=>J j::vT J (j+1) r
theorem aG5 {J:Nat→Bool}:∀(l:List Oper) (j i:Nat),(vT J j l)[i]? =if i < l.length then some (J (j+i)) else none
 |[],_,_=>by simp [vT]
 |_::r,j,0=>by simp [vT]
 |_::r,j,i+1=>by
  simp only [vT,List.getElem?_cons_succ,List.length_cons]
  rw [aG5 r (j+1) i,show j+1+i=j+(i+1) by omega]
  simp
theorem aSu (J:Nat→Bool) (l:List Oper):(List.range l.length).map J=vT J 0 l:=by
 refine List.ext_getElem? fun i=> ?_
 rw [aG5,List.getElem?_map]
 by_cases hi:i < l.length
 ·simp [hi]
 ·simp [hi]
def vQ (d:List Bool):Nat→List Oper→List Nat
 |_,[]=>[]
 |i,op::r=>if (!d.getD i false&&(pre op).all fun e=>d.getD e false)=true then i::vQ d (i+1) r else vQ d (i+1) r
theorem tK {d:List Bool}:∀{l:List Oper} {k i:Nat},i∈vQ d k l↔∃j op,l[j]? =some op∧i=k+j∧(!d.getD i false&&(pre op).all fun e=>d.getD e false)=true
 |[],k,i=>by simp [vQ]
 |op::r,k,i=>by
  simp only [vQ]
  constructor
  ·intro h
   by_cases hc:(!d.getD k false&&(pre op).all fun e=>d.getD e false)=true
   ·rw [if_pos hc] at h
    rcases List.mem_cons.1 h with rfl|h
    ·exact ⟨0,op,rfl,rfl,hc⟩
    ·obtain ⟨j,o,h1,h2,h3⟩:=tK.1 h
     exact ⟨j+1,o,by simpa using h1,by omega,h3⟩
   ·rw [if_neg hc] at h
    obtain ⟨j,o,h1,h2,h3⟩:=tK.1 h
    exact ⟨j+1,o,by simpa using h1,by omega,h3⟩
  ·rintro ⟨j,o,h1,rfl,h3⟩
   cases j with
   |zero=>
    simp at h1;subst h1
    rw [Nat.add_zero] at h3⊢
    rw [if_pos h3];simp
   |succ j=>
    have:=tK.2 ⟨j,o,by simpa using h1,show k+(j+1)=k+1+j by omega,h3⟩
    split
    ·exact List.mem_cons_of_mem _ this
    ·exact this
theorem aHg {P:Program} [aB P] {l:List Oper} {K:AS→Prop} {n:Nat} {d:List Bool} {s:AS} {r':List Nat} (h:jD P l K n d s r'):∀r:List Nat,(∀i∈r,i∈r')→jD P l K n d s r
 |[],_=>by simp only [jD]
 |i::r,hs=>by
  simp only [jD]
  exact ⟨aBj h i (hs i (by simp)),aHg h r fun j hj=>hs j (by simp [hj])⟩
theorem aQ8 {P:Program} [aB P] {l:List Oper} {K:AS→Prop} {n:Nat} {d:List Bool} {s:AS} {rl:List Nat} (hr:vQ d 0 l=rl) (h:jD P l K n d s rl):jH P l K (n+1) d s:=by
 simp only [jH]
 refine aHg h _ fun i hi=> ?_
 rw [←hr,tK]
 unfold mU at hi
 rw [List.mem_filter] at hi
 obtain ⟨h1,h2⟩:=hi
 have hlt:i < l.length:=by simpa using h1
 have hop:=List.getElem?_eq_getElem hlt
 have hp:dM l i=pre l[i]:=by simp [dM,hop]
 exact ⟨i,l[i],hop,by omega,by rw [←hp];exact h2⟩
theorem aPg {P:Program} [aB P] {l:List Oper} {K:AS→Prop} {d:List Bool} {s:AS} (h:K s):jH P l K 0 d s:=by simpa only [jH] using h
theorem aPn {P:Program} [aB P] {l:List Oper} {K:AS→Prop} {n:Nat} {d d':List Bool} {s:AS} {i:Nat} {op:Oper} (hop:l[i]? =some op) (hd:d.set i true=d') (h:bP P l [op] s fun s'=>jH P l K n d' s'):jD P l K n d s [i]:=by
 subst hd
 simp only [jD]
 exact ⟨⟨op,hop,h⟩,trivial⟩
theorem sy {P:Program} [aB P] {l:List Oper} {K:AS→Prop} {n:Nat} {d:List Bool} {s:AS} {i j:Nat} {r:List Nat} (h1:jD P l K n d s [i]) (h2:jD P l K n d s (j::r)):jD P l K n d s (i::j::r):=by
 simp only [jD] at h1 h2⊢
 exact ⟨h1.1,h2⟩
theorem sx {F:List Nat→Prop} {acc:List Nat} {z:Nat} {r:List Nat} (h1:lX F acc r) (h2:lX F (z::acc) r):lX F acc (z::r):=⟨h1,h2⟩
theorem aPf {P:Program} [aB P] {l:List Oper} {t t':List AV} {b o':List aA} {fl:List (Nat×Nat×List AV)} {K:AS→Prop} {i n:Nat} {vs:List AV} {h:List (Nat×List aA)} {acc:List Nat} {d:List Bool} (hd:vT (jz i acc) 0 l=d) (hn:left d=n) (ht:bY (jz i acc) 0 l vs t=t') (ho:plc (jz i acc) false fl (oJ (jz i acc) b h)=o')
  (ha:jH P l K n d ⟨t',o'⟩):lX (fun z=>jH P l K (left ((List.range l.length).map (jz i z))) ((List.range l.length).map (jz i z)) ⟨bY (jz i z) 0 l vs t,plc (jz i z) false fl (oJ (jz i z) b h)⟩) acc []:=by
 subst hn;subst ht;subst ho;subst hd
 simp only [lX,aSu]
 exact ha
theorem nH {P:Program} [aB P] {all:List Oper} {K1 K2:AS→Prop} (hk:∀s',K1 s'→K2 s'):∀(r:List Oper) (s:AS),bP P all r s K1→bP P all r s K2
 |[],s,h=>by simp only [bP] at h⊢;exact hk s h
 |o::r,s,h=>by
  simp only [bP] at h⊢
  split at h
  ·rcases h with h|h|h
   ·exact .inl (aF3 (nH hk r) h)
   ·exact .inr (.inl (aJg (nH hk r) h))
   ·exact .inr (.inr (aG4 (nH hk r) h))
  ·split at h
   ·exact ⟨fun e=>(h.1 e).imp (aF3 (nH hk r)) (Or.imp (aJg (nH hk r)) (aG4 (nH hk r))),fun e=>nH hk r _ (h.2 e)⟩
   ·exact h.elim
mutual
theorem aK6 {P : Program} [aB P] {l : List Oper} {K1 K2 : AS → Prop} (hk : ∀ s', K1 s' → K2 s') : ∀ (n : Nat) (d : List Bool) (s : AS), jH P l K1 n d s → jH P l K2 n d s
  | 0, d, s, h => by simp only [jH] at h ⊢; exact hk s h
  | n + 1, d, s, h => by simp only [jH] at h ⊢; exact aGt hk n d s _ h
theorem aGt {P : Program} [aB P] {l : List Oper} {K1 K2 : AS → Prop} (hk : ∀ s', K1 s' → K2 s') : ∀ (n : Nat) (d : List Bool) (s : AS) (r : List Nat), jD P l K1 n d s r → jD P l K2 n d s r
  | n, d, s, [], h => by simp only [jD]
  | n, d, s, i :: r, h => by
    simp only [jD] at h ⊢
    obtain ⟨⟨op, h1, h2⟩, h3⟩ := h
    exact ⟨⟨op, h1, nH (fun s' => aK6 hk n _ s') _ _ h2⟩, aGt hk n d s r h3⟩
end
theorem aDf {F1 F2:List Nat→Prop} (hk:∀z,F1 z→F2 z):∀(z acc:List Nat),lX F1 acc z→lX F2 acc z
 |[],acc,h=>hk acc h
 |x::z,acc,h=>⟨aDf hk z acc h.1,aDf hk z (x::acc) h.2⟩
theorem aFa {P:Program} [aB P] {l:List Oper} {t:List AV} {b:List aA} {fl:List (Nat×Nat×List AV)} {K:AS→Prop} {i:Nat} {op:Oper} {r:List Oper} {vs:List AV} {h:List (Nat×List aA)} {z:List Nat} {s1:AS}
  (hr:kY l i=true) (hz:jQ l i=z) (ha:lX (fun z=>jH P l (fun s'=>s'=s1) (left ((List.range l.length).map (jz i z))) ((List.range l.length).map (jz i z)) ⟨bY (jz i z) 0 l vs t,plc (jz i z) false fl (oJ (jz i z) b h)⟩) [] z) (hk:K s1):dS P l t b fl K i (op::r) vs h:=
 aAo hr hz (aDf (fun z h=>aK6 (fun s' e=>by subst e;exact hk) _ _ _ h) _ _ ha)
def floats (P:Program):Nat→Nat→List Oper→List (Nat×Nat×List AV)
 |_,_,[]=>[]
 |i,n,op::r=>match op.op with
  | .alloc T=>match zeroA P T with
   |some z=>(i,n,z)::floats P (i+1) (n+1) r
   |none=>floats P (i+1) n r
  |_=>floats P (i+1) n r
attribute [irreducible] dS
def bB (t:List AV):List (Nat×AV)→List AV
 |[]=>t
 |p::r=>bB (t.set p.1 p.2) r
theorem aT {P:Program} [aB P] {c:Code} {s:AS} {Q:Exit→AS→Prop} {ι:Type} (inv:List AV→List aA→ι→AS) (μ:ι→Nat) (i:ι) (h0:dV s (inv s.t s.o i)) (h:∀i,∀K:AS→Prop,(∀s' j,dV s' (inv s.t s.o j)→μ j < μ i→K s')→awp P c (inv s.t s.o i) (nE K Q)):awp P (.loop c) s Q:=aRs (inv s.t s.o) μ i h0 h
attribute [irreducible] lX
attribute [simp] vT vQ jz left plc flv nL floats pre aNl fB lN bY oJ top oU inb nP bB
end Go.Aw

namespace Go.Aw
theorem aP0 {P:Program} [aB P] {all r:List Oper} {o:Oper} {s:AS} {K:AS→Prop} {j:Nat} {want:Bool} (hg:o.guard=some (j,want)) (hb:fH all s j want= .bool (!want)) (h:bP P all r (s.put o.dst (.tup [])) K):bP P all (o::r) s K:=by
 unfold bP
 rw [hg]
 dsimp only
 rw [hb]
 exact ⟨fun hn=>(by cases want<;>cases hn),fun _=>h⟩
theorem aKi {α:Type} {l:List α} {i:Nat} {x:α} (h:l[i]? =some x):l.set i x=l:=by
 obtain ⟨hi,rfl⟩:=List.getElem?_eq_some_iff.1 h
 exact List.set_getElem_self hi
theorem aOl {P:Program} [aB P] {all r:List Oper} {o:Oper} {s:AS} {K:AS→Prop} {j d:Nat} {want b:Bool} (hg:o.guard=some (j,want)) (hd:(all[j]?).bind (·.dst)=some d) (hb:s.t[d]? =some (.bool b))
  (h1:b=true→bP P all (o::r) ⟨s.t.set d (.bool true),s.o⟩ K) (h2:b=false→bP P all (o::r) ⟨s.t.set d (.bool false),s.o⟩ K):bP P all (o::r) s K:=by
 cases b
 ·have:=h2 rfl
  rw [aKi hb] at this;exact this
 ·have:=h1 rfl
  rw [aKi hb] at this;exact this
def dZ {α:Type} (f:α→Bool) (l:List α):Int:=if l.any f=true then (l.findIdx f:Nat) else -1
theorem qA {α:Type} {f:α→Bool} {l:List α} {k:Nat} (h:k < l.length) (hf:f l[k]=true) (hn:∀x∈l.take k,f x=false):dZ f l=k:=by
 unfold dZ
 rw [if_pos (List.any_eq_true.2 ⟨_,List.getElem_mem h,hf⟩)]
 have:l.findIdx f=k:=by
  rw [List.findIdx_eq h]
  refine ⟨hf,fun j hj=> ?_⟩
  exact hn _ (List.mem_take_iff_getElem.2 ⟨j,by omega,rfl⟩)
 rw [this]
theorem nO {α:Type} {f:α→Bool} {l:List α} (hn:∀x∈l,f x=false):dZ f l= -1:=by
 unfold dZ
 rw [if_neg]
 intro h
 obtain ⟨x,hx,hf⟩:=List.any_eq_true.1 h
 rw [hn x hx] at hf;cases hf
theorem aMf {α:Type} (f:α→Bool) (l:List α):decide (0≤dZ f l)=l.any f:=by
 unfold dZ
 cases h:l.any f<;>simp
theorem dD {α:Type} {p:α→Prop} {l:List α} {k:Nat} (h:k < l.length) (ha:∀x∈l.take k,p x) (hk:p l[k]):∀x∈l.take (k+1),p x:=by
 rw [List.take_succ_eq_append_getElem h]
 intro x hx
 rcases List.mem_append.1 hx with hx|hx
 ·exact ha x hx
 ·rw [List.mem_singleton.1 hx];exact hk
theorem iL {α:Type} {p:α→Prop} {l:List α} {k:Nat} (hk:l.length≤k) (ha:∀x∈l.take k,p x):∀x∈l,p x:=by
 rwa [List.take_of_length_le hk] at ha
end Go.Aw

namespace Go.Aw
open Go.ChangeShapes Go.WideShapes Go.ChangeAt Go.RowKit
inductive Sh
  | int (k : IntKind)
  | bool
  | str
  | sl (n : Nat) (row : List Sh)
mutual
def Fits : Sh → AV → Prop
  | .int k, .int k' n => k' = k ∧ (Lit.int k n).wf = true
  | .bool, .bool _ => True
  | .str, .str s => s.length ≤ maxLen
  | .sl n row, .sl g n' rows => g = .view ∧ n' = n ∧ rows.length ≤ maxLen ∧ ∀ r ∈ rows, fO row r
  | _, _ => False
def fO : List Sh → List AV → Prop
  | [], [] => True
  | s :: ss, x :: xs => Fits s x ∧ fO ss xs
  | _, _ => False
end
theorem aAf:∀{ss tt:List Sh} {xs ys:List AV},fO ss xs→fO tt ys→fO (ss++tt) (xs++ys)
 |[],_,[],_,_,h=>h
 |s::ss,_,x::xs,_,h,h'=>by simp only [fO,List.cons_append] at h⊢;exact ⟨h.1,aAf h.2 h'⟩
 |[],_,_::_,_,h,_=>h.elim
 |_::_,_,[],_,h,_=>h.elim
def shF (sh:TypeId→Option (List Sh)) (P:Program):List Field→Nat→Option (List Sh)
 |[],_=>some []
 |x::xs,o=>if x.offset=o then match sh x.type with
   |some a=>if a.length=P.cellsOf x.type then match shF sh P xs (o+a.length) with
     |some b=>some (a++b)
     |none=>none
    else none
   |none=>none
  else none
def shC (P:Program):Nat→TypeId→Option (List Sh)
 |0,_=>none
 |f+1,t=>match P.underlying t with
  |some .bool=>some [.bool]
  |some (.int k)=>some [.int k]
  |some .string=>some [.str]
  |some (.slice e)=>match shC P f e with
   |some row=>if row.length=P.cellsOf e∧0 < row.length then some [.sl row.length row] else none
   |none=>none
  |some (.struct fs)=>match shF (shC P f) P fs.toList 0 with
   |some r=>if r.length=P.cellsOf t then some r else none
   |none=>none
  |_=>none
theorem aCf {α:Type} {p:Nat→α→Prop}:∀(n:Nat),(∀i,i < n→∃x,p i x)→∃l:List α,l.length=n∧∀i x,l[i]? =some x→p i x
 |0,_=>⟨[],rfl,fun i x h=>by simp at h⟩
 |n+1,h=>by
  obtain ⟨l,hl,hp⟩:=aCf n (fun i hi=>h i (by omega))
  obtain ⟨x,hx⟩:=h n (by omega)
  refine ⟨l++[x],by simp [hl],fun i y hy=> ?_⟩
  by_cases hi:i < l.length
  ·rw [List.getElem?_append_left hi] at hy;exact hp i y hy
  ·rw [List.getElem?_append_right (by omega)] at hy
   have:i - l.length=0:=by
    cases hk:i - l.length with
    |zero=>rfl
    |succ k=>rw [hk] at hy;simp at hy
   rw [this] at hy
   simp at hy
   subst hy
   have:i=n:=by omega
   subst this;exact hx
theorem aTi {w:World} {E:Env} {b n:Nat}:∀(rows:List (List AV)) (off:Nat),
  (∀j r,rows[j]? =some r→∃cs:List Value,cs.length=n∧bK w b (off+j * n) cs∧(∀x∈cs,x.oneCell'=true)∧Rc w E r cs [])→Rr w E rows b off n []
 |[],_,_=>by simp [Rr]
 |r::rs,off,h=>by
  obtain ⟨cs,h1,h2,h3,h4⟩:=h 0 r rfl
  refine ⟨cs,[],[],h1,by simpa using h2,h3,h4,aTi rs (off+n) fun j r hj=> ?_,rfl⟩
  obtain ⟨cs,h1,h2,h3,h4⟩:=h (j+1) r (by simpa using hj)
  exact ⟨cs,h1,by rw [Nat.add_mul,Nat.one_mul,show off+(j * n+n)=off+n+j * n by omega] at h2;exact h2,h3,h4⟩
section
variable {H : Type} {enc : TypeId × Value → H} {P : Program} [aB P] {w : World} {spare : Nat → Bool} {held : Bool}
def Reads (enc:TypeId×Value→H) (P:Program) (w:World) (spare:Nat→Bool) (held:Bool) (t:TypeId) (ss:List Sh):Prop:=
 ∀fuel cs x,DataW.trod enc P w 0 spare held fuel t cs=some x→∃avs,fO ss avs∧Rc w (fT w) avs cs []∧∀c∈cs,c.oneCell'=true
theorem aAu {sh:TypeId→Option (List Sh)} (ih:∀t ss,sh t=some ss→Reads enc P w spare held t ss) {n:Nat} {cs:List Value}:
  ∀(fs:List Field) (o:Nat) (rs:List Sh),shF sh P fs o=some rs→(∀f∈fs,∃y,DataW.trod enc P w 0 spare held n f.type ((cs.drop f.offset).take (P.cellsOf f.type))=some y)→
   ∃avs,fO rs avs∧Rc w (fT w) avs ((cs.drop o).take rs.length) []∧∀c∈(cs.drop o).take rs.length,c.oneCell'=true
 |[],o,rs,h,_=>by
  simp only [shF,Option.some.injEq] at h
  subst h
  exact ⟨[],by simp [fO],by simp [Rc],by simp⟩
 |f::fs,o,rs,h,hf=>by
  simp only [shF] at h
  split at h
  ·rename_i ho
   split at h
   ·rename_i a ha
    split at h
    ·rename_i hl
     split at h
     ·rename_i b hb
      obtain rfl:=Option.some.inj h
      obtain ⟨y,hy⟩:=hf f (by simp)
      obtain ⟨x1,h1,h2,h3⟩:=ih _ _ ha _ _ _ hy
      obtain ⟨x2,h4,h5,h6⟩:=aAu ih fs _ _ hb fun f hf'=>hf f (by simp [hf'])
      rw [ho,←hl] at h2 h3
      have e:(cs.drop o).take (a++b).length=(cs.drop o).take a.length++(cs.drop (o+a.length)).take b.length:=by
       rw [List.length_append,List.take_add,List.drop_drop]
      refine ⟨x1++x2,aAf h1 h4,by rw [e];exact eF h2 h5,fun c hc=> ?_⟩
      rw [e,List.mem_append] at hc
      exact hc.elim (h3 c) (h6 c)
     ·cases h
    ·cases h
   ·cases h
  ·cases h
theorem reads:∀(f:Nat) (t:TypeId) (ss:List Sh),shC P f t=some ss→Reads enc P w spare held t ss
 |0,_,_,h=>by simp [shC] at h
 |f+1,t,ss,h=>by
  intro fuel cs x hx
  unfold shC at h
  split at h
  ·rename_i ht
   obtain rfl:=Option.some.inj h
   obtain ⟨b,rfl,_⟩:=DataW.trod_bool ht hx
   exact ⟨[.bool b],by simp [fO,Fits],by simp [Rc,R],by simp [Value.oneCell']⟩
  ·rename_i k ht
   obtain rfl:=Option.some.inj h
   obtain ⟨n,rfl,_,hw⟩:=DataW.trod_int ht hx
   exact ⟨[.int k n],by simp [fO,Fits,hw],by simp [Rc,R],by simp [Value.oneCell']⟩
  ·rename_i ht
   obtain rfl:=Option.some.inj h
   obtain ⟨s,rfl,_,hw⟩:=DataW.trod_string ht hx
   exact ⟨[.str s.data.toList],by simpa [fO,Fits] using hw,by simp [Rc,R],by simp [Value.oneCell']⟩
  ·rename_i e ht
   split at h
   ·rename_i row hrow
    split at h
    ·rename_i hc
     obtain rfl:=Option.some.inj h
     have ih:=reads f e row hrow
     rcases DataW.trod_slice ht hx with ⟨rfl,_⟩|⟨a,len,cap,elems,rest,n,_,rfl,_,_,hlc,hcm,hlen,hel,_,_⟩
     ·exact ⟨[.sl .view row.length []],by simp [fO,Fits],by simp [Rc,R,maxLen],by simp [Value.oneCell']⟩
     ·rw [←hc.1] at hel
      have hrows:∀i,i < len→∃r:List AV,fO row r∧∃cs,w.cells? 0 (a.add (i * row.length)) row.length=some cs∧(∀x∈cs,x.oneCell'=true)∧Rc w (fT w) r cs []:=by
       intro i hi
       have h1:=hel i hi
       rw [List.getElem?_eq_getElem (by omega)] at h1
       obtain ⟨cs,hcs,htr⟩:=Option.bind_eq_some_iff.1 h1
       obtain ⟨r,h2,h3,h4⟩:=ih _ _ _ htr
       exact ⟨r,h2,cs,hcs,h4,h3⟩
      obtain ⟨rows,hrl,hrp⟩:=aCf len hrows
      refine ⟨[.sl .view row.length rows],?_,?_,by simp [Value.oneCell']⟩
      ·simp only [fO,Fits,and_true,true_and]
       refine ⟨by omega,fun r hr=> ?_⟩
       obtain ⟨i,hi⟩:=List.getElem?_of_mem hr
       exact (hrp i r hi).1
      ·simp only [Rc]
       refine ⟨[],[],?_,rfl,rfl⟩
       simp only [R]
       refine .inr ⟨some a,cap,by rw [hrl],⟨by omega,by omega⟩,.inr (.inr ⟨by simp,trivial,?_⟩)⟩
       by_cases hl0:len=0
       ·exact .inl (List.length_eq_zero_iff.1 (by omega))
       right
       have h0:rows[0]? =some rows[0]:=List.getElem?_eq_getElem (by omega)
       obtain ⟨_,cs0,hcs0,_⟩:=hrp 0 _ h0
       have hcell:=(World.cells?_some hcs0).2.2 0 hc.2
       have hlen0:=(World.cells?_some hcs0).2.1
       have hspot:a.spot=none:=by
        have:w.cell? a=cs0[0]?:=by simpa [Addr.add] using hcell
        rw [List.getElem?_eq_getElem (by omega)] at this
        unfold World.cell? at this
        split at this
        ·split at this
         ·cases this
         ·rename_i hs;simpa using hs
        ·cases this
       have hblk:a.block < w.heap.size:=by
        have:=World.cells?_block hcs0 hc.2
        unfold Addr.add at this
        split at this<;>exact this
       obtain ⟨ab,ao,asp⟩:=a
       simp only at hspot hblk
       subst hspot
       refine ⟨ab,ao,rfl,hblk,aTi rows ao fun j r hj=> ?_⟩
       obtain ⟨_,cs,hcs,h1,hR⟩:=hrp j r hj
       have hs:=World.cells?_some hcs
       refine ⟨cs,hs.2.1,fun k v hv=> ?_,h1,?_⟩
       ·have hk:k < row.length:=by
         have:=(List.getElem?_eq_some_iff.1 hv).1
         omega
        have:=hs.2.2 k hk
        rw [hv] at this
        rw [←this]
        congr 1
        unfold Addr.add
        split<;>split<;>simp_all<;>omega
       ·exact bW (w:=w) (w':=w) (E:=fT w) ⟨fun b hb=>⟨hb,rfl⟩,fun _ h=>trivial,fun _ _ _ h=>by exact h.elim,fun _ _ _ h=>by exact h.elim,fun _ _ _ _ _ h=>by exact h.elim⟩ _ _ _ (by simp) hR
    ·cases h
   ·cases h
  ·rename_i fs ht
   split at h
   ·rename_i r hr
    split at h
    ·rename_i hc
     obtain rfl:=Option.some.inj h
     obtain ⟨xs,n,_,_,hcl,hxl,hfs⟩:=DataW.trod_struct ht hx
     obtain ⟨avs,h1,h2,h3⟩:=aAu (enc:=enc) (w:=w) (spare:=spare) (held:=held) (n:=n) (cs:=cs) (reads f) fs.toList 0 _ hr fun fl hfl=>by
      obtain ⟨i,hi⟩:=List.getElem?_of_mem hfl
      have:=hfs i fl (by simpa using hi)
      have hlt:=(List.getElem?_eq_some_iff.1 hi).1
      simp at hlt
      rw [List.getElem?_eq_getElem (by omega)] at this
      exact ⟨_,this⟩
     rw [List.drop_zero,List.take_of_length_le (by omega)] at h2 h3
     exact ⟨avs,h1,h2,h3⟩
    ·cases h
   ·cases h
  ·cases h
inductive ShV
  | one (s : Sh)
  | agg (row : List Sh)
def aO0:ShV→AV→Prop
 | .one s,x=>Fits s x
 | .agg row,.agg c=>fO row c
 |_,_=>False
def xW:List ShV→List AV→Prop
 |[],[]=>True
 |s::ss,x::xs=>aO0 s x∧xW ss xs
 |_,_=>False
def shV (P:Program) (f:Nat) (t:TypeId):Option ShV:=match P.underlying t with
 |some (.struct _)=>(shC P f t).map .agg
 |some .bool|some (.int _)|some .string|some (.slice _)=>match shC P f t with
  |some [s]=>some (.one s)
  |_=>none
 |_=>none
def aKu (P:Program) (f:Nat):List TypeId→Option (List ShV)
 |[]=>some []
 |t::ts=>match shV P f t,aKu P f ts with
  |some s,some ss=>some (s::ss)
  |_,_=>none
theorem cells_one {v:Value} (h:∀cs,v≠ .agg cs):v.cells=#[v]:=by
 cases v<;>first|rfl|exact absurd rfl (h _)
theorem aWj {base:Nat} {f:Nat} {t:TypeId} {s:ShV} (h:shV P f t=some s) {v:Value} {d:DataW H} {ps:List MemPlace} (hok:Value.okWide P w .any base t v)
  (hT:DataW.Trod enc P w 0 spare held t v d ps):∃av,aO0 s av∧R w (fT w) av v []:=by
 obtain ⟨fuel,hT⟩:=hT
 unfold shV at h
 have one:(∀cs,v≠ .agg cs)→(match shC P f t with|some [s]=>some (ShV.one s)|_=>none)=some s→∃av,aO0 s av∧R w (fT w) av v []:=by
  intro hv h
  split at h
  ·rename_i s1 hs
   obtain rfl:=Option.some.inj h
   obtain ⟨avs,h1,h2,_⟩:=reads f t _ hs _ _ _ hT
   rw [cells_one hv] at h2
   cases avs with
   |nil=>exact h1.elim
   |cons x xs=>
    cases xs with
    |nil=>
     simp only [Rc] at h2
     obtain ⟨f1,f2,hr,rfl,e⟩:=h2
     simp only [List.append_nil] at e
     subst e
     simp only [fO] at h1
     exact ⟨x,h1.1,hr⟩
    |cons y ys=>simp [fO] at h1
  ·cases h
 split at h
 ·rename_i fs ht
  obtain ⟨ss,hs,rfl⟩:=Option.map_eq_some_iff.1 h
  obtain ⟨cs,rfl,_⟩:=okWide_struct ht hok
  obtain ⟨avs,h1,h2,h3⟩:=reads f t _ hs _ _ _ hT
  exact ⟨.agg avs,h1,by simp only [R];exact ⟨cs.toList,by simp,h3,h2⟩⟩
 ·rename_i ht;exact one (fun cs e=>by subst e;simp [Value.okWide,ht,Cell.okWide,Cell.ok] at hok) h
 ·rename_i ht;exact one (fun cs e=>by subst e;simp [Value.okWide,ht,Cell.okWide,Cell.ok] at hok) h
 ·rename_i ht;exact one (fun cs e=>by subst e;simp [Value.okWide,ht,Cell.okWide,Cell.ok] at hok) h
 ·rename_i ht;exact one (fun cs e=>by subst e;simp [Value.okWide,ht,Cell.okWide,Cell.ok] at hok) h
 ·cases h
theorem aMl {base:Nat} {f:Nat}:∀{ts:List TypeId} {ss:List ShV},aKu P f ts=some ss→∀{vs:List Value} {ds:List (DataW H)} {ps:List MemPlace},
  (∀(j:Nat) t v,ts[j]? =some t→vs[j]? =some v→Value.okWide P w .any base t v)→DataW.TrodAll enc P w 0 spare held ts vs ds ps→∃avs,xW ss avs∧Rc w (fT w) avs vs []
 |[],ss,h,[],_,_,_,_=>by
  simp only [aKu,Option.some.injEq] at h
  subst h
  exact ⟨[],trivial,by simp [Rc]⟩
 |t::ts,ss,h,v::vs,d::ds,ps,hok,hT=>by
  simp only [aKu] at h
  split at h
  ·rename_i s ss' h1 h2
   obtain rfl:=Option.some.inj h
   obtain ⟨p,q,ht,hr,_⟩:=hT
   obtain ⟨x,hx,hR⟩:=aWj h1 (hok 0 t v rfl rfl) ht
   obtain ⟨xs,hxs,hRs⟩:=aMl h2 (fun j t v h1 h2=>hok (j+1) t v (by simpa using h1) (by simpa using h2)) hr
   exact ⟨x::xs,⟨hx,hxs⟩,by simp only [Rc];exact ⟨[],[],hR,hRs,rfl⟩⟩
  ·cases h
 |[],_,_,_::_,_,_,_,hT=>by simp [DataW.TrodAll] at hT
 |_::_,_,_,[],_,_,_,hT=>by simp [DataW.TrodAll] at hT
 |_::_,_,_,_::_,[],_,_,hT=>by simp [DataW.TrodAll] at hT
theorem zO (hl:laidOutB P=true) {W W':World} (hb:Below W.heap.size W W'):∀{ts:List TypeId} {vs:List Value} {ds:List (DataW H)} {ps:List MemPlace},
  (∀t∈ts,P.readableRec t=true∧t < P.types.size)→DataW.TrodAll enc P W 0 (fun _=>true) true ts vs ds ps→(∀x∈ps,x.block < W.heap.size)→∀sp:Nat→Bool,(∀p∈ps,sp p.block=true)→
   DataW.TrodAll enc P W' 0 sp true ts vs ds ps
 |[],[],[],_,_,h,_,_,_=>h
 |t::ts,v::vs,d::ds,ps,hr,h,hlt,sp,hsp=>by
  obtain ⟨p,q,h1,h2,rfl⟩:=h
  refine ⟨p,q,?_,?_,rfl⟩
  ·exact WideElems.Trod_stays hl (hr t (by simp)).1 (hr t (by simp)).2 h1 (fun x hx=>hb.same (hlt x (by simp [hx]))) (fun x hx=>hsp x (by simp [hx]))
  ·exact zO hl hb (fun t ht=>hr t (by simp [ht])) h2 (fun x hx=>hlt x (by simp [hx])) sp (fun x hx=>hsp x (by simp [hx]))
 |[],_::_,_,_,_,h,_,_,_=>h.elim
 |[],[],_::_,_,_,h,_,_,_=>h.elim
 |_::_,[],_,_,_,h,_,_,_=>h.elim
 |_::_,_::_,[],_,_,h,_,_,_=>h.elim
end
theorem aJm {α:Type} {row:List Sh} {e:α→List AV} {p:α→Prop} (h:∀r,fO row r→∃x,r=e x∧p x):∀rows:List (List AV),(∀r∈rows,fO row r)→∃l:List α,rows=l.map e∧∀x∈l,p x
 |[],_=>⟨[],rfl,by simp⟩
 |r::rs,hr=>by
  obtain ⟨x,rfl,hx⟩:=h r (hr r (by simp))
  obtain ⟨l,rfl,hl⟩:=aJm h rs (fun r h=>hr r (by simp [h]))
  exact ⟨x::l,rfl,by simpa using ⟨hx,hl⟩⟩
theorem aRq {r:List AV} (h:fO [] r):r=[]:=by
 cases r with
 |nil=>rfl
 |cons _ _=>exact h.elim
theorem fits_int {k:IntKind} {ss:List Sh} {r:List AV} (h:fO (.int k::ss) r):∃n r',r= .int k n::r'∧(k.min≤n∧n≤k.max)∧fO ss r':=by
 match r,h with
 |[],h=>exact h.elim
 | .int k' n::r',h=>
  obtain ⟨⟨rfl,hw⟩,h2⟩:=h
  exact ⟨n,r',rfl,by simpa [Lit.wf] using hw,h2⟩
theorem aUr {n:Nat} {row ss:List Sh} {r:List AV} (h:fO (.sl n row::ss) r):∃rows r',r= .sl .view n rows::r'∧rows.length≤9223372036854775807∧(∀x∈rows,fO row x)∧fO ss r':=by
 match r,h with
 |[],h=>exact h.elim
 | .sl g n' rows::r',h=>
  obtain ⟨⟨rfl,rfl,h1,h2⟩,h3⟩:=h
  exact ⟨rows,r',rfl,h1,h2,h3⟩
theorem aQi {r:List AV} (h:xW [] r):r=[]:=by
 cases r with
 |nil=>rfl
 |cons _ _=>exact h.elim
theorem aRc {s:Sh} {ss:List ShV} {r:List AV} (h:xW (.one s::ss) r):∃x r',r=x::r'∧fO [s] [x]∧xW ss r':=by
 match r,h with
 |[],h=>exact h.elim
 |x::r',h=>exact ⟨x,r',rfl,⟨h.1,trivial⟩,h.2⟩
theorem aSa {C:Checked} [T:aB C.prog] {f:FuncId} {fn:Func} {s:ChangeSpec} {apart fresh handsOn again:Bool} {H:Type} {enc:TypeId×Value→H} {ss:List ShV} {fuel:Nat} {tb:TypeId}
  (hl:laidOutB C.prog=true) (hread:∀t∈fn.params.toList,C.prog.readableRec t=true∧t < C.prog.types.size)
  (hsh:aKu C.prog fuel fn.params.toList=some ss) (hres:fn.resultTypes=#[tb]) (hb:C.prog.underlying tb=some .bool) (hvars:s.vars=[])
  (hfn:∀ds:List (DataW H),ds.length=fn.params.toList.length→s.fn H ds={results:=[.lit (.bool true)],args:=ds})
  (hok:∀avs,xW ss avs→Ok C.prog f avs (.bool true))
  {W:World} {base:Nat} {args:Array Value} {ds gs:List (DataW H)} {before:List MemPlace} (hT:aB.holds C.prog W)
  (hval:∀(j:Nat) t v,fn.params[j]? =some t→args[j]? =some v→Value.okWide C.prog W .any base t v)
  (hW:DataW.Whole enc C.prog fn.params.toList s.vars apart W args.toList ds gs before):
  Calls C.prog f args W fun e W'=>∃v,e= .returned v∧s.post enc C.prog fn apart fresh handsOn again W args v W':=by
 obtain ⟨p,q,hA,hV,hpq,hz,hn⟩:=id hW
 rw [hvars] at hV
 obtain ⟨rfl,rfl⟩:gs=[]∧q=[]:=by
  cases gs with
  |nil=>exact ⟨rfl,hV⟩
  |cons _ _=>exact hV.elim
 rw [List.append_nil] at hpq
 subst hpq
 have hlen:ds.length=fn.params.toList.length:=by
  have:∀(ts:List TypeId) (vs:List Value) (ds:List (DataW H)) ps,DataW.TrodAll enc C.prog W 0 (fun _=>true) true ts vs ds ps→ds.length=ts.length:=by
   intro ts
   induction ts with
   |nil=>intro vs ds ps h;cases vs<;>cases ds<;>simp_all [DataW.TrodAll]
   |cons t ts ih=>intro vs ds ps h;cases vs<;>cases ds<;>simp_all [DataW.TrodAll];obtain ⟨_,_,_,h,_⟩:=h;exact ih _ _ _ h
  exact this _ _ _ _ hA
 have hspec:=hfn ds hlen
 obtain ⟨avs,hfits,hR⟩:=aMl hsh (fun j t v h1 h2=>hval j t v (by simpa using h1) (by simpa using h2)) hA
 have hc:=hok avs hfits W args.toList hT hR
 rw [show args.toList.toArray=args from rfl] at hc
 refine hc.mono fun e W' ⟨v,fp,he,hr,_,_,hsz,hsame,hio⟩=>⟨v,he,?_⟩
 simp only [R] at hr
 obtain ⟨rfl,_⟩:=hr
 have hbl:Below W.heap.size W W':=⟨hio.os,hio.tape,hio.output,hsz,hsame⟩
 have hlt:∀x∈before,x.block < W.heap.size:=fun x hx=>hW.lt x hx
 have hsp:s.fn H (ds++[])={results:=[.lit (.bool true)],args:=ds}:=by rw [List.append_nil];exact hspec
 have hargs:∀sp:Nat→Bool,(∀p∈before,sp p.block=true)→DataW.TrodAll enc C.prog W' 0 sp true fn.params.toList args.toList (s.fn H (ds++[])).args before:=by
  intro sp h;rw [hsp];exact zO hl hbl hread hA hlt sp h
 have hone:(Value.bool true).resultList fn.resultTypes.size=[.bool true]:=by rw [hres];rfl
 have hresT:∀(b:Nat) (sp:Nat→Bool) (hd:Bool),DataW.TrodAll enc C.prog W' b sp hd fn.resultTypes.toList ((Value.bool true).resultList fn.resultTypes.size) (s.fn H (ds++[])).results []:=by
  intro b sp hd
  rw [hsp,hone,hres]
  exact ⟨[],[],shut_bool hb true,rfl,rfl⟩
 have hvarsT:∀sp:Nat→Bool,DataW.TrodVars enc C.prog W' sp s.vars (s.fn H (ds++[])).vars []:=by
  intro sp;rw [hsp,hvars];rfl
 have hold:∀p∈before,(fun b=>decide (b < W.heap.size)) p.block=true:=fun p hp=>by simpa using hlt p hp
 refine ⟨ds,[],before,[],before,[],hW,hresT _ _ _,hargs _ hold,hvarsT _,World.keptBut_mono (fun p hp=>hp.elim) (hbl.frame (fun _=>False)),fun _=> ?_⟩
 refine ⟨ok_one hres rfl (okWide_bool_mk hb true),_,_,([]++before)++[],⟨[]++before,[],trodAll_append (hargs _ (fun _ _=>rfl)) (hresT _ _ _),hvarsT _,rfl,?_,?_⟩,?_⟩
 ·intro b off hp
  have hp':MemPlace.cell b off∈before:=by simpa using hp
  rw [hbl.frozen (p:=⟨b,off,none⟩) (hlt _ hp')]
  exact hz b off hp'
 ·intro ha
  simpa using hn ha
 ·intro p hp _
  simpa using hp
end Go.Aw

namespace Go.Aw
def uV:Sh→AV→Prop
 | .int k,.int k' _=>k'=k
 | .bool,.bool _=>True
 | .str,.str _=>True
 |_,_=>False
def jT:List Sh→List AV→Prop
 |[],[]=>True
 |s::ss,x::xs=>uV s x∧jT ss xs
 |_,_=>False
theorem nJ:∀{ss:List Sh} {xs:List AV},jT ss xs→xs.length=ss.length
 |[],[],_=>rfl
 |s::ss,x::xs,h=>by simp only [jT] at h;simp [nJ h.2]
 |[],_::_,h=>h.elim
 |_::_,[],h=>h.elim
theorem xA:∀{ss tt:List Sh} {xs:List AV},jT (ss++tt) xs→jT ss (xs.take ss.length)∧jT tt (xs.drop ss.length)
 |[],_,xs,h=>by simpa [jT] using h
 |s::ss,tt,x::xs,h=>by
  simp only [List.cons_append,jT] at h
  simp only [List.length_cons,List.take_succ_cons,List.drop_succ_cons,jT]
  have:=xA h.2
  exact ⟨⟨h.1,this.1⟩,this.2⟩
 |_::_,_,[],h=>h.elim
def pO (P:Program) (t:TypeId):Bool:=match P.underlying t with|some (.struct _)=>true|_=>false
def valOf (P:Program) (t:TypeId) (cs:List Value):Value:=if pO P t then .agg cs.toArray else cs.headD (.tuple #[])
def eqT (P:Program):Nat→TypeId→Bool
 |0,_=>false
 |f+1,t=>match P.underlying t with
  |some .bool|some (.int _)|some .string=>P.cellsOf t == 1
  |some (.struct fs)=> !P.stoodInHeld t&&fs.toList.all fun x=>x.name != "_" &&eqT P f x.type
  |_=>false
theorem aCm {P:Program} {w:World} {f:Nat} {t:TypeId} (he:eqT P f t=true) (xs:List Value) (o:Nat) (h:P.cellsOf t=0∨o+P.cellsOf t≤xs.length):
  (part t xs.toArray o).run P w= .ok (valOf P t ((xs.drop o).take (P.cellsOf t))) w:=by
 cases f with
 |zero=>simp [eqT] at he
 |succ f=>
  unfold eqT at he
  have one:∀d,P.underlying t=some d→(d= .bool∨(∃k,d= .int k)∨d= .string)→P.cellsOf t=1→(part t xs.toArray o).run P w= .ok (valOf P t ((xs.drop o).take (P.cellsOf t))) w:=by
   intro d hu hd h1
   have hlt:o < xs.length:=by omega
   have e:(xs.drop o).take 1=[xs[o]]:=by rw [List.drop_eq_getElem_cons hlt,List.take_succ_cons,List.take_zero]
   rw [h1,e]
   rcases hd with rfl|⟨k,rfl⟩|rfl<;>simp [part,isAgg,run_underlying hu,valOf,pO,hu,hlt]
  split at he
  ·rename_i hu;exact one _ hu (.inl rfl) (by simpa using he)
  ·rename_i hu;exact one _ hu (.inr (.inl ⟨_,rfl⟩)) (by simpa using he)
  ·rename_i hu;exact one _ hu (.inr (.inr rfl)) (by simpa using he)
  ·rename_i fs hu
   obtain ⟨i,hi⟩:=info_of_underlying hu
   have hl:xs.toArray.extract o (o+P.cellsOf t)=((xs.drop o).take (P.cellsOf t)).toArray:=by
    apply Array.toList_inj.1
    rw [Array.toList_extract]
    simp [List.extract]
   simp [part,isAgg,run_underlying hu,run_sizeOf w hi,valOf,pO,hu,hl]
  ·cases he
section
variable {P : Program}
theorem wC {f:Nat} (ih:∀t ss,shC P f t=some ss→eqT P f t=true→∀c1 c2:List AV,jT ss c1→jT ss c2→∀d w,f≤d→∃b,(Op.equalIn d t (valOf P t (c1.map toV)) (valOf P t (c2.map toV))).run P w= .ok b w∧(b=true↔c1=c2)) (c1 c2:List AV) (d:Nat) (w:World) (hd:f≤d):
  ∀(fs:List Field) (o:Nat) (rs:List Sh),shF (shC P f) P fs o=some rs→(fs.all fun x=>x.name != "_" &&eqT P f x.type)=true→jT rs (c1.drop o)→jT rs (c2.drop o)→
   ∃b,(Op.eqFields d (c1.map toV).toArray (c2.map toV).toArray fs).run P w= .ok b w∧(b=true↔c1.drop o=c2.drop o)
 |[],o,rs,h,_,h1,h2=>by
  simp only [shF,Option.some.injEq] at h
  subst h
  refine ⟨true,by simp [Op.eqFields],?_⟩
  have e1:=nJ h1
  have e2:=nJ h2
  simp only [List.length_nil,List.length_eq_zero_iff] at e1 e2
  simp [e1,e2]
 |x::fs,o,rs,h,ha,h1,h2=>by
  simp only [shF] at h
  simp only [List.all_cons,Bool.and_eq_true] at ha
  split at h
  ·rename_i ho
   split at h
   ·rename_i a hsa
    split at h
    ·rename_i hl
     split at h
     ·rename_i b hb
      obtain rfl:=Option.some.inj h
      have s1:=xA h1
      have s2:=xA h2
      rw [List.drop_drop] at s1 s2
      have n1:=nJ h1
      have n2:=nJ h2
      simp only [List.length_drop,List.length_append] at n1 n2
      obtain ⟨b1,hr1,hi1⟩:=ih _ _ hsa ha.1.2 _ _ s1.1 s2.1 d w hd
      obtain ⟨b2,hr2,hi2⟩:=wC ih c1 c2 d w hd fs (o+a.length) b hb ha.2 s1.2 s2.2
      have p1:=aCm (w:=w) ha.1.2 (c1.map toV) o (by rw [List.length_map];omega)
      have p2:=aCm (w:=w) ha.1.2 (c2.map toV) o (by rw [List.length_map];omega)
      rw [←hl,←List.map_drop,←List.map_take] at p1 p2
      have hname:x.name≠ "_" :=by simpa using ha.1.1
      simp only [Op.eqFields,hname,ne_eq,not_false_eq_true,if_true,ho,Sem.run_bind,p1,p2,Result.andThen_ok,hr1]
      have split1:c1.drop o=(c1.drop o).take a.length++c1.drop (o+a.length):=by rw [←List.drop_drop,List.take_append_drop]
      have split2:c2.drop o=(c2.drop o).take a.length++c2.drop (o+a.length):=by rw [←List.drop_drop,List.take_append_drop]
      have key:c1.drop o=c2.drop o↔((c1.drop o).take a.length=(c2.drop o).take a.length∧c1.drop (o+a.length)=c2.drop (o+a.length)):=by
       constructor
       ·intro e
        rw [e]
        refine ⟨rfl,?_⟩
        rw [←List.drop_drop,←List.drop_drop,e]
       ·intro e
        rw [split1,split2,e.1,e.2]
      cases b1 with
      |false=>exact ⟨false,by simp,by simp only [Bool.false_eq_true,false_iff];intro e;exact absurd (hi1.2 (key.1 e).1) (by simp)⟩
      |true=>exact ⟨b2,by simpa using hr2,by rw [hi2,key];exact ⟨fun e=>⟨hi1.1 rfl,e⟩,fun e=>e.2⟩⟩
     ·cases h
    ·cases h
   ·cases h
  ·cases h
theorem aMt:∀(f:Nat) (t:TypeId) (ss:List Sh),shC P f t=some ss→eqT P f t=true→∀c1 c2:List AV,jT ss c1→jT ss c2→∀d w,f≤d→
  ∃b,(Op.equalIn d t (valOf P t (c1.map toV)) (valOf P t (c2.map toV))).run P w= .ok b w∧(b=true↔c1=c2)
 |0,_,_,h,_,_,_,_,_,_,_,_=>by simp [shC] at h
 |f+1,t,ss,h,he,c1,c2,h1,h2,d,w,hd=>by
  obtain ⟨d,rfl⟩:∃d',d=d'+1:=⟨d - 1,by omega⟩
  unfold shC at h
  unfold eqT at he
  have one:∀s:Sh,ss=[s]→∃x y,c1=[x]∧c2=[y]∧uV s x∧uV s y:=by
   rintro s rfl
   match c1,c2,h1,h2 with
   |[x],[y],h1,h2=>exact ⟨x,y,rfl,rfl,h1.1,h2.1⟩
   |[],_,h1,_=>exact h1.elim
   |_::_::_,_,h1,_=>exact h1.2.elim
   |[_],[],_,h2=>exact h2.elim
   |[_],_::_::_,_,h2=>exact h2.2.elim
  split at h
  ·rename_i hu
   obtain ⟨x,y,rfl,rfl,l1,l2⟩:=one _ (Option.some.inj h).symm
   cases x<;>simp only [uV] at l1
   cases y<;>simp only [uV] at l2
   rename_i p q
   exact ⟨p == q,by simp [valOf,pO,hu,toV,Go.run_equalIn_bool w d t p q hu],by simp⟩
  ·rename_i k hu
   obtain ⟨x,y,rfl,rfl,l1,l2⟩:=one _ (Option.some.inj h).symm
   cases x<;>simp only [uV] at l1
   cases y<;>simp only [uV] at l2
   rename_i k1 p k2 q
   have e1:k1=k:=l1
   have e2:k2=k:=l2
   subst e1;subst e2
   exact ⟨p == q,by simp [valOf,pO,hu,toV,run_equalIn_int w d t _ _ p q hu],by simp⟩
  ·rename_i hu
   obtain ⟨x,y,rfl,rfl,l1,l2⟩:=one _ (Option.some.inj h).symm
   cases x<;>simp only [uV] at l1
   cases y<;>simp only [uV] at l2
   rename_i p q
   refine ⟨p == q,?_,by simp⟩
   have:=run_equalIn_string w d t ⟨p.toArray⟩ ⟨q.toArray⟩ hu
   rw [ByteArray.toList_eq,ByteArray.toList_eq] at this
   simpa [valOf,pO,hu,toV] using this
  ·rename_i e hu
   rw [hu] at he
   cases he
  ·rename_i fs hu
   rw [hu] at he
   simp only [Bool.and_eq_true,Bool.not_eq_true'] at he
   split at h
   ·rename_i r hr
    split at h
    ·obtain rfl:=Option.some.inj h
     have hf:P.fieldsOf t=fs:=by simp [Program.fieldsOf,hu]
     obtain ⟨b,hb,hi⟩:=wC (fun t ss a b c1 c2 e1 e2 d w hd=>aMt f t ss a b c1 c2 e1 e2 d w hd) c1 c2 d w (by omega) fs.toList 0 _ hr he.2 (by simpa using h1) (by simpa using h2)
     refine ⟨b,?_,by simpa using hi⟩
     have:=run_equalIn_struct w d t (c1.map toV).toArray (c2.map toV).toArray (by rw [hf];exact hu) he.1
     rw [hf] at this
     simpa [valOf,pO,hu] using this.trans hb
    ·cases h
   ·cases h
  ·cases h
theorem aWm {t:TypeId} {f:Nat} {ss:List Sh} (hf:f≤10000) (hs:shC P f t=some ss) (he:eqT P f t=true) (hst:pO P t=true) (hg:P.eqGuardType P.depth t=false) {c1 c2:List AV} (h1:jT ss c1) (h2:jT ss c2) {b:Bool} (hb:b=true↔c1=c2):
  EqA P t c1 c2 b:=by
 intro op x y w hop
 obtain ⟨b',hb',hi⟩:=aMt f t ss hs he c1 c2 h1 h2 10000 w hf
 have e:b'=b:=by
  rw [←hb] at hi
  cases b<;>cases b'<;>simp_all
 subst e
 simp only [valOf,hst,if_true] at hb'
 rcases hop with rfl|rfl
 ·simp only [Sem.run_bind,run_eqGuard_agg w _ t x y _ _ hg,Result.andThen_ok,run_eql_struct,hb',if_true]
 ·simp only [Sem.run_bind,run_eqGuard_agg w _ t x y _ _ hg,Result.andThen_ok,run_neq_struct,hb']
  rfl
end
end Go.Aw

namespace Go.Aw
def Nx (m:Nat) (P:Program) [aB P] (o:Oper) (s:AS) (X:AS→Prop):Prop:=aop P o s X∨((m=1∧(nK P o s X∨sJ P o s X))∨(m=2∧wR P o s X))
theorem aP8 {P:Program} [aB P] {x y:Code} {s:AS} {Q:Exit→AS→Prop} (h:awp P x s (nE (fun s'=>awp P y s' Q) Q)):awp P (.seq x y) s Q:=by unfold awp;exact h
theorem aMk {K:AS→Prop} {Q:Exit→AS→Prop} {s:AS} (h:K s):nE K Q .normal s:=by unfold nE;exact h
theorem aF9 {P:Program} [aB P] {all r:List Oper} {o:Oper} {s:AS} {K:AS→Prop} (hg:o.guard=none) (h:Nx 1 P o s fun s'=>bP P all r s' K):bP P all (o::r) s K:=by
 simp only [bP,hg]
 rcases h with h|h
 ·exact .inl h
 ·rcases h with h|h
  ·exact .inr h.2
  ·exact absurd h.1 (by decide)
theorem aJj {P:Program} [aB P] {o:Oper} {s:AS} {X:AS→Prop} (h:xE P o s X):Nx 1 P o s X:= .inr (.inl ⟨rfl,.inr ⟨s,dV.refl s,h⟩⟩)
theorem aM8 {P:Program} [aB P] {all r:List Oper} {o:Oper} {s:AS} {K:AS→Prop} {j:Nat} {want:Bool} (hg:o.guard=some (j,want)) (hb:fH all s j want= .bool want) (h:Nx 0 P o s fun s'=>bP P all r s' K):bP P all (o::r) s K:=by
 simp only [bP,hg,hb]
 rcases h with h|h
 ·exact ⟨fun _=> .inl h,fun hn=>absurd rfl hn⟩
 ·rcases h with h|h<;>exact absurd h.1 (by decide)
theorem aIy {P:Program} [aB P] {all r:List Oper} {o:Oper} {s:AS} {K:AS→Prop} {j:Nat} {want:Bool} (hg:o.guard=some (j,want)) (hb:fH all s j want= .bool want) (h:Nx 1 P o s fun s'=>bP P all r s' K):bP P all (o::r) s K:=by
 simp only [bP,hg,hb]
 rcases h with h|h
 ·exact ⟨fun _=> .inl h,fun hn=>absurd rfl hn⟩
 ·rcases h with h|h
  ·exact ⟨fun _=> .inr h.2,fun hn=>absurd rfl hn⟩
  ·exact absurd h.1 (by decide)
theorem go_skip {P:Program} [aB P] {all r:List Oper} {o:Oper} {s s':AS} {K:AS→Prop} {j:Nat} {want:Bool} (hg:o.guard=some (j,want)) (hb:fH all s j want= .bool (!want)) (h:bP P all r s' K) (hs:∀K':AS→Prop,K' s'→K' (s.put o.dst (.tup [])):=by intro K' hK';(try simp only [AS.put,List.set_cons_succ,List.set_cons_zero]);exact hK'):bP P all (o::r) s K:=
 aP0 hg hb (hs (fun s=>bP P all r s K) h)
theorem aC3 {P:Program} [aB P] {id:Nat} {l:List Oper} {s:AS} {Q:Exit→AS→Prop} {fl:List (Nat×Nat×List AV)} {b:List aA} (hf:floats P 0 s.o.length l=fl) (hbb:s.o++(fl.map fun q=>(⟨false,false,q.2.2.length,0,[]⟩:aA))=b) (hfw:nW l=true) (hdst:distinct l=true) (hfl:aFq fl b.length=true) (hb:plc nL true fl b=b) (hb0:plc nL false fl b=s.o++(fl.map (·.2.2.length)).map fun n=>⟨true,false,n,0,[]⟩)
  (h:dS P l s.t b fl (Q .normal) 0 l [] []):awp P (.region id l.toArray true) s Q:=aP3 hfw hdst hfl hb hb0 h
section
variable {P : Program} [aB P] {l : List Oper} {t : List AV} {b : List aA} {fl : List (Nat × Nat × List AV)} {K : AS → Prop} {i : Nat} {op : Oper} {r : List Oper} {vs : List AV} {h : List (Nat × List aA)} {pr : List Nat} {m : List AV} {om : List aA}
theorem aF1 (hg:op.guard=none) (hnf:(fl.all fun q=>decide (q.1≠i))=true) (hpr:pre op=pr) (hlt:(pr.all fun e=>decide (e < i))=true) (hm:fB i pr 0 l vs t=m) (ho:plc (inb pr) true fl (oJ (inb pr) b h)=om) (hq:gM op.op ⟨m,om⟩=true)
  (ha:Nx 2 P op ⟨m,om⟩ fun s'=>(oU pr h=true∨s'.o.length=om.length)∧dS P l t b fl K (i+1) r (vs++[nP op s']) (if s'.o.length=om.length then h else (i,plc nL true fl s'.o)::h)):dS P l t b fl K i (op::r) vs h:=by
 refine yO hnf hpr hlt hm ho hq ?_
 unfold iG
 simp only [hg]
 rcases ha with ha|ha
 ·exact .inl ha
 ·rcases ha with ha|ha
  ·exact absurd ha.1 (by decide)
  ·exact .inr ha.2
theorem aIw {j:Nat} {want:Bool} (hg:op.guard=some (j,want)) (hnf:(fl.all fun q=>decide (q.1≠i))=true) (hpr:pre op=pr) (hlt:(pr.all fun e=>decide (e < i))=true) (hm:fB i pr 0 l vs t=m) (ho:plc (inb pr) true fl (oJ (inb pr) b h)=om) (hq:gM op.op ⟨m,om⟩=true) (hb:fH l ⟨m,om⟩ j want= .bool want)
  (ha:Nx 2 P op ⟨m,om⟩ fun s'=>(oU pr h=true∨s'.o.length=om.length)∧dS P l t b fl K (i+1) r (vs++[nP op s']) (if s'.o.length=om.length then h else (i,plc nL true fl s'.o)::h)):dS P l t b fl K i (op::r) vs h:=by
 refine yO hnf hpr hlt hm ho hq ?_
 unfold iG
 simp only [hg,hb]
 rcases ha with ha|ha
 ·exact ⟨fun _=> .inl ha,fun hn=>absurd rfl hn⟩
 ·rcases ha with ha|ha
  ·exact absurd ha.1 (by decide)
  ·exact ⟨fun _=> .inr ha.2,fun hn=>absurd rfl hn⟩
theorem aJ2 {j:Nat} {want:Bool} (hg:op.guard=some (j,want)) (hnf:(fl.all fun q=>decide (q.1≠i))=true) (hpr:pre op=pr) (hlt:(pr.all fun e=>decide (e < i))=true) (hm:fB i pr 0 l vs t=m) (ho:plc (inb pr) true fl (oJ (inb pr) b h)=om) (hds:(match op.dst with|some d=>decide (d < m.length)|none=>false)=true) (hq:gM op.op ⟨m,om⟩=true) (hb:fH l ⟨m,om⟩ j want= .bool (!want))
  (ha:dS P l t b fl K (i+1) r (vs++[.tup []]) h):dS P l t b fl K i (op::r) vs h:=by
 refine yO hnf hpr hlt hm ho hq ?_
 unfold iG
 simp only [hg,hb]
 refine ⟨fun hn=> ?_,fun _=> ?_⟩
 ·cases want<;>cases hn
 ·rw [put_eq]
  refine ⟨.inr rfl,?_⟩
  rw [if_pos rfl]
  have:nP op ⟨fG m op.dst (.tup []),om⟩= .tup []:=by
   unfold nP fG
   cases hd:op.dst with
   |none=>rw [hd] at hds;cases hds
   |some d=>
    rw [hd] at hds
    have hdl:d < m.length:=by simpa using hds
    dsimp only
    rw [List.getD_eq_getElem?_getD,List.getElem?_set_self hdl]
    rfl
  rw [this];exact ha
theorem aM1 {z:List Nat} {s1:AS} (hr:kY l i=true) (hz:jQ l i=z) (hk:K s1) (ha:lX (fun z=>jH P l (fun s'=>s'=s1) (left ((List.range l.length).map (jz i z))) ((List.range l.length).map (jz i z)) ⟨bY (jz i z) 0 l vs t,plc (jz i z) false fl (oJ (jz i z) b h)⟩) [] z:=by
  repeat' (first|refine st ?_|(refine nx ?_;refine so ?_)|refine sx ?_ ?_|refine sy ?_ ?_|fail)
  all_goals rfl):dS P l t b fl K i (op::r) vs h:=aFa hr hz ha hk
theorem aJp {q:Nat×Nat×List AV} {T:TypeId} {vs':List AV} (hq:fl.find? (fun q=>q.1 == i)=some q) (hg:op.guard=none) (hT:op.op= .alloc T) (hz:zeroA P T=some q.2.2) (hlt:((pre op).all fun e=>decide (e < i))=true) (hv:vs++[.ptr q.2.1 1 0 0]=vs') (hd:dS P l t b fl K (i+1) r vs' h):dS P l t b fl K i (op::r) vs h:=by
 subst hv;exact aLm hq hg hT hz hlt hd
theorem aFl {vs':List AV} {h':List (Nat×List aA)} {c:Prop} (hc:c) (hv:vs=vs') (hh:h=h') (hd:dS P l t b fl K i r vs' h'):c∧dS P l t b fl K i r vs h:=by
 subst hv;subst hh;exact ⟨hc,hd⟩
theorem kB {F:List Nat→Prop} {acc:List Nat} (h:lX F acc []):lX F acc []:=h
theorem kE {n:Nat} {d:List Bool} {s:AS} (h:jH P l K n d s):jH P l K n d s:=h
theorem kF {n:Nat} {d:List Bool} {s:AS} {j:Nat} (h:jD P l K n d s [j]):jD P l K n d s [j]:=h
theorem kD (hd:dS P l t b fl K i r vs h):dS P l t b fl K i r vs h:=hd
theorem kN {c:Prop} (hd:c∧dS P l t b fl K i r vs h):c∧dS P l t b fl K i r vs h:=hd
end
attribute [irreducible] Nx
theorem kL {P:Program} [aB P] {all l:List Oper} {s:AS} {K:AS→Prop} (h:bP P all l s K):bP P all l s K:=h
theorem kA {P:Program} [aB P] {c:Code} {s:AS} {Q:Exit→AS→Prop} (h:awp P c s Q):awp P c s Q:=h
theorem kT {K:AS→Prop} {Q:Exit→AS→Prop} {e:Exit} {s:AS} (h:nE K Q e s):nE K Q e s:=h
theorem kI {id:Nat} {Q:Exit→AS→Prop} {e:Exit} {s:AS} (h:AIn id Q e s):AIn id Q e s:=h
structure Hid (q : Prop) : Prop where
  out : q
theorem st {p q:Prop} (h:q) (e:Hid q→p:=by
 intro h
 (first
  |(refine kL ?_;first
    |refine rT ?_
    |refine aF9 rfl ?_
    |(refine aM8 rfl ?_ ?_;(focus (simp [fH,W];done)))
    |(refine go_skip rfl ?_ ?_;(focus (simp [fH,W];done))))
  |(refine kA ?_;first
    |refine aP8 ?_|refine aDr ?_|refine aMv ?_|refine aHf ?_|refine aJc ?_|refine aJd ?_|refine aC3 (by simp;rfl) (by simp;rfl) (by decide+kernel) (by decide) (by first|rfl|(simp [aFq];done)) (by simp) (by simp) ?_)
  |(refine kT ?_;first|refine aMk ?_|refine aBh ?_|refine zS ?_)
  |(refine kI ?_;first|refine zQ ?_|refine aEs ?_|refine aGq ?_|refine aGs (by decide) ?_)
  |(refine kN ?_;refine aFl (by simp;done) (by simp;rfl) (by simp;rfl) ?_)
  |(refine kD ?_;first
    |refine aG1 (by simp;rfl) (by simp;rfl) ?_
    |refine aJp rfl rfl rfl (by simp;done) (by first|rfl|(simp [Region.binds];done)) (by simp;rfl) ?_
    |(refine aF1 rfl (by first|rfl|(simp;done)) (by simp [Region.binds];rfl) (by decide) (by simp [Region.binds];rfl) (by simp;rfl) ?_ ?_;(focus (first|rfl|(simp [gM];done))))
    |(refine aIw rfl (by first|rfl|(simp;done)) (by simp [Region.binds];rfl) (by decide) (by simp [Region.binds];rfl) (by simp;rfl) ?_ ?_ ?_;(focus (first|rfl|(simp [gM];done)));(focus (simp [fH,W];done)))
    |(refine aJ2 rfl (by first|rfl|(simp;done)) (by simp [Region.binds];rfl) (by decide) (by simp [Region.binds];rfl) (by simp;rfl) ?_ ?_ ?_ ?_;(focus (first|rfl|(simp;done)));(focus (first|rfl|(simp [gM];done)));(focus (simp [fH,W];done)))
    |refine aHc (by decide+kernel) (by simp;rfl) (by simp;rfl) ?_
    |refine aM1 (by decide+kernel) (by simp [jQ,reach,dM,Region.binds,List.range_succ];rfl) ?_
    |refine aAo (by decide+kernel) (by simp [jQ,reach,dM,Region.binds,List.range_succ];rfl) ?_)
  |(refine kB ?_;refine aPf (by simp;rfl) (by simp;rfl) (by simp;rfl) (by simp;rfl) ?_)
  |(refine kE ?_;first|refine aPg ?_|refine aQ8 (by simp [Region.binds];rfl) ?_)
  |(refine kF ?_;refine aPn rfl (by simp only [List.set_cons_succ,List.set_cons_zero];rfl) ?_))
 repeat (first
  |(refine kL ?_;first
    |refine rT ?_
    |refine aF9 rfl ?_
    |(refine aM8 rfl ?_ ?_;(focus (simp [fH,W];done)))
    |(refine go_skip rfl ?_ ?_;(focus (simp [fH,W];done))))
  |(refine kA ?_;first
    |refine aP8 ?_|refine aDr ?_|refine aMv ?_|refine aHf ?_|refine aJc ?_|refine aJd ?_|refine aC3 (by simp;rfl) (by simp;rfl) (by decide+kernel) (by decide) (by first|rfl|(simp [aFq];done)) (by simp) (by simp) ?_)
  |(refine kT ?_;first|refine aMk ?_|refine aBh ?_|refine zS ?_)
  |(refine kI ?_;first|refine zQ ?_|refine aEs ?_|refine aGq ?_|refine aGs (by decide) ?_)
  |(refine kN ?_;refine aFl (by simp;done) (by simp;rfl) (by simp;rfl) ?_)
  |(refine kD ?_;first
    |refine aG1 (by simp;rfl) (by simp;rfl) ?_
    |refine aJp rfl rfl rfl (by simp;done) (by first|rfl|(simp [Region.binds];done)) (by simp;rfl) ?_
    |(refine aF1 rfl (by first|rfl|(simp;done)) (by simp [Region.binds];rfl) (by decide) (by simp [Region.binds];rfl) (by simp;rfl) ?_ ?_;(focus (first|rfl|(simp [gM];done))))
    |(refine aIw rfl (by first|rfl|(simp;done)) (by simp [Region.binds];rfl) (by decide) (by simp [Region.binds];rfl) (by simp;rfl) ?_ ?_ ?_;(focus (first|rfl|(simp [gM];done)));(focus (simp [fH,W];done)))
    |(refine aJ2 rfl (by first|rfl|(simp;done)) (by simp [Region.binds];rfl) (by decide) (by simp [Region.binds];rfl) (by simp;rfl) ?_ ?_ ?_ ?_;(focus (first|rfl|(simp;done)));(focus (first|rfl|(simp [gM];done)));(focus (simp [fH,W];done)))
    |refine aHc (by decide+kernel) (by simp;rfl) (by simp;rfl) ?_
    |refine aM1 (by decide+kernel) (by simp [jQ,reach,dM,Region.binds,List.range_succ];rfl) ?_
    |refine aAo (by decide+kernel) (by simp [jQ,reach,dM,Region.binds,List.range_succ];rfl) ?_)
  |(refine kB ?_;refine aPf (by simp;rfl) (by simp;rfl) (by simp;rfl) (by simp;rfl) ?_)
  |(refine kE ?_;first|refine aPg ?_|refine aQ8 (by simp [Region.binds];rfl) ?_)
  |(refine kF ?_;refine aPn rfl (by simp only [List.set_cons_succ,List.set_cons_zero];rfl) ?_))
 exact h.out):p:=e ⟨h⟩
theorem so {P : Program} [aB P] {o : Oper} {s s' : AS} {X : AS → Prop} {m : Nat} (h : X s') (e : ∀ K : AS → Prop, K s' → aop P o s K := by
  intro K hK
  first
    | (simp [-Bool.exists_bool, aop, W]
       (try simp (disch := omega) only [wrap64])
       first
         | exact hK
         | (refine ⟨_, by assumption, ?_⟩; (try simp only [aG, aF, bE, aU, bD, aS, bH, aV, List.append_nil, List.nil_append, List.cons_append, List.length_cons, List.length_nil, Nat.add_zero, Nat.zero_add, Nat.reduceAdd]); exact hK)
         | (refine ⟨?_, hK⟩; omega)
         | (refine ⟨?_, ?_, hK⟩ <;> omega)
         | (refine ⟨?_, ?_, ?_, hK⟩ <;> omega))
    | (simp [-Bool.exists_bool, aop, V]
       (try simp (disch := omega) only [wrap64])
       first
         | exact hK
         | (refine ⟨_, by assumption, ?_⟩; (try simp only [aG, aF, bE, aU, bD, aS, bH, aV, List.append_nil, List.nil_append, List.cons_append, List.length_cons, List.length_nil, Nat.add_zero, Nat.zero_add, Nat.reduceAdd]); exact hK)
         | (refine ⟨?_, hK⟩; omega)
         | (refine ⟨?_, ?_, hK⟩ <;> omega)
         | (refine ⟨?_, ?_, ?_, hK⟩ <;> omega))) : Nx m P o s X := by
  unfold Nx; exact .inl (e X h)
theorem sm {P:Program} [aB P] {o:Oper} {s s':AS} {X:AS→Prop} {H:Prop} (e:∀K:AS→Prop,H→K s'→nK P o s K:=by
 intro K hc hK
 refine aQa ?_
 simp [-Bool.exists_bool,uF,W]
 refine ⟨_,_,hc,?_⟩
 simp [-Bool.exists_bool,AS.mutated,tQ,aA.aged,aA.forget,pR,rH,Go.Aw.mt,Go.Aw.mtc,W]
 exact hK) (hc:H) (h:X s'):Nx 1 P o s X:=by
 unfold Nx;exact .inr (.inl ⟨rfl,.inl (e X hc h)⟩)
theorem sg {P:Program} [aB P] {o:Oper} {s s':AS} {X:AS→Prop} {H:Prop} (e:∀K:AS→Prop,H→K s'→nK P o s K:=by
 intro K hc hK
 refine aV3 ?_
 simp [-Bool.exists_bool,aBc,W]
 refine ⟨_,_,hc,?_⟩
 simp [-Bool.exists_bool,takes,handed,aO9,aBx,rowOf,uses,dI,away,yK,dC,eT,res,fD,AV.isObj,AS.given,oZ,lH,oO,aA.gaged,aA.forget,rt,rtc,rtr,dU,AV.kept,W]
 exact hK) (hc:H) (h:X s'):Nx 1 P o s X:=by
 unfold Nx;exact .inr (.inl ⟨rfl,.inl (e X hc h)⟩)
theorem sz {P:Program} [aB P] {o:Oper} {s s':AS} {X:AS→Prop} (h:X s') (e:∀K:AS→Prop,K s'→nK P o s K:=by
 intro K hK
 refine aV6 ?_
 simp [-Bool.exists_bool,aR3,aop,rtr,rtc,rt,aA.kill,W]
 exact hK):Nx 1 P o s X:=by
 unfold Nx;exact .inr (.inl ⟨rfl,.inl (e X h)⟩)
theorem sw {P:Program} [aB P] {o:Oper} {s s1:AS} {X:AS→Prop} (hw:dV s s1) (h:Nx 1 P o s1 X):Nx 1 P o s X:=by
 unfold Nx at h⊢
 rcases h with h|h
 ·exact .inr (.inl ⟨rfl,.inl (aQz hw (.inl h))⟩)
 ·rcases h with h|h
  ·rcases h.2 with h2|⟨s2,hw2,h2⟩
   ·exact .inr (.inl ⟨rfl,.inl (aQz hw (.inr h2))⟩)
   ·exact .inr (.inl ⟨rfl,.inr ⟨s2,hw.trans hw2,h2⟩⟩)
  ·exact absurd h.1 (by decide)
theorem sb {P:Program} [aB P] {o:Oper} {s s':AS} {X:AS→Prop} (h:X s') (e:∀K:AS→Prop,K s'→nK P o s K:=by
 intro K hK
 refine aQa ?_
 simp [-Bool.exists_bool,uF,AS.made,W]
 first
  |exact hK
  |(refine ⟨?_,hK⟩;omega)):Nx 1 P o s X:=by
 unfold Nx;exact .inr (.inl ⟨rfl,.inl (e X h)⟩)
theorem se {P:Program} [aB P] {o:Oper} {s s':AS} {X:AS→Prop} (h:X s') (e:∀K:AS→Prop,K s'→wR P o s K:=by
 intro K hK
 simp [wR]
 exact hK):Nx 2 P o s X:=by
 unfold Nx;exact .inr (.inr ⟨rfl,e X h⟩)
theorem sc {P:Program} [aB P] {c:Operand} {x y:Code} {s:AS} {Q:Exit→AS→Prop} {b:Bool} {p1 p2:Prop} (h1:p1→awp P x s Q) (h2:p2→awp P y s Q) (hc:s.ev c= .bool b:=by rfl)
  (e1:b=true→p1:=by
   intro h
   first|(refine (?_:False);simp at h;done)|(refine (?_:False);(try simp at h);omega;done)|(simp at h;exact h)|exact h)
  (e2:b=false→p2:=by
   intro h
   first|(refine (?_:False);simp at h;done)|(refine (?_:False);(try simp at h);omega;done)|(simp at h;exact h)|exact h):awp P (.cond c x y) s Q:=
 aSl hc (fun h=>h1 (e1 h)) (fun h=>h2 (e2 h))
theorem sp {P:Program} [aB P] {all r:List Oper} {o:Oper} {s:AS} {K:AS→Prop} {j d:Nat} {want b:Bool} {s1 s2:AS} {p1 p2:Prop} (h1:p1→bP P all (o::r) s1 K) (h2:p2→bP P all (o::r) s2 K) (hg:o.guard=some (j,want):=by rfl) (hd:(all[j]?).bind (·.dst)=some d:=by rfl) (hb:s.t[d]? =some (.bool b):=by rfl) (hx:(b=true)=(b=true):=by (fail_if_success (with_reducible refine Eq.refl (true=true)));(fail_if_success (with_reducible refine Eq.refl (false=true)));rfl)
  (e1:∀K':AS→Prop,K' s1→K' ⟨s.t.set d (.bool true),s.o⟩:=by intro K' hK';(try simp only [List.set_cons_succ,List.set_cons_zero]);exact hK')
  (e2:∀K':AS→Prop,K' s2→K' ⟨s.t.set d (.bool false),s.o⟩:=by intro K' hK';(try simp only [List.set_cons_succ,List.set_cons_zero]);exact hK')
  (e3:b=true→p1:=by
   intro h
   first|(refine (?_:False);simp at h;done)|(refine (?_:False);(try simp at h);omega;done)|(simp at h;exact h)|exact h)
  (e4:b=false→p2:=by
   intro h
   first|(refine (?_:False);simp at h;done)|(refine (?_:False);(try simp at h);omega;done)|(simp at h;exact h)|exact h):bP P all (o::r) s K:=
 aOl hg hd hb (fun h=>e1 (fun s=>bP P all (o::r) s K) (h1 (e3 h))) (fun h=>e2 (fun s=>bP P all (o::r) s K) (h2 (e4 h)))
theorem nx {m:Nat} {P:Program} [aB P] {o:Oper} {s:AS} {X:AS→Prop} (h:Nx m P o s X):Nx m P o s X:=h
theorem cx {P:Program} [aB P] {c:Operand} {x y:Code} {s:AS} {Q:Exit→AS→Prop} (h:awp P (.cond c x y) s Q):awp P (.cond c x y) s Q:=h
theorem lx {P:Program} [aB P] {all r:List Oper} {o:Oper} {s:AS} {K:AS→Prop} (h:bP P all (o::r) s K):bP P all (o::r) s K:=h
theorem ent {P:Program} [aB P] (hm:P.follows .mixedOrders=true) {f:FuncId} {fn:Func} {c:Code} (hf:P.funcs[f]? =some fn) {n:Nat} (hn:fn.ntmps=n) {args t:List AV} {rr:AV}
  (h:awp P c ⟨t,[]⟩ (fun e s=>(e= .normal∨e= .ret)∧Hands P fn s rr)) (hb:fn.body=some c:=by rfl)
  (ht:args++List.replicate (n - args.length) .undef=t:=by
   simp only [List.length_cons,List.length_nil,Nat.reduceSub,Nat.reduceAdd,List.replicate_succ,List.replicate_zero,List.cons_append,List.nil_append];rfl):Ok P f args rr:=by
 subst ht;subst hn;exact aPr hm hf hb h
attribute [simp] bytesOf
end Go.Aw

namespace Go.Aw
end Go.Aw

namespace Go.Aw
section
variable {P : Program} {p q : List Nat} {l : List Oper} {Q : Exit → Act → World → Prop}
structure aZd (p q : List Nat) (n : Nat) : Prop where
  pl : p.length = n
  ql : q.length = n
  pq : ∀ k, k < n → p.getD k n < n ∧ q.getD (p.getD k n) n = k
  qp : ∀ i, i < n → q.getD i n < n ∧ p.getD (q.getD i n) n = i
end
end Go.Aw

namespace Go.Aw
theorem aS5 {P:Program} {o:Oper} {a:Act} {w:World} {K:Act→World→Prop} {Q Q':Exit→Act→World→Prop} (hq:∀e a w,Q e a w→Q' e a w) (h:o.wp P a w K Q):o.wp P a w K Q':=by
 unfold Oper.wp at *
 generalize (execOp a.eval o).run P w=r at *
 cases r with
 |ok n w'=>
  cases n<;>simp only [Oper.upon] at h⊢ <;>
   first
    |exact h
    |exact Calls.mono h (fun e w'' he=>by cases e<;>first|exact he|exact hq _ _ _ he|(obtain ⟨a1,w1,h1⟩:=he;exact ⟨a1,w1,hq _ _ _ h1⟩))
    |exact Rows.mono h (fun _ _ he=>he)
 |halt x w'=>cases x<;>simp only [Oper.upon] at h⊢ <;>first|exact h|exact hq _ _ _ h
theorem aGi {P:Program} {md:Region.Mode} {ops:Array Oper} {Q Q':Exit→Act→World→Prop} (hq:∀e a w,Q e a w→Q' e a w):∀(n:Nat) (listed:Array Bool) (a:Act) (w:World),wpAny P md ops Q n listed a w→wpAny P md ops Q' n listed a w
 |0,_,a,w,h=>⟨h.1,hq _ _ _ h.2⟩
 |n+1,listed,a,w,h=>by
  refine ⟨fun e=>hq _ _ _ (h.1 e),fun i hi=> ?_⟩
  have h1:=wpOp_mono (fun a' w' h'=>aGi hq n _ a' w' h') (h.2 i hi)
  unfold wpOp at h1⊢
  split
  ·rename_i ho;simpa [ho] using h1
  ·rename_i o ho
   simp only [ho] at h1
   split
   ·rename_i hw
    simp only [hw,if_true] at h1
    exact h1.imp (aS5 hq) fun ⟨h2,a,w,h3⟩=>⟨h2,a,w,hq _ _ _ h3⟩
   ·rename_i hw;simp only [hw] at h1;exact h1
def aQg (P:Program) [aB P] (o:Oper) (s s':AS):Prop:=
 o.guard=none∧match o.op with
 | .move x=>s.put o.dst (s.ev x)=s'
 | .assign x=>s.put o.dst (s.ev x)=s'
 | .fieldAddr t x f=>∃i ver idx off fo ob,s.ev x= .ptr i ver idx off∧AV.isObj s.o i ver=some ob∧fieldA P t f=some fo∧s.put o.dst (.ptr i ver idx (off+fo))=s'
 | .binOp op t x y _=>∃k m n z,s.ev x= .int k m∧s.ev y= .int k n∧op= .add∧vN .add k m n=some z∧s.put o.dst z=s'
 |_=>False
theorem aLz {P:Program} [aB P] {B:Base P} {o:Oper} {s s':AS} (h:aQg P o s s') {a:Act} {w:World} (hr:Rel B s a w):∃v,(∀w',(execOp a.eval o).run P w'= .ok (.value v) w')∧Rel B s' (a.put o.dst v) w:=by
 obtain ⟨dst,op,ty,pos,after,gd⟩:=o
 obtain ⟨G,r⟩:=hr
 obtain ⟨hgd,h⟩:=h
 clear hgd
 dsimp only at h
 split at h
 ·rename_i x
  subst h
  exact ⟨a.eval x,fun w'=>by simp [execOp],G,r.put dst (r.ev x)⟩
 ·rename_i x
  subst h
  exact ⟨a.eval x,fun w'=>by simp [execOp],G,r.put dst (r.ev x)⟩
 ·rename_i t x f
  obtain ⟨i,ver,idx,off,fo,ob,hx,ho,hf,rfl⟩:=h
  obtain ⟨g,b,k,hl,hlive,ha,hv⟩:=r.ptr hx ho
  refine ⟨.pointer (some ⟨b,k+(idx * ob.n+(off+fo)),none⟩),fun w'=> ?_,G,r.put dst ?_⟩
  ·simp only [execOp,hv]
   simp [xH hf,Nat.add_assoc]
  ·simp only [R]
   obtain ⟨h1,h2,h3⟩:=dW ho
   refine ⟨trivial,ob,g,hl,Nat.le_of_eq h3.symm,fun _ _=>⟨b,k,ha,rfl⟩,fun e1 e2 e3 e4 y hy=> ?_⟩
   have h0:off=0:=by omega
   have h0':fo=0:=by omega
   have:=r.pin hx ho hl e1 e2 e3 h0 y hy
   exact ⟨by rw [←this.1,hv,h0,h0'],this.2⟩
 ·rename_i op t x y t2
  obtain ⟨k,m,n,z,hx,hy,rfl,hz,rfl⟩:=h
  have hv:=r.intv hx
  have hv2:=r.intv hy
  simp only [vN] at hz
  obtain rfl:=Option.some.inj hz
  exact ⟨_,fun w'=>by simp [execOp,hv,hv2,eqGuard_at_int,binOp,Op.intArith,Op.intCmp];rfl,G,r.put dst (by simp [R])⟩
 ·exact h.elim
def nG (P:Program) [aB P] (l:List Oper) (K:AS→Prop):Nat→List Bool→AS→Prop
 |0,_,s=>K s
 |n+1,d,s=>(∃i op s',l[i]? =some op∧(mU l d).contains i=true∧Region.free .any l.toArray d.toArray i=true∧aQg P op s s'∧nG P l K n (d.set i true) s')∨
   (∀i∈mU l d,∃op,l[i]? =some op∧bP P l [op] s fun s'=>nG P l K n (d.set i true) s')
theorem aFy {P:Program} [aB P] {B:Base P} {ops:Array Oper} {K:AS→Prop} {Q:Exit→Act→World→Prop} (hfw:nW ops.toList=true) (hns:Region.noSelect ops=true) (hk:∀a' w' s',K s'→Rel B s' a' w'→Q .normal a' w') (hp:∀c a w,¬Q (.panic c) a w):
  ∀(n:Nat) (d:List Bool) (listed:Array Bool) (s:AS) (a:Act) (w:World),listed.toList=d→listed.size=ops.size→left d=n→nG P ops.toList K n d s→Rel B s a w→wpAny P .any ops Q n listed a w
 |0,d,listed,s,a,w,hd,hl,hn,h,r=>by
  simp only [nG] at h
  refine ⟨?_,hk _ _ _ h r⟩
  rw [List.eq_nil_iff_forall_not_mem]
  intro i hi
  obtain ⟨op,hop,h1,_⟩:=(mem_ready hl).1 hi
  have hio:=(List.getElem?_eq_some_iff.1 hop).1
  have hi':i < listed.size:=by simp at hio;omega
  have:=wD (l:=d) hn (i:=i) (b:=listed[i]) (by rw [←hd];simp [hi'])
  rw [Array.getD_eq_getD_getElem?,Array.getElem?_eq_getElem hi'] at h1
  simp [this] at h1
 |n+1,d,listed,s,a,w,hd,hl,hn,h,r=>by
  have hget:∀j,d.getD j false=listed.getD j false:=fun j=>by rw [←hd,List.getD_eq_getElem?_getD,Array.getD_eq_getD_getElem?];simp
  have down:∀i,i < listed.size→listed.getD i false=false→left (d.set i true)=n:=fun i hil h1=>by
   have hdi:d[i]? =some false:=by
    have h3:=hget i
    rw [h1,List.getD_eq_getElem?_getD] at h3
    have hid:i < d.length:=by rw [←hd];simpa using hil
    rw [List.getElem?_eq_getElem hid] at h3⊢
    simpa using h3
   have:=uR hdi
   omega
  simp only [nG] at h
  rcases h with ⟨i,op,s',hop,hir,hfree,he,h'⟩|h
  ·have hio:=(List.getElem?_eq_some_iff.1 hop).1
   have hil:i < listed.size:=by simp at hio;omega
   have hir':i∈mU ops.toList d:=by simpa using hir
   unfold mU at hir'
   rw [List.mem_filter] at hir'
   obtain ⟨_,hir'⟩:=hir'
   have hpa:dM ops.toList i=pre op:=by simp [dM,hop]
   simp only [Bool.and_eq_true,Bool.not_eq_true',hpa,List.all_eq_true,hget] at hir'
   have hrdy:i∈Region.ready .any ops listed:=(mem_ready hl).2 ⟨op,hop,hir'.1,hir'.2⟩
   obtain ⟨v,hv,hr'⟩:=aLz he r
   have hopa:ops[i]? =some op:=by simpa using hop
   have hdl:d.toArray=listed:=by rw [←hd]
   rw [hdl] at hfree
   exact wpAny_take hopa hns hfree (by simpa using hrdy) (fun c a w h=>absurd h (hp c _ _)) (.inl ⟨by simp [Region.wanted,he.1],hv⟩)
    (aFy hfw hns hk hp n (d.set i true) _ s' _ w (by rw [Array.toList_setIfInBounds,hd]) (by simpa using hl) (down i hil hir'.1) h' hr')
  ·constructor
   ·intro hnil
    exfalso
    obtain ⟨i,h1,h2⟩:=zA (l:=d) (by omega)
    have hi:i < listed.size:=by have:=(List.getElem?_eq_some_iff.1 h1).1;rw [←hd] at this;simpa using this
    have hio:i < ops.toList.length:=by simp;omega
    have hop:=List.getElem?_eq_getElem hio
    have:i∈Region.ready .any ops listed:=(mem_ready hl).2 ⟨_,hop,by rw [←hget,List.getD_eq_getElem?_getD,h1];rfl,fun e he=>by
     have:=h2 e (tH hfw hop e he)
     rw [←hget,List.getD_eq_getElem?_getD,this];rfl⟩
    rw [hnil] at this;cases this
   ·intro i hi
    obtain ⟨op,hop,h1,h2⟩:=(mem_ready hl).1 hi
    have hio:=(List.getElem?_eq_some_iff.1 hop).1
    have hir:i∈mU ops.toList d:=by
     unfold mU
     rw [List.mem_filter]
     refine ⟨by simpa using hio,?_⟩
     have hp:dM ops.toList i=pre op:=by simp [dM,hop]
     rw [hget,h1,hp]
     simp only [Bool.not_false,Bool.true_and,List.all_eq_true]
     exact fun e he=>by rw [hget];exact h2 e he
    obtain ⟨op',hop',hst⟩:=h i hir
    rw [hop] at hop'
    obtain rfl:=Option.some.inj hop'
    unfold wpOp
    have hopa:ops[i]? =some op:=by simpa using hop
    rw [hopa]
    have hil:i < listed.size:=by simp at hio;omega
    have:=wJ hst r (Kc:=wpAny P .any ops Q n (listed.setIfInBounds i true)) (Q:=Q) (fun a' w' s' h' r'=>by
     simp only [bP] at h'
     exact aFy hfw hns hk hp n (d.set i true) _ s' a' w' (by rw [Array.toList_setIfInBounds,hd]) (by simpa using hl) (down i hil h1) h' r')
    simpa using this
theorem aO2:∀n,left (List.replicate n false)=n:=by
 intro n
 have:=uI (List.replicate n false) 0 (fun j=>by rw [List.getD_eq_getElem?_getD,List.getElem?_replicate];split<;>simp) (Nat.zero_le _)
 simpa using this
theorem aQ1 {P:Program} [aB P] {id:Nat} {l:List Oper} {s:AS} {Q:Exit→AS→Prop} (K1:AS→Prop) (hfw:nW l=true) (hns:Region.noSelect l.toArray=true) (h:nG P l K1 l.length (List.replicate l.length false) s) (hk:∀s',K1 s'→Q .normal s'):awp P (.region id l.toArray true) s Q:=by
 unfold awp
 intro B a w Q0 ⟨G,r⟩ hq
 have r2:Rel B s a {w with drawn:=w.drawn+1}:=⟨G,{len:=r.len,defs:=r.defs,ok:=fun i ob g hl hlive=>(r.ok i ob g hl hlive).keeps (w':={w with drawn:=w.drawn+1}) ⟨fun b h=>⟨h,rfl⟩,fun _ h=>h,fun _ _ _ h=>⟨h,rfl⟩,fun _ _ _ h=>h,fun _ _ _ _ _ h=>h⟩ (fun _ _=>rfl),apart:=r.apart,fresh:=r.fresh,tmps:=bW (w:=w) (E:=env B s.o G w) (w':={w with drawn:=w.drawn+1}) (E':=env B s.o G {w with drawn:=w.drawn+1}) ⟨fun b h=>⟨h,rfl⟩,fun _ h=>h,fun _ _ _ h=>⟨h,rfl⟩,fun _ _ _ h=>h,fun _ _ _ _ _ h=>h⟩ _ _ _ (by simp) r.tmps,size:=r.size,frame:=r.frame,base:=r.base,same:=r.same.trans ⟨rfl,rfl,rfl⟩}⟩
 refine aGi (Q:=fun e a w=>e= .normal∧Q0 .normal a w) (fun e a w h=>h.1▸h.2) _ _ _ _ ?_
 have:=aFy (ops:=l.toArray) (B:=B) (K:=K1) (Q:=fun e a w=>e= .normal∧Q0 .normal a w) (by simpa using hfw) hns (fun a' w' s' h1 h2=>⟨rfl,hq a' w' s' (hk s' h1) h2⟩) (fun c a w h=>by cases h.1) l.length (List.replicate l.length false) (Array.replicate l.length false) s a _ (by simp) (by simp) (aO2 _) (by simpa using h) r2
 simpa using this
theorem aSh {t:List AV} {o:List aA} {s':AS} (i ver:Nat) {ob:aA} (hob:AV.isObj o i ver=some ob) (hbx:ob.box=false) (e:(⟨t,o⟩:AS).frozen i ver ob=s'):dV ⟨t,o⟩ s':=by
 rw [←e];exact fun _ _ B a w r=>aFo hob hbx r
theorem aRb {t t':List AV} {o o':List aA} (i ver m:Nat) {ob:aA} (hob:AV.isObj o i ver=some ob) (hbx:ob.box=false) (ho:(gU i ver (.sl .view ob.n (rtr (fun _=>some .view) false ob.els)) 0 o).take m=o')
  (h:wk (iA i ver (.sl .view ob.n (rtr (fun _=>some .view) false ob.els)) t) t') (hc:gL m t'=true) (hb:jK m o'=true):dV ⟨t,o⟩ ⟨t',o'⟩:=
 dV.trans (aSh i ver hob hbx rfl) (aO m ho h hc hb)
section
variable {P : Program} [aB P] {l : List Oper} {K : AS → Prop} {n : Nat} {d d' : List Bool} {s s' : AS} {dst : Option Tmp} {ty : TypeId} {pos : String} {after : Array Edge} {x y : Operand}
def vX (P:Program) [aB P] (l:List Oper) (K:AS→Prop) (n:Nat) (d:List Bool) (s:AS):List Nat→Prop
 |[]=>True
 |i::r=>(∃op,l[i]? =some op∧bP P l [op] s fun s'=>nG P l K n (d.set i true) s')∧vX P l K n d s r
theorem aHh:∀{r:List Nat},vX P l K n d s r→∀i∈r,∃op,l[i]? =some op∧bP P l [op] s fun s'=>nG P l K n (d.set i true) s'
 |[],_,i,hi=>by cases hi
 |j::r,h,i,hi=>by
  simp only [vX] at h
  rcases List.mem_cons.1 hi with rfl|hi
  ·exact h.1
  ·exact aHh h.2 i hi
theorem aXr (h:K s):nG P l K 0 d s:=by simpa only [nG] using h
theorem aXv {rl:List Nat} (hr:vQ d 0 l=rl) (h:vX P l K n d s rl):nG P l K (n+1) d s:=by
 simp only [nG]
 refine .inr fun i hi=>aHh h i ?_
 rw [←hr,tK]
 unfold mU at hi
 rw [List.mem_filter] at hi
 obtain ⟨h1,h2⟩:=hi
 have hlt:i < l.length:=by simpa using h1
 have hop:=List.getElem?_eq_getElem hlt
 have hp:dM l i=pre l[i]:=by simp [dM,hop]
 exact ⟨i,l[i],hop,by omega,by rw [←hp];exact h2⟩
theorem aX5 {i:Nat} {op:Oper} (hop:l[i]? =some op) (hd:d.set i true=d') (h:bP P l [op] s fun s'=>nG P l K n d' s'):vX P l K n d s [i]:=by
 subst hd
 exact ⟨⟨op,hop,h⟩,trivial⟩
theorem aXo {i j:Nat} {r:List Nat} (h1:vX P l K n d s [i]) (h2:vX P l K n d s (j::r)):vX P l K n d s (i::j::r):=⟨h1.1,h2⟩
theorem aY4 (i:Nat) (hop:l[i]? =some ⟨dst,.move x,ty,pos,after,none⟩) (hr:(mU l d).contains i=true) (hf:Region.free .any l.toArray d.toArray i=true) (hd:d.set i true=d') (hs:s.put dst (s.ev x)=s') (h:nG P l K n d' s'):nG P l K (n+1) d s:=by
 subst hd
 simp only [nG]
 exact .inl ⟨i,_,s',hop,hr,hf,⟨rfl,hs⟩,h⟩
end
end Go.Aw

namespace Go.Aw
def AS.rvB (P:Program) (s:AS):List ResultVar→Option (Nat×List AV)
 | .cell t ty::xs=>match s.t.getD t .undef with
  | .ptr i ver idx off=>match s.at i ver idx with
   |some (ob,e)=>match aggSize P ty with
    |some n=>if ob.box=true∧off+n≤e.length then (match s.rvs P xs with
     |some ys=>some (i,.agg ((e.drop off).take n)::ys)
     |none=>none) else none
    |none=>none
   |none=>none
  |_=>none
 |_=>none
theorem aRh {P:Program} [aB P] {B:Base P} {s:AS} {G:List CO} {a:Act} {w:World} (r:aR B s G a w) {t:Tmp} {ty:TypeId} {i ver idx off n:Nat} {ob:aA} {e:List AV}
  (hx:s.t.getD t .undef= .ptr i ver idx off) (ha:s.at i ver idx=some (ob,e)) (hbox:ob.box=true) (hn:aggSize P ty=some n) (hfit:off+n≤e.length):
  ∃v fp g,look s.o G i ob g∧ob.live=true∧(uD a (.cell t ty)).run P w= .ok v w∧R w (env B s.o G w) (.agg ((e.drop off).take n)) v fp∧fp.Nodup∧∀b∈fp,g.F b:=by
 obtain ⟨ho,he⟩:=uN ha
 obtain ⟨g,b,f,hl,hlive,hga,hv⟩:=r.ptr (x:= .tmp t) hx ho
 obtain ⟨fp0,⟨_,hown⟩,hnd,hF⟩:=r.ok i ob g hl hlive
 simp only [hbox,Env.of,if_true] at hown
 rcases hown with ⟨h5,_⟩|⟨b',f',C,tyc,fz,fps,ha',hbk,hz,k1,k2,k3,rfl,hr⟩
 ·rw [h5] at he;simp at he
 rw [hga] at ha'
 simp only [Option.some.injEq,Addr.mk.injEq,and_true] at ha'
 obtain ⟨rfl,rfl⟩:=ha'
 obtain ⟨f1,f2,f3,cs,rfl,hcn,hc,hone,hrc,_,_⟩:=oM hr he
 have hle:=dB hrc
 simp only [Act.eval] at hv
 obtain ⟨g1,g2,rfl,_,hc2⟩:=jP off hrc
 obtain ⟨g3,g4,rfl,hc3,_⟩:=jP n hc2
 have hsub:∀x∈g3,x∈f1++(g1++(g3++g4))++f3:=fun x hx=>by simp [hx]
 refine ⟨.agg ((cs.drop off).take n).toArray,g3,g,hl,hlive,?_,by simp only [R];exact ⟨_,rfl,wI hone,hc3⟩,?_,fun x hx=>hF x (List.mem_cons_of_mem _ (hsub x hx))⟩
 ·have:=lI (P:=P) (t:=ty) (k:=off) (n:=n) (cs:=cs) hn (by omega) hc
  simp only [Instr.loadAt,Instr.sureAddr,pure_bind] at this
  simp [uD,hv,asAddr,←Nat.add_assoc,this]
 ·simp only [List.nodup_cons] at hnd
  have h1:=(List.nodup_append.1 hnd.2).1
  have h2:=(List.nodup_append.1 h1).2.1
  have h3:=(List.nodup_append.1 h2).2.1
  exact (List.nodup_append.1 h3).1
theorem aSb {P:Program} {s:AS} {l:List ResultVar} {i:Nat} {ys:List AV} (h:s.rvB P l=some (i,ys)):
  ∃t ty xs ver idx off ob e n zs,l= .cell t ty::xs∧s.t.getD t .undef= .ptr i ver idx off∧s.at i ver idx=some (ob,e)∧aggSize P ty=some n∧ob.box=true∧off+n≤e.length∧s.rvs P xs=some zs∧ys= .agg ((e.drop off).take n)::zs:=by
 unfold AS.rvB at h
 split at h
 ·split at h
  ·rename_i i' ver idx off hx
   split at h
   ·rename_i ob e ha
    split at h
    ·rename_i n hn
     split at h
     ·rename_i hc
      split at h
      ·rename_i zs hzs
       simp only [Option.some.injEq,Prod.mk.injEq] at h
       obtain ⟨rfl,rfl⟩:=h
       exact ⟨_,_,_,_,_,_,_,_,_,_,rfl,hx,ha,hn,hc.1,hc.2,hzs,rfl⟩
      ·cases h
     ·cases h
    ·cases h
   ·cases h
  ·cases h
 ·cases h
theorem uY {P:Program} [aB P] {B:Base P} {s:AS} {G:List CO} {a:Act} {w:World} (r:aR B s G a w) {fn:Func} {i:Nat} {ys:List AV} (h:s.rvB P fn.results.toList=some (i,ys)):
  ∃v fp ob g,look s.o G i ob g∧ob.live=true∧(results fn a.tmps).run P w= .ok v w∧R w (env B s.o G w) (single ys) v fp∧fp.Nodup∧∀b∈fp,g.F b:=by
 obtain ⟨t,ty,xs,ver,idx,off,ob,e,n,zs,hres,hx,ha,hn,hbox,hfit,hzs,rfl⟩:=aSb h
 obtain ⟨v0,fp,g,hl,hlive,hrun0,hR0,hnd,hF⟩:=aRh r hx ha hbox hn hfit
 obtain ⟨vs,h1,h2⟩:=aFw r hzs
 have hl2:=dB h2
 have hm:(fn.results.mapM (m:=Sem) (uD a)).run P w= .ok (v0::vs).toArray w:=by
  rw [Array.mapM_eq_mapM_toList,hres]
  simp only [Sem.run_map,List.mapM_cons,Sem.run_bind]
  rw [hrun0]
  simp only [Result.andThen_ok]
  rw [h1]
  simp
 rw [aEi]
 simp only [Sem.run_bind]
 rw [hm]
 simp only [Result.andThen_ok,Sem.run_pure]
 match zs,vs,hl2,h2 with
 |[],[],_,h2=>exact ⟨v0,fp,ob,g,hl,hlive,by simp,hR0,hnd,hF⟩
 |z::zs,v1::vs,_,h2=>exact ⟨.tuple (v0::v1::vs).toArray,fp,ob,g,hl,hlive,by simp,by simp only [single];rw [R];exact ⟨_,rfl,by rw [Rc];exact ⟨fp,[],hR0,h2,by simp⟩⟩,hnd,hF⟩
end Go.Aw
