/-
  Proved here: a region whose order of evaluation is open is walked as if its order were given.
  No condition beyond what each statement spells out.
-/
import Derived.Test.YtaddkhdghlaalaaGreatDoorF3
import Derived.ProofKit
import Derived.Laws.StructEq
import Derived.DeepKeys
import Derived.KernelRfl
import Derived.Test.YtaddkhdghlaalaaGreatDoorF9
import Derived.Test.YtaddkhdghlaalaaGreatDoorF2
set_option linter.all false
namespace Go.Aw
def pre (op:Oper):List Nat:=(op.after.toList.filter fun e=>Region.binds .any e).map (·.on)
def Clo (l:List Oper) (J:Nat→Bool):Prop:=∀j op,l[j]? =some op→J j=true→∀e∈pre op,J e=true
theorem aWs {op:Oper} {n:Nat}:n∈pre op↔∃e∈op.after.toList,Region.binds .any e=true∧e.on=n:=by
 simp [pre,List.mem_map,List.mem_filter,and_assoc]
def lV (P:Program) [aB P] (l:List Oper) (op:Oper) (s:AS) (K:AS→Prop):Prop:=
 match op.guard with
 |none=>aop P op s K∨aDc P op s K
 |some (j,want)=>match kM l s j want with
  | .bool b=>(b=want→aop P op s K∨aDc P op s K)∧(b≠want→K (s.put op.dst (.tup [])))
  |_=>False
def iA (l:List Oper) (j:Nat):List Nat:=match l[j]? with|some o=>pre o|none=>[]
def reach (l:List Oper):Nat→List Nat→List Nat
 |0,acc=>acc
 |k+1,acc=>reach l k (if k∈acc then acc++iA l k else acc)
def xP (l:List Oper) (m:Nat):Bool:=
 decide (m≤l.length)&&((List.range (l.length - m)).all (fun d=>(iA l (m+d)).all (fun e=>decide (e < m+d))&&(d == 0 || decide (m+d - 1∈iA l (m+d))))&&
 (decide (l.length≤m) || (List.range m).all fun j=>decide (j∈reach l m (iA l m))))
theorem aFy {l:List Oper} {J:Nat→Bool} (hc:Clo l J):∀(k:Nat) (acc:List Nat),(∀e∈acc,J e=true)→∀e∈reach l k acc,J e=true
 |0,acc,h=>h
 |k+1,acc,h=>by
  simp only [reach]
  refine aFy hc k _ ?_
  split
  ·rename_i hk
   intro e he
   rcases List.mem_append.1 he with he|he
   ·exact h e he
   ·unfold iA at he
    split at he
    ·rename_i o ho;exact hc k o ho (h k hk) e he
    ·cases he
  ·exact h
theorem aQ9 {l:List Oper} {m j:Nat} {op:Oper} (ht:xP l m=true) (hm:m≤j) (hj:l[j]? =some op):(∀e∈pre op,e < j)∧(m < j→j - 1∈pre op):=by
 unfold xP at ht
 simp only [Bool.and_eq_true,List.all_eq_true] at ht
 have hlt:=(List.getElem?_eq_some_iff.1 hj).1
 have h:=ht.2.1 (j - m) (by simp;omega)
 have e:m+(j - m)=j:=by omega
 have hp:iA l j=pre op:=by simp [iA,hj]
 rw [e,hp] at h
 simp only [List.all_eq_true,decide_eq_true_eq,Bool.or_eq_true,beq_iff_eq] at h
 exact ⟨h.1,fun hlt=>h.2.resolve_left (by omega)⟩
theorem bCo {l:List Oper} {m:Nat} {op:Oper} {J:Nat→Bool} (ht:xP l m=true) (hm:l[m]? =some op) (hc:Clo l J) (hp:∀e∈pre op,J e=true):∀j,j < m→J j=true:=by
 intro j hj
 unfold xP at ht
 simp only [Bool.and_eq_true,Bool.or_eq_true,decide_eq_true_eq] at ht
 have hlt:=(List.getElem?_eq_some_iff.1 hm).1
 have h:=ht.2.2.resolve_left (by omega)
 rw [List.all_eq_true] at h
 have:=h j (by simpa using hj)
 simp only [decide_eq_true_eq] at this
 have hpa:iA l m=pre op:=by simp [iA,hm]
 rw [hpa] at this
 exact aFy hc m _ hp j this
theorem aSy {listed:Array Bool} {i:Nat} (h:i < listed.size):(!listed.getD i true)= !listed.getD i false:=by
 rw [Array.getD_eq_getD_getElem?,Array.getD_eq_getD_getElem?,Array.getElem?_eq_getElem h];rfl
theorem mem_ready {ops:Array Oper} {listed:Array Bool} (hl:listed.size=ops.size) {i:Nat}:i∈Region.ready .any ops listed↔∃op,ops.toList[i]? =some op∧listed.getD i false=false∧∀e∈pre op,listed.getD e false=true:=by
 unfold Region.ready
 rw [List.mem_filter]
 constructor
 ·rintro ⟨hi1,hi2⟩
  have hio:i < ops.size:=by simpa using hi1
  have hop:ops[i]? =some ops[i]:=by simp [hio]
  simp only [Bool.and_eq_true,hop,Option.map_some,Option.getD_some] at hi2
  obtain ⟨h1,h2⟩:=hi2
  rw [Array.all_eq_true'] at h2
  refine ⟨ops[i],by simp [hio],?_,fun n hn=> ?_⟩
  ·rw [aSy (by omega)] at h1;simpa using h1
  ·obtain ⟨e,he,hb,rfl⟩:=aWs.1 hn
   have:=h2 e (by simpa using he)
   simpa [hb] using this
 ·rintro ⟨op,hop,h1,h2⟩
  have hio:i < ops.size:=by have:=(List.getElem?_eq_some_iff.1 hop).1;simpa using this
  have hop':ops[i]? =some op:=by simpa using hop
  refine ⟨by simpa using hio,?_⟩
  simp only [Bool.and_eq_true,hop',Option.map_some,Option.getD_some]
  refine ⟨by rw [aSy (by omega)];simp [h1],?_⟩
  rw [Array.all_eq_true']
  intro e he
  cases hb:Region.binds .any e with
  |false=>simp
  |true=>
   have:=h2 e.on (aWs.2 ⟨e,by simpa using he,hb,rfl⟩)
   simp [this]
theorem aRv {P:Program} [aB P] {B:Base P} {l:List Oper} {op:Oper} {s:AS} {K:AS→Prop} (h:lV P l op s K) {a:Act} {w:World} (r:Rel B s a w) {Kc:Act→World→Prop} {Q:Exit→Act→World→Prop} (hk:∀a' w' s',K s'→Rel B s' a' w'→Kc a' w'):
  if Region.wanted op (yielded l.toArray a.tmps) then op.wp P a w Kc Q∨(op.asks P a w∧LetsOut Q) else Kc (a.put op.dst undef) w:=by
 unfold lV at h
 split at h
 ·rename_i hg
  rw [if_pos (by simp [Region.wanted,hg])]
  obtain ⟨s',h',hst⟩:=h.elim (wG (B:=B)) (aLn (B:=B))
  exact .inl (hst a w _ Q r fun a' w' r'=>hk a' w' s' h' r')
 ·rename_i j want hg
  split at h
  ·rename_i b hb
   obtain ⟨G,r'⟩:=r
   have hy:=aJk r' hb
   by_cases hbw:b=want
   ·rw [if_pos (by simp [Region.wanted,hg,hy,hbw])]
    obtain ⟨s',h',hst⟩:=(h.1 hbw).elim (wG (B:=B)) (aLn (B:=B))
    exact .inl (hst a w _ Q ⟨G,r'⟩ fun a' w' r'=>hk a' w' s' h' r')
   ·rw [if_neg (by simp [Region.wanted,hg,hy,hbw])]
    exact hk _ _ _ (h.2 hbw) ⟨G,r'.put op.dst (aQu _ _)⟩
  ·exact h.elim
theorem aGg {P:Program} [aB P] {B:Base P} {all r:List Oper} {o:Oper} {s:AS} {K:AS→Prop} (h:dP P all (o::r) s K) {a:Act} {w:World} (rl:Rel B s a w) {Kc:Act→World→Prop} {Q:Exit→Act→World→Prop} (hk:∀a' w' s',dP P all r s' K→Rel B s' a' w'→Kc a' w'):
  if Region.wanted o (yielded all.toArray a.tmps) then o.wp P a w Kc Q∨(o.asks P a w∧LetsOut Q) else Kc (a.put o.dst undef) w:=by
 simp only [dP] at h
 have stepped:((aop P o s fun s'=>dP P all r s' K)∨(uH P o s fun s'=>dP P all r s' K)∨(zF P o s fun s'=>dP P all r s' K))→o.wp P a w Kc Q∨(o.asks P a w∧LetsOut Q):=by
  intro h
  by_cases hcu:zF P o s fun s'=>dP P all r s' K
  ·exact .inl (aI3 hcu a w _ Q rl fun a' w' s' h' r'=>hk a' w' s' h' r')
  have:∃s',dP P all r s' K∧Step P B o s s':=by
   rcases h with h|h|h
   ·exact wG (B:=B) h
   ·exact aLf (B:=B) h
   ·exact (hcu h).elim
  obtain ⟨s',h',hst⟩:=this
  exact .inl (hst a w _ Q rl fun a' w' r'=>hk a' w' s' h' r')
 split at h
 ·rename_i hg
  rw [if_pos (by simp [Region.wanted,hg])]
  exact stepped h
 ·rename_i j want hg
  split at h
  ·rename_i b hb
   have rl2:=rl
   obtain ⟨G,r'⟩:=rl2
   have hy:=aJk r' hb
   by_cases hbw:b=want
   ·rw [if_pos (by simp [Region.wanted,hg,hy,hbw])]
    exact stepped (h.1 hbw)
   ·rw [if_neg (by simp [Region.wanted,hg,hy,hbw])]
    exact hk _ _ _ (h.2 hbw) ⟨G,r'.put o.dst (aQu _ _)⟩
  ·exact h.elim
theorem aEp {listed:Array Bool} {i:Nat} (h:i < listed.size) (j:Nat):(listed.setIfInBounds i true).getD j false=upd (fun j=>listed.getD j false) i j:=by
 unfold upd
 simp only [Array.getD_eq_getD_getElem?,Array.getElem?_setIfInBounds]
 by_cases hj:j=i
 ·subst hj;simp [h]
 ·simp [hj,Ne.symm hj]
theorem aVt {P:Program} [aB P] {B:Base P} {ops:Array Oper} {m:Nat} {K:AS→Prop} {Q:Exit→Act→World→Prop} (ht:xP ops.toList m=true) (hk:∀a' w' s',K s'→Rel B s' a' w'→Q .normal a' w'):
  ∀(n k:Nat) (listed:Array Bool) (s:AS) (a:Act) (w:World),listed.size=ops.size→k+n=ops.size→m≤k→(∀j,listed.getD j false=decide (j < k))→dP P ops.toList (ops.toList.drop k) s K→Rel B s a w→wpAny P .any ops Q n listed a w
 |0,k,listed,s,a,w,hl,hn,hm,hj,h,r=>by
  have hdr:ops.toList.drop k=[]:=List.drop_of_length_le (by simp;omega)
  rw [hdr] at h
  simp only [dP] at h
  refine ⟨?_,hk _ _ _ h r⟩
  rw [List.eq_nil_iff_forall_not_mem]
  intro i hi
  obtain ⟨op,hop,h1,_⟩:=(mem_ready hl).1 hi
  have hio:=(List.getElem?_eq_some_iff.1 hop).1
  rw [hj] at h1
  simp at h1 hio
  omega
 |n+1,k,listed,s,a,w,hl,hn,hm,hj,h,r=>by
  have hkl:k < ops.toList.length:=by simp;omega
  have hop:ops.toList[k]? =some ops.toList[k]:=List.getElem?_eq_getElem hkl
  have hpre:=aQ9 ht hm hop
  constructor
  ·intro hnil
   exfalso
   have:k∈Region.ready .any ops listed:=(mem_ready hl).2 ⟨_,hop,by rw [hj];simp,fun e he=>by rw [hj];simpa using hpre.1 e he⟩
   rw [hnil] at this;cases this
  ·intro i hi
   obtain ⟨op,hopi,h1,h2⟩:=(mem_ready hl).1 hi
   rw [hj] at h1
   have hki:k≤i:=by simpa using h1
   have hik:i=k:=by
    rcases Nat.lt_or_ge k i with hlt|hge
    ·exfalso
     have:=h2 _ ((aQ9 ht (by omega) hopi).2 (by omega))
     rw [hj] at this
     simp at this
     omega
    ·omega
   subst hik
   rw [hop] at hopi
   obtain rfl:=Option.some.inj hopi
   rw [List.drop_eq_getElem_cons hkl] at h
   unfold wpOp
   have hopa:ops[i]? =some ops.toList[i]:=by simpa using hop
   rw [hopa]
   have:=aGg h r (Kc:=wpAny P .any ops Q n (listed.setIfInBounds i true)) (Q:=Q) (fun a' w' s' h' r'=>
    aVt ht hk n (i+1) _ s' a' w' (by simpa using hl) (by omega) (by omega) (fun j=>by
     rw [aEp (by simpa [hl] using hkl)]
     unfold upd
     by_cases hji:j=i
     ·subst hji;simp
     ·rw [if_neg hji]
      show listed.getD j false=_
      rw [hj]
      have:(j < i)↔(j < i+1):=by omega
      simp [this]) h' r')
   simpa using this
def aLr (l:List Oper) (d:List Bool):List Nat:=(List.range l.length).filter fun i=> !d.getD i false&&(iA l i).all fun e=>d.getD e false
mutual
def nW (P : Program) [aB P] (l : List Oper) (K : AS → Prop) : Nat → List Bool → AS → Prop
  | 0, _, s => K s
  | n + 1, d, s => nR P l K n d s (aLr l d)
def nR (P : Program) [aB P] (l : List Oper) (K : AS → Prop) : Nat → List Bool → AS → List Nat → Prop
  | _, _, _, [] => True
  | n, d, s, i :: r => (∃ op, l[i]? = some op ∧ dP P l [op] s fun s' => nW P l K n (d.set i true) s') ∧ nR P l K n d s r
end
theorem aF6 {P:Program} [aB P] {l:List Oper} {K:AS→Prop} {n:Nat} {d:List Bool} {s:AS}:∀{r:List Nat},nR P l K n d s r→∀i∈r,∃op,l[i]? =some op∧dP P l [op] s fun s'=>nW P l K n (d.set i true) s'
 |[],_,i,hi=>by cases hi
 |j::r,h,i,hi=>by
  simp only [nR] at h
  rcases List.mem_cons.1 hi with rfl|hi
  ·exact h.1
  ·exact aF6 h.2 i hi
def zM (l:List Oper):Bool:=(List.range l.length).all fun i=>(iA l i).all fun e=>decide (e < i)
theorem aCr {l:List Oper} (h:zM l=true) {i:Nat} {op:Oper} (hi:l[i]? =some op):∀e∈pre op,e < i:=by
 unfold zM at h
 rw [List.all_eq_true] at h
 have:=h i (by simp;exact (List.getElem?_eq_some_iff.1 hi).1)
 have hp:iA l i=pre op:=by simp [iA,hi]
 rw [hp,List.all_eq_true] at this
 exact fun e he=>by simpa using this e he
theorem aV5 {P:Program} [aB P] {B:Base P} {ops:Array Oper} {K:AS→Prop} {Q:Exit→Act→World→Prop} (hfw:zM ops.toList=true) (hk:∀a' w' s',K s'→Rel B s' a' w'→Q .normal a' w'):
  ∀(n:Nat) (d:List Bool) (listed:Array Bool) (s:AS) (a:Act) (w:World),listed.toList=d→listed.size=ops.size→left d=n→nW P ops.toList K n d s→Rel B s a w→wpAny P .any ops Q n listed a w
 |0,d,listed,s,a,w,hd,hl,hn,h,r=>by
  simp only [nW] at h
  refine ⟨?_,hk _ _ _ h r⟩
  rw [List.eq_nil_iff_forall_not_mem]
  intro i hi
  obtain ⟨op,hop,h1,_⟩:=(mem_ready hl).1 hi
  have hio:=(List.getElem?_eq_some_iff.1 hop).1
  have hi':i < listed.size:=by simp at hio;omega
  have:=aCu (l:=d) hn (i:=i) (b:=listed[i]) (by rw [←hd];simp [hi'])
  rw [Array.getD_eq_getD_getElem?,Array.getElem?_eq_getElem hi'] at h1
  simp [this] at h1
 |n+1,d,listed,s,a,w,hd,hl,hn,h,r=>by
  have hget:∀j,d.getD j false=listed.getD j false:=fun j=>by rw [←hd,List.getD_eq_getElem?_getD,Array.getD_eq_getD_getElem?];simp
  simp only [nW] at h
  constructor
  ·intro hnil
   exfalso
   obtain ⟨i,h1,h2⟩:=aD5 (l:=d) (by omega)
   have hi:i < listed.size:=by have:=(List.getElem?_eq_some_iff.1 h1).1;rw [←hd] at this;simpa using this
   have hio:i < ops.toList.length:=by simp;omega
   have hop:=List.getElem?_eq_getElem hio
   have:i∈Region.ready .any ops listed:=(mem_ready hl).2 ⟨_,hop,by rw [←hget,List.getD_eq_getElem?_getD,h1];rfl,fun e he=>by
    have:=h2 e (aCr hfw hop e he)
    rw [←hget,List.getD_eq_getElem?_getD,this];rfl⟩
   rw [hnil] at this;cases this
  ·intro i hi
   obtain ⟨op,hop,h1,h2⟩:=(mem_ready hl).1 hi
   have hio:=(List.getElem?_eq_some_iff.1 hop).1
   have hir:i∈aLr ops.toList d:=by
    unfold aLr
    rw [List.mem_filter]
    refine ⟨by simpa using hio,?_⟩
    have hp:iA ops.toList i=pre op:=by simp [iA,hop]
    rw [hget,h1,hp]
    simp only [Bool.not_false,Bool.true_and,List.all_eq_true]
    exact fun e he=>by rw [hget];exact h2 e he
   obtain ⟨op',hop',hst⟩:=aF6 h i hir
   rw [hop] at hop'
   obtain rfl:=Option.some.inj hop'
   unfold wpOp
   have hopa:ops[i]? =some op:=by simpa using hop
   rw [hopa]
   have hil:i < listed.size:=by simp at hio;omega
   have:=aGg hst r (Kc:=wpAny P .any ops Q n (listed.setIfInBounds i true)) (Q:=Q) (fun a' w' s' h' r'=>by
    simp only [dP] at h'
    refine aV5 hfw hk n (d.set i true) _ s' a' w' (by rw [Array.toList_setIfInBounds,hd]) (by simpa using hl) ?_ h' r'
    have hdi:d[i]? =some false:=by
     have h3:=hget i
     rw [h1,List.getD_eq_getElem?_getD] at h3
     have hid:i < d.length:=by rw [←hd];simpa using hil
     rw [List.getElem?_eq_getElem hid] at h3⊢
     simpa using h3
    have:=aBx hdi
    omega)
   simpa using this
def qO (l:List Oper) (m:Nat):Bool:=(List.range l.length).all fun i=>decide (i≤m) || (iA l i).any fun e=>decide (m≤e)
theorem aE8:∀(L:List Bool) (q:Nat),(∀j,L.getD j false=decide (j < q))→q≤L.length→left L+q=L.length
 |[],q,_,h=>by simp at h;simp [left,h]
 |b::L,q,hq,hle=>by
  have hb:=hq 0
  simp [List.getD] at hb
  rw [zP]
  cases q with
  |zero=>
   have hb':b=false:=by simpa using hb
   have:=aE8 L 0 (fun j=>by have:=hq (j+1);simpa [List.getD] using this) (by omega)
   rw [hb',if_neg (by simp)]
   simp;omega
  |succ q=>
   have hb':b=true:=by simpa using hb
   have:=aE8 L q (fun j=>by have:=hq (j+1);simpa [List.getD] using this) (by simpa using hle)
   rw [hb',if_pos rfl]
   simp;omega
theorem aR5 {P:Program} [aB P] {ops:Array Oper} {s:AS} {K:AS→Prop} (m:Nat) (hmle:m≤ops.size) (hfw:zM ops.toList=true) (hrest:qO ops.toList m=true) (S:(Nat→Bool)→AS) (h0:fG s (S fun _=>false))
  (hs:∀i op,i < m→ops.toList[i]? =some op→∀J:Nat→Bool,Clo ops.toList J→(∀k,m≤k→J k=false)→J i=false→(∀e∈pre op,J e=true)→(lV P ops.toList op (S J) fun s'=>fG s' (S (upd J i)))∨(op.guard=none∧∀B,Step P B op (S J) (S (upd J i))))
  (he:∀J:Nat→Bool,Clo ops.toList J→(∀k,m≤k→J k=false)→((∀i,i < m→J i=true)∨∃op,ops.toList[m]? =some op∧∀e∈pre op,J e=true)→nW P ops.toList K (left ((List.range ops.size).map J)) ((List.range ops.size).map J) (S J)∨(xP ops.toList m=true∧(∀i,i < m→J i=true)∧dP P ops.toList (ops.toList.drop m) (S J) K)):aF4 P ops s K:=by
 intro B a w Q hr hk
 have toJ:∀listed:Array Bool,listed.size=ops.size→listed.toList=(List.range ops.size).map fun i=>listed.getD i false:=by
  intro listed hl
  refine List.ext_getElem? fun i=> ?_
  rw [List.getElem?_map]
  by_cases hi:i < ops.size
  ·have hil:i < listed.size:=by omega
   simp [hi,hil]
  ·have hil:listed.toList.length≤i:=by simp;omega
   rw [List.getElem?_eq_none hil];simp [hi]
 have fin:∀(fuel:Nat) (listed:Array Bool) (a:Act) (w:World),listed.size=ops.size→left listed.toList=fuel→(∀k,m≤k→listed.getD k false=false)→Clo ops.toList (fun i=>listed.getD i false)→Rel B (S fun i=>listed.getD i false) a w→
   ((∀i,i < m→listed.getD i false=true)∨∃op,ops.toList[m]? =some op∧∀e∈pre op,listed.getD e false=true)→wpAny P .any ops Q fuel listed a w:=by
  intro fuel listed a w hl hz hhi hc r hor
  rcases he _ hc hhi hor with this|⟨ht,hall,h⟩
  ·rw [←toJ listed hl] at this
   exact aV5 hfw hk fuel listed.toList listed _ a w rfl hl hz (hz▸this) r
  ·have hJ:(fun i=>listed.getD i false)=fun k=>decide (k < m):=by
    funext i
    by_cases hi:i < m
    ·rw [hall i hi];simp [hi]
    ·rw [hhi i (by omega)];simp [hi]
   have hcount:m+fuel=ops.size:=by
    have:=aE8 listed.toList m (fun j=>by have:=congrFun hJ j;simpa [Array.getD_eq_getD_getElem?,List.getD_eq_getElem?_getD] using this) (by simp;omega)
    rw [hz] at this
    simp at this;omega
   exact aVt ht hk fuel m listed _ a w hl hcount (Nat.le_refl _) (fun j=>congrFun hJ j) h r
 have key:∀(fuel:Nat) (listed:Array Bool) (a:Act) (w:World),listed.size=ops.size→left listed.toList=fuel→(∀k,m≤k→listed.getD k false=false)→Clo ops.toList (fun i=>listed.getD i false)→Rel B (S fun i=>listed.getD i false) a w→wpAny P .any ops Q fuel listed a w:=by
  intro fuel
  induction fuel with
  |zero=>
   intro listed a w hl hz hhi hc r
   refine fin 0 listed a w hl hz hhi hc r (.inl fun i hi=> ?_)
   have hi':i < listed.size:=by omega
   have:=aCu hz (i:=i) (b:=listed[i]) (by simp [hi'])
   simp [Array.getD,hi',this]
  |succ fuel ih=>
   intro listed a w hl hz hhi hc r
   by_cases hall:(∀i,i < m→listed.getD i false=true)∨∃op,ops.toList[m]? =some op∧∀e∈pre op,listed.getD e false=true
   ·exact fin _ listed a w hl hz hhi hc r hall
   ·have hlow:∀i∈Region.ready .any ops listed,i < m:=by
     intro i hi
     obtain ⟨op,hop,h1,h2⟩:=(mem_ready hl).1 hi
     rcases Nat.lt_or_ge i m with h|h
     ·exact h
     ·exfalso
      rcases Nat.lt_or_ge m i with hlt|hge
      ·unfold qO at hrest
       rw [List.all_eq_true] at hrest
       have:=hrest i (by simp;have:=(List.getElem?_eq_some_iff.1 hop).1;simpa using this)
       have hp:iA ops.toList i=pre op:=by simp [iA,hop]
       simp only [hp,Bool.or_eq_true,decide_eq_true_eq,List.any_eq_true] at this
       rcases this with h'|⟨e,he,hme⟩
       ·omega
       ·have h3:=h2 e he
        rw [hhi e hme] at h3;cases h3
      ·have:i=m:=by omega
       subst this
       exact hall (.inr ⟨op,hop,h2⟩)
    constructor
    ·intro hnil
     exfalso
     obtain ⟨i,h1,h2⟩:=aD5 (l:=listed.toList) (by omega)
     have hi:i < listed.size:=by have:=(List.getElem?_eq_some_iff.1 h1).1;simpa using this
     have hgi:listed.getD i false=false:=by
      have:listed[i]? =some false:=by simpa using h1
      rw [Array.getD_eq_getD_getElem?,this];rfl
     have hio':i < ops.toList.length:=by simp;omega
     have hop:=List.getElem?_eq_getElem hio'
     have:i∈Region.ready .any ops listed:=(mem_ready hl).2 ⟨_,hop,hgi,fun e he=>by
      have:=h2 e (aCr hfw hop e he)
      have h3:listed[e]? =some true:=by simpa using this
      rw [Array.getD_eq_getD_getElem?,h3];rfl⟩
     rw [hnil] at this
     cases this
    ·intro i hi
     have him:=hlow i hi
     obtain ⟨op,hop,h1,h2⟩:=(mem_ready hl).1 hi
     have hio:i < ops.size:=by omega
     have hil:i < listed.size:=by omega
     have hst:=hs i op him hop (fun j=>listed.getD j false) hc hhi h1 h2
     unfold wpOp
     have hopa:ops[i]? =some op:=by simpa using hop
     rw [hopa]
     have hu:(fun j=>(listed.setIfInBounds i true).getD j false)=upd (fun j=>listed.getD j false) i:=funext fun j=>aEp hil j
     have hnext:∀a' w',Rel B (S (upd (fun j=>listed.getD j false) i)) a' w'→wpAny P .any ops Q fuel (listed.setIfInBounds i true) a' w':=fun a' w' r'=>by
      refine ih _ _ _ (by simpa using hl) ?_ ?_ ?_ ?_
      ·have h1':listed.toList[i]? =some false:=by
        have:listed[i]? =some listed[i]:=by simp [hil]
        rw [Array.getD_eq_getD_getElem?,this] at h1
        simp only [Option.getD_some] at h1
        rw [h1] at this
        simpa using this
       have:=aBx h1'
       rw [Array.toList_setIfInBounds]
       omega
      ·intro k hk
       rw [aEp hil]
       unfold upd
       rw [if_neg (by omega)]
       exact hhi k hk
      ·rw [hu]
       intro j op' hj hJ e he
       by_cases hji:j=i
       ·subst hji
        rw [hop] at hj
        obtain rfl:=Option.some.inj hj
        unfold upd
        split
        ·rfl
        ·exact h2 e he
       ·unfold upd at hJ⊢
        rw [if_neg hji] at hJ
        split
        ·rfl
        ·exact hc j op' hj hJ e he
      ·rw [hu]
       exact r'
     rcases hst with hst|⟨hg,hst⟩
     ·have:=aRv hst r (Kc:=wpAny P .any ops Q fuel (listed.setIfInBounds i true)) (Q:=Q) (fun a' w' s' hw r'=>hnext a' w' (hw B a' w' r'))
      simpa using this
     ·have:Region.wanted op (yielded ops a.tmps)=true:=by simp [Region.wanted,hg]
      simp only [this,if_true]
      exact .inl (hst B a w _ Q r hnext)
 obtain ⟨G,r⟩:=hr
 have r2:Rel B s a {w with drawn:=w.drawn+1}:=⟨G,{len:=r.len,defs:=r.defs,ok:=fun i ob g hl hlive=>(r.ok i ob g hl hlive).keeps (w':={w with drawn:=w.drawn+1}) ⟨fun b h=>⟨h,rfl⟩,fun _ h=>h,fun _ _ _ h=>⟨h,rfl⟩,fun _ _ _ h=>h,fun _ _ _ _ _ h=>h⟩ (fun _ _=>rfl),apart:=r.apart,fresh:=r.fresh,tmps:=dI (w:=w) (E:=env B s.o G w) (w':={w with drawn:=w.drawn+1}) (E':=env B s.o G {w with drawn:=w.drawn+1}) ⟨fun b h=>⟨h,rfl⟩,fun _ h=>h,fun _ _ _ h=>⟨h,rfl⟩,fun _ _ _ h=>h,fun _ _ _ _ _ h=>h⟩ _ _ _ (by simp) r.tmps,size:=r.size,frame:=r.frame,base:=r.base,same:=r.same.trans ⟨rfl,rfl,rfl⟩}⟩
 have hJ:(fun i=>(Array.replicate ops.size false).getD i false)=fun _=>false:=by
  funext i
  simp only [Array.getD_eq_getD_getElem?,Array.getElem?_replicate]
  split<;>rfl
 refine key _ _ _ _ (by simp) (by simp [left]) (fun k _=>congrFun hJ k) (by rw [hJ];intro j op _ h;cases h) ?_
 rw [hJ]
 exact h0 _ _ _ r2
def jz (m:Nat) (z:List Nat) (k:Nat):Bool:=decide (k < m)&& !z.contains k
def nC (l:List Oper) (m:Nat):List Nat:=(List.range m).filter fun j=> !(reach l m (iA l m)).contains j
def rM (F:List Nat→Prop):List Nat→List Nat→Prop
 |acc,[]=>F acc
 |acc,z::r=>rM F acc r∧rM F (z::acc) r
theorem aJc {F:List Nat→Prop} (p:Nat→Bool):∀(z acc:List Nat),rM F acc z→F ((z.filter p).reverse++acc)
 |[],acc,h=>by simpa [rM] using h
 |x::z,acc,h=>by
  simp only [rM] at h
  by_cases hx:p x=true
  ·have:=aJc p z (x::acc) h.2
   rw [List.filter_cons_of_pos hx]
   simpa using this
  ·have:=aJc p z acc h.1
   rw [List.filter_cons_of_neg hx]
   exact this
theorem bIz {l:List Oper} {m:Nat} {op:Oper} {J:Nat→Bool} (hm:l[m]? =some op) (hc:Clo l J) (hhi:∀k,m≤k→J k=false) (hp:∀e∈pre op,J e=true):J=jz m ((nC l m).filter fun k=> !J k).reverse:=by
 funext k
 unfold jz
 by_cases hk:k < m
 ·simp only [hk,decide_true,Bool.true_and]
  cases hJ:J k with
  |true=>
   have:((nC l m).filter fun k=> !J k).reverse.contains k=false:=by
    rw [List.contains_eq_mem];simp [hJ]
   rw [this];rfl
  |false=>
   have hs:k∈nC l m:=by
    unfold nC
    rw [List.mem_filter]
    refine ⟨by simpa using hk,?_⟩
    have hpa:iA l m=pre op:=by simp [iA,hm]
    rw [hpa]
    cases hcn:(reach l m (pre op)).contains k with
    |false=>rfl
    |true=>
     rw [List.contains_eq_mem] at hcn
     have:=aFy hc m (pre op) hp k (by simpa using hcn)
     rw [hJ] at this;cases this
   have:((nC l m).filter fun k=> !J k).reverse.contains k=true:=by
    rw [List.contains_eq_mem];simp [hJ,hs]
   rw [this];rfl
 ·rw [hhi k (by omega)];simp [hk]
def aYx (i:Nat) (pr:List Nat) (j:Nat) (op:Oper) (v:AV) (t:List AV):List AV:=
 match op.dst with
 |none=>t
 |some d=>if j=i then t else if j∈pr then t.set d v else if i∈pre op then t else t.set d .undef
def jC (i:Nat) (pr:List Nat):Nat→List Oper→List AV→List AV→List AV
 |_,[],_,t=>t
 |j,op::r,vs,t=>jC i pr (j+1) r vs.tail (aYx i pr j op (vs.headD .undef) t)
def rE (J:Nat→Bool) (j:Nat) (op:Oper) (v:AV) (t:List AV):List AV:=
 match op.dst with
 |none=>t
 |some d=>if J j=true then t.set d v else t
def dV (J:Nat→Bool):Nat→List Oper→List AV→List AV→List AV
 |_,[],_,t=>t
 |j,op::r,vs,t=>dV J (j+1) r vs.tail (rE J j op (vs.headD .undef) t)
theorem aGx:∀{t2 t:List AV} (d:Nat) {v2 v:AV},wk t2 t→(v=v2∨v= .undef)→wk (t2.set d v2) (t.set d v)
 |[],[],_,_,_,_,_=>trivial
 |[],_::_,_,_,_,h,_=>h.elim
 |_::_,[],_,_,_,h,_=>h.elim
 |_::_,_::_,0,_,_,h,hv=>⟨hv,h.2⟩
 |_::_,_::_,d+1,_,_,h,hv=>⟨h.1,aGx d h.2 hv⟩
theorem aHi:∀{t2 t:List AV} (d:Nat),wk t2 t→wk t2 (t.set d .undef)
 |[],[],_,_=>trivial
 |[],_::_,_,h=>h.elim
 |_::_,[],_,h=>h.elim
 |_::_,_::_,0,h=>⟨.inr rfl,h.2⟩
 |_::_,_::_,d+1,h=>⟨h.1,aHi d h.2⟩
theorem aGw:∀{t2 t:List AV},wk t2 t→t2.length=t.length
 |[],[],_=>rfl
 |[],_::_,h=>h.elim
 |_::_,[],h=>h.elim
 |_::_,_::_,h=>by simp [aGw h.2]
theorem kQ:∀t:List AV,wk t t
 |[]=>trivial
 |_::xs=>⟨.inl rfl,kQ xs⟩
theorem aG7 {J:Nat→Bool} {i:Nat} {pr:List Nat} (hi:J i=false) (hpr:∀e∈pr,J e=true∧e < i):
  ∀(l:List Oper) (j:Nat) (vs vs':List AV) (t2 t:List AV),(∀k op,l[k]? =some op→J (j+k)=true→∀e∈pre op,J e=true)→(∀k,j+k < i→vs'.getD k .undef=vs.getD k .undef)→wk t2 t→wk (dV J j l vs t2) (jC i pr j l vs' t)
 |[],_,_,_,_,_,_,_,h=>h
 |op::r,j,vs,vs',t2,t,hc,hv,h=>by
  simp only [dV,jC]
  refine aG7 hi hpr r (j+1) vs.tail vs'.tail _ _ (fun k q hk hJ=>hc (k+1) q (by simpa using hk) (by rwa [show j+(k+1)=j+1+k by omega])) (fun k hk=>by
   have:=hv (k+1) (by omega)
   cases vs<;>cases vs'<;>simpa [List.getD] using this) ?_
  have h0:j < i→vs'.headD .undef=vs.headD .undef:=fun hj=>by
   have:=hv 0 (by omega)
   cases vs<;>cases vs'<;>simpa [List.getD] using this
  unfold rE aYx
  cases hd:op.dst with
  |none=>exact h
  |some d=>
   dsimp only
   by_cases hji:j=i
   ·subst hji;rw [if_pos rfl,if_neg (by rw [hi];simp)];exact h
   ·rw [if_neg hji]
    by_cases hp:j∈pr
    ·rw [if_pos hp,if_pos (hpr j hp).1]
     exact aGx d h (.inl (h0 (hpr j hp).2))
    ·rw [if_neg hp]
     by_cases hq:i∈pre op
     ·rw [if_pos hq]
      have:J j≠true:=fun hJ=>by
       have:=hc 0 op rfl hJ i hq
       rw [hi] at this;cases this
      rw [if_neg this];exact h
     ·rw [if_neg hq]
      split
      ·exact aGx d h (.inr rfl)
      ·exact aHi d h
theorem aNx {J:Nat→Bool} (d:Nat) (x:AV):∀(l:List Oper) (j:Nat) (vs:List AV) (t:List AV),(∀op∈l,op.dst≠some d)→dV J j l vs (t.set d x)=(dV J j l vs t).set d x
 |[],_,_,_,_=>rfl
 |op::r,j,vs,t,h=>by
  simp only [dV]
  rw [←aNx d x r (j+1) vs.tail _ (fun q hq=>h q (by simp [hq]))]
  congr 1
  unfold rE
  cases hd:op.dst with
  |none=>rfl
  |some d'=>
   dsimp only
   have:d'≠d:=fun e=>h op (by simp) (by rw [hd,e])
   split
   ·rw [List.set_comm _ _ (Ne.symm this)]
   ·rfl
theorem zI {J J':Nat→Bool}:∀(l:List Oper) (j:Nat) (vs:List AV) (t:List AV),(∀k,k < l.length→J (j+k)=J' (j+k))→dV J j l vs t=dV J' j l vs t
 |[],_,_,_,_=>rfl
 |op::r,j,vs,t,h=>by
  simp only [dV]
  have h0:J j=J' j:=h 0 (by simp)
  have:rE J j op (vs.headD .undef) t=rE J' j op (vs.headD .undef) t:=by unfold rE;rw [h0]
  rw [this]
  exact zI r (j+1) vs.tail _ fun k hk=>by
   have:=h (k+1) (by simpa using hk)
   rwa [show j+(k+1)=j+1+k by omega] at this
def distinct:List Oper→Bool
 |[]=>true
 |op::r=>(match op.dst with
  |none=>true
  |some d=>r.all fun q=>decide (q.dst≠some d))&&distinct r
theorem aCv {J:Nat→Bool}:∀(l:List Oper) (j i:Nat) (op:Oper) (vs:List AV) (t:List AV) (v:AV),distinct l=true→l[i]? =some op→J (j+i)=false→vs.getD i .undef=v→
  dV (upd J (j+i)) j l vs t=jF (dV J j l vs t) op.dst v
 |[],_,_,_,_,_,_,_,h,_,_=>by simp at h
 |q::r,j,0,op,vs,t,v,hd,h,hJ,hv=>by
  simp at h;subst h
  simp only [dV,Nat.add_zero] at hJ⊢
  rw [zI (J:=upd J j) (J':=J) r (j+1) vs.tail _ (fun k _=>by unfold upd;rw [if_neg (by omega)])]
  have h1:rE (upd J j) j q (vs.headD .undef) t=jF t q.dst v:=by
   have hv':vs.headD .undef=v:=by cases vs<;>simpa [List.getD] using hv
   unfold rE jF
   rw [hv']
   cases q.dst with
   |none=>rfl
   |some d=>simp [upd]
  have h2:rE J j q (vs.headD .undef) t=t:=by
   unfold rE
   cases q.dst with
   |none=>rfl
   |some d=>simp [hJ]
  rw [h1,h2]
  cases hq:q.dst with
  |none=>rfl
  |some d=>
   simp only [distinct,hq,Bool.and_eq_true,List.all_eq_true,decide_eq_true_eq] at hd
   exact aNx d v r (j+1) vs.tail t hd.1
 |q::r,j,i+1,op,vs,t,v,hd,h,hJ,hv=>by
  simp only [distinct,Bool.and_eq_true] at hd
  simp only [dV]
  have h1:rE (upd J (j+(i+1))) j q (vs.headD .undef) t=rE J j q (vs.headD .undef) t:=by
   unfold rE
   have:upd J (j+(i+1)) j=J j:=by unfold upd;rw [if_neg (by omega)]
   rw [this]
  rw [h1,show j+(i+1)=j+1+i by omega]
  exact aCv r (j+1) i op vs.tail _ v hd.2 (by simpa using h) (by rwa [show j+1+i=j+(i+1) by omega]) (by cases vs<;>simpa [List.getD] using hv)
def oJ (J:Nat→Bool) (b:List aA):List (Nat×List aA)→List aA
 |[]=>b
 |q::r=>if J q.1=true then q.2 else oJ J b r
def top (b:List aA):List (Nat×List aA)→List aA
 |[]=>b
 |q::_=>q.2
def vR (pr:List Nat):List (Nat×List aA)→Bool
 |[]=>true
 |q::_=>decide (q.1∈pr)
def inb (pr:List Nat) (n:Nat):Bool:=decide (n∈pr)
def wR (l:List Oper) (b:List aA):List (Nat×List aA)→Prop
 |[]=>True
 |q::r=>(∃new,q.2=top b r++new)∧(∀p,r.head? =some p→p.1 < q.1∧∃op,l[q.1]? =some op∧p.1∈pre op)∧wR l b r
theorem bAg {l:List Oper} {b:List aA} (J:Nat→Bool):∀{h:List (Nat×List aA)},wR l b h→∃ext,top b h=oJ J b h++ext
 |[],_=>⟨[],by simp [top,oJ]⟩
 |q::r,hc=>by
  obtain ⟨new,hn⟩:=hc.1
  obtain ⟨ext,he⟩:=bAg J hc.2.2
  simp only [oJ,top]
  split
  ·exact ⟨[],by simp⟩
  ·exact ⟨ext++new,by rw [hn,he,List.append_assoc]⟩
theorem aTe {l:List Oper} {b:List aA} {J:Nat→Bool} {pr:List Nat} (hp:∀e∈pr,J e=true):∀{h:List (Nat×List aA)},wR l b h→∃ext,oJ J b h=oJ (inb pr) b h++ext
 |[],_=>⟨[],by simp [oJ]⟩
 |q::r,hc=>by
  simp only [oJ]
  by_cases hq:q.1∈pr
  ·rw [if_pos (hp _ hq),if_pos (by simpa [inb] using hq)];exact ⟨[],by simp⟩
  ·rw [if_neg (show¬inb pr q.1=true by simpa [inb] using hq)]
   split
   ·obtain ⟨new,hn⟩:=hc.1
    obtain ⟨ext,he⟩:=bAg (inb pr) hc.2.2
    exact ⟨ext++new,by rw [hn,he,List.append_assoc]⟩
   ·exact aTe hp hc.2.2
theorem aNl (J:Nat→Bool) (b:List aA):∀{s h:List (Nat×List aA)},(∀q∈s,J q.1=false)→oJ J b (s++h)=oJ J b h
 |[],_,_=>rfl
 |q::s,h,hs=>by
  simp only [List.cons_append,oJ]
  rw [if_neg (by rw [hs q (by simp)];simp)]
  exact aNl J b fun p hp=>hs p (by simp [hp])
theorem aIk {l:List Oper} {b:List aA} {J:Nat→Bool} (hJ:Clo l J):∀{s h:List (Nat×List aA)} {q:Nat×List aA},wR l b (s++q::h)→J q.1=false→∀p∈s,J p.1=false
 |[],_,_,_,_=>fun _ hp=>by cases hp
 |x::s,h,q,hc,hq=>by
  have ih:=aIk hJ hc.2.2 hq
  intro p hp
  rcases List.mem_cons.1 hp with rfl|hp
  ·cases hJx:J p.1 with
   |false=>rfl
   |true=>
    exfalso
    cases s with
    |nil=>
     obtain ⟨_,op,h1,h2⟩:=hc.2.1 q rfl
     have:=hJ _ op h1 hJx _ h2
     rw [hq] at this;cases this
    |cons y s=>
     obtain ⟨_,op,h1,h2⟩:=hc.2.1 y rfl
     have:=hJ _ op h1 hJx _ h2
     rw [ih y (by simp)] at this;cases this
  ·exact ih p hp
def flv (J:Nat→Bool) (dead:Bool) (q:Nat×Nat×List AV):aA:=
 if J q.1=true then ⟨true,true,q.2.2.length,1,[q.2.2]⟩ else ⟨!dead,false,q.2.2.length,0,[]⟩
def plc (J:Nat→Bool) (dead:Bool):List (Nat×Nat×List AV)→List aA→List aA
 |[],o=>o
 |q::r,o=>plc J dead r (o.set q.2.1 (flv J dead q))
def uG:Nat→Bool:=fun _=>false
def aHh (fl:List (Nat×Nat×List AV)) (n:Nat):Bool:=decide (fl.map (·.1)).Nodup&&(decide (fl.map (·.2.1)).Nodup&&fl.all fun q=>decide (q.2.1 < n))
theorem nK (J:Nat→Bool) (d:Bool):∀(fl:List (Nat×Nat×List AV)) (o:List aA),(plc J d fl o).length=o.length
 |[],_=>rfl
 |q::r,o=>by simp only [plc];rw [nK J d r];simp
theorem zO {J:Nat→Bool} {d:Bool} {i:Nat}:∀{fl:List (Nat×Nat×List AV)} {o:List aA},(∀q∈fl,q.2.1≠i)→(plc J d fl o)[i]? =o[i]?
 |[],_,_=>rfl
 |q::r,o,h=>by
  simp only [plc]
  rw [zO fun p hp=>h p (by simp [hp]),List.getElem?_set_ne (h q (by simp))]
theorem wL {J:Nat→Bool} {d:Bool}:∀{fl:List (Nat×Nat×List AV)} {o:List aA} {q:Nat×Nat×List AV},(fl.map (·.2.1)).Nodup→q∈fl→q.2.1 < o.length→(plc J d fl o)[q.2.1]? =some (flv J d q)
 |p::r,o,q,hn,hq,hl=>by
  simp only [plc]
  simp only [List.map_cons,List.nodup_cons] at hn
  rcases List.mem_cons.1 hq with rfl|hq
  ·rw [zO fun p hp e=>hn.1 (List.mem_map.2 ⟨p,hp,e⟩),List.getElem?_set_self hl]
  ·exact wL hn.2 hq (by simpa using hl)
theorem aHn {J:Nat→Bool} {d:Bool} {n:List aA}:∀{fl:List (Nat×Nat×List AV)} {o:List aA},(∀q∈fl,q.2.1 < o.length)→plc J d fl (o++n)=plc J d fl o++n
 |[],_,_=>rfl
 |q::r,o,h=>by
  simp only [plc]
  rw [List.set_append_left _ _ (h q (by simp)),aHn fun p hp=>by simpa using h p (by simp [hp])]
theorem aV3 {fl:List (Nat×Nat×List AV)} {o o':List aA} (hl:o.length=o'.length) (h:∀q∈fl,o[q.2.1]? =o'[q.2.1]?) (h2:∀i,(∀q∈fl,q.2.1≠i)→o[i]? =o'[i]?):o=o':=by
 refine List.ext_getElem? fun i=> ?_
 by_cases hi:∃q∈fl,q.2.1=i
 ·obtain ⟨q,hq,rfl⟩:=hi;exact h q hq
 ·exact h2 i fun q hq e=>hi ⟨q,hq,e⟩
theorem bFw {J J':Nat→Bool} {d d':Bool} {fl:List (Nat×Nat×List AV)} {o:List aA} (hn:(fl.map (·.2.1)).Nodup) (hs:∀q∈fl,q.2.1 < o.length):plc J d fl (plc J' d' fl o)=plc J d fl o:=
 aV3 (fl:=fl) (by simp [nK]) (fun q hq=>by rw [wL hn hq (by rw [nK];exact hs q hq),wL hn hq (hs q hq)]) (fun i hi=>by rw [zO hi,zO hi,zO hi])
theorem aOh {J J':Nat→Bool} {d:Bool}:∀{fl:List (Nat×Nat×List AV)} {o:List aA},(∀q∈fl,J q.1=J' q.1)→plc J d fl o=plc J' d fl o
 |[],_,_=>rfl
 |q::r,o,h=>by
  simp only [plc]
  have:flv J d q=flv J' d q:=by unfold flv;rw [h q (by simp)]
  rw [this,aOh fun p hp=>h p (by simp [hp])]
theorem aCx {α β:Type} (f:α→β):∀(L:List α),(L.map f).Nodup→∀p q,p∈L→q∈L→f p=f q→p=q
 |[],_,_,_,h,_,_=>by cases h
 |x::L,hn,p,q,hp,hq,e=>by
  simp only [List.map_cons,List.nodup_cons] at hn
  rcases List.mem_cons.1 hp with hp'|hp'
  ·rcases List.mem_cons.1 hq with hq'|hq'
   ·rw [hp',hq']
   ·exfalso;exact hn.1 (List.mem_map.2 ⟨q,hq',by rw [←e,hp']⟩)
  ·rcases List.mem_cons.1 hq with hq'|hq'
   ·exfalso;exact hn.1 (List.mem_map.2 ⟨p,hp',by rw [e,hq']⟩)
   ·exact aCx f L hn.2 p q hp' hq' e
theorem bF5 {J:Nat→Bool} {d:Bool} {fl:List (Nat×Nat×List AV)} {o:List aA} {q:Nat×Nat×List AV} (hn1:(fl.map (·.1)).Nodup) (hn:(fl.map (·.2.1)).Nodup) (hs:∀q∈fl,q.2.1 < o.length) (hq:q∈fl):
  plc (upd J q.1) d fl o=(plc J d fl o).set q.2.1 ⟨true,true,q.2.2.length,1,[q.2.2]⟩:=by
 have hinj:∀p∈fl,p.1=q.1→p=q:=fun p hp e=>aCx (·.1) fl hn1 p q hp hq e
 have hinj2:∀p∈fl,p.2.1=q.2.1→p=q:=fun p hp e=>aCx (·.2.1) fl hn p q hp hq e
 refine aV3 (fl:=fl) (by simp [nK]) (fun p hp=> ?_) (fun i hi=> ?_)
 ·rw [wL hn hp (hs p hp)]
  by_cases hpq:p=q
  ·subst hpq
   rw [List.getElem?_set_self (by rw [nK];exact hs p hp)]
   simp [flv,upd]
  ·rw [List.getElem?_set_ne (fun e=>hpq (hinj2 p hp e.symm)),wL hn hp (hs p hp)]
   have:upd J q.1 p.1=J p.1:=by unfold upd;rw [if_neg (fun e=>hpq (hinj p hp e))]
   simp [flv,this]
 ·rw [zO hi,List.getElem?_set_ne (hi q hq),zO hi]
theorem bF3 {J:Nat→Bool} {pr:List Nat} {fl:List (Nat×Nat×List AV)} {o ext:List aA} (hn:(fl.map (·.2.1)).Nodup) (hs:∀q∈fl,q.2.1 < o.length) (hp:∀e∈pr,J e=true):
  Sub (plc (inb pr) true fl o) (plc J false fl (o++ext)):=by
 intro i ob h hl
 by_cases hi:∃q∈fl,q.2.1=i
 ·obtain ⟨q,hq,rfl⟩:=hi
  rw [wL hn hq (hs q hq)] at h
  obtain rfl:=Option.some.inj h
  rw [wL hn hq (by have:=hs q hq;simp;omega)]
  unfold flv at hl⊢
  by_cases hb:inb pr q.1=true
  ·rw [if_pos hb,if_pos (hp q.1 (by simpa [inb] using hb))]
  ·rw [if_neg hb] at hl;cases hl
 ·have hi':∀q∈fl,q.2.1≠i:=fun q hq e=>hi ⟨q,hq,e⟩
  rw [zO hi'] at h⊢
  rw [List.getElem?_append_left (List.getElem?_eq_some_iff.1 h).1];exact h
theorem aWc {l:List Oper} {b:List aA} {J:Nat→Bool} {h:List (Nat×List aA)} (hc:wR l b h):∃ext,oJ J b h=b++ext:=by
 obtain ⟨ext,he⟩:=aTe (J:=J) (pr:=[]) (by simp) hc
 have:∀h:List (Nat×List aA),oJ (inb []) b h=b:=by
  intro h
  induction h with
  |nil=>rfl
  |cons q r ih=>simp [oJ,ih,inb]
 exact ⟨ext,by rw [he,this]⟩
theorem aNc {fl:List (Nat×Nat×List AV)} {b:List aA} (J:Nat→Bool) (hb:plc uG true fl b=b):∀{h:List (Nat×List aA)},(∀q∈h,plc uG true fl q.2=q.2)→plc uG true fl (oJ J b h)=oJ J b h
 |[],_=>hb
 |q::r,h=>by
  simp only [oJ]
  split
  ·exact h q (by simp)
  ·exact aNc J hb fun p hp=>h p (by simp [hp])
def uK (op:Oper) (s:AS):AV:=match op.dst with
 |some d=>s.t.getD d .undef
 |none=> .undef
def gN (P:Program) [aB P] (l:List Oper) (t:List AV) (b:List aA) (fl:List (Nat×Nat×List AV)) (K:AS→Prop):Nat→List Oper→List AV→List (Nat×List aA)→Prop
 |i,[],vs,h=>K ⟨dV (fun _=>true) 0 l vs t,plc (fun k=>decide (k < i)) false fl (top b h)⟩
 |i,op::r,vs,h=>(∃q∈fl,q.1=i∧op.guard=none∧(∃T,op.op= .alloc T∧zeroA P T=some q.2.2)∧(∀e∈pre op,e < i)∧gN P l t b fl K (i+1) r (vs++[.ptr q.2.1 1 0 0]) h)∨
   ((∀q∈fl,q.1≠i)∧jS op.op ⟨jC i (pre op) 0 l vs t,plc (inb (pre op)) true fl (oJ (inb (pre op)) b h)⟩=true∧(∀e∈pre op,e < i)∧
   lV P l op ⟨jC i (pre op) 0 l vs t,plc (inb (pre op)) true fl (oJ (inb (pre op)) b h)⟩ fun s'=>
    (vR (pre op) h=true∨s'.o.length=(oJ (inb (pre op)) b h).length)∧
    gN P l t b fl K (i+1) r (vs++[uK op s']) (if s'.o.length=(oJ (inb (pre op)) b h).length then h else (i,plc uG true fl s'.o)::h))∨
   (qO l i=true∧rM (fun z=>nW P l K (left ((List.range l.length).map (jz i z))) ((List.range l.length).map (jz i z)) ⟨dV (jz i z) 0 l vs t,plc (jz i z) false fl (oJ (jz i z) b h)⟩) [] (nC l i))∨
   (qO l i=true∧xP l i=true∧dP P l (op::r) ⟨dV (fun k=>decide (k < i)) 0 l vs t,plc (fun k=>decide (k < i)) false fl (top b h)⟩ K)
structure Item (P : Program) [aB P] (l : List Oper) (t : List AV) (b : List aA) (fl : List (Nat × Nat × List AV)) (j : Nat) (op : Oper) (vs : List AV) (hf : List (Nat × List aA)) : Prop where
  pre : ∀ e ∈ pre op, e < j
  ex : (∃ q ∈ fl, q.1 = j ∧ op.guard = none ∧ (∃ T, op.op = .alloc T ∧ zeroA P T = some q.2.2) ∧ vs.getD j .undef = .ptr q.2.1 1 0 0 ∧ ∀ p ∈ hf, p.1 ≠ j) ∨
    ((∀ q ∈ fl, q.1 ≠ j) ∧ ∃ x new hj suf, jS op.op ⟨jC j (Aw.pre op) 0 l (vs.take j) t, plc (inb (Aw.pre op)) true fl (oJ (inb (Aw.pre op)) b hj)⟩ = true ∧ hf = suf ++ hj ∧ (∀ q ∈ hj, q.1 < j) ∧ (vs.getD j .undef = x ∨ vs.getD j .undef = .undef) ∧
    lV P l op ⟨jC j (Aw.pre op) 0 l (vs.take j) t, plc (inb (Aw.pre op)) true fl (oJ (inb (Aw.pre op)) b hj)⟩ (fun s' => s' = ⟨jF (jC j (Aw.pre op) 0 l (vs.take j) t) op.dst x, plc (inb (Aw.pre op)) true fl (oJ (inb (Aw.pre op)) b hj) ++ new⟩) ∧
    ((new = [] ∧ ∀ q ∈ suf, j < q.1) ∨ (vR (Aw.pre op) hj = true ∧ ∃ s2, suf = s2 ++ [(j, oJ (inb (Aw.pre op)) b hj ++ new)] ∧ ∀ q ∈ s2, j < q.1)))
theorem aSs {b:List aA} {pr:List Nat} {h:List (Nat×List aA)} (ht:vR pr h=true):oJ (inb pr) b h=top b h:=by
 cases h with
 |nil=>rfl
 |cons q r=>simp only [vR] at ht;simp only [oJ,top,inb,ht,if_true]
theorem aOc {P:Program} [aB P] {op:Oper} {t t2:List AV} {o o2:List aA} {K:AS→Prop} (h:aDc P op ⟨t,o⟩ K):
  ∃x new x2,K ⟨jF t op.dst x,o++new⟩∧(x=x2∨x= .undef)∧(o2.length=o.length∨new=[])∧∀K2:AS→Prop,K2 ⟨jF t2 op.dst x2,o2++new⟩→aDc P op ⟨t2,o2⟩ K2:=by
 obtain ⟨dst,op,ty,pos,after,gd⟩:=op
 unfold aDc at h
 dsimp only at h
 split at h
 ·split at h
  ·rename_i e n by' he
   refine ⟨.sl .own n [],[],.sl .own n [],by rw [List.append_nil,←put_eq];exact h.2,.inl rfl,.inr rfl,fun K2 hK=> ?_⟩
   rw [List.append_nil] at hK
   rename_i tt _
   show (match elemA P tt with
    |some (e,n,_)=>zeroSz P e n=true∧K2 (AS.put ⟨t2,o2⟩ dst (.sl .own n []))
    |none=>False)
   rw [he]
   exact ⟨h.1,by rw [put_eq];exact hK⟩
  ·exact h.elim
 ·exact h.elim
theorem zJ {P:Program} [aB P] {l:List Oper} {op:Oper} {t t2:List AV} {o o2:List aA} {K:AS→Prop} (q:jS op.op ⟨t,o⟩=true) (hw:wk t2 t) (h:lV P l op ⟨t,o⟩ K) (hs:Sub o o2) (hext:o2.length=o.length∨∀s',K s'→s'.o.length=o.length):
  ∃x new x2,K ⟨jF t op.dst x,o++new⟩∧(x=x2∨x= .undef)∧(o2.length=o.length∨new=[])∧∀K2:AS→Prop,K2 ⟨jF t2 op.dst x2,o2++new⟩→lV P l op ⟨t2,o2⟩ K2:=by
 unfold lV at h
 split at h
 ·rename_i hg
  rcases h with h|h
  ·obtain ⟨x,new,x2,h1,h2,h3,h4⟩:=aQ3 q hw h hs hext
   exact ⟨x,new,x2,h1,h2,h3,fun K2 hK=>by unfold lV;simp only [hg];exact .inl (h4 K2 hK)⟩
  ·obtain ⟨x,new,x2,h1,h2,h3,h4⟩:=aOc (t2:=t2) (o2:=o2) h
   exact ⟨x,new,x2,h1,h2,h3,fun K2 hK=>by unfold lV;simp only [hg];exact .inr (h4 K2 hK)⟩
 ·rename_i j want hg
  split at h
  ·rename_i b hb
   have hb2:kM l ⟨t2,o2⟩ j want= .bool b:=by
    unfold kM at hb⊢
    split at hb
    ·rename_i o' ho'
     split at hb
     ·rename_i d hd
      rcases aQ1 d hw with e|e
      ·rw [←e];exact hb
      ·rw [e] at hb;cases hb
     ·cases hb
    ·cases hb
   by_cases hbw:b=want
   ·rcases h.1 hbw with h|h
    ·obtain ⟨x,new,x2,h1,h2,h3,h4⟩:=aQ3 q hw h hs hext
     exact ⟨x,new,x2,h1,h2,h3,fun K2 hK=>by unfold lV;simp only [hg,hb2];exact ⟨fun _=> .inl (h4 K2 hK),fun hn=>absurd hbw hn⟩⟩
    ·obtain ⟨x,new,x2,h1,h2,h3,h4⟩:=aOc (t2:=t2) (o2:=o2) h
     exact ⟨x,new,x2,h1,h2,h3,fun K2 hK=>by unfold lV;simp only [hg,hb2];exact ⟨fun _=> .inr (h4 K2 hK),fun hn=>absurd hbw hn⟩⟩
   ·have h1:=h.2 hbw
    rw [put_eq] at h1
    exact ⟨.tup [],[],.tup [],by rw [List.append_nil];exact h1,.inl rfl,.inr rfl,fun K2 hK=>by
     unfold lV;simp only [hg,hb2]
     refine ⟨fun hn=>absurd hn hbw,fun _=> ?_⟩
     rw [put_eq];rw [List.append_nil] at hK;exact hK⟩
  ·exact h.elim
def bJv (P:Program) [aB P] (l:List Oper) (t:List AV) (b:List aA) (fl:List (Nat×Nat×List AV)) (K:AS→Prop) (m:Nat) (vs:List AV) (h:List (Nat×List aA)):Prop:=
 (m=l.length∧K ⟨dV (fun _=>true) 0 l vs t,plc (fun k=>decide (k < m)) false fl (top b h)⟩)∨
 (m < l.length∧qO l m=true∧rM (fun z=>nW P l K (left ((List.range l.length).map (jz m z))) ((List.range l.length).map (jz m z)) ⟨dV (jz m z) 0 l vs t,plc (jz m z) false fl (oJ (jz m z) b h)⟩) [] (nC l m))∨
 (m < l.length∧qO l m=true∧xP l m=true∧dP P l (l.drop m) ⟨dV (fun k=>decide (k < m)) 0 l vs t,plc (fun k=>decide (k < m)) false fl (top b h)⟩ K)
theorem aCo {P : Program} [aB P] {l : List Oper} {t : List AV} {b : List aA} {fl : List (Nat × Nat × List AV)} {K : AS → Prop} (hnd : (fl.map (·.2.1)).Nodup) (hsl : ∀ q ∈ fl, q.2.1 < b.length) (hb : plc uG true fl b = b) : ∀ (r : List Oper) (i : Nat) (vs : List AV) (h : List (Nat × List aA)), l.drop i = r → vs.length = i → i ≤ l.length → (∀ q ∈ h, q.1 < i) → (∀ q ∈ h, plc uG true fl q.2 = q.2) → wR l b h → gN P l t b fl K i r vs h →
    ∃ m vs' hf, i ≤ m ∧ bJv P l t b fl K m (vs ++ vs') hf ∧ wR l b hf ∧ (∃ suf, hf = suf ++ h ∧ ∀ q ∈ suf, i ≤ q.1 ∧ q.1 < m) ∧ (∀ q ∈ hf, plc uG true fl q.2 = q.2) ∧ ∀ j op, i ≤ j → j < m → l[j]? = some op → Item P l t b fl j op (vs ++ vs') hf
  | [], i, vs, h, hr, hv, hi, hlt, hN, hc, hd => by
    have hil : i = l.length := by have : l.length ≤ i := by simpa using hr
                                  omega
    subst hil
    refine ⟨l.length, [], h, Nat.le_refl _, ?_, hc, ⟨[], rfl, by simp⟩, hN, fun j op hij hj => by omega⟩
    simp only [gN] at hd
    exact .inl ⟨rfl, by simpa using hd⟩
  | op :: r, i, vs, h, hr, hv, hi, hlt, hN, hc, hd => by
    have hil : i < l.length := by
      rcases Nat.lt_or_ge i l.length with h' | h'
      · exact h'
      · rw [List.drop_of_length_le h'] at hr; cases hr
    have hop : l[i]? = some op := by
      have := congrArg List.head? hr
      rw [List.head?_drop] at this; simpa using this
    have hdr : l.drop (i + 1) = r := by rw [← List.drop_drop, hr]; rfl
    simp only [gN] at hd
    rcases hd with ⟨q, hq, hqi, hg, hT, hpr, hd⟩ | ⟨hnf, hq, hpr, ha⟩ | ⟨htl, ha⟩ | ⟨htl, htl2, ha⟩
    case inr.inr.inr =>
      refine ⟨i, [], h, Nat.le_refl _, ?_, hc, ⟨[], rfl, by simp⟩, hN, fun j op' hij hj => by omega⟩
      rw [List.append_nil]
      exact .inr (.inr ⟨hil, htl, htl2, by rw [hr]; exact ha⟩)
    case inr.inr.inl =>
      refine ⟨i, [], h, Nat.le_refl _, ?_, hc, ⟨[], rfl, by simp⟩, hN, fun j op' hij hj => by omega⟩
      rw [List.append_nil]
      exact .inr (.inl ⟨hil, htl, ha⟩)
    case inl =>
      obtain ⟨m, vs', hf, km, k1, k2, ⟨suf, k3, k4⟩, k6, k5⟩ := aCo hnd hsl hb r (i + 1) (vs ++ [.ptr q.2.1 1 0 0]) h hdr (by simp [hv]) (by omega) (fun q hq => by have := hlt q hq; omega) hN hc hd
      refine ⟨m, .ptr q.2.1 1 0 0 :: vs', hf, by omega, by simpa using k1, k2, ⟨suf, k3, fun q hq => by have := k4 q hq; omega⟩, k6, fun j op' hij hjm hj => ?_⟩
      by_cases hji : j = i
      · subst hji
        rw [hop] at hj; obtain rfl := Option.some.inj hj
        refine ⟨hpr, .inl ⟨q, hq, hqi, hg, hT, ?_, fun p hp => ?_⟩⟩
        · rw [List.getD_eq_getElem?_getD, List.getElem?_append_right (by omega), hv, Nat.sub_self]; rfl
        · rw [k3] at hp
          rcases List.mem_append.1 hp with hp | hp
          · have := k4 p hp; omega
          · have := hlt p hp; omega
      · have := k5 j op' (by omega) hjm hj
        simpa using this
    have hsub : Sub (plc (inb (pre op)) true fl (oJ (inb (pre op)) b h)) (plc (inb (pre op)) true fl (oJ (inb (pre op)) b h)) := fun _ _ h _ => h
    obtain ⟨x, new, x2, ⟨h1, h2⟩, _, _, h3⟩ := zJ hq (kQ _) ha hsub (.inl rfl)
    have h4 := h3 (fun s' => s' = ⟨jF (jC i (pre op) 0 l vs t) op.dst x2, plc (inb (pre op)) true fl (oJ (inb (pre op)) b h) ++ new⟩) rfl
    have hval : ∀ (y : AV) (os : List aA), uK op ⟨jF (jC i (pre op) 0 l vs t) op.dst y, os⟩ = y ∨ uK op ⟨jF (jC i (pre op) 0 l vs t) op.dst y, os⟩ = .undef := by
      intro y os
      unfold uK jF
      cases op.dst with
      | none => exact .inr rfl
      | some d =>
        dsimp only
        rw [List.getD_eq_getElem?_getD, List.getElem?_set_self']
        cases (jC i (pre op) 0 l vs t)[d]? with
        | none => exact .inr rfl
        | some z => exact .inl rfl
    obtain ⟨ext0, hbase⟩ := aWc (J := inb (pre op)) hc
    have hsl' : ∀ q ∈ fl, q.2.1 < (oJ (inb (pre op)) b h).length := fun q hq => by rw [hbase]; have := hsl q hq; simp; omega
    have hnorm : plc uG true fl (plc (inb (pre op)) true fl (oJ (inb (pre op)) b h) ++ new) = oJ (inb (pre op)) b h ++ new := by
      rw [aHn (by rw [nK]; exact hsl'), bFw hnd hsl', aNc _ hb hN]
    simp only [hnorm] at h2
    generalize hvv : uK op ⟨jF (jC i (pre op) 0 l vs t) op.dst x, plc (inb (pre op)) true fl (oJ (inb (pre op)) b h) ++ new⟩ = vv at h2
    have hvx : vv = x2 ∨ vv = .undef := by
      rcases hval x (plc (inb (pre op)) true fl (oJ (inb (pre op)) b h) ++ new) with e | e
      · rw [hvv] at e; subst e; assumption
      · rw [hvv] at e; exact .inr e
    have hlen : ((plc (inb (pre op)) true fl (oJ (inb (pre op)) b h) ++ new).length = (oJ (inb (pre op)) b h).length) ↔ new = [] := by
      rw [List.length_append, nK]; constructor
      · intro e; exact List.eq_nil_of_length_eq_zero (by omega)
      · rintro rfl; simp
    have item : ∀ (vs' : List AV) (hf : List (Nat × List aA)), ((∃ suf, hf = suf ++ h ∧ new = [] ∧ ∀ q ∈ suf, i < q.1) ∨ (vR (pre op) h = true ∧ ∃ s2, hf = s2 ++ (i, oJ (inb (pre op)) b h ++ new) :: h ∧ ∀ q ∈ s2, i < q.1)) → Item P l t b fl i op ((vs ++ [vv]) ++ vs') hf := by
      intro vs' hf hcase
      have e1 : ((vs ++ [vv]) ++ vs').take i = vs := by rw [List.append_assoc, List.take_left' hv]
      have e2 : ((vs ++ [vv]) ++ vs').getD i .undef = vv := by
        rw [List.append_assoc, List.getD_eq_getElem?_getD, List.getElem?_append_right (by omega), hv, Nat.sub_self]; rfl
      refine ⟨hpr, .inr ⟨hnf, x2, new, h, ?_⟩⟩
      rw [e1, e2]
      rcases hcase with ⟨suf, rfl, hn, hs⟩ | ⟨ht, s2, rfl, hs⟩
      · exact ⟨suf, hq, rfl, hlt, hvx, h4, .inl ⟨hn, hs⟩⟩
      · exact ⟨s2 ++ [(i, oJ (inb (pre op)) b h ++ new)], hq, by simp, hlt, hvx, h4, .inr ⟨ht, s2, rfl, hs⟩⟩
    by_cases hnew : new = []
    · rw [if_pos (hlen.2 hnew)] at h2
      obtain ⟨m, vs', hf, km, k1, k2, ⟨suf, k3, k4⟩, k6, k5⟩ := aCo hnd hsl hb r (i + 1) (vs ++ [vv]) h hdr (by simp [hv]) (by omega) (fun q hq => by have := hlt q hq; omega) hN hc h2
      refine ⟨m, vv :: vs', hf, by omega, by simpa using k1, k2, ⟨suf, k3, fun q hq => by have := k4 q hq; omega⟩, k6, fun j op' hij hjm hj => ?_⟩
      by_cases hji : j = i
      · subst hji
        rw [hop] at hj; obtain rfl := Option.some.inj hj
        have := item vs' hf (.inl ⟨suf, k3, hnew, fun q hq => by have := k4 q hq; omega⟩)
        simpa using this
      · have := k5 j op' (by omega) hjm hj
        simpa using this
    · rw [if_neg (fun e => hnew (hlen.1 e))] at h2
      have ht : vR (pre op) h = true := h1.resolve_right (fun e => hnew (hlen.1 e))
      have hc' : wR l b ((i, oJ (inb (pre op)) b h ++ new) :: h) := by
        refine ⟨⟨new, by rw [aSs ht]⟩, fun p hp => ?_, hc⟩
        cases h with
        | nil => cases hp
        | cons q h =>
          obtain rfl := Option.some.inj hp
          exact ⟨hlt _ (by simp), op, hop, by simpa [vR] using ht⟩
      obtain ⟨m, vs', hf, km, k1, k2, ⟨suf, k3, k4⟩, k6, k5⟩ := aCo hnd hsl hb r (i + 1) (vs ++ [vv]) _ hdr (by simp [hv]) (by omega) (fun q hq => by
        rcases List.mem_cons.1 hq with rfl | hq
        · simp
        · have := hlt q hq; omega) (fun q hq => by
        rcases List.mem_cons.1 hq with rfl | hq
        · show plc uG true fl (oJ (inb (pre op)) b h ++ new) = _
          rw [aHn hsl', aNc _ hb hN]
        · exact hN q hq) hc' h2
      refine ⟨m, vv :: vs', hf, by omega, by simpa using k1, k2, ⟨suf ++ [(i, oJ (inb (pre op)) b h ++ new)], by simp [k3], fun q hq => by
        rcases List.mem_append.1 hq with hq | hq
        · have := k4 q hq; omega
        · simp at hq; subst hq; exact ⟨by simp, by omega⟩⟩, k6, fun j op' hij hjm hj => ?_⟩
      by_cases hji : j = i
      · subst hji
        rw [hop] at hj; obtain rfl := Option.some.inj hj
        have := item vs' hf (.inr ⟨ht, suf, k3, fun q hq => by have := k4 q hq; omega⟩)
        simpa using this
      · have := k5 j op' (by omega) hjm hj
        simpa using this
theorem aZv {P:Program} [aB P] {id:Nat} {l:List Oper} {s:AS} {Q:Exit→AS→Prop} {fl:List (Nat×Nat×List AV)} {b:List aA} (hfw:zM l=true) (hdst:distinct l=true) (hfl:aHh fl b.length=true) (hb:plc uG true fl b=b) (hb0:plc uG false fl b=s.o++(fl.map (·.2.2.length)).map fun n=>⟨true,false,n,0,[]⟩)
  (h:gN P l s.t b fl (Q .normal) 0 l [] []):awp P (.region id l.toArray true) s Q:=by
 simp only [aHh,Bool.and_eq_true,decide_eq_true_eq,List.all_eq_true] at hfl
 obtain ⟨hnd1,hnd,hsl⟩:=hfl
 obtain ⟨m,vs,hf,_,hK,hc,⟨suf0,hsuf0,hlt0⟩,hN,hit⟩:=aCo hnd hsl hb l 0 [] [] rfl rfl (by omega) (by simp) (by simp) trivial h
 simp only [List.nil_append] at hK hit
 have hit':∀j op,j < m→l[j]? =some op→Item P l s.t b fl j op vs hf:=fun j op hjm hj=>hit j op (by omega) hjm hj
 have hslJ:∀J:Nat→Bool,∀q∈fl,q.2.1 < (oJ J b hf).length:=fun J q hq=>by
  obtain ⟨ext,he⟩:=aWc (J:=J) hc
  rw [he];have:=hsl q hq;simp;omega
 unfold awp
 have hml:m≤l.length:=by
  rcases hK with h|h|h
  ·omega
  ·omega
  ·omega
 have hrest:qO l m=true:=by
  rcases hK with h|h|h
  ·rw [h.1]
   unfold qO
   rw [List.all_eq_true]
   intro i hi
   simp at hi
   simp only [Bool.or_eq_true,decide_eq_true_eq]
   exact .inl (by omega)
  ·exact h.2.1
  ·exact h.2.1
 refine aR5 (ops:=l.toArray) m (by simpa using hml) (by simpa using hfw) (by simpa using hrest) (fun J=>⟨dV J 0 l vs s.t,plc J false fl (oJ J b hf)⟩) ?_ ?_ ?_
 ·have e1:∀(l:List Oper) (j:Nat) (vs t:List AV),dV (fun _=>false) j l vs t=t:=by
   intro l
   induction l with
   |nil=>intros;rfl
   |cons op r ih=>
    intro j vs t
    simp only [dV]
    rw [ih]
    unfold rE
    cases op.dst<;>simp
  have e2:∀h:List (Nat×List aA),oJ (fun _=>false) b h=b:=by
   intro h
   induction h with
   |nil=>rfl
   |cons q r ih=>simp [oJ,ih]
  rw [e1,e2]
  have e3:plc (fun _=>false) false fl b=_:=hb0
  rw [e3]
  exact fun _ _ _ _ _ r=>aJ2 _ r
 ·intro i op him hi
  have hi':l[i]? =some op:=by simpa using hi
  have it:=hit' i op him hi'
  intro J hJ hJm hJi hpre
  have hJ':Clo l J:=by simpa using hJ
  rcases it.ex with ⟨q,hq,hqi,hg,⟨T,hT,hz⟩,hval,hne⟩|⟨hnf,x,new,hj,suf,hqq,hfe,hlt,hvx,hop,hcase⟩
  ·right
   refine ⟨hg,fun B=> ?_⟩
   have hoJ:∀h:List (Nat×List aA),(∀p∈h,p.1≠i)→oJ (upd J i) b h=oJ J b h:=by
    intro h
    induction h with
    |nil=>intro _;rfl
    |cons p r ih=>
     intro hq
     simp only [oJ]
     rw [ih fun p hp=>hq p (by simp [hp])]
     have:upd J i p.1=J p.1:=by unfold upd;rw [if_neg (hq p (by simp))]
     rw [this]
   have hto:dV (upd J i) 0 l vs s.t=jF (dV J 0 l vs s.t) op.dst (.ptr q.2.1 1 0 0):=by
    have:=aCv l 0 i op vs s.t (.ptr q.2.1 1 0 0) hdst hi' (by simpa using hJi) hval
    rwa [Nat.zero_add] at this
   have hplc:plc (upd J i) false fl (oJ J b hf)=(plc J false fl (oJ J b hf)).set q.2.1 ⟨true,true,q.2.2.length,1,[q.2.2]⟩:=by
    rw [←hqi];exact bF5 hnd1 hnd (hslJ J) hq
   rw [hto,hoJ hf hne,hplc]
   have hslot:(plc J false fl (oJ J b hf))[q.2.1]? =some ⟨true,false,q.2.2.length,0,[]⟩:=by
    rw [wL hnd hq (hslJ J q hq)]
    unfold flv
    rw [if_neg (by rw [hqi,hJi];simp)]
    rfl
   obtain ⟨dst,o,ty,pos,after,gd⟩:=op
   dsimp only at hT hg⊢
   subst hT
   have:=aSm (B:=B) (s:=⟨dV J 0 l vs s.t,plc J false fl (oJ J b hf)⟩) (dst:=dst) (ty:=ty) (pos:=pos) (after:=after) (gd:=gd) T hz hslot
   rw [put_eq] at this
   exact this
  left
  have hmask:wk (dV J 0 l vs s.t) (jC i (pre op) 0 l (vs.take i) s.t):=
   aG7 hJi (fun e he=>⟨hpre e he,it.pre e he⟩) l 0 vs (vs.take i) s.t s.t (fun k q hk hJk=>hJ' k q hk (by simpa using hJk)) (fun k hk=>by
    rw [List.getD_eq_getElem?_getD,List.getD_eq_getElem?_getD,List.getElem?_take];simp [show k < i by omega]) (kQ _)
  have hskip:∀(J':Nat→Bool) (s2:List (Nat×List aA)),(∀q∈s2,J' q.1=false)→∀h',oJ J' b (s2++h')=oJ J' b h':=fun J' s2 h1 h'=>aNl J' b h1
  have hprf:∀q:Nat×List aA,i≤q.1→inb (pre op) q.1=false:=fun q hq=>by
   cases hb:inb (pre op) q.1 with
   |false=>rfl
   |true=>have:=it.pre q.1 (by simpa [inb] using hb);omega
  have hoc:oJ (inb (pre op)) b hf=oJ (inb (pre op)) b hj:=by
   rw [hfe]
   refine aNl _ _ fun q hq=>hprf q ?_
   rcases hcase with ⟨_,h1⟩|⟨_,s2,rfl,h1⟩
   ·have:=h1 q hq;omega
   ·rcases List.mem_append.1 hq with hq|hq
    ·have:=h1 q hq;omega
    ·simp at hq;subst hq;simp
  obtain ⟨ext,hext⟩:=aTe (J:=J) hpre hc
  rw [hoc] at hext
  have hslm:∀q∈fl,q.2.1 < (oJ (inb (pre op)) b hj).length:=fun q hq=>by rw [←hoc];exact hslJ _ q hq
  have hobj:(new=[]∧oJ (upd J i) b hf=oJ J b hf)∨(ext=[]∧oJ (upd J i) b hf=oJ (inb (pre op)) b hj++new):=by
   rcases hcase with ⟨h1,h2⟩|⟨ht,s2,rfl,h2⟩
   ·refine .inl ⟨h1,?_⟩
    have:∀h:List (Nat×List aA),(∀q∈h,q.1≠i)→oJ (upd J i) b h=oJ J b h:=by
     intro h
     induction h with
     |nil=>intro _;rfl
     |cons q r ih=>
      intro hq
      simp only [oJ]
      rw [ih fun p hp=>hq p (by simp [hp])]
      have:upd J i q.1=J q.1:=by unfold upd;rw [if_neg (hq q (by simp))]
      rw [this]
    refine this hf fun q hq=> ?_
    rw [hfe] at hq
    rcases List.mem_append.1 hq with hq|hq
    ·have:=h2 q hq;omega
    ·have:=hlt q hq;omega
   ·right
    have hfe':hf=s2++(i,oJ (inb (pre op)) b hj++new)::hj:=by simp [hfe]
    have hs2:=aIk hJ' (s:=s2) (by rw [←hfe'];exact hc) hJi
    constructor
    ·have h3:oJ J b hf=oJ J b hj:=by
      rw [hfe',hskip J s2 hs2]
      simp only [oJ];rw [if_neg (by rw [hJi];simp)]
     have h4:oJ J b hj=oJ (inb (pre op)) b hj:=by
      rw [aSs ht]
      cases hj with
      |nil=>rfl
      |cons q r=>
       simp only [vR,decide_eq_true_eq] at ht
       simp only [oJ,top];rw [if_pos (hpre _ ht)]
     rw [h3,h4] at hext
     have:=congrArg List.length hext
     rw [List.length_append] at this
     exact List.eq_nil_of_length_eq_zero (by omega)
    ·rw [hfe',hskip (upd J i) s2 (fun q hq=>by
      have:=h2 q hq
      unfold upd;rw [if_neg (by omega)];exact hs2 q hq)]
     simp [oJ,upd]
  have hsub:Sub (plc (inb (pre op)) true fl (oJ (inb (pre op)) b hj)) (plc J false fl (oJ J b hf)):=by
   rw [hext];exact bF3 hnd hslm hpre
  obtain ⟨x',new',x2,rfl',hx2,_,hfin⟩:=zJ (o2:=plc J false fl (oJ J b hf)) hqq hmask hop hsub (by
   rcases hobj with ⟨h1,_⟩|⟨h1,_⟩
   ·right;rintro s' rfl;simp [h1]
   ·left;rw [nK,nK,hext,h1,List.append_nil])
  refine hfin _ ?_
  have hset:new'=new∧(jF (jC i (pre op) 0 l (vs.take i) s.t) op.dst x'=jF (jC i (pre op) 0 l (vs.take i) s.t) op.dst x):=by
   simp only [AS.mk.injEq,List.append_cancel_left_eq] at rfl'
   exact ⟨rfl'.2,rfl'.1⟩
  have hto:wk (jF (dV J 0 l vs s.t) op.dst x2) (dV (upd J i) 0 l vs s.t):=by
   have:=aCv l 0 i op vs s.t (vs.getD i .undef) hdst hi' (by simpa using hJi) rfl
   rw [Nat.zero_add] at this
   rw [this]
   have hL:=aGw hmask
   unfold jF at hset⊢
   cases hd:op.dst with
   |none=>exact kQ _
   |some d=>
    rw [hd] at hset
    dsimp only at hset⊢
    rcases Nat.lt_or_ge d (dV J 0 l vs s.t).length with hdl|hle
    ·have hxx:x'=x:=by
      have:=congrArg (fun t=>t[d]?) hset.2
      simpa [hL▸hdl] using this
     refine aGx d (kQ _) ?_
     rcases hvx with e|e
     ·rw [e,←hxx];assumption
     ·exact .inr e
    ·rw [List.set_eq_of_length_le hle,List.set_eq_of_length_le hle]
     exact kQ _
  have hcong:∀o:List aA,plc (upd J i) false fl o=plc J false fl o:=fun o=>aOh fun q hq=>by
   unfold upd;rw [if_neg (hnf q hq)]
  have hobj2:plc J false fl (oJ J b hf)++new'=plc (upd J i) false fl (oJ (upd J i) b hf):=by
   rw [hcong,hset.1]
   rcases hobj with ⟨h1,h2⟩|⟨h1,h2⟩
   ·rw [h2,h1,List.append_nil]
   ·rw [h2,aHn hslm,hext,h1,List.append_nil]
  rw [hobj2]
  exact vG hto
 ·intro J hJ hJm hor
  have hJ':Clo l J:=by simpa using hJ
  have hsz:l.toArray.size=l.length:=by simp
  rw [hsz]
  have e0:l.toArray.toList=l:=by simp
  rw [e0] at hor⊢
  rcases hK with ⟨hme,hK⟩|⟨hmlt,_,hK⟩|⟨hmlt,_,htl,hK⟩
  ·left
   have hall:∀i,i < l.length→J i=true:=by
    intro i hi
    rcases hor with h|⟨op,hop,_⟩
    ·exact h i (by omega)
    ·have:=(List.getElem?_eq_some_iff.1 hop).1;omega
   have e3:(List.range l.length).map J=List.replicate l.length true:=by
    refine List.ext_getElem? fun i=> ?_
    rw [List.getElem?_map,List.getElem?_replicate]
    by_cases hi:i < l.length
    ·simp [hi,hall i hi]
    ·simp [hi]
   have e4:left (List.replicate l.length true)=0:=by
    unfold left
    rw [List.filter_eq_nil_iff.2]
    ·rfl
    ·intro x hx
     rw [(List.mem_replicate.1 hx).2];simp
   rw [e3,e4]
   simp only [nW]
   have e5:dV J 0 l vs s.t=dV (fun _=>true) 0 l vs s.t:=zI l 0 vs s.t fun k hk=>by rw [Nat.zero_add];exact hall k hk
   have e6:oJ J b hf=top b hf:=by
    cases hf with
    |nil=>rfl
    |cons q r=>
     simp only [oJ,top]
     rw [if_pos]
     have:=(hlt0 q (by
      have:q::r=suf0:=by simpa using hsuf0
      rw [←this];simp)).2
     exact hall _ (by omega)
   have e7:plc J false fl (top b hf)=plc (fun k=>decide (k < m)) false fl (top b hf):=by
    have:J=fun k=>decide (k < m):=by
     funext k
     by_cases hk:k < m
     ·rw [hall k (by omega)];simp [hk]
     ·rw [hJm k (by omega)];simp [hk]
    rw [this]
   rw [e5,e6,e7]
   exact hK
  ·left
   have hop:=List.getElem?_eq_getElem hmlt
   have hpre:∀e∈pre l[m],J e=true:=by
    rcases hor with h|⟨op,hop',h⟩
    ·exact fun e he=>h e (aCr hfw hop e he)
    ·rw [hop] at hop'
     obtain rfl:=Option.some.inj hop'
     exact h
   have e1:=bIz hop hJ' hJm hpre
   have:=aJc (fun k=> !J k) (nC l m) [] hK
   rw [List.append_nil,←e1] at this
   exact this
  ·right
   have hop:=List.getElem?_eq_getElem hmlt
   have hall:∀i,i < m→J i=true:=by
    rcases hor with h|⟨op,hop',h⟩
    ·exact h
    ·exact bCo htl hop' hJ' h
   refine ⟨htl,hall,?_⟩
   have hJf:J=fun k=>decide (k < m):=by
    funext k
    by_cases hk:k < m
    ·rw [hall k hk];simp [hk]
    ·rw [hJm k (by omega)];simp [hk]
   have e6:oJ J b hf=top b hf:=by
    cases hf with
    |nil=>rfl
    |cons q r=>
     simp only [oJ,top]
     rw [if_pos]
     have:=(hlt0 q (by
      have:q::r=suf0:=by simpa using hsuf0
      rw [←this];simp)).2
     exact hall _ (by omega)
   rw [e6,hJf]
   exact hK
theorem aOz {P:Program} [aB P] {l:List Oper} {t:List AV} {b:List aA} {fl:List (Nat×Nat×List AV)} {K:AS→Prop} {i:Nat} {vs:List AV} {h:List (Nat×List aA)} {t':List AV} {o':List aA} (ht:dV (fun _=>true) 0 l vs t=t') (ho:plc (fun k=>decide (k < i)) false fl (top b h)=o') (hk:K ⟨t',o'⟩):gN P l t b fl K i [] vs h:=by
 simp only [gN,ht,ho];exact hk
theorem aEm {P:Program} [aB P] {l:List Oper} {t:List AV} {b:List aA} {fl:List (Nat×Nat×List AV)} {K:AS→Prop} {i:Nat} {op:Oper} {r:List Oper} {vs:List AV} {h:List (Nat×List aA)}
  {pr:List Nat} {m:List AV} {om:List aA} (hnf:(fl.all fun q=>decide (q.1≠i))=true) (hpr:pre op=pr) (hlt:(pr.all fun e=>decide (e < i))=true) (hm:jC i pr 0 l vs t=m) (ho:plc (inb pr) true fl (oJ (inb pr) b h)=om) (hq:jS op.op ⟨m,om⟩=true)
  (ha:lV P l op ⟨m,om⟩ fun s'=>(vR pr h=true∨s'.o.length=om.length)∧gN P l t b fl K (i+1) r (vs++[uK op s']) (if s'.o.length=om.length then h else (i,plc uG true fl s'.o)::h)):gN P l t b fl K i (op::r) vs h:=by
 subst hpr;subst hm;subst ho
 simp only [gN]
 simp only [nK] at ha
 exact .inr (.inl ⟨fun q hq=>by have:=List.all_eq_true.1 hnf q hq;simpa using this,hq,fun e he=>by have:=List.all_eq_true.1 hlt e he;simpa using this,ha⟩)
theorem aVa {P:Program} [aB P] {l:List Oper} {t:List AV} {b:List aA} {fl:List (Nat×Nat×List AV)} {K:AS→Prop} {i:Nat} {op:Oper} {r:List Oper} {vs:List AV} {h:List (Nat×List aA)} {q:Nat×Nat×List AV} {T:TypeId}
  (hq:fl.find? (fun q=>q.1 == i)=some q) (hg:op.guard=none) (hT:op.op= .alloc T) (hz:zeroA P T=some q.2.2) (hlt:((pre op).all fun e=>decide (e < i))=true) (hd:gN P l t b fl K (i+1) r (vs++[.ptr q.2.1 1 0 0]) h):gN P l t b fl K i (op::r) vs h:=by
 simp only [gN]
 refine .inl ⟨q,List.mem_of_find?_eq_some hq,by have:=List.find?_some hq;simpa using this,hg,⟨T,hT,hz⟩,fun e he=>by have:=List.all_eq_true.1 hlt e he;simpa using this,hd⟩
theorem aG6 {P:Program} [aB P] {l:List Oper} {t:List AV} {b:List aA} {fl:List (Nat×Nat×List AV)} {K:AS→Prop} {i:Nat} {op:Oper} {r:List Oper} {vs:List AV} {h:List (Nat×List aA)} {z:List Nat}
  (hr:qO l i=true) (hz:nC l i=z) (ha:rM (fun z=>nW P l K (left ((List.range l.length).map (jz i z))) ((List.range l.length).map (jz i z)) ⟨dV (jz i z) 0 l vs t,plc (jz i z) false fl (oJ (jz i z) b h)⟩) [] z):gN P l t b fl K i (op::r) vs h:=by
 subst hz
 simp only [gN]
 exact .inr (.inr (.inl ⟨hr,ha⟩))
theorem aOm {P:Program} [aB P] {l:List Oper} {t t':List AV} {b b':List aA} {fl:List (Nat×Nat×List AV)} {K:AS→Prop} {i:Nat} {op:Oper} {r:List Oper} {vs:List AV} {h:List (Nat×List aA)}
  (htl:(qO l i&&xP l i)=true) (ht:dV (fun k=>decide (k < i)) 0 l vs t=t') (ho:plc (fun k=>decide (k < i)) false fl (top b h)=b') (ha:dP P l (op::r) ⟨t',b'⟩ K):gN P l t b fl K i (op::r) vs h:=by
 subst ht;subst ho
 simp only [Bool.and_eq_true] at htl
 simp only [gN]
 exact .inr (.inr (.inr ⟨htl.1,htl.2,ha⟩))
def aCn (J:Nat→Bool):Nat→List Oper→List Bool
 |_,[]=>[]
 |j,_::r=>J j::aCn J (j+1) r
theorem aO1 {J:Nat→Bool}:∀(l:List Oper) (j i:Nat),(aCn J j l)[i]? =if i < l.length then some (J (j+i)) else none
 |[],_,_=>by simp [aCn]
 |_::r,j,0=>by simp [aCn]
 |_::r,j,i+1=>by
  simp only [aCn,List.getElem?_cons_succ,List.length_cons]
  rw [aO1 r (j+1) i,show j+1+i=j+(i+1) by omega]
  simp
theorem bDc (J:Nat→Bool) (l:List Oper):(List.range l.length).map J=aCn J 0 l:=by
 refine List.ext_getElem? fun i=> ?_
 rw [aO1,List.getElem?_map]
 by_cases hi:i < l.length
 ·simp [hi]
 ·simp [hi]
def aE4 (d:List Bool):Nat→List Oper→List Nat
 |_,[]=>[]
 |i,op::r=>if (!d.getD i false&&(pre op).all fun e=>d.getD e false)=true then i::aE4 d (i+1) r else aE4 d (i+1) r
theorem aCc {d:List Bool}:∀{l:List Oper} {k i:Nat},i∈aE4 d k l↔∃j op,l[j]? =some op∧i=k+j∧(!d.getD i false&&(pre op).all fun e=>d.getD e false)=true
 |[],k,i=>by simp [aE4]
 |op::r,k,i=>by
  simp only [aE4]
  constructor
  ·intro h
   by_cases hc:(!d.getD k false&&(pre op).all fun e=>d.getD e false)=true
   ·rw [if_pos hc] at h
    rcases List.mem_cons.1 h with rfl|h
    ·exact ⟨0,op,rfl,rfl,hc⟩
    ·obtain ⟨j,o,h1,h2,h3⟩:=aCc.1 h
     exact ⟨j+1,o,by simpa using h1,by omega,h3⟩
   ·rw [if_neg hc] at h
    obtain ⟨j,o,h1,h2,h3⟩:=aCc.1 h
    exact ⟨j+1,o,by simpa using h1,by omega,h3⟩
  ·rintro ⟨j,o,h1,rfl,h3⟩
   cases j with
   |zero=>
    simp at h1;subst h1
    rw [Nat.add_zero] at h3⊢
    rw [if_pos h3];simp
   |succ j=>
    have:=aCc.2 ⟨j,o,by simpa using h1,show k+(j+1)=k+1+j by omega,h3⟩
    split
    ·exact List.mem_cons_of_mem _ this
    ·exact this
theorem aO3 {P:Program} [aB P] {l:List Oper} {K:AS→Prop} {n:Nat} {d:List Bool} {s:AS} {r':List Nat} (h:nR P l K n d s r'):∀r:List Nat,(∀i∈r,i∈r')→nR P l K n d s r
 |[],_=>by simp only [nR]
 |i::r,hs=>by
  simp only [nR]
  exact ⟨aF6 h i (hs i (by simp)),aO3 h r fun j hj=>hs j (by simp [hj])⟩
theorem aZl {P:Program} [aB P] {l:List Oper} {K:AS→Prop} {n:Nat} {d:List Bool} {s:AS} {rl:List Nat} (hr:aE4 d 0 l=rl) (h:nR P l K n d s rl):nW P l K (n+1) d s:=by
 simp only [nW]
 refine aO3 h _ fun i hi=> ?_
 rw [←hr,aCc]
 unfold aLr at hi
 rw [List.mem_filter] at hi
 obtain ⟨h1,h2⟩:=hi
 have hlt:i < l.length:=by simpa using h1
 have hop:=List.getElem?_eq_getElem hlt
 have hp:iA l i=pre l[i]:=by simp [iA,hop]
 exact ⟨i,l[i],hop,by omega,by rw [←hp];exact h2⟩
theorem aZ9 {P:Program} [aB P] {l:List Oper} {K:AS→Prop} {d:List Bool} {s:AS} (h:K s):nW P l K 0 d s:=by simpa only [nW] using h
theorem bAd {P:Program} [aB P] {l:List Oper} {K:AS→Prop} {n:Nat} {d d':List Bool} {s:AS} {i:Nat} {op:Oper} (hop:l[i]? =some op) (hd:d.set i true=d') (h:dP P l [op] s fun s'=>nW P l K n d' s'):nR P l K n d s [i]:=by
 subst hd
 simp only [nR]
 exact ⟨⟨op,hop,h⟩,trivial⟩
theorem sy {P:Program} [aB P] {l:List Oper} {K:AS→Prop} {n:Nat} {d:List Bool} {s:AS} {i j:Nat} {r:List Nat} (h1:nR P l K n d s [i]) (h2:nR P l K n d s (j::r)):nR P l K n d s (i::j::r):=by
 simp only [nR] at h1 h2⊢
 exact ⟨h1.1,h2⟩
theorem sx {F:List Nat→Prop} {acc:List Nat} {z:Nat} {r:List Nat} (h1:rM F acc r) (h2:rM F (z::acc) r):rM F acc (z::r):=⟨h1,h2⟩
theorem bBe {P:Program} [aB P] {l:List Oper} {t t':List AV} {b o':List aA} {fl:List (Nat×Nat×List AV)} {K:AS→Prop} {i n:Nat} {vs:List AV} {h:List (Nat×List aA)} {acc:List Nat} {d:List Bool} (hd:aCn (jz i acc) 0 l=d) (hn:left d=n) (ht:dV (jz i acc) 0 l vs t=t') (ho:plc (jz i acc) false fl (oJ (jz i acc) b h)=o')
  (ha:nW P l K n d ⟨t',o'⟩):rM (fun z=>nW P l K (left ((List.range l.length).map (jz i z))) ((List.range l.length).map (jz i z)) ⟨dV (jz i z) 0 l vs t,plc (jz i z) false fl (oJ (jz i z) b h)⟩) acc []:=by
 subst hn;subst ht;subst ho;subst hd
 simp only [rM,bDc]
 exact ha
theorem sK {P:Program} [aB P] {all:List Oper} {K1 K2:AS→Prop} (hk:∀s',K1 s'→K2 s'):∀(r:List Oper) (s:AS),dP P all r s K1→dP P all r s K2
 |[],s,h=>by simp only [dP] at h⊢;exact hk s h
 |o::r,s,h=>by
  simp only [dP] at h⊢
  split at h
  ·rcases h with h|h|h
   ·exact .inl (aM6 (sK hk r) h)
   ·exact .inr (.inl (aS1 (sK hk r) h))
   ·exact .inr (.inr (aOt (sK hk r) h))
  ·split at h
   ·exact ⟨fun e=>(h.1 e).imp (aM6 (sK hk r)) (Or.imp (aS1 (sK hk r)) (aOt (sK hk r))),fun e=>sK hk r _ (h.2 e)⟩
   ·exact h.elim
mutual
theorem aRd {P : Program} [aB P] {l : List Oper} {K1 K2 : AS → Prop} (hk : ∀ s', K1 s' → K2 s') : ∀ (n : Nat) (d : List Bool) (s : AS), nW P l K1 n d s → nW P l K2 n d s
  | 0, d, s, h => by simp only [nW] at h ⊢; exact hk s h
  | n + 1, d, s, h => by simp only [nW] at h ⊢; exact aOf hk n d s _ h
theorem aOf {P : Program} [aB P] {l : List Oper} {K1 K2 : AS → Prop} (hk : ∀ s', K1 s' → K2 s') : ∀ (n : Nat) (d : List Bool) (s : AS) (r : List Nat), nR P l K1 n d s r → nR P l K2 n d s r
  | n, d, s, [], h => by simp only [nR]
  | n, d, s, i :: r, h => by
    simp only [nR] at h ⊢
    obtain ⟨⟨op, h1, h2⟩, h3⟩ := h
    exact ⟨⟨op, h1, sK (fun s' => aRd hk n _ s') _ _ h2⟩, aOf hk n d s r h3⟩
end
theorem aJd {F1 F2:List Nat→Prop} (hk:∀z,F1 z→F2 z):∀(z acc:List Nat),rM F1 acc z→rM F2 acc z
 |[],acc,h=>hk acc h
 |x::z,acc,h=>⟨aJd hk z acc h.1,aJd hk z (x::acc) h.2⟩
theorem aAv {P:Program} [aB P] {l:List Oper} {t:List AV} {b:List aA} {fl:List (Nat×Nat×List AV)} {K:AS→Prop} {i:Nat} {op:Oper} {r:List Oper} {vs:List AV} {h:List (Nat×List aA)} {z:List Nat} {s1:AS}
  (hr:qO l i=true) (hz:nC l i=z) (ha:rM (fun z=>nW P l (fun s'=>s'=s1) (left ((List.range l.length).map (jz i z))) ((List.range l.length).map (jz i z)) ⟨dV (jz i z) 0 l vs t,plc (jz i z) false fl (oJ (jz i z) b h)⟩) [] z) (hk:K s1):gN P l t b fl K i (op::r) vs h:=
 aG6 hr hz (aJd (fun z h=>aRd (fun s' e=>by subst e;exact hk) _ _ _ h) _ _ ha)
def floats (P:Program):Nat→Nat→List Oper→List (Nat×Nat×List AV)
 |_,_,[]=>[]
 |i,n,op::r=>match op.op with
  | .alloc T=>match zeroA P T with
   |some z=>(i,n,z)::floats P (i+1) (n+1) r
   |none=>floats P (i+1) n r
  |_=>floats P (i+1) n r
attribute [irreducible] gN
def aS (t:List AV):List (Nat×AV)→List AV
 |[]=>t
 |p::r=>aS (t.set p.1 p.2) r
theorem aR {P:Program} [aB P] {c:Code} {s:AS} {Q:Exit→AS→Prop} {ι:Type} (inv:List AV→List aA→ι→AS) (μ:ι→Nat) (i:ι) (h0:fG s (inv s.t s.o i)) (h:∀i,∀K:AS→Prop,(∀s' j,fG s' (inv s.t s.o j)→μ j < μ i→K s')→awp P c (inv s.t s.o i) (oC K Q)):awp P (.loop c) s Q:=bDe (inv s.t s.o) μ i h0 h
attribute [irreducible] rM
attribute [simp] aCn aE4 jz left plc flv uG floats pre aYx jC rE dV oJ top vR inb uK aS
end Go.Aw

namespace Go.Aw
theorem bBj {P:Program} [aB P] {all r:List Oper} {o:Oper} {s:AS} {K:AS→Prop} {j:Nat} {want:Bool} (hg:o.guard=some (j,want)) (hb:kM all s j want= .bool (!want)) (h:dP P all r (s.put o.dst (.tup [])) K):dP P all (o::r) s K:=by
 unfold dP
 rw [hg]
 dsimp only
 rw [hb]
 exact ⟨fun hn=>(by cases want<;>cases hn),fun _=>h⟩
theorem aSx {α:Type} {l:List α} {i:Nat} {x:α} (h:l[i]? =some x):l.set i x=l:=by
 obtain ⟨hi,rfl⟩:=List.getElem?_eq_some_iff.1 h
 exact List.set_getElem_self hi
theorem aW7 {P:Program} [aB P] {all r:List Oper} {o:Oper} {s:AS} {K:AS→Prop} {j d:Nat} {want b:Bool} (hg:o.guard=some (j,want)) (hd:(all[j]?).bind (·.dst)=some d) (hb:s.t[d]? =some (.bool b))
  (h1:b=true→dP P all (o::r) ⟨s.t.set d (.bool true),s.o⟩ K) (h2:b=false→dP P all (o::r) ⟨s.t.set d (.bool false),s.o⟩ K):dP P all (o::r) s K:=by
 cases b
 ·have:=h2 rfl
  rw [aSx hb] at this;exact this
 ·have:=h1 rfl
  rw [aSx hb] at this;exact this
def kP {α:Type} (f:α→Bool) (l:List α):Int:=if l.any f=true then (l.findIdx f:Nat) else -1
theorem uQ {α:Type} {f:α→Bool} {l:List α} {k:Nat} (h:k < l.length) (hf:f l[k]=true) (hn:∀x∈l.take k,f x=false):kP f l=k:=by
 unfold kP
 rw [if_pos (List.any_eq_true.2 ⟨_,List.getElem_mem h,hf⟩)]
 have:l.findIdx f=k:=by
  rw [List.findIdx_eq h]
  refine ⟨hf,fun j hj=> ?_⟩
  exact hn _ (List.mem_take_iff_getElem.2 ⟨j,by omega,rfl⟩)
 rw [this]
theorem pI {α:Type} {f:α→Bool} {l:List α} (hn:∀x∈l,f x=false):kP f l= -1:=by
 unfold kP
 rw [if_neg]
 intro h
 obtain ⟨x,hx,hf⟩:=List.any_eq_true.1 h
 rw [hn x hx] at hf;cases hf
theorem vL {α:Type} (f:α→Bool) (l:List α):decide (0≤kP f l)=l.any f:=by
 unfold kP
 cases h:l.any f<;>simp
theorem dK {α:Type} {p:α→Prop} {l:List α} {k:Nat} (h:k < l.length) (ha:∀x∈l.take k,p x) (hk:p l[k]):∀x∈l.take (k+1),p x:=by
 rw [List.take_succ_eq_append_getElem h]
 intro x hx
 rcases List.mem_append.1 hx with hx|hx
 ·exact ha x hx
 ·rw [List.mem_singleton.1 hx];exact hk
theorem iQ {α:Type} {p:α→Prop} {l:List α} {k:Nat} (hk:l.length≤k) (ha:∀x∈l.take k,p x):∀x∈l,p x:=by
 rwa [List.take_of_length_le hk] at ha
end Go.Aw

namespace Go.Aw
open Go.ChangeShapes Go.WideShapes Go.ChangeAt Go.RowKit
inductive Sh
  | int (k : IntKind)
  | bool
  | str
  | sl (n : Nat) (row : List Sh)
mutual
def Fits : Sh → AV → Prop
  | .int k, .int k' n => k' = k ∧ (Lit.int k n).wf = true
  | .bool, .bool _ => True
  | .str, .str s => s.length ≤ maxLen
  | .sl n row, .sl g n' rows => g = .view ∧ n' = n ∧ rows.length ≤ maxLen ∧ ∀ r ∈ rows, jK row r
  | _, _ => False
def jK : List Sh → List AV → Prop
  | [], [] => True
  | s :: ss, x :: xs => Fits s x ∧ jK ss xs
  | _, _ => False
end
theorem aF7:∀{ss tt:List Sh} {xs ys:List AV},jK ss xs→jK tt ys→jK (ss++tt) (xs++ys)
 |[],_,[],_,_,h=>h
 |s::ss,_,x::xs,_,h,h'=>by simp only [jK,List.cons_append] at h⊢;exact ⟨h.1,aF7 h.2 h'⟩
 |[],_,_::_,_,h,_=>h.elim
 |_::_,_,[],_,h,_=>h.elim
def shF (sh:TypeId→Option (List Sh)) (P:Program):List Field→Nat→Option (List Sh)
 |[],_=>some []
 |x::xs,o=>if x.offset=o then match sh x.type with
   |some a=>if a.length=P.cellsOf x.type then match shF sh P xs (o+a.length) with
     |some b=>some (a++b)
     |none=>none
    else none
   |none=>none
  else none
def shC (P:Program):Nat→TypeId→Option (List Sh)
 |0,_=>none
 |f+1,t=>match P.underlying t with
  |some .bool=>some [.bool]
  |some (.int k)=>some [.int k]
  |some .string=>some [.str]
  |some (.slice e)=>match shC P f e with
   |some row=>if row.length=P.cellsOf e∧0 < row.length then some [.sl row.length row] else none
   |none=>none
  |some (.struct fs)=>match shF (shC P f) P fs.toList 0 with
   |some r=>if r.length=P.cellsOf t then some r else none
   |none=>none
  |_=>none
theorem aIm {α:Type} {p:Nat→α→Prop}:∀(n:Nat),(∀i,i < n→∃x,p i x)→∃l:List α,l.length=n∧∀i x,l[i]? =some x→p i x
 |0,_=>⟨[],rfl,fun i x h=>by simp at h⟩
 |n+1,h=>by
  obtain ⟨l,hl,hp⟩:=aIm n (fun i hi=>h i (by omega))
  obtain ⟨x,hx⟩:=h n (by omega)
  refine ⟨l++[x],by simp [hl],fun i y hy=> ?_⟩
  by_cases hi:i < l.length
  ·rw [List.getElem?_append_left hi] at hy;exact hp i y hy
  ·rw [List.getElem?_append_right (by omega)] at hy
   have:i - l.length=0:=by
    cases hk:i - l.length with
    |zero=>rfl
    |succ k=>rw [hk] at hy;simp at hy
   rw [this] at hy
   simp at hy
   subst hy
   have:i=n:=by omega
   subst this;exact hx
theorem bD4 {w:World} {E:Env} {b n:Nat}:∀(rows:List (List AV)) (off:Nat),
  (∀j r,rows[j]? =some r→∃cs:List Value,cs.length=n∧dE w b (off+j * n) cs∧(∀x∈cs,x.oneCell'=true)∧Rc w E r cs [])→Rr w E rows b off n []
 |[],_,_=>by simp [Rr]
 |r::rs,off,h=>by
  obtain ⟨cs,h1,h2,h3,h4⟩:=h 0 r rfl
  refine ⟨cs,[],[],h1,by simpa using h2,h3,h4,bD4 rs (off+n) fun j r hj=> ?_,rfl⟩
  obtain ⟨cs,h1,h2,h3,h4⟩:=h (j+1) r (by simpa using hj)
  exact ⟨cs,h1,by rw [Nat.add_mul,Nat.one_mul,show off+(j * n+n)=off+n+j * n by omega] at h2;exact h2,h3,h4⟩
section
variable {H : Type} {enc : TypeId × Value → H} {P : Program} [aB P] {w : World} {spare : Nat → Bool} {held : Bool}
def Reads (enc:TypeId×Value→H) (P:Program) (w:World) (spare:Nat→Bool) (held:Bool) (t:TypeId) (ss:List Sh):Prop:=
 ∀fuel cs x,DataW.trod enc P w 0 spare held fuel t cs=some x→∃avs,jK ss avs∧Rc w (jJ w) avs cs []∧∀c∈cs,c.oneCell'=true
theorem aGs {sh:TypeId→Option (List Sh)} (ih:∀t ss,sh t=some ss→Reads enc P w spare held t ss) {n:Nat} {cs:List Value}:
  ∀(fs:List Field) (o:Nat) (rs:List Sh),shF sh P fs o=some rs→(∀f∈fs,∃y,DataW.trod enc P w 0 spare held n f.type ((cs.drop f.offset).take (P.cellsOf f.type))=some y)→
   ∃avs,jK rs avs∧Rc w (jJ w) avs ((cs.drop o).take rs.length) []∧∀c∈(cs.drop o).take rs.length,c.oneCell'=true
 |[],o,rs,h,_=>by
  simp only [shF,Option.some.injEq] at h
  subst h
  exact ⟨[],by simp [jK],by simp [Rc],by simp⟩
 |f::fs,o,rs,h,hf=>by
  simp only [shF] at h
  split at h
  ·rename_i ho
   split at h
   ·rename_i a ha
    split at h
    ·rename_i hl
     split at h
     ·rename_i b hb
      obtain rfl:=Option.some.inj h
      obtain ⟨y,hy⟩:=hf f (by simp)
      obtain ⟨x1,h1,h2,h3⟩:=ih _ _ ha _ _ _ hy
      obtain ⟨x2,h4,h5,h6⟩:=aGs ih fs _ _ hb fun f hf'=>hf f (by simp [hf'])
      rw [ho,←hl] at h2 h3
      have e:(cs.drop o).take (a++b).length=(cs.drop o).take a.length++(cs.drop (o+a.length)).take b.length:=by
       rw [List.length_append,List.take_add,List.drop_drop]
      refine ⟨x1++x2,aF7 h1 h4,by rw [e];exact gT h2 h5,fun c hc=> ?_⟩
      rw [e,List.mem_append] at hc
      exact hc.elim (h3 c) (h6 c)
     ·cases h
    ·cases h
   ·cases h
  ·cases h
theorem reads:∀(f:Nat) (t:TypeId) (ss:List Sh),shC P f t=some ss→Reads enc P w spare held t ss
 |0,_,_,h=>by simp [shC] at h
 |f+1,t,ss,h=>by
  intro fuel cs x hx
  unfold shC at h
  split at h
  ·rename_i ht
   obtain rfl:=Option.some.inj h
   obtain ⟨b,rfl,_⟩:=DataW.trod_bool ht hx
   exact ⟨[.bool b],by simp [jK,Fits],by simp [Rc,R],by simp [Value.oneCell']⟩
  ·rename_i k ht
   obtain rfl:=Option.some.inj h
   obtain ⟨n,rfl,_,hw⟩:=DataW.trod_int ht hx
   exact ⟨[.int k n],by simp [jK,Fits,hw],by simp [Rc,R],by simp [Value.oneCell']⟩
  ·rename_i ht
   obtain rfl:=Option.some.inj h
   obtain ⟨s,rfl,_,hw⟩:=DataW.trod_string ht hx
   exact ⟨[.str s.data.toList],by simpa [jK,Fits] using hw,by simp [Rc,R],by simp [Value.oneCell']⟩
  ·rename_i e ht
   split at h
   ·rename_i row hrow
    split at h
    ·rename_i hc
     obtain rfl:=Option.some.inj h
     have ih:=reads f e row hrow
     rcases DataW.trod_slice ht hx with ⟨rfl,_⟩|⟨a,len,cap,elems,rest,n,_,rfl,_,_,hlc,hcm,hlen,hel,_,_⟩
     ·exact ⟨[.sl .view row.length []],by simp [jK,Fits],by simp [Rc,R,maxLen],by simp [Value.oneCell']⟩
     ·rw [←hc.1] at hel
      have hrows:∀i,i < len→∃r:List AV,jK row r∧∃cs,w.cells? 0 (a.add (i * row.length)) row.length=some cs∧(∀x∈cs,x.oneCell'=true)∧Rc w (jJ w) r cs []:=by
       intro i hi
       have h1:=hel i hi
       rw [List.getElem?_eq_getElem (by omega)] at h1
       obtain ⟨cs,hcs,htr⟩:=Option.bind_eq_some_iff.1 h1
       obtain ⟨r,h2,h3,h4⟩:=ih _ _ _ htr
       exact ⟨r,h2,cs,hcs,h4,h3⟩
      obtain ⟨rows,hrl,hrp⟩:=aIm len hrows
      refine ⟨[.sl .view row.length rows],?_,?_,by simp [Value.oneCell']⟩
      ·simp only [jK,Fits,and_true,true_and]
       refine ⟨by omega,fun r hr=> ?_⟩
       obtain ⟨i,hi⟩:=List.getElem?_of_mem hr
       exact (hrp i r hi).1
      ·simp only [Rc]
       refine ⟨[],[],?_,rfl,rfl⟩
       simp only [R]
       refine .inr ⟨some a,cap,by rw [hrl],⟨by omega,by omega⟩,.inr (.inr ⟨by simp,trivial,?_⟩)⟩
       by_cases hl0:len=0
       ·exact .inl (List.length_eq_zero_iff.1 (by omega))
       right
       have h0:rows[0]? =some rows[0]:=List.getElem?_eq_getElem (by omega)
       obtain ⟨_,cs0,hcs0,_⟩:=hrp 0 _ h0
       have hcell:=(World.cells?_some hcs0).2.2 0 hc.2
       have hlen0:=(World.cells?_some hcs0).2.1
       have hspot:a.spot=none:=by
        have:w.cell? a=cs0[0]?:=by simpa [Addr.add] using hcell
        rw [List.getElem?_eq_getElem (by omega)] at this
        unfold World.cell? at this
        split at this
        ·split at this
         ·cases this
         ·rename_i hs;simpa using hs
        ·cases this
       have hblk:a.block < w.heap.size:=by
        have:=World.cells?_block hcs0 hc.2
        unfold Addr.add at this
        split at this<;>exact this
       obtain ⟨ab,ao,asp⟩:=a
       simp only at hspot hblk
       subst hspot
       refine ⟨ab,ao,rfl,hblk,bD4 rows ao fun j r hj=> ?_⟩
       obtain ⟨_,cs,hcs,h1,hR⟩:=hrp j r hj
       have hs:=World.cells?_some hcs
       refine ⟨cs,hs.2.1,fun k v hv=> ?_,h1,?_⟩
       ·have hk:k < row.length:=by
         have:=(List.getElem?_eq_some_iff.1 hv).1
         omega
        have:=hs.2.2 k hk
        rw [hv] at this
        rw [←this]
        congr 1
        unfold Addr.add
        split<;>split<;>simp_all<;>omega
       ·exact dI (w:=w) (w':=w) (E:=jJ w) ⟨fun b hb=>⟨hb,rfl⟩,fun _ h=>trivial,fun _ _ _ h=>by exact h.elim,fun _ _ _ h=>by exact h.elim,fun _ _ _ _ _ h=>by exact h.elim⟩ _ _ _ (by simp) hR
    ·cases h
   ·cases h
  ·rename_i fs ht
   split at h
   ·rename_i r hr
    split at h
    ·rename_i hc
     obtain rfl:=Option.some.inj h
     obtain ⟨xs,n,_,_,hcl,hxl,hfs⟩:=DataW.trod_struct ht hx
     obtain ⟨avs,h1,h2,h3⟩:=aGs (enc:=enc) (w:=w) (spare:=spare) (held:=held) (n:=n) (cs:=cs) (reads f) fs.toList 0 _ hr fun fl hfl=>by
      obtain ⟨i,hi⟩:=List.getElem?_of_mem hfl
      have:=hfs i fl (by simpa using hi)
      have hlt:=(List.getElem?_eq_some_iff.1 hi).1
      simp at hlt
      rw [List.getElem?_eq_getElem (by omega)] at this
      exact ⟨_,this⟩
     rw [List.drop_zero,List.take_of_length_le (by omega)] at h2 h3
     exact ⟨avs,h1,h2,h3⟩
    ·cases h
   ·cases h
  ·cases h
inductive ShV
  | one (s : Sh)
  | agg (row : List Sh)
def aX0:ShV→AV→Prop
 | .one s,x=>Fits s x
 | .agg row,.agg c=>jK row c
 |_,_=>False
def aD3:List ShV→List AV→Prop
 |[],[]=>True
 |s::ss,x::xs=>aX0 s x∧aD3 ss xs
 |_,_=>False
def shV (P:Program) (f:Nat) (t:TypeId):Option ShV:=match P.underlying t with
 |some (.struct _)=>(shC P f t).map .agg
 |some .bool|some (.int _)|some .string|some (.slice _)=>match shC P f t with
  |some [s]=>some (.one s)
  |_=>none
 |_=>none
def aSd (P:Program) (f:Nat):List TypeId→Option (List ShV)
 |[]=>some []
 |t::ts=>match shV P f t,aSd P f ts with
  |some s,some ss=>some (s::ss)
  |_,_=>none
theorem cells_one {v:Value} (h:∀cs,v≠ .agg cs):v.cells=#[v]:=by
 cases v<;>first|rfl|exact absurd rfl (h _)
theorem bG7 {base:Nat} {f:Nat} {t:TypeId} {s:ShV} (h:shV P f t=some s) {v:Value} {d:DataW H} {ps:List MemPlace} (hok:Value.okWide P w .any base t v)
  (hT:DataW.Trod enc P w 0 spare held t v d ps):∃av,aX0 s av∧R w (jJ w) av v []:=by
 obtain ⟨fuel,hT⟩:=hT
 unfold shV at h
 have one:(∀cs,v≠ .agg cs)→(match shC P f t with|some [s]=>some (ShV.one s)|_=>none)=some s→∃av,aX0 s av∧R w (jJ w) av v []:=by
  intro hv h
  split at h
  ·rename_i s1 hs
   obtain rfl:=Option.some.inj h
   obtain ⟨avs,h1,h2,_⟩:=reads f t _ hs _ _ _ hT
   rw [cells_one hv] at h2
   cases avs with
   |nil=>exact h1.elim
   |cons x xs=>
    cases xs with
    |nil=>
     simp only [Rc] at h2
     obtain ⟨f1,f2,hr,rfl,e⟩:=h2
     simp only [List.append_nil] at e
     subst e
     simp only [jK] at h1
     exact ⟨x,h1.1,hr⟩
    |cons y ys=>simp [jK] at h1
  ·cases h
 split at h
 ·rename_i fs ht
  obtain ⟨ss,hs,rfl⟩:=Option.map_eq_some_iff.1 h
  obtain ⟨cs,rfl,_⟩:=okWide_struct ht hok
  obtain ⟨avs,h1,h2,h3⟩:=reads f t _ hs _ _ _ hT
  exact ⟨.agg avs,h1,by simp only [R];exact ⟨cs.toList,by simp,h3,h2⟩⟩
 ·rename_i ht;exact one (fun cs e=>by subst e;simp [Value.okWide,ht,Cell.okWide,Cell.ok] at hok) h
 ·rename_i ht;exact one (fun cs e=>by subst e;simp [Value.okWide,ht,Cell.okWide,Cell.ok] at hok) h
 ·rename_i ht;exact one (fun cs e=>by subst e;simp [Value.okWide,ht,Cell.okWide,Cell.ok] at hok) h
 ·rename_i ht;exact one (fun cs e=>by subst e;simp [Value.okWide,ht,Cell.okWide,Cell.ok] at hok) h
 ·cases h
theorem aWn {base:Nat} {f:Nat}:∀{ts:List TypeId} {ss:List ShV},aSd P f ts=some ss→∀{vs:List Value} {ds:List (DataW H)} {ps:List MemPlace},
  (∀(j:Nat) t v,ts[j]? =some t→vs[j]? =some v→Value.okWide P w .any base t v)→DataW.TrodAll enc P w 0 spare held ts vs ds ps→∃avs,aD3 ss avs∧Rc w (jJ w) avs vs []
 |[],ss,h,[],_,_,_,_=>by
  simp only [aSd,Option.some.injEq] at h
  subst h
  exact ⟨[],trivial,by simp [Rc]⟩
 |t::ts,ss,h,v::vs,d::ds,ps,hok,hT=>by
  simp only [aSd] at h
  split at h
  ·rename_i s ss' h1 h2
   obtain rfl:=Option.some.inj h
   obtain ⟨p,q,ht,hr,_⟩:=hT
   obtain ⟨x,hx,hR⟩:=bG7 h1 (hok 0 t v rfl rfl) ht
   obtain ⟨xs,hxs,hRs⟩:=aWn h2 (fun j t v h1 h2=>hok (j+1) t v (by simpa using h1) (by simpa using h2)) hr
   exact ⟨x::xs,⟨hx,hxs⟩,by simp only [Rc];exact ⟨[],[],hR,hRs,rfl⟩⟩
  ·cases h
 |[],_,_,_::_,_,_,_,hT=>by simp [DataW.TrodAll] at hT
 |_::_,_,_,[],_,_,_,hT=>by simp [DataW.TrodAll] at hT
 |_::_,_,_,_::_,[],_,_,hT=>by simp [DataW.TrodAll] at hT
theorem aFd (hl:laidOutB P=true) {W W':World} (hb:Below W.heap.size W W'):∀{ts:List TypeId} {vs:List Value} {ds:List (DataW H)} {ps:List MemPlace},
  (∀t∈ts,P.readableRec t=true∧t < P.types.size)→DataW.TrodAll enc P W 0 (fun _=>true) true ts vs ds ps→(∀x∈ps,x.block < W.heap.size)→∀sp:Nat→Bool,(∀p∈ps,sp p.block=true)→
   DataW.TrodAll enc P W' 0 sp true ts vs ds ps
 |[],[],[],_,_,h,_,_,_=>h
 |t::ts,v::vs,d::ds,ps,hr,h,hlt,sp,hsp=>by
  obtain ⟨p,q,h1,h2,rfl⟩:=h
  refine ⟨p,q,?_,?_,rfl⟩
  ·exact WideElems.Trod_stays hl (hr t (by simp)).1 (hr t (by simp)).2 h1 (fun x hx=>hb.same (hlt x (by simp [hx]))) (fun x hx=>hsp x (by simp [hx]))
  ·exact aFd hl hb (fun t ht=>hr t (by simp [ht])) h2 (fun x hx=>hlt x (by simp [hx])) sp (fun x hx=>hsp x (by simp [hx]))
 |[],_::_,_,_,_,h,_,_,_=>h.elim
 |[],[],_::_,_,_,h,_,_,_=>h.elim
 |_::_,[],_,_,_,h,_,_,_=>h.elim
 |_::_,_::_,[],_,_,h,_,_,_=>h.elim
end
theorem aRx {α:Type} {row:List Sh} {e:α→List AV} {p:α→Prop} (h:∀r,jK row r→∃x,r=e x∧p x):∀rows:List (List AV),(∀r∈rows,jK row r)→∃l:List α,rows=l.map e∧∀x∈l,p x
 |[],_=>⟨[],rfl,by simp⟩
 |r::rs,hr=>by
  obtain ⟨x,rfl,hx⟩:=h r (hr r (by simp))
  obtain ⟨l,rfl,hl⟩:=aRx h rs (fun r h=>hr r (by simp [h]))
  exact ⟨x::l,rfl,by simpa using ⟨hx,hl⟩⟩
theorem bCw {r:List AV} (h:jK [] r):r=[]:=by
 cases r with
 |nil=>rfl
 |cons _ _=>exact h.elim
theorem fits_int {k:IntKind} {ss:List Sh} {r:List AV} (h:jK (.int k::ss) r):∃n r',r= .int k n::r'∧(k.min≤n∧n≤k.max)∧jK ss r':=by
 match r,h with
 |[],h=>exact h.elim
 | .int k' n::r',h=>
  obtain ⟨⟨rfl,hw⟩,h2⟩:=h
  exact ⟨n,r',rfl,by simpa [Lit.wf] using hw,h2⟩
theorem bFj {n:Nat} {row ss:List Sh} {r:List AV} (h:jK (.sl n row::ss) r):∃rows r',r= .sl .view n rows::r'∧rows.length≤9223372036854775807∧(∀x∈rows,jK row x)∧jK ss r':=by
 match r,h with
 |[],h=>exact h.elim
 | .sl g n' rows::r',h=>
  obtain ⟨⟨rfl,rfl,h1,h2⟩,h3⟩:=h
  exact ⟨rows,r',rfl,h1,h2,h3⟩
theorem bA1 {r:List AV} (h:aD3 [] r):r=[]:=by
 cases r with
 |nil=>rfl
 |cons _ _=>exact h.elim
theorem bA2 {s:Sh} {ss:List ShV} {r:List AV} (h:aD3 (.one s::ss) r):∃x r',r=x::r'∧jK [s] [x]∧aD3 ss r':=by
 match r,h with
 |[],h=>exact h.elim
 |x::r',h=>exact ⟨x,r',rfl,⟨h.1,trivial⟩,h.2⟩
theorem bDw {C:Checked} [T:aB C.prog] {f:FuncId} {fn:Func} {s:ChangeSpec} {apart fresh handsOn again:Bool} {H:Type} {enc:TypeId×Value→H} {ss:List ShV} {fuel:Nat} {tb:TypeId}
  (hl:laidOutB C.prog=true) (hread:∀t∈fn.params.toList,C.prog.readableRec t=true∧t < C.prog.types.size)
  (hsh:aSd C.prog fuel fn.params.toList=some ss) (hres:fn.resultTypes=#[tb]) (hb:C.prog.underlying tb=some .bool) (hvars:s.vars=[])
  (hfn:∀ds:List (DataW H),ds.length=fn.params.toList.length→s.fn H ds={results:=[.lit (.bool true)],args:=ds})
  (hok:∀avs,aD3 ss avs→Ok C.prog f avs (.bool true))
  {W:World} {base:Nat} {args:Array Value} {ds gs:List (DataW H)} {before:List MemPlace} (hT:aB.holds C.prog W)
  (hval:∀(j:Nat) t v,fn.params[j]? =some t→args[j]? =some v→Value.okWide C.prog W .any base t v)
  (hW:DataW.Whole enc C.prog fn.params.toList s.vars apart W args.toList ds gs before):
  Calls C.prog f args W fun e W'=>∃v,e= .returned v∧s.post enc C.prog fn apart fresh handsOn again W args v W':=by
 obtain ⟨p,q,hA,hV,hpq,hz,hn⟩:=id hW
 rw [hvars] at hV
 obtain ⟨rfl,rfl⟩:gs=[]∧q=[]:=by
  cases gs with
  |nil=>exact ⟨rfl,hV⟩
  |cons _ _=>exact hV.elim
 rw [List.append_nil] at hpq
 subst hpq
 have hlen:ds.length=fn.params.toList.length:=by
  have:∀(ts:List TypeId) (vs:List Value) (ds:List (DataW H)) ps,DataW.TrodAll enc C.prog W 0 (fun _=>true) true ts vs ds ps→ds.length=ts.length:=by
   intro ts
   induction ts with
   |nil=>intro vs ds ps h;cases vs<;>cases ds<;>simp_all [DataW.TrodAll]
   |cons t ts ih=>intro vs ds ps h;cases vs<;>cases ds<;>simp_all [DataW.TrodAll];obtain ⟨_,_,_,h,_⟩:=h;exact ih _ _ _ h
  exact this _ _ _ _ hA
 have hspec:=hfn ds hlen
 obtain ⟨avs,hfits,hR⟩:=aWn hsh (fun j t v h1 h2=>hval j t v (by simpa using h1) (by simpa using h2)) hA
 have hc:=hok avs hfits W args.toList hT hR
 rw [show args.toList.toArray=args from rfl] at hc
 refine hc.mono fun e W' ⟨v,fp,he,hr,_,_,hsz,hsame,hio⟩=>⟨v,he,?_⟩
 simp only [R] at hr
 obtain ⟨rfl,_⟩:=hr
 have hbl:Below W.heap.size W W':=⟨hio.os,hio.tape,hio.output,hsz,hsame⟩
 have hlt:∀x∈before,x.block < W.heap.size:=fun x hx=>hW.lt x hx
 have hsp:s.fn H (ds++[])={results:=[.lit (.bool true)],args:=ds}:=by rw [List.append_nil];exact hspec
 have hargs:∀sp:Nat→Bool,(∀p∈before,sp p.block=true)→DataW.TrodAll enc C.prog W' 0 sp true fn.params.toList args.toList (s.fn H (ds++[])).args before:=by
  intro sp h;rw [hsp];exact aFd hl hbl hread hA hlt sp h
 have hone:(Value.bool true).resultList fn.resultTypes.size=[.bool true]:=by rw [hres];rfl
 have hresT:∀(b:Nat) (sp:Nat→Bool) (hd:Bool),DataW.TrodAll enc C.prog W' b sp hd fn.resultTypes.toList ((Value.bool true).resultList fn.resultTypes.size) (s.fn H (ds++[])).results []:=by
  intro b sp hd
  rw [hsp,hone,hres]
  exact ⟨[],[],shut_bool hb true,rfl,rfl⟩
 have hvarsT:∀sp:Nat→Bool,DataW.TrodVars enc C.prog W' sp s.vars (s.fn H (ds++[])).vars []:=by
  intro sp;rw [hsp,hvars];rfl
 have hold:∀p∈before,(fun b=>decide (b < W.heap.size)) p.block=true:=fun p hp=>by simpa using hlt p hp
 refine ⟨ds,[],before,[],before,[],hW,hresT _ _ _,hargs _ hold,hvarsT _,World.keptBut_mono (fun p hp=>hp.elim) (hbl.frame (fun _=>False)),fun _=> ?_⟩
 refine ⟨ok_one hres rfl (okWide_bool_mk hb true),_,_,([]++before)++[],⟨[]++before,[],trodAll_append (hargs _ (fun _ _=>rfl)) (hresT _ _ _),hvarsT _,rfl,?_,?_⟩,?_⟩
 ·intro b off hp
  have hp':MemPlace.cell b off∈before:=by simpa using hp
  rw [hbl.frozen (p:=⟨b,off,none⟩) (hlt _ hp')]
  exact hz b off hp'
 ·intro ha
  simpa using hn ha
 ·intro p hp _
  simpa using hp
end Go.Aw

namespace Go.Aw
def yG:Sh→AV→Prop
 | .int k,.int k' _=>k'=k
 | .bool,.bool _=>True
 | .str,.str _=>True
 |_,_=>False
def nP:List Sh→List AV→Prop
 |[],[]=>True
 |s::ss,x::xs=>yG s x∧nP ss xs
 |_,_=>False
theorem tX:∀{ss:List Sh} {xs:List AV},nP ss xs→xs.length=ss.length
 |[],[],_=>rfl
 |s::ss,x::xs,h=>by simp only [nP] at h;simp [tX h.2]
 |[],_::_,h=>h.elim
 |_::_,[],h=>h.elim
theorem aDg:∀{ss tt:List Sh} {xs:List AV},nP (ss++tt) xs→nP ss (xs.take ss.length)∧nP tt (xs.drop ss.length)
 |[],_,xs,h=>by simpa [nP] using h
 |s::ss,tt,x::xs,h=>by
  simp only [List.cons_append,nP] at h
  simp only [List.length_cons,List.take_succ_cons,List.drop_succ_cons,nP]
  have:=aDg h.2
  exact ⟨⟨h.1,this.1⟩,this.2⟩
 |_::_,_,[],h=>h.elim
def wN (P:Program) (t:TypeId):Bool:=match P.underlying t with|some (.struct _)=>true|_=>false
def valOf (P:Program) (t:TypeId) (cs:List Value):Value:=if wN P t then .agg cs.toArray else cs.headD (.tuple #[])
def eqT (P:Program):Nat→TypeId→Bool
 |0,_=>false
 |f+1,t=>match P.underlying t with
  |some .bool|some (.int _)|some .string=>P.cellsOf t == 1
  |some (.struct fs)=> !P.stoodInHeld t&&fs.toList.all fun x=>x.name != "_" &&eqT P f x.type
  |_=>false
theorem aIu {P:Program} {w:World} {f:Nat} {t:TypeId} (he:eqT P f t=true) (xs:List Value) (o:Nat) (h:P.cellsOf t=0∨o+P.cellsOf t≤xs.length):
  (part t xs.toArray o).run P w= .ok (valOf P t ((xs.drop o).take (P.cellsOf t))) w:=by
 cases f with
 |zero=>simp [eqT] at he
 |succ f=>
  unfold eqT at he
  have one:∀d,P.underlying t=some d→(d= .bool∨(∃k,d= .int k)∨d= .string)→P.cellsOf t=1→(part t xs.toArray o).run P w= .ok (valOf P t ((xs.drop o).take (P.cellsOf t))) w:=by
   intro d hu hd h1
   have hlt:o < xs.length:=by omega
   have e:(xs.drop o).take 1=[xs[o]]:=by rw [List.drop_eq_getElem_cons hlt,List.take_succ_cons,List.take_zero]
   rw [h1,e]
   rcases hd with rfl|⟨k,rfl⟩|rfl<;>simp [part,isAgg,run_underlying hu,valOf,wN,hu,hlt]
  split at he
  ·rename_i hu;exact one _ hu (.inl rfl) (by simpa using he)
  ·rename_i hu;exact one _ hu (.inr (.inl ⟨_,rfl⟩)) (by simpa using he)
  ·rename_i hu;exact one _ hu (.inr (.inr rfl)) (by simpa using he)
  ·rename_i fs hu
   obtain ⟨i,hi⟩:=info_of_underlying hu
   have hl:xs.toArray.extract o (o+P.cellsOf t)=((xs.drop o).take (P.cellsOf t)).toArray:=by
    apply Array.toList_inj.1
    rw [Array.toList_extract]
    simp [List.extract]
   simp [part,isAgg,run_underlying hu,run_sizeOf w hi,valOf,wN,hu,hl]
  ·cases he
section
variable {P : Program}
theorem aCi {f:Nat} (ih:∀t ss,shC P f t=some ss→eqT P f t=true→∀c1 c2:List AV,nP ss c1→nP ss c2→∀d w,f≤d→∃b,(Op.equalIn d t (valOf P t (c1.map toV)) (valOf P t (c2.map toV))).run P w= .ok b w∧(b=true↔c1=c2)) (c1 c2:List AV) (d:Nat) (w:World) (hd:f≤d):
  ∀(fs:List Field) (o:Nat) (rs:List Sh),shF (shC P f) P fs o=some rs→(fs.all fun x=>x.name != "_" &&eqT P f x.type)=true→nP rs (c1.drop o)→nP rs (c2.drop o)→
   ∃b,(Op.eqFields d (c1.map toV).toArray (c2.map toV).toArray fs).run P w= .ok b w∧(b=true↔c1.drop o=c2.drop o)
 |[],o,rs,h,_,h1,h2=>by
  simp only [shF,Option.some.injEq] at h
  subst h
  refine ⟨true,by simp [Op.eqFields],?_⟩
  have e1:=tX h1
  have e2:=tX h2
  simp only [List.length_nil,List.length_eq_zero_iff] at e1 e2
  simp [e1,e2]
 |x::fs,o,rs,h,ha,h1,h2=>by
  simp only [shF] at h
  simp only [List.all_cons,Bool.and_eq_true] at ha
  split at h
  ·rename_i ho
   split at h
   ·rename_i a hsa
    split at h
    ·rename_i hl
     split at h
     ·rename_i b hb
      obtain rfl:=Option.some.inj h
      have s1:=aDg h1
      have s2:=aDg h2
      rw [List.drop_drop] at s1 s2
      have n1:=tX h1
      have n2:=tX h2
      simp only [List.length_drop,List.length_append] at n1 n2
      obtain ⟨b1,hr1,hi1⟩:=ih _ _ hsa ha.1.2 _ _ s1.1 s2.1 d w hd
      obtain ⟨b2,hr2,hi2⟩:=aCi ih c1 c2 d w hd fs (o+a.length) b hb ha.2 s1.2 s2.2
      have p1:=aIu (w:=w) ha.1.2 (c1.map toV) o (by rw [List.length_map];omega)
      have p2:=aIu (w:=w) ha.1.2 (c2.map toV) o (by rw [List.length_map];omega)
      rw [←hl,←List.map_drop,←List.map_take] at p1 p2
      have hname:x.name≠ "_" :=by simpa using ha.1.1
      simp only [Op.eqFields,hname,ne_eq,not_false_eq_true,if_true,ho,Sem.run_bind,p1,p2,Result.andThen_ok,hr1]
      have split1:c1.drop o=(c1.drop o).take a.length++c1.drop (o+a.length):=by rw [←List.drop_drop,List.take_append_drop]
      have split2:c2.drop o=(c2.drop o).take a.length++c2.drop (o+a.length):=by rw [←List.drop_drop,List.take_append_drop]
      have key:c1.drop o=c2.drop o↔((c1.drop o).take a.length=(c2.drop o).take a.length∧c1.drop (o+a.length)=c2.drop (o+a.length)):=by
       constructor
       ·intro e
        rw [e]
        refine ⟨rfl,?_⟩
        rw [←List.drop_drop,←List.drop_drop,e]
       ·intro e
        rw [split1,split2,e.1,e.2]
      cases b1 with
      |false=>exact ⟨false,by simp,by simp only [Bool.false_eq_true,false_iff];intro e;exact absurd (hi1.2 (key.1 e).1) (by simp)⟩
      |true=>exact ⟨b2,by simpa using hr2,by rw [hi2,key];exact ⟨fun e=>⟨hi1.1 rfl,e⟩,fun e=>e.2⟩⟩
     ·cases h
    ·cases h
   ·cases h
  ·cases h
theorem aWe:∀(f:Nat) (t:TypeId) (ss:List Sh),shC P f t=some ss→eqT P f t=true→∀c1 c2:List AV,nP ss c1→nP ss c2→∀d w,f≤d→
  ∃b,(Op.equalIn d t (valOf P t (c1.map toV)) (valOf P t (c2.map toV))).run P w= .ok b w∧(b=true↔c1=c2)
 |0,_,_,h,_,_,_,_,_,_,_,_=>by simp [shC] at h
 |f+1,t,ss,h,he,c1,c2,h1,h2,d,w,hd=>by
  obtain ⟨d,rfl⟩:∃d',d=d'+1:=⟨d - 1,by omega⟩
  unfold shC at h
  unfold eqT at he
  have one:∀s:Sh,ss=[s]→∃x y,c1=[x]∧c2=[y]∧yG s x∧yG s y:=by
   rintro s rfl
   match c1,c2,h1,h2 with
   |[x],[y],h1,h2=>exact ⟨x,y,rfl,rfl,h1.1,h2.1⟩
   |[],_,h1,_=>exact h1.elim
   |_::_::_,_,h1,_=>exact h1.2.elim
   |[_],[],_,h2=>exact h2.elim
   |[_],_::_::_,_,h2=>exact h2.2.elim
  split at h
  ·rename_i hu
   obtain ⟨x,y,rfl,rfl,l1,l2⟩:=one _ (Option.some.inj h).symm
   cases x<;>simp only [yG] at l1
   cases y<;>simp only [yG] at l2
   rename_i p q
   exact ⟨p == q,by simp [valOf,wN,hu,toV,Go.run_equalIn_bool w d t p q hu],by simp⟩
  ·rename_i k hu
   obtain ⟨x,y,rfl,rfl,l1,l2⟩:=one _ (Option.some.inj h).symm
   cases x<;>simp only [yG] at l1
   cases y<;>simp only [yG] at l2
   rename_i k1 p k2 q
   have e1:k1=k:=l1
   have e2:k2=k:=l2
   subst e1;subst e2
   exact ⟨p == q,by simp [valOf,wN,hu,toV,run_equalIn_int w d t _ _ p q hu],by simp⟩
  ·rename_i hu
   obtain ⟨x,y,rfl,rfl,l1,l2⟩:=one _ (Option.some.inj h).symm
   cases x<;>simp only [yG] at l1
   cases y<;>simp only [yG] at l2
   rename_i p q
   refine ⟨p == q,?_,by simp⟩
   have:=run_equalIn_string w d t ⟨p.toArray⟩ ⟨q.toArray⟩ hu
   rw [ByteArray.toList_eq,ByteArray.toList_eq] at this
   simpa [valOf,wN,hu,toV] using this
  ·rename_i e hu
   rw [hu] at he
   cases he
  ·rename_i fs hu
   rw [hu] at he
   simp only [Bool.and_eq_true,Bool.not_eq_true'] at he
   split at h
   ·rename_i r hr
    split at h
    ·obtain rfl:=Option.some.inj h
     have hf:P.fieldsOf t=fs:=by simp [Program.fieldsOf,hu]
     obtain ⟨b,hb,hi⟩:=aCi (fun t ss a b c1 c2 e1 e2 d w hd=>aWe f t ss a b c1 c2 e1 e2 d w hd) c1 c2 d w (by omega) fs.toList 0 _ hr he.2 (by simpa using h1) (by simpa using h2)
     refine ⟨b,?_,by simpa using hi⟩
     have:=run_equalIn_struct w d t (c1.map toV).toArray (c2.map toV).toArray (by rw [hf];exact hu) he.1
     rw [hf] at this
     simpa [valOf,wN,hu] using this.trans hb
    ·cases h
   ·cases h
  ·cases h
theorem aZh {t:TypeId} {f:Nat} {ss:List Sh} (hf:f≤10000) (hs:shC P f t=some ss) (he:eqT P f t=true) (hst:wN P t=true) (hg:P.eqGuardType P.depth t=false) {c1 c2:List AV} (h1:nP ss c1) (h2:nP ss c2) {b:Bool} (hb:b=true↔c1=c2):
  EqA P t c1 c2 b:=by
 intro op x y w hop
 obtain ⟨b',hb',hi⟩:=aWe f t ss hs he c1 c2 h1 h2 10000 w hf
 have e:b'=b:=by
  rw [←hb] at hi
  cases b<;>cases b'<;>simp_all
 subst e
 simp only [valOf,hst,if_true] at hb'
 rcases hop with rfl|rfl
 ·simp only [Sem.run_bind,run_eqGuard_agg w _ t x y _ _ hg,Result.andThen_ok,run_eql_struct,hb',if_true]
 ·simp only [Sem.run_bind,run_eqGuard_agg w _ t x y _ _ hg,Result.andThen_ok,run_neq_struct,hb']
  rfl
end
end Go.Aw

namespace Go.Aw
def Nx (m:Nat) (P:Program) [aB P] (o:Oper) (s:AS) (X:AS→Prop):Prop:=aop P o s X∨((m=1∧(uH P o s X∨zF P o s X))∨(m=2∧aDc P o s X))
theorem aTg {P:Program} [aB P] {x y:Code} {s:AS} {Q:Exit→AS→Prop} (h:awp P x s (oC (fun s'=>awp P y s' Q) Q)):awp P (.seq x y) s Q:=by unfold awp;exact h
theorem aV1 {K:AS→Prop} {Q:Exit→AS→Prop} {s:AS} (h:K s):oC K Q .normal s:=by unfold oC;exact h
theorem aNs {P:Program} [aB P] {all r:List Oper} {o:Oper} {s:AS} {K:AS→Prop} (hg:o.guard=none) (h:Nx 1 P o s fun s'=>dP P all r s' K):dP P all (o::r) s K:=by
 simp only [dP,hg]
 rcases h with h|h
 ·exact .inl h
 ·rcases h with h|h
  ·exact .inr h.2
  ·exact absurd h.1 (by decide)
theorem aSf {P:Program} [aB P] {o:Oper} {s:AS} {X:AS→Prop} (h:aCy P o s X):Nx 1 P o s X:= .inr (.inl ⟨rfl,.inr ⟨s,fG.refl s,h⟩⟩)
theorem aWw {P:Program} [aB P] {all r:List Oper} {o:Oper} {s:AS} {K:AS→Prop} {j:Nat} {want:Bool} (hg:o.guard=some (j,want)) (hb:kM all s j want= .bool want) (h:Nx 0 P o s fun s'=>dP P all r s' K):dP P all (o::r) s K:=by
 simp only [dP,hg,hb]
 rcases h with h|h
 ·exact ⟨fun _=> .inl h,fun hn=>absurd rfl hn⟩
 ·rcases h with h|h<;>exact absurd h.1 (by decide)
theorem bB4 {P:Program} [aB P] {all r:List Oper} {o:Oper} {s:AS} {K:AS→Prop} {j:Nat} {want:Bool} (hg:o.guard=some (j,want)) (hb:kM all s j want= .bool want) (h:Nx 1 P o s fun s'=>dP P all r s' K):dP P all (o::r) s K:=by
 simp only [dP,hg,hb]
 rcases h with h|h
 ·exact ⟨fun _=> .inl h,fun hn=>absurd rfl hn⟩
 ·rcases h with h|h
  ·exact ⟨fun _=> .inr h.2,fun hn=>absurd rfl hn⟩
  ·exact absurd h.1 (by decide)
theorem go_skip {P:Program} [aB P] {all r:List Oper} {o:Oper} {s s':AS} {K:AS→Prop} {j:Nat} {want:Bool} (hg:o.guard=some (j,want)) (hb:kM all s j want= .bool (!want)) (h:dP P all r s' K) (hs:∀K':AS→Prop,K' s'→K' (s.put o.dst (.tup [])):=by intro K' hK';(try simp only [AS.put,List.set_cons_succ,List.set_cons_zero]);exact hK'):dP P all (o::r) s K:=
 bBj hg hb (hs (fun s=>dP P all r s K) h)
theorem aBn {P:Program} [aB P] {id:Nat} {l:List Oper} {s:AS} {Q:Exit→AS→Prop} {fl:List (Nat×Nat×List AV)} {b:List aA} (hf:floats P 0 s.o.length l=fl) (hbb:s.o++(fl.map fun q=>(⟨false,false,q.2.2.length,0,[]⟩:aA))=b) (hfw:zM l=true) (hdst:distinct l=true) (hfl:aHh fl b.length=true) (hb:plc uG true fl b=b) (hb0:plc uG false fl b=s.o++(fl.map (·.2.2.length)).map fun n=>⟨true,false,n,0,[]⟩)
  (h:gN P l s.t b fl (Q .normal) 0 l [] []):awp P (.region id l.toArray true) s Q:=aZv hfw hdst hfl hb hb0 h
section
variable {P : Program} [aB P] {l : List Oper} {t : List AV} {b : List aA} {fl : List (Nat × Nat × List AV)} {K : AS → Prop} {i : Nat} {op : Oper} {r : List Oper} {vs : List AV} {h : List (Nat × List aA)} {pr : List Nat} {m : List AV} {om : List aA}
theorem aDk (hg:op.guard=none) (hnf:(fl.all fun q=>decide (q.1≠i))=true) (hpr:pre op=pr) (hlt:(pr.all fun e=>decide (e < i))=true) (hm:jC i pr 0 l vs t=m) (ho:plc (inb pr) true fl (oJ (inb pr) b h)=om) (hq:jS op.op ⟨m,om⟩=true)
  (ha:Nx 2 P op ⟨m,om⟩ fun s'=>(vR pr h=true∨s'.o.length=om.length)∧gN P l t b fl K (i+1) r (vs++[uK op s']) (if s'.o.length=om.length then h else (i,plc uG true fl s'.o)::h)):gN P l t b fl K i (op::r) vs h:=by
 refine aEm hnf hpr hlt hm ho hq ?_
 unfold lV
 simp only [hg]
 rcases ha with ha|ha
 ·exact .inl ha
 ·rcases ha with ha|ha
  ·exact absurd ha.1 (by decide)
  ·exact .inr ha.2
theorem aQz {j:Nat} {want:Bool} (hg:op.guard=some (j,want)) (hnf:(fl.all fun q=>decide (q.1≠i))=true) (hpr:pre op=pr) (hlt:(pr.all fun e=>decide (e < i))=true) (hm:jC i pr 0 l vs t=m) (ho:plc (inb pr) true fl (oJ (inb pr) b h)=om) (hq:jS op.op ⟨m,om⟩=true) (hb:kM l ⟨m,om⟩ j want= .bool want)
  (ha:Nx 2 P op ⟨m,om⟩ fun s'=>(vR pr h=true∨s'.o.length=om.length)∧gN P l t b fl K (i+1) r (vs++[uK op s']) (if s'.o.length=om.length then h else (i,plc uG true fl s'.o)::h)):gN P l t b fl K i (op::r) vs h:=by
 refine aEm hnf hpr hlt hm ho hq ?_
 unfold lV
 simp only [hg,hb]
 rcases ha with ha|ha
 ·exact ⟨fun _=> .inl ha,fun hn=>absurd rfl hn⟩
 ·rcases ha with ha|ha
  ·exact absurd ha.1 (by decide)
  ·exact ⟨fun _=> .inr ha.2,fun hn=>absurd rfl hn⟩
theorem aRt {j:Nat} {want:Bool} (hg:op.guard=some (j,want)) (hnf:(fl.all fun q=>decide (q.1≠i))=true) (hpr:pre op=pr) (hlt:(pr.all fun e=>decide (e < i))=true) (hm:jC i pr 0 l vs t=m) (ho:plc (inb pr) true fl (oJ (inb pr) b h)=om) (hds:(match op.dst with|some d=>decide (d < m.length)|none=>false)=true) (hq:jS op.op ⟨m,om⟩=true) (hb:kM l ⟨m,om⟩ j want= .bool (!want))
  (ha:gN P l t b fl K (i+1) r (vs++[.tup []]) h):gN P l t b fl K i (op::r) vs h:=by
 refine aEm hnf hpr hlt hm ho hq ?_
 unfold lV
 simp only [hg,hb]
 refine ⟨fun hn=> ?_,fun _=> ?_⟩
 ·cases want<;>cases hn
 ·rw [put_eq]
  refine ⟨.inr rfl,?_⟩
  rw [if_pos rfl]
  have:uK op ⟨jF m op.dst (.tup []),om⟩= .tup []:=by
   unfold uK jF
   cases hd:op.dst with
   |none=>rw [hd] at hds;cases hds
   |some d=>
    rw [hd] at hds
    have hdl:d < m.length:=by simpa using hds
    dsimp only
    rw [List.getD_eq_getElem?_getD,List.getElem?_set_self hdl]
    rfl
  rw [this];exact ha
theorem aV7 {z:List Nat} {s1:AS} (hr:qO l i=true) (hz:nC l i=z) (hk:K s1) (ha:rM (fun z=>nW P l (fun s'=>s'=s1) (left ((List.range l.length).map (jz i z))) ((List.range l.length).map (jz i z)) ⟨dV (jz i z) 0 l vs t,plc (jz i z) false fl (oJ (jz i z) b h)⟩) [] z:=by
  repeat' (first|refine st ?_|(refine nx ?_;refine so ?_)|refine sx ?_ ?_|refine sy ?_ ?_|fail)
  all_goals rfl):gN P l t b fl K i (op::r) vs h:=aAv hr hz ha hk
theorem aSe {q:Nat×Nat×List AV} {T:TypeId} {vs':List AV} (hq:fl.find? (fun q=>q.1 == i)=some q) (hg:op.guard=none) (hT:op.op= .alloc T) (hz:zeroA P T=some q.2.2) (hlt:((pre op).all fun e=>decide (e < i))=true) (hv:vs++[.ptr q.2.1 1 0 0]=vs') (hd:gN P l t b fl K (i+1) r vs' h):gN P l t b fl K i (op::r) vs h:=by
 subst hv;exact aVa hq hg hT hz hlt hd
theorem aDw {vs':List AV} {h':List (Nat×List aA)} {c:Prop} (hc:c) (hv:vs=vs') (hh:h=h') (hd:gN P l t b fl K i r vs' h'):c∧gN P l t b fl K i r vs h:=by
 subst hv;subst hh;exact ⟨hc,hd⟩
theorem kB {F:List Nat→Prop} {acc:List Nat} (h:rM F acc []):rM F acc []:=h
theorem kE {n:Nat} {d:List Bool} {s:AS} (h:nW P l K n d s):nW P l K n d s:=h
theorem kF {n:Nat} {d:List Bool} {s:AS} {j:Nat} (h:nR P l K n d s [j]):nR P l K n d s [j]:=h
theorem kD (hd:gN P l t b fl K i r vs h):gN P l t b fl K i r vs h:=hd
theorem kN {c:Prop} (hd:c∧gN P l t b fl K i r vs h):c∧gN P l t b fl K i r vs h:=hd
end
attribute [irreducible] Nx
theorem kL {P:Program} [aB P] {all l:List Oper} {s:AS} {K:AS→Prop} (h:dP P all l s K):dP P all l s K:=h
theorem kA {P:Program} [aB P] {c:Code} {s:AS} {Q:Exit→AS→Prop} (h:awp P c s Q):awp P c s Q:=h
theorem kT {K:AS→Prop} {Q:Exit→AS→Prop} {e:Exit} {s:AS} (h:oC K Q e s):oC K Q e s:=h
theorem kI {id:Nat} {Q:Exit→AS→Prop} {e:Exit} {s:AS} (h:AIn id Q e s):AIn id Q e s:=h
structure Hid (q : Prop) : Prop where
  out : q
theorem st {p q:Prop} (h:q) (e:Hid q→p:=by
 intro h
 (first
  |(refine kL ?_;first
    |refine aJz ?_
    |refine aNs rfl ?_
    |(refine aWw rfl ?_ ?_;(focus (simp [kM,W];done)))
    |(refine go_skip rfl ?_ ?_;(focus (simp [kM,W];done))))
  |(refine kA ?_;first
    |refine aTg ?_|refine aLd ?_|refine aWu ?_|refine aN8 ?_|refine aTh ?_|refine aSh ?_|refine aBn (by simp;rfl) (by simp;rfl) (by decide+kernel) (by decide) (by first|rfl|(simp [aHh];done)) (by simp) (by simp) ?_)
  |(refine kT ?_;first|refine aV1 ?_|refine aG2 ?_|refine aFh ?_)
  |(refine kI ?_;first|refine aFm ?_|refine aK1 ?_|refine aOu ?_|refine aO4 (by decide) ?_)
  |(refine kN ?_;refine aDw (by simp;done) (by simp;rfl) (by simp;rfl) ?_)
  |(refine kD ?_;first
    |refine aOz (by simp;rfl) (by simp;rfl) ?_
    |refine aSe rfl rfl rfl (by simp;done) (by first|rfl|(simp [Region.binds];done)) (by simp;rfl) ?_
    |(refine aDk rfl (by first|rfl|(simp;done)) (by simp [Region.binds];rfl) (by decide) (by simp [Region.binds];rfl) (by simp;rfl) ?_ ?_;(focus (first|rfl|(simp [jS];done))))
    |(refine aQz rfl (by first|rfl|(simp;done)) (by simp [Region.binds];rfl) (by decide) (by simp [Region.binds];rfl) (by simp;rfl) ?_ ?_ ?_;(focus (first|rfl|(simp [jS];done)));(focus (simp [kM,W];done)))
    |(refine aRt rfl (by first|rfl|(simp;done)) (by simp [Region.binds];rfl) (by decide) (by simp [Region.binds];rfl) (by simp;rfl) ?_ ?_ ?_ ?_;(focus (first|rfl|(simp;done)));(focus (first|rfl|(simp [jS];done)));(focus (simp [kM,W];done)))
    |refine aOm (by decide+kernel) (by simp;rfl) (by simp;rfl) ?_
    |refine aV7 (by decide+kernel) (by simp [nC,reach,iA,Region.binds,List.range_succ];rfl) ?_
    |refine aG6 (by decide+kernel) (by simp [nC,reach,iA,Region.binds,List.range_succ];rfl) ?_)
  |(refine kB ?_;refine bBe (by simp;rfl) (by simp;rfl) (by simp;rfl) (by simp;rfl) ?_)
  |(refine kE ?_;first|refine aZ9 ?_|refine aZl (by simp [Region.binds];rfl) ?_)
  |(refine kF ?_;refine bAd rfl (by simp only [List.set_cons_succ,List.set_cons_zero];rfl) ?_))
 repeat (first
  |(refine kL ?_;first
    |refine aJz ?_
    |refine aNs rfl ?_
    |(refine aWw rfl ?_ ?_;(focus (simp [kM,W];done)))
    |(refine go_skip rfl ?_ ?_;(focus (simp [kM,W];done))))
  |(refine kA ?_;first
    |refine aTg ?_|refine aLd ?_|refine aWu ?_|refine aN8 ?_|refine aTh ?_|refine aSh ?_|refine aBn (by simp;rfl) (by simp;rfl) (by decide+kernel) (by decide) (by first|rfl|(simp [aHh];done)) (by simp) (by simp) ?_)
  |(refine kT ?_;first|refine aV1 ?_|refine aG2 ?_|refine aFh ?_)
  |(refine kI ?_;first|refine aFm ?_|refine aK1 ?_|refine aOu ?_|refine aO4 (by decide) ?_)
  |(refine kN ?_;refine aDw (by simp;done) (by simp;rfl) (by simp;rfl) ?_)
  |(refine kD ?_;first
    |refine aOz (by simp;rfl) (by simp;rfl) ?_
    |refine aSe rfl rfl rfl (by simp;done) (by first|rfl|(simp [Region.binds];done)) (by simp;rfl) ?_
    |(refine aDk rfl (by first|rfl|(simp;done)) (by simp [Region.binds];rfl) (by decide) (by simp [Region.binds];rfl) (by simp;rfl) ?_ ?_;(focus (first|rfl|(simp [jS];done))))
    |(refine aQz rfl (by first|rfl|(simp;done)) (by simp [Region.binds];rfl) (by decide) (by simp [Region.binds];rfl) (by simp;rfl) ?_ ?_ ?_;(focus (first|rfl|(simp [jS];done)));(focus (simp [kM,W];done)))
    |(refine aRt rfl (by first|rfl|(simp;done)) (by simp [Region.binds];rfl) (by decide) (by simp [Region.binds];rfl) (by simp;rfl) ?_ ?_ ?_ ?_;(focus (first|rfl|(simp;done)));(focus (first|rfl|(simp [jS];done)));(focus (simp [kM,W];done)))
    |refine aOm (by decide+kernel) (by simp;rfl) (by simp;rfl) ?_
    |refine aV7 (by decide+kernel) (by simp [nC,reach,iA,Region.binds,List.range_succ];rfl) ?_
    |refine aG6 (by decide+kernel) (by simp [nC,reach,iA,Region.binds,List.range_succ];rfl) ?_)
  |(refine kB ?_;refine bBe (by simp;rfl) (by simp;rfl) (by simp;rfl) (by simp;rfl) ?_)
  |(refine kE ?_;first|refine aZ9 ?_|refine aZl (by simp [Region.binds];rfl) ?_)
  |(refine kF ?_;refine bAd rfl (by simp only [List.set_cons_succ,List.set_cons_zero];rfl) ?_))
 exact h.out):p:=e ⟨h⟩
theorem so {P : Program} [aB P] {o : Oper} {s s' : AS} {X : AS → Prop} {m : Nat} (h : X s') (e : ∀ K : AS → Prop, K s' → aop P o s K := by
  intro K hK
  first
    | (simp [-Bool.exists_bool, aop, W]
       (try simp (disch := omega) only [wrap64])
       first
         | exact hK
         | (refine ⟨_, by assumption, ?_⟩; (try simp only [aL, aH, bS, bC, bR, bB, bV, bD, List.append_nil, List.nil_append, List.cons_append, List.length_cons, List.length_nil, Nat.add_zero, Nat.zero_add, Nat.reduceAdd]); exact hK)
         | (refine ⟨?_, hK⟩; omega)
         | (refine ⟨?_, ?_, hK⟩ <;> omega)
         | (refine ⟨?_, ?_, ?_, hK⟩ <;> omega))
    | (simp [-Bool.exists_bool, aop, V]
       (try simp (disch := omega) only [wrap64])
       first
         | exact hK
         | (refine ⟨_, by assumption, ?_⟩; (try simp only [aL, aH, bS, bC, bR, bB, bV, bD, List.append_nil, List.nil_append, List.cons_append, List.length_cons, List.length_nil, Nat.add_zero, Nat.zero_add, Nat.reduceAdd]); exact hK)
         | (refine ⟨?_, hK⟩; omega)
         | (refine ⟨?_, ?_, hK⟩ <;> omega)
         | (refine ⟨?_, ?_, ?_, hK⟩ <;> omega))) : Nx m P o s X := by
  unfold Nx; exact .inl (e X h)
theorem sm {P:Program} [aB P] {o:Oper} {s s':AS} {X:AS→Prop} {H:Prop} (e:∀K:AS→Prop,H→K s'→uH P o s K:=by
 intro K hc hK
 refine bAz ?_
 simp [-Bool.exists_bool,aA3,W]
 refine ⟨_,_,hc,?_⟩
 simp [-Bool.exists_bool,AS.mutated,aAl,aA.aged,aA.forget,wV,yD,Go.Aw.mt,Go.Aw.mtc,W]
 exact hK) (hc:H) (h:X s'):Nx 1 P o s X:=by
 unfold Nx;exact .inr (.inl ⟨rfl,.inl (e X hc h)⟩)
theorem sg {P:Program} [aB P] {o:Oper} {s s':AS} {X:AS→Prop} {H:Prop} (e:∀K:AS→Prop,H→K s'→uH P o s K:=by
 intro K hc hK
 refine bGs ?_
 simp [-Bool.exists_bool,aF3,W]
 refine ⟨_,_,hc,?_⟩
 simp [-Bool.exists_bool,takes,handed,aXi,aH8,rowOf,uses,fK,away,aE2,eB,iW,res,jD,AV.isObj,AS.given,wB,qQ,vM,aA.gaged,aA.forget,rt,rtc,rtr,eZ,AV.kept,W]
 exact hK) (hc:H) (h:X s'):Nx 1 P o s X:=by
 unfold Nx;exact .inr (.inl ⟨rfl,.inl (e X hc h)⟩)
theorem sz {P:Program} [aB P] {o:Oper} {s s':AS} {X:AS→Prop} (h:X s') (e:∀K:AS→Prop,K s'→uH P o s K:=by
 intro K hK
 refine bHs ?_
 simp [-Bool.exists_bool,bB2,aop,rtr,rtc,rt,aA.kill,W]
 exact hK):Nx 1 P o s X:=by
 unfold Nx;exact .inr (.inl ⟨rfl,.inl (e X h)⟩)
theorem sw {P:Program} [aB P] {o:Oper} {s s1:AS} {X:AS→Prop} (hw:fG s s1) (h:Nx 1 P o s1 X):Nx 1 P o s X:=by
 unfold Nx at h⊢
 rcases h with h|h
 ·exact .inr (.inl ⟨rfl,.inl (aZ8 hw (.inl h))⟩)
 ·rcases h with h|h
  ·rcases h.2 with h2|⟨s2,hw2,h2⟩
   ·exact .inr (.inl ⟨rfl,.inl (aZ8 hw (.inr h2))⟩)
   ·exact .inr (.inl ⟨rfl,.inr ⟨s2,hw.trans hw2,h2⟩⟩)
  ·exact absurd h.1 (by decide)
theorem sb {P:Program} [aB P] {o:Oper} {s s':AS} {X:AS→Prop} (h:X s') (e:∀K:AS→Prop,K s'→uH P o s K:=by
 intro K hK
 refine bAz ?_
 simp [-Bool.exists_bool,aA3,AS.made,W]
 first
  |exact hK
  |(refine ⟨?_,hK⟩;omega)):Nx 1 P o s X:=by
 unfold Nx;exact .inr (.inl ⟨rfl,.inl (e X h)⟩)
theorem se {P:Program} [aB P] {o:Oper} {s s':AS} {X:AS→Prop} (h:X s') (e:∀K:AS→Prop,K s'→aDc P o s K:=by
 intro K hK
 simp [aDc]
 exact hK):Nx 2 P o s X:=by
 unfold Nx;exact .inr (.inr ⟨rfl,e X h⟩)
theorem sc {P:Program} [aB P] {c:Operand} {x y:Code} {s:AS} {Q:Exit→AS→Prop} {b:Bool} {p1 p2:Prop} (h1:p1→awp P x s Q) (h2:p2→awp P y s Q) (hc:s.ev c= .bool b:=by rfl)
  (e1:b=true→p1:=by
   intro h
   first|(refine (?_:False);simp at h;done)|(refine (?_:False);(try simp at h);omega;done)|(simp at h;exact h)|exact h)
  (e2:b=false→p2:=by
   intro h
   first|(refine (?_:False);simp at h;done)|(refine (?_:False);(try simp at h);omega;done)|(simp at h;exact h)|exact h):awp P (.cond c x y) s Q:=
 aJq hc (fun h=>h1 (e1 h)) (fun h=>h2 (e2 h))
theorem sp {P:Program} [aB P] {all r:List Oper} {o:Oper} {s:AS} {K:AS→Prop} {j d:Nat} {want b:Bool} {s1 s2:AS} {p1 p2:Prop} (h1:p1→dP P all (o::r) s1 K) (h2:p2→dP P all (o::r) s2 K) (hg:o.guard=some (j,want):=by rfl) (hd:(all[j]?).bind (·.dst)=some d:=by rfl) (hb:s.t[d]? =some (.bool b):=by rfl) (hx:(b=true)=(b=true):=by (fail_if_success (with_reducible refine Eq.refl (true=true)));(fail_if_success (with_reducible refine Eq.refl (false=true)));rfl)
  (e1:∀K':AS→Prop,K' s1→K' ⟨s.t.set d (.bool true),s.o⟩:=by intro K' hK';(try simp only [List.set_cons_succ,List.set_cons_zero]);exact hK')
  (e2:∀K':AS→Prop,K' s2→K' ⟨s.t.set d (.bool false),s.o⟩:=by intro K' hK';(try simp only [List.set_cons_succ,List.set_cons_zero]);exact hK')
  (e3:b=true→p1:=by
   intro h
   first|(refine (?_:False);simp at h;done)|(refine (?_:False);(try simp at h);omega;done)|(simp at h;exact h)|exact h)
  (e4:b=false→p2:=by
   intro h
   first|(refine (?_:False);simp at h;done)|(refine (?_:False);(try simp at h);omega;done)|(simp at h;exact h)|exact h):dP P all (o::r) s K:=
 aW7 hg hd hb (fun h=>e1 (fun s=>dP P all (o::r) s K) (h1 (e3 h))) (fun h=>e2 (fun s=>dP P all (o::r) s K) (h2 (e4 h)))
theorem nx {m:Nat} {P:Program} [aB P] {o:Oper} {s:AS} {X:AS→Prop} (h:Nx m P o s X):Nx m P o s X:=h
theorem cx {P:Program} [aB P] {c:Operand} {x y:Code} {s:AS} {Q:Exit→AS→Prop} (h:awp P (.cond c x y) s Q):awp P (.cond c x y) s Q:=h
theorem lx {P:Program} [aB P] {all r:List Oper} {o:Oper} {s:AS} {K:AS→Prop} (h:dP P all (o::r) s K):dP P all (o::r) s K:=h
theorem ent {P:Program} [aB P] (hm:P.follows .mixedOrders=true) {f:FuncId} {fn:Func} {c:Code} (hf:P.funcs[f]? =some fn) {n:Nat} (hn:fn.ntmps=n) {args t:List AV} {rr:AV}
  (h:awp P c ⟨t,[]⟩ (fun e s=>(e= .normal∨e= .ret)∧Hands P fn s rr)) (hb:fn.body=some c:=by rfl)
  (ht:args++List.replicate (n - args.length) .undef=t:=by
   simp only [List.length_cons,List.length_nil,Nat.reduceSub,Nat.reduceAdd,List.replicate_succ,List.replicate_zero,List.cons_append,List.nil_append];rfl):Ok P f args rr:=by
 subst ht;subst hn;exact aN4 hm hf hb h
attribute [simp] bytesOf
end Go.Aw

namespace Go.Aw
theorem sT {P:Program} [aB P] {c:Operand} {x y:Code} {s:AS} {Q:Exit→AS→Prop} {b:Bool} (h1:awp P x s Q) (hc:s.ev c= .bool b:=by rfl)
  (e2:b=false→False:=by intro h;first|(simp at h;done)|((try simp at h);omega;done)):awp P (.cond c x y) s Q:=
 aJq hc (fun _=>h1) (fun h=>(e2 h).elim)
theorem sF {P:Program} [aB P] {c:Operand} {x y:Code} {s:AS} {Q:Exit→AS→Prop} {b:Bool} (h2:awp P y s Q) (hc:s.ev c= .bool b:=by rfl)
  (e1:b=true→False:=by intro h;first|(simp at h;done)|((try simp at h);omega;done)):awp P (.cond c x y) s Q:=
 aJq hc (fun h=>(e1 h).elim) (fun _=>h2)
theorem wl {p q:Prop} (h:q) (e:Hid q→p:=by
 intro h
 first|refine st ?_|(refine nx ?_;refine so ?_)|(refine cx ?_;first|refine sT ?_|refine sF ?_|(refine sc (fun hc=> ?_) (fun hc=> ?_)<;>try exact hc.elim))|(refine lx ?_;refine sp (fun hc=> ?_) (fun hc=> ?_)<;>try exact hc.elim)|refine sx ?_ ?_|refine sy ?_ ?_|fail
 repeat' first|refine st ?_|(refine nx ?_;refine so ?_)|(refine cx ?_;first|refine sT ?_|refine sF ?_|(refine sc (fun hc=> ?_) (fun hc=> ?_)<;>try exact hc.elim))|(refine lx ?_;refine sp (fun hc=> ?_) (fun hc=> ?_)<;>try exact hc.elim)|refine sx ?_ ?_|refine sy ?_ ?_|fail
 all_goals exact h.out):p:=e ⟨h⟩
theorem we {p q:Prop} (h:q) (e:Hid q→p:=by
 intro h
 first|refine st ?_|(refine nx ?_;first|refine se ?_|refine so ?_)|(refine cx ?_;first|refine sT ?_|refine sF ?_|(refine sc (fun hc=> ?_) (fun hc=> ?_)<;>try exact hc.elim))|(refine lx ?_;refine sp (fun hc=> ?_) (fun hc=> ?_)<;>try exact hc.elim)|refine sx ?_ ?_|refine sy ?_ ?_|fail
 repeat' first|refine st ?_|(refine nx ?_;first|refine se ?_|refine so ?_)|(refine cx ?_;first|refine sT ?_|refine sF ?_|(refine sc (fun hc=> ?_) (fun hc=> ?_)<;>try exact hc.elim))|(refine lx ?_;refine sp (fun hc=> ?_) (fun hc=> ?_)<;>try exact hc.elim)|refine sx ?_ ?_|refine sy ?_ ?_|fail
 all_goals exact h.out):p:=e ⟨h⟩
theorem bA {p q:Prop} (h:q) (e:Hid q→True→p:=by
 intro h W
 first|refine st ?_|(refine nx ?_;refine so ?_)|(refine cx ?_;first|refine sT ?_|refine sF ?_|(refine sc (fun hc=> ?_) (fun hc=> ?_)<;>try exact hc.elim))|(refine lx ?_;refine sp (fun hc=> ?_) (fun hc=> ?_)<;>try exact hc.elim)|refine sx ?_ ?_|refine sy ?_ ?_|fail
 repeat' first|refine st ?_|(refine nx ?_;refine so ?_)|(refine cx ?_;first|refine sT ?_|refine sF ?_|(refine sc (fun hc=> ?_) (fun hc=> ?_)<;>try exact hc.elim))|(refine lx ?_;refine sp (fun hc=> ?_) (fun hc=> ?_)<;>try exact hc.elim)|refine sx ?_ ?_|refine sy ?_ ?_|fail
 all_goals exact h.out):p:=e ⟨h⟩ trivial
theorem aW {p q:Prop} (h:q) (e:Hid q→True→p:=by
 intro h W
 first|refine st ?_|(refine nx ?_;first|refine se ?_|refine so ?_)|(refine cx ?_;first|refine sT ?_|refine sF ?_|(refine sc (fun hc=> ?_) (fun hc=> ?_)<;>try exact hc.elim))|(refine lx ?_;refine sp (fun hc=> ?_) (fun hc=> ?_)<;>try exact hc.elim)|refine sx ?_ ?_|refine sy ?_ ?_|fail
 repeat' first|refine st ?_|(refine nx ?_;first|refine se ?_|refine so ?_)|(refine cx ?_;first|refine sT ?_|refine sF ?_|(refine sc (fun hc=> ?_) (fun hc=> ?_)<;>try exact hc.elim))|(refine lx ?_;refine sp (fun hc=> ?_) (fun hc=> ?_)<;>try exact hc.elim)|refine sx ?_ ?_|refine sy ?_ ?_|fail
 all_goals exact h.out):p:=e ⟨h⟩ trivial
theorem aM {P:Program} {fn:Func} {s:AS} {r:AV} {x:Array ResultVar} (hr:fn.results=x) (e:fn.results=x→Hands P fn s r:=by intro hr;simp [Hands,hr]):(Exit.ret= .normal∨Exit.ret= .ret)∧Hands P fn s r:=⟨.inr rfl,e hr⟩
end Go.Aw

namespace Go.Aw
section
variable {P : Program} {p q : List Nat} {l : List Oper} {Q : Exit → Act → World → Prop}
structure bJ1 (p q : List Nat) (n : Nat) : Prop where
  pl : p.length = n
  ql : q.length = n
  pq : ∀ k, k < n → p.getD k n < n ∧ q.getD (p.getD k n) n = k
  qp : ∀ i, i < n → q.getD i n < n ∧ p.getD (q.getD i n) n = i
end
theorem aX4 {P:Program} [aB P] {ops:Array Oper} {s:AS} {K1 K2:AS→Prop} (hk:∀s,K1 s→K2 s) (h:aF4 P ops s K1):aF4 P ops s K2:=
 fun B a w Q hr hq=>h B a w Q hr fun a' w' s' h1 h2=>hq a' w' s' (hk _ h1) h2
theorem wE {P:Program} [aB P]:∀(c:Code) (s:AS) (Q1 Q2:Exit→AS→Prop),(∀e s,Q1 e s→Q2 e s)→awp P c s Q1→awp P c s Q2
 | .skip,s,_,_,hq,h=>by simp only [awp] at h⊢;exact hq _ _ h
 | .region id ops false,s,_,_,hq,h=>by simp only [awp] at h⊢;exact h.elim fun s2 h=>⟨s2,h.1,sK (hq _) _ _ h.2⟩
 | .region id ops true,s,_,_,hq,h=>by simp only [awp] at h⊢;exact aX4 (hq _) h
 | .seq x y,s,Q1,Q2,hq,h=>by
  simp only [awp] at h⊢
  refine wE x s _ _ (fun e s' he=> ?_) h
  cases e<;>simp only [oC] at he⊢ <;>first|exact wE y s' _ _ hq he|exact hq _ _ he
 | .cond c x y,s,_,_,hq,h=>by
  simp only [awp] at h⊢
  split at h
  ·exact ⟨fun e=>wE x s _ _ hq (h.1 e),fun e=>wE y s _ _ hq (h.2 e)⟩
  ·exact h.elim
 | .block id c,s,Q1,Q2,hq,h=>by
  simp only [awp] at h⊢
  refine wE c s _ _ (fun e s' he=> ?_) h
  cases e with
  |exit id'=>
   simp only [AIn] at he⊢
   split<;>rename_i hid
   ·rw [if_pos hid] at he;exact hq _ _ he
   ·rw [if_neg hid] at he;exact hq _ _ he
  |_=>simp only [AIn] at he⊢;exact hq _ _ he
 | .loop c,s,_,_,hq,h=>by
  simp only [awp] at h⊢
  obtain ⟨ι,inv,μ,i,h0,hr⟩:=h
  refine ⟨ι,inv,μ,i,h0,fun i=>wE c _ _ _ (fun e s' he=> ?_) (hr i)⟩
  cases e<;>simp only [oC] at he⊢ <;>first|exact he|exact hq _ _ he
 | .exit id,s,_,_,hq,h=>by simp only [awp] at h⊢;exact hq _ _ h
 | .ret,s,_,_,hq,h=>by simp only [awp] at h⊢;exact hq _ _ h
 | .rangeFunc _ _ _ _,_,_,_,_,h=>by simp [awp] at h
 | .scope _,_,_,_,_,h=>by simp [awp] at h
 | .label _,_,_,_,_,h=>by simp [awp] at h
 | .goto _,_,_,_,_,h=>by simp [awp] at h
 | .refuse _,_,_,_,_,h=>by simp [awp] at h
end Go.Aw

namespace Go.Aw
theorem bBu {t:List AV} {o:List aA} {s':AS} (i ver:Nat) {ob:aA} (hob:AV.isObj o i ver=some ob) (hbx:ob.box=false) (e:(⟨t,o⟩:AS).frozen i ver ob=s'):fG ⟨t,o⟩ s':=by
 rw [←e];exact fun _ _ B a w r=>aMx hob hbx r
theorem bA7 {t t':List AV} {o o':List aA} (i ver m:Nat) {ob:aA} (hob:AV.isObj o i ver=some ob) (hbx:ob.box=false) (ho:(jU i ver (.sl .view ob.n (rtr (fun _=>some .view) false ob.els)) 0 o).take m=o')
  (h:wk (kG i ver (.sl .view ob.n (rtr (fun _=>some .view) false ob.els)) t) t') (hc:fV m t'=true) (hb:eO m o'=true):fG ⟨t,o⟩ ⟨t',o'⟩:=
 fG.trans (bBu i ver hob hbx rfl) (aN m ho h hc hb)
section
variable {P : Program} [aB P] {l : List Oper} {K : AS → Prop} {n : Nat} {d d' : List Bool} {s s' : AS} {dst : Option Tmp} {ty : TypeId} {pos : String} {after : Array Edge} {x y : Operand}
end
end Go.Aw

namespace Go.Aw
def AS.rvB (P:Program) (s:AS):List ResultVar→Option (Nat×List AV)
 | .cell t ty::xs=>match s.t.getD t .undef with
  | .ptr i ver idx off=>match s.at i ver idx with
   |some (ob,e)=>match aggSize P ty with
    |some n=>if ob.box=true∧off+n≤e.length then (match s.rvs P xs with
     |some ys=>some (i,.agg ((e.drop off).take n)::ys)
     |none=>none) else none
    |none=>none
   |none=>none
  |_=>none
 |_=>none
def aTu (P:Program) (fn:Func) (s:AS) (r:AV):Prop:=
 ∃i ys,s.rvB P fn.results.toList=some (i,ys)∧eB s.o (single ys)=true∧(uses (single ys)).Nodup∧i∉uses (single ys)∧res s.o (single ys)=r∧clean r=true
theorem eT {P:Program} {fn:Func} {s:AS} {r:AV} (h:match s.rvB P fn.results.toList with
  |some p=>eB s.o (single p.2)=true∧(uses (single p.2)).Nodup∧p.1∉uses (single p.2)∧res s.o (single p.2)=r∧clean r=true
  |none=>False):aTu P fn s r:=by
 split at h
 ·rename_i p hp
  exact ⟨p.1,p.2,hp,h⟩
 ·exact h.elim
theorem aZ4 {P:Program} [aB P] {B:Base P} {s:AS} {G:List CO} {a:Act} {w:World} (r:bG B s G a w) {t:Tmp} {ty:TypeId} {i ver idx off n:Nat} {ob:aA} {e:List AV}
  (hx:s.t.getD t .undef= .ptr i ver idx off) (ha:s.at i ver idx=some (ob,e)) (hbox:ob.box=true) (hn:aggSize P ty=some n) (hfit:off+n≤e.length):
  ∃v fp g,look s.o G i ob g∧ob.live=true∧(aA0 a (.cell t ty)).run P w= .ok v w∧R w (env B s.o G w) (.agg ((e.drop off).take n)) v fp∧fp.Nodup∧∀b∈fp,g.F b:=by
 obtain ⟨ho,he⟩:=yH ha
 obtain ⟨g,b,f,hl,hlive,hga,hv⟩:=r.ptr (x:= .tmp t) hx ho
 obtain ⟨fp0,⟨_,hown⟩,hnd,hF⟩:=r.ok i ob g hl hlive
 simp only [hbox,Env.of,if_true] at hown
 rcases hown with ⟨h5,_⟩|⟨b',f',C,tyc,fz,fps,ha',hbk,hz,k1,k2,k3,rfl,hr⟩
 ·rw [h5] at he;simp at he
 rw [hga] at ha'
 simp only [Option.some.injEq,Addr.mk.injEq,and_true] at ha'
 obtain ⟨rfl,rfl⟩:=ha'
 obtain ⟨f1,f2,f3,cs,rfl,hcn,hc,hone,hrc,_,_⟩:=vF hr he
 have hle:=dZ hrc
 simp only [Act.eval] at hv
 obtain ⟨g1,g2,rfl,_,hc2⟩:=oN off hrc
 obtain ⟨g3,g4,rfl,hc3,_⟩:=oN n hc2
 have hsub:∀x∈g3,x∈f1++(g1++(g3++g4))++f3:=fun x hx=>by simp [hx]
 refine ⟨.agg ((cs.drop off).take n).toArray,g3,g,hl,hlive,?_,by simp only [R];exact ⟨_,rfl,aB5 hone,hc3⟩,?_,fun x hx=>hF x (List.mem_cons_of_mem _ (hsub x hx))⟩
 ·have:=rA (P:=P) (t:=ty) (k:=off) (n:=n) (cs:=cs) hn (by omega) hc
  simp only [Instr.loadAt,Instr.sureAddr,pure_bind] at this
  simp [aA0,hv,asAddr,←Nat.add_assoc,this]
 ·simp only [List.nodup_cons] at hnd
  have h1:=(List.nodup_append.1 hnd.2).1
  have h2:=(List.nodup_append.1 h1).2.1
  have h3:=(List.nodup_append.1 h2).2.1
  exact (List.nodup_append.1 h3).1
theorem bDz {P:Program} {s:AS} {l:List ResultVar} {i:Nat} {ys:List AV} (h:s.rvB P l=some (i,ys)):
  ∃t ty xs ver idx off ob e n zs,l= .cell t ty::xs∧s.t.getD t .undef= .ptr i ver idx off∧s.at i ver idx=some (ob,e)∧aggSize P ty=some n∧ob.box=true∧off+n≤e.length∧s.rvs P xs=some zs∧ys= .agg ((e.drop off).take n)::zs:=by
 unfold AS.rvB at h
 split at h
 ·split at h
  ·rename_i i' ver idx off hx
   split at h
   ·rename_i ob e ha
    split at h
    ·rename_i n hn
     split at h
     ·rename_i hc
      split at h
      ·rename_i zs hzs
       simp only [Option.some.injEq,Prod.mk.injEq] at h
       obtain ⟨rfl,rfl⟩:=h
       exact ⟨_,_,_,_,_,_,_,_,_,_,rfl,hx,ha,hn,hc.1,hc.2,hzs,rfl⟩
      ·cases h
     ·cases h
    ·cases h
   ·cases h
  ·cases h
 ·cases h
theorem xB {P:Program} [aB P] {B:Base P} {s:AS} {G:List CO} {a:Act} {w:World} (r:bG B s G a w) {fn:Func} {i:Nat} {ys:List AV} (h:s.rvB P fn.results.toList=some (i,ys)):
  ∃v fp ob g,look s.o G i ob g∧ob.live=true∧(results fn a.tmps).run P w= .ok v w∧R w (env B s.o G w) (single ys) v fp∧fp.Nodup∧∀b∈fp,g.F b:=by
 obtain ⟨t,ty,xs,ver,idx,off,ob,e,n,zs,hres,hx,ha,hn,hbox,hfit,hzs,rfl⟩:=bDz h
 obtain ⟨v0,fp,g,hl,hlive,hrun0,hR0,hnd,hF⟩:=aZ4 r hx ha hbox hn hfit
 obtain ⟨vs,h1,h2⟩:=aMk r hzs
 have hl2:=dZ h2
 have hm:(fn.results.mapM (m:=Sem) (aA0 a)).run P w= .ok (v0::vs).toArray w:=by
  rw [Array.mapM_eq_mapM_toList,hres]
  simp only [Sem.run_map,List.mapM_cons,Sem.run_bind]
  rw [hrun0]
  simp only [Result.andThen_ok]
  rw [h1]
  simp
 rw [aKj]
 simp only [Sem.run_bind]
 rw [hm]
 simp only [Result.andThen_ok,Sem.run_pure]
 match zs,vs,hl2,h2 with
 |[],[],_,h2=>exact ⟨v0,fp,ob,g,hl,hlive,by simp,hR0,hnd,hF⟩
 |z::zs,v1::vs,_,h2=>exact ⟨.tuple (v0::v1::vs).toArray,fp,ob,g,hl,hlive,by simp,by simp only [single];rw [R];exact ⟨_,rfl,by rw [Rc];exact ⟨fp,[],hR0,h2,by simp⟩⟩,hnd,hF⟩
theorem aYa {P:Program} [aB P] (hm:P.follows .mixedOrders=true) {f:FuncId} {fn:Func} {c:Code} (hf:P.funcs[f]? =some fn) (hb:fn.body=some c) {args:List AV} {rr:AV}
  (h:awp P c ⟨args++List.replicate (fn.ntmps - args.length) .undef,[]⟩ (fun e s=>(e= .normal∨e= .ret)∧(Hands P fn s rr∨aTu P fn s rr))):Ok P f args rr:=by
 intro w vs hg hargs
 have hl:=dZ hargs
 have r0:bG ⟨w,fun b=>b < w.heap.size,fun _=>False,fun _=>none,fun _=>none,hg,fun _ h=>h.elim,fun _ h=>h.elim⟩ ⟨args++List.replicate (fn.ntmps - args.length) .undef,[]⟩ [] {tmps:=vs.toArray++Array.replicate (fn.ntmps - vs.toArray.size) Go.undef,defers:=[]} w:=by
  refine ⟨rfl,rfl,fun i ob g hl=>by simp [look] at hl,fun i j oi oj gi gj b hl=>by simp [look] at hl,fun i ob g b hl=>by simp [look] at hl,?_,Nat.le_refl _,fun _ _ _=>rfl,fun b hb=>hb,Same.rfl⟩
  have h1:Rc w (env ⟨w,fun b=>b < w.heap.size,fun _=>False,fun _=>none,fun _=>none,hg,fun _ h=>h.elim,fun _ h=>h.elim⟩ [] [] w) args vs []:=dI (w:=w) (w':=w) (E:=jJ w) (E':=env ⟨w,fun b=>b < w.heap.size,fun _=>False,fun _=>none,fun _=>none,hg,fun _ h=>h.elim,fun _ h=>h.elim⟩ [] [] w) ⟨fun b hb=>⟨⟨.inl hb,fun i ob g hl=>by simp [look] at hl⟩,rfl⟩,fun _ _=>trivial,fun _ _ _ h=>h.elim,fun _ _ _ h=>h.elim,fun _ _ _ _ _ h=>h.elim⟩ _ _ _ (by simp) hargs
  have h2:∀n,Rc w (env ⟨w,fun b=>b < w.heap.size,fun _=>False,fun _=>none,fun _=>none,hg,fun _ h=>h.elim,fun _ h=>h.elim⟩ [] [] w) (List.replicate n .undef) (List.replicate n Go.undef) []:=by
   intro n
   induction n with
   |zero=>simp [Rc]
   |succ n ih=>simp only [List.replicate_succ,Rc];exact ⟨[],[],by simp [R],ih,rfl⟩
  have:=gT h1 (h2 (fn.ntmps - args.length))
  simpa [hl] using this
 refine calls_of_wp hf hb (wp_mono (lW hm c _ _ h _ _ ⟨_,r0⟩) fun e a w' he=> ?_)
 obtain ⟨s,⟨he,hhands⟩,G,r⟩:=he
 have key:∃(E:Env) (v:Value) (fp:List Nat),(results fn a.tmps).run P w'= .ok v w'∧R w' E.plain rr v fp∧fp.Nodup∧clean rr=true∧∀b∈fp,∃j ob g,look s.o G j ob g∧ob.live=true∧g.F b:=by
  rcases hhands with ⟨ys,hys,hok,hu,hres,hcl⟩|⟨i,ys,hys,hok,hu,hi,hres,hcl⟩
  ·obtain ⟨v,hrun,hR⟩:=qW r hys
   obtain ⟨fp,h1,h2,h3⟩:=zA r _ v hok hu hR
   rw [hres] at h1
   exact ⟨_,v,fp,hrun,h1,h2,hcl,fun b hb=>by obtain ⟨i,ob,g,_,h⟩:=h3 b hb;exact ⟨i,ob,g,h⟩⟩
  ·obtain ⟨v,fp0,ob,g,hlk,hlive,hrun,hR,hnd,hF⟩:=xB r hys
   obtain ⟨fp,h1,h2,h3⟩:=aGr r hlk hlive _ v fp0 hok hu hi hnd hF hR
   rw [hres] at h1
   refine ⟨_,v,fp,hrun,h1,h2,hcl,fun b hb=> ?_⟩
   rcases h3 b hb with h|⟨j,ob',g',_,h⟩
   ·exact ⟨i,ob,g,hlk,hlive,hF b h⟩
   ·exact ⟨j,ob',g',h⟩
 obtain ⟨E,v,fp,hrun,h1,h2,hcl,h3⟩:=key
 have hfin:∃v' fp,Ending.returned v= .returned v'∧R w' (vD w.heap.size w' fp) rr v' fp∧fp.Nodup∧(∀b∈fp,w.heap.size≤b∧b < w'.heap.size)∧w.heap.size≤w'.heap.size∧(∀b,b < w.heap.size→w'.heap[b]? =w.heap[b]?)∧Same w w':=by
  refine ⟨v,fp,rfl,bEm <| aHy (E:=E.plain) (fun _ _=>trivial) rfl rfl rfl _ _ _ hcl h1,h2,fun b hb=> ?_,r.size,fun b hb=>r.frame b hb (fun h=>h),r.same⟩
  obtain ⟨i,ob,g,hl,hlive,hF⟩:=h3 b hb
  have:=r.fresh _ _ _ b hl hlive hF
  exact ⟨this.1.resolve_left (fun h=>h),this.2⟩
 rcases he with rfl|rfl
 ·exact ⟨r.defs,v,hrun,hfin⟩
 ·exact ⟨r.defs,v,hrun,hfin⟩
theorem aBb {P:Program} [aB P] (hm:P.follows .mixedOrders=true) {f:FuncId} {fn:Func} {c:Code} (hf:P.funcs[f]? =some fn) {n:Nat} (hn:fn.ntmps=n) {args t:List AV} {rr:AV}
  (h:awp P c ⟨t,[]⟩ (fun e s=>(e= .normal∨e= .ret)∧(Hands P fn s rr∨aTu P fn s rr))) (hb:fn.body=some c:=by rfl)
  (ht:args++List.replicate (n - args.length) .undef=t:=by
   simp only [List.length_cons,List.length_nil,Nat.reduceSub,Nat.reduceAdd,List.replicate_succ,List.replicate_zero,List.cons_append,List.nil_append];rfl):Ok P f args rr:=by
 subst ht;subst hn;exact aYa hm hf hb h
end Go.Aw
