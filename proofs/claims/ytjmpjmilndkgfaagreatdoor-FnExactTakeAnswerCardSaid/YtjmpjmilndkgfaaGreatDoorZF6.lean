/- Proved here: steps towards the statement of this claim. No condition. -/
import Derived.Test.YtjmpjmilndkgfaaGreatDoorZF3
import Derived.ProofKit
set_option linter.all false
namespace Go.Aw
open List
def pre (op:Oper):List Nat:=(op.after.toList.filter λe=>Region.binds .any e).map (·.on)
def F9 (l:List Oper) (J:Nat->Bool):Prop:=∀j op,l[j]? =some op->J j=true->∀e∈pre op,J e=true
theorem xq {op:Oper} {n:Nat}:n∈pre op↔∃e∈op.after.toList,Region.binds .any e=true/\e.on=n:=by simp [pre,Bx,DH,and_assoc]
def qR (P:Program) [aC P] (l:List Oper) (op:Oper) (s:AS) (K:AS->Prop):Prop:=
 match op.guard with
 |none=>qJ P op s K\/Tz P op s K
 |some (j,want)=>match qO l s j want with
  | .bool b=>(b=want->qJ P op s K\/Tz P op s K)/\(b≠want->K (s.put op.dst (.iJ [])))
  |_=>False
def mP (l:List Oper) (j:Nat):List Nat:=match l[j]? with|some o=>pre o|none=>[]
def reach (l:List Oper):Nat->List Nat->List Nat
 |0,acc=>acc
 |k+1,acc=>reach l k (if k∈acc then acc++mP l k else acc)
def DV (l:List Oper) (m:Nat):Bool:=
 decide (m<=l.length)&&((range (l.length - m)).all (λd=>(mP l (m+d)).all (λe=>decide (e < m+d))&&(d == 0 || decide (m+d - 1∈mP l (m+d))))&&
 (decide (l.length<=m) || (range m).all λj=>decide (j∈reach l m (mP l m))))
theorem Lv {l:List Oper} {J:Nat->Bool} (hc:F9 l J):∀(k:Nat) (acc:List Nat),(∀e∈acc,J e=true)->∀e∈reach l k acc,J e=true
 |0,acc,h=>h
 |k+1,acc,h=>by
  simp only [reach];refine Lv hc k _ ?_;split
  .rename_i hk;intro e he;rcases fL.1 he with he|he
   .exact h e he
   .unfold mP at he;split at he
    .rename_i o ho;exact hc k o ho (h k hk) e he
    .cases he
  .exact h
theorem YB {l:List Oper} {m j:Nat} {op:Oper} (ht:DV l m=true) (hm:m<=j) (hj:l[j]? =some op):(∀e∈pre op,e < j)/\(m < j->j - 1∈pre op):=by
 unfold DV at ht;simp only [eJ,fS] at ht;have hlt:=(cH.1 hj).1;have h:=ht.2.1 (j - m) (by simp;omega);have e:m+(j - m)=j:=by omega
 have hp:mP l j=pre op:=by simp [mP,hj]
 rw [e,hp] at h;simp only [fS,fN,AN,Bm] at h;exact ⟨h.1,λhlt=>h.2.resolve_left (by omega)⟩
theorem aCr {l:List Oper} {m:Nat} {op:Oper} {J:Nat->Bool} (ht:DV l m=true) (hm:l[m]? =some op) (hc:F9 l J) (hp:∀e∈pre op,J e=true):∀j,j < m->J j=true:=by
 intro j hj;unfold DV at ht;simp only [eJ,AN,fN] at ht;have hlt:=(cH.1 hm).1;have h:=ht.2.2.resolve_left (by omega);rw [fS] at h;have:=h j (by simpa using hj);simp only [fN] at this;have hpa:mP l m=pre op:=by simp [mP,hm]
 rw [hpa] at this;exact Lv hc m _ hp j this
theorem YC {listed:Array Bool} {i:Nat} (h:i < listed.size):(!listed.getD i true)= !listed.getD i false:=by rw [fW,fW,tG h];rfl
theorem mem_ready {ops:Array Oper} {listed:Array Bool} (hl:listed.size=ops.size) {i:Nat}:i∈Region.ready .any ops listed↔∃op,ops.toList[i]? =some op/\listed.getD i false=false/\∀e∈pre op,listed.getD e false=true:=by
 unfold Region.ready;rw [DH];constructor
 .rintro ⟨hi1,hi2⟩;have EF:i < ops.size:=by simpa using hi1
  have hop:ops[i]? =some ops[i]:=by simp [EF]
  simp only [eJ,hop,mS,rK] at hi2;obtain ⟨h1,h2⟩:=hi2;rw [DM] at h2;refine ⟨ops[i],by simp [EF],?_,λn hn=> ?_⟩
  .rw [YC (by omega)] at h1;simpa using h1
  .obtain ⟨e,he,hb,rfl⟩:=xq.1 hn;have:=h2 e (by simpa using he);simpa [hb] using this
 .rintro ⟨op,hop,h1,h2⟩;have EF:i < ops.size:=by have:=(cH.1 hop).1;simpa using this
  have hop':ops[i]? =some op:=by simpa using hop
  refine ⟨by simpa using EF,?_⟩;simp only [eJ,hop',mS,rK];refine ⟨by rw [YC (by omega)];simp [h1],?_⟩;rw [DM];intro e he;cases hb:Region.binds .any e with
  |false=>simp
  |true=>have:=h2 e.on (xq.2 ⟨e,by simpa using he,hb,rfl⟩);simp [this]
theorem WE {P:Program} [aC P] {B:gN P} {l:List Oper} {op:Oper} {s:AS} {K:AS->Prop} (h:qR P l op s K) {a:Act} {w:World} (r:Rel B s a w) {Kc:Act->World->Prop} {Q:Exit->Act->World->Prop} (hk:∀a' w' s',K s'->Rel B s' a' w'->Kc a' w'):
  if Region.wanted op (yielded l.toArray a.tmps) then op.wp P a w Kc Q\/(op.asks P a w/\LetsOut Q) else Kc (a.put op.dst undef) w:=by
 unfold qR at h;split at h
 .rename_i hg;rw [eK (by simp [Region.wanted,hg])];obtain ⟨s',h',hst⟩:=h.elim (AP (B:=B)) (PE (B:=B));exact .inl (hst a w _ Q r λa' w' r'=>hk a' w' s' h' r')
 .rename_i j want hg;split at h
  .rename_i b hb;obtain ⟨G,r'⟩:=r;have hy:=PT r' hb;by_cases hbw:b=want
   .rw [eK (by simp [Region.wanted,hg,hy,hbw])];obtain ⟨s',h',hst⟩:=(h.1 hbw).elim (AP (B:=B)) (PE (B:=B));exact .inl (hst a w _ Q ⟨G,r'⟩ λa' w' r'=>hk a' w' s' h' r')
   .rw [cY (by simp [Region.wanted,hg,hy,hbw])];exact hk _ _ _ (h.2 hbw) ⟨G,r'.put op.dst (ig _ _)⟩
  .exact h.elim
theorem Vb {P:Program} [aC P] {B:gN P} {all r:List Oper} {o:Oper} {s:AS} {K:AS->Prop} (h:kV P all (o::r) s K) {a:Act} {w:World} (rl:Rel B s a w) {Kc:Act->World->Prop} {Q:Exit->Act->World->Prop} (hk:∀a' w' s',kV P all r s' K->Rel B s' a' w'->Kc a' w'):
  if Region.wanted o (yielded all.toArray a.tmps) then o.wp P a w Kc Q\/(o.asks P a w/\LetsOut Q) else Kc (a.put o.dst undef) w:=by
 simp only [kV] at h;have stepped:((qJ P o s λs'=>kV P all r s' K)\/(Ih P o s λs'=>kV P all r s' K)\/(GH P o s λs'=>kV P all r s' K))->o.wp P a w Kc Q\/(o.asks P a w/\LetsOut Q):=by
  intro h;by_cases hcu:GH P o s λs'=>kV P all r s' K
  .exact .inl (MK hcu a w _ Q rl λa' w' s' h' r'=>hk a' w' s' h' r')
  have:∃s',kV P all r s' K/\Step P B o s s':=by
   rcases h with h|h|h
   .exact AP (B:=B) h
   .exact PS (B:=B) h
   .exact (hcu h).elim
  obtain ⟨s',h',hst⟩:=this;exact .inl (hst a w _ Q rl λa' w' r'=>hk a' w' s' h' r')
 split at h
 .rename_i hg;rw [eK (by simp [Region.wanted,hg])];exact stepped h
 .rename_i j want hg;split at h
  .rename_i b hb;have rl2:=rl;obtain ⟨G,r'⟩:=rl2;have hy:=PT r' hb;by_cases hbw:b=want
   .rw [eK (by simp [Region.wanted,hg,hy,hbw])];exact stepped (h.1 hbw)
   .rw [cY (by simp [Region.wanted,hg,hy,hbw])];exact hk _ _ _ (h.2 hbw) ⟨G,r'.put o.dst (ig _ _)⟩
  .exact h.elim
theorem Qo {listed:Array Bool} {i:Nat} (h:i < listed.size) (j:Nat):(listed.setIfInBounds i true).getD j false=sS (λj=>listed.getD j false) i j:=by
 unfold sS;simp only [fW,Array.getElem?_setIfInBounds];by_cases hj:j=i
 .subst hj;simp [h]
 .simp [hj,As hj]
theorem xu {P:Program} [aC P] {B:gN P} {ops:Array Oper} {m:Nat} {K:AS->Prop} {Q:Exit->Act->World->Prop} (ht:DV ops.toList m=true) (hk:∀a' w' s',K s'->Rel B s' a' w'->Q .normal a' w'):
  ∀(n k:Nat) (listed:Array Bool) (s:AS) (a:Act) (w:World),listed.size=ops.size->k+n=ops.size->m<=k->(∀j,listed.getD j false=decide (j < k))->kV P ops.toList (ops.toList.drop k) s K->Rel B s a w->wpAny P .any ops Q n listed a w
 |0,k,listed,s,a,w,hl,hn,hm,hj,h,r=>by have hdr:ops.toList.drop k=[]:=Ax (by simp;omega);rw [hdr] at h;simp only [kV] at h;refine ⟨?_,hk _ _ _ h r⟩;rw [eq_nil_iff_forall_not_mem];intro i hi;obtain ⟨op,hop,h1,_⟩:=(mem_ready hl).1 hi;have EF:=(cH.1 hop).1;rw [hj] at h1;simp at h1 EF;omega
 |n+1,k,listed,s,a,w,hl,hn,hm,hj,h,r=>by
  have hkl:k < ops.toList.length:=by simp;omega
  have hop:ops.toList[k]? =some ops.toList[k]:=aE hkl;have hpre:=YB ht hm hop;constructor
  .intro hnil;exfalso;have:k∈Region.ready .any ops listed:=(mem_ready hl).2 ⟨_,hop,by rw [hj];simp,λe he=>by rw [hj];simpa using hpre.1 e he⟩;rw [hnil] at this;cases this
  .intro i hi;obtain ⟨op,aKp,h1,h2⟩:=(mem_ready hl).1 hi;rw [hj] at h1;have hki:k<=i:=by simpa using h1
   have hik:i=k:=by
    rcases yW k i with hlt|hge
    .exfalso;have:=h2 _ ((YB ht (by omega) aKp).2 (by omega));rw [hj] at this;simp at this;omega
    .omega
   subst hik;rw [hop] at aKp;obtain rfl:=cQ aKp;rw [mL hkl] at h;unfold wpOp;have aCs:ops[i]? =some ops.toList[i]:=by simpa using hop
   rw [aCs];have:=Vb h r (Kc:=wpAny P .any ops Q n (listed.setIfInBounds i true)) (Q:=Q) (λa' w' s' h' r'=>
    xu ht hk n (i+1) _ s' a' w' (by simpa using hl) (by omega) (by omega) (λj=>by
     rw [Qo (by simpa [hl] using hkl)];unfold sS;by_cases hji:j=i
     .subst hji;simp
     .rw [cY hji];show listed.getD j false=_;rw [hj];have:(j < i)↔(j < i+1):=by omega
      simp [this]) h' r')
   simpa using this
def WG (l:List Oper) (d:List Bool):List Nat:=(range l.length).filter λi=> !d.getD i false&&(mP l i).all λe=>d.getD e false
mutual
def zH (P:Program) [aC P] (l:List Oper) (K:AS->Prop):Nat->List Bool->AS->Prop
 |0,_,s=>K s
 |n+1,d,s=>vC P l K n d s (WG l d)
def vC (P:Program) [aC P] (l:List Oper) (K:AS->Prop):Nat->List Bool->AS->List Nat->Prop
 |_,_,_,[]=>True
 |n,d,s,i::r=>(∃op,l[i]? =some op/\kV P l [op] s λs'=>zH P l K n (d.set i true) s')/\vC P l K n d s r
end
theorem Lx {P:Program} [aC P] {l:List Oper} {K:AS->Prop} {n:Nat} {d:List Bool} {s:AS}:∀{r:List Nat},vC P l K n d s r->∀i∈r,∃op,l[i]? =some op/\kV P l [op] s λs'=>zH P l K n (d.set i true) s'
 |[],_,i,hi=>by cases hi
 |j::r,h,i,hi=>by
  simp only [vC] at h;rcases lB.1 hi with rfl|hi
  .exact h.1
  .exact Lx h.2 i hi
def MS (l:List Oper):Bool:=(range l.length).all λi=>(mP l i).all λe=>decide (e < i)
theorem LA {l:List Oper} (h:MS l=true) {i:Nat} {op:Oper} (hi:l[i]? =some op):∀e∈pre op,e < i:=by
 unfold MS at h;rw [fS] at h;have:=h i (by simp;exact (cH.1 hi).1);have hp:mP l i=pre op:=by simp [mP,hi]
 rw [hp,fS] at this;exact λe he=>by simpa using this e he
theorem xw {P:Program} [aC P] {B:gN P} {ops:Array Oper} {K:AS->Prop} {Q:Exit->Act->World->Prop} (hfw:MS ops.toList=true) (hk:∀a' w' s',K s'->Rel B s' a' w'->Q .normal a' w'):
  ∀(n:Nat) (d:List Bool) (listed:Array Bool) (s:AS) (a:Act) (w:World),listed.toList=d->listed.size=ops.size->left d=n->zH P ops.toList K n d s->Rel B s a w->wpAny P .any ops Q n listed a w
 |0,d,listed,s,a,w,hd,hl,hn,h,r=>by
  simp only [zH] at h;refine ⟨?_,hk _ _ _ h r⟩;rw [eq_nil_iff_forall_not_mem];intro i hi;obtain ⟨op,hop,h1,_⟩:=(mem_ready hl).1 hi;have EF:=(cH.1 hop).1;have hi':i < listed.size:=by simp at EF;omega
  have:=Lj (l:=d) hn (i:=i) (b:=listed[i]) (by rw [<-hd];simp [hi']);rw [fW,tG hi'] at h1;simp [this] at h1
 |n+1,d,listed,s,a,w,hd,hl,hn,h,r=>by
  have hget:∀j,d.getD j false=listed.getD j false:=λj=>by rw [<-hd,iS,fW];simp
  simp only [zH] at h;constructor
  .intro hnil;exfalso;obtain ⟨i,h1,h2⟩:=PX (l:=d) (by omega);have hi:i < listed.size:=by have:=(cH.1 h1).1;rw [<-hd] at this;simpa using this
   have EF:i < ops.toList.length:=by simp;omega
   have hop:=aE EF;have:i∈Region.ready .any ops listed:=(mem_ready hl).2 ⟨_,hop,by rw [<-hget,iS,h1];rfl,λe he=>by
    have:=h2 e (LA hfw hop e he);rw [<-hget,iS,this];rfl⟩
   rw [hnil] at this;cases this
  .intro i hi;obtain ⟨op,hop,h1,h2⟩:=(mem_ready hl).1 hi;have EF:=(cH.1 hop).1;have hir:i∈WG ops.toList d:=by
    unfold WG;rw [DH];refine ⟨by simpa using EF,?_⟩;have hp:mP ops.toList i=pre op:=by simp [mP,hop]
    rw [hget,h1,hp];simp only [Fm,Cl,fS];exact λe he=>by rw [hget];exact h2 e he
   obtain ⟨op',hop',hst⟩:=Lx h i hir;rw [hop] at hop';obtain rfl:=cQ hop';unfold wpOp;have aCs:ops[i]? =some op:=by simpa using hop
   rw [aCs];have hil:i < listed.size:=by simp at EF;omega
   have:=Vb hst r (Kc:=wpAny P .any ops Q n (listed.setIfInBounds i true)) (Q:=Q) (λa' w' s' h' r'=>by
    simp only [kV] at h';refine xw hfw hk n (d.set i true) _ s' a' w' (by rw [Cp,hd]) (by simpa using hl) ?_ h' r';have hdi:d[i]? =some false:=by
     have h3:=hget i;rw [h1,iS] at h3;have hid:i < d.length:=by rw [<-hd];simpa using hil
     rw [aE hid] at h3⊢;simpa using h3
    have:=JB hdi;omega)
   simpa using this
def wW (l:List Oper) (m:Nat):Bool:=(range l.length).all λi=>decide (i<=m) || (mP l i).any λe=>decide (m<=e)
theorem Il:∀(L:List Bool) (q:Nat),(∀j,L.getD j false=decide (j < q))->q<=L.length->left L+q=L.length
 |[],q,_,h=>by simp at h;simp [left,h]
 |b::L,q,hq,hle=>by
  have hb:=hq 0;simp [getD] at hb;rw [CV];cases q with
  |zero=>
   have hb':b=false:=by simpa using hb
   have:=Il L 0 (λj=>by have:=hq (j+1);simpa [getD] using this) (by omega);rw [hb',cY (by simp)];simp;omega
  |succ q=>
   have hb':b=true:=by simpa using hb
   have:=Il L q (λj=>by have:=hq (j+1);simpa [getD] using this) (by simpa using hle);rw [hb',eK rfl];simp;omega
theorem YD {P:Program} [aC P] {ops:Array Oper} {s:AS} {K:AS->Prop} (m:Nat) (aVh:m<=ops.size) (hfw:MS ops.toList=true) (hrest:wW ops.toList m=true) (S:(Nat->Bool)->AS) (h0:mK s (S λ_=>false))
  (hs:∀i op,i < m->ops.toList[i]? =some op->∀J:Nat->Bool,F9 ops.toList J->(∀k,m<=k->J k=false)->J i=false->(∀e∈pre op,J e=true)->(qR P ops.toList op (S J) λs'=>mK s' (S (sS J i)))\/(op.guard=none/\∀B,Step P B op (S J) (S (sS J i))))
  (he:∀J:Nat->Bool,F9 ops.toList J->(∀k,m<=k->J k=false)->((∀i,i < m->J i=true)\/∃op,ops.toList[m]? =some op/\∀e∈pre op,J e=true)->zH P ops.toList K (left ((range ops.size).map J)) ((range ops.size).map J) (S J)\/(DV ops.toList m=true/\(∀i,i < m->J i=true)/\kV P ops.toList (ops.toList.drop m) (S J) K)):il P ops s K:=by
 intro B a w Q hr hk;have toJ:∀listed:Array Bool,listed.size=ops.size->listed.toList=(range ops.size).map λi=>listed.getD i false:=by
  intro listed hl;refine BW λi=> ?_
  rw [sY];by_cases hi:i < ops.size
  .have hil:i < listed.size:=by omega
   simp [hi,hil]
  .have hil:listed.toList.length<=i:=by simp;omega
   rw [oY hil];simp [hi]
 have fin:∀(fuel:Nat) (listed:Array Bool) (a:Act) (w:World),listed.size=ops.size->left listed.toList=fuel->(∀k,m<=k->listed.getD k false=false)->F9 ops.toList (λi=>listed.getD i false)->Rel B (S λi=>listed.getD i false) a w->
   ((∀i,i < m->listed.getD i false=true)\/∃op,ops.toList[m]? =some op/\∀e∈pre op,listed.getD e false=true)->wpAny P .any ops Q fuel listed a w:=by
  intro fuel listed a w hl hz hhi hc r hor;rcases he _ hc hhi hor with this|⟨ht,hall,h⟩
  .rw [<-toJ listed hl] at this;exact xw hfw hk fuel listed.toList listed _ a w rfl hl hz (hz▸this) r
  .have hJ:(λi=>listed.getD i false)=λk=>decide (k < m):=by
    funext i;by_cases hi:i < m
    .rw [hall i hi];simp [hi]
    .rw [hhi i (by omega)];simp [hi]
   have hcount:m+fuel=ops.size:=by have:=Il listed.toList m (λj=>by have:=congrFun hJ j;simpa [fW,iS] using this) (by simp;omega);rw [hz] at this;simp at this;omega
   exact xu ht hk fuel m listed _ a w hl hcount (eE _) (λj=>congrFun hJ j) h r
 have key:∀(fuel:Nat) (listed:Array Bool) (a:Act) (w:World),listed.size=ops.size->left listed.toList=fuel->(∀k,m<=k->listed.getD k false=false)->F9 ops.toList (λi=>listed.getD i false)->Rel B (S λi=>listed.getD i false) a w->wpAny P .any ops Q fuel listed a w:=by
  intro fuel;induction fuel with
  |zero=>
   intro listed a w hl hz hhi hc r;refine fin 0 listed a w hl hz hhi hc r (.inl λi hi=> ?_);have hi':i < listed.size:=by omega
   have:=Lj hz (i:=i) (b:=listed[i]) (by simp [hi']);simp [Array.getD,hi',this]
  |succ fuel ih=>
   intro listed a w hl hz hhi hc r;by_cases hall:(∀i,i < m->listed.getD i false=true)\/∃op,ops.toList[m]? =some op/\∀e∈pre op,listed.getD e false=true
   .exact fin _ listed a w hl hz hhi hc r hall
   .have hlow:∀i∈Region.ready .any ops listed,i < m:=by
     intro i hi;obtain ⟨op,hop,h1,h2⟩:=(mem_ready hl).1 hi;rcases yW i m with h|h
     .exact h
     .exfalso;rcases yW m i with hlt|hge
      .unfold wW at hrest;rw [fS] at hrest;have:=hrest i (by simp;have:=(cH.1 hop).1;simpa using this);have hp:mP ops.toList i=pre op:=by simp [mP,hop]
       simp only [hp,AN,fN,any_eq_true] at this;rcases this with h'|⟨e,he,hme⟩
       .omega
       .have h3:=h2 e he;rw [hhi e hme] at h3;cases h3
      .have:i=m:=by omega
       subst this;exact hall (.inr ⟨op,hop,h2⟩)
    constructor
    .intro hnil;exfalso;obtain ⟨i,h1,h2⟩:=PX (l:=listed.toList) (by omega);have hi:i < listed.size:=by have:=(cH.1 h1).1;simpa using this
     have hgi:listed.getD i false=false:=by
      have:listed[i]? =some false:=by simpa using h1
      rw [fW,this];rfl
     have aRl:i < ops.toList.length:=by simp;omega
     have hop:=aE aRl;have:i∈Region.ready .any ops listed:=(mem_ready hl).2 ⟨_,hop,hgi,λe he=>by
      have:=h2 e (LA hfw hop e he);have h3:listed[e]? =some true:=by simpa using this
      rw [fW,h3];rfl⟩
     rw [hnil] at this;cases this
    .intro i hi;have him:=hlow i hi;obtain ⟨op,hop,h1,h2⟩:=(mem_ready hl).1 hi;have EF:i < ops.size:=by omega
     have hil:i < listed.size:=by omega
     have hst:=hs i op him hop (λj=>listed.getD j false) hc hhi h1 h2;unfold wpOp;have aCs:ops[i]? =some op:=by simpa using hop
     rw [aCs];have hu:(λj=>(listed.setIfInBounds i true).getD j false)=sS (λj=>listed.getD j false) i:=funext λj=>Qo hil j
     have hnext:∀a' w',Rel B (S (sS (λj=>listed.getD j false) i)) a' w'->wpAny P .any ops Q fuel (listed.setIfInBounds i true) a' w':=λa' w' r'=>by
      refine ih _ _ _ (by simpa using hl) ?_ ?_ ?_ ?_
      .have h1':listed.toList[i]? =some false:=by
        have:listed[i]? =some listed[i]:=by simp [hil]
        rw [fW,this] at h1;simp only [rK] at h1;rw [h1] at this;simpa using this
       have:=JB h1';rw [Cp];omega
      .intro k hk;rw [Qo hil];unfold sS;rw [cY (by omega)];exact hhi k hk
      .rw [hu];intro j op' hj hJ e he;by_cases hji:j=i
       .subst hji;rw [hop] at hj;obtain rfl:=cQ hj;unfold sS;split
        .rfl
        .exact h2 e he
       .unfold sS at hJ⊢;rw [cY hji] at hJ;split
        .rfl
        .exact hc j op' hj hJ e he
      .rw [hu];exact r'
     rcases hst with hst|⟨hg,hst⟩
     .have:=WE hst r (Kc:=wpAny P .any ops Q fuel (listed.setIfInBounds i true)) (Q:=Q) (λa' w' s' hw r'=>hnext a' w' (hw B a' w' r'));simpa using this
     .have:Region.wanted op (yielded ops a.tmps)=true:=by simp [Region.wanted,hg]
      simp only [this,gE];exact .inl (hst B a w _ Q r hnext)
 obtain ⟨G,r⟩:=hr;have r2:Rel B s a {w with drawn:=w.drawn+1}:=⟨G,{len:=r.len,defs:=r.defs,ok:=λi ob g hl hlive=>(r.ok i ob g hl hlive).keeps (w':={w with drawn:=w.drawn+1}) ⟨λb h=>⟨h,rfl⟩,λ_ h=>h,λ_ _ _ h=>⟨h,rfl⟩,λ_ _ _ h=>h,λ_ _ _ _ _ h=>h⟩ (λ_ _=>rfl),apart:=r.apart,fresh:=r.fresh,tmps:=dX (w:=w) (E:=env B s.o G w) (w':={w with drawn:=w.drawn+1}) (E':=env B s.o G {w with drawn:=w.drawn+1}) ⟨λb h=>⟨h,rfl⟩,λ_ h=>h,λ_ _ _ h=>⟨h,rfl⟩,λ_ _ _ h=>h,λ_ _ _ _ _ h=>h⟩ _ _ _ (by simp) r.tmps,size:=r.size,frame:=r.frame,base:=r.base,same:=r.same.trans ⟨rfl,rfl,rfl⟩}⟩;have hJ:(λi=>(Array.replicate ops.size false).getD i false)=λ_=>false:=by funext i;simp only [fW,Array.getElem?_replicate];split<;>rfl
 refine key _ _ _ _ (by simp) (by simp [left]) (λk _=>congrFun hJ k) (by rw [hJ];intro j op _ h;cases h) ?_;rw [hJ];exact h0 _ _ _ r2
def jz (m:Nat) (z:List Nat) (k:Nat):Bool:=decide (k < m)&& !z.contains k
def sN (l:List Oper) (m:Nat):List Nat:=(range m).filter λj=> !(reach l m (mP l m)).contains j
def CZ (F:List Nat->Prop):List Nat->List Nat->Prop
 |acc,[]=>F acc
 |acc,z::r=>CZ F acc r/\CZ F (z::acc) r
theorem Qp {F:List Nat->Prop} (p:Nat->Bool):∀(z acc:List Nat),CZ F acc z->F ((z.filter p).reverse++acc)
 |[],acc,h=>by simpa [CZ] using h
 |x::z,acc,h=>by
  simp only [CZ] at h;by_cases hx:p x=true
  .have:=Qp p z (x::acc) h.2;rw [filter_cons_of_pos hx];simpa using this
  .have:=Qp p z acc h.1;rw [filter_cons_of_neg hx];exact this
theorem aOb {l:List Oper} {m:Nat} {op:Oper} {J:Nat->Bool} (hm:l[m]? =some op) (hc:F9 l J) (hhi:∀k,m<=k->J k=false) (hp:∀e∈pre op,J e=true):J=jz m ((sN l m).filter λk=> !J k).reverse:=by
 funext k;unfold jz;by_cases hk:k < m
 .simp only [hk,DO,Cl];cases hJ:J k with
  |true=>
   have:((sN l m).filter λk=> !J k).reverse.contains k=false:=by rw [contains_eq_mem];simp [hJ]
   rw [this];rfl
  |false=>
   have hs:k∈sN l m:=by
    unfold sN;rw [DH];refine ⟨by simpa using hk,?_⟩;have hpa:mP l m=pre op:=by simp [mP,hm]
    rw [hpa];cases hcn:(reach l m (pre op)).contains k with
    |false=>rfl
    |true=>rw [contains_eq_mem] at hcn;have:=Lv hc m (pre op) hp k (by simpa using hcn);rw [hJ] at this;cases this
   have:((sN l m).filter λk=> !J k).reverse.contains k=true:=by rw [contains_eq_mem];simp [hJ,hs]
   rw [this];rfl
 .rw [hhi k (by omega)];simp [hk]
def aCt (i:Nat) (pr:List Nat) (j:Nat) (op:Oper) (v:AV) (t:List AV):List AV:=
 match op.dst with
 |none=>t
 |some d=>if j=i then t else if j∈pr then t.set d v else if i∈pre op then t else t.set d .undef
def oI (i:Nat) (pr:List Nat):Nat->List Oper->List AV->List AV->List AV
 |_,[],_,t=>t
 |j,op::r,vs,t=>oI i pr (j+1) r vs.tail (aCt i pr j op (vs.headD .undef) t)
def Aj (J:Nat->Bool) (j:Nat) (op:Oper) (v:AV) (t:List AV):List AV:=
 match op.dst with
 |none=>t
 |some d=>if J j=true then t.set d v else t
def iQ (J:Nat->Bool):Nat->List Oper->List AV->List AV->List AV
 |_,[],_,t=>t
 |j,op::r,vs,t=>iQ J (j+1) r vs.tail (Aj J j op (vs.headD .undef) t)
theorem Qq:∀{t2 t:List AV} (d:Nat) {v2 v:AV},wk t2 t->(v=v2\/v= .undef)->wk (t2.set d v2) (t.set d v)
 |[],[],_,_,_,_,_=>trivial
 |[],_::_,_,_,_,h,_=>h.elim
 |_::_,[],_,_,_,h,_=>h.elim
 |_::_,_::_,0,_,_,h,hv=>⟨hv,h.2⟩
 |_::_,_::_,d+1,_,_,h,hv=>⟨h.1,Qq d h.2 hv⟩
theorem JI:∀{t2 t:List AV} (d:Nat),wk t2 t->wk t2 (t.set d .undef)
 |[],[],_,_=>trivial
 |[],_::_,_,h=>h.elim
 |_::_,[],_,h=>h.elim
 |_::_,_::_,0,h=>⟨.inr rfl,h.2⟩
 |_::_,_::_,d+1,h=>⟨h.1,JI d h.2⟩
theorem LB:∀{t2 t:List AV},wk t2 t->t2.length=t.length
 |[],[],_=>rfl
 |[],_::_,h=>h.elim
 |_::_,[],h=>h.elim
 |_::_,_::_,h=>by simp [LB h.2]
theorem lC:∀t:List AV,wk t t
 |[]=>trivial
 |_::xs=>⟨.inl rfl,lC xs⟩
theorem LC {J:Nat->Bool} {i:Nat} {pr:List Nat} (hi:J i=false) (hpr:∀e∈pr,J e=true/\e < i):
  ∀(l:List Oper) (j:Nat) (vs vs':List AV) (t2 t:List AV),(∀k op,l[k]? =some op->J (j+k)=true->∀e∈pre op,J e=true)->(∀k,j+k < i->vs'.getD k .undef=vs.getD k .undef)->wk t2 t->wk (iQ J j l vs t2) (oI i pr j l vs' t)
 |[],_,_,_,_,_,_,_,h=>h
 |op::r,j,vs,vs',t2,t,hc,hv,h=>by
  simp only [iQ,oI];refine LC hi hpr r (j+1) vs.tail vs'.tail _ _ (λk q hk hJ=>hc (k+1) q (by simpa using hk) (by rwa [show j+(k+1)=j+1+k by omega])) (λk hk=>by
   have:=hv (k+1) (by omega);cases vs<;>cases vs'<;>simpa [getD] using this) ?_
  have h0:j < i->vs'.headD .undef=vs.headD .undef:=λhj=>by have:=hv 0 (by omega);cases vs<;>cases vs'<;>simpa [getD] using this
  unfold Aj aCt;cases hd:op.dst with
  |none=>exact h
  |some d=>
   dsimp only;by_cases hji:j=i
   .subst hji;rw [eK rfl,cY (by rw [hi];simp)];exact h
   .rw [cY hji];by_cases hp:j∈pr
    .rw [eK hp,eK (hpr j hp).1];exact Qq d h (.inl (h0 (hpr j hp).2))
    .rw [cY hp];by_cases hq:i∈pre op
     .rw [eK hq];have:J j≠true:=λhJ=>by
       have:=hc 0 op rfl hJ i hq;rw [hi] at this;cases this
      rw [cY this];exact h
     .rw [cY hq];split
      .exact Qq d h (.inr rfl)
      .exact JI d h
theorem Vd {J:Nat->Bool} (d:Nat) (x:AV):∀(l:List Oper) (j:Nat) (vs:List AV) (t:List AV),(∀op∈l,op.dst≠some d)->iQ J j l vs (t.set d x)=(iQ J j l vs t).set d x
 |[],_,_,_,_=>rfl
 |op::r,j,vs,t,h=>by
  simp only [iQ];rw [<-Vd d x r (j+1) vs.tail _ (λq hq=>h q (by simp [hq]))];congr 1;unfold Aj;cases hd:op.dst with
  |none=>rfl
  |some d'=>
   dsimp only;have:d'≠d:=λe=>h op (by simp) (by rw [hd,e])
   split
   .rw [set_comm _ _ (As this)]
   .rfl
theorem Ca {J J':Nat->Bool}:∀(l:List Oper) (j:Nat) (vs:List AV) (t:List AV),(∀k,k < l.length->J (j+k)=J' (j+k))->iQ J j l vs t=iQ J' j l vs t
 |[],_,_,_,_=>rfl
 |op::r,j,vs,t,h=>by
  simp only [iQ];have h0:J j=J' j:=h 0 (by simp);have:Aj J j op (vs.headD .undef) t=Aj J' j op (vs.headD .undef) t:=by unfold Aj;rw [h0]
  rw [this];exact Ca r (j+1) vs.tail _ λk hk=>by
   have:=h (k+1) (by simpa using hk)
   rwa [show j+(k+1)=j+1+k by omega] at this
def distinct:List Oper->Bool
 |[]=>true
 |op::r=>(match op.dst with
  |none=>true
  |some d=>r.all λq=>decide (q.dst≠some d))&&distinct r
theorem FZ {J:Nat->Bool}:∀(l:List Oper) (j i:Nat) (op:Oper) (vs:List AV) (t:List AV) (v:AV),distinct l=true->l[i]? =some op->J (j+i)=false->vs.getD i .undef=v->
  iQ (sS J (j+i)) j l vs t=sI (iQ J j l vs t) op.dst v
 |[],_,_,_,_,_,_,_,h,_,_=>by simp at h
 |q::r,j,0,op,vs,t,v,hd,h,hJ,hv=>by
  simp at h;subst h;simp only [iQ,pZ] at hJ⊢;rw [Ca (J:=sS J j) (J':=J) r (j+1) vs.tail _ (λk _=>by unfold sS;rw [cY (by omega)])];have h1:Aj (sS J j) j q (vs.headD .undef) t=sI t q.dst v:=by
   have hv':vs.headD .undef=v:=by cases vs<;>simpa [getD] using hv
   unfold Aj sI;rw [hv'];cases q.dst with
   |none=>rfl
   |some d=>simp [sS]
  have h2:Aj J j q (vs.headD .undef) t=t:=by
   unfold Aj;cases q.dst with
   |none=>rfl
   |some d=>simp [hJ]
  rw [h1,h2];cases hq:q.dst with
  |none=>rfl
  |some d=>simp only [distinct,hq,eJ,fS,fN] at hd;exact Vd d v r (j+1) vs.tail t hd.1
 |q::r,j,i+1,op,vs,t,v,hd,h,hJ,hv=>by
  simp only [distinct,eJ] at hd;simp only [iQ];have h1:Aj (sS J (j+(i+1))) j q (vs.headD .undef) t=Aj J j q (vs.headD .undef) t:=by
   unfold Aj;have:sS J (j+(i+1)) j=J j:=by unfold sS;rw [cY (by omega)]
   rw [this]
  rw [h1,show j+(i+1)=j+1+i by omega];exact FZ r (j+1) i op vs.tail _ v hd.2 (by simpa using h) (by rwa [show j+1+i=j+(i+1) by omega]) (by cases vs<;>simpa [getD] using hv)
def oJ (J:Nat->Bool) (b:List aM):List (Nat×List aM)->List aM
 |[]=>b
 |q::r=>if J q.1=true then q.2 else oJ J b r
def top (b:List aM):List (Nat×List aM)->List aM
 |[]=>b
 |q::_=>q.2
def Ex (pr:List Nat):List (Nat×List aM)->Bool
 |[]=>true
 |q::_=>decide (q.1∈pr)
def uT (pr:List Nat) (n:Nat):Bool:=decide (n∈pr)
def Cb (l:List Oper) (b:List aM):List (Nat×List aM)->Prop
 |[]=>True
 |q::r=>(∃new,q.2=top b r++new)/\(∀p,r.head? =some p->p.1 < q.1/\∃op,l[q.1]? =some op/\p.1∈pre op)/\Cb l b r
theorem aCu {l:List Oper} {b:List aM} (J:Nat->Bool):∀{h:List (Nat×List aM)},Cb l b h->∃ext,top b h=oJ J b h++ext
 |[],_=>⟨[],by simp [top,oJ]⟩
 |q::r,hc=>by
  obtain ⟨new,hn⟩:=hc.1;obtain ⟨ext,he⟩:=aCu J hc.2.2;simp only [oJ,top];split
  .exact ⟨[],by simp⟩
  .exact ⟨ext++new,by rw [hn,he,rL]⟩
theorem jo {l:List Oper} {b:List aM} {J:Nat->Bool} {pr:List Nat} (hp:∀e∈pr,J e=true):∀{h:List (Nat×List aM)},Cb l b h->∃ext,oJ J b h=oJ (uT pr) b h++ext
 |[],_=>⟨[],by simp [oJ]⟩
 |q::r,hc=>by
  simp only [oJ];by_cases hq:q.1∈pr
  .rw [eK (hp _ hq),eK (by simpa [uT] using hq)];exact ⟨[],by simp⟩
  .rw [cY (show¬uT pr q.1=true by simpa [uT] using hq)];split
   .obtain ⟨new,hn⟩:=hc.1;obtain ⟨ext,he⟩:=aCu (uT pr) hc.2.2;exact ⟨ext++new,by rw [hn,he,rL]⟩
   .exact jo hp hc.2.2
theorem WH (J:Nat->Bool) (b:List aM):∀{s h:List (Nat×List aM)},(∀q∈s,J q.1=false)->oJ J b (s++h)=oJ J b h
 |[],_,_=>rfl
 |q::s,h,hs=>by simp only [eI,oJ];rw [cY (by rw [hs q (by simp)];simp)];exact WH J b λp hp=>hs p (by simp [hp])
theorem MU {l:List Oper} {b:List aM} {J:Nat->Bool} (hJ:F9 l J):∀{s h:List (Nat×List aM)} {q:Nat×List aM},Cb l b (s++q::h)->J q.1=false->∀p∈s,J p.1=false
 |[],_,_,_,_=>λ_ hp=>by cases hp
 |x::s,h,q,hc,hq=>by
  have ih:=MU hJ hc.2.2 hq;intro p hp;rcases lB.1 hp with rfl|hp
  .cases hJx:J p.1 with
   |false=>rfl
   |true=>
    exfalso;cases s with
    |nil=>obtain ⟨_,op,h1,h2⟩:=hc.2.1 q rfl;have:=hJ _ op h1 hJx _ h2;rw [hq] at this;cases this
    |cons y s=>obtain ⟨_,op,h1,h2⟩:=hc.2.1 y rfl;have:=hJ _ op h1 hJx _ h2;rw [ih y (by simp)] at this;cases this
  .exact ih p hp
def flv (J:Nat->Bool) (dead:Bool) (q:Nat×Nat×List AV):aM:=
 if J q.1=true then ⟨true,true,q.2.2.length,1,[q.2.2]⟩ else ⟨!dead,false,q.2.2.length,0,[]⟩
def rG (J:Nat->Bool) (dead:Bool):List (Nat×Nat×List AV)->List aM->List aM
 |[],o=>o
 |q::r,o=>rG J dead r (o.set q.2.1 (flv J dead q))
def EY:Nat->Bool:=λ_=>false
def YE (fl:List (Nat×Nat×List AV)) (n:Nat):Bool:=decide (fl.map (·.1)).Nodup&&(decide (fl.map (·.2.1)).Nodup&&fl.all λq=>decide (q.2.1 < n))
theorem qC (J:Nat->Bool) (d:Bool):∀(fl:List (Nat×Nat×List AV)) (o:List aM),(rG J d fl o).length=o.length
 |[],_=>rfl
 |q::r,o=>by simp only [rG];rw [qC J d r];simp
theorem EZ {J:Nat->Bool} {d:Bool} {i:Nat}:∀{fl:List (Nat×Nat×List AV)} {o:List aM},(∀q∈fl,q.2.1≠i)->(rG J d fl o)[i]? =o[i]?
 |[],_,_=>rfl
 |q::r,o,h=>by simp only [rG];rw [EZ λp hp=>h p (by simp [hp]),lA (h q (by simp))]
theorem Cc {J:Nat->Bool} {d:Bool}:∀{fl:List (Nat×Nat×List AV)} {o:List aM} {q:Nat×Nat×List AV},(fl.map (·.2.1)).Nodup->q∈fl->q.2.1 < o.length->(rG J d fl o)[q.2.1]? =some (flv J d q)
 |p::r,o,q,hn,hq,hl=>by
  simp only [rG];simp only [mT,mA] at hn;rcases lB.1 hq with rfl|hq
  .rw [EZ λp hp e=>hn.1 (Bx.2 ⟨p,hp,e⟩),mB hl]
  .exact Cc hn.2 hq (by simpa using hl)
theorem OG {J:Nat->Bool} {d:Bool} {n:List aM}:∀{fl:List (Nat×Nat×List AV)} {o:List aM},(∀q∈fl,q.2.1 < o.length)->rG J d fl (o++n)=rG J d fl o++n
 |[],_,_=>rfl
 |q::r,o,h=>by simp only [rG];rw [set_append_left _ _ (h q (by simp)),OG λp hp=>by simpa using h p (by simp [hp])]
theorem xx {fl:List (Nat×Nat×List AV)} {o o':List aM} (hl:o.length=o'.length) (h:∀q∈fl,o[q.2.1]? =o'[q.2.1]?) (h2:∀i,(∀q∈fl,q.2.1≠i)->o[i]? =o'[i]?):o=o':=by
 refine BW λi=> ?_
 by_cases hi:∃q∈fl,q.2.1=i
 .obtain ⟨q,hq,rfl⟩:=hi;exact h q hq
 .exact h2 i λq hq e=>hi ⟨q,hq,e⟩
theorem aG4 {J J':Nat->Bool} {d d':Bool} {fl:List (Nat×Nat×List AV)} {o:List aM} (hn:(fl.map (·.2.1)).Nodup) (hs:∀q∈fl,q.2.1 < o.length):rG J d fl (rG J' d' fl o)=rG J d fl o:=
 xx (fl:=fl) (by simp [qC]) (λq hq=>by rw [Cc hn hq (by rw [qC];exact hs q hq),Cc hn hq (hs q hq)]) (λi hi=>by rw [EZ hi,EZ hi,EZ hi])
theorem Ve {J J':Nat->Bool} {d:Bool}:∀{fl:List (Nat×Nat×List AV)} {o:List aM},(∀q∈fl,J q.1=J' q.1)->rG J d fl o=rG J' d fl o
 |[],_,_=>rfl
 |q::r,o,h=>by
  simp only [rG];have:flv J d q=flv J' d q:=by unfold flv;rw [h q (by simp)]
  rw [this,Ve λp hp=>h p (by simp [hp])]
theorem Ga {α β:Type} (f:α->β):∀(L:List α),(L.map f).Nodup->∀p q,p∈L->q∈L->f p=f q->p=q
 |[],_,_,_,h,_,_=>by cases h
 |x::L,hn,p,q,hp,hq,e=>by
  simp only [mT,mA] at hn;rcases lB.1 hp with hp'|hp'
  .rcases lB.1 hq with hq'|hq'
   .rw [hp',hq']
   .exfalso;exact hn.1 (Bx.2 ⟨q,hq',by rw [<-e,hp']⟩)
  .rcases lB.1 hq with hq'|hq'
   .exfalso;exact hn.1 (Bx.2 ⟨p,hp',by rw [e,hq']⟩)
   .exact Ga f L hn.2 p q hp' hq' e
theorem aG5 {J:Nat->Bool} {d:Bool} {fl:List (Nat×Nat×List AV)} {o:List aM} {q:Nat×Nat×List AV} (hn1:(fl.map (·.1)).Nodup) (hn:(fl.map (·.2.1)).Nodup) (hs:∀q∈fl,q.2.1 < o.length) (hq:q∈fl):
  rG (sS J q.1) d fl o=(rG J d fl o).set q.2.1 ⟨true,true,q.2.2.length,1,[q.2.2]⟩:=by
 have hinj:∀p∈fl,p.1=q.1->p=q:=λp hp e=>Ga (·.1) fl hn1 p q hp hq e
 have aOc:∀p∈fl,p.2.1=q.2.1->p=q:=λp hp e=>Ga (·.2.1) fl hn p q hp hq e
 refine xx (fl:=fl) (by simp [qC]) (λp hp=> ?_) (λi hi=> ?_)
 .rw [Cc hn hp (hs p hp)];by_cases hpq:p=q
  .subst hpq;rw [mB (by rw [qC];exact hs p hp)];simp [flv,sS]
  .rw [lA (λe=>hpq (aOc p hp e.symm)),Cc hn hp (hs p hp)]
   have:sS J q.1 p.1=J p.1:=by unfold sS;rw [cY (λe=>hpq (hinj p hp e))]
   simp [flv,this]
 .rw [EZ hi,lA (hi q hq),EZ hi]
theorem aG6 {J:Nat->Bool} {pr:List Nat} {fl:List (Nat×Nat×List AV)} {o ext:List aM} (hn:(fl.map (·.2.1)).Nodup) (hs:∀q∈fl,q.2.1 < o.length) (hp:∀e∈pr,J e=true):
  Sub (rG (uT pr) true fl o) (rG J false fl (o++ext)):=by
 intro i ob h hl;by_cases hi:∃q∈fl,q.2.1=i
 .obtain ⟨q,hq,rfl⟩:=hi;rw [Cc hn hq (hs q hq)] at h;obtain rfl:=cQ h;rw [Cc hn hq (by have:=hs q hq;simp;omega)];unfold flv at hl⊢;by_cases hb:uT pr q.1=true
  .rw [eK hb,eK (hp q.1 (by simpa [uT] using hb))]
  .rw [cY hb] at hl;cases hl
 .have hi':∀q∈fl,q.2.1≠i:=λq hq e=>hi ⟨q,hq,e⟩
  rw [EZ hi'] at h⊢;rw [pC (cH.1 h).1];exact h
theorem xy {l:List Oper} {b:List aM} {J:Nat->Bool} {h:List (Nat×List aM)} (hc:Cb l b h):∃ext,oJ J b h=b++ext:=by
 obtain ⟨ext,he⟩:=jo (J:=J) (pr:=[]) (by simp) hc;have:∀h:List (Nat×List aM),oJ (uT []) b h=b:=by
  intro h;induction h with
  |nil=>rfl
  |cons q r ih=>simp [oJ,ih,uT]
 exact ⟨ext,by rw [he,this]⟩
theorem WI {fl:List (Nat×Nat×List AV)} {b:List aM} (J:Nat->Bool) (hb:rG EY true fl b=b):∀{h:List (Nat×List aM)},(∀q∈h,rG EY true fl q.2=q.2)->rG EY true fl (oJ J b h)=oJ J b h
 |[],_=>hb
 |q::r,h=>by
  simp only [oJ];split
  .exact h q (by simp)
  .exact WI J hb λp hp=>h p (by simp [hp])
def Fa (op:Oper) (s:AS):AV:=match op.dst with
 |some d=>s.t.getD d .undef
 |none=> .undef
def nA (P:Program) [aC P] (l:List Oper) (t:List AV) (b:List aM) (fl:List (Nat×Nat×List AV)) (K:AS->Prop):Nat->List Oper->List AV->List (Nat×List aM)->Prop
 |i,[],vs,h=>K ⟨iQ (λ_=>true) 0 l vs t,rG (λk=>decide (k < i)) false fl (top b h)⟩
 |i,op::r,vs,h=>(∃q∈fl,q.1=i/\op.guard=none/\(∃T,op.op= .alloc T/\dS P T=some q.2.2)/\(∀e∈pre op,e < i)/\nA P l t b fl K (i+1) r (vs++[.ptr q.2.1 1 0 0]) h)\/
   ((∀q∈fl,q.1≠i)/\nI op.op ⟨oI i (pre op) 0 l vs t,rG (uT (pre op)) true fl (oJ (uT (pre op)) b h)⟩=true/\(∀e∈pre op,e < i)/\
   qR P l op ⟨oI i (pre op) 0 l vs t,rG (uT (pre op)) true fl (oJ (uT (pre op)) b h)⟩ λs'=>
    (Ex (pre op) h=true\/s'.o.length=(oJ (uT (pre op)) b h).length)/\
    nA P l t b fl K (i+1) r (vs++[Fa op s']) (if s'.o.length=(oJ (uT (pre op)) b h).length then h else (i,rG EY true fl s'.o)::h))\/
   (wW l i=true/\CZ (λz=>zH P l K (left ((range l.length).map (jz i z))) ((range l.length).map (jz i z)) ⟨iQ (jz i z) 0 l vs t,rG (jz i z) false fl (oJ (jz i z) b h)⟩) [] (sN l i))\/
   (wW l i=true/\DV l i=true/\kV P l (op::r) ⟨iQ (λk=>decide (k < i)) 0 l vs t,rG (λk=>decide (k < i)) false fl (top b h)⟩ K)
structure Item (P : Program) [aC P] (l : List Oper) (t : List AV) (b : List aM) (fl : List (Nat × Nat × List AV)) (j : Nat) (op : Oper) (vs : List AV) (hf : List (Nat × List aM)) : Prop where
  pre : ∀ e ∈ pre op, e < j
  ex : (∃ q ∈ fl, q.1 = j /\ op.guard = none /\ (∃ T, op.op = .alloc T /\ dS P T = some q.2.2) /\ vs.getD j .undef = .ptr q.2.1 1 0 0 /\ ∀ p ∈ hf, p.1 ≠ j) \/
    ((∀ q ∈ fl, q.1 ≠ j) /\ ∃ x new hj Vf, nI op.op ⟨oI j (Aw.pre op) 0 l (vs.take j) t, rG (uT (Aw.pre op)) true fl (oJ (uT (Aw.pre op)) b hj)⟩ = true /\ hf = Vf ++ hj /\ (∀ q ∈ hj, q.1 < j) /\ (vs.getD j .undef = x \/ vs.getD j .undef = .undef) /\
    qR P l op ⟨oI j (Aw.pre op) 0 l (vs.take j) t, rG (uT (Aw.pre op)) true fl (oJ (uT (Aw.pre op)) b hj)⟩ (λs' => s' = ⟨sI (oI j (Aw.pre op) 0 l (vs.take j) t) op.dst x, rG (uT (Aw.pre op)) true fl (oJ (uT (Aw.pre op)) b hj) ++ new⟩) /\
    ((new = [] /\ ∀ q ∈ Vf, j < q.1) \/ (Ex (Aw.pre op) hj = true /\ ∃ s2, Vf = s2 ++ [(j, oJ (uT (Aw.pre op)) b hj ++ new)] /\ ∀ q ∈ s2, j < q.1)))
theorem YF {b:List aM} {pr:List Nat} {h:List (Nat×List aM)} (ht:Ex pr h=true):oJ (uT pr) b h=top b h:=by
 cases h with
 |nil=>rfl
 |cons q r=>simp only [Ex] at ht;simp only [oJ,top,uT,ht,gE]
theorem Vg {P:Program} [aC P] {op:Oper} {t t2:List AV} {o o2:List aM} {K:AS->Prop} (h:Tz P op ⟨t,o⟩ K):
  ∃x new x2,K ⟨sI t op.dst x,o++new⟩/\(x=x2\/x= .undef)/\(o2.length=o.length\/new=[])/\∀K2:AS->Prop,K2 ⟨sI t2 op.dst x2,o2++new⟩->Tz P op ⟨t2,o2⟩ K2:=by
 obtain ⟨dst,op,ty,pos,after,gd⟩:=op;unfold Tz at h;dsimp only at h;split at h
 .split at h
  .rename_i e n by' he;refine ⟨.sl .own n [],[],.sl .own n [],by rw [fX,<-put_eq];exact h.2,.inl rfl,.inr rfl,λK2 hK=> ?_⟩;rw [fX] at hK;rename_i tt _;show (match iC P tt with
    |some (e,n,_)=>bT P e n=true/\K2 (AS.put ⟨t2,o2⟩ dst (.sl .own n []))
    |none=>False)
   rw [he];exact ⟨h.1,by rw [put_eq];exact hK⟩
  .exact h.elim
 .exact h.elim
theorem Ce {P:Program} [aC P] {l:List Oper} {op:Oper} {t t2:List AV} {o o2:List aM} {K:AS->Prop} (q:nI op.op ⟨t,o⟩=true) (hw:wk t2 t) (h:qR P l op ⟨t,o⟩ K) (hs:Sub o o2) (zY:o2.length=o.length\/∀s',K s'->s'.o.length=o.length):
  ∃x new x2,K ⟨sI t op.dst x,o++new⟩/\(x=x2\/x= .undef)/\(o2.length=o.length\/new=[])/\∀K2:AS->Prop,K2 ⟨sI t2 op.dst x2,o2++new⟩->qR P l op ⟨t2,o2⟩ K2:=by
 unfold qR at h;split at h
 .rename_i hg;rcases h with h|h
  .obtain ⟨x,new,x2,h1,h2,h3,h4⟩:=Ym q hw h hs zY;exact ⟨x,new,x2,h1,h2,h3,λK2 hK=>by unfold qR;simp only [hg];exact .inl (h4 K2 hK)⟩
  .obtain ⟨x,new,x2,h1,h2,h3,h4⟩:=Vg (t2:=t2) (o2:=o2) h;exact ⟨x,new,x2,h1,h2,h3,λK2 hK=>by unfold qR;simp only [hg];exact .inr (h4 K2 hK)⟩
 .rename_i j want hg;split at h
  .rename_i b hb;have hb2:qO l ⟨t2,o2⟩ j want= .bool b:=by
    unfold qO at hb⊢;split at hb
    .rename_i o' ho';split at hb
     .rename_i d hd;rcases iy d hw with e|e
      .rw [<-e];exact hb
      .rw [e] at hb;cases hb
     .cases hb
    .cases hb
   by_cases hbw:b=want
   .rcases h.1 hbw with h|h
    .obtain ⟨x,new,x2,h1,h2,h3,h4⟩:=Ym q hw h hs zY;exact ⟨x,new,x2,h1,h2,h3,λK2 hK=>by unfold qR;simp only [hg,hb2];exact ⟨λ_=> .inl (h4 K2 hK),λhn=>absurd hbw hn⟩⟩
    .obtain ⟨x,new,x2,h1,h2,h3,h4⟩:=Vg (t2:=t2) (o2:=o2) h;exact ⟨x,new,x2,h1,h2,h3,λK2 hK=>by unfold qR;simp only [hg,hb2];exact ⟨λ_=> .inr (h4 K2 hK),λhn=>absurd hbw hn⟩⟩
   .have h1:=h.2 hbw;rw [put_eq] at h1;exact ⟨.iJ [],[],.iJ [],by rw [fX];exact h1,.inl rfl,.inr rfl,λK2 hK=>by
     unfold qR;simp only [hg,hb2];refine ⟨λhn=>absurd hn hbw,λ_=> ?_⟩;rw [put_eq];rw [fX] at hK;exact hK⟩
  .exact h.elim
def aRm (P:Program) [aC P] (l:List Oper) (t:List AV) (b:List aM) (fl:List (Nat×Nat×List AV)) (K:AS->Prop) (m:Nat) (vs:List AV) (h:List (Nat×List aM)):Prop:=
 (m=l.length/\K ⟨iQ (λ_=>true) 0 l vs t,rG (λk=>decide (k < m)) false fl (top b h)⟩)\/
 (m < l.length/\wW l m=true/\CZ (λz=>zH P l K (left ((range l.length).map (jz m z))) ((range l.length).map (jz m z)) ⟨iQ (jz m z) 0 l vs t,rG (jz m z) false fl (oJ (jz m z) b h)⟩) [] (sN l m))\/
 (m < l.length/\wW l m=true/\DV l m=true/\kV P l (l.drop m) ⟨iQ (λk=>decide (k < m)) 0 l vs t,rG (λk=>decide (k < m)) false fl (top b h)⟩ K)
theorem Gb {P : Program} [aC P] {l : List Oper} {t : List AV} {b : List aM} {fl : List (Nat × Nat × List AV)} {K : AS -> Prop} (hnd : (fl.map (·.2.1)).Nodup) (hsl : ∀ q ∈ fl, q.2.1 < b.length) (hb : rG EY true fl b = b) : ∀ (r : List Oper) (i : Nat) (vs : List AV) (h : List (Nat × List aM)), l.drop i = r -> vs.length = i -> i <= l.length -> (∀ q ∈ h, q.1 < i) -> (∀ q ∈ h, rG EY true fl q.2 = q.2) -> Cb l b h -> nA P l t b fl K i r vs h ->
    ∃ m vs' hf, i <= m /\ aRm P l t b fl K m (vs ++ vs') hf /\ Cb l b hf /\ (∃ Vf, hf = Vf ++ h /\ ∀ q ∈ Vf, i <= q.1 /\ q.1 < m) /\ (∀ q ∈ hf, rG EY true fl q.2 = q.2) /\ ∀ j op, i <= j -> j < m -> l[j]? = some op -> Item P l t b fl j op (vs ++ vs') hf
  | [], i, vs, h, hr, hv, hi, hlt, hN, hc, hd => by
    have hil : i = l.length := by have : l.length <= i := by simpa using hr
                                  omega
    subst hil;refine ⟨l.length, [], h, eE _, ?_, hc, ⟨[], rfl, by simp⟩, hN, λj op hij hj => by omega⟩;simp only [nA] at hd;exact .inl ⟨rfl, by simpa using hd⟩
  | op :: r, i, vs, h, hr, hv, hi, hlt, hN, hc, hd => by
    have hil : i < l.length := by
      rcases yW i l.length with h' | h'
      · exact h'
      · rw [Ax h'] at hr; cases hr
    have hop : l[i]? = some op := by
      have := An head? hr;rw [head?_drop] at this; simpa using this
    have hdr : l.drop (i + 1) = r := by rw [<- At, hr]; rfl
    simp only [nA] at hd;rcases hd with ⟨q, hq, hqi, hg, hT, hpr, hd⟩ | ⟨hnf, hq, hpr, ha⟩ | ⟨htl, ha⟩ | ⟨htl, aRn, ha⟩;case inr.inr.inr =>
      refine ⟨i, [], h, eE _, ?_, hc, ⟨[], rfl, by simp⟩, hN, λj op' hij hj => by omega⟩;rw [fX];exact .inr (.inr ⟨hil, htl, aRn, by rw [hr]; exact ha⟩)
    case inr.inr.inl =>
      refine ⟨i, [], h, eE _, ?_, hc, ⟨[], rfl, by simp⟩, hN, λj op' hij hj => by omega⟩;rw [fX];exact .inr (.inl ⟨hil, htl, ha⟩)
    case inl =>
      obtain ⟨m, vs', hf, km, k1, k2, ⟨Vf, k3, k4⟩, k6, k5⟩ := Gb hnd hsl hb r (i + 1) (vs ++ [.ptr q.2.1 1 0 0]) h hdr (by simp [hv]) (by omega) (λq hq => by have := hlt q hq; omega) hN hc hd;refine ⟨m, .ptr q.2.1 1 0 0 :: vs', hf, by omega, by simpa using k1, k2, ⟨Vf, k3, λq hq => by have := k4 q hq; omega⟩, k6, λj op' hij hjm hj => ?_⟩;by_cases hji : j = i
      · subst hji
        rw [hop] at hj; obtain rfl := cQ hj;refine ⟨hpr, .inl ⟨q, hq, hqi, hg, hT, ?_, λp hp => ?_⟩⟩
        · rw [iS, hY (by omega), hv, xF]; rfl
        · rw [k3] at hp
          rcases fL.1 hp with hp | hp
          · have := k4 p hp; omega
          · have := hlt p hp; omega
      · have := k5 j op' (by omega) hjm hj
        simpa using this
    have hsub : Sub (rG (uT (pre op)) true fl (oJ (uT (pre op)) b h)) (rG (uT (pre op)) true fl (oJ (uT (pre op)) b h)) := λ_ _ h _ => h
    obtain ⟨x, new, x2, ⟨h1, h2⟩, _, _, h3⟩ := Ce hq (lC _) ha hsub (.inl rfl);have h4 := h3 (λs' => s' = ⟨sI (oI i (pre op) 0 l vs t) op.dst x2, rG (uT (pre op)) true fl (oJ (uT (pre op)) b h) ++ new⟩) rfl;have hval : ∀ (y : AV) (os : List aM), Fa op ⟨sI (oI i (pre op) 0 l vs t) op.dst y, os⟩ = y \/ Fa op ⟨sI (oI i (pre op) 0 l vs t) op.dst y, os⟩ = .undef := by
      intro y os;unfold Fa sI;cases op.dst with
      | none => exact .inr rfl
      | some d =>
        dsimp only;rw [iS, getElem?_set_self'];cases (oI i (pre op) 0 l vs t)[d]? with
        | none => exact .inr rfl
        | some z => exact .inl rfl
    obtain ⟨aVi, hbase⟩ := xy (J := uT (pre op)) hc;have aKq : ∀ q ∈ fl, q.2.1 < (oJ (uT (pre op)) b h).length := λq hq => by rw [hbase]; have := hsl q hq; simp; omega
    have aOd : rG EY true fl (rG (uT (pre op)) true fl (oJ (uT (pre op)) b h) ++ new) = oJ (uT (pre op)) b h ++ new := by
      rw [OG (by rw [qC]; exact aKq), aG4 hnd aKq, WI _ hb hN]
    simp only [aOd] at h2;generalize hvv : Fa op ⟨sI (oI i (pre op) 0 l vs t) op.dst x, rG (uT (pre op)) true fl (oJ (uT (pre op)) b h) ++ new⟩ = vv at h2;have hvx : vv = x2 \/ vv = .undef := by
      rcases hval x (rG (uT (pre op)) true fl (oJ (uT (pre op)) b h) ++ new) with e | e
      · rw [hvv] at e; subst e; assumption
      · rw [hvv] at e; exact .inr e
    have hlen : ((rG (uT (pre op)) true fl (oJ (uT (pre op)) b h) ++ new).length = (oJ (uT (pre op)) b h).length) ↔ new = [] := by
      rw [eR, qC]; constructor
      · intro e; exact lE (by omega)
      · rintro rfl; simp
    have item : ∀ (vs' : List AV) (hf : List (Nat × List aM)), ((∃ Vf, hf = Vf ++ h /\ new = [] /\ ∀ q ∈ Vf, i < q.1) \/ (Ex (pre op) h = true /\ ∃ s2, hf = s2 ++ (i, oJ (uT (pre op)) b h ++ new) :: h /\ ∀ q ∈ s2, i < q.1)) -> Item P l t b fl i op ((vs ++ [vv]) ++ vs') hf := by
      intro vs' hf hcase;have e1 : ((vs ++ [vv]) ++ vs').take i = vs := by rw [rL, take_left' hv]
      have e2 : ((vs ++ [vv]) ++ vs').getD i .undef = vv := by
        rw [rL, iS, hY (by omega), hv, xF]; rfl
      refine ⟨hpr, .inr ⟨hnf, x2, new, h, ?_⟩⟩;rw [e1, e2];rcases hcase with ⟨Vf, rfl, hn, hs⟩ | ⟨ht, s2, rfl, hs⟩
      · exact ⟨Vf, hq, rfl, hlt, hvx, h4, .inl ⟨hn, hs⟩⟩
      · exact ⟨s2 ++ [(i, oJ (uT (pre op)) b h ++ new)], hq, by simp, hlt, hvx, h4, .inr ⟨ht, s2, rfl, hs⟩⟩
    by_cases hnew : new = []
    · rw [eK (hlen.2 hnew)] at h2
      obtain ⟨m, vs', hf, km, k1, k2, ⟨Vf, k3, k4⟩, k6, k5⟩ := Gb hnd hsl hb r (i + 1) (vs ++ [vv]) h hdr (by simp [hv]) (by omega) (λq hq => by have := hlt q hq; omega) hN hc h2;refine ⟨m, vv :: vs', hf, by omega, by simpa using k1, k2, ⟨Vf, k3, λq hq => by have := k4 q hq; omega⟩, k6, λj op' hij hjm hj => ?_⟩;by_cases hji : j = i
      · subst hji
        rw [hop] at hj; obtain rfl := cQ hj;have := item vs' hf (.inl ⟨Vf, k3, hnew, λq hq => by have := k4 q hq; omega⟩);simpa using this
      · have := k5 j op' (by omega) hjm hj
        simpa using this
    · rw [cY (λe => hnew (hlen.1 e))] at h2
      have ht : Ex (pre op) h = true := h1.resolve_right (λe => hnew (hlen.1 e));have hc' : Cb l b ((i, oJ (uT (pre op)) b h ++ new) :: h) := by
        refine ⟨⟨new, by rw [YF ht]⟩, λp hp => ?_, hc⟩;cases h with
        | nil => cases hp
        | cons q h =>
          obtain rfl := cQ hp;exact ⟨hlt _ (by simp), op, hop, by simpa [Ex] using ht⟩
      obtain ⟨m, vs', hf, km, k1, k2, ⟨Vf, k3, k4⟩, k6, k5⟩ := Gb hnd hsl hb r (i + 1) (vs ++ [vv]) _ hdr (by simp [hv]) (by omega) (λq hq => by
        rcases lB.1 hq with rfl | hq
        · simp
        · have := hlt q hq; omega) (λq hq => by
        rcases lB.1 hq with rfl | hq
        · show rG EY true fl (oJ (uT (pre op)) b h ++ new) = _
          rw [OG aKq, WI _ hb hN]
        · exact hN q hq) hc' h2
      refine ⟨m, vv :: vs', hf, by omega, by simpa using k1, k2, ⟨Vf ++ [(i, oJ (uT (pre op)) b h ++ new)], by simp [k3], λq hq => by
        rcases fL.1 hq with hq | hq
        · have := k4 q hq; omega
        · simp at hq; subst hq; exact ⟨by simp, by omega⟩⟩, k6, λj op' hij hjm hj => ?_⟩
      by_cases hji : j = i
      · subst hji
        rw [hop] at hj; obtain rfl := cQ hj;have := item vs' hf (.inr ⟨ht, Vf, k3, λq hq => by have := k4 q hq; omega⟩);simpa using this
      · have := k5 j op' (by omega) hjm hj
        simpa using this
theorem G5 {P:Program} [aC P] {id:Nat} {l:List Oper} {s:AS} {Q:Exit->AS->Prop} {fl:List (Nat×Nat×List AV)} {b:List aM} (hfw:MS l=true) (hdst:distinct l=true) (hfl:YE fl b.length=true) (hb:rG EY true fl b=b) (hb0:rG EY false fl b=s.o++(fl.map (·.2.2.length)).map λn=>⟨true,false,n,0,[]⟩)
  (h:nA P l s.t b fl (Q .normal) 0 l [] []):tF P (.region id l.toArray true) s Q:=by
 simp only [YE,eJ,fN,fS] at hfl;obtain ⟨aRo,hnd,hsl⟩:=hfl;obtain ⟨m,vs,hf,_,hK,hc,⟨aOe,aI7,TH⟩,hN,hit⟩:=Gb hnd hsl hb l 0 [] [] rfl rfl (by omega) (by simp) (by simp) trivial h;simp only [eN] at hK hit;have aRp:∀j op,j < m->l[j]? =some op->Item P l s.t b fl j op vs hf:=λj op hjm hj=>hit j op (by omega) hjm hj
 have aKr:∀J:Nat->Bool,∀q∈fl,q.2.1 < (oJ J b hf).length:=λJ q hq=>by obtain ⟨ext,he⟩:=xy (J:=J) hc;rw [he];have:=hsl q hq;simp;omega
 unfold tF;have DW:m<=l.length:=by
  rcases hK with h|h|h
  .omega
  .omega
  .omega
 have hrest:wW l m=true:=by
  rcases hK with h|h|h
  .rw [h.1];unfold wW;rw [fS];intro i hi;simp at hi;simp only [AN,fN];exact .inl (by omega)
  .exact h.2.1
  .exact h.2.1
 refine YD (ops:=l.toArray) m (by simpa using DW) (by simpa using hfw) (by simpa using hrest) (λJ=>⟨iQ J 0 l vs s.t,rG J false fl (oJ J b hf)⟩) ?_ ?_ ?_
 .have e1:∀(l:List Oper) (j:Nat) (vs t:List AV),iQ (λ_=>false) j l vs t=t:=by
   intro l;induction l with
   |nil=>intros;rfl
   |cons op r ih=>intro j vs t;simp only [iQ];rw [ih];unfold Aj;cases op.dst<;>simp
  have e2:∀h:List (Nat×List aM),oJ (λ_=>false) b h=b:=by
   intro h;induction h with
   |nil=>rfl
   |cons q r ih=>simp [oJ,ih]
  rw [e1,e2];have e3:rG (λ_=>false) false fl b=_:=hb0;rw [e3];exact λ_ _ _ _ _ r=>Ph _ r
 .intro i op him hi;have hi':l[i]? =some op:=by simpa using hi
  have it:=aRp i op him hi';intro J hJ hJm hJi hpre;have hJ':F9 l J:=by simpa using hJ
  rcases it.ex with ⟨q,hq,hqi,hg,⟨T,hT,hz⟩,hval,hne⟩|⟨hnf,x,new,hj,Vf,hqq,hfe,hlt,hvx,hop,hcase⟩
  .right;refine ⟨hg,λB=> ?_⟩;have hoJ:∀h:List (Nat×List aM),(∀p∈h,p.1≠i)->oJ (sS J i) b h=oJ J b h:=by
    intro h;induction h with
    |nil=>intro _;rfl
    |cons p r ih=>
     intro hq;simp only [oJ];rw [ih λp hp=>hq p (by simp [hp])];have:sS J i p.1=J p.1:=by unfold sS;rw [cY (hq p (by simp))]
     rw [this]
   have hto:iQ (sS J i) 0 l vs s.t=sI (iQ J 0 l vs s.t) op.dst (.ptr q.2.1 1 0 0):=by
    have:=FZ l 0 i op vs s.t (.ptr q.2.1 1 0 0) hdst hi' (by simpa using hJi) hval
    rwa [hM] at this
   have aRq:rG (sS J i) false fl (oJ J b hf)=(rG J false fl (oJ J b hf)).set q.2.1 ⟨true,true,q.2.2.length,1,[q.2.2]⟩:=by rw [<-hqi];exact aG5 aRo hnd (aKr J) hq
   rw [hto,hoJ hf hne,aRq];have aOf:(rG J false fl (oJ J b hf))[q.2.1]? =some ⟨true,false,q.2.2.length,0,[]⟩:=by rw [Cc hnd hq (aKr J q hq)];unfold flv;rw [cY (by rw [hqi,hJi];simp)];rfl
   obtain ⟨dst,o,ty,pos,after,gd⟩:=op;dsimp only at hT hg⊢;subst hT;have:=VZ (B:=B) (s:=⟨iQ J 0 l vs s.t,rG J false fl (oJ J b hf)⟩) (dst:=dst) (ty:=ty) (pos:=pos) (after:=after) (gd:=gd) T hz aOf;rw [put_eq] at this;exact this
  left;have Vh:wk (iQ J 0 l vs s.t) (oI i (pre op) 0 l (vs.take i) s.t):=
   LC hJi (λe he=>⟨hpre e he,it.pre e he⟩) l 0 vs (vs.take i) s.t s.t (λk q hk hJk=>hJ' k q hk (by simpa using hJk)) (λk hk=>by
    rw [iS,iS,AT];simp [show k < i by omega]) (lC _)
  have aI8:∀(J':Nat->Bool) (s2:List (Nat×List aM)),(∀q∈s2,J' q.1=false)->∀h',oJ J' b (s2++h')=oJ J' b h':=λJ' s2 h1 h'=>WH J' b h1
  have aRs:∀q:Nat×List aM,i<=q.1->uT (pre op) q.1=false:=λq hq=>by
   cases hb:uT (pre op) q.1 with
   |false=>rfl
   |true=>have:=it.pre q.1 (by simpa [uT] using hb);omega
  have hoc:oJ (uT (pre op)) b hf=oJ (uT (pre op)) b hj:=by
   rw [hfe];refine WH _ _ λq hq=>aRs q ?_
   rcases hcase with ⟨_,h1⟩|⟨_,s2,rfl,h1⟩
   .have:=h1 q hq;omega
   .rcases fL.1 hq with hq|hq
    .have:=h1 q hq;omega
    .simp at hq;subst hq;simp
  obtain ⟨ext,zY⟩:=jo (J:=J) hpre hc;rw [hoc] at zY;have aOg:∀q∈fl,q.2.1 < (oJ (uT (pre op)) b hj).length:=λq hq=>by rw [<-hoc];exact aKr _ q hq
  have BN:(new=[]/\oJ (sS J i) b hf=oJ J b hf)\/(ext=[]/\oJ (sS J i) b hf=oJ (uT (pre op)) b hj++new):=by
   rcases hcase with ⟨h1,h2⟩|⟨ht,s2,rfl,h2⟩
   .refine .inl ⟨h1,?_⟩;have:∀h:List (Nat×List aM),(∀q∈h,q.1≠i)->oJ (sS J i) b h=oJ J b h:=by
     intro h;induction h with
     |nil=>intro _;rfl
     |cons q r ih=>
      intro hq;simp only [oJ];rw [ih λp hp=>hq p (by simp [hp])];have:sS J i q.1=J q.1:=by unfold sS;rw [cY (hq q (by simp))]
      rw [this]
    refine this hf λq hq=> ?_
    rw [hfe] at hq;rcases fL.1 hq with hq|hq
    .have:=h2 q hq;omega
    .have:=hlt q hq;omega
   .right;have aKt:hf=s2++(i,oJ (uT (pre op)) b hj++new)::hj:=by simp [hfe]
    have hs2:=MU hJ' (s:=s2) (by rw [<-aKt];exact hc) hJi;constructor
    .have h3:oJ J b hf=oJ J b hj:=by rw [aKt,aI8 J s2 hs2];simp only [oJ];rw [cY (by rw [hJi];simp)]
     have h4:oJ J b hj=oJ (uT (pre op)) b hj:=by
      rw [YF ht];cases hj with
      |nil=>rfl
      |cons q r=>simp only [Ex,fN] at ht;simp only [oJ,top];rw [eK (hpre _ ht)]
     rw [h3,h4] at zY;have:=An length zY;rw [eR] at this;exact lE (by omega)
    .rw [aKt,aI8 (sS J i) s2 (λq hq=>by
      have:=h2 q hq;unfold sS;rw [cY (by omega)];exact hs2 q hq)]
     simp [oJ,sS]
  have hsub:Sub (rG (uT (pre op)) true fl (oJ (uT (pre op)) b hj)) (rG J false fl (oJ J b hf)):=by rw [zY];exact aG6 hnd aOg hpre
  obtain ⟨x',new',x2,rfl',hx2,_,hfin⟩:=Ce (o2:=rG J false fl (oJ J b hf)) hqq Vh hop hsub (by
   rcases BN with ⟨h1,_⟩|⟨h1,_⟩
   .right;rintro s' rfl;simp [h1]
   .left;rw [qC,qC,zY,h1,fX])
  refine hfin _ ?_;have hset:new'=new/\(sI (oI i (pre op) 0 l (vs.take i) s.t) op.dst x'=sI (oI i (pre op) 0 l (vs.take i) s.t) op.dst x):=by simp only [AS.mk.injEq,append_cancel_left_eq] at rfl';exact ⟨rfl'.2,rfl'.1⟩
  have hto:wk (sI (iQ J 0 l vs s.t) op.dst x2) (iQ (sS J i) 0 l vs s.t):=by
   have:=FZ l 0 i op vs s.t (vs.getD i .undef) hdst hi' (by simpa using hJi) rfl;rw [hM] at this;rw [this];have hL:=LB Vh;unfold sI at hset⊢;cases hd:op.dst with
   |none=>exact lC _
   |some d=>
    rw [hd] at hset;dsimp only at hset⊢;rcases yW d (iQ J 0 l vs s.t).length with hdl|hle
    .have hxx:x'=x:=by have:=An (λt=>t[d]?) hset.2;simpa [hL▸hdl] using this
     refine Qq d (lC _) ?_;rcases hvx with e|e
     .rw [e,<-hxx];assumption
     .exact .inr e
    .rw [By hle,By hle];exact lC _
  have aOh:∀o:List aM,rG (sS J i) false fl o=rG J false fl o:=λo=>Ve λq hq=>by unfold sS;rw [cY (hnf q hq)]
  have aOi:rG J false fl (oJ J b hf)++new'=rG (sS J i) false fl (oJ (sS J i) b hf):=by
   rw [aOh,hset.1];rcases BN with ⟨h1,h2⟩|⟨h1,h2⟩
   .rw [h2,h1,fX]
   .rw [h2,OG aOg,zY,h1,fX]
  rw [aOi];exact vQ hto
 .intro J hJ hJm hor;have hJ':F9 l J:=by simpa using hJ
  have hsz:l.toArray.size=l.length:=by simp
  rw [hsz];have e0:l.toArray.toList=l:=by simp
  rw [e0] at hor⊢;rcases hK with ⟨hme,hK⟩|⟨aKu,_,hK⟩|⟨aKu,_,htl,hK⟩
  .left;have hall:∀i,i < l.length->J i=true:=by
    intro i hi;rcases hor with h|⟨op,hop,_⟩
    .exact h i (by omega)
    .have:=(cH.1 hop).1;omega
   have e3:(range l.length).map J=replicate l.length true:=by
    refine BW λi=> ?_
    rw [sY,getElem?_replicate];by_cases hi:i < l.length
    .simp [hi,hall i hi]
    .simp [hi]
   have e4:left (replicate l.length true)=0:=by
    unfold left;rw [filter_eq_nil_iff.2]
    .rfl
    .intro x hx;rw [(mem_replicate.1 hx).2];simp
   rw [e3,e4];simp only [zH];have e5:iQ J 0 l vs s.t=iQ (λ_=>true) 0 l vs s.t:=Ca l 0 vs s.t λk hk=>by rw [hM];exact hall k hk
   have e6:oJ J b hf=top b hf:=by
    cases hf with
    |nil=>rfl
    |cons q r=>
     simp only [oJ,top];rw [eK];have:=(TH q (by
      have:q::r=aOe:=by simpa using aI7
      rw [<-this];simp)).2
     exact hall _ (by omega)
   have e7:rG J false fl (top b hf)=rG (λk=>decide (k < m)) false fl (top b hf):=by
    have:J=λk=>decide (k < m):=by
     funext k;by_cases hk:k < m
     .rw [hall k (by omega)];simp [hk]
     .rw [hJm k (by omega)];simp [hk]
    rw [this]
   rw [e5,e6,e7];exact hK
  .left;have hop:=aE aKu;have hpre:∀e∈pre l[m],J e=true:=by
    rcases hor with h|⟨op,hop',h⟩
    .exact λe he=>h e (LA hfw hop e he)
    .rw [hop] at hop';obtain rfl:=cQ hop';exact h
   have e1:=aOb hop hJ' hJm hpre;have:=Qp (λk=> !J k) (sN l m) [] hK;rw [fX,<-e1] at this;exact this
  .right;have hop:=aE aKu;have hall:∀i,i < m->J i=true:=by
    rcases hor with h|⟨op,hop',h⟩
    .exact h
    .exact aCr htl hop' hJ' h
   refine ⟨htl,hall,?_⟩;have hJf:J=λk=>decide (k < m):=by
    funext k;by_cases hk:k < m
    .rw [hall k hk];simp [hk]
    .rw [hJm k (by omega)];simp [hk]
   have e6:oJ J b hf=top b hf:=by
    cases hf with
    |nil=>rfl
    |cons q r=>
     simp only [oJ,top];rw [eK];have:=(TH q (by
      have:q::r=aOe:=by simpa using aI7
      rw [<-this];simp)).2
     exact hall _ (by omega)
   rw [e6,hJf];exact hK
theorem Vi {P:Program} [aC P] {l:List Oper} {t:List AV} {b:List aM} {fl:List (Nat×Nat×List AV)} {K:AS->Prop} {i:Nat} {vs:List AV} {h:List (Nat×List aM)} {t':List AV} {o':List aM} (ht:iQ (λ_=>true) 0 l vs t=t') (ho:rG (λk=>decide (k < i)) false fl (top b h)=o') (hk:K ⟨t',o'⟩):nA P l t b fl K i [] vs h:=by simp only [nA,ht,ho];exact hk
theorem Im {P:Program} [aC P] {l:List Oper} {t:List AV} {b:List aM} {fl:List (Nat×Nat×List AV)} {K:AS->Prop} {i:Nat} {op:Oper} {r:List Oper} {vs:List AV} {h:List (Nat×List aM)}
  {pr:List Nat} {m:List AV} {om:List aM} (hnf:(fl.all λq=>decide (q.1≠i))=true) (hpr:pre op=pr) (hlt:(pr.all λe=>decide (e < i))=true) (hm:oI i pr 0 l vs t=m) (ho:rG (uT pr) true fl (oJ (uT pr) b h)=om) (hq:nI op.op ⟨m,om⟩=true)
  (ha:qR P l op ⟨m,om⟩ λs'=>(Ex pr h=true\/s'.o.length=om.length)/\nA P l t b fl K (i+1) r (vs++[Fa op s']) (if s'.o.length=om.length then h else (i,rG EY true fl s'.o)::h)):nA P l t b fl K i (op::r) vs h:=by
 subst hpr;subst hm;subst ho;simp only [nA];simp only [qC] at ha;exact .inr (.inl ⟨λq hq=>by have:=fS.1 hnf q hq;simpa using this,hq,λe he=>by have:=fS.1 hlt e he;simpa using this,ha⟩)
theorem YG {P:Program} [aC P] {l:List Oper} {t:List AV} {b:List aM} {fl:List (Nat×Nat×List AV)} {K:AS->Prop} {i:Nat} {op:Oper} {r:List Oper} {vs:List AV} {h:List (Nat×List aM)} {q:Nat×Nat×List AV} {T:TypeId}
  (hq:fl.find? (λq=>q.1 == i)=some q) (hg:op.guard=none) (hT:op.op= .alloc T) (hz:dS P T=some q.2.2) (hlt:((pre op).all λe=>decide (e < i))=true) (hd:nA P l t b fl K (i+1) r (vs++[.ptr q.2.1 1 0 0]) h):nA P l t b fl K i (op::r) vs h:=by
 simp only [nA];refine .inl ⟨q,qS hq,by have:=DG hq;simpa using this,hg,⟨T,hT,hz⟩,λe he=>by have:=fS.1 hlt e he;simpa using this,hd⟩
theorem LD {P:Program} [aC P] {l:List Oper} {t:List AV} {b:List aM} {fl:List (Nat×Nat×List AV)} {K:AS->Prop} {i:Nat} {op:Oper} {r:List Oper} {vs:List AV} {h:List (Nat×List aM)} {z:List Nat}
  (hr:wW l i=true) (hz:sN l i=z) (ha:CZ (λz=>zH P l K (left ((range l.length).map (jz i z))) ((range l.length).map (jz i z)) ⟨iQ (jz i z) 0 l vs t,rG (jz i z) false fl (oJ (jz i z) b h)⟩) [] z):nA P l t b fl K i (op::r) vs h:=by
 subst hz;simp only [nA];exact .inr (.inr (.inl ⟨hr,ha⟩))
theorem Vj {P:Program} [aC P] {l:List Oper} {t t':List AV} {b b':List aM} {fl:List (Nat×Nat×List AV)} {K:AS->Prop} {i:Nat} {op:Oper} {r:List Oper} {vs:List AV} {h:List (Nat×List aM)}
  (htl:(wW l i&&DV l i)=true) (ht:iQ (λk=>decide (k < i)) 0 l vs t=t') (ho:rG (λk=>decide (k < i)) false fl (top b h)=b') (ha:kV P l (op::r) ⟨t',b'⟩ K):nA P l t b fl K i (op::r) vs h:=by
 subst ht;subst ho;simp only [eJ] at htl;simp only [nA];exact .inr (.inr (.inr ⟨htl.1,htl.2,ha⟩))
def MV (J:Nat->Bool):Nat->List Oper->List Bool
 |_,[]=>[]
 |j,_::r=>J j::MV J (j+1) r
theorem Vk {J:Nat->Bool}:∀(l:List Oper) (j i:Nat),(MV J j l)[i]? =if i < l.length then some (J (j+i)) else none
 |[],_,_=>by simp [MV]
 |_::r,j,0=>by simp [MV]
 |_::r,j,i+1=>by simp only [MV,tU,eL];rw [Vk r (j+1) i,show j+1+i=j+(i+1) by omega];simp
theorem aCw (J:Nat->Bool) (l:List Oper):(range l.length).map J=MV J 0 l:=by
 refine BW λi=> ?_
 rw [Vk,sY];by_cases hi:i < l.length
 .simp [hi]
 .simp [hi]
def Qr (d:List Bool):Nat->List Oper->List Nat
 |_,[]=>[]
 |i,op::r=>if (!d.getD i false&&(pre op).all λe=>d.getD e false)=true then i::Qr d (i+1) r else Qr d (i+1) r
theorem Gc {d:List Bool}:∀{l:List Oper} {k i:Nat},i∈Qr d k l↔∃j op,l[j]? =some op/\i=k+j/\(!d.getD i false&&(pre op).all λe=>d.getD e false)=true
 |[],k,i=>by simp [Qr]
 |op::r,k,i=>by
  simp only [Qr];constructor
  .intro h;by_cases hc:(!d.getD k false&&(pre op).all λe=>d.getD e false)=true
   .rw [eK hc] at h;rcases lB.1 h with rfl|h
    .exact ⟨0,op,rfl,rfl,hc⟩
    .obtain ⟨j,o,h1,h2,h3⟩:=Gc.1 h;exact ⟨j+1,o,by simpa using h1,by omega,h3⟩
   .rw [cY hc] at h;obtain ⟨j,o,h1,h2,h3⟩:=Gc.1 h;exact ⟨j+1,o,by simpa using h1,by omega,h3⟩
  .rintro ⟨j,o,h1,rfl,h3⟩;cases j with
   |zero=>simp at h1;subst h1;rw [pZ] at h3⊢;rw [eK h3];simp
   |succ j=>
    have:=Gc.2 ⟨j,o,by simpa using h1,show k+(j+1)=k+1+j by omega,h3⟩;split
    .exact AM _ this
    .exact this
theorem Vl {P:Program} [aC P] {l:List Oper} {K:AS->Prop} {n:Nat} {d:List Bool} {s:AS} {r':List Nat} (h:vC P l K n d s r'):∀r:List Nat,(∀i∈r,i∈r')->vC P l K n d s r
 |[],_=>by simp only [vC]
 |i::r,hs=>by simp only [vC];exact ⟨Lx h i (hs i (by simp)),Vl h r λj hj=>hs j (by simp [hj])⟩
theorem go_all {P:Program} [aC P] {l:List Oper} {K:AS->Prop} {n:Nat} {d:List Bool} {s:AS} {rl:List Nat} (hr:Qr d 0 l=rl) (h:vC P l K n d s rl):zH P l K (n+1) d s:=by
 simp only [zH];refine Vl h _ λi hi=> ?_
 rw [<-hr,Gc];unfold WG at hi;rw [DH] at hi;obtain ⟨h1,h2⟩:=hi;have hlt:i < l.length:=by simpa using h1
 have hop:=aE hlt;have hp:mP l i=pre l[i]:=by simp [mP,hop]
 exact ⟨i,l[i],hop,by omega,by rw [<-hp];exact h2⟩
theorem go_end {P:Program} [aC P] {l:List Oper} {K:AS->Prop} {d:List Bool} {s:AS} (h:K s):zH P l K 0 d s:=by simpa only [zH] using h
theorem go_one {P:Program} [aC P] {l:List Oper} {K:AS->Prop} {n:Nat} {d d':List Bool} {s:AS} {i:Nat} {op:Oper} (hop:l[i]? =some op) (hd:d.set i true=d') (h:kV P l [op] s λs'=>zH P l K n d' s'):vC P l K n d s [i]:=by subst hd;simp only [vC];exact ⟨⟨op,hop,h⟩,trivial⟩
theorem sy {P:Program} [aC P] {l:List Oper} {K:AS->Prop} {n:Nat} {d:List Bool} {s:AS} {i j:Nat} {r:List Nat} (h1:vC P l K n d s [i]) (h2:vC P l K n d s (j::r)):vC P l K n d s (i::j::r):=by simp only [vC] at h1 h2⊢;exact ⟨h1.1,h2⟩
theorem sx {F:List Nat->Prop} {acc:List Nat} {z:Nat} {r:List Nat} (h1:CZ F acc r) (h2:CZ F (z::acc) r):CZ F acc (z::r):=⟨h1,h2⟩
theorem go_sub {P:Program} [aC P] {l:List Oper} {t t':List AV} {b o':List aM} {fl:List (Nat×Nat×List AV)} {K:AS->Prop} {i n:Nat} {vs:List AV} {h:List (Nat×List aM)} {acc:List Nat} {d:List Bool} (hd:MV (jz i acc) 0 l=d) (hn:left d=n) (ht:iQ (jz i acc) 0 l vs t=t') (ho:rG (jz i acc) false fl (oJ (jz i acc) b h)=o')
  (ha:zH P l K n d ⟨t',o'⟩):CZ (λz=>zH P l K (left ((range l.length).map (jz i z))) ((range l.length).map (jz i z)) ⟨iQ (jz i z) 0 l vs t,rG (jz i z) false fl (oJ (jz i z) b h)⟩) acc []:=by
 subst hn;subst ht;subst ho;subst hd;simp only [CZ,aCw];exact ha
theorem zI {P:Program} [aC P] {all:List Oper} {K1 K2:AS->Prop} (hk:∀s',K1 s'->K2 s'):∀(r:List Oper) (s:AS),kV P all r s K1->kV P all r s K2
 |[],s,h=>by simp only [kV] at h⊢;exact hk s h
 |o::r,s,h=>by
  simp only [kV] at h⊢;split at h
  .rcases h with h|h|h
   .exact .inl (WC (zI hk r) h)
   .exact .inr (.inl (YA (zI hk r) h))
   .exact .inr (.inr (Va (zI hk r) h))
  .split at h
   .exact ⟨λe=>(h.1 e).imp (WC (zI hk r)) (Or.imp (YA (zI hk r)) (Va (zI hk r))),λe=>zI hk r _ (h.2 e)⟩
   .exact h.elim
mutual
theorem YH {P:Program} [aC P] {l:List Oper} {K1 K2:AS->Prop} (hk:∀s',K1 s'->K2 s'):∀(n:Nat) (d:List Bool) (s:AS),zH P l K1 n d s->zH P l K2 n d s
 |0,d,s,h=>by simp only [zH] at h⊢;exact hk s h
 |n+1,d,s,h=>by simp only [zH] at h⊢;exact Vm hk n d s _ h
theorem Vm {P:Program} [aC P] {l:List Oper} {K1 K2:AS->Prop} (hk:∀s',K1 s'->K2 s'):∀(n:Nat) (d:List Bool) (s:AS) (r:List Nat),vC P l K1 n d s r->vC P l K2 n d s r
 |n,d,s,[],h=>by simp only [vC]
 |n,d,s,i::r,h=>by simp only [vC] at h⊢;obtain ⟨⟨op,h1,h2⟩,h3⟩:=h;exact ⟨⟨op,h1,zI (λs'=>YH hk n _ s') _ _ h2⟩,Vm hk n d s r h3⟩
end
theorem Qs {F1 F2:List Nat->Prop} (hk:∀z,F1 z->F2 z):∀(z acc:List Nat),CZ F1 acc z->CZ F2 acc z
 |[],acc,h=>hk acc h
 |x::z,acc,h=>⟨Qs hk z acc h.1,Qs hk z (x::acc) h.2⟩
theorem DX {P:Program} [aC P] {l:List Oper} {t:List AV} {b:List aM} {fl:List (Nat×Nat×List AV)} {K:AS->Prop} {i:Nat} {op:Oper} {r:List Oper} {vs:List AV} {h:List (Nat×List aM)} {z:List Nat} {s1:AS}
  (hr:wW l i=true) (hz:sN l i=z) (ha:CZ (λz=>zH P l (λs'=>s'=s1) (left ((range l.length).map (jz i z))) ((range l.length).map (jz i z)) ⟨iQ (jz i z) 0 l vs t,rG (jz i z) false fl (oJ (jz i z) b h)⟩) [] z) (hk:K s1):nA P l t b fl K i (op::r) vs h:=
 LD hr hz (Qs (λz h=>YH (λs' e=>by subst e;exact hk) _ _ _ h) _ _ ha)
def Qt (P:Program):Nat->Nat->List Oper->List (Nat×Nat×List AV)
 |_,_,[]=>[]
 |i,n,op::r=>match op.op with
  | .alloc T=>match dS P T with
   |some z=>(i,n,z)::Qt P (i+1) (n+1) r
   |none=>Qt P (i+1) n r
  |_=>Qt P (i+1) n r
attribute [irreducible] nA
def bD (t:List AV):List (Nat×AV)->List AV
 |[]=>t
 |p::r=>bD (t.set p.1 p.2) r
theorem aL {P:Program} [aC P] {c:Code} {s:AS} {Q:Exit->AS->Prop} {ι:Type} (inv:List AV->List aM->ι->AS) (μ:ι->Nat) (i:ι) (h0:mK s (inv s.t s.o i)) (h:∀i,∀K:AS->Prop,(∀s' j,mK s' (inv s.t s.o j)->μ j < μ i->K s')->tF P c (inv s.t s.o i) (CU K Q)):tF P (.loop c) s Q:=aBh (inv s.t s.o) μ i h0 h
attribute [irreducible] CZ
attribute [simp] MV Qr jz left rG flv EY Qt pre aCt oI Aj iQ oJ top Ex uT Fa bD
theorem G6 {P:Program} [aC P] {all r:List Oper} {o:Oper} {s:AS} {K:AS->Prop} {j:Nat} {want:Bool} (hg:o.guard=some (j,want)) (hb:qO all s j want= .bool (!want)) (h:kV P all r (s.put o.dst (.iJ [])) K):kV P all (o::r) s K:=by unfold kV;rw [hg];dsimp only;rw [hb];exact ⟨λhn=>(by cases want<;>cases hn),λ_=>h⟩
theorem YI {α:Type} {l:List α} {i:Nat} {x:α} (h:l[i]? =some x):l.set i x=l:=by obtain ⟨hi,rfl⟩:=cH.1 h;exact set_getElem_self hi
theorem jq {P:Program} [aC P] {all r:List Oper} {o:Oper} {s:AS} {K:AS->Prop} {j d:Nat} {want b:Bool} (hg:o.guard=some (j,want)) (hd:(all[j]?).bind (·.dst)=some d) (hb:s.t[d]? =some (.bool b))
  (h1:b=true->kV P all (o::r) ⟨s.t.set d (.bool true),s.o⟩ K) (h2:b=false->kV P all (o::r) ⟨s.t.set d (.bool false),s.o⟩ K):kV P all (o::r) s K:=by
 cases b
 .have:=h2 rfl;rw [YI hb] at this;exact this
 .have:=h1 rfl;rw [YI hb] at this;exact this
def wX {α:Type} (f:α->Bool) (l:List α):Int:=if l.any f=true then (l.findIdx f:Nat) else -1
theorem DY {α:Type} {f:α->Bool} {l:List α} {k:Nat} (h:k < l.length) (hf:f l[k]=true) (hn:∀x∈l.take k,f x=false):wX f l=k:=by
 unfold wX;rw [eK (any_eq_true.2 ⟨_,fR h,hf⟩)];have:l.findIdx f=k:=by rw [findIdx_eq h];refine ⟨hf,λj hj=> ?_⟩;exact hn _ (mem_take_iff_getElem.2 ⟨j,by omega,rfl⟩)
 rw [this]
theorem wI {α:Type} {f:α->Bool} {l:List α} (hn:∀x∈l,f x=false):wX f l= -1:=by unfold wX;rw [cY];intro h;obtain ⟨x,hx,hf⟩:=any_eq_true.1 h;rw [hn x hx] at hf;cases hf
theorem Fb {α:Type} (f:α->Bool) (l:List α):decide (0<=wX f l)=l.any f:=by unfold wX;cases h:l.any f<;>simp
theorem dV {α:Type} {p:α->Prop} {l:List α} {k:Nat} (h:k < l.length) (ha:∀x∈l.take k,p x) (hk:p l[k]):∀x∈l.take (k+1),p x:=by
 rw [eA h];intro x hx;rcases fL.1 hx with hx|hx
 .exact ha x hx
 .rw [sA.1 hx];exact hk
theorem mQ {α:Type} {p:α->Prop} {l:List α} {k:Nat} (hk:l.length<=k) (ha:∀x∈l.take k,p x):∀x∈l,p x:=by
 rwa [cX hk] at ha
theorem lY {n:Int} {k:Nat} (h:n<=1048576):sub n k<=1048576:=by unfold sub;split<;>omega
theorem jR {n:Int} {k:Nat} (h:n<=1048576):n - (k:Int)<=1048576:=by omega
theorem lZ {n m:Int} {k:Nat} (e:sub n k=m) (h:0<=m):m=n - k/\(k:Int)<=n:=by unfold sub at e;split at e<;>omega
theorem jS {n m:Int} {k:Nat} (e:sub n k=m) (h0:0<=n) (h:m < 0):m= -1/\n < k:=by unfold sub at e;split at e<;>omega
open Go.ChangeShapes Go.WideShapes Go.ChangeAt Go.RowKit
inductive Sh
  | int (k : IntKind)
  | bool
  | str
  | sl (n : Nat) (row : List Sh)
mutual
def Fits:Sh->AV->Prop
 | .int k,.int k' n=>k'=k/\(Lit.int k n).wf=true
 | .bool,.bool _=>True
 | .str,.str s=>s.length<=maxLen
 | .sl n row,.sl g n' rows=>g= .view/\n'=n/\rows.length<=maxLen/\∀r∈rows,lI row r
 |_,_=>False
def lI:List Sh->List AV->Prop
 |[],[]=>True
 |s::ss,x::xs=>Fits s x/\lI ss xs
 |_,_=>False
end
theorem Jz:∀{ss tt:List Sh} {xs ys:List AV},lI ss xs->lI tt ys->lI (ss++tt) (xs++ys)
 |[],_,[],_,_,h=>h
 |s::ss,_,x::xs,_,h,h'=>by simp only [lI,eI] at h⊢;exact ⟨h.1,Jz h.2 h'⟩
 |[],_,_::_,_,h,_=>h.elim
 |_::_,_,[],_,h,_=>h.elim
def shF (sh:TypeId->Option (List Sh)) (P:Program):List Field->Nat->Option (List Sh)
 |[],_=>some []
 |x::xs,o=>if x.offset=o then match sh x.type with
   |some a=>if a.length=P.cellsOf x.type then match shF sh P xs (o+a.length) with
     |some b=>some (a++b)
     |none=>none
    else none
   |none=>none
  else none
def vz (P:Program):Nat->TypeId->Option (List Sh)
 |0,_=>none
 |f+1,t=>match P.underlying t with
  |some .bool=>some [.bool]
  |some (.int k)=>some [.int k]
  |some .string=>some [.str]
  |some (.slice e)=>match vz P f e with
   |some row=>if row.length=P.cellsOf e/\0 < row.length then some [.sl row.length row] else none
   |none=>none
  |some (.struct fs)=>match shF (vz P f) P fs.toList 0 with
   |some r=>if r.length=P.cellsOf t then some r else none
   |none=>none
  |_=>none
theorem MM {α:Type} {p:Nat->α->Prop}:∀(n:Nat),(∀i,i < n->∃x,p i x)->∃l:List α,l.length=n/\∀i x,l[i]? =some x->p i x
 |0,_=>⟨[],rfl,λi x h=>by simp at h⟩
 |n+1,h=>by
  obtain ⟨l,hl,hp⟩:=MM n (λi hi=>h i (by omega));obtain ⟨x,hx⟩:=h n (by omega);refine ⟨l++[x],by simp [hl],λi y hy=> ?_⟩;by_cases hi:i < l.length
  .rw [pC hi] at hy;exact hp i y hy
  .rw [hY (by omega)] at hy;have:i - l.length=0:=by
    cases hk:i - l.length with
    |zero=>rfl
    |succ k=>rw [hk] at hy;simp at hy
   rw [this] at hy;simp at hy;subst hy;have:i=n:=by omega
   subst this;exact hx
theorem aIr {w:World} {E:Env} {b n:Nat}:∀(rows:List (List AV)) (off:Nat),
  (∀j r,rows[j]? =some r->∃cs:List Value,cs.length=n/\bN w b (off+j * n) cs/\(∀x∈cs,x.oneCell'=true)/\Rc w E r cs [])->Rr w E rows b off n []
 |[],_,_=>by simp [Rr]
 |r::rs,off,h=>by obtain ⟨cs,h1,h2,h3,h4⟩:=h 0 r rfl;refine ⟨cs,[],[],h1,by simpa using h2,h3,h4,aIr rs (off+n) λj r hj=> ?_,rfl⟩;obtain ⟨cs,h1,h2,h3,h4⟩:=h (j+1) r (by simpa using hj);exact ⟨cs,h1,by rw [pP,Nat.one_mul,show off+(j * n+n)=off+n+j * n by omega] at h2;exact h2,h3,h4⟩
section
variable {H : Type} {enc : TypeId × Value -> H} {P : Program} [aC P] {w : World} {spare : Nat -> Bool} {held : Bool}
def Reads (enc:TypeId×Value->H) (P:Program) (w:World) (spare:Nat->Bool) (held:Bool) (t:TypeId) (ss:List Sh):Prop:=
 ∀fuel cs x,DataW.trod enc P w 0 spare held fuel t cs=some x->∃UQ,lI ss UQ/\Rc w (nP w) UQ cs []/\∀c∈cs,c.oneCell'=true
theorem JA {sh:TypeId->Option (List Sh)} (ih:∀t ss,sh t=some ss->Reads enc P w spare held t ss) {n:Nat} {cs:List Value}:
  ∀(fs:List Field) (o:Nat) (rs:List Sh),shF sh P fs o=some rs->(∀f∈fs,∃y,DataW.trod enc P w 0 spare held n f.type ((cs.drop f.offset).take (P.cellsOf f.type))=some y)->
   ∃UQ,lI rs UQ/\Rc w (nP w) UQ ((cs.drop o).take rs.length) []/\∀c∈(cs.drop o).take rs.length,c.oneCell'=true
 |[],o,rs,h,_=>by simp only [shF,eC] at h;subst h;exact ⟨[],by simp [lI],by simp [Rc],by simp⟩
 |f::fs,o,rs,h,hf=>by
  simp only [shF] at h;split at h
  .rename_i ho;split at h
   .rename_i a ha;split at h
    .rename_i hl;split at h
     .rename_i b hb;obtain rfl:=cQ h;obtain ⟨y,hy⟩:=hf f (by simp);obtain ⟨x1,h1,h2,h3⟩:=ih _ _ ha _ _ _ hy;obtain ⟨x2,h4,h5,h6⟩:=JA ih fs _ _ hb λf hf'=>hf f (by simp [hf'])
      rw [ho,<-hl] at h2 h3;have e:(cs.drop o).take (a++b).length=(cs.drop o).take a.length++(cs.drop (o+a.length)).take b.length:=by rw [eR,take_add,At]
      refine ⟨x1++x2,Jz h1 h4,by rw [e];exact mF h2 h5,λc hc=> ?_⟩;rw [e,fL] at hc;exact hc.elim (h3 c) (h6 c)
     .cases h
    .cases h
   .cases h
  .cases h
theorem reads:∀(f:Nat) (t:TypeId) (ss:List Sh),vz P f t=some ss->Reads enc P w spare held t ss
 |0,_,_,h=>by simp [vz] at h
 |f+1,t,ss,h=>by
  intro fuel cs x hx;unfold vz at h;split at h
  .rename_i ht;obtain rfl:=cQ h;obtain ⟨b,rfl,_⟩:=DataW.trod_bool ht hx;exact ⟨[.bool b],by simp [lI,Fits],by simp [Rc,R],by simp [Value.oneCell']⟩
  .rename_i k ht;obtain rfl:=cQ h;obtain ⟨n,rfl,_,hw⟩:=DataW.trod_int ht hx;exact ⟨[.int k n],by simp [lI,Fits,hw],by simp [Rc,R],by simp [Value.oneCell']⟩
  .rename_i ht;obtain rfl:=cQ h;obtain ⟨s,rfl,_,hw⟩:=DataW.trod_string ht hx;exact ⟨[.str s.data.toList],by simpa [lI,Fits] using hw,by simp [Rc,R],by simp [Value.oneCell']⟩
  .rename_i e ht;split at h
   .rename_i row aBb;split at h
    .rename_i hc;obtain rfl:=cQ h;have ih:=reads f e row aBb;rcases DataW.trod_slice ht hx with ⟨rfl,_⟩|⟨a,len,cap,elems,rest,n,_,rfl,_,_,hlc,wh,hlen,hel,_,_⟩
     .exact ⟨[.sl .view row.length []],by simp [lI,Fits],by simp [Rc,R,maxLen],by simp [Value.oneCell']⟩
     .rw [<-hc.1] at hel;have aBi:∀i,i < len->∃r:List AV,lI row r/\∃cs,w.cells? 0 (a.add (i * row.length)) row.length=some cs/\(∀x∈cs,x.oneCell'=true)/\Rc w (nP w) r cs []:=by intro i hi;have h1:=hel i hi;rw [aE (by omega)] at h1;obtain ⟨cs,hcs,htr⟩:=Option.bind_eq_some_iff.1 h1;obtain ⟨r,h2,h3,h4⟩:=ih _ _ _ htr;exact ⟨r,h2,cs,hcs,h4,h3⟩
      obtain ⟨rows,hrl,hrp⟩:=MM len aBi;refine ⟨[.sl .view row.length rows],?_,?_,by simp [Value.oneCell']⟩
      .simp only [lI,Fits,rS,true_and];refine ⟨by omega,λr hr=> ?_⟩;obtain ⟨i,hi⟩:=getElem?_of_mem hr;exact (hrp i r hi).1
      .simp only [Rc];refine ⟨[],[],?_,rfl,rfl⟩;simp only [R];refine .inr ⟨some a,cap,by rw [hrl],⟨by omega,by omega⟩,.inr (.inr ⟨by simp,trivial,?_⟩)⟩;by_cases hl0:len=0
       .exact .inl (tW.1 (by omega))
       right;have h0:rows[0]? =some rows[0]:=aE (by omega);obtain ⟨_,cs0,aKc,_⟩:=hrp 0 _ h0;have hcell:=(World.cells?_some aKc).2.2 0 hc.2;have aTn:=(World.cells?_some aKc).2.1;have aIs:a.spot=none:=by
        have:w.cell? a=cs0[0]?:=by simpa [Addr.add] using hcell
        rw [aE (by omega)] at this;unfold World.cell? at this;split at this
        .split at this
         .cases this
         .rename_i hs;simpa using hs
        .cases this
       have aF4:a.block < w.heap.size:=by have:=World.cells?_block aKc hc.2;unfold Addr.add at this;split at this<;>exact this
       obtain ⟨ab,ao,asp⟩:=a;simp only at aIs aF4;subst aIs;refine ⟨ab,ao,rfl,aF4,aIr rows ao λj r hj=> ?_⟩;obtain ⟨_,cs,hcs,h1,hR⟩:=hrp j r hj;have hs:=World.cells?_some hcs;refine ⟨cs,hs.2.1,λk v hv=> ?_,h1,?_⟩
       .have hk:k < row.length:=by have:=(cH.1 hv).1;omega
        have:=hs.2.2 k hk;rw [hv] at this;rw [<-this];congr 1;unfold Addr.add;split<;>split<;>simp_all<;>omega
       .exact dX (w:=w) (w':=w) (E:=nP w) ⟨λb hb=>⟨hb,rfl⟩,λ_ h=>trivial,λ_ _ _ h=>by exact h.elim,λ_ _ _ h=>by exact h.elim,λ_ _ _ _ _ h=>by exact h.elim⟩ _ _ _ (by simp) hR
    .cases h
   .cases h
  .rename_i fs ht;split at h
   .rename_i r hr;split at h
    .rename_i hc;obtain rfl:=cQ h;obtain ⟨xs,n,_,_,zT,hxl,xX⟩:=DataW.trod_struct ht hx;obtain ⟨UQ,h1,h2,h3⟩:=JA (enc:=enc) (w:=w) (spare:=spare) (held:=held) (n:=n) (cs:=cs) (reads f) fs.toList 0 _ hr λfl hfl=>by
      obtain ⟨i,hi⟩:=getElem?_of_mem hfl;have:=xX i fl (by simpa using hi);have hlt:=(cH.1 hi).1;simp at hlt;rw [aE (by omega)] at this;exact ⟨_,this⟩
     rw [CM,cX (by omega)] at h2 h3;exact ⟨UQ,h1,h2,h3⟩
    .cases h
   .cases h
  .cases h
inductive ShV
  | one (s : Sh)
  | agg (row : List Sh)
def aBj:ShV->AV->Prop
 | .one s,x=>Fits s x
 | .agg row,.agg c=>lI row c
 |_,_=>False
def Lh:List ShV->List AV->Prop
 |[],[]=>True
 |s::ss,x::xs=>aBj s x/\Lh ss xs
 |_,_=>False
def shV (P:Program) (f:Nat) (t:TypeId):Option ShV:=match P.underlying t with
 |some (.struct _)=>(vz P f t).map .agg
 |some .bool|some (.int _)|some .string|some (.slice _)=>match vz P f t with
  |some [s]=>some (.one s)
  |_=>none
 |_=>none
def aBk (P:Program) (f:Nat):List TypeId->Option (List ShV)
 |[]=>some []
 |t::ts=>match shV P f t,aBk P f ts with
  |some s,some ss=>some (s::ss)
  |_,_=>none
theorem D6 {v:Value} (h:∀cs,v≠ .agg cs):v.cells=#[v]:=by cases v<;>first|rfl|exact absurd rfl (h _)
theorem aKd {base:Nat} {f:Nat} {t:TypeId} {s:ShV} (h:shV P f t=some s) {v:Value} {d:DataW H} {ps:List MemPlace} (wC:Value.okWide P w .any base t v)
  (hT:DataW.Trod enc P w 0 spare held t v d ps):∃av,aBj s av/\R w (nP w) av v []:=by
 obtain ⟨fuel,hT⟩:=hT;unfold shV at h;have one:(∀cs,v≠ .agg cs)->(match vz P f t with|some [s]=>some (ShV.one s)|_=>none)=some s->∃av,aBj s av/\R w (nP w) av v []:=by
  intro hv h;split at h
  .rename_i s1 hs;obtain rfl:=cQ h;obtain ⟨UQ,h1,h2,_⟩:=reads f t _ hs _ _ _ hT;rw [D6 hv] at h2;cases UQ with
   |nil=>exact h1.elim
   |cons x xs=>
    cases xs with
    |nil=>simp only [Rc] at h2;obtain ⟨f1,f2,hr,rfl,e⟩:=h2;simp only [fX] at e;subst e;simp only [lI] at h1;exact ⟨x,h1.1,hr⟩
    |cons y ys=>simp [lI] at h1
  .cases h
 split at h
 .rename_i fs ht;obtain ⟨ss,hs,rfl⟩:=tB.1 h;obtain ⟨cs,rfl,_⟩:=okWide_struct ht wC;obtain ⟨UQ,h1,h2,h3⟩:=reads f t _ hs _ _ _ hT;exact ⟨.agg UQ,h1,by simp only [R];exact ⟨cs.toList,by simp,h3,h2⟩⟩
 .rename_i ht;exact one (λcs e=>by subst e;simp [Value.okWide,ht,Cell.okWide,Cell.ok] at wC) h
 .rename_i ht;exact one (λcs e=>by subst e;simp [Value.okWide,ht,Cell.okWide,Cell.ok] at wC) h
 .rename_i ht;exact one (λcs e=>by subst e;simp [Value.okWide,ht,Cell.okWide,Cell.ok] at wC) h
 .rename_i ht;exact one (λcs e=>by subst e;simp [Value.okWide,ht,Cell.okWide,Cell.ok] at wC) h
 .cases h
theorem wm {base:Nat} {f:Nat}:∀{ts:List TypeId} {ss:List ShV},aBk P f ts=some ss->∀{vs:List Value} {ds:List (DataW H)} {ps:List MemPlace},
  (∀(j:Nat) t v,ts[j]? =some t->vs[j]? =some v->Value.okWide P w .any base t v)->DataW.TrodAll enc P w 0 spare held ts vs ds ps->∃UQ,Lh ss UQ/\Rc w (nP w) UQ vs []
 |[],ss,h,[],_,_,_,_=>by simp only [aBk,eC] at h;subst h;exact ⟨[],trivial,by simp [Rc]⟩
 |t::ts,ss,h,v::vs,d::ds,ps,wC,hT=>by
  simp only [aBk] at h;split at h
  .rename_i s ss' h1 h2;obtain rfl:=cQ h;obtain ⟨p,q,ht,hr,_⟩:=hT;obtain ⟨x,hx,hR⟩:=aKd h1 (wC 0 t v rfl rfl) ht;obtain ⟨xs,hxs,hRs⟩:=wm h2 (λj t v h1 h2=>wC (j+1) t v (by simpa using h1) (by simpa using h2)) hr;exact ⟨x::xs,⟨hx,hxs⟩,by simp only [Rc];exact ⟨[],[],hR,hRs,rfl⟩⟩
  .cases h
 |[],_,_,_::_,_,_,_,hT=>by simp [DataW.TrodAll] at hT
 |_::_,_,_,[],_,_,_,hT=>by simp [DataW.TrodAll] at hT
 |_::_,_,_,_::_,[],_,_,hT=>by simp [DataW.TrodAll] at hT
theorem GK (hl:laidOutB P=true) {W W':World} (hb:Below W.heap.size W W'):∀{ts:List TypeId} {vs:List Value} {ds:List (DataW H)} {ps:List MemPlace},
  (∀t∈ts,P.readableRec t=true/\t < P.types.size)->DataW.TrodAll enc P W 0 (λ_=>true) true ts vs ds ps->(∀x∈ps,x.block < W.heap.size)->∀sp:Nat->Bool,(∀p∈ps,sp p.block=true)->
   DataW.TrodAll enc P W' 0 sp true ts vs ds ps
 |[],[],[],_,_,h,_,_,_=>h
 |t::ts,v::vs,d::ds,ps,hr,h,hlt,sp,hsp=>by
  obtain ⟨p,q,h1,h2,rfl⟩:=h;refine ⟨p,q,?_,?_,rfl⟩
  .exact WideElems.Trod_stays hl (hr t (by simp)).1 (hr t (by simp)).2 h1 (λx hx=>hb.same (hlt x (by simp [hx]))) (λx hx=>hsp x (by simp [hx]))
  .exact GK hl hb (λt ht=>hr t (by simp [ht])) h2 (λx hx=>hlt x (by simp [hx])) sp (λx hx=>hsp x (by simp [hx]))
 |[],_::_,_,_,_,h,_,_,_=>h.elim
 |[],[],_::_,_,_,h,_,_,_=>h.elim
 |_::_,[],_,_,_,h,_,_,_=>h.elim
 |_::_,_::_,[],_,_,h,_,_,_=>h.elim
end
theorem pO {α:Type} {row:List Sh} {e:α->List AV} {p:α->Prop} (h:∀r,lI row r->∃x,r=e x/\p x):∀rows:List (List AV),(∀r∈rows,lI row r)->∃l:List α,rows=l.map e/\∀x∈l,p x
 |[],_=>⟨[],rfl,by simp⟩
 |r::rs,hr=>by obtain ⟨x,rfl,hx⟩:=h r (hr r (by simp));obtain ⟨l,rfl,hl⟩:=pO h rs (λr h=>hr r (by simp [h]));exact ⟨x::l,rfl,by simpa using ⟨hx,hl⟩⟩
theorem vB {r:List AV} (h:lI [] r):r=[]:=by
 cases r with
 |nil=>rfl
 |cons _ _=>exact h.elim
theorem jX {ss:List Sh} {r:List AV} (h:lI (.str::ss) r):∃s r',r= .str s::r'/\s.length<=9223372036854775807/\lI ss r':=by
 match r,h with
 |[],h=>exact h.elim
 | .str s::r',h=>exact ⟨s,r',rfl,h.1,h.2⟩
theorem fits_int {k:IntKind} {ss:List Sh} {r:List AV} (h:lI (.int k::ss) r):∃n r',r= .int k n::r'/\(k.min<=n/\n<=k.max)/\lI ss r':=by
 match r,h with
 |[],h=>exact h.elim
 | .int k' n::r',h=>obtain ⟨⟨rfl,hw⟩,h2⟩:=h;exact ⟨n,r',rfl,by simpa [Lit.wf] using hw,h2⟩
theorem fits_bool {ss:List Sh} {r:List AV} (h:lI (.bool::ss) r):∃b r',r= .bool b::r'/\lI ss r':=by
 match r,h with
 |[],h=>exact h.elim
 | .bool b::r',h=>exact ⟨b,r',rfl,h.2⟩
theorem uJ {n:Nat} {row ss:List Sh} {r:List AV} (h:lI (.sl n row::ss) r):∃rows r',r= .sl .view n rows::r'/\rows.length<=9223372036854775807/\(∀x∈rows,lI row x)/\lI ss r':=by
 match r,h with
 |[],h=>exact h.elim
 | .sl g n' rows::r',h=>obtain ⟨⟨rfl,rfl,h1,h2⟩,h3⟩:=h;exact ⟨rows,r',rfl,h1,h2,h3⟩
theorem D7 {r:List AV} (h:Lh [] r):r=[]:=by
 cases r with
 |nil=>rfl
 |cons _ _=>exact h.elim
theorem Li {row:List Sh} {ss:List ShV} {r:List AV} (h:Lh (.agg row::ss) r):∃c r',r= .agg c::r'/\lI row c/\Lh ss r':=by
 match r,h with
 |[],h=>exact h.elim
 |x::r',h=>
  cases x with
  |agg c=>exact ⟨c,r',rfl,h.1,h.2⟩
  |_=>exact h.1.elim
theorem aBl {C:Checked} [T:aC C.prog] {f:FuncId} {fn:Func} {s:ChangeSpec} {apart fresh handsOn again:Bool} {H:Type} {enc:TypeId×Value->H} {ss:List ShV} {fuel:Nat} {tb:TypeId}
  (hl:laidOutB C.prog=true) (aNw:∀t∈fn.params.toList,C.prog.readableRec t=true/\t < C.prog.types.size)
  (hsh:aBk C.prog fuel fn.params.toList=some ss) (jK:fn.resultTypes=#[tb]) (hb:C.prog.underlying tb=some .bool) (aIt:s.vars=[])
  (hfn:∀ds:List (DataW H),ds.length=fn.params.toList.length->s.fn H ds={results:=[.lit (.bool true)],args:=ds})
  (wC:∀UQ,Lh ss UQ->Ok C.prog f UQ (.bool true))
  {W:World} {base:Nat} {args:Array Value} {ds gs:List (DataW H)} {before:List MemPlace} (hT:aC.holds C.prog W)
  (hval:∀(j:Nat) t v,fn.params[j]? =some t->args[j]? =some v->Value.okWide C.prog W .any base t v)
  (hW:DataW.Whole enc C.prog fn.params.toList s.vars apart W args.toList ds gs before):
  Calls C.prog f args W λe W'=>∃v,e= .returned v/\s.post enc C.prog fn apart fresh handsOn again W args v W':=by
 obtain ⟨p,q,hA,hV,hpq,hz,hn⟩:=id hW;rw [aIt] at hV;obtain ⟨rfl,rfl⟩:gs=[]/\q=[]:=by
  cases gs with
  |nil=>exact ⟨rfl,hV⟩
  |cons _ _=>exact hV.elim
 rw [fX] at hpq;subst hpq;have hlen:ds.length=fn.params.toList.length:=by
  have:∀(ts:List TypeId) (vs:List Value) (ds:List (DataW H)) ps,DataW.TrodAll enc C.prog W 0 (λ_=>true) true ts vs ds ps->ds.length=ts.length:=by
   intro ts;induction ts with
   |nil=>intro vs ds ps h;cases vs<;>cases ds<;>simp_all [DataW.TrodAll]
   |cons t ts ih=>intro vs ds ps h;cases vs<;>cases ds<;>simp_all [DataW.TrodAll];obtain ⟨_,_,_,h,_⟩:=h;exact ih _ _ _ h
  exact this _ _ _ _ hA
 have aNy:=hfn ds hlen;obtain ⟨UQ,aNz,hR⟩:=wm hsh (λj t v h1 h2=>hval j t v (by simpa using h1) (by simpa using h2)) hA;have hc:=wC UQ aNz W args.toList hT hR;rw [show args.toList.toArray=args from rfl] at hc;refine hc.mono λe W' ⟨v,fp,he,hr,_,_,hsz,nM,EF⟩=>⟨v,he,?_⟩
 simp only [R] at hr;obtain ⟨rfl,_⟩:=hr;have hbl:Below W.heap.size W W':=⟨EF.os,EF.tape,EF.output,hsz,nM⟩;have hlt:∀x∈before,x.block < W.heap.size:=λx hx=>hW.lt x hx
 have hsp:s.fn H (ds++[])={results:=[.lit (.bool true)],args:=ds}:=by rw [fX];exact aNy
 have hargs:∀sp:Nat->Bool,(∀p∈before,sp p.block=true)->DataW.TrodAll enc C.prog W' 0 sp true fn.params.toList args.toList (s.fn H (ds++[])).args before:=by intro sp h;rw [hsp];exact GK hl hbl aNw hA hlt sp h
 have hone:(Value.bool true).resultList fn.resultTypes.size=[.bool true]:=by rw [jK];rfl
 have aIu:∀(b:Nat) (sp:Nat->Bool) (hd:Bool),DataW.TrodAll enc C.prog W' b sp hd fn.resultTypes.toList ((Value.bool true).resultList fn.resultTypes.size) (s.fn H (ds++[])).results []:=by intro b sp hd;rw [hsp,hone,jK];exact ⟨[],[],shut_bool hb true,rfl,rfl⟩
 have aBm:∀sp:Nat->Bool,DataW.TrodVars enc C.prog W' sp s.vars (s.fn H (ds++[])).vars []:=by intro sp;rw [hsp,aIt];rfl
 have hold:∀p∈before,(λb=>decide (b < W.heap.size)) p.block=true:=λp hp=>by simpa using hlt p hp
 refine ⟨ds,[],before,[],before,[],hW,aIu _ _ _,hargs _ hold,aBm _,World.keptBut_mono (λp hp=>hp.elim) (hbl.frame (λ_=>False)),λ_=> ?_⟩;refine ⟨ok_one jK rfl (okWide_bool_mk hb true),_,_,([]++before)++[],⟨[]++before,[],trodAll_append (hargs _ (λ_ _=>rfl)) (aIu _ _ _),aBm _,rfl,?_,?_⟩,?_⟩
 .intro b off hp;have hp':MemPlace.cell b off∈before:=by simpa using hp
  rw [hbl.frozen (p:=⟨b,off,none⟩) (hlt _ hp')];exact hz b off hp'
 .intro ha;simpa using hn ha
 .intro p hp _;simpa using hp
def Rh:Sh->AV->Prop
 | .int k,.int k' _=>k'=k
 | .bool,.bool _=>True
 | .str,.str _=>True
 |_,_=>False
def xC:List Sh->List AV->Prop
 |[],[]=>True
 |s::ss,x::xs=>Rh s x/\xC ss xs
 |_,_=>False
theorem xD:∀{ss:List Sh} {xs:List AV},xC ss xs->xs.length=ss.length
 |[],[],_=>rfl
 |s::ss,x::xs,h=>by simp only [xC] at h;simp [xD h.2]
 |[],_::_,h=>h.elim
 |_::_,[],h=>h.elim
theorem Fy:∀{ss tt:List Sh} {xs:List AV},xC (ss++tt) xs->xC ss (xs.take ss.length)/\xC tt (xs.drop ss.length)
 |[],_,xs,h=>by simpa [xC] using h
 |s::ss,tt,x::xs,h=>by simp only [eI,xC] at h;simp only [eL,eM,rI,xC];have:=Fy h.2;exact ⟨⟨h.1,this.1⟩,this.2⟩
 |_::_,_,[],h=>h.elim
def Ck (P:Program) (t:TypeId):Bool:=match P.underlying t with|some (.struct _)=>true|_=>false
def valOf (P:Program) (t:TypeId) (cs:List Value):Value:=if Ck P t then .agg cs.toArray else cs.headD (.tuple #[])
def eqT (P:Program):Nat->TypeId->Bool
 |0,_=>false
 |f+1,t=>match P.underlying t with
  |some .bool|some (.int _)|some .string=>P.cellsOf t == 1
  |some (.struct fs)=> !P.stoodInHeld t&&fs.toList.all λx=>x.name != "_" &&eqT P f x.type
  |_=>false
theorem Ng {P:Program} {w:World} {f:Nat} {t:TypeId} (he:eqT P f t=true) (xs:List Value) (o:Nat) (h:P.cellsOf t=0\/o+P.cellsOf t<=xs.length):
  (part t xs.toArray o).run P w= .ok (valOf P t ((xs.drop o).take (P.cellsOf t))) w:=by
 cases f with
 |zero=>simp [eqT] at he
 |succ f=>
  unfold eqT at he;have one:∀d,P.underlying t=some d->(d= .bool\/(∃k,d= .int k)\/d= .string)->P.cellsOf t=1->(part t xs.toArray o).run P w= .ok (valOf P t ((xs.drop o).take (P.cellsOf t))) w:=by
   intro d hu hd h1;have hlt:o < xs.length:=by omega
   have e:(xs.drop o).take 1=[xs[o]]:=by rw [mL hlt,eM,gR]
   rw [h1,e];rcases hd with rfl|⟨k,rfl⟩|rfl<;>simp [part,isAgg,fY hu,valOf,Ck,hu,hlt]
  split at he
  .rename_i hu;exact one _ hu (.inl rfl) (by simpa using he)
  .rename_i hu;exact one _ hu (.inr (.inl ⟨_,rfl⟩)) (by simpa using he)
  .rename_i hu;exact one _ hu (.inr (.inr rfl)) (by simpa using he)
  .rename_i fs hu;obtain ⟨i,hi⟩:=info_of_underlying hu;have hl:xs.toArray.extract o (o+P.cellsOf t)=((xs.drop o).take (P.cellsOf t)).toArray:=by apply Array.toList_inj.1;rw [Array.toList_extract];simp [extract]
   simp [part,isAgg,fY hu,run_sizeOf w hi,valOf,Ck,hu,hl]
  .cases he
section
variable {P : Program}
theorem ED {f:Nat} (ih:∀t ss,vz P f t=some ss->eqT P f t=true->∀c1 c2:List AV,xC ss c1->xC ss c2->∀d w,f<=d->∃b,(Op.equalIn d t (valOf P t (c1.map toV)) (valOf P t (c2.map toV))).run P w= .ok b w/\(b=true↔c1=c2)) (c1 c2:List AV) (d:Nat) (w:World) (hd:f<=d):
  ∀(fs:List Field) (o:Nat) (rs:List Sh),shF (vz P f) P fs o=some rs->(fs.all λx=>x.name != "_" &&eqT P f x.type)=true->xC rs (c1.drop o)->xC rs (c2.drop o)->
   ∃b,(Op.eqFields d (c1.map toV).toArray (c2.map toV).toArray fs).run P w= .ok b w/\(b=true↔c1.drop o=c2.drop o)
 |[],o,rs,h,_,h1,h2=>by simp only [shF,eC] at h;subst h;refine ⟨true,by simp [Op.eqFields],?_⟩;have e1:=xD h1;have e2:=xD h2;simp only [eW,tW] at e1 e2;simp [e1,e2]
 |x::fs,o,rs,h,ha,h1,h2=>by
  simp only [shF] at h;simp only [BY,eJ] at ha;split at h
  .rename_i ho;split at h
   .rename_i a hsa;split at h
    .rename_i hl;split at h
     .rename_i b hb;obtain rfl:=cQ h;have s1:=Fy h1;have s2:=Fy h2;rw [At] at s1 s2;have n1:=xD h1;have n2:=xD h2;simp only [zE,eR] at n1 n2;obtain ⟨b1,hr1,hi1⟩:=ih _ _ hsa ha.1.2 _ _ s1.1 s2.1 d w hd;obtain ⟨b2,hr2,hi2⟩:=ED ih c1 c2 d w hd fs (o+a.length) b hb ha.2 s1.2 s2.2;have p1:=Ng (w:=w) ha.1.2 (c1.map toV) o (by rw [lR];omega);have p2:=Ng (w:=w) ha.1.2 (c2.map toV) o (by rw [lR];omega);rw [<-hl,<-map_drop,<-map_take] at p1 p2;have Yr:x.name≠ "_" :=by simpa using ha.1.1
      simp only [Op.eqFields,Yr,ne_eq,not_false_eq_true,gE,ho,nF,p1,p2,lP,hr1];have aLh:c1.drop o=(c1.drop o).take a.length++c1.drop (o+a.length):=by rw [<-At,oA]
      have aLi:c2.drop o=(c2.drop o).take a.length++c2.drop (o+a.length):=by rw [<-At,oA]
      have key:c1.drop o=c2.drop o↔((c1.drop o).take a.length=(c2.drop o).take a.length/\c1.drop (o+a.length)=c2.drop (o+a.length)):=by
       constructor
       .intro e;rw [e];refine ⟨rfl,?_⟩;rw [<-At,<-At,e]
       .intro e;rw [aLh,aLi,e.1,e.2]
      cases b1 with
      |false=>exact ⟨false,by simp,by simp only [eS,false_iff];intro e;exact absurd (hi1.2 (key.1 e).1) (by simp)⟩
      |true=>exact ⟨b2,by simpa using hr2,by rw [hi2,key];exact ⟨λe=>⟨hi1.1 rfl,e⟩,λe=>e.2⟩⟩
     .cases h
    .cases h
   .cases h
  .cases h
theorem yx:∀(f:Nat) (t:TypeId) (ss:List Sh),vz P f t=some ss->eqT P f t=true->∀c1 c2:List AV,xC ss c1->xC ss c2->∀d w,f<=d->
  ∃b,(Op.equalIn d t (valOf P t (c1.map toV)) (valOf P t (c2.map toV))).run P w= .ok b w/\(b=true↔c1=c2)
 |0,_,_,h,_,_,_,_,_,_,_,_=>by simp [vz] at h
 |f+1,t,ss,h,he,c1,c2,h1,h2,d,w,hd=>by
  obtain ⟨d,rfl⟩:∃d',d=d'+1:=⟨d - 1,by omega⟩;unfold vz at h;unfold eqT at he;have one:∀s:Sh,ss=[s]->∃x y,c1=[x]/\c2=[y]/\Rh s x/\Rh s y:=by
   rintro s rfl;match c1,c2,h1,h2 with
   |[x],[y],h1,h2=>exact ⟨x,y,rfl,rfl,h1.1,h2.1⟩
   |[],_,h1,_=>exact h1.elim
   |_::_::_,_,h1,_=>exact h1.2.elim
   |[_],[],_,h2=>exact h2.elim
   |[_],_::_::_,_,h2=>exact h2.2.elim
  split at h
  .rename_i hu;obtain ⟨x,y,rfl,rfl,l1,l2⟩:=one _ (cQ h).symm;cases x<;>simp only [Rh] at l1;cases y<;>simp only [Rh] at l2;rename_i p q;exact ⟨p == q,by simp [valOf,Ck,hu,toV,Go.run_equalIn_bool w d t p q hu],by simp⟩
  .rename_i k hu;obtain ⟨x,y,rfl,rfl,l1,l2⟩:=one _ (cQ h).symm;cases x<;>simp only [Rh] at l1;cases y<;>simp only [Rh] at l2;rename_i k1 p k2 q;have e1:k1=k:=l1;have e2:k2=k:=l2;subst e1;subst e2;exact ⟨p == q,by simp [valOf,Ck,hu,toV,run_equalIn_int w d t _ _ p q hu],by simp⟩
  .rename_i hu;obtain ⟨x,y,rfl,rfl,l1,l2⟩:=one _ (cQ h).symm;cases x<;>simp only [Rh] at l1;cases y<;>simp only [Rh] at l2;rename_i p q;refine ⟨p == q,?_,by simp⟩;have:=run_equalIn_string w d t ⟨p.toArray⟩ ⟨q.toArray⟩ hu;rw [ByteArray.toList_eq,ByteArray.toList_eq] at this;simpa [valOf,Ck,hu,toV] using this
  .rename_i e hu;rw [hu] at he;cases he
  .rename_i fs hu;rw [hu] at he;simp only [eJ,Bool.not_eq_true'] at he;split at h
   .rename_i r hr;split at h
    .obtain rfl:=cQ h;have hf:P.fieldsOf t=fs:=by simp [Program.fieldsOf,hu]
     obtain ⟨b,hb,hi⟩:=ED (λt ss a b c1 c2 e1 e2 d w hd=>yx f t ss a b c1 c2 e1 e2 d w hd) c1 c2 d w (by omega) fs.toList 0 _ hr he.2 (by simpa using h1) (by simpa using h2);refine ⟨b,?_,by simpa using hi⟩;have:=run_equalIn_struct w d t (c1.map toV).toArray (c2.map toV).toArray (by rw [hf];exact hu) he.1;rw [hf] at this;simpa [valOf,Ck,hu] using this.trans hb
    .cases h
   .cases h
  .cases h
theorem aLj {t:TypeId} {f:Nat} {ss:List Sh} (hf:f<=10000) (hs:vz P f t=some ss) (he:eqT P f t=true) (hst:Ck P t=true) (hg:P.eqGuardType P.depth t=false) {c1 c2:List AV} (h1:xC ss c1) (h2:xC ss c2) {b:Bool} (hb:b=true↔c1=c2):
  EqA P t c1 c2 b:=by
 intro op x y w hop;obtain ⟨b',hb',hi⟩:=yx f t ss hs he c1 c2 h1 h2 10000 w hf;have e:b'=b:=by rw [<-hb] at hi;cases b<;>cases b'<;>simp_all
 subst e;simp only [valOf,hst,gE] at hb';rcases hop with rfl|rfl
 .simp only [nF,run_eqGuard_agg w _ t x y _ _ hg,lP,run_eql_struct,hb',gE]
 .simp only [nF,run_eqGuard_agg w _ t x y _ _ hg,lP,run_neq_struct,hb'];rfl
end
def Nx (m:Nat) (P:Program) [aC P] (o:Oper) (s:AS) (X:AS->Prop):Prop:=qJ P o s X\/((m=1/\(Ih P o s X\/GH P o s X))\/(m=2/\Tz P o s X))
theorem go_seq {P:Program} [aC P] {x y:Code} {s:AS} {Q:Exit->AS->Prop} (h:tF P x s (CU (λs'=>tF P y s' Q) Q)):tF P (.seq x y) s Q:=by unfold tF;exact h
theorem go_then {K:AS->Prop} {Q:Exit->AS->Prop} {s:AS} (h:K s):CU K Q .normal s:=by unfold CU;exact h
theorem go_cons {P:Program} [aC P] {all r:List Oper} {o:Oper} {s:AS} {K:AS->Prop} (hg:o.guard=none) (h:Nx 1 P o s λs'=>kV P all r s' K):kV P all (o::r) s K:=by
 simp only [kV,hg];rcases h with h|h
 .exact .inl h
 .rcases h with h|h
  .exact .inr h.2
  .exact absurd h.1 (by decide)
theorem go_take {P:Program} [aC P] {all r:List Oper} {o:Oper} {s:AS} {K:AS->Prop} {j:Nat} {want:Bool} (hg:o.guard=some (j,want)) (hb:qO all s j want= .bool want) (h:Nx 0 P o s λs'=>kV P all r s' K):kV P all (o::r) s K:=by
 simp only [kV,hg,hb];rcases h with h|h
 .exact ⟨λ_=> .inl h,λhn=>absurd rfl hn⟩
 .rcases h with h|h<;>exact absurd h.1 (by decide)
theorem go_skip {P:Program} [aC P] {all r:List Oper} {o:Oper} {s s':AS} {K:AS->Prop} {j:Nat} {want:Bool} (hg:o.guard=some (j,want)) (hb:qO all s j want= .bool (!want)) (h:kV P all r s' K) (hs:∀K':AS->Prop,K' s'->K' (s.put o.dst (.iJ [])):=by intro K' hK';(try simp only [AS.put,cW,cU]);exact hK'):kV P all (o::r) s K:=
 G6 hg hb (hs (λs=>kV P all r s K) h)
theorem go_drawn {P:Program} [aC P] {id:Nat} {l:List Oper} {s:AS} {Q:Exit->AS->Prop} {fl:List (Nat×Nat×List AV)} {b:List aM} (hf:Qt P 0 s.o.length l=fl) (hbb:s.o++(fl.map λq=>(⟨false,false,q.2.2.length,0,[]⟩:aM))=b) (hfw:MS l=true) (hdst:distinct l=true) (hfl:YE fl b.length=true) (hb:rG EY true fl b=b) (hb0:rG EY false fl b=s.o++(fl.map (·.2.2.length)).map λn=>⟨true,false,n,0,[]⟩)
  (h:nA P l s.t b fl (Q .normal) 0 l [] []):tF P (.region id l.toArray true) s Q:=G5 hfw hdst hfl hb hb0 h
section
variable {P : Program} [aC P] {l : List Oper} {t : List AV} {b : List aM} {fl : List (Nat × Nat × List AV)} {K : AS -> Prop} {i : Nat} {op : Oper} {r : List Oper} {vs : List AV} {h : List (Nat × List aM)} {pr : List Nat} {m : List AV} {om : List aM}
theorem go_draw (hg:op.guard=none) (hnf:(fl.all λq=>decide (q.1≠i))=true) (hpr:pre op=pr) (hlt:(pr.all λe=>decide (e < i))=true) (hm:oI i pr 0 l vs t=m) (ho:rG (uT pr) true fl (oJ (uT pr) b h)=om) (hq:nI op.op ⟨m,om⟩=true)
  (ha:Nx 2 P op ⟨m,om⟩ λs'=>(Ex pr h=true\/s'.o.length=om.length)/\nA P l t b fl K (i+1) r (vs++[Fa op s']) (if s'.o.length=om.length then h else (i,rG EY true fl s'.o)::h)):nA P l t b fl K i (op::r) vs h:=by
 refine Im hnf hpr hlt hm ho hq ?_;unfold qR;simp only [hg];rcases ha with ha|ha
 .exact .inl ha
 .rcases ha with ha|ha
  .exact absurd ha.1 (by decide)
  .exact .inr ha.2
theorem go_drawT {j:Nat} {want:Bool} (hg:op.guard=some (j,want)) (hnf:(fl.all λq=>decide (q.1≠i))=true) (hpr:pre op=pr) (hlt:(pr.all λe=>decide (e < i))=true) (hm:oI i pr 0 l vs t=m) (ho:rG (uT pr) true fl (oJ (uT pr) b h)=om) (hq:nI op.op ⟨m,om⟩=true) (hb:qO l ⟨m,om⟩ j want= .bool want)
  (ha:Nx 2 P op ⟨m,om⟩ λs'=>(Ex pr h=true\/s'.o.length=om.length)/\nA P l t b fl K (i+1) r (vs++[Fa op s']) (if s'.o.length=om.length then h else (i,rG EY true fl s'.o)::h)):nA P l t b fl K i (op::r) vs h:=by
 refine Im hnf hpr hlt hm ho hq ?_;unfold qR;simp only [hg,hb];rcases ha with ha|ha
 .exact ⟨λ_=> .inl ha,λhn=>absurd rfl hn⟩
 .rcases ha with ha|ha
  .exact absurd ha.1 (by decide)
  .exact ⟨λ_=> .inr ha.2,λhn=>absurd rfl hn⟩
theorem go_drawS {j:Nat} {want:Bool} (hg:op.guard=some (j,want)) (hnf:(fl.all λq=>decide (q.1≠i))=true) (hpr:pre op=pr) (hlt:(pr.all λe=>decide (e < i))=true) (hm:oI i pr 0 l vs t=m) (ho:rG (uT pr) true fl (oJ (uT pr) b h)=om) (hds:(match op.dst with|some d=>decide (d < m.length)|none=>false)=true) (hq:nI op.op ⟨m,om⟩=true) (hb:qO l ⟨m,om⟩ j want= .bool (!want))
  (ha:nA P l t b fl K (i+1) r (vs++[.iJ []]) h):nA P l t b fl K i (op::r) vs h:=by
 refine Im hnf hpr hlt hm ho hq ?_;unfold qR;simp only [hg,hb];refine ⟨λhn=> ?_,λ_=> ?_⟩
 .cases want<;>cases hn
 .rw [put_eq];refine ⟨.inr rfl,?_⟩;rw [eK rfl];have:Fa op ⟨sI m op.dst (.iJ []),om⟩= .iJ []:=by
   unfold Fa sI;cases hd:op.dst with
   |none=>rw [hd] at hds;cases hds
   |some d=>
    rw [hd] at hds;have hdl:d < m.length:=by simpa using hds
    dsimp only;rw [iS,mB hdl];rfl
  rw [this];exact ha
theorem go_barC {z:List Nat} {s1:AS} (hr:wW l i=true) (hz:sN l i=z) (hk:K s1) (ha:CZ (λz=>zH P l (λs'=>s'=s1) (left ((range l.length).map (jz i z))) ((range l.length).map (jz i z)) ⟨iQ (jz i z) 0 l vs t,rG (jz i z) false fl (oJ (jz i z) b h)⟩) [] z:=by
  repeat' (first|refine st ?_|(refine nx ?_;refine so ?_)|refine sx ?_ ?_|refine sy ?_ ?_|fail)
  all_goals rfl):nA P l t b fl K i (op::r) vs h:=DX hr hz ha hk
theorem go_float {q:Nat×Nat×List AV} {T:TypeId} {vs':List AV} (hq:fl.find? (λq=>q.1 == i)=some q) (hg:op.guard=none) (hT:op.op= .alloc T) (hz:dS P T=some q.2.2) (hlt:((pre op).all λe=>decide (e < i))=true) (hv:vs++[.ptr q.2.1 1 0 0]=vs') (hd:nA P l t b fl K (i+1) r vs' h):nA P l t b fl K i (op::r) vs h:=by subst hv;exact YG hq hg hT hz hlt hd
theorem go_next {vs':List AV} {h':List (Nat×List aM)} {c:Prop} (hc:c) (hv:vs=vs') (hh:h=h') (hd:nA P l t b fl K i r vs' h'):c/\nA P l t b fl K i r vs h:=by subst hv;subst hh;exact ⟨hc,hd⟩
theorem kB {F:List Nat->Prop} {acc:List Nat} (h:CZ F acc []):CZ F acc []:=h
theorem kE {n:Nat} {d:List Bool} {s:AS} (h:zH P l K n d s):zH P l K n d s:=h
theorem kF {n:Nat} {d:List Bool} {s:AS} {j:Nat} (h:vC P l K n d s [j]):vC P l K n d s [j]:=h
theorem kD (hd:nA P l t b fl K i r vs h):nA P l t b fl K i r vs h:=hd
theorem kN {c:Prop} (hd:c/\nA P l t b fl K i r vs h):c/\nA P l t b fl K i r vs h:=hd
end
attribute [irreducible] Nx
theorem kL {P:Program} [aC P] {all l:List Oper} {s:AS} {K:AS->Prop} (h:kV P all l s K):kV P all l s K:=h
theorem kA {P:Program} [aC P] {c:Code} {s:AS} {Q:Exit->AS->Prop} (h:tF P c s Q):tF P c s Q:=h
theorem kT {K:AS->Prop} {Q:Exit->AS->Prop} {e:Exit} {s:AS} (h:CU K Q e s):CU K Q e s:=h
theorem kI {id:Nat} {Q:Exit->AS->Prop} {e:Exit} {s:AS} (h:C9 id Q e s):C9 id Q e s:=h
structure Hid (q : Prop) : Prop where
  out : q
theorem st {p q:Prop} (h:q) (e:Hid q->p:=by
 intro h
 (first
  |(refine kL ?_;first
    |refine Yh ?_
    |refine go_cons rfl ?_
    |(refine go_take rfl ?_ ?_;(focus (simp [qO,W];done)))
    |(refine go_skip rfl ?_ ?_;(focus (simp [qO,W];done))))
  |(refine kA ?_;first
    |refine go_seq ?_|refine PU ?_|refine vo ?_|refine UM ?_|refine Yi ?_|refine Yj ?_|refine go_drawn (by simp;rfl) (by simp;rfl) (by decide+kernel) (by decide) (by first|rfl|(simp [YE];done)) (by simp) (by simp) ?_)
  |(refine kT ?_;first|refine go_then ?_|refine Jw ?_|refine GI ?_)
  |(refine kI ?_;first|refine GJ ?_|refine PW ?_|refine UN ?_|refine UO (by decide) ?_)
  |(refine kN ?_;refine go_next (by simp;done) (by simp;rfl) (by simp;rfl) ?_)
  |(refine kD ?_;first
    |refine Vi (by simp;rfl) (by simp;rfl) ?_
    |refine go_float rfl rfl rfl (by simp;done) (by first|rfl|(simp [Region.binds];done)) (by simp;rfl) ?_
    |(refine go_draw rfl (by first|rfl|(simp;done)) (by simp [Region.binds];rfl) (by decide) (by simp [Region.binds];rfl) (by simp;rfl) ?_ ?_;(focus (first|rfl|(simp [nI];done))))
    |(refine go_drawT rfl (by first|rfl|(simp;done)) (by simp [Region.binds];rfl) (by decide) (by simp [Region.binds];rfl) (by simp;rfl) ?_ ?_ ?_;(focus (first|rfl|(simp [nI];done)));(focus (simp [qO,W];done)))
    |(refine go_drawS rfl (by first|rfl|(simp;done)) (by simp [Region.binds];rfl) (by decide) (by simp [Region.binds];rfl) (by simp;rfl) ?_ ?_ ?_ ?_;(focus (first|rfl|(simp;done)));(focus (first|rfl|(simp [nI];done)));(focus (simp [qO,W];done)))
    |refine Vj (by decide+kernel) (by simp;rfl) (by simp;rfl) ?_
    |refine go_barC (by decide+kernel) (by simp [sN,reach,mP,Region.binds,Ek];rfl) ?_
    |refine LD (by decide+kernel) (by simp [sN,reach,mP,Region.binds,Ek];rfl) ?_)
  |(refine kB ?_;refine go_sub (by simp;rfl) (by simp;rfl) (by simp;rfl) (by simp;rfl) ?_)
  |(refine kE ?_;first|refine go_end ?_|refine go_all (by simp [Region.binds];rfl) ?_)
  |(refine kF ?_;refine go_one rfl (by simp only [cW,cU];rfl) ?_))
 repeat (first
  |(refine kL ?_;first
    |refine Yh ?_
    |refine go_cons rfl ?_
    |(refine go_take rfl ?_ ?_;(focus (simp [qO,W];done)))
    |(refine go_skip rfl ?_ ?_;(focus (simp [qO,W];done))))
  |(refine kA ?_;first
    |refine go_seq ?_|refine PU ?_|refine vo ?_|refine UM ?_|refine Yi ?_|refine Yj ?_|refine go_drawn (by simp;rfl) (by simp;rfl) (by decide+kernel) (by decide) (by first|rfl|(simp [YE];done)) (by simp) (by simp) ?_)
  |(refine kT ?_;first|refine go_then ?_|refine Jw ?_|refine GI ?_)
  |(refine kI ?_;first|refine GJ ?_|refine PW ?_|refine UN ?_|refine UO (by decide) ?_)
  |(refine kN ?_;refine go_next (by simp;done) (by simp;rfl) (by simp;rfl) ?_)
  |(refine kD ?_;first
    |refine Vi (by simp;rfl) (by simp;rfl) ?_
    |refine go_float rfl rfl rfl (by simp;done) (by first|rfl|(simp [Region.binds];done)) (by simp;rfl) ?_
    |(refine go_draw rfl (by first|rfl|(simp;done)) (by simp [Region.binds];rfl) (by decide) (by simp [Region.binds];rfl) (by simp;rfl) ?_ ?_;(focus (first|rfl|(simp [nI];done))))
    |(refine go_drawT rfl (by first|rfl|(simp;done)) (by simp [Region.binds];rfl) (by decide) (by simp [Region.binds];rfl) (by simp;rfl) ?_ ?_ ?_;(focus (first|rfl|(simp [nI];done)));(focus (simp [qO,W];done)))
    |(refine go_drawS rfl (by first|rfl|(simp;done)) (by simp [Region.binds];rfl) (by decide) (by simp [Region.binds];rfl) (by simp;rfl) ?_ ?_ ?_ ?_;(focus (first|rfl|(simp;done)));(focus (first|rfl|(simp [nI];done)));(focus (simp [qO,W];done)))
    |refine Vj (by decide+kernel) (by simp;rfl) (by simp;rfl) ?_
    |refine go_barC (by decide+kernel) (by simp [sN,reach,mP,Region.binds,Ek];rfl) ?_
    |refine LD (by decide+kernel) (by simp [sN,reach,mP,Region.binds,Ek];rfl) ?_)
  |(refine kB ?_;refine go_sub (by simp;rfl) (by simp;rfl) (by simp;rfl) (by simp;rfl) ?_)
  |(refine kE ?_;first|refine go_end ?_|refine go_all (by simp [Region.binds];rfl) ?_)
  |(refine kF ?_;refine go_one rfl (by simp only [cW,cU];rfl) ?_))
 exact h.out):p:=e ⟨h⟩
theorem so {P : Program} [aC P] {o : Oper} {s s' : AS} {X : AS -> Prop} {m : Nat} (h : X s') (e : ∀ K : AS -> Prop, K s' -> qJ P o s K := by
  intro K hK;first
    | (simp [-Bool.exists_bool, qJ, W]
       (try simp (disch := omega) only [wrap64])
       first
         | exact hK
         | (refine ⟨_, by assumption, ?_⟩; (try simp only [oZ, lW, Ij, Ai, Gq, xW, Jy, Ah, fX, eN, eI, eL, eW, pZ, hM, Nat.reduceAdd]); exact hK)
         | (refine ⟨?_, hK⟩; omega)
         | (refine ⟨?_, ?_, hK⟩ <;> omega)
         | (refine ⟨?_, ?_, ?_, hK⟩ <;> omega))
    | (simp [-Bool.exists_bool, qJ, V]
       (try simp (disch := omega) only [wrap64])
       first
         | exact hK
         | (refine ⟨_, by assumption, ?_⟩; (try simp only [oZ, lW, Ij, Ai, Gq, xW, Jy, Ah, fX, eN, eI, eL, eW, pZ, hM, Nat.reduceAdd]); exact hK)
         | (refine ⟨?_, hK⟩; omega)
         | (refine ⟨?_, ?_, hK⟩ <;> omega)
         | (refine ⟨?_, ?_, ?_, hK⟩ <;> omega))) : Nx m P o s X := by
  unfold Nx; exact .inl (e X h)
theorem sk {P:Program} [aC P] {o:Oper} {s s':AS} {X:AS->Prop} {m:Nat} {H:Prop} (e:∀K:AS->Prop,H->K s'->qJ P o s K:=by
 intro K hc hK;first
  |(simp [-Bool.exists_bool,qJ,W];refine ⟨_,hc,?_⟩;(try simp only [oZ,lW,Ij,Ai,Gq,xW,Jy,Ah,fX,eN,eI,eL,eW,pZ,hM,Nat.reduceAdd]);exact hK)
  |(simp [-Bool.exists_bool,qJ,V];refine ⟨_,hc,?_⟩;(try simp only [oZ,lW,Ij,Ai,Gq,xW,Jy,Ah,fX,eN,eI,eL,eW,pZ,hM,Nat.reduceAdd]);exact hK)) (hc:H) (h:X s'):Nx m P o s X:=by
 unfold Nx;exact .inl (e X hc h)
theorem sm {P:Program} [aC P] {o:Oper} {s s':AS} {X:AS->Prop} {H:Prop} (e:∀K:AS->Prop,H->K s'->Ih P o s K:=by
 intro K hc hK;refine aBf ?_;simp [-Bool.exists_bool,Ju,W];refine ⟨_,_,hc,?_⟩;simp [-Bool.exists_bool,AS.OA,NG,aM.aF6,aM.forget,BR,CS,Go.Aw.mt,Go.Aw.mtc,W];exact hK) (hc:H) (h:X s'):Nx 1 P o s X:=by
 unfold Nx;exact .inr (.inl ⟨rfl,.inl (e X hc h)⟩)
theorem sg {P:Program} [aC P] {o:Oper} {s s':AS} {X:AS->Prop} {H:Prop} (e:∀K:AS->Prop,H->K s'->Ih P o s K:=by
 intro K hc hK;refine aJ9 ?_;simp [-Bool.exists_bool,Yg,W];refine ⟨_,_,hc,?_⟩;simp [-Bool.exists_bool,uS,handed,aF9,UF,rowOf,lU,kH,PN,PO,jM,mW,res,tC,AV.isObj,AS.given,Ic,Cy,Eu,aM.vk,aM.forget,rt,xS,mU,iU,AV.kept,W];exact hK) (hc:H) (h:X s'):Nx 1 P o s X:=by
 unfold Nx;exact .inr (.inl ⟨rfl,.inl (e X hc h)⟩)
theorem sz {P:Program} [aC P] {o:Oper} {s s':AS} {X:AS->Prop} (h:X s') (e:∀K:AS->Prop,K s'->Ih P o s K:=by
 intro K hK;refine aKa ?_;simp [-Bool.exists_bool,aJ5,qJ,mU,xS,rt,aM.kill,W];exact hK):Nx 1 P o s X:=by
 unfold Nx;exact .inr (.inl ⟨rfl,.inl (e X h)⟩)
theorem sb {P:Program} [aC P] {o:Oper} {s s':AS} {X:AS->Prop} (h:X s') (e:∀K:AS->Prop,K s'->Ih P o s K:=by
 intro K hK;refine aBf ?_;simp [-Bool.exists_bool,Ju,AS.made,W];first
  |exact hK
  |(refine ⟨?_,hK⟩;omega)):Nx 1 P o s X:=by
 unfold Nx;exact .inr (.inl ⟨rfl,.inl (e X h)⟩)
theorem se {P:Program} [aC P] {o:Oper} {s s':AS} {X:AS->Prop} (h:X s') (e:∀K:AS->Prop,K s'->Tz P o s K:=by
 intro K hK;simp [Tz];exact hK):Nx 2 P o s X:=by
 unfold Nx;exact .inr (.inr ⟨rfl,e X h⟩)
theorem sc {P:Program} [aC P] {c:Operand} {x y:Code} {s:AS} {Q:Exit->AS->Prop} {b:Bool} {p1 p2:Prop} (h1:p1->tF P x s Q) (h2:p2->tF P y s Q) (hc:s.ev c= .bool b:=by rfl)
  (e1:b=true->p1:=by
   intro h;first|(refine (?_:False);simp at h;done)|(refine (?_:False);(try simp at h);omega;done)|(simp at h;exact h)|exact h)
  (e2:b=false->p2:=by
   intro h;first|(refine (?_:False);simp at h;done)|(refine (?_:False);(try simp at h);omega;done)|(simp at h;exact h)|exact h):tF P (.cond c x y) s Q:=
 PV hc (λh=>h1 (e1 h)) (λh=>h2 (e2 h))
theorem sp {P:Program} [aC P] {all r:List Oper} {o:Oper} {s:AS} {K:AS->Prop} {j d:Nat} {want b:Bool} {s1 s2:AS} {p1 p2:Prop} (h1:p1->kV P all (o::r) s1 K) (h2:p2->kV P all (o::r) s2 K) (hg:o.guard=some (j,want):=by rfl) (hd:(all[j]?).bind (·.dst)=some d:=by rfl) (hb:s.t[d]? =some (.bool b):=by rfl) (hx:(b=true)=(b=true):=by (fail_if_success (with_reducible refine Eq.refl (true=true)));(fail_if_success (with_reducible refine Eq.refl (false=true)));rfl)
  (e1:∀K':AS->Prop,K' s1->K' ⟨s.t.set d (.bool true),s.o⟩:=by intro K' hK';(try simp only [cW,cU]);exact hK')
  (e2:∀K':AS->Prop,K' s2->K' ⟨s.t.set d (.bool false),s.o⟩:=by intro K' hK';(try simp only [cW,cU]);exact hK')
  (e3:b=true->p1:=by
   intro h;first|(refine (?_:False);simp at h;done)|(refine (?_:False);(try simp at h);omega;done)|(simp at h;exact h)|exact h)
  (e4:b=false->p2:=by
   intro h;first|(refine (?_:False);simp at h;done)|(refine (?_:False);(try simp at h);omega;done)|(simp at h;exact h)|exact h):kV P all (o::r) s K:=
 jq hg hd hb (λh=>e1 (λs=>kV P all (o::r) s K) (h1 (e3 h))) (λh=>e2 (λs=>kV P all (o::r) s K) (h2 (e4 h)))
theorem nx {m:Nat} {P:Program} [aC P] {o:Oper} {s:AS} {X:AS->Prop} (h:Nx m P o s X):Nx m P o s X:=h
theorem cx {P:Program} [aC P] {c:Operand} {x y:Code} {s:AS} {Q:Exit->AS->Prop} (h:tF P (.cond c x y) s Q):tF P (.cond c x y) s Q:=h
theorem lx {P:Program} [aC P] {all r:List Oper} {o:Oper} {s:AS} {K:AS->Prop} (h:kV P all (o::r) s K):kV P all (o::r) s K:=h
theorem bR {P:Program} [aC P] (hm:P.follows .mixedOrders=true) {f:FuncId} {fn:Func} {c:Code} (hf:P.funcs[f]? =some fn) {n:Nat} (hn:fn.ntmps=n) {args t:List AV} {rr:AV}
  (h:tF P c ⟨t,[]⟩ (λe s=>(e= .normal\/e= .ret)/\aG P fn s rr)) (hb:fn.body=some c:=by rfl)
  (ht:args++replicate (n - args.length) .undef=t:=by
   simp only [eL,eW,Nat.reduceSub,Nat.reduceAdd,pD,BT,eI,eN];rfl):Ok P f args rr:=by
 subst ht;subst hn;exact UL hm hf hb h
theorem Qu {P:Program} [aC P] (hm:P.follows .mixedOrders=true) {f:FuncId} {fn:Func} {c:Code} (hf:P.funcs[f]? =some fn) {n:Nat} (hn:fn.ntmps=n) {x x':AV} {rest t:List AV} {o:List aM} {p rr:AV}
  (h:tF P c ⟨t,o⟩ (λe s=>(e= .normal\/e= .ret)/\yD P fn s p x' rr)) (hb:fn.body=some c:=by rfl)
  (aKm:CY (dH 0 0 x).2.length (dH 0 0 x).1=true:=by simp [CY,Lu])
  (ho:(dH 0 0 x).2=o:=by
   simp only [oZ,lW,Ij,Ai,Gq,xW,Jy,Ah,pZ,hM,Nat.reduceAdd,eI,eN,fX];rfl)
  (hp:(dH 0 0 x).1=p:=by
   simp only [oZ,lW,Ij,Ai,Gq,xW,Jy,Ah,pZ,hM,Nat.reduceAdd,eI,eN,fX];rfl)
  (ht:(p::rest)++replicate (n - (rest.length+1)) .undef=t:=by
   simp only [eL,eW,Nat.reduceSub,Nat.reduceAdd,pD,BT,eI,eN];rfl):ek P f x x' rest rr:=by
 subst ht;subst hn;subst hp;subst ho;exact jm hm hf hb aKm h
attribute [simp] bytesOf
theorem sT {P:Program} [aC P] {c:Operand} {x y:Code} {s:AS} {Q:Exit->AS->Prop} {b:Bool} (h1:tF P x s Q) (hc:s.ev c= .bool b:=by rfl)
  (e2:b=false->False:=by intro h;first|(simp at h;done)|((try simp at h);omega;done)):tF P (.cond c x y) s Q:=
 PV hc (λ_=>h1) (λh=>(e2 h).elim)
theorem sF {P:Program} [aC P] {c:Operand} {x y:Code} {s:AS} {Q:Exit->AS->Prop} {b:Bool} (h2:tF P y s Q) (hc:s.ev c= .bool b:=by rfl)
  (e1:b=true->False:=by intro h;first|(simp at h;done)|((try simp at h);omega;done)):tF P (.cond c x y) s Q:=
 PV hc (λh=>(e1 h).elim) (λ_=>h2)
theorem wl {p q:Prop} (h:q) (e:Hid q->p:=by
 intro h;first|refine st ?_|(refine nx ?_;refine so ?_)|(refine cx ?_;first|refine sT ?_|refine sF ?_|(refine sc (λhc=> ?_) (λhc=> ?_)<;>try exact hc.elim))|(refine lx ?_;refine sp (λhc=> ?_) (λhc=> ?_)<;>try exact hc.elim)|refine sx ?_ ?_|refine sy ?_ ?_|fail
 repeat' first|refine st ?_|(refine nx ?_;refine so ?_)|(refine cx ?_;first|refine sT ?_|refine sF ?_|(refine sc (λhc=> ?_) (λhc=> ?_)<;>try exact hc.elim))|(refine lx ?_;refine sp (λhc=> ?_) (λhc=> ?_)<;>try exact hc.elim)|refine sx ?_ ?_|refine sy ?_ ?_|fail
 all_goals exact h.out):p:=e ⟨h⟩
theorem we {p q:Prop} (h:q) (e:Hid q->p:=by
 intro h;first|refine st ?_|(refine nx ?_;first|refine se ?_|refine so ?_)|(refine cx ?_;first|refine sT ?_|refine sF ?_|(refine sc (λhc=> ?_) (λhc=> ?_)<;>try exact hc.elim))|(refine lx ?_;refine sp (λhc=> ?_) (λhc=> ?_)<;>try exact hc.elim)|refine sx ?_ ?_|refine sy ?_ ?_|fail
 repeat' first|refine st ?_|(refine nx ?_;first|refine se ?_|refine so ?_)|(refine cx ?_;first|refine sT ?_|refine sF ?_|(refine sc (λhc=> ?_) (λhc=> ?_)<;>try exact hc.elim))|(refine lx ?_;refine sp (λhc=> ?_) (λhc=> ?_)<;>try exact hc.elim)|refine sx ?_ ?_|refine sy ?_ ?_|fail
 all_goals exact h.out):p:=e ⟨h⟩
theorem sq {p p1 p2 q1 q2:Prop} (h1:p1->q1) (h2:p2->q2) (e:Hid (p1->q1)->Hid (p2->q2)->p:=by
 intro h1 h2;first
  |(refine cx ?_;refine sc h1.out h2.out)
  |(refine lx ?_;refine sp h1.out h2.out)
  |refine sx (h1.out trivial) (h2.out trivial)
  |refine sy (h1.out trivial) (h2.out trivial)
  |fail):p:=e ⟨h1⟩ ⟨h2⟩
theorem wg {p q:Prop} (h:q) (e:Hid q->p:=by
 intro h;first|refine st ?_|(refine nx ?_;refine so ?_)|(refine cx ?_;first|refine sT ?_|refine sF ?_)|fail
 repeat first|refine st ?_|(refine nx ?_;refine so ?_)|(refine cx ?_;first|refine sT ?_|refine sF ?_)|fail
 exact h.out):p:=e ⟨h⟩
theorem wf {p q:Prop} (h:q) (e:Hid q->p:=by
 intro h;first|refine st ?_|(refine nx ?_;first|refine se ?_|refine so ?_)|(refine cx ?_;first|refine sT ?_|refine sF ?_)|fail
 repeat first|refine st ?_|(refine nx ?_;first|refine se ?_|refine so ?_)|(refine cx ?_;first|refine sT ?_|refine sF ?_)|fail
 exact h.out):p:=e ⟨h⟩
theorem gJ {p q:Prop} (h:q) (e:Hid q->True->p:=by
 intro h W;first|refine st ?_|(refine nx ?_;refine so ?_)|(refine cx ?_;first|refine sT ?_|refine sF ?_|(refine sc (λhc=> ?_) (λhc=> ?_)<;>try exact hc.elim))|(refine lx ?_;refine sp (λhc=> ?_) (λhc=> ?_)<;>try exact hc.elim)|refine sx ?_ ?_|refine sy ?_ ?_|fail
 repeat' first|refine st ?_|(refine nx ?_;refine so ?_)|(refine cx ?_;first|refine sT ?_|refine sF ?_|(refine sc (λhc=> ?_) (λhc=> ?_)<;>try exact hc.elim))|(refine lx ?_;refine sp (λhc=> ?_) (λhc=> ?_)<;>try exact hc.elim)|refine sx ?_ ?_|refine sy ?_ ?_|fail
 all_goals exact h.out):p:=e ⟨h⟩ trivial
theorem bH {p q:Prop} (h:q) (e:Hid q->True->p:=by
 intro h W;first|refine st ?_|(refine nx ?_;first|refine se ?_|refine so ?_)|(refine cx ?_;first|refine sT ?_|refine sF ?_|(refine sc (λhc=> ?_) (λhc=> ?_)<;>try exact hc.elim))|(refine lx ?_;refine sp (λhc=> ?_) (λhc=> ?_)<;>try exact hc.elim)|refine sx ?_ ?_|refine sy ?_ ?_|fail
 repeat' first|refine st ?_|(refine nx ?_;first|refine se ?_|refine so ?_)|(refine cx ?_;first|refine sT ?_|refine sF ?_|(refine sc (λhc=> ?_) (λhc=> ?_)<;>try exact hc.elim))|(refine lx ?_;refine sp (λhc=> ?_) (λhc=> ?_)<;>try exact hc.elim)|refine sx ?_ ?_|refine sy ?_ ?_|fail
 all_goals exact h.out):p:=e ⟨h⟩ trivial
theorem aR {q:Prop} (h:q):(Exit.ret= .normal\/Exit.ret= .ret)/\q:=⟨.inr rfl,h⟩
theorem aK {P:Program} {fn:Func} {s:AS} {r:AV} {x:Array ResultVar} (hr:fn.results=x) (e:fn.results=x->aG P fn s r:=by intro hr;simp [aG,hr]):(Exit.ret= .normal\/Exit.ret= .ret)/\aG P fn s r:=⟨.inr rfl,e hr⟩
section
variable {P : Program} {p q : List Nat} {l : List Oper} {Q : Exit -> Act -> World -> Prop}
end
def AS.AU (P:Program) (s:AS):List ResultVar->Option (Nat×List AV)
 | .cell t ty::xs=>match s.t.getD t .undef with
  | .ptr i bY idx off=>match s.at i bY idx with
   |some (ob,e)=>match bQ P ty with
    |some n=>if ob.box=true/\off+n<=e.length then (match s.zC P xs with
     |some ys=>some (i,.agg ((e.drop off).take n)::ys)
     |none=>none) else none
    |none=>none
   |none=>none
  |_=>none
 |_=>none
def AS.rvC (P:Program) (s:AS):List ResultVar->Option (Nat×List AV)
 |x::xs=>match s.zC P [x],s.AU P xs with
  |some [y],some (i,ys)=>some (i,y::ys)
  |_,_=>none
 |[]=>none
def mq (P:Program) (fn:Func) (s:AS) (r:AV):Prop:=
 ∃i ys,(s.AU P fn.results.toList=some (i,ys)\/s.rvC P fn.results.toList=some (i,ys))/\jM s.o (single ys)=true/\(lU (single ys)).Nodup/\i∉lU (single ys)/\res s.o (single ys)=r/\clean r=true
theorem fC {P:Program} {fn:Func} {s:AS} {r:AV} (h:match s.AU P fn.results.toList with
  |some p=>jM s.o (single p.2)=true/\(lU (single p.2)).Nodup/\p.1∉lU (single p.2)/\res s.o (single p.2)=r/\clean r=true
  |none=>False):mq P fn s r:=by
 split at h
 .rename_i p hp;exact ⟨p.1,p.2,.inl hp,h⟩
 .exact h.elim
theorem Vv {P:Program} [aC P] {B:gN P} {s:AS} {G:List CO} {a:Act} {w:World} (r:eP B s G a w) {t:Tmp} {ty:TypeId} {i bY idx off n:Nat} {ob:aM} {e:List AV}
  (hx:s.t.getD t .undef= .ptr i bY idx off) (ha:s.at i bY idx=some (ob,e)) (uI:ob.box=true) (hn:bQ P ty=some n) (hfit:off+n<=e.length):
  ∃v fp g,look s.o G i ob g/\ob.live=true/\(Ev a (.cell t ty)).run P w= .ok v w/\R w (env B s.o G w) (.agg ((e.drop off).take n)) v fp/\fp.Nodup/\∀b∈fp,g.F b:=by
 obtain ⟨ho,he⟩:=Ao ha;obtain ⟨g,b,f,hl,hlive,hga,hv⟩:=r.ptr (x:= .tmp t) hx ho;obtain ⟨fp0,⟨_,hown⟩,hnd,hF⟩:=r.ok i ob g hl hlive;simp only [uI,Env.of,gE] at hown;rcases hown with ⟨h5,_⟩|⟨b',f',C,tyc,fz,pX,vK,hbk,hz,k1,k2,k3,rfl,hr⟩
 .rw [h5] at he;simp at he
 rw [hga] at vK;simp only [eC,pA,rS] at vK;obtain ⟨rfl,rfl⟩:=vK;obtain ⟨f1,f2,f3,cs,rfl,hcn,hc,hone,uY,_,_⟩:=zW hr he;have hle:=gG uY;simp only [Act.eval] at hv;obtain ⟨g1,g2,rfl,_,XC⟩:=sD off uY;obtain ⟨g3,g4,rfl,hc3,_⟩:=sD n XC;have hsub:∀x∈g3,x∈f1++(g1++(g3++g4))++f3:=λx hx=>by simp [hx]
 refine ⟨.agg ((cs.drop off).take n).toArray,g3,g,hl,hlive,?_,by simp only [R];exact ⟨_,rfl,FT hone,hc3⟩,?_,λx hx=>hF x (AM _ (hsub x hx))⟩
 .have:=sQ (P:=P) (t:=ty) (k:=off) (n:=n) (cs:=cs) hn (by omega) hc;simp only [Instr.loadAt,Instr.sureAddr,pure_bind] at this;simp [Ev,hv,asAddr,<-oR,this]
 .simp only [mA] at hnd;have h1:=(gC.1 hnd.2).1;have h2:=(gC.1 h1).2.1;have h3:=(gC.1 h2).2.1;exact (gC.1 h3).1
theorem Zi {P:Program} {s:AS} {l:List ResultVar} {i:Nat} {ys:List AV} (h:s.AU P l=some (i,ys)):
  ∃t ty xs bY idx off ob e n zs,l= .cell t ty::xs/\s.t.getD t .undef= .ptr i bY idx off/\s.at i bY idx=some (ob,e)/\bQ P ty=some n/\ob.box=true/\off+n<=e.length/\s.zC P xs=some zs/\ys= .agg ((e.drop off).take n)::zs:=by
 unfold AS.AU at h;split at h
 .split at h
  .rename_i i' bY idx off hx;split at h
   .rename_i ob e ha;split at h
    .rename_i n hn;split at h
     .rename_i hc;split at h
      .rename_i zs hzs;simp only [eC,oS] at h;obtain ⟨rfl,rfl⟩:=h;exact ⟨_,_,_,_,_,_,_,_,_,_,rfl,hx,ha,hn,hc.1,hc.2,hzs,rfl⟩
      .cases h
     .cases h
    .cases h
   .cases h
  .cases h
 .cases h
theorem JO {P:Program} [aC P] {B:gN P} {s:AS} {G:List CO} {a:Act} {w:World} (r:eP B s G a w) {fn:Func} {i:Nat} {ys:List AV} (h:s.AU P fn.results.toList=some (i,ys)):
  ∃v fp ob g,look s.o G i ob g/\ob.live=true/\(results fn a.tmps).run P w= .ok v w/\R w (env B s.o G w) (single ys) v fp/\fp.Nodup/\∀b∈fp,g.F b:=by
 obtain ⟨t,ty,xs,bY,idx,off,ob,e,n,zs,jK,hx,ha,hn,uI,hfit,hzs,rfl⟩:=Zi h;obtain ⟨v0,fp,g,hl,hlive,XK,hR0,hnd,hF⟩:=Vv r hx ha uI hn hfit;obtain ⟨vs,h1,h2⟩:=Jv r hzs;have hl2:=gG h2;have hm:(fn.results.mapM (m:=Sem) (Ev a)).run P w= .ok (v0::vs).toArray w:=by rw [CN,jK];simp only [Sem.run_map,mapM_cons,nF];rw [XK];simp only [lP];rw [h1];simp
 rw [Ii];simp only [nF];rw [hm];simp only [lP,sE];match zs,vs,hl2,h2 with
 |[],[],_,h2=>exact ⟨v0,fp,ob,g,hl,hlive,by simp,hR0,hnd,hF⟩
 |z::zs,v1::vs,_,h2=>exact ⟨.tuple (v0::v1::vs).toArray,fp,ob,g,hl,hlive,by simp,by simp only [single];rw [R];exact ⟨_,rfl,by rw [Rc];exact ⟨fp,[],hR0,h2,by simp⟩⟩,hnd,hF⟩
theorem WV {P:Program} [aC P] {B:gN P} {s:AS} {G:List CO} {a:Act} {w:World} (r:eP B s G a w) {fn:Func} {i:Nat} {ys:List AV} (h:s.rvC P fn.results.toList=some (i,ys)):
  ∃v fp ob g,look s.o G i ob g/\ob.live=true/\(results fn a.tmps).run P w= .ok v w/\R w (env B s.o G w) (single ys) v fp/\fp.Nodup/\∀b∈fp,g.F b:=by
 unfold AS.rvC at h;split at h
 .rename_i x xs heq;split at h
  .rename_i y i' ys' hy hB;simp only [eC,oS] at h;obtain ⟨rfl,rfl⟩:=h;obtain ⟨t,ty,xs',bY,idx,off,ob,e,n,zs,rfl,hx,ha,hn,uI,hfit,hzs,rfl⟩:=Zi hB;obtain ⟨v0,fp,g,hl,hlive,XK,hR0,hnd,hF⟩:=Vv r hx ha uI hn hfit;obtain ⟨vs,h1,h2⟩:=Jv r hzs;obtain ⟨vy,h3,h4⟩:=Jv r hy;match vy,h4 with
   |[v],h4=>
    simp only [mapM_cons,mapM_nil,nF] at h3;have h5:(Ev a x).run P w= .ok v w:=by
     cases hq:(Ev a x).run P w with
     |ok v' w'=>rw [hq] at h3;simp at h3;rw [h3.1,h3.2]
     |_=>rw [hq] at h3;simp at h3
    have hm:(fn.results.mapM (m:=Sem) (Ev a)).run P w= .ok (v::v0::vs).toArray w:=by rw [CN,heq];simp only [Sem.run_map,mapM_cons,nF];rw [h5];simp only [lP];rw [XK];simp only [lP];rw [h1];simp
    rw [Ii];simp only [nF];rw [hm];simp only [lP,sE];simp only [Rc] at h4;obtain ⟨f1,f2,h6,⟨_,rfl⟩,h8⟩:=h4;obtain rfl:f1=[]:=by simpa using h8.symm
    exact ⟨.tuple (v::v0::vs).toArray,fp,ob,g,hl,hlive,by simp,by simp only [single];rw [R];exact ⟨_,rfl,by rw [Rc];exact ⟨[],fp,h6,by rw [Rc];exact ⟨fp,[],hR0,h2,by simp⟩,by simp⟩⟩,hnd,hF⟩
   |[],h4=>simp [Rc] at h4
   |_::_::_,h4=>simp [Rc] at h4
  .cases h
 .cases h
theorem mr {P:Program} [aC P] (hm:P.follows .mixedOrders=true) {f:FuncId} {fn:Func} {c:Code} (hf:P.funcs[f]? =some fn) (hb:fn.body=some c) {args:List AV} {rr:AV}
  (h:tF P c ⟨args++replicate (fn.ntmps - args.length) .undef,[]⟩ (λe s=>(e= .normal\/e= .ret)/\(aG P fn s rr\/mq P fn s rr))):Ok P f args rr:=by
 intro w vs hg hargs;have hl:=gG hargs;have r0:eP ⟨w,λb=>b < w.heap.size,λ_=>False,λ_=>none,λ_=>none,hg,λ_ h=>h.elim,λ_ h=>h.elim⟩ ⟨args++replicate (fn.ntmps - args.length) .undef,[]⟩ [] {tmps:=vs.toArray++Array.replicate (fn.ntmps - vs.toArray.size) Go.undef,defers:=[]} w:=by
  refine ⟨rfl,rfl,λi ob g hl=>by simp [look] at hl,λi j oi oj gi gj b hl=>by simp [look] at hl,λi ob g b hl=>by simp [look] at hl,?_,eE _,λ_ _ _=>rfl,λb hb=>hb,nG.rfl⟩;have h1:Rc w (env ⟨w,λb=>b < w.heap.size,λ_=>False,λ_=>none,λ_=>none,hg,λ_ h=>h.elim,λ_ h=>h.elim⟩ [] [] w) args vs []:=dX (w:=w) (w':=w) (E:=nP w) (E':=env ⟨w,λb=>b < w.heap.size,λ_=>False,λ_=>none,λ_=>none,hg,λ_ h=>h.elim,λ_ h=>h.elim⟩ [] [] w) ⟨λb hb=>⟨⟨.inl hb,λi ob g hl=>by simp [look] at hl⟩,rfl⟩,λ_ _=>trivial,λ_ _ _ h=>h.elim,λ_ _ _ h=>h.elim,λ_ _ _ _ _ h=>h.elim⟩ _ _ _ (by simp) hargs;have h2:∀n,Rc w (env ⟨w,λb=>b < w.heap.size,λ_=>False,λ_=>none,λ_=>none,hg,λ_ h=>h.elim,λ_ h=>h.elim⟩ [] [] w) (replicate n .undef) (replicate n Go.undef) []:=by
   intro n;induction n with
   |zero=>simp [Rc]
   |succ n ih=>simp only [pD,Rc];exact ⟨[],[],by simp [R],ih,rfl⟩
  have:=mF h1 (h2 (fn.ntmps - args.length));simpa [hl] using this
 refine calls_of_wp hf hb (wp_mono (qP hm c _ _ h _ _ ⟨_,r0⟩) λe a w' he=> ?_);obtain ⟨s,⟨he,ng⟩,G,r⟩:=he;have key:∃(E:Env) (v:Value) (fp:List Nat),(results fn a.tmps).run P w'= .ok v w'/\R w' E.plain rr v fp/\fp.Nodup/\clean rr=true/\∀b∈fp,∃j ob g,look s.o G j ob g/\ob.live=true/\g.F b:=by
  rcases ng with ⟨ys,iq,wC,hu,jK,zT⟩|⟨i,ys,iq,wC,hu,hi,jK,zT⟩
  .obtain ⟨v,hrun,hR⟩:=zD r iq;obtain ⟨fp,h1,h2,h3⟩:=Jl r _ v wC hu hR;rw [jK] at h1;exact ⟨_,v,fp,hrun,h1,h2,zT,λb hb=>by obtain ⟨i,ob,g,_,h⟩:=h3 b hb;exact ⟨i,ob,g,h⟩⟩
  .obtain ⟨v,fp0,ob,g,hlk,hlive,hrun,hR,hnd,hF⟩:=iq.elim (JO r) (WV r);obtain ⟨fp,h1,h2,h3⟩:=gu r hlk hlive _ v fp0 wC hu hi hnd hF hR;rw [jK] at h1;refine ⟨_,v,fp,hrun,h1,h2,zT,λb hb=> ?_⟩;rcases h3 b hb with h|⟨j,fI,g',_,h⟩
   .exact ⟨i,ob,g,hlk,hlive,hF b h⟩
   .exact ⟨j,fI,g',h⟩
 obtain ⟨E,v,fp,hrun,h1,h2,zT,h3⟩:=key;have hfin:∃v' fp,Ending.returned v= .returned v'/\R w' (Ba w.heap.size w' fp) rr v' fp/\fp.Nodup/\(∀b∈fp,w.heap.size<=b/\b < w'.heap.size)/\w.heap.size<=w'.heap.size/\(∀b,b < w.heap.size->w'.heap[b]? =w.heap[b]?)/\nG w w':=by refine ⟨v,fp,rfl,aIi <| Jm (E:=E.plain) (λ_ _=>trivial) rfl rfl rfl _ _ _ zT h1,h2,λb hb=> ?_,r.size,λb hb=>r.frame b hb (λh=>h),r.same⟩;obtain ⟨i,ob,g,hl,hlive,hF⟩:=h3 b hb;have:=r.fresh _ _ _ b hl hlive hF;exact ⟨this.1.resolve_left (λh=>h),this.2⟩
 rcases he with rfl|rfl
 .exact ⟨r.defs,v,hrun,hfin⟩
 .exact ⟨r.defs,v,hrun,hfin⟩
theorem Fh {P:Program} [aC P] (hm:P.follows .mixedOrders=true) {f:FuncId} {fn:Func} {c:Code} (hf:P.funcs[f]? =some fn) {n:Nat} (hn:fn.ntmps=n) {args t:List AV} {rr:AV}
  (h:tF P c ⟨t,[]⟩ (λe s=>(e= .normal\/e= .ret)/\(aG P fn s rr\/mq P fn s rr))) (hb:fn.body=some c:=by rfl)
  (ht:args++replicate (n - args.length) .undef=t:=by
   simp only [eL,eW,Nat.reduceSub,Nat.reduceAdd,pD,BT,eI,eN];rfl):Ok P f args rr:=by
 subst ht;subst hn;exact mr hm hf hb h
end Go.Aw
