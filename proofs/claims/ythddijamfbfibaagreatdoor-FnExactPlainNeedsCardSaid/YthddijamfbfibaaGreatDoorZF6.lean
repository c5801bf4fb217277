/- Proved here: steps towards the statement of this claim. No condition. -/
import Derived.Test.YthddijamfbfibaaGreatDoorZF3
import Derived.ProofKit
set_option linter.all false
namespace Go.Aw
open List
def pre(op:Oper):List Nat:=(op.after.toList.filter λe=>Region.binds .any e).map (·.on)
def Clo(l:List Oper)(J:Nat->Bool):Prop:=∀j op,l[j]? =some op->J j=true->∀e∈pre op,J e=true
theorem aAa{op:Oper}{n:Nat}:n∈pre op↔∃e∈op.after.toList,Region.binds .any e=true/\e.on=n:=by simp[pre,AG,BT,GF]
def sV(P:Program)[aB P](l:List Oper)(op:Oper)(s:AS)(K:AS->Prop):Prop:=
 match op.guard with
 |none=>sM P op s K\/VP P op s K
 |some (j,want)=>match sQ l s j want with
  | .bool b=>(b=want->sM P op s K\/VP P op s K)/\(b≠want->K (s.put op.dst (.gM [])))
  |_=>False
def nI(l:List Oper)(j:Nat):List Nat:=match l[j]? with|some o=>pre o|none=>[]
def reach(l:List Oper):Nat->List Nat->List Nat
 |0,acc=>acc
 |k+1,acc=>reach l k (if k∈acc then acc++nI l k else acc)
def ET(l:List Oper)(m:Nat):Bool:=
 decide (m<=l.length)&&((range (l.length-m)).all (λd=>(nI l (m+d)).all (λe=>decide (e<m+d))&&(d == 0 || decide (m+d-1∈nI l (m+d))))&&
 (decide (l.length<=m) || (range m).all λj=>decide (j∈reach l m (nI l m))))
theorem NK{l:List Oper}{J:Nat->Bool}(hc:Clo l J):∀(k:Nat) (acc:List Nat),(∀e∈acc,J e=true)->∀e∈reach l k acc,J e=true
 |0,acc,h=>h
 |k+1,acc,h=>by
  simp only[reach];refine NK hc k _ ?_;split
  .rename_i hk;intro e he;rcases eW.1 he with he|he
   .exact h e he
   .unfold nI at he;split at he
    .rename_i o ho;exact hc k o ho (h k hk) e he
    .cases he
  .exact h
theorem ja{l:List Oper}{m j:Nat}{op:Oper}(ht:ET l m=true)(hm:m<=j)(hj:l[j]? =some op):(∀e∈pre op,e<j)/\(m<j->j-1∈pre op):=by
 unfold ET at ht;simp only[eI,fR]at ht;have hlt:=(cH.1 hj).1;have h:=ht.2.1 (j-m) (by simp;omega);have e:m+(j-m)=j:=by omega
 have hp:nI l j=pre op:=by simp[nI,hj]
 rw[e,hp]at h;simp only[fR,fN,rL,tP]at h;exact⟨h.1,λhlt=>h.2.resolve_left (by omega)⟩
theorem aF9{l:List Oper}{m:Nat}{op:Oper}{J:Nat->Bool}(ht:ET l m=true)(hm:l[m]? =some op)(hc:Clo l J)(hp:∀e∈pre op,J e=true):∀j,j<m->J j=true:=by
 intro j hj;unfold ET at ht;simp only[eI,rL,fN]at ht;have hlt:=(cH.1 hm).1;have h:=ht.2.2.resolve_left (by omega);rw[fR]at h;have:=h j (by simpa using hj);simp only[fN]at this;have hpa:nI l m=pre op:=by simp[nI,hm]
 rw[hpa]at this;exact NK hc m _ hp j this
theorem jb{listed:Array Bool}{i:Nat}(h:i<listed.size):(!listed.getD i true)= !listed.getD i false:=by rw[fY,fY,xF h];rfl
theorem mem_ready{ops:Array Oper}{listed:Array Bool}(hl:listed.size=ops.size){i:Nat}:i∈Region.ready .any ops listed↔∃op,ops.toList[i]? =some op/\listed.getD i false=false/\∀e∈pre op,listed.getD e false=true:=by
 unfold Region.ready;rw[BT];constructor
 .rintro ⟨hi1,hi2⟩;have Gd:i<ops.size:=by simpa using hi1
  have hop:ops[i]? =some ops[i]:=by simp[Gd]
  simp only[eI,hop,mT,sL]at hi2;obtain⟨h1,h2⟩:=hi2;rw[Fl]at h2;refine⟨ops[i],by simp[Gd],?_,λn hn=> ?_⟩
  .rw [jb (by omega)]at h1;simpa using h1
  .obtain ⟨e,he,hb,rfl⟩:=aAa.1 hn;have:=h2 e (by simpa using he);simpa [hb]using this
 .rintro ⟨op,hop,h1,h2⟩;have Gd:i<ops.size:=by have:=(cH.1 hop).1;simpa using this
  have hop':ops[i]? =some op:=by simpa using hop
  refine⟨by simpa using Gd,?_⟩;simp only[eI,hop',mT,sL];refine⟨by rw[jb (by omega)];simp[h1],?_⟩;rw[Fl];intro e he;cases hb:Region.binds .any e with
  |false=>simp
  |true=>have:=h2 e.on (aAa.2 ⟨e,by simpa using he,hb,rfl⟩);simp[this]
theorem YP{P:Program}[aB P]{B:gN P}{l:List Oper}{op:Oper}{s:AS}{K:AS->Prop}(h:sV P l op s K){a:Act}{w:World}(r:Rel B s a w){Kc:Act->World->Prop}{Q:Exit->Act->World->Prop}(hk:∀a' w' s',K s'->Rel B s' a' w'->Kc a' w'):
  if Region.wanted op (yielded l.toArray a.tmps)then op.wp P a w Kc Q\/(op.asks P a w/\LetsOut Q)else Kc (a.put op.dst undef) w:=by
 unfold sV at h;split at h
 .rename_i hg;rw[eK (by simp[Region.wanted,hg])];obtain⟨s',h',hst⟩:=h.elim (BG (B:=B)) (RY (B:=B));exact .inl (hst a w _ Q r λa' w' r'=>hk a' w' s' h' r')
 .rename_i j want hg;split at h
  .rename_i b hb;obtain⟨G,r'⟩:=r;have hy:=Sr r' hb;by_cases hbw:b=want
   .rw [eK (by simp[Region.wanted,hg,hy,hbw])];obtain⟨s',h',hst⟩:=(h.1 hbw).elim (BG (B:=B)) (RY (B:=B));exact .inl (hst a w _ Q ⟨G,r'⟩ λa' w' r'=>hk a' w' s' h' r')
   .rw [cY (by simp[Region.wanted,hg,hy,hbw])];exact hk _ _ _ (h.2 hbw) ⟨G,r'.put op.dst (za _ _)⟩
  .exact h.elim
theorem Xq{P:Program}[aB P]{B:gN P}{all r:List Oper}{o:Oper}{s:AS}{K:AS->Prop}(h:lD P all (o::r) s K){a:Act}{w:World}(rl:Rel B s a w){Kc:Act->World->Prop}{Q:Exit->Act->World->Prop}(hk:∀a' w' s',lD P all r s' K->Rel B s' a' w'->Kc a' w'):
  if Region.wanted o (yielded all.toArray a.tmps)then o.wp P a w Kc Q\/(o.asks P a w/\LetsOut Q)else Kc (a.put o.dst undef) w:=by
 simp only[lD]at h;have stepped:((sM P o s λs'=>lD P all r s' K)\/(Kb P o s λs'=>lD P all r s' K)\/(Je P o s λs'=>lD P all r s' K))->o.wp P a w Kc Q\/(o.asks P a w/\LetsOut Q):=by
  intro h;by_cases hcu:Je P o s λs'=>lD P all r s' K
  .exact .inl (Ph hcu a w _ Q rl λa' w' s' h' r'=>hk a' w' s' h' r')
  have:∃s',lD P all r s' K/\Step P B o s s':=by
   rcases h with h|h|h
   .exact BG (B:=B) h
   .exact Sq (B:=B) h
   .exact (hcu h).elim
  obtain⟨s',h',hst⟩:=this;exact .inl (hst a w _ Q rl λa' w' r'=>hk a' w' s' h' r')
 split at h
 .rename_i hg;rw[eK (by simp[Region.wanted,hg])];exact stepped h
 .rename_i j want hg;split at h
  .rename_i b hb;have rl2:=rl;obtain⟨G,r'⟩:=rl2;have hy:=Sr r' hb;by_cases hbw:b=want
   .rw [eK (by simp[Region.wanted,hg,hy,hbw])];exact stepped (h.1 hbw)
   .rw [cY (by simp[Region.wanted,hg,hy,hbw])];exact hk _ _ _ (h.2 hbw) ⟨G,r'.put o.dst (za _ _)⟩
  .exact h.elim
theorem SK{listed:Array Bool}{i:Nat}(h:i<listed.size)(j:Nat):(listed.setIfInBounds i true).getD j false=uW (λj=>listed.getD j false) i j:=by
 unfold uW;simp only[fY,Array.getElem?_setIfInBounds];by_cases hj:j=i
 .subst hj;simp[h]
 .simp [hj,wA hj]
theorem aAb{P:Program}[aB P]{B:gN P}{ops:Array Oper}{m:Nat}{K:AS->Prop}{Q:Exit->Act->World->Prop}(ht:ET ops.toList m=true)(hk:∀a' w' s',K s'->Rel B s' a' w'->Q .normal a' w'):
  ∀(n k:Nat) (listed:Array Bool) (s:AS) (a:Act) (w:World),listed.size=ops.size->k+n=ops.size->m<=k->(∀j,listed.getD j false=decide (j<k))->lD P ops.toList (ops.toList.drop k) s K->Rel B s a w->wpAny P .any ops Q n listed a w
 |0,k,listed,s,a,w,hl,hn,hm,hj,h,r=>by have hdr:ops.toList.drop k=[]:=AH (by simp;omega);rw[hdr]at h;simp only[lD]at h;refine⟨?_,hk _ _ _ h r⟩;rw[eq_nil_iff_forall_not_mem];intro i hi;obtain⟨op,hop,h1,_⟩:=(mem_ready hl).1 hi;have Gd:=(cH.1 hop).1;rw[hj]at h1;simp at h1 Gd;omega
 |n+1,k,listed,s,a,w,hl,hn,hm,hj,h,r=>by
  have hkl:k<ops.toList.length:=by simp;omega
  have hop:ops.toList[k]? =some ops.toList[k]:=aE hkl;have hpre:=ja ht hm hop;constructor
  .intro hnil;exfalso;have:k∈Region.ready .any ops listed:=(mem_ready hl).2 ⟨_,hop,by rw[hj];simp,λe he=>by rw[hj];simpa using hpre.1 e he⟩;rw[hnil]at this;cases this
  .intro i hi;obtain⟨op,aOu,h1,h2⟩:=(mem_ready hl).1 hi;rw[hj]at h1;have hki:k<=i:=by simpa using h1
   have hik:i=k:=by
    rcases tD k i with hlt|hge
    .exfalso;have:=h2 _ ((ja ht (by omega) aOu).2 (by omega));rw[hj]at this;simp at this;omega
    .omega
   subst hik;rw[hop]at aOu;obtain rfl:=cQ aOu;rw[mC hkl]at h;unfold wpOp;have aGa:ops[i]? =some ops.toList[i]:=by simpa using hop
   rw[aGa];have:=Xq h r (Kc:=wpAny P .any ops Q n (listed.setIfInBounds i true)) (Q:=Q) (λa' w' s' h' r'=>
    aAb ht hk n (i+1) _ s' a' w' (by simpa using hl) (by omega) (by omega) (λj=>by
     rw[SK (by simpa [hl]using hkl)];unfold uW;by_cases hji:j=i
     .subst hji;simp
     .rw [cY hji];show listed.getD j false=_;rw[hj];have:(j<i)↔(j<i+1):=by omega
      simp[this]) h' r')
   simpa using this
def YQ(l:List Oper)(d:List Bool):List Nat:=(range l.length).filter λi=> !d.getD i false&&(nI l i).all λe=>d.getD e false
mutual
def Ap(P:Program)[aB P](l:List Oper)(K:AS->Prop):Nat->List Bool->AS->Prop
 |0,_,s=>K s
 |n+1,d,s=>wS P l K n d s (YQ l d)
def wS(P:Program)[aB P](l:List Oper)(K:AS->Prop):Nat->List Bool->AS->List Nat->Prop
 |_,_,_,[]=>True
 |n,d,s,i::r=>(∃op,l[i]? =some op/\lD P l [op] s λs'=>Ap P l K n (d.set i true) s')/\wS P l K n d s r
end
theorem NL{P:Program}[aB P]{l:List Oper}{K:AS->Prop}{n:Nat}{d:List Bool}{s:AS}:∀{r:List Nat},wS P l K n d s r->∀i∈r,∃op,l[i]? =some op/\lD P l [op] s λs'=>Ap P l K n (d.set i true) s'
 |[],_,i,hi=>by cases hi
 |j::r,h,i,hi=>by
  simp only[wS]at h;rcases gS.1 hi with rfl|hi
  .exact h.1
  .exact NL h.2 i hi
def Pq(l:List Oper):Bool:=(range l.length).all λi=>(nI l i).all λe=>decide (e<i)
theorem NM{l:List Oper}(h:Pq l=true){i:Nat}{op:Oper}(hi:l[i]? =some op):∀e∈pre op,e<i:=by
 unfold Pq at h;rw[fR]at h;have:=h i (by simp;exact(cH.1 hi).1);have hp:nI l i=pre op:=by simp[nI,hi]
 rw[hp,fR]at this;exact λe he=>by simpa using this e he
theorem aAc{P:Program}[aB P]{B:gN P}{ops:Array Oper}{K:AS->Prop}{Q:Exit->Act->World->Prop}(hfw:Pq ops.toList=true)(hk:∀a' w' s',K s'->Rel B s' a' w'->Q .normal a' w'):
  ∀(n:Nat) (d:List Bool) (listed:Array Bool) (s:AS) (a:Act) (w:World),listed.toList=d->listed.size=ops.size->left d=n->Ap P ops.toList K n d s->Rel B s a w->wpAny P .any ops Q n listed a w
 |0,d,listed,s,a,w,hd,hl,hn,h,r=>by
  simp only[Ap]at h;refine⟨?_,hk _ _ _ h r⟩;rw[eq_nil_iff_forall_not_mem];intro i hi;obtain⟨op,hop,h1,_⟩:=(mem_ready hl).1 hi;have Gd:=(cH.1 hop).1;have hi':i<listed.size:=by simp at Gd;omega
  have:=NG (l:=d) hn (i:=i) (b:=listed[i]) (by rw[<-hd];simp[hi']);rw[fY,xF hi']at h1;simp[this]at h1
 |n+1,d,listed,s,a,w,hd,hl,hn,h,r=>by
  have hget:∀j,d.getD j false=listed.getD j false:=λj=>by rw[<-hd,lA,fY];simp
  simp only[Ap]at h;constructor
  .intro hnil;exfalso;obtain⟨i,h1,h2⟩:=Sy (l:=d) (by omega);have hi:i<listed.size:=by have:=(cH.1 h1).1;rw[<-hd]at this;simpa using this
   have Gd:i<ops.toList.length:=by simp;omega
   have hop:=aE Gd;have:i∈Region.ready .any ops listed:=(mem_ready hl).2 ⟨_,hop,by rw[<-hget,lA,h1];rfl,λe he=>by
    have:=h2 e (NM hfw hop e he);rw[<-hget,lA,this];rfl⟩
   rw[hnil]at this;cases this
  .intro i hi;obtain⟨op,hop,h1,h2⟩:=(mem_ready hl).1 hi;have Gd:=(cH.1 hop).1;have hir:i∈YQ ops.toList d:=by
    unfold YQ;rw[BT];refine⟨by simpa using Gd,?_⟩;have hp:nI ops.toList i=pre op:=by simp[nI,hop]
    rw[hget,h1,hp];simp only[Ge,CH,fR];exact λe he=>by rw[hget];exact h2 e he
   obtain⟨op',hop',hst⟩:=NL h i hir;rw[hop]at hop';obtain rfl:=cQ hop';unfold wpOp;have aGa:ops[i]? =some op:=by simpa using hop
   rw[aGa];have hil:i<listed.size:=by simp at Gd;omega
   have:=Xq hst r (Kc:=wpAny P .any ops Q n (listed.setIfInBounds i true)) (Q:=Q) (λa' w' s' h' r'=>by
    simp only[lD]at h';refine aAc hfw hk n (d.set i true) _ s' a' w' (by rw[CN,hd]) (by simpa using hl) ?_ h' r';have hdi:d[i]? =some false:=by
     have h3:=hget i;rw[h1,lA]at h3;have hid:i<d.length:=by rw[<-hd];simpa using hil
     rw[aE hid]at h3⊢;simpa using h3
    have:=Lu hdi;omega)
   simpa using this
def yH(l:List Oper)(m:Nat):Bool:=(range l.length).all λi=>decide (i<=m) || (nI l i).any λe=>decide (m<=e)
theorem Ki:∀(L:List Bool) (q:Nat),(∀j,L.getD j false=decide (j<q))->q<=L.length->left L+q=L.length
 |[],q,_,h=>by simp at h;simp[left,h]
 |b::L,q,hq,hle=>by
  have hb:=hq 0;simp[getD]at hb;rw[Eb];cases q with
  |zero=>
   have hb':b=false:=by simpa using hb
   have:=Ki L 0 (λj=>by have:=hq (j+1);simpa [getD]using this) (by omega);rw[hb',cY (by simp)];simp;omega
  |succ q=>
   have hb':b=true:=by simpa using hb
   have:=Ki L q (λj=>by have:=hq (j+1);simpa [getD]using this) (by simpa using hle);rw[hb',eK rfl];simp;omega
theorem jc{P:Program}[aB P]{ops:Array Oper}{s:AS}{K:AS->Prop}(m:Nat)(aZa:m<=ops.size)(hfw:Pq ops.toList=true)(hrest:yH ops.toList m=true)(S:(Nat->Bool)->AS)(h0:lC s (S λ_=>false))
  (hs:∀i op,i<m->ops.toList[i]? =some op->∀J:Nat->Bool,Clo ops.toList J->(∀k,m<=k->J k=false)->J i=false->(∀e∈pre op,J e=true)->(sV P ops.toList op (S J) λs'=>lC s' (S (uW J i)))\/(op.guard=none/\∀B,Step P B op (S J) (S (uW J i))))
  (he:∀J:Nat->Bool,Clo ops.toList J->(∀k,m<=k->J k=false)->((∀i,i<m->J i=true)\/∃op,ops.toList[m]? =some op/\∀e∈pre op,J e=true)->Ap P ops.toList K (left ((range ops.size).map J)) ((range ops.size).map J) (S J)\/(ET ops.toList m=true/\(∀i,i<m->J i=true)/\lD P ops.toList (ops.toList.drop m) (S J) K)):ze P ops s K:=by
 intro B a w Q hr hk;have toJ:∀listed:Array Bool,listed.size=ops.size->listed.toList=(range ops.size).map λi=>listed.getD i false:=by
  intro listed hl;refine CA λi=> ?_
  rw[tM];by_cases hi:i<ops.size
  .have hil:i<listed.size:=by omega
   simp[hi,hil]
  .have hil:listed.toList.length<=i:=by simp;omega
   rw[pC hil];simp[hi]
 have fin:∀(fuel:Nat) (listed:Array Bool) (a:Act) (w:World),listed.size=ops.size->left listed.toList=fuel->(∀k,m<=k->listed.getD k false=false)->Clo ops.toList (λi=>listed.getD i false)->Rel B (S λi=>listed.getD i false) a w->
   ((∀i,i<m->listed.getD i false=true)\/∃op,ops.toList[m]? =some op/\∀e∈pre op,listed.getD e false=true)->wpAny P .any ops Q fuel listed a w:=by
  intro fuel listed a w hl hz hhi hc r hor;rcases he _ hc hhi hor with this|⟨ht,hall,h⟩
  .rw [<-toJ listed hl]at this;exact aAc hfw hk fuel listed.toList listed _ a w rfl hl hz (hz▸this) r
  .have hJ:(λi=>listed.getD i false)=λk=>decide (k<m):=by
    funext i;by_cases hi:i<m
    .rw [hall i hi];simp[hi]
    .rw [hhi i (by omega)];simp[hi]
   have hcount:m+fuel=ops.size:=by have:=Ki listed.toList m (λj=>by have:=congrFun hJ j;simpa [fY,lA]using this) (by simp;omega);rw[hz]at this;simp at this;omega
   exact aAb ht hk fuel m listed _ a w hl hcount (eC _) (λj=>congrFun hJ j) h r
 have key:∀(fuel:Nat) (listed:Array Bool) (a:Act) (w:World),listed.size=ops.size->left listed.toList=fuel->(∀k,m<=k->listed.getD k false=false)->Clo ops.toList (λi=>listed.getD i false)->Rel B (S λi=>listed.getD i false) a w->wpAny P .any ops Q fuel listed a w:=by
  intro fuel;induction fuel with
  |zero=>
   intro listed a w hl hz hhi hc r;refine fin 0 listed a w hl hz hhi hc r (.inl λi hi=> ?_);have hi':i<listed.size:=by omega
   have:=NG hz (i:=i) (b:=listed[i]) (by simp[hi']);simp[Array.getD,hi',this]
  |succ fuel ih=>
   intro listed a w hl hz hhi hc r;by_cases hall:(∀i,i<m->listed.getD i false=true)\/∃op,ops.toList[m]? =some op/\∀e∈pre op,listed.getD e false=true
   .exact fin _ listed a w hl hz hhi hc r hall
   .have hlow:∀i∈Region.ready .any ops listed,i<m:=by
     intro i hi;obtain⟨op,hop,h1,h2⟩:=(mem_ready hl).1 hi;rcases tD i m with h|h
     .exact h
     .exfalso;rcases tD m i with hlt|hge
      .unfold yH at hrest;rw[fR]at hrest;have:=hrest i (by simp;have:=(cH.1 hop).1;simpa using this);have hp:nI ops.toList i=pre op:=by simp[nI,hop]
       simp only[hp,rL,fN,any_eq_true]at this;rcases this with h'|⟨e,he,hme⟩
       .omega
       .have h3:=h2 e he;rw[hhi e hme]at h3;cases h3
      .have:i=m:=by omega
       subst this;exact hall (.inr ⟨op,hop,h2⟩)
    constructor
    .intro hnil;exfalso;obtain⟨i,h1,h2⟩:=Sy (l:=listed.toList) (by omega);have hi:i<listed.size:=by have:=(cH.1 h1).1;simpa using this
     have hgi:listed.getD i false=false:=by
      have:listed[i]? =some false:=by simpa using h1
      rw[fY,this];rfl
     have aVx:i<ops.toList.length:=by simp;omega
     have hop:=aE aVx;have:i∈Region.ready .any ops listed:=(mem_ready hl).2 ⟨_,hop,hgi,λe he=>by
      have:=h2 e (NM hfw hop e he);have h3:listed[e]? =some true:=by simpa using this
      rw[fY,h3];rfl⟩
     rw[hnil]at this;cases this
    .intro i hi;have him:=hlow i hi;obtain⟨op,hop,h1,h2⟩:=(mem_ready hl).1 hi;have Gd:i<ops.size:=by omega
     have hil:i<listed.size:=by omega
     have hst:=hs i op him hop (λj=>listed.getD j false) hc hhi h1 h2;unfold wpOp;have aGa:ops[i]? =some op:=by simpa using hop
     rw[aGa];have hu:(λj=>(listed.setIfInBounds i true).getD j false)=uW (λj=>listed.getD j false) i:=funext λj=>SK hil j
     have hnext:∀a' w',Rel B (S (uW (λj=>listed.getD j false) i)) a' w'->wpAny P .any ops Q fuel (listed.setIfInBounds i true) a' w':=λa' w' r'=>by
      refine ih _ _ _ (by simpa using hl) ?_ ?_ ?_ ?_
      .have h1':listed.toList[i]? =some false:=by
        have:listed[i]? =some listed[i]:=by simp[hil]
        rw[fY,this]at h1;simp only[sL]at h1;rw[h1]at this;simpa using this
       have:=Lu h1';rw[CN];omega
      .intro k hk;rw[SK hil];unfold uW;rw[cY (by omega)];exact hhi k hk
      .rw [hu];intro j op' hj hJ e he;by_cases hji:j=i
       .subst hji;rw[hop]at hj;obtain rfl:=cQ hj;unfold uW;split
        .rfl
        .exact h2 e he
       .unfold uW at hJ⊢;rw[cY hji]at hJ;split
        .rfl
        .exact hc j op' hj hJ e he
      .rw [hu];exact r'
     rcases hst with hst|⟨hg,hst⟩
     .have:=YP hst r (Kc:=wpAny P .any ops Q fuel (listed.setIfInBounds i true)) (Q:=Q) (λa' w' s' hw r'=>hnext a' w' (hw B a' w' r'));simpa using this
     .have:Region.wanted op (yielded ops a.tmps)=true:=by simp[Region.wanted,hg]
      simp only[this,gE];exact .inl (hst B a w _ Q r hnext)
 obtain⟨G,r⟩:=hr;have r2:Rel B s a {w with drawn:=w.drawn+1}:=⟨G,{len:=r.len,defs:=r.defs,ok:=λi ob g hl hlive=>(r.ok i ob g hl hlive).keeps (w':={w with drawn:=w.drawn+1}) ⟨λb h=>⟨h,rfl⟩,λ_ h=>h,λ_ _ _ h=>⟨h,rfl⟩,λ_ _ _ h=>h,λ_ _ _ _ _ h=>h⟩ (λ_ _=>rfl),apart:=r.apart,fresh:=r.fresh,tmps:=dU (w:=w) (E:=env B s.o G w) (w':={w with drawn:=w.drawn+1}) (E':=env B s.o G {w with drawn:=w.drawn+1}) ⟨λb h=>⟨h,rfl⟩,λ_ h=>h,λ_ _ _ h=>⟨h,rfl⟩,λ_ _ _ h=>h,λ_ _ _ _ _ h=>h⟩ _ _ _ (by simp) r.tmps,size:=r.size,frame:=r.frame,base:=r.base,same:=r.same.trans ⟨rfl,rfl,rfl⟩}⟩;have hJ:(λi=>(Array.replicate ops.size false).getD i false)=λ_=>false:=by funext i;simp only[fY,Array.getElem?_replicate];split<;>rfl
 refine key _ _ _ _ (by simp) (by simp[left]) (λk _=>congrFun hJ k) (by rw[hJ];intro j op _ h;cases h) ?_;rw[hJ];exact h0 _ _ _ r2
def jz(m:Nat)(z:List Nat)(k:Nat):Bool:=decide (k<m)&& !z.contains k
def uT(l:List Oper)(m:Nat):List Nat:=(range m).filter λj=> !(reach l m (nI l m)).contains j
def Ee(F:List Nat->Prop):List Nat->List Nat->Prop
 |acc,[]=>F acc
 |acc,z::r=>Ee F acc r/\Ee F (z::acc) r
theorem SN{F:List Nat->Prop}(p:Nat->Bool):∀(z acc:List Nat),Ee F acc z->F ((z.filter p).reverse++acc)
 |[],acc,h=>by simpa [Ee]using h
 |x::z,acc,h=>by
  simp only[Ee]at h;by_cases hx:p x=true
  .have:=SN p z (x::acc) h.2;rw[filter_cons_of_pos hx];simpa using this
  .have:=SN p z acc h.1;rw[filter_cons_of_neg hx];exact this
theorem aSl{l:List Oper}{m:Nat}{op:Oper}{J:Nat->Bool}(hm:l[m]? =some op)(hc:Clo l J)(hhi:∀k,m<=k->J k=false)(hp:∀e∈pre op,J e=true):J=jz m ((uT l m).filter λk=> !J k).reverse:=by
 funext k;unfold jz;by_cases hk:k<m
 .simp only[hk,CT,CH];cases hJ:J k with
  |true=>
   have:((uT l m).filter λk=> !J k).reverse.contains k=false:=by rw[contains_eq_mem];simp[hJ]
   rw[this];rfl
  |false=>
   have hs:k∈uT l m:=by
    unfold uT;rw[BT];refine⟨by simpa using hk,?_⟩;have hpa:nI l m=pre op:=by simp[nI,hm]
    rw[hpa];cases hcn:(reach l m (pre op)).contains k with
    |false=>rfl
    |true=>rw[contains_eq_mem]at hcn;have:=NK hc m (pre op) hp k (by simpa using hcn);rw[hJ]at this;cases this
   have:((uT l m).filter λk=> !J k).reverse.contains k=true:=by rw[contains_eq_mem];simp[hJ,hs]
   rw[this];rfl
 .rw [hhi k (by omega)];simp[hk]
def aGb(i:Nat)(pr:List Nat)(j:Nat)(op:Oper)(v:AV)(t:List AV):List AV:=
 match op.dst with
 |none=>t
 |some d=>if j=i then t else if j∈pr then t.set d v else if i∈pre op then t else t.set d .undef
def qG(i:Nat)(pr:List Nat):Nat->List Oper->List AV->List AV->List AV
 |_,[],_,t=>t
 |j,op::r,vs,t=>qG i pr (j+1) r vs.tail (aGb i pr j op (vs.headD .undef) t)
def Bl(J:Nat->Bool)(j:Nat)(op:Oper)(v:AV)(t:List AV):List AV:=
 match op.dst with
 |none=>t
 |some d=>if J j=true then t.set d v else t
def iQ(J:Nat->Bool):Nat->List Oper->List AV->List AV->List AV
 |_,[],_,t=>t
 |j,op::r,vs,t=>iQ J (j+1) r vs.tail (Bl J j op (vs.headD .undef) t)
theorem SQ:∀{t2 t:List AV} (d:Nat) {v2 v:AV},wk t2 t->(v=v2\/v= .undef)->wk (t2.set d v2) (t.set d v)
 |[],[],_,_,_,_,_=>trivial
 |[],_::_,_,_,_,h,_=>h.elim
 |_::_,[],_,_,_,h,_=>h.elim
 |_::_,_::_,0,_,_,h,hv=>⟨hv,h.2⟩
 |_::_,_::_,d+1,_,_,h,hv=>⟨h.1,SQ d h.2 hv⟩
theorem LD:∀{t2 t:List AV} (d:Nat),wk t2 t->wk t2 (t.set d .undef)
 |[],[],_,_=>trivial
 |[],_::_,_,h=>h.elim
 |_::_,[],_,h=>h.elim
 |_::_,_::_,0,h=>⟨.inr rfl,h.2⟩
 |_::_,_::_,d+1,h=>⟨h.1,LD d h.2⟩
theorem NN:∀{t2 t:List AV},wk t2 t->t2.length=t.length
 |[],[],_=>rfl
 |[],_::_,h=>h.elim
 |_::_,[],h=>h.elim
 |_::_,_::_,h=>by simp[NN h.2]
theorem lK:∀t:List AV,wk t t
 |[]=>trivial
 |_::xs=>⟨.inl rfl,lK xs⟩
theorem NP{J:Nat->Bool}{i:Nat}{pr:List Nat}(hi:J i=false)(hpr:∀e∈pr,J e=true/\e<i):
  ∀(l:List Oper) (j:Nat) (vs vs':List AV) (t2 t:List AV),(∀k op,l[k]? =some op->J (j+k)=true->∀e∈pre op,J e=true)->(∀k,j+k<i->vs'.getD k .undef=vs.getD k .undef)->wk t2 t->wk (iQ J j l vs t2) (qG i pr j l vs' t)
 |[],_,_,_,_,_,_,_,h=>h
 |op::r,j,vs,vs',t2,t,hc,hv,h=>by
  simp only[iQ,qG];refine NP hi hpr r (j+1) vs.tail vs'.tail _ _ (λk q hk hJ=>hc (k+1) q (by simpa using hk) (by rwa[show j+(k+1)=j+1+k by omega])) (λk hk=>by
   have:=hv (k+1) (by omega);cases vs<;>cases vs'<;>simpa [getD]using this) ?_
  have h0:j<i->vs'.headD .undef=vs.headD .undef:=λhj=>by have:=hv 0 (by omega);cases vs<;>cases vs'<;>simpa [getD]using this
  unfold Bl aGb;cases hd:op.dst with
  |none=>exact h
  |some d=>
   dsimp only;by_cases hji:j=i
   .subst hji;rw[eK rfl,cY (by rw[hi];simp)];exact h
   .rw [cY hji];by_cases hp:j∈pr
    .rw [eK hp,eK (hpr j hp).1];exact SQ d h (.inl (h0 (hpr j hp).2))
    .rw [cY hp];by_cases hq:i∈pre op
     .rw [eK hq];have:J j≠true:=λhJ=>by
       have:=hc 0 op rfl hJ i hq;rw[hi]at this;cases this
      rw[cY this];exact h
     .rw [cY hq];split
      .exact SQ d h (.inr rfl)
      .exact LD d h
theorem Xr{J:Nat->Bool}(d:Nat)(x:AV):∀(l:List Oper) (j:Nat) (vs:List AV) (t:List AV),(∀op∈l,op.dst≠some d)->iQ J j l vs (t.set d x)=(iQ J j l vs t).set d x
 |[],_,_,_,_=>rfl
 |op::r,j,vs,t,h=>by
  simp only[iQ];rw[<-Xr d x r (j+1) vs.tail _ (λq hq=>h q (by simp[hq]))];congr 1;unfold Bl;cases hd:op.dst with
  |none=>rfl
  |some d'=>
   dsimp only;have:d'≠d:=λe=>h op (by simp) (by rw[hd,e])
   split
   .rw [set_comm _ _ (wA this)]
   .rfl
theorem CY{J J':Nat->Bool}:∀(l:List Oper) (j:Nat) (vs:List AV) (t:List AV),(∀k,k<l.length->J (j+k)=J' (j+k))->iQ J j l vs t=iQ J' j l vs t
 |[],_,_,_,_=>rfl
 |op::r,j,vs,t,h=>by
  simp only[iQ];have h0:J j=J' j:=h 0 (by simp);have:Bl J j op (vs.headD .undef) t=Bl J' j op (vs.headD .undef) t:=by unfold Bl;rw[h0]
  rw[this];exact CY r (j+1) vs.tail _ λk hk=>by
   have:=h (k+1) (by simpa using hk)
   rwa[show j+(k+1)=j+1+k by omega]at this
def distinct:List Oper->Bool
 |[]=>true
 |op::r=>(match op.dst with
  |none=>true
  |some d=>r.all λq=>decide (q.dst≠some d))&&distinct r
theorem Ir{J:Nat->Bool}:∀(l:List Oper) (j i:Nat) (op:Oper) (vs:List AV) (t:List AV) (v:AV),distinct l=true->l[i]? =some op->J (j+i)=false->vs.getD i .undef=v->
  iQ (uW J (j+i)) j l vs t=uO (iQ J j l vs t) op.dst v
 |[],_,_,_,_,_,_,_,h,_,_=>by simp at h
 |q::r,j,0,op,vs,t,v,hd,h,hJ,hv=>by
  simp at h;subst h;simp only[iQ,sA]at hJ⊢;rw[CY (J:=uW J j) (J':=J) r (j+1) vs.tail _ (λk _=>by unfold uW;rw[cY (by omega)])];have h1:Bl (uW J j) j q (vs.headD .undef) t=uO t q.dst v:=by
   have hv':vs.headD .undef=v:=by cases vs<;>simpa [getD]using hv
   unfold Bl uO;rw[hv'];cases q.dst with
   |none=>rfl
   |some d=>simp[uW]
  have h2:Bl J j q (vs.headD .undef) t=t:=by
   unfold Bl;cases q.dst with
   |none=>rfl
   |some d=>simp[hJ]
  rw[h1,h2];cases hq:q.dst with
  |none=>rfl
  |some d=>simp only[distinct,hq,eI,fR,fN]at hd;exact Xr d v r (j+1) vs.tail t hd.1
 |q::r,j,i+1,op,vs,t,v,hd,h,hJ,hv=>by
  simp only[distinct,eI]at hd;simp only[iQ];have h1:Bl (uW J (j+(i+1))) j q (vs.headD .undef) t=Bl J j q (vs.headD .undef) t:=by
   unfold Bl;have:uW J (j+(i+1)) j=J j:=by unfold uW;rw[cY (by omega)]
   rw[this]
  rw[h1,show j+(i+1)=j+1+i by omega];exact Ir r (j+1) i op vs.tail _ v hd.2 (by simpa using h) (by rwa[show j+1+i=j+(i+1)by omega]) (by cases vs<;>simpa [getD]using hv)
def oJ(J:Nat->Bool)(b:List aN):List (Nat×List aN)->List aN
 |[]=>b
 |q::r=>if J q.1=true then q.2 else oJ J b r
def top(b:List aN):List (Nat×List aN)->List aN
 |[]=>b
 |q::_=>q.2
def FN(pr:List Nat):List (Nat×List aN)->Bool
 |[]=>true
 |q::_=>decide (q.1∈pr)
def wM(pr:List Nat)(n:Nat):Bool:=decide (n∈pr)
def CZ(l:List Oper)(b:List aN):List (Nat×List aN)->Prop
 |[]=>True
 |q::r=>(∃new,q.2=top b r++new)/\(∀p,r.head? =some p->p.1<q.1/\∃op,l[q.1]? =some op/\p.1∈pre op)/\CZ l b r
theorem aGc{l:List Oper}{b:List aN}(J:Nat->Bool):∀{h:List (Nat×List aN)},CZ l b h->∃ext,top b h=oJ J b h++ext
 |[],_=>⟨[],by simp[top,oJ]⟩
 |q::r,hc=>by
  obtain⟨new,hn⟩:=hc.1;obtain⟨ext,he⟩:=aGc J hc.2.2;simp only[oJ,top];split
  .exact ⟨[],by simp⟩
  .exact ⟨ext++new,by rw[hn,he,sB]⟩
theorem zt{l:List Oper}{b:List aN}{J:Nat->Bool}{pr:List Nat}(hp:∀e∈pr,J e=true):∀{h:List (Nat×List aN)},CZ l b h->∃ext,oJ J b h=oJ (wM pr) b h++ext
 |[],_=>⟨[],by simp[oJ]⟩
 |q::r,hc=>by
  simp only[oJ];by_cases hq:q.1∈pr
  .rw [eK (hp _ hq),eK (by simpa [wM]using hq)];exact⟨[],by simp⟩
  .rw [cY (show¬wM pr q.1=true by simpa [wM]using hq)];split
   .obtain ⟨new,hn⟩:=hc.1;obtain⟨ext,he⟩:=aGc (wM pr) hc.2.2;exact⟨ext++new,by rw[hn,he,sB]⟩
   .exact zt hp hc.2.2
theorem YR(J:Nat->Bool)(b:List aN):∀{s h:List (Nat×List aN)},(∀q∈s,J q.1=false)->oJ J b (s++h)=oJ J b h
 |[],_,_=>rfl
 |q::s,h,hs=>by simp only[eA,oJ];rw[cY (by rw[hs q (by simp)];simp)];exact YR J b λp hp=>hs p (by simp[hp])
theorem Ps{l:List Oper}{b:List aN}{J:Nat->Bool}(hJ:Clo l J):∀{s h:List (Nat×List aN)} {q:Nat×List aN},CZ l b (s++q::h)->J q.1=false->∀p∈s,J p.1=false
 |[],_,_,_,_=>λ_ hp=>by cases hp
 |x::s,h,q,hc,hq=>by
  have ih:=Ps hJ hc.2.2 hq;intro p hp;rcases gS.1 hp with rfl|hp
  .cases hJx:J p.1 with
   |false=>rfl
   |true=>
    exfalso;cases s with
    |nil=>obtain⟨_,op,h1,h2⟩:=hc.2.1 q rfl;have:=hJ _ op h1 hJx _ h2;rw[hq]at this;cases this
    |cons y s=>obtain⟨_,op,h1,h2⟩:=hc.2.1 y rfl;have:=hJ _ op h1 hJx _ h2;rw[ih y (by simp)]at this;cases this
  .exact ih p hp
def flv(J:Nat->Bool)(dead:Bool)(q:Nat×Nat×List AV):aN:=
 if J q.1=true then⟨true,true,q.2.2.length,1,[q.2.2]⟩else⟨!dead,false,q.2.2.length,0,[]⟩
def tO(J:Nat->Bool)(dead:Bool):List (Nat×Nat×List AV)->List aN->List aN
 |[],o=>o
 |q::r,o=>tO J dead r (o.set q.2.1 (flv J dead q))
def Gz:Nat->Bool:=λ_=>false
def jd(fl:List (Nat×Nat×List AV))(n:Nat):Bool:=decide (fl.map (·.1)).Nodup&&(decide (fl.map (·.2.1)).Nodup&&fl.all λq=>decide (q.2.1<n))
theorem rV(J:Nat->Bool)(d:Bool):∀(fl:List (Nat×Nat×List AV)) (o:List aN),(tO J d fl o).length=o.length
 |[],_=>rfl
 |q::r,o=>by simp only[tO];rw[rV J d r];simp
theorem GD{J:Nat->Bool}{d:Bool}{i:Nat}:∀{fl:List (Nat×Nat×List AV)} {o:List aN},(∀q∈fl,q.2.1≠i)->(tO J d fl o)[i]? =o[i]?
 |[],_,_=>rfl
 |q::r,o,h=>by simp only[tO];rw[GD λp hp=>h p (by simp[hp]),lO (h q (by simp))]
theorem Da{J:Nat->Bool}{d:Bool}:∀{fl:List (Nat×Nat×List AV)} {o:List aN} {q:Nat×Nat×List AV},(fl.map (·.2.1)).Nodup->q∈fl->q.2.1<o.length->(tO J d fl o)[q.2.1]? =some (flv J d q)
 |p::r,o,q,hn,hq,hl=>by
  simp only[tO];simp only[mB,lR]at hn;rcases gS.1 hq with rfl|hq
  .rw [GD λp hp e=>hn.1 (AG.2 ⟨p,hp,e⟩),mN hl]
  .exact Da hn.2 hq (by simpa using hl)
theorem Rb{J:Nat->Bool}{d:Bool}{n:List aN}:∀{fl:List (Nat×Nat×List AV)} {o:List aN},(∀q∈fl,q.2.1<o.length)->tO J d fl (o++n)=tO J d fl o++n
 |[],_,_=>rfl
 |q::r,o,h=>by simp only[tO];rw[set_append_left _ _ (h q (by simp)),Rb λp hp=>by simpa using h p (by simp[hp])]
theorem aAd{fl:List (Nat×Nat×List AV)}{o o':List aN}(hl:o.length=o'.length)(h:∀q∈fl,o[q.2.1]? =o'[q.2.1]?)(h2:∀i,(∀q∈fl,q.2.1≠i)->o[i]? =o'[i]?):o=o':=by
 refine CA λi=> ?_
 by_cases hi:∃q∈fl,q.2.1=i
 .obtain ⟨q,hq,rfl⟩:=hi;exact h q hq
 .exact h2 i λq hq e=>hi ⟨q,hq,e⟩
theorem aK2{J J':Nat->Bool}{d d':Bool}{fl:List (Nat×Nat×List AV)}{o:List aN}(hn:(fl.map (·.2.1)).Nodup)(hs:∀q∈fl,q.2.1<o.length):tO J d fl (tO J' d' fl o)=tO J d fl o:=
 aAd (fl:=fl) (by simp[rV]) (λq hq=>by rw[Da hn hq (by rw[rV];exact hs q hq),Da hn hq (hs q hq)]) (λi hi=>by rw[GD hi,GD hi,GD hi])
theorem Xt{J J':Nat->Bool}{d:Bool}:∀{fl:List (Nat×Nat×List AV)} {o:List aN},(∀q∈fl,J q.1=J' q.1)->tO J d fl o=tO J' d fl o
 |[],_,_=>rfl
 |q::r,o,h=>by
  simp only[tO];have:flv J d q=flv J' d q:=by unfold flv;rw[h q (by simp)]
  rw[this,Xt λp hp=>h p (by simp[hp])]
theorem Iu{α β:Type}(f:α->β):∀(L:List α),(L.map f).Nodup->∀p q,p∈L->q∈L->f p=f q->p=q
 |[],_,_,_,h,_,_=>by cases h
 |x::L,hn,p,q,hp,hq,e=>by
  simp only[mB,lR]at hn;rcases gS.1 hp with hp'|hp'
  .rcases gS.1 hq with hq'|hq'
   .rw [hp',hq']
   .exfalso;exact hn.1 (AG.2 ⟨q,hq',by rw[<-e,hp']⟩)
  .rcases gS.1 hq with hq'|hq'
   .exfalso;exact hn.1 (AG.2 ⟨p,hp',by rw[e,hq']⟩)
   .exact Iu f L hn.2 p q hp' hq' e
theorem aK3{J:Nat->Bool}{d:Bool}{fl:List (Nat×Nat×List AV)}{o:List aN}{q:Nat×Nat×List AV}(hn1:(fl.map (·.1)).Nodup)(hn:(fl.map (·.2.1)).Nodup)(hs:∀q∈fl,q.2.1<o.length)(hq:q∈fl):
  tO (uW J q.1) d fl o=(tO J d fl o).set q.2.1 ⟨true,true,q.2.2.length,1,[q.2.2]⟩:=by
 have hinj:∀p∈fl,p.1=q.1->p=q:=λp hp e=>Iu (·.1) fl hn1 p q hp hq e
 have aSm:∀p∈fl,p.2.1=q.2.1->p=q:=λp hp e=>Iu (·.2.1) fl hn p q hp hq e
 refine aAd (fl:=fl) (by simp[rV]) (λp hp=> ?_) (λi hi=> ?_)
 .rw [Da hn hp (hs p hp)];by_cases hpq:p=q
  .subst hpq;rw[mN (by rw[rV];exact hs p hp)];simp[flv,uW]
  .rw [lO (λe=>hpq (aSm p hp e.symm)),Da hn hp (hs p hp)]
   have:uW J q.1 p.1=J p.1:=by unfold uW;rw[cY (λe=>hpq (hinj p hp e))]
   simp[flv,this]
 .rw [GD hi,lO (hi q hq),GD hi]
theorem aK4{J:Nat->Bool}{pr:List Nat}{fl:List (Nat×Nat×List AV)}{o ext:List aN}(hn:(fl.map (·.2.1)).Nodup)(hs:∀q∈fl,q.2.1<o.length)(hp:∀e∈pr,J e=true):
  Sub (tO (wM pr) true fl o) (tO J false fl (o++ext)):=by
 intro i ob h hl;by_cases hi:∃q∈fl,q.2.1=i
 .obtain ⟨q,hq,rfl⟩:=hi;rw[Da hn hq (hs q hq)]at h;obtain rfl:=cQ h;rw[Da hn hq (by have:=hs q hq;simp;omega)];unfold flv at hl⊢;by_cases hb:wM pr q.1=true
  .rw [eK hb,eK (hp q.1 (by simpa [wM]using hb))]
  .rw [cY hb]at hl;cases hl
 .have hi':∀q∈fl,q.2.1≠i:=λq hq e=>hi ⟨q,hq,e⟩
  rw[GD hi']at h⊢;rw[pS (cH.1 h).1];exact h
theorem aAe{l:List Oper}{b:List aN}{J:Nat->Bool}{h:List (Nat×List aN)}(hc:CZ l b h):∃ext,oJ J b h=b++ext:=by
 obtain⟨ext,he⟩:=zt (J:=J) (pr:=[]) (by simp) hc;have:∀h:List (Nat×List aN),oJ (wM []) b h=b:=by
  intro h;induction h with
  |nil=>rfl
  |cons q r ih=>simp[oJ,ih,wM]
 exact⟨ext,by rw[he,this]⟩
theorem YS{fl:List (Nat×Nat×List AV)}{b:List aN}(J:Nat->Bool)(hb:tO Gz true fl b=b):∀{h:List (Nat×List aN)},(∀q∈h,tO Gz true fl q.2=q.2)->tO Gz true fl (oJ J b h)=oJ J b h
 |[],_=>hb
 |q::r,h=>by
  simp only[oJ];split
  .exact h q (by simp)
  .exact YS J hb λp hp=>h p (by simp[hp])
def GG(op:Oper)(s:AS):AV:=match op.dst with
 |some d=>s.t.getD d .undef
 |none=> .undef
def nQ(P:Program)[aB P](l:List Oper)(t:List AV)(b:List aN)(fl:List (Nat×Nat×List AV))(K:AS->Prop):Nat->List Oper->List AV->List (Nat×List aN)->Prop
 |i,[],vs,h=>K ⟨iQ (λ_=>true) 0 l vs t,tO (λk=>decide (k<i)) false fl (top b h)⟩
 |i,op::r,vs,h=>(∃q∈fl,q.1=i/\op.guard=none/\(∃T,op.op= .alloc T/\qC P T=some q.2.2)/\(∀e∈pre op,e<i)/\nQ P l t b fl K (i+1) r (vs++[.ptr q.2.1 1 0 0]) h)\/
   ((∀q∈fl,q.1≠i)/\nW op.op ⟨qG i (pre op) 0 l vs t,tO (wM (pre op)) true fl (oJ (wM (pre op)) b h)⟩=true/\(∀e∈pre op,e<i)/\
   sV P l op ⟨qG i (pre op) 0 l vs t,tO (wM (pre op)) true fl (oJ (wM (pre op)) b h)⟩ λs'=>
    (FN (pre op) h=true\/s'.o.length=(oJ (wM (pre op)) b h).length)/\
    nQ P l t b fl K (i+1) r (vs++[GG op s']) (if s'.o.length=(oJ (wM (pre op)) b h).length then h else(i,tO Gz true fl s'.o)::h))\/
   (yH l i=true/\Ee (λz=>Ap P l K (left ((range l.length).map (jz i z))) ((range l.length).map (jz i z)) ⟨iQ (jz i z) 0 l vs t,tO (jz i z) false fl (oJ (jz i z) b h)⟩) [] (uT l i))\/
   (yH l i=true/\ET l i=true/\lD P l (op::r) ⟨iQ (λk=>decide (k<i)) 0 l vs t,tO (λk=>decide (k<i)) false fl (top b h)⟩ K)
structure Item(P:Program)[aB P](l:List Oper)(t:List AV)(b:List aN)(fl:List (Nat × Nat × List AV))(j:Nat)(op:Oper)(vs:List AV)(hf:List (Nat × List aN)): Prop where
  pre:∀ e ∈ pre op, e<j
  ex:(∃ q ∈ fl, q.1 = j /\ op.guard = none /\ (∃ T, op.op = .alloc T /\ qC P T = some q.2.2) /\ vs.getD j .undef = .ptr q.2.1 1 0 0 /\ ∀ p ∈ hf, p.1 ≠ j) \/
    ((∀ q ∈ fl, q.1 ≠ j) /\ ∃ x new hj Xu, nW op.op ⟨qG j (Aw.pre op) 0 l (vs.take j) t, tO (wM (Aw.pre op)) true fl (oJ (wM (Aw.pre op)) b hj)⟩ = true /\ hf = Xu ++ hj /\ (∀ q ∈ hj, q.1<j) /\ (vs.getD j .undef = x \/ vs.getD j .undef = .undef) /\
    sV P l op ⟨qG j (Aw.pre op) 0 l (vs.take j) t, tO (wM (Aw.pre op)) true fl (oJ (wM (Aw.pre op)) b hj)⟩ (λs' => s' = ⟨uO (qG j (Aw.pre op) 0 l (vs.take j) t) op.dst x, tO (wM (Aw.pre op)) true fl (oJ (wM (Aw.pre op)) b hj) ++ new⟩) /\
    ((new = [] /\ ∀ q ∈ Xu, j<q.1) \/ (FN (Aw.pre op) hj = true /\ ∃ s2, Xu = s2 ++ [(j, oJ (wM (Aw.pre op)) b hj ++ new)] /\ ∀ q ∈ s2, j<q.1)))
theorem je{b:List aN}{pr:List Nat}{h:List (Nat×List aN)}(ht:FN pr h=true):oJ (wM pr) b h=top b h:=by
 cases h with
 |nil=>rfl
 |cons q r=>simp only[FN]at ht;simp only[oJ,top,wM,ht,gE]
theorem Xv{P:Program}[aB P]{op:Oper}{t t2:List AV}{o o2:List aN}{K:AS->Prop}(h:VP P op ⟨t,o⟩ K):
  ∃x new x2,K ⟨uO t op.dst x,o++new⟩/\(x=x2\/x= .undef)/\(o2.length=o.length\/new=[])/\∀K2:AS->Prop,K2 ⟨uO t2 op.dst x2,o2++new⟩->VP P op ⟨t2,o2⟩ K2:=by
 obtain⟨dst,op,ty,pos,after,gd⟩:=op;unfold VP at h;dsimp only at h;split at h
 .split at h
  .rename_i e n by' he;refine⟨.sl .own n [],[],.sl .own n [],by rw[fX,<-put_eq];exact h.2,.inl rfl,.inr rfl,λK2 hK=> ?_⟩;rw[fX]at hK;rename_i tt _;show(match nC P tt with
    |some (e,n,_)=>iT P e n=true/\K2 (AS.put ⟨t2,o2⟩ dst (.sl .own n []))
    |none=>False)
   rw[he];exact⟨h.1,by rw[put_eq];exact hK⟩
  .exact h.elim
 .exact h.elim
theorem Db{P:Program}[aB P]{l:List Oper}{op:Oper}{t t2:List AV}{o o2:List aN}{K:AS->Prop}(q:nW op.op ⟨t,o⟩=true)(hw:wk t2 t)(h:sV P l op ⟨t,o⟩ K)(hs:Sub o o2)(AZ:o2.length=o.length\/∀s',K s'->s'.o.length=o.length):
  ∃x new x2,K ⟨uO t op.dst x,o++new⟩/\(x=x2\/x= .undef)/\(o2.length=o.length\/new=[])/\∀K2:AS->Prop,K2 ⟨uO t2 op.dst x2,o2++new⟩->sV P l op ⟨t2,o2⟩ K2:=by
 unfold sV at h;split at h
 .rename_i hg;rcases h with h|h
  .obtain ⟨x,new,x2,h1,h2,h3,h4⟩:=fw q hw h hs AZ;exact⟨x,new,x2,h1,h2,h3,λK2 hK=>by unfold sV;simp only[hg];exact .inl (h4 K2 hK)⟩
  .obtain ⟨x,new,x2,h1,h2,h3,h4⟩:=Xv (t2:=t2) (o2:=o2) h;exact⟨x,new,x2,h1,h2,h3,λK2 hK=>by unfold sV;simp only[hg];exact .inr (h4 K2 hK)⟩
 .rename_i j want hg;split at h
  .rename_i b hb;have hb2:sQ l ⟨t2,o2⟩ j want= .bool b:=by
    unfold sQ at hb⊢;split at hb
    .rename_i o' ho';split at hb
     .rename_i d hd;rcases zh d hw with e|e
      .rw [<-e];exact hb
      .rw [e]at hb;cases hb
     .cases hb
    .cases hb
   by_cases hbw:b=want
   .rcases h.1 hbw with h|h
    .obtain ⟨x,new,x2,h1,h2,h3,h4⟩:=fw q hw h hs AZ;exact⟨x,new,x2,h1,h2,h3,λK2 hK=>by unfold sV;simp only[hg,hb2];exact⟨λ_=> .inl (h4 K2 hK),λhn=>absurd hbw hn⟩⟩
    .obtain ⟨x,new,x2,h1,h2,h3,h4⟩:=Xv (t2:=t2) (o2:=o2) h;exact⟨x,new,x2,h1,h2,h3,λK2 hK=>by unfold sV;simp only[hg,hb2];exact⟨λ_=> .inr (h4 K2 hK),λhn=>absurd hbw hn⟩⟩
   .have h1:=h.2 hbw;rw[put_eq]at h1;exact⟨.gM [],[],.gM [],by rw[fX];exact h1,.inl rfl,.inr rfl,λK2 hK=>by
     unfold sV;simp only[hg,hb2];refine⟨λhn=>absurd hn hbw,λ_=> ?_⟩;rw[put_eq];rw[fX]at hK;exact hK⟩
  .exact h.elim
def aVy(P:Program)[aB P](l:List Oper)(t:List AV)(b:List aN)(fl:List (Nat×Nat×List AV))(K:AS->Prop)(m:Nat)(vs:List AV)(h:List (Nat×List aN)):Prop:=
 (m=l.length/\K ⟨iQ (λ_=>true) 0 l vs t,tO (λk=>decide (k<m)) false fl (top b h)⟩)\/
 (m<l.length/\yH l m=true/\Ee (λz=>Ap P l K (left ((range l.length).map (jz m z))) ((range l.length).map (jz m z)) ⟨iQ (jz m z) 0 l vs t,tO (jz m z) false fl (oJ (jz m z) b h)⟩) [] (uT l m))\/
 (m<l.length/\yH l m=true/\ET l m=true/\lD P l (l.drop m) ⟨iQ (λk=>decide (k<m)) 0 l vs t,tO (λk=>decide (k<m)) false fl (top b h)⟩ K)
theorem Iw{P:Program}[aB P]{l:List Oper}{t:List AV}{b:List aN}{fl:List (Nat × Nat × List AV)}{K:AS -> Prop}(hnd:(fl.map (·.2.1)).Nodup)(hsl:∀ q ∈ fl, q.2.1<b.length)(hb:tO Gz true fl b = b): ∀ (r:List Oper) (i:Nat) (vs:List AV) (h:List (Nat × List aN)), l.drop i = r -> vs.length = i -> i <= l.length -> (∀ q ∈ h, q.1<i) -> (∀ q ∈ h, tO Gz true fl q.2 = q.2) -> CZ l b h -> nQ P l t b fl K i r vs h ->
    ∃ m vs' hf, i <= m /\ aVy P l t b fl K m (vs ++ vs') hf /\ CZ l b hf /\ (∃ Xu, hf = Xu ++ h /\ ∀ q ∈ Xu, i <= q.1 /\ q.1<m) /\ (∀ q ∈ hf, tO Gz true fl q.2 = q.2) /\ ∀ j op, i <= j -> j<m -> l[j]? = some op -> Item P l t b fl j op (vs ++ vs') hf
  | [], i, vs, h, hr, hv, hi, hlt, hN, hc, hd => by
    have hil : i = l.length := by have : l.length <= i := by simpa using hr
                                  omega
    subst hil;refine⟨l.length, [], h, eC _, ?_, hc, ⟨[], rfl, by simp⟩, hN, λj op hij hj => by omega⟩;simp only[nQ]at hd;exact .inl ⟨rfl, by simpa using hd⟩
  | op :: r, i, vs, h, hr, hv, hi, hlt, hN, hc, hd => by
    have hil:i<l.length := by
      rcases tD i l.length with h' | h'
      · exact h'
      · rw[AH h']at hr; cases hr
    have hop:l[i]? = some op := by
      have := zE head? hr;rw[head?_drop]at this; simpa using this
    have hdr:l.drop (i+1) = r := by rw[<- AF, hr]; rfl
    simp only[nQ]at hd;rcases hd with⟨q, hq, hqi, hg, hT, hpr, hd⟩ | ⟨hnf, hq, hpr, ha⟩ | ⟨htl, ha⟩ | ⟨htl, aVz, ha⟩;case inr.inr.inr =>
      refine⟨i, [], h, eC _, ?_, hc, ⟨[], rfl, by simp⟩, hN, λj op' hij hj => by omega⟩;rw[fX];exact .inr (.inr ⟨hil, htl, aVz, by rw[hr]; exact ha⟩)
    case inr.inr.inl =>
      refine⟨i, [], h, eC _, ?_, hc, ⟨[], rfl, by simp⟩, hN, λj op' hij hj => by omega⟩;rw[fX];exact .inr (.inl ⟨hil, htl, ha⟩)
    case inl =>
      obtain⟨m, vs', hf, km, k1, k2, ⟨Xu, k3, k4⟩, k6, k5⟩ := Iw hnd hsl hb r (i+1) (vs ++ [.ptr q.2.1 1 0 0]) h hdr (by simp[hv]) (by omega) (λq hq => by have := hlt q hq; omega) hN hc hd;refine⟨m, .ptr q.2.1 1 0 0 :: vs', hf, by omega, by simpa using k1, k2, ⟨Xu, k3, λq hq => by have := k4 q hq; omega⟩, k6, λj op' hij hjm hj => ?_⟩;by_cases hji:j = i
      · subst hji
        rw[hop]at hj; obtain rfl := cQ hj;refine⟨hpr, .inl ⟨q, hq, hqi, hg, hT, ?_, λp hp => ?_⟩⟩
        · rw[lA, kO (by omega), hv, tR]; rfl
        · rw[k3]at hp
          rcases eW.1 hp with hp | hp
          · have := k4 p hp; omega
          · have := hlt p hp; omega
      · have := k5 j op' (by omega) hjm hj
        simpa using this
    have hsub:Sub (tO (wM (pre op)) true fl (oJ (wM (pre op)) b h)) (tO (wM (pre op)) true fl (oJ (wM (pre op)) b h)) := λ_ _ h _ => h
    obtain⟨x, new, x2, ⟨h1, h2⟩, _, _, h3⟩ := Db hq (lK _) ha hsub (.inl rfl);have h4 := h3 (λs' => s' = ⟨uO (qG i (pre op) 0 l vs t) op.dst x2, tO (wM (pre op)) true fl (oJ (wM (pre op)) b h) ++ new⟩) rfl;have hval:∀ (y:AV) (os:List aN), GG op ⟨uO (qG i (pre op) 0 l vs t) op.dst y, os⟩ = y \/ GG op ⟨uO (qG i (pre op) 0 l vs t) op.dst y, os⟩ = .undef := by
      intro y os;unfold GG uO;cases op.dst with
      | none => exact .inr rfl
      | some d =>
        dsimp only;rw[lA, getElem?_set_self'];cases (qG i (pre op) 0 l vs t)[d]? with
        | none => exact .inr rfl
        | some z => exact .inl rfl
    obtain⟨aZb, hbase⟩ := aAe (J := wM (pre op)) hc;have aOv:∀ q ∈ fl, q.2.1<(oJ (wM (pre op)) b h).length := λq hq => by rw[hbase]; have := hsl q hq; simp; omega
    have aSn:tO Gz true fl (tO (wM (pre op)) true fl (oJ (wM (pre op)) b h) ++ new) = oJ (wM (pre op)) b h ++ new := by
      rw[Rb (by rw[rV]; exact aOv), aK2 hnd aOv, YS _ hb hN]
    simp only[aSn]at h2;generalize hvv:GG op ⟨uO (qG i (pre op) 0 l vs t) op.dst x, tO (wM (pre op)) true fl (oJ (wM (pre op)) b h) ++ new⟩ = vv at h2;have hvx:vv = x2 \/ vv = .undef := by
      rcases hval x (tO (wM (pre op)) true fl (oJ (wM (pre op)) b h) ++ new)with e | e
      · rw[hvv]at e; subst e; assumption
      · rw[hvv]at e; exact .inr e
    have hlen:((tO (wM (pre op)) true fl (oJ (wM (pre op)) b h) ++ new).length = (oJ (wM (pre op)) b h).length) ↔ new = [] := by
      rw[eR, rV]; constructor
      · intro e; exact hS (by omega)
      · rintro rfl; simp
    have item:∀ (vs':List AV) (hf:List (Nat × List aN)), ((∃ Xu, hf = Xu ++ h /\ new = [] /\ ∀ q ∈ Xu, i<q.1) \/ (FN (pre op) h = true /\ ∃ s2, hf = s2 ++ (i, oJ (wM (pre op)) b h ++ new) :: h /\ ∀ q ∈ s2, i<q.1)) -> Item P l t b fl i op ((vs ++ [vv]) ++ vs') hf := by
      intro vs' hf hcase;have e1:((vs ++ [vv]) ++ vs').take i = vs := by rw[sB, take_left' hv]
      have e2:((vs ++ [vv]) ++ vs').getD i .undef = vv := by
        rw[sB, lA, kO (by omega), hv, tR]; rfl
      refine⟨hpr, .inr ⟨hnf, x2, new, h, ?_⟩⟩;rw[e1, e2];rcases hcase with⟨Xu, rfl, hn, hs⟩ | ⟨ht, s2, rfl, hs⟩
      · exact⟨Xu, hq, rfl, hlt, hvx, h4, .inl ⟨hn, hs⟩⟩
      · exact⟨s2 ++ [(i, oJ (wM (pre op)) b h ++ new)], hq, by simp, hlt, hvx, h4, .inr ⟨ht, s2, rfl, hs⟩⟩
    by_cases hnew:new = []
    · rw[eK (hlen.2 hnew)]at h2
      obtain⟨m, vs', hf, km, k1, k2, ⟨Xu, k3, k4⟩, k6, k5⟩ := Iw hnd hsl hb r (i+1) (vs ++ [vv]) h hdr (by simp[hv]) (by omega) (λq hq => by have := hlt q hq; omega) hN hc h2;refine⟨m, vv :: vs', hf, by omega, by simpa using k1, k2, ⟨Xu, k3, λq hq => by have := k4 q hq; omega⟩, k6, λj op' hij hjm hj => ?_⟩;by_cases hji:j = i
      · subst hji
        rw[hop]at hj; obtain rfl := cQ hj;have := item vs' hf (.inl ⟨Xu, k3, hnew, λq hq => by have := k4 q hq; omega⟩);simpa using this
      · have := k5 j op' (by omega) hjm hj
        simpa using this
    · rw[cY (λe => hnew (hlen.1 e))]at h2
      have ht:FN (pre op) h = true := h1.resolve_right (λe => hnew (hlen.1 e));have hc':CZ l b ((i, oJ (wM (pre op)) b h ++ new) :: h) := by
        refine⟨⟨new, by rw[je ht]⟩, λp hp => ?_, hc⟩;cases h with
        | nil => cases hp
        | cons q h =>
          obtain rfl := cQ hp;exact⟨hlt _ (by simp), op, hop, by simpa [FN]using ht⟩
      obtain⟨m, vs', hf, km, k1, k2, ⟨Xu, k3, k4⟩, k6, k5⟩ := Iw hnd hsl hb r (i+1) (vs ++ [vv]) _ hdr (by simp[hv]) (by omega) (λq hq => by
        rcases gS.1 hq with rfl | hq
        · simp
        · have := hlt q hq; omega) (λq hq => by
        rcases gS.1 hq with rfl | hq
        · show tO Gz true fl (oJ (wM (pre op)) b h ++ new) = _
          rw[Rb aOv, YS _ hb hN]
        · exact hN q hq) hc' h2
      refine⟨m, vv :: vs', hf, by omega, by simpa using k1, k2, ⟨Xu ++ [(i, oJ (wM (pre op)) b h ++ new)], by simp[k3], λq hq => by
        rcases eW.1 hq with hq | hq
        · have := k4 q hq; omega
        · simp at hq; subst hq; exact⟨by simp, by omega⟩⟩, k6, λj op' hij hjm hj => ?_⟩
      by_cases hji:j = i
      · subst hji
        rw[hop]at hj; obtain rfl := cQ hj;have := item vs' hf (.inr ⟨ht, Xu, k3, λq hq => by have := k4 q hq; omega⟩);simpa using this
      · have := k5 j op' (by omega) hjm hj
        simpa using this
theorem aB0{P:Program}[aB P]{id:Nat}{l:List Oper}{s:AS}{Q:Exit->AS->Prop}{fl:List (Nat×Nat×List AV)}{b:List aN}(hfw:Pq l=true)(hdst:distinct l=true)(hfl:jd fl b.length=true)(hb:tO Gz true fl b=b)(hb0:tO Gz false fl b=s.o++(fl.map (·.2.2.length)).map λn=>⟨true,false,n,0,[]⟩)
  (h:nQ P l s.t b fl (Q .normal) 0 l [] []):vE P (.region id l.toArray true) s Q:=by
 simp only[jd,eI,fN,fR]at hfl;obtain⟨aV0,hnd,hsl⟩:=hfl;obtain⟨m,vs,hf,_,hK,hc,⟨aSo,aNg,VV⟩,hN,hit⟩:=Iw hnd hsl hb l 0 [] [] rfl rfl (by omega) (by simp) (by simp) trivial h;simp only[eM]at hK hit;have aV1:∀j op,j<m->l[j]? =some op->Item P l s.t b fl j op vs hf:=λj op hjm hj=>hit j op (by omega) hjm hj
 have aOw:∀J:Nat->Bool,∀q∈fl,q.2.1<(oJ J b hf).length:=λJ q hq=>by obtain⟨ext,he⟩:=aAe (J:=J) hc;rw[he];have:=hsl q hq;simp;omega
 unfold vE;have Nn:m<=l.length:=by
  rcases hK with h|h|h
  .omega
  .omega
  .omega
 have hrest:yH l m=true:=by
  rcases hK with h|h|h
  .rw [h.1];unfold yH;rw[fR];intro i hi;simp at hi;simp only[rL,fN];exact .inl (by omega)
  .exact h.2.1
  .exact h.2.1
 refine jc (ops:=l.toArray) m (by simpa using Nn) (by simpa using hfw) (by simpa using hrest) (λJ=>⟨iQ J 0 l vs s.t,tO J false fl (oJ J b hf)⟩) ?_ ?_ ?_
 .have e1:∀(l:List Oper) (j:Nat) (vs t:List AV),iQ (λ_=>false) j l vs t=t:=by
   intro l;induction l with
   |nil=>intros;rfl
   |cons op r ih=>intro j vs t;simp only[iQ];rw[ih];unfold Bl;cases op.dst<;>simp
  have e2:∀h:List (Nat×List aN),oJ (λ_=>false) b h=b:=by
   intro h;induction h with
   |nil=>rfl
   |cons q r ih=>simp[oJ,ih]
  rw[e1,e2];have e3:tO (λ_=>false) false fl b=_:=hb0;rw[e3];exact λ_ _ _ _ _ r=>Ry _ r
 .intro i op him hi;have hi':l[i]? =some op:=by simpa using hi
  have it:=aV1 i op him hi';intro J hJ hJm hJi hpre;have hJ':Clo l J:=by simpa using hJ
  rcases it.ex with⟨q,hq,hqi,hg,⟨T,hT,hz⟩,hval,hne⟩|⟨hnf,x,new,hj,Xu,hqq,hfe,hlt,hvx,hop,hcase⟩
  .right;refine⟨hg,λB=> ?_⟩;have hoJ:∀h:List (Nat×List aN),(∀p∈h,p.1≠i)->oJ (uW J i) b h=oJ J b h:=by
    intro h;induction h with
    |nil=>intro _;rfl
    |cons p r ih=>
     intro hq;simp only[oJ];rw[ih λp hp=>hq p (by simp[hp])];have:uW J i p.1=J p.1:=by unfold uW;rw[cY (hq p (by simp))]
     rw[this]
   have hto:iQ (uW J i) 0 l vs s.t=uO (iQ J 0 l vs s.t) op.dst (.ptr q.2.1 1 0 0):=by
    have:=Ir l 0 i op vs s.t (.ptr q.2.1 1 0 0) hdst hi' (by simpa using hJi) hval
    rwa[hY]at this
   have aV2:tO (uW J i) false fl (oJ J b hf)=(tO J false fl (oJ J b hf)).set q.2.1 ⟨true,true,q.2.2.length,1,[q.2.2]⟩:=by rw[<-hqi];exact aK3 aV0 hnd (aOw J) hq
   rw[hto,hoJ hf hne,aV2];have aSp:(tO J false fl (oJ J b hf))[q.2.1]? =some ⟨true,false,q.2.2.length,0,[]⟩:=by rw[Da hnd hq (aOw J q hq)];unfold flv;rw[cY (by rw[hqi,hJi];simp)];rfl
   obtain⟨dst,o,ty,pos,after,gd⟩:=op;dsimp only at hT hg⊢;subst hT;have:=Yx (B:=B) (s:=⟨iQ J 0 l vs s.t,tO J false fl (oJ J b hf)⟩) (dst:=dst) (ty:=ty) (pos:=pos) (after:=after) (gd:=gd) T hz aSp;rw[put_eq]at this;exact this
  left;have Xw:wk (iQ J 0 l vs s.t) (qG i (pre op) 0 l (vs.take i) s.t):=
   NP hJi (λe he=>⟨hpre e he,it.pre e he⟩) l 0 vs (vs.take i) s.t s.t (λk q hk hJk=>hJ' k q hk (by simpa using hJk)) (λk hk=>by
    rw[lA,lA,Bx];simp[show k<i by omega]) (lK _)
  have aNh:∀(J':Nat->Bool) (s2:List (Nat×List aN)),(∀q∈s2,J' q.1=false)->∀h',oJ J' b (s2++h')=oJ J' b h':=λJ' s2 h1 h'=>YR J' b h1
  have aV4:∀q:Nat×List aN,i<=q.1->wM (pre op) q.1=false:=λq hq=>by
   cases hb:wM (pre op) q.1 with
   |false=>rfl
   |true=>have:=it.pre q.1 (by simpa [wM]using hb);omega
  have hoc:oJ (wM (pre op)) b hf=oJ (wM (pre op)) b hj:=by
   rw[hfe];refine YR _ _ λq hq=>aV4 q ?_
   rcases hcase with⟨_,h1⟩|⟨_,s2,rfl,h1⟩
   .have:=h1 q hq;omega
   .rcases eW.1 hq with hq|hq
    .have:=h1 q hq;omega
    .simp at hq;subst hq;simp
  obtain⟨ext,AZ⟩:=zt (J:=J) hpre hc;rw[hoc]at AZ;have aSq:∀q∈fl,q.2.1<(oJ (wM (pre op)) b hj).length:=λq hq=>by rw[<-hoc];exact aOw _ q hq
  have CL:(new=[]/\oJ (uW J i) b hf=oJ J b hf)\/(ext=[]/\oJ (uW J i) b hf=oJ (wM (pre op)) b hj++new):=by
   rcases hcase with⟨h1,h2⟩|⟨ht,s2,rfl,h2⟩
   .refine .inl ⟨h1,?_⟩;have:∀h:List (Nat×List aN),(∀q∈h,q.1≠i)->oJ (uW J i) b h=oJ J b h:=by
     intro h;induction h with
     |nil=>intro _;rfl
     |cons q r ih=>
      intro hq;simp only[oJ];rw[ih λp hp=>hq p (by simp[hp])];have:uW J i q.1=J q.1:=by unfold uW;rw[cY (hq q (by simp))]
      rw[this]
    refine this hf λq hq=> ?_
    rw[hfe]at hq;rcases eW.1 hq with hq|hq
    .have:=h2 q hq;omega
    .have:=hlt q hq;omega
   .right;have aOy:hf=s2++(i,oJ (wM (pre op)) b hj++new)::hj:=by simp[hfe]
    have hs2:=Ps hJ' (s:=s2) (by rw[<-aOy];exact hc) hJi;constructor
    .have h3:oJ J b hf=oJ J b hj:=by rw[aOy,aNh J s2 hs2];simp only[oJ];rw[cY (by rw[hJi];simp)]
     have h4:oJ J b hj=oJ (wM (pre op)) b hj:=by
      rw[je ht];cases hj with
      |nil=>rfl
      |cons q r=>simp only[FN,fN]at ht;simp only[oJ,top];rw[eK (hpre _ ht)]
     rw[h3,h4]at AZ;have:=zE length AZ;rw[eR]at this;exact hS (by omega)
    .rw [aOy,aNh (uW J i) s2 (λq hq=>by
      have:=h2 q hq;unfold uW;rw[cY (by omega)];exact hs2 q hq)]
     simp[oJ,uW]
  have hsub:Sub (tO (wM (pre op)) true fl (oJ (wM (pre op)) b hj)) (tO J false fl (oJ J b hf)):=by rw[AZ];exact aK4 hnd aSq hpre
  obtain⟨x',new',x2,rfl',hx2,_,hfin⟩:=Db (o2:=tO J false fl (oJ J b hf)) hqq Xw hop hsub (by
   rcases CL with⟨h1,_⟩|⟨h1,_⟩
   .right;rintro s' rfl;simp[h1]
   .left;rw[rV,rV,AZ,h1,fX])
  refine hfin _ ?_;have hset:new'=new/\(uO (qG i (pre op) 0 l (vs.take i) s.t) op.dst x'=uO (qG i (pre op) 0 l (vs.take i) s.t) op.dst x):=by simp only[AS.mk.injEq,append_cancel_left_eq]at rfl';exact⟨rfl'.2,rfl'.1⟩
  have hto:wk (uO (iQ J 0 l vs s.t) op.dst x2) (iQ (uW J i) 0 l vs s.t):=by
   have:=Ir l 0 i op vs s.t (vs.getD i .undef) hdst hi' (by simpa using hJi) rfl;rw[hY]at this;rw[this];have hL:=NN Xw;unfold uO at hset⊢;cases hd:op.dst with
   |none=>exact lK _
   |some d=>
    rw[hd]at hset;dsimp only at hset⊢;rcases tD d (iQ J 0 l vs s.t).length with hdl|hle
    .have hxx:x'=x:=by have:=zE (λt=>t[d]?) hset.2;simpa [hL▸hdl]using this
     refine SQ d (lK _) ?_;rcases hvx with e|e
     .rw [e,<-hxx];assumption
     .exact .inr e
    .rw [BY hle,BY hle];exact lK _
  have aSr:∀o:List aN,tO (uW J i) false fl o=tO J false fl o:=λo=>Xt λq hq=>by unfold uW;rw[cY (hnf q hq)]
  have aSs:tO J false fl (oJ J b hf)++new'=tO (uW J i) false fl (oJ (uW J i) b hf):=by
   rw[aSr,hset.1];rcases CL with⟨h1,h2⟩|⟨h1,h2⟩
   .rw [h2,h1,fX]
   .rw [h2,Rb aSq,AZ,h1,fX]
  rw[aSs];exact wN hto
 .intro J hJ hJm hor;have hJ':Clo l J:=by simpa using hJ
  have hsz:l.toArray.size=l.length:=by simp
  rw[hsz];have e0:l.toArray.toList=l:=by simp
  rw[e0]at hor⊢;rcases hK with⟨hme,hK⟩|⟨aOz,_,hK⟩|⟨aOz,_,htl,hK⟩
  .left;have hall:∀i,i<l.length->J i=true:=by
    intro i hi;rcases hor with h|⟨op,hop,_⟩
    .exact h i (by omega)
    .have:=(cH.1 hop).1;omega
   have e3:(range l.length).map J=replicate l.length true:=by
    refine CA λi=> ?_
    rw[tM,getElem?_replicate];by_cases hi:i<l.length
    .simp [hi,hall i hi]
    .simp [hi]
   have e4:left (replicate l.length true)=0:=by
    unfold left;rw[filter_eq_nil_iff.2]
    .rfl
    .intro x hx;rw[(mem_replicate.1 hx).2];simp
   rw[e3,e4];simp only[Ap];have e5:iQ J 0 l vs s.t=iQ (λ_=>true) 0 l vs s.t:=CY l 0 vs s.t λk hk=>by rw[hY];exact hall k hk
   have e6:oJ J b hf=top b hf:=by
    cases hf with
    |nil=>rfl
    |cons q r=>
     simp only[oJ,top];rw[eK];have:=(VV q (by
      have:q::r=aSo:=by simpa using aNg
      rw[<-this];simp)).2
     exact hall _ (by omega)
   have e7:tO J false fl (top b hf)=tO (λk=>decide (k<m)) false fl (top b hf):=by
    have:J=λk=>decide (k<m):=by
     funext k;by_cases hk:k<m
     .rw [hall k (by omega)];simp[hk]
     .rw [hJm k (by omega)];simp[hk]
    rw[this]
   rw[e5,e6,e7];exact hK
  .left;have hop:=aE aOz;have hpre:∀e∈pre l[m],J e=true:=by
    rcases hor with h|⟨op,hop',h⟩
    .exact λe he=>h e (NM hfw hop e he)
    .rw [hop]at hop';obtain rfl:=cQ hop';exact h
   have e1:=aSl hop hJ' hJm hpre;have:=SN (λk=> !J k) (uT l m) [] hK;rw[fX,<-e1]at this;exact this
  .right;have hop:=aE aOz;have hall:∀i,i<m->J i=true:=by
    rcases hor with h|⟨op,hop',h⟩
    .exact h
    .exact aF9 htl hop' hJ' h
   refine⟨htl,hall,?_⟩;have hJf:J=λk=>decide (k<m):=by
    funext k;by_cases hk:k<m
    .rw [hall k hk];simp[hk]
    .rw [hJm k (by omega)];simp[hk]
   have e6:oJ J b hf=top b hf:=by
    cases hf with
    |nil=>rfl
    |cons q r=>
     simp only[oJ,top];rw[eK];have:=(VV q (by
      have:q::r=aSo:=by simpa using aNg
      rw[<-this];simp)).2
     exact hall _ (by omega)
   rw[e6,hJf];exact hK
theorem Xx{P:Program}[aB P]{l:List Oper}{t:List AV}{b:List aN}{fl:List (Nat×Nat×List AV)}{K:AS->Prop}{i:Nat}{vs:List AV}{h:List (Nat×List aN)}{t':List AV}{o':List aN}(ht:iQ (λ_=>true) 0 l vs t=t')(ho:tO (λk=>decide (k<i)) false fl (top b h)=o')(hk:K ⟨t',o'⟩):nQ P l t b fl K i [] vs h:=by simp only[nQ,ht,ho];exact hk
theorem Kj{P:Program}[aB P]{l:List Oper}{t:List AV}{b:List aN}{fl:List (Nat×Nat×List AV)}{K:AS->Prop}{i:Nat}{op:Oper}{r:List Oper}{vs:List AV}{h:List (Nat×List aN)}
  {pr:List Nat} {m:List AV} {om:List aN} (hnf:(fl.all λq=>decide (q.1≠i))=true) (hpr:pre op=pr) (hlt:(pr.all λe=>decide (e<i))=true) (hm:qG i pr 0 l vs t=m) (ho:tO (wM pr) true fl (oJ (wM pr) b h)=om) (hq:nW op.op ⟨m,om⟩=true)
  (ha:sV P l op ⟨m,om⟩ λs'=>(FN pr h=true\/s'.o.length=om.length)/\nQ P l t b fl K (i+1) r (vs++[GG op s']) (if s'.o.length=om.length then h else(i,tO Gz true fl s'.o)::h)):nQ P l t b fl K i (op::r) vs h:=by
 subst hpr;subst hm;subst ho;simp only[nQ];simp only[rV]at ha;exact .inr (.inl ⟨λq hq=>by have:=fR.1 hnf q hq;simpa using this,hq,λe he=>by have:=fR.1 hlt e he;simpa using this,ha⟩)
theorem jf{P:Program}[aB P]{l:List Oper}{t:List AV}{b:List aN}{fl:List (Nat×Nat×List AV)}{K:AS->Prop}{i:Nat}{op:Oper}{r:List Oper}{vs:List AV}{h:List (Nat×List aN)}{q:Nat×Nat×List AV}{T:TypeId}
  (hq:fl.find? (λq=>q.1 == i)=some q) (hg:op.guard=none) (hT:op.op= .alloc T) (hz:qC P T=some q.2.2) (hlt:((pre op).all λe=>decide (e<i))=true) (hd:nQ P l t b fl K (i+1) r (vs++[.ptr q.2.1 1 0 0]) h):nQ P l t b fl K i (op::r) vs h:=by
 simp only[nQ];refine .inl ⟨q,pB hq,by have:=Fk hq;simpa using this,hg,⟨T,hT,hz⟩,λe he=>by have:=fR.1 hlt e he;simpa using this,hd⟩
theorem NQ{P:Program}[aB P]{l:List Oper}{t:List AV}{b:List aN}{fl:List (Nat×Nat×List AV)}{K:AS->Prop}{i:Nat}{op:Oper}{r:List Oper}{vs:List AV}{h:List (Nat×List aN)}{z:List Nat}
  (hr:yH l i=true) (hz:uT l i=z) (ha:Ee (λz=>Ap P l K (left ((range l.length).map (jz i z))) ((range l.length).map (jz i z)) ⟨iQ (jz i z) 0 l vs t,tO (jz i z) false fl (oJ (jz i z) b h)⟩) [] z):nQ P l t b fl K i (op::r) vs h:=by
 subst hz;simp only[nQ];exact .inr (.inr (.inl ⟨hr,ha⟩))
theorem Xy{P:Program}[aB P]{l:List Oper}{t t':List AV}{b b':List aN}{fl:List (Nat×Nat×List AV)}{K:AS->Prop}{i:Nat}{op:Oper}{r:List Oper}{vs:List AV}{h:List (Nat×List aN)}
  (htl:(yH l i&&ET l i)=true) (ht:iQ (λk=>decide (k<i)) 0 l vs t=t') (ho:tO (λk=>decide (k<i)) false fl (top b h)=b') (ha:lD P l (op::r) ⟨t',b'⟩ K):nQ P l t b fl K i (op::r) vs h:=by
 subst ht;subst ho;simp only[eI]at htl;simp only[nQ];exact .inr (.inr (.inr ⟨htl.1,htl.2,ha⟩))
def Pt(J:Nat->Bool):Nat->List Oper->List Bool
 |_,[]=>[]
 |j,_::r=>J j::Pt J (j+1) r
theorem Xz{J:Nat->Bool}:∀(l:List Oper) (j i:Nat),(Pt J j l)[i]? =if i<l.length then some (J (j+i))else none
 |[],_,_=>by simp[Pt]
 |_::r,j,0=>by simp[Pt]
 |_::r,j,i+1=>by simp only[Pt,At,eN];rw[Xz r (j+1) i,show j+1+i=j+(i+1)by omega];simp
theorem aGe(J:Nat->Bool)(l:List Oper):(range l.length).map J=Pt J 0 l:=by
 refine CA λi=> ?_
 rw[Xz,tM];by_cases hi:i<l.length
 .simp [hi]
 .simp [hi]
def SS(d:List Bool):Nat->List Oper->List Nat
 |_,[]=>[]
 |i,op::r=>if (!d.getD i false&&(pre op).all λe=>d.getD e false)=true then i::SS d (i+1) r else SS d (i+1) r
theorem Iy{d:List Bool}:∀{l:List Oper} {k i:Nat},i∈SS d k l↔∃j op,l[j]? =some op/\i=k+j/\(!d.getD i false&&(pre op).all λe=>d.getD e false)=true
 |[],k,i=>by simp[SS]
 |op::r,k,i=>by
  simp only[SS];constructor
  .intro h;by_cases hc:(!d.getD k false&&(pre op).all λe=>d.getD e false)=true
   .rw [eK hc]at h;rcases gS.1 h with rfl|h
    .exact ⟨0,op,rfl,rfl,hc⟩
    .obtain ⟨j,o,h1,h2,h3⟩:=Iy.1 h;exact⟨j+1,o,by simpa using h1,by omega,h3⟩
   .rw [cY hc]at h;obtain⟨j,o,h1,h2,h3⟩:=Iy.1 h;exact⟨j+1,o,by simpa using h1,by omega,h3⟩
  .rintro ⟨j,o,h1,rfl,h3⟩;cases j with
   |zero=>simp at h1;subst h1;rw[sA]at h3⊢;rw[eK h3];simp
   |succ j=>
    have:=Iy.2 ⟨j,o,by simpa using h1,show k+(j+1)=k+1+j by omega,h3⟩;split
    .exact AK _ this
    .exact this
theorem XA{P:Program}[aB P]{l:List Oper}{K:AS->Prop}{n:Nat}{d:List Bool}{s:AS}{r':List Nat}(h:wS P l K n d s r'):∀r:List Nat,(∀i∈r,i∈r')->wS P l K n d s r
 |[],_=>by simp only[wS]
 |i::r,hs=>by simp only[wS];exact⟨NL h i (hs i (by simp)),XA h r λj hj=>hs j (by simp[hj])⟩
theorem go_all{P:Program}[aB P]{l:List Oper}{K:AS->Prop}{n:Nat}{d:List Bool}{s:AS}{rl:List Nat}(hr:SS d 0 l=rl)(h:wS P l K n d s rl):Ap P l K (n+1) d s:=by
 simp only[Ap];refine XA h _ λi hi=> ?_
 rw[<-hr,Iy];unfold YQ at hi;rw[BT]at hi;obtain⟨h1,h2⟩:=hi;have hlt:i<l.length:=by simpa using h1
 have hop:=aE hlt;have hp:nI l i=pre l[i]:=by simp[nI,hop]
 exact⟨i,l[i],hop,by omega,by rw[<-hp];exact h2⟩
theorem go_end{P:Program}[aB P]{l:List Oper}{K:AS->Prop}{d:List Bool}{s:AS}(h:K s):Ap P l K 0 d s:=by simpa only[Ap]using h
theorem go_one{P:Program}[aB P]{l:List Oper}{K:AS->Prop}{n:Nat}{d d':List Bool}{s:AS}{i:Nat}{op:Oper}(hop:l[i]? =some op)(hd:d.set i true=d')(h:lD P l [op] s λs'=>Ap P l K n d' s'):wS P l K n d s [i]:=by subst hd;simp only[wS];exact⟨⟨op,hop,h⟩,trivial⟩
theorem sy{P:Program}[aB P]{l:List Oper}{K:AS->Prop}{n:Nat}{d:List Bool}{s:AS}{i j:Nat}{r:List Nat}(h1:wS P l K n d s [i])(h2:wS P l K n d s (j::r)):wS P l K n d s (i::j::r):=by simp only[wS]at h1 h2⊢;exact⟨h1.1,h2⟩
theorem sx{F:List Nat->Prop}{acc:List Nat}{z:Nat}{r:List Nat}(h1:Ee F acc r)(h2:Ee F (z::acc) r):Ee F acc (z::r):=⟨h1,h2⟩
theorem go_sub{P:Program}[aB P]{l:List Oper}{t t':List AV}{b o':List aN}{fl:List (Nat×Nat×List AV)}{K:AS->Prop}{i n:Nat}{vs:List AV}{h:List (Nat×List aN)}{acc:List Nat}{d:List Bool}(hd:Pt (jz i acc) 0 l=d)(hn:left d=n)(ht:iQ (jz i acc) 0 l vs t=t')(ho:tO (jz i acc) false fl (oJ (jz i acc) b h)=o')
  (ha:Ap P l K n d ⟨t',o'⟩):Ee (λz=>Ap P l K (left ((range l.length).map (jz i z))) ((range l.length).map (jz i z)) ⟨iQ (jz i z) 0 l vs t,tO (jz i z) false fl (oJ (jz i z) b h)⟩) acc []:=by
 subst hn;subst ht;subst ho;subst hd;simp only[Ee,aGe];exact ha
theorem Aq{P:Program}[aB P]{all:List Oper}{K1 K2:AS->Prop}(hk:∀s',K1 s'->K2 s'):∀(r:List Oper) (s:AS),lD P all r s K1->lD P all r s K2
 |[],s,h=>by simp only[lD]at h⊢;exact hk s h
 |o::r,s,h=>by
  simp only[lD]at h⊢;split at h
  .rcases h with h|h|h
   .exact .inl (YO (Aq hk r) h)
   .exact .inr (.inl (iy (Aq hk r) h))
   .exact .inr (.inr (Xp (Aq hk r) h))
  .split at h
   .exact ⟨λe=>(h.1 e).imp (YO (Aq hk r)) (Or.imp (iy (Aq hk r)) (Xp (Aq hk r))),λe=>Aq hk r _ (h.2 e)⟩
   .exact h.elim
mutual
theorem jg{P:Program}[aB P]{l:List Oper}{K1 K2:AS->Prop}(hk:∀s',K1 s'->K2 s'):∀(n:Nat) (d:List Bool) (s:AS),Ap P l K1 n d s->Ap P l K2 n d s
 |0,d,s,h=>by simp only[Ap]at h⊢;exact hk s h
 |n+1,d,s,h=>by simp only[Ap]at h⊢;exact XB hk n d s _ h
theorem XB{P:Program}[aB P]{l:List Oper}{K1 K2:AS->Prop}(hk:∀s',K1 s'->K2 s'):∀(n:Nat) (d:List Bool) (s:AS) (r:List Nat),wS P l K1 n d s r->wS P l K2 n d s r
 |n,d,s,[],h=>by simp only[wS]
 |n,d,s,i::r,h=>by simp only[wS]at h⊢;obtain⟨⟨op,h1,h2⟩,h3⟩:=h;exact⟨⟨op,h1,Aq (λs'=>jg hk n _ s') _ _ h2⟩,XB hk n d s r h3⟩
end
theorem SV{F1 F2:List Nat->Prop}(hk:∀z,F1 z->F2 z):∀(z acc:List Nat),Ee F1 acc z->Ee F2 acc z
 |[],acc,h=>hk acc h
 |x::z,acc,h=>⟨SV hk z acc h.1,SV hk z (x::acc) h.2⟩
theorem EU{P:Program}[aB P]{l:List Oper}{t:List AV}{b:List aN}{fl:List (Nat×Nat×List AV)}{K:AS->Prop}{i:Nat}{op:Oper}{r:List Oper}{vs:List AV}{h:List (Nat×List aN)}{z:List Nat}{s1:AS}
  (hr:yH l i=true) (hz:uT l i=z) (ha:Ee (λz=>Ap P l (λs'=>s'=s1) (left ((range l.length).map (jz i z))) ((range l.length).map (jz i z)) ⟨iQ (jz i z) 0 l vs t,tO (jz i z) false fl (oJ (jz i z) b h)⟩) [] z) (hk:K s1):nQ P l t b fl K i (op::r) vs h:=
 NQ hr hz (SV (λz h=>jg (λs' e=>by subst e;exact hk) _ _ _ h) _ _ ha)
def SX(P:Program):Nat->Nat->List Oper->List (Nat×Nat×List AV)
 |_,_,[]=>[]
 |i,n,op::r=>match op.op with
  | .alloc T=>match qC P T with
   |some z=>(i,n,z)::SX P (i+1) (n+1) r
   |none=>SX P (i+1) n r
  |_=>SX P (i+1) n r
attribute [irreducible] nQ
def bC(t:List AV):List (Nat×AV)->List AV
 |[]=>t
 |p::r=>bC (t.set p.1 p.2) r
theorem aM{P:Program}[aB P]{c:Code}{s:AS}{Q:Exit->AS->Prop}{ι:Type}(inv:List AV->List aN->ι->AS)(μ:ι->Nat)(i:ι)(h0:lC s (inv s.t s.o i))(h:∀i,∀K:AS->Prop,(∀s' j,lC s' (inv s.t s.o j)->μ j<μ i->K s')->vE P c (inv s.t s.o i) (DZ K Q)):vE P (.loop c) s Q:=aE3 (inv s.t s.o) μ i h0 h
attribute [irreducible] Ee
attribute [simp] Pt SS jz left tO flv Gz SX pre aGb qG Bl iQ oJ top FN wM GG bC
theorem aB1{P:Program}[aB P]{all r:List Oper}{o:Oper}{s:AS}{K:AS->Prop}{j:Nat}{want:Bool}(hg:o.guard=some (j,want))(hb:sQ all s j want= .bool (!want))(h:lD P all r (s.put o.dst (.gM [])) K):lD P all (o::r) s K:=by unfold lD;rw[hg];dsimp only;rw[hb];exact⟨λhn=>(by cases want<;>cases hn),λ_=>h⟩
theorem jh{α:Type}{l:List α}{i:Nat}{x:α}(h:l[i]? =some x):l.set i x=l:=by obtain⟨hi,rfl⟩:=cH.1 h;exact set_getElem_self hi
theorem zu{P:Program}[aB P]{all r:List Oper}{o:Oper}{s:AS}{K:AS->Prop}{j d:Nat}{want b:Bool}(hg:o.guard=some (j,want))(hd:(all[j]?).bind (·.dst)=some d)(hb:s.t[d]? =some (.bool b))
  (h1:b=true->lD P all (o::r) ⟨s.t.set d (.bool true),s.o⟩ K) (h2:b=false->lD P all (o::r) ⟨s.t.set d (.bool false),s.o⟩ K):lD P all (o::r) s K:=by
 cases b
 .have:=h2 rfl;rw[jh hb]at this;exact this
 .have:=h1 rfl;rw[jh hb]at this;exact this
def qO{α:Type}(f:α->Bool)(l:List α):Int:=if l.any f=true then(l.findIdx f:Nat)else -1
theorem uY{α:Type}{f:α->Bool}{l:List α}{k:Nat}(h:k<l.length)(hf:f l[k]=true)(hn:∀x∈l.take k,f x=false):qO f l=k:=by
 unfold qO;rw[eK (any_eq_true.2 ⟨_,fS h,hf⟩)];have:l.findIdx f=k:=by rw[findIdx_eq h];refine⟨hf,λj hj=> ?_⟩;exact hn _ (mem_take_iff_getElem.2 ⟨j,by omega,rfl⟩)
 rw[this]
theorem nN{α:Type}{f:α->Bool}{l:List α}(hn:∀x∈l,f x=false):qO f l= -1:=by unfold qO;rw[cY];intro h;obtain⟨x,hx,hf⟩:=any_eq_true.1 h;rw[hn x hx]at hf;cases hf
theorem GH{α:Type}(f:α->Bool)(l:List α):decide (0<=qO f l)=l.any f:=by unfold qO;cases h:l.any f<;>simp
theorem bZ{α:Type}{p:α->Prop}{l:List α}{k:Nat}(h:k<l.length)(ha:∀x∈l.take k,p x)(hk:p l[k]):∀x∈l.take (k+1),p x:=by
 rw[eJ h];intro x hx;rcases eW.1 hx with hx|hx
 .exact ha x hx
 .rw [rS.1 hx];exact hk
theorem iW{α:Type}{p:α->Prop}{l:List α}{k:Nat}(hk:l.length<=k)(ha:∀x∈l.take k,p x):∀x∈l,p x:=by
 rwa[cX hk]at ha
theorem yI{n:Int}{k:Nat}(h:n<=1048576):sub n k<=1048576:=by unfold sub;split<;>omega
theorem wE{n:Int}{k:Nat}(h:n<=1048576):n-(k:Int)<=1048576:=by omega
theorem yJ{n m:Int}{k:Nat}(e:sub n k=m)(h:0<=m):m=n-k/\(k:Int)<=n:=by unfold sub at e;split at e<;>omega
theorem wF{n m:Int}{k:Nat}(e:sub n k=m)(h0:0<=n)(h:m<0):m= -1/\n<k:=by unfold sub at e;split at e<;>omega
open Go.ChangeShapes Go.WideShapes Go.ChangeAt Go.RowKit
inductive Sh
  | int (k:IntKind)
  | bool
  | str
  | sl (n:Nat) (row:List Sh)
mutual
def Fits:Sh->AV->Prop
 | .int k,.int k' n=>k'=k/\(Lit.int k n).wf=true
 | .bool,.bool _=>True
 | .str,.str s=>s.length<=maxLen
 | .sl n row,.sl g n' rows=>g= .view/\n'=n/\rows.length<=maxLen/\∀r∈rows,nH row r
 |_,_=>False
def nH:List Sh->List AV->Prop
 |[],[]=>True
 |s::ss,x::xs=>Fits s x/\nH ss xs
 |_,_=>False
end
theorem Ls:∀{ss tt:List Sh} {xs ys:List AV},nH ss xs->nH tt ys->nH (ss++tt) (xs++ys)
 |[],_,[],_,_,h=>h
 |s::ss,_,x::xs,_,h,h'=>by simp only[nH,eA]at h⊢;exact⟨h.1,Ls h.2 h'⟩
 |[],_,_::_,_,h,_=>h.elim
 |_::_,_,[],_,h,_=>h.elim
def shF(sh:TypeId->Option (List Sh))(P:Program):List Field->Nat->Option (List Sh)
 |[],_=>some []
 |x::xs,o=>if x.offset=o then match sh x.type with
   |some a=>if a.length=P.cellsOf x.type then match shF sh P xs (o+a.length)with
     |some b=>some (a++b)
     |none=>none
    else none
   |none=>none
  else none
def X6(P:Program):Nat->TypeId->Option (List Sh)
 |0,_=>none
 |f+1,t=>match P.underlying t with
  |some .bool=>some [.bool]
  |some (.int k)=>some [.int k]
  |some .string=>some [.str]
  |some (.slice e)=>match X6 P f e with
   |some row=>if row.length=P.cellsOf e/\0<row.length then some [.sl row.length row]else none
   |none=>none
  |some (.struct fs)=>match shF (X6 P f) P fs.toList 0 with
   |some r=>if r.length=P.cellsOf t then some r else none
   |none=>none
  |_=>none
theorem Pk{α:Type}{p:Nat->α->Prop}:∀(n:Nat),(∀i,i<n->∃x,p i x)->∃l:List α,l.length=n/\∀i x,l[i]? =some x->p i x
 |0,_=>⟨[],rfl,λi x h=>by simp at h⟩
 |n+1,h=>by
  obtain⟨l,hl,hp⟩:=Pk n (λi hi=>h i (by omega));obtain⟨x,hx⟩:=h n (by omega);refine⟨l++[x],by simp[hl],λi y hy=> ?_⟩;by_cases hi:i<l.length
  .rw [pS hi]at hy;exact hp i y hy
  .rw [kO (by omega)]at hy;have:i-l.length=0:=by
    cases hk:i-l.length with
    |zero=>rfl
    |succ k=>rw[hk]at hy;simp at hy
   rw[this]at hy;simp at hy;subst hy;have:i=n:=by omega
   subst this;exact hx
theorem aMz{w:World}{E:Env}{b n:Nat}:∀(rows:List (List AV)) (off:Nat),
  (∀j r,rows[j]? =some r->∃cs:List Value,cs.length=n/\bK w b (off+j*n) cs/\(∀x∈cs,x.oneCell'=true)/\Rc w E r cs [])->Rr w E rows b off n []
 |[],_,_=>by simp[Rr]
 |r::rs,off,h=>by obtain⟨cs,h1,h2,h3,h4⟩:=h 0 r rfl;refine⟨cs,[],[],h1,by simpa using h2,h3,h4,aMz rs (off+n) λj r hj=> ?_,rfl⟩;obtain⟨cs,h1,h2,h3,h4⟩:=h (j+1) r (by simpa using hj);exact⟨cs,h1,by rw[rB,Nat.one_mul,show off+(j*n+n)=off+n+j*n by omega]at h2;exact h2,h3,h4⟩
section
variable{H:Type}{enc:TypeId × Value -> H}{P:Program}[aB P]{w:World}{spare:Nat -> Bool}{held:Bool}
def Reads(enc:TypeId×Value->H)(P:Program)(w:World)(spare:Nat->Bool)(held:Bool)(t:TypeId)(ss:List Sh):Prop:=
 ∀fuel cs x,DataW.trod enc P w 0 spare held fuel t cs=some x->∃Xj,nH ss Xj/\Rc w (oM w) Xj cs []/\∀c∈cs,c.oneCell'=true
theorem Lt{sh:TypeId->Option (List Sh)}(ih:∀t ss,sh t=some ss->Reads enc P w spare held t ss){n:Nat}{cs:List Value}:
  ∀(fs:List Field) (o:Nat) (rs:List Sh),shF sh P fs o=some rs->(∀f∈fs,∃y,DataW.trod enc P w 0 spare held n f.type ((cs.drop f.offset).take (P.cellsOf f.type))=some y)->
   ∃Xj,nH rs Xj/\Rc w (oM w) Xj ((cs.drop o).take rs.length) []/\∀c∈(cs.drop o).take rs.length,c.oneCell'=true
 |[],o,rs,h,_=>by simp only[shF,eE]at h;subst h;exact⟨[],by simp[nH],by simp[Rc],by simp⟩
 |f::fs,o,rs,h,hf=>by
  simp only[shF]at h;split at h
  .rename_i ho;split at h
   .rename_i a ha;split at h
    .rename_i hl;split at h
     .rename_i b hb;obtain rfl:=cQ h;obtain⟨y,hy⟩:=hf f (by simp);obtain⟨x1,h1,h2,h3⟩:=ih _ _ ha _ _ _ hy;obtain⟨x2,h4,h5,h6⟩:=Lt ih fs _ _ hb λf hf'=>hf f (by simp[hf'])
      rw[ho,<-hl]at h2 h3;have e:(cs.drop o).take (a++b).length=(cs.drop o).take a.length++(cs.drop (o+a.length)).take b.length:=by rw[eR,take_add,AF]
      refine⟨x1++x2,Ls h1 h4,by rw[e];exact mY h2 h5,λc hc=> ?_⟩;rw[e,eW]at hc;exact hc.elim (h3 c) (h6 c)
     .cases h
    .cases h
   .cases h
  .cases h
theorem reads:∀(f:Nat) (t:TypeId) (ss:List Sh),X6 P f t=some ss->Reads enc P w spare held t ss
 |0,_,_,h=>by simp[X6]at h
 |f+1,t,ss,h=>by
  intro fuel cs x hx;unfold X6 at h;split at h
  .rename_i ht;obtain rfl:=cQ h;obtain⟨b,rfl,_⟩:=DataW.trod_bool ht hx;exact⟨[.bool b],by simp[nH,Fits],by simp[Rc,R],by simp[Value.oneCell']⟩
  .rename_i k ht;obtain rfl:=cQ h;obtain⟨n,rfl,_,hw⟩:=DataW.trod_int ht hx;exact⟨[.int k n],by simp[nH,Fits,hw],by simp[Rc,R],by simp[Value.oneCell']⟩
  .rename_i ht;obtain rfl:=cQ h;obtain⟨s,rfl,_,hw⟩:=DataW.trod_string ht hx;exact⟨[.str s.data.toList],by simpa [nH,Fits]using hw,by simp[Rc,R],by simp[Value.oneCell']⟩
  .rename_i e ht;split at h
   .rename_i row hrow;split at h
    .rename_i hc;obtain rfl:=cQ h;have ih:=reads f e row hrow;rcases DataW.trod_slice ht hx with⟨rfl,_⟩|⟨a,len,cap,elems,rest,n,_,rfl,_,_,hlc,X7,hlen,hel,_,_⟩
     .exact ⟨[.sl .view row.length []],by simp[nH,Fits],by simp[Rc,R,maxLen],by simp[Value.oneCell']⟩
     .rw [<-hc.1]at hel;have aE4:∀i,i<len->∃r:List AV,nH row r/\∃cs,w.cells? 0 (a.add (i*row.length)) row.length=some cs/\(∀x∈cs,x.oneCell'=true)/\Rc w (oM w) r cs []:=by intro i hi;have h1:=hel i hi;rw[aE (by omega)]at h1;obtain⟨cs,hcs,htr⟩:=Option.bind_eq_some_iff.1 h1;obtain⟨r,h2,h3,h4⟩:=ih _ _ _ htr;exact⟨r,h2,cs,hcs,h4,h3⟩
      obtain⟨rows,hrl,hrp⟩:=Pk len aE4;refine⟨[.sl .view row.length rows],?_,?_,by simp[Value.oneCell']⟩
      .simp only[nH,Fits,sY,true_and];refine⟨by omega,λr hr=> ?_⟩;obtain⟨i,hi⟩:=getElem?_of_mem hr;exact(hrp i r hi).1
      .simp only[Rc];refine⟨[],[],?_,rfl,rfl⟩;simp only[R];refine .inr ⟨some a,cap,by rw[hrl],⟨by omega,by omega⟩,.inr (.inr ⟨by simp,trivial,?_⟩)⟩;by_cases hl0:len=0
       .exact .inl (Ax.1 (by omega))
       right;have h0:rows[0]? =some rows[0]:=aE (by omega);obtain⟨_,cs0,aOl,_⟩:=hrp 0 _ h0;have hcell:=(World.cells?_some aOl).2.2 0 hc.2;have aX6:=(World.cells?_some aOl).2.1;have aM0:a.spot=none:=by
        have:w.cell? a=cs0[0]?:=by simpa [Addr.add]using hcell
        rw[aE (by omega)]at this;unfold World.cell? at this;split at this
        .split at this
         .cases this
         .rename_i hs;simpa using hs
        .cases this
       have aJ9:a.block<w.heap.size:=by have:=World.cells?_block aOl hc.2;unfold Addr.add at this;split at this<;>exact this
       obtain⟨ab,ao,asp⟩:=a;simp only at aM0 aJ9;subst aM0;refine⟨ab,ao,rfl,aJ9,aMz rows ao λj r hj=> ?_⟩;obtain⟨_,cs,hcs,h1,hR⟩:=hrp j r hj;have hs:=World.cells?_some hcs;refine⟨cs,hs.2.1,λk v hv=> ?_,h1,?_⟩
       .have hk:k<row.length:=by have:=(cH.1 hv).1;omega
        have:=hs.2.2 k hk;rw[hv]at this;rw[<-this];congr 1;unfold Addr.add;split<;>split<;>simp_all<;>omega
       .exact dU (w:=w) (w':=w) (E:=oM w) ⟨λb hb=>⟨hb,rfl⟩,λ_ h=>trivial,λ_ _ _ h=>by exact h.elim,λ_ _ _ h=>by exact h.elim,λ_ _ _ _ _ h=>by exact h.elim⟩ _ _ _ (by simp) hR
    .cases h
   .cases h
  .rename_i fs ht;split at h
   .rename_i r hr;split at h
    .rename_i hc;obtain rfl:=cQ h;obtain⟨xs,n,_,_,hcl,hxl,ED⟩:=DataW.trod_struct ht hx;obtain⟨Xj,h1,h2,h3⟩:=Lt (enc:=enc) (w:=w) (spare:=spare) (held:=held) (n:=n) (cs:=cs) (reads f) fs.toList 0 _ hr λfl hfl=>by
      obtain⟨i,hi⟩:=getElem?_of_mem hfl;have:=ED i fl (by simpa using hi);have hlt:=(cH.1 hi).1;simp at hlt;rw[aE (by omega)]at this;exact⟨_,this⟩
     rw[AW,cX (by omega)]at h2 h3;exact⟨Xj,h1,h2,h3⟩
    .cases h
   .cases h
  .cases h
inductive ShV
  | one (s:Sh)
  | agg (row:List Sh)
def aE5:ShV->AV->Prop
 | .one s,x=>Fits s x
 | .agg row,.agg c=>nH row c
 |_,_=>False
def ND:List ShV->List AV->Prop
 |[],[]=>True
 |s::ss,x::xs=>aE5 s x/\ND ss xs
 |_,_=>False
def shV(P:Program)(f:Nat)(t:TypeId):Option ShV:=match P.underlying t with
 |some (.struct _)=>(X6 P f t).map .agg
 |some .bool|some (.int _)|some .string|some (.slice _)=>match X6 P f t with
  |some [s]=>some (.one s)
  |_=>none
 |_=>none
def aE6(P:Program)(f:Nat):List TypeId->Option (List ShV)
 |[]=>some []
 |t::ts=>match shV P f t,aE6 P f ts with
  |some s,some ss=>some (s::ss)
  |_,_=>none
theorem cells_one{v:Value}(h:∀cs,v≠ .agg cs):v.cells=#[v]:=by cases v<;>first|rfl|exact absurd rfl (h _)
theorem aOm{base:Nat}{f:Nat}{t:TypeId}{s:ShV}(h:shV P f t=some s){v:Value}{d:DataW H}{ps:List MemPlace}(nU:Value.okWide P w .any base t v)
  (hT:DataW.Trod enc P w 0 spare held t v d ps):∃av,aE5 s av/\R w (oM w) av v []:=by
 obtain⟨fuel,hT⟩:=hT;unfold shV at h;have one:(∀cs,v≠ .agg cs)->(match X6 P f t with|some [s]=>some (ShV.one s)|_=>none)=some s->∃av,aE5 s av/\R w (oM w) av v []:=by
  intro hv h;split at h
  .rename_i s1 hs;obtain rfl:=cQ h;obtain⟨Xj,h1,h2,_⟩:=reads f t _ hs _ _ _ hT;rw[cells_one hv]at h2;cases Xj with
   |nil=>exact h1.elim
   |cons x xs=>
    cases xs with
    |nil=>simp only[Rc]at h2;obtain⟨f1,f2,hr,rfl,e⟩:=h2;simp only[fX]at e;subst e;simp only[nH]at h1;exact⟨x,h1.1,hr⟩
    |cons y ys=>simp[nH]at h1
  .cases h
 split at h
 .rename_i fs ht;obtain⟨ss,hs,rfl⟩:=tU.1 h;obtain⟨cs,rfl,_⟩:=okWide_struct ht nU;obtain⟨Xj,h1,h2,h3⟩:=reads f t _ hs _ _ _ hT;exact⟨.agg Xj,h1,by simp only[R];exact⟨cs.toList,by simp,h3,h2⟩⟩
 .rename_i ht;exact one (λcs e=>by subst e;simp[Value.okWide,ht,Cell.okWide,Cell.ok]at nU) h
 .rename_i ht;exact one (λcs e=>by subst e;simp[Value.okWide,ht,Cell.okWide,Cell.ok]at nU) h
 .rename_i ht;exact one (λcs e=>by subst e;simp[Value.okWide,ht,Cell.okWide,Cell.ok]at nU) h
 .rename_i ht;exact one (λcs e=>by subst e;simp[Value.okWide,ht,Cell.okWide,Cell.ok]at nU) h
 .cases h
theorem X8{base:Nat}{f:Nat}:∀{ts:List TypeId} {ss:List ShV},aE6 P f ts=some ss->∀{vs:List Value} {ds:List (DataW H)} {ps:List MemPlace},
  (∀(j:Nat) t v,ts[j]? =some t->vs[j]? =some v->Value.okWide P w .any base t v)->DataW.TrodAll enc P w 0 spare held ts vs ds ps->∃Xj,ND ss Xj/\Rc w (oM w) Xj vs []
 |[],ss,h,[],_,_,_,_=>by simp only[aE6,eE]at h;subst h;exact⟨[],trivial,by simp[Rc]⟩
 |t::ts,ss,h,v::vs,d::ds,ps,nU,hT=>by
  simp only[aE6]at h;split at h
  .rename_i s ss' h1 h2;obtain rfl:=cQ h;obtain⟨p,q,ht,hr,_⟩:=hT;obtain⟨x,hx,hR⟩:=aOm h1 (nU 0 t v rfl rfl) ht;obtain⟨xs,hxs,hRs⟩:=X8 h2 (λj t v h1 h2=>nU (j+1) t v (by simpa using h1) (by simpa using h2)) hr;exact⟨x::xs,⟨hx,hxs⟩,by simp only[Rc];exact⟨[],[],hR,hRs,rfl⟩⟩
  .cases h
 |[],_,_,_::_,_,_,_,hT=>by simp[DataW.TrodAll]at hT
 |_::_,_,_,[],_,_,_,hT=>by simp[DataW.TrodAll]at hT
 |_::_,_,_,_::_,[],_,_,hT=>by simp[DataW.TrodAll]at hT
theorem Jh(hl:laidOutB P=true){W W':World}(hb:Below W.heap.size W W'):∀{ts:List TypeId} {vs:List Value} {ds:List (DataW H)} {ps:List MemPlace},
  (∀t∈ts,P.readableRec t=true/\t<P.types.size)->DataW.TrodAll enc P W 0 (λ_=>true) true ts vs ds ps->(∀x∈ps,x.block<W.heap.size)->∀sp:Nat->Bool,(∀p∈ps,sp p.block=true)->
   DataW.TrodAll enc P W' 0 sp true ts vs ds ps
 |[],[],[],_,_,h,_,_,_=>h
 |t::ts,v::vs,d::ds,ps,hr,h,hlt,sp,hsp=>by
  obtain⟨p,q,h1,h2,rfl⟩:=h;refine⟨p,q,?_,?_,rfl⟩
  .exact WideElems.Trod_stays hl (hr t (by simp)).1 (hr t (by simp)).2 h1 (λx hx=>hb.same (hlt x (by simp[hx]))) (λx hx=>hsp x (by simp[hx]))
  .exact Jh hl hb (λt ht=>hr t (by simp[ht])) h2 (λx hx=>hlt x (by simp[hx])) sp (λx hx=>hsp x (by simp[hx]))
 |[],_::_,_,_,_,h,_,_,_=>h.elim
 |[],[],_::_,_,_,h,_,_,_=>h.elim
 |_::_,[],_,_,_,h,_,_,_=>h.elim
 |_::_,_::_,[],_,_,h,_,_,_=>h.elim
end
theorem Gu{α:Type}{row:List Sh}{e:α->List AV}{p:α->Prop}(h:∀r,nH row r->∃x,r=e x/\p x):∀rows:List (List AV),(∀r∈rows,nH row r)->∃l:List α,rows=l.map e/\∀x∈l,p x
 |[],_=>⟨[],rfl,by simp⟩
 |r::rs,hr=>by obtain⟨x,rfl,hx⟩:=h r (hr r (by simp));obtain⟨l,rfl,hl⟩:=Gu h rs (λr h=>hr r (by simp[h]));exact⟨x::l,rfl,by simpa using⟨hx,hl⟩⟩
theorem Ea{r:List AV}(h:nH [] r):r=[]:=by
 cases r with
 |nil=>rfl
 |cons _ _=>exact h.elim
theorem rG{ss:List Sh}{r:List AV}(h:nH (.str::ss) r):∃s r',r= .str s::r'/\s.length<=9223372036854775807/\nH ss r':=by
 match r,h with
 |[],h=>exact h.elim
 | .str s::r',h=>exact⟨s,r',rfl,h.1,h.2⟩
theorem fits_int{k:IntKind}{ss:List Sh}{r:List AV}(h:nH (.int k::ss) r):∃n r',r= .int k n::r'/\(k.min<=n/\n<=k.max)/\nH ss r':=by
 match r,h with
 |[],h=>exact h.elim
 | .int k' n::r',h=>obtain⟨⟨rfl,hw⟩,h2⟩:=h;exact⟨n,r',rfl,by simpa [Lit.wf]using hw,h2⟩
theorem fits_bool{ss:List Sh}{r:List AV}(h:nH (.bool::ss) r):∃b r',r= .bool b::r'/\nH ss r':=by
 match r,h with
 |[],h=>exact h.elim
 | .bool b::r',h=>exact⟨b,r',rfl,h.2⟩
theorem Ra{n:Nat}{row ss:List Sh}{r:List AV}(h:nH (.sl n row::ss) r):∃rows r',r= .sl .view n rows::r'/\rows.length<=9223372036854775807/\(∀x∈rows,nH row x)/\nH ss r':=by
 match r,h with
 |[],h=>exact h.elim
 | .sl g n' rows::r',h=>obtain⟨⟨rfl,rfl,h1,h2⟩,h3⟩:=h;exact⟨rows,r',rfl,h1,h2,h3⟩
theorem aBp{r:List AV}(h:ND [] r):r=[]:=by
 cases r with
 |nil=>rfl
 |cons _ _=>exact h.elim
theorem Xk{row:List Sh}{ss:List ShV}{r:List AV}(h:ND (.agg row::ss) r):∃c r',r= .agg c::r'/\nH row c/\ND ss r':=by
 match r,h with
 |[],h=>exact h.elim
 |x::r',h=>
  cases x with
  |agg c=>exact⟨c,r',rfl,h.1,h.2⟩
  |_=>exact h.1.elim
theorem aE7{C:Checked}[T:aB C.prog]{f:FuncId}{fn:Func}{s:ChangeSpec}{apart fresh handsOn again:Bool}{H:Type}{enc:TypeId×Value->H}{ss:List ShV}{fuel:Nat}{tb:TypeId}
  (hl:laidOutB C.prog=true) (aSb:∀t∈fn.params.toList,C.prog.readableRec t=true/\t<C.prog.types.size)
  (hsh:aE6 C.prog fuel fn.params.toList=some ss) (jK:fn.resultTypes=#[tb]) (hb:C.prog.underlying tb=some .bool) (aM1:s.vars=[])
  (hfn:∀ds:List (DataW H),ds.length=fn.params.toList.length->s.fn H ds={results:=[.lit (.bool true)],args:=ds})
  (nU:∀Xj,ND ss Xj->Ok C.prog f Xj (.bool true))
  {W:World} {base:Nat} {args:Array Value} {ds gs:List (DataW H)} {before:List MemPlace} (hT:aB.holds C.prog W)
  (hval:∀(j:Nat) t v,fn.params[j]? =some t->args[j]? =some v->Value.okWide C.prog W .any base t v)
  (hW:DataW.Whole enc C.prog fn.params.toList s.vars apart W args.toList ds gs before):
  Calls C.prog f args W λe W'=>∃v,e= .returned v/\s.post enc C.prog fn apart fresh handsOn again W args v W':=by
 obtain⟨p,q,hA,hV,hpq,hz,hn⟩:=id hW;rw[aM1]at hV;obtain⟨rfl,rfl⟩:gs=[]/\q=[]:=by
  cases gs with
  |nil=>exact⟨rfl,hV⟩
  |cons _ _=>exact hV.elim
 rw[fX]at hpq;subst hpq;have hlen:ds.length=fn.params.toList.length:=by
  have:∀(ts:List TypeId) (vs:List Value) (ds:List (DataW H)) ps,DataW.TrodAll enc C.prog W 0 (λ_=>true) true ts vs ds ps->ds.length=ts.length:=by
   intro ts;induction ts with
   |nil=>intro vs ds ps h;cases vs<;>cases ds<;>simp_all[DataW.TrodAll]
   |cons t ts ih=>intro vs ds ps h;cases vs<;>cases ds<;>simp_all[DataW.TrodAll];obtain⟨_,_,_,h,_⟩:=h;exact ih _ _ _ h
  exact this _ _ _ _ hA
 have aSd:=hfn ds hlen;obtain⟨Xj,aSe,hR⟩:=X8 hsh (λj t v h1 h2=>hval j t v (by simpa using h1) (by simpa using h2)) hA;have hc:=nU Xj aSe W args.toList hT hR;rw[show args.toList.toArray=args from rfl]at hc;refine hc.mono λe W' ⟨v,fp,he,hr,_,_,hsz,oF,Gd⟩=>⟨v,he,?_⟩
 simp only[R]at hr;obtain⟨rfl,_⟩:=hr;have hbl:Below W.heap.size W W':=⟨Gd.os,Gd.tape,Gd.output,hsz,oF⟩;have hlt:∀x∈before,x.block<W.heap.size:=λx hx=>hW.lt x hx
 have hsp:s.fn H (ds++[])={results:=[.lit (.bool true)],args:=ds}:=by rw[fX];exact aSd
 have hargs:∀sp:Nat->Bool,(∀p∈before,sp p.block=true)->DataW.TrodAll enc C.prog W' 0 sp true fn.params.toList args.toList (s.fn H (ds++[])).args before:=by intro sp h;rw[hsp];exact Jh hl hbl aSb hA hlt sp h
 have hone:(Value.bool true).resultList fn.resultTypes.size=[.bool true]:=by rw[jK];rfl
 have aM2:∀(b:Nat) (sp:Nat->Bool) (hd:Bool),DataW.TrodAll enc C.prog W' b sp hd fn.resultTypes.toList ((Value.bool true).resultList fn.resultTypes.size) (s.fn H (ds++[])).results []:=by intro b sp hd;rw[hsp,hone,jK];exact⟨[],[],shut_bool hb true,rfl,rfl⟩
 have aE8:∀sp:Nat->Bool,DataW.TrodVars enc C.prog W' sp s.vars (s.fn H (ds++[])).vars []:=by intro sp;rw[hsp,aM1];rfl
 have hold:∀p∈before,(λb=>decide (b<W.heap.size)) p.block=true:=λp hp=>by simpa using hlt p hp
 refine⟨ds,[],before,[],before,[],hW,aM2 _ _ _,hargs _ hold,aE8 _,World.keptBut_mono (λp hp=>hp.elim) (hbl.frame (λ_=>False)),λ_=> ?_⟩;refine⟨ok_one jK rfl (okWide_bool_mk hb true),_,_,([]++before)++[],⟨[]++before,[],trodAll_append (hargs _ (λ_ _=>rfl)) (aM2 _ _ _),aE8 _,rfl,?_,?_⟩,?_⟩
 .intro b off hp;have hp':MemPlace.cell b off∈before:=by simpa using hp
  rw[hbl.frozen (p:=⟨b,off,none⟩) (hlt _ hp')];exact hz b off hp'
 .intro ha;simpa using hn ha
 .intro p hp _;simpa using hp
def Td:Sh->AV->Prop
 | .int k,.int k' _=>k'=k
 | .bool,.bool _=>True
 | .str,.str _=>True
 |_,_=>False
def yL:List Sh->List AV->Prop
 |[],[]=>True
 |s::ss,x::xs=>Td s x/\yL ss xs
 |_,_=>False
theorem yM:∀{ss:List Sh} {xs:List AV},yL ss xs->xs.length=ss.length
 |[],[],_=>rfl
 |s::ss,x::xs,h=>by simp only[yL]at h;simp[yM h.2]
 |[],_::_,h=>h.elim
 |_::_,[],h=>h.elim
theorem GI:∀{ss tt:List Sh} {xs:List AV},yL (ss++tt) xs->yL ss (xs.take ss.length)/\yL tt (xs.drop ss.length)
 |[],_,xs,h=>by simpa [yL]using h
 |s::ss,tt,x::xs,h=>by simp only[eA,yL]at h;simp only[eN,eL,pL,yL];have:=GI h.2;exact⟨⟨h.1,this.1⟩,this.2⟩
 |_::_,_,[],h=>h.elim
def Dc(P:Program)(t:TypeId):Bool:=match P.underlying t with|some (.struct _)=>true|_=>false
def valOf(P:Program)(t:TypeId)(cs:List Value):Value:=if Dc P t then .agg cs.toArray else cs.headD (.tuple #[])
def eqT(P:Program):Nat->TypeId->Bool
 |0,_=>false
 |f+1,t=>match P.underlying t with
  |some .bool|some (.int _)|some .string=>P.cellsOf t == 1
  |some (.struct fs)=> !P.stoodInHeld t&&fs.toList.all λx=>x.name != "_" &&eqT P f x.type
  |_=>false
theorem Pv{P:Program}{w:World}{f:Nat}{t:TypeId}(he:eqT P f t=true)(xs:List Value)(o:Nat)(h:P.cellsOf t=0\/o+P.cellsOf t<=xs.length):
  (part t xs.toArray o).run P w= .ok (valOf P t ((xs.drop o).take (P.cellsOf t))) w:=by
 cases f with
 |zero=>simp[eqT]at he
 |succ f=>
  unfold eqT at he;have one:∀d,P.underlying t=some d->(d= .bool\/(∃k,d= .int k)\/d= .string)->P.cellsOf t=1->(part t xs.toArray o).run P w= .ok (valOf P t ((xs.drop o).take (P.cellsOf t))) w:=by
   intro d hu hd h1;have hlt:o<xs.length:=by omega
   have e:(xs.drop o).take 1=[xs[o]]:=by rw[mC hlt,eL,fW]
   rw[h1,e];rcases hd with rfl|⟨k,rfl⟩|rfl<;>simp[part,isAgg,gC hu,valOf,Dc,hu,hlt]
  split at he
  .rename_i hu;exact one _ hu (.inl rfl) (by simpa using he)
  .rename_i hu;exact one _ hu (.inr (.inl ⟨_,rfl⟩)) (by simpa using he)
  .rename_i hu;exact one _ hu (.inr (.inr rfl)) (by simpa using he)
  .rename_i fs hu;obtain⟨i,hi⟩:=info_of_underlying hu;have hl:xs.toArray.extract o (o+P.cellsOf t)=((xs.drop o).take (P.cellsOf t)).toArray:=by apply Array.toList_inj.1;rw[Array.toList_extract];simp[extract]
   simp[part,isAgg,gC hu,run_sizeOf w hi,valOf,Dc,hu,hl]
  .cases he
section
variable{P:Program}
theorem FO{f:Nat}(ih:∀t ss,X6 P f t=some ss->eqT P f t=true->∀c1 c2:List AV,yL ss c1->yL ss c2->∀d w,f<=d->∃b,(Op.equalIn d t (valOf P t (c1.map toV)) (valOf P t (c2.map toV))).run P w= .ok b w/\(b=true↔c1=c2))(c1 c2:List AV)(d:Nat)(w:World)(hd:f<=d):
  ∀(fs:List Field) (o:Nat) (rs:List Sh),shF (X6 P f) P fs o=some rs->(fs.all λx=>x.name != "_" &&eqT P f x.type)=true->yL rs (c1.drop o)->yL rs (c2.drop o)->
   ∃b,(Op.eqFields d (c1.map toV).toArray (c2.map toV).toArray fs).run P w= .ok b w/\(b=true↔c1.drop o=c2.drop o)
 |[],o,rs,h,_,h1,h2=>by simp only[shF,eE]at h;subst h;refine⟨true,by simp[Op.eqFields],?_⟩;have e1:=yM h1;have e2:=yM h2;simp only[eV,Ax]at e1 e2;simp[e1,e2]
 |x::fs,o,rs,h,ha,h1,h2=>by
  simp only[shF]at h;simp only[CC,eI]at ha;split at h
  .rename_i ho;split at h
   .rename_i a hsa;split at h
    .rename_i hl;split at h
     .rename_i b hb;obtain rfl:=cQ h;have s1:=GI h1;have s2:=GI h2;rw[AF]at s1 s2;have n1:=yM h1;have n2:=yM h2;simp only[AE,eR]at n1 n2;obtain⟨b1,hr1,hi1⟩:=ih _ _ hsa ha.1.2 _ _ s1.1 s2.1 d w hd;obtain⟨b2,hr2,hi2⟩:=FO ih c1 c2 d w hd fs (o+a.length) b hb ha.2 s1.2 s2.2;have p1:=Pv (w:=w) ha.1.2 (c1.map toV) o (by rw[mL];omega);have p2:=Pv (w:=w) ha.1.2 (c2.map toV) o (by rw[mL];omega);rw[<-hl,<-map_drop,<-map_take]at p1 p2;have gz:x.name≠ "_" :=by simpa using ha.1.1
      simp only[Op.eqFields,gz,ne_eq,not_false_eq_true,gE,ho,oS,p1,p2,lP,hr1];have aPa:c1.drop o=(c1.drop o).take a.length++c1.drop (o+a.length):=by rw[<-AF,oA]
      have aPb:c2.drop o=(c2.drop o).take a.length++c2.drop (o+a.length):=by rw[<-AF,oA]
      have key:c1.drop o=c2.drop o↔((c1.drop o).take a.length=(c2.drop o).take a.length/\c1.drop (o+a.length)=c2.drop (o+a.length)):=by
       constructor
       .intro e;rw[e];refine⟨rfl,?_⟩;rw[<-AF,<-AF,e]
       .intro e;rw[aPa,aPb,e.1,e.2]
      cases b1 with
      |false=>exact⟨false,by simp,by simp only[eS,false_iff];intro e;exact absurd (hi1.2 (key.1 e).1) (by simp)⟩
      |true=>exact⟨b2,by simpa using hr2,by rw[hi2,key];exact⟨λe=>⟨hi1.1 rfl,e⟩,λe=>e.2⟩⟩
     .cases h
    .cases h
   .cases h
  .cases h
theorem aAj:∀(f:Nat) (t:TypeId) (ss:List Sh),X6 P f t=some ss->eqT P f t=true->∀c1 c2:List AV,yL ss c1->yL ss c2->∀d w,f<=d->
  ∃b,(Op.equalIn d t (valOf P t (c1.map toV)) (valOf P t (c2.map toV))).run P w= .ok b w/\(b=true↔c1=c2)
 |0,_,_,h,_,_,_,_,_,_,_,_=>by simp[X6]at h
 |f+1,t,ss,h,he,c1,c2,h1,h2,d,w,hd=>by
  obtain⟨d,rfl⟩:∃d',d=d'+1:=⟨d-1,by omega⟩;unfold X6 at h;unfold eqT at he;have one:∀s:Sh,ss=[s]->∃x y,c1=[x]/\c2=[y]/\Td s x/\Td s y:=by
   rintro s rfl;match c1,c2,h1,h2 with
   |[x],[y],h1,h2=>exact⟨x,y,rfl,rfl,h1.1,h2.1⟩
   |[],_,h1,_=>exact h1.elim
   |_::_::_,_,h1,_=>exact h1.2.elim
   |[_],[],_,h2=>exact h2.elim
   |[_],_::_::_,_,h2=>exact h2.2.elim
  split at h
  .rename_i hu;obtain⟨x,y,rfl,rfl,l1,l2⟩:=one _ (cQ h).symm;cases x<;>simp only[Td]at l1;cases y<;>simp only[Td]at l2;rename_i p q;exact⟨p == q,by simp[valOf,Dc,hu,toV,Go.run_equalIn_bool w d t p q hu],by simp⟩
  .rename_i k hu;obtain⟨x,y,rfl,rfl,l1,l2⟩:=one _ (cQ h).symm;cases x<;>simp only[Td]at l1;cases y<;>simp only[Td]at l2;rename_i k1 p k2 q;have e1:k1=k:=l1;have e2:k2=k:=l2;subst e1;subst e2;exact⟨p == q,by simp[valOf,Dc,hu,toV,run_equalIn_int w d t _ _ p q hu],by simp⟩
  .rename_i hu;obtain⟨x,y,rfl,rfl,l1,l2⟩:=one _ (cQ h).symm;cases x<;>simp only[Td]at l1;cases y<;>simp only[Td]at l2;rename_i p q;refine⟨p == q,?_,by simp⟩;have:=run_equalIn_string w d t ⟨p.toArray⟩ ⟨q.toArray⟩ hu;rw[ByteArray.toList_eq,ByteArray.toList_eq]at this;simpa [valOf,Dc,hu,toV]using this
  .rename_i e hu;rw[hu]at he;cases he
  .rename_i fs hu;rw[hu]at he;simp only[eI,FF]at he;split at h
   .rename_i r hr;split at h
    .obtain rfl:=cQ h;have hf:P.fieldsOf t=fs:=by simp[Program.fieldsOf,hu]
     obtain⟨b,hb,hi⟩:=FO (λt ss a b c1 c2 e1 e2 d w hd=>aAj f t ss a b c1 c2 e1 e2 d w hd) c1 c2 d w (by omega) fs.toList 0 _ hr he.2 (by simpa using h1) (by simpa using h2);refine⟨b,?_,by simpa using hi⟩;have:=run_equalIn_struct w d t (c1.map toV).toArray (c2.map toV).toArray (by rw[hf];exact hu) he.1;rw[hf]at this;simpa [valOf,Dc,hu]using this.trans hb
    .cases h
   .cases h
  .cases h
theorem aPc{t:TypeId}{f:Nat}{ss:List Sh}(hf:f<=10000)(hs:X6 P f t=some ss)(he:eqT P f t=true)(hst:Dc P t=true)(hg:P.eqGuardType P.depth t=false){c1 c2:List AV}(h1:yL ss c1)(h2:yL ss c2){b:Bool}(hb:b=true↔c1=c2):
  EqA P t c1 c2 b:=by
 intro op x y w hop;obtain⟨b',hb',hi⟩:=aAj f t ss hs he c1 c2 h1 h2 10000 w hf;have e:b'=b:=by rw[<-hb]at hi;cases b<;>cases b'<;>simp_all
 subst e;simp only[valOf,hst,gE]at hb';rcases hop with rfl|rfl
 .simp only[oS,run_eqGuard_agg w _ t x y _ _ hg,lP,run_eql_struct,hb',gE]
 .simp only[oS,run_eqGuard_agg w _ t x y _ _ hg,lP,run_neq_struct,hb'];rfl
end
def Nx(m:Nat)(P:Program)[aB P](o:Oper)(s:AS)(X:AS->Prop):Prop:=sM P o s X\/((m=1/\(Kb P o s X\/Je P o s X))\/(m=2/\VP P o s X))
theorem go_seq{P:Program}[aB P]{x y:Code}{s:AS}{Q:Exit->AS->Prop}(h:vE P x s (DZ (λs'=>vE P y s' Q) Q)):vE P (.seq x y) s Q:=by unfold vE;exact h
theorem go_then{K:AS->Prop}{Q:Exit->AS->Prop}{s:AS}(h:K s):DZ K Q .normal s:=by unfold DZ;exact h
theorem go_cons{P:Program}[aB P]{all r:List Oper}{o:Oper}{s:AS}{K:AS->Prop}(hg:o.guard=none)(h:Nx 1 P o s λs'=>lD P all r s' K):lD P all (o::r) s K:=by
 simp only[lD,hg];rcases h with h|h
 .exact .inl h
 .rcases h with h|h
  .exact .inr h.2
  .exact absurd h.1 (by decide)
theorem aGf{P:Program}[aB P]{o:Oper}{s:AS}{X:AS->Prop}(h:yx P o s X):Nx 1 P o s X:= .inr (.inl ⟨rfl,.inr ⟨s,lC.refl s,h⟩⟩)
theorem go_take{P:Program}[aB P]{all r:List Oper}{o:Oper}{s:AS}{K:AS->Prop}{j:Nat}{want:Bool}(hg:o.guard=some (j,want))(hb:sQ all s j want= .bool want)(h:Nx 0 P o s λs'=>lD P all r s' K):lD P all (o::r) s K:=by
 simp only[lD,hg,hb];rcases h with h|h
 .exact ⟨λ_=> .inl h,λhn=>absurd rfl hn⟩
 .rcases h with h|h<;>exact absurd h.1 (by decide)
theorem go_skip{P:Program}[aB P]{all r:List Oper}{o:Oper}{s s':AS}{K:AS->Prop}{j:Nat}{want:Bool}(hg:o.guard=some (j,want))(hb:sQ all s j want= .bool (!want))(h:lD P all r s' K)(hs:∀K':AS->Prop,K' s'->K' (s.put o.dst (.gM [])):=by intro K' hK';(try simp only[AS.put,cW,cU]);exact hK'):lD P all (o::r) s K:=
 aB1 hg hb (hs (λs=>lD P all r s K) h)
theorem go_drawn{P:Program}[aB P]{id:Nat}{l:List Oper}{s:AS}{Q:Exit->AS->Prop}{fl:List (Nat×Nat×List AV)}{b:List aN}(hf:SX P 0 s.o.length l=fl)(hbb:s.o++(fl.map λq=>(⟨false,false,q.2.2.length,0,[]⟩:aN))=b)(hfw:Pq l=true)(hdst:distinct l=true)(hfl:jd fl b.length=true)(hb:tO Gz true fl b=b)(hb0:tO Gz false fl b=s.o++(fl.map (·.2.2.length)).map λn=>⟨true,false,n,0,[]⟩)
  (h:nQ P l s.t b fl (Q .normal) 0 l [] []):vE P (.region id l.toArray true) s Q:=aB0 hfw hdst hfl hb hb0 h
section
variable{P:Program}[aB P]{l:List Oper}{t:List AV}{b:List aN}{fl:List (Nat × Nat × List AV)}{K:AS -> Prop}{i:Nat}{op:Oper}{r:List Oper}{vs:List AV}{h:List (Nat × List aN)}{pr:List Nat}{m:List AV}{om:List aN}
theorem go_draw(hg:op.guard=none)(hnf:(fl.all λq=>decide (q.1≠i))=true)(hpr:pre op=pr)(hlt:(pr.all λe=>decide (e<i))=true)(hm:qG i pr 0 l vs t=m)(ho:tO (wM pr) true fl (oJ (wM pr) b h)=om)(hq:nW op.op ⟨m,om⟩=true)
  (ha:Nx 2 P op ⟨m,om⟩ λs'=>(FN pr h=true\/s'.o.length=om.length)/\nQ P l t b fl K (i+1) r (vs++[GG op s']) (if s'.o.length=om.length then h else(i,tO Gz true fl s'.o)::h)):nQ P l t b fl K i (op::r) vs h:=by
 refine Kj hnf hpr hlt hm ho hq ?_;unfold sV;simp only[hg];rcases ha with ha|ha
 .exact .inl ha
 .rcases ha with ha|ha
  .exact absurd ha.1 (by decide)
  .exact .inr ha.2
theorem go_drawT{j:Nat}{want:Bool}(hg:op.guard=some (j,want))(hnf:(fl.all λq=>decide (q.1≠i))=true)(hpr:pre op=pr)(hlt:(pr.all λe=>decide (e<i))=true)(hm:qG i pr 0 l vs t=m)(ho:tO (wM pr) true fl (oJ (wM pr) b h)=om)(hq:nW op.op ⟨m,om⟩=true)(hb:sQ l ⟨m,om⟩ j want= .bool want)
  (ha:Nx 2 P op ⟨m,om⟩ λs'=>(FN pr h=true\/s'.o.length=om.length)/\nQ P l t b fl K (i+1) r (vs++[GG op s']) (if s'.o.length=om.length then h else(i,tO Gz true fl s'.o)::h)):nQ P l t b fl K i (op::r) vs h:=by
 refine Kj hnf hpr hlt hm ho hq ?_;unfold sV;simp only[hg,hb];rcases ha with ha|ha
 .exact ⟨λ_=> .inl ha,λhn=>absurd rfl hn⟩
 .rcases ha with ha|ha
  .exact absurd ha.1 (by decide)
  .exact ⟨λ_=> .inr ha.2,λhn=>absurd rfl hn⟩
theorem go_drawS{j:Nat}{want:Bool}(hg:op.guard=some (j,want))(hnf:(fl.all λq=>decide (q.1≠i))=true)(hpr:pre op=pr)(hlt:(pr.all λe=>decide (e<i))=true)(hm:qG i pr 0 l vs t=m)(ho:tO (wM pr) true fl (oJ (wM pr) b h)=om)(hds:(match op.dst with|some d=>decide (d<m.length)|none=>false)=true)(hq:nW op.op ⟨m,om⟩=true)(hb:sQ l ⟨m,om⟩ j want= .bool (!want))
  (ha:nQ P l t b fl K (i+1) r (vs++[.gM []]) h):nQ P l t b fl K i (op::r) vs h:=by
 refine Kj hnf hpr hlt hm ho hq ?_;unfold sV;simp only[hg,hb];refine⟨λhn=> ?_,λ_=> ?_⟩
 .cases want<;>cases hn
 .rw [put_eq];refine⟨.inr rfl,?_⟩;rw[eK rfl];have:GG op ⟨uO m op.dst (.gM []),om⟩= .gM []:=by
   unfold GG uO;cases hd:op.dst with
   |none=>rw[hd]at hds;cases hds
   |some d=>
    rw[hd]at hds;have hdl:d<m.length:=by simpa using hds
    dsimp only;rw[lA,mN hdl];rfl
  rw[this];exact ha
theorem go_barC{z:List Nat}{s1:AS}(hr:yH l i=true)(hz:uT l i=z)(hk:K s1)(ha:Ee (λz=>Ap P l (λs'=>s'=s1) (left ((range l.length).map (jz i z))) ((range l.length).map (jz i z)) ⟨iQ (jz i z) 0 l vs t,tO (jz i z) false fl (oJ (jz i z) b h)⟩) [] z:=by
  repeat' (first|refine st ?_|(refine nx ?_;refine so ?_)|refine sx ?_ ?_|refine sy ?_ ?_|fail)
  all_goals rfl):nQ P l t b fl K i (op::r) vs h:=EU hr hz ha hk
theorem go_float{q:Nat×Nat×List AV}{T:TypeId}{vs':List AV}(hq:fl.find? (λq=>q.1 == i)=some q)(hg:op.guard=none)(hT:op.op= .alloc T)(hz:qC P T=some q.2.2)(hlt:((pre op).all λe=>decide (e<i))=true)(hv:vs++[.ptr q.2.1 1 0 0]=vs')(hd:nQ P l t b fl K (i+1) r vs' h):nQ P l t b fl K i (op::r) vs h:=by subst hv;exact jf hq hg hT hz hlt hd
theorem go_next{vs':List AV}{h':List (Nat×List aN)}{c:Prop}(hc:c)(hv:vs=vs')(hh:h=h')(hd:nQ P l t b fl K i r vs' h'):c/\nQ P l t b fl K i r vs h:=by subst hv;subst hh;exact⟨hc,hd⟩
theorem kB{F:List Nat->Prop}{acc:List Nat}(h:Ee F acc []):Ee F acc []:=h
theorem kE{n:Nat}{d:List Bool}{s:AS}(h:Ap P l K n d s):Ap P l K n d s:=h
theorem kF{n:Nat}{d:List Bool}{s:AS}{j:Nat}(h:wS P l K n d s [j]):wS P l K n d s [j]:=h
theorem kD(hd:nQ P l t b fl K i r vs h):nQ P l t b fl K i r vs h:=hd
theorem kN{c:Prop}(hd:c/\nQ P l t b fl K i r vs h):c/\nQ P l t b fl K i r vs h:=hd
end
attribute [irreducible] Nx
theorem kL{P:Program}[aB P]{all l:List Oper}{s:AS}{K:AS->Prop}(h:lD P all l s K):lD P all l s K:=h
theorem kA{P:Program}[aB P]{c:Code}{s:AS}{Q:Exit->AS->Prop}(h:vE P c s Q):vE P c s Q:=h
theorem kT{K:AS->Prop}{Q:Exit->AS->Prop}{e:Exit}{s:AS}(h:DZ K Q e s):DZ K Q e s:=h
theorem kI{id:Nat}{Q:Exit->AS->Prop}{e:Exit}{s:AS}(h:AIn id Q e s):AIn id Q e s:=h
structure Hid(q:Prop): Prop where
  out:q
theorem st{p q:Prop}(h:q)(e:Hid q->p:=by
 intro h
 (first
  |(refine kL ?_;first
    |refine dz ?_
    |refine go_cons rfl ?_
    |(refine go_take rfl ?_ ?_;(focus (simp[sQ,W];done)))
    |(refine go_skip rfl ?_ ?_;(focus (simp[sQ,W];done))))
  |(refine kA ?_;first
    |refine go_seq ?_|refine Su ?_|refine X5 ?_|refine Xg ?_|refine ek ?_|refine eu ?_|refine go_drawn (by simp;rfl) (by simp;rfl) (by decide+kernel) (by decide) (by first|rfl|(simp[jd];done)) (by simp) (by simp) ?_)
  |(refine kT ?_;first|refine go_then ?_|refine Lp ?_|refine Jf ?_)
  |(refine kI ?_;first|refine Jg ?_|refine Sw ?_|refine Xh ?_|refine Xi (by decide) ?_)
  |(refine kN ?_;refine go_next (by simp;done) (by simp;rfl) (by simp;rfl) ?_)
  |(refine kD ?_;first
    |refine Xx (by simp;rfl) (by simp;rfl) ?_
    |refine go_float rfl rfl rfl (by simp;done) (by first|rfl|(simp[Region.binds];done)) (by simp;rfl) ?_
    |(refine go_draw rfl (by first|rfl|(simp;done)) (by simp[Region.binds];rfl) (by decide) (by simp[Region.binds];rfl) (by simp;rfl) ?_ ?_;(focus (first|rfl|(simp[nW];done))))
    |(refine go_drawT rfl (by first|rfl|(simp;done)) (by simp[Region.binds];rfl) (by decide) (by simp[Region.binds];rfl) (by simp;rfl) ?_ ?_ ?_;(focus (first|rfl|(simp[nW];done)));(focus (simp[sQ,W];done)))
    |(refine go_drawS rfl (by first|rfl|(simp;done)) (by simp[Region.binds];rfl) (by decide) (by simp[Region.binds];rfl) (by simp;rfl) ?_ ?_ ?_ ?_;(focus (first|rfl|(simp;done)));(focus (first|rfl|(simp[nW];done)));(focus (simp[sQ,W];done)))
    |refine Xy (by decide+kernel) (by simp;rfl) (by simp;rfl) ?_
    |refine go_barC (by decide+kernel) (by simp[uT,reach,nI,Region.binds,Dd];rfl) ?_
    |refine NQ (by decide+kernel) (by simp[uT,reach,nI,Region.binds,Dd];rfl) ?_)
  |(refine kB ?_;refine go_sub (by simp;rfl) (by simp;rfl) (by simp;rfl) (by simp;rfl) ?_)
  |(refine kE ?_;first|refine go_end ?_|refine go_all (by simp[Region.binds];rfl) ?_)
  |(refine kF ?_;refine go_one rfl (by simp only[cW,cU];rfl) ?_))
 repeat (first
  |(refine kL ?_;first
    |refine dz ?_
    |refine go_cons rfl ?_
    |(refine go_take rfl ?_ ?_;(focus (simp[sQ,W];done)))
    |(refine go_skip rfl ?_ ?_;(focus (simp[sQ,W];done))))
  |(refine kA ?_;first
    |refine go_seq ?_|refine Su ?_|refine X5 ?_|refine Xg ?_|refine ek ?_|refine eu ?_|refine go_drawn (by simp;rfl) (by simp;rfl) (by decide+kernel) (by decide) (by first|rfl|(simp[jd];done)) (by simp) (by simp) ?_)
  |(refine kT ?_;first|refine go_then ?_|refine Lp ?_|refine Jf ?_)
  |(refine kI ?_;first|refine Jg ?_|refine Sw ?_|refine Xh ?_|refine Xi (by decide) ?_)
  |(refine kN ?_;refine go_next (by simp;done) (by simp;rfl) (by simp;rfl) ?_)
  |(refine kD ?_;first
    |refine Xx (by simp;rfl) (by simp;rfl) ?_
    |refine go_float rfl rfl rfl (by simp;done) (by first|rfl|(simp[Region.binds];done)) (by simp;rfl) ?_
    |(refine go_draw rfl (by first|rfl|(simp;done)) (by simp[Region.binds];rfl) (by decide) (by simp[Region.binds];rfl) (by simp;rfl) ?_ ?_;(focus (first|rfl|(simp[nW];done))))
    |(refine go_drawT rfl (by first|rfl|(simp;done)) (by simp[Region.binds];rfl) (by decide) (by simp[Region.binds];rfl) (by simp;rfl) ?_ ?_ ?_;(focus (first|rfl|(simp[nW];done)));(focus (simp[sQ,W];done)))
    |(refine go_drawS rfl (by first|rfl|(simp;done)) (by simp[Region.binds];rfl) (by decide) (by simp[Region.binds];rfl) (by simp;rfl) ?_ ?_ ?_ ?_;(focus (first|rfl|(simp;done)));(focus (first|rfl|(simp[nW];done)));(focus (simp[sQ,W];done)))
    |refine Xy (by decide+kernel) (by simp;rfl) (by simp;rfl) ?_
    |refine go_barC (by decide+kernel) (by simp[uT,reach,nI,Region.binds,Dd];rfl) ?_
    |refine NQ (by decide+kernel) (by simp[uT,reach,nI,Region.binds,Dd];rfl) ?_)
  |(refine kB ?_;refine go_sub (by simp;rfl) (by simp;rfl) (by simp;rfl) (by simp;rfl) ?_)
  |(refine kE ?_;first|refine go_end ?_|refine go_all (by simp[Region.binds];rfl) ?_)
  |(refine kF ?_;refine go_one rfl (by simp only[cW,cU];rfl) ?_))
 exact h.out):p:=e ⟨h⟩
theorem so{P:Program}[aB P]{o:Oper}{s s':AS}{X:AS -> Prop}{m:Nat}(h:X s')(e:∀ K:AS -> Prop, K s' -> sM P o s K := by
  intro K hK;first
    | (simp[-Bool.exists_bool, sM, W]
       (try simp (disch := omega) only[wrap64])
       first
         | exact hK
         | (refine⟨_, by assumption, ?_⟩; (try simp only[qW, mK, Kg, Bj, IP, zI, Lr, Bi, fX, eM, eA, eN, eV, sA, hY, Nat.reduceAdd]); exact hK)
         | (refine⟨?_, hK⟩; omega)
         | (refine⟨?_, ?_, hK⟩ <;> omega)
         | (refine⟨?_, ?_, ?_, hK⟩ <;> omega))
    | (simp[-Bool.exists_bool, sM, V]
       (try simp (disch := omega) only[wrap64])
       first
         | exact hK
         | (refine⟨_, by assumption, ?_⟩; (try simp only[qW, mK, Kg, Bj, IP, zI, Lr, Bi, fX, eM, eA, eN, eV, sA, hY, Nat.reduceAdd]); exact hK)
         | (refine⟨?_, hK⟩; omega)
         | (refine⟨?_, ?_, hK⟩ <;> omega)
         | (refine⟨?_, ?_, ?_, hK⟩ <;> omega))): Nx m P o s X := by
  unfold Nx; exact .inl (e X h)
theorem sk{P:Program}[aB P]{o:Oper}{s s':AS}{X:AS->Prop}{m:Nat}{H:Prop}(e:∀K:AS->Prop,H->K s'->sM P o s K:=by
 intro K hc hK;first
  |(simp[-Bool.exists_bool,sM,W];refine⟨_,hc,?_⟩;(try simp only[qW,mK,Kg,Bj,IP,zI,Lr,Bi,fX,eM,eA,eN,eV,sA,hY,Nat.reduceAdd]);exact hK)
  |(simp[-Bool.exists_bool,sM,V];refine⟨_,hc,?_⟩;(try simp only[qW,mK,Kg,Bj,IP,zI,Lr,Bi,fX,eM,eA,eN,eV,sA,hY,Nat.reduceAdd]);exact hK))(hc:H)(h:X s'):Nx m P o s X:=by
 unfold Nx;exact .inl (e X hc h)
theorem sm{P:Program}[aB P]{o:Oper}{s s':AS}{X:AS->Prop}{H:Prop}(e:∀K:AS->Prop,H->K s'->Kb P o s K:=by
 intro K hc hK;refine aE1 ?_;simp[-Bool.exists_bool,Ll,W];refine⟨_,_,hc,?_⟩;simp[-Bool.exists_bool,AS.QW,Qk,aN.aKd,aN.forget,CS,DY,Go.Aw.mt,Go.Aw.mtc,W];exact hK)(hc:H)(h:X s'):Nx 1 P o s X:=by
 unfold Nx;exact .inr (.inl ⟨rfl,.inl (e X hc h)⟩)
theorem sg{P:Program}[aB P]{o:Oper}{s s':AS}{X:AS->Prop}{H:Prop}(e:∀K:AS->Prop,H->K s'->Kb P o s K:=by
 intro K hc hK;refine aOi ?_;simp[-Bool.exists_bool,dx,W];refine⟨_,_,hc,?_⟩;simp[-Bool.exists_bool,takes,handed,aKf,WZ,rowOf,mE,kK,Sg,Si,jO,nK,res,vD,AV.isObj,AS.given,JX,DF,FK,aN.X3,aN.forget,rt,xO,mX,iU,AV.kept,W];exact hK)(hc:H)(h:X s'):Nx 1 P o s X:=by
 unfold Nx;exact .inr (.inl ⟨rfl,.inl (e X hc h)⟩)
theorem sz{P:Program}[aB P]{o:Oper}{s s':AS}{X:AS->Prop}(h:X s')(e:∀K:AS->Prop,K s'->Kb P o s K:=by
 intro K hK;refine aOj ?_;simp[-Bool.exists_bool,aOe,sM,mX,xO,rt,aN.kill,W];exact hK):Nx 1 P o s X:=by
 unfold Nx;exact .inr (.inl ⟨rfl,.inl (e X h)⟩)
theorem sb{P:Program}[aB P]{o:Oper}{s s':AS}{X:AS->Prop}(h:X s')(e:∀K:AS->Prop,K s'->Kb P o s K:=by
 intro K hK;refine aE1 ?_;simp[-Bool.exists_bool,Ll,AS.made,W];first
  |exact hK
  |(refine⟨?_,hK⟩;omega)):Nx 1 P o s X:=by
 unfold Nx;exact .inr (.inl ⟨rfl,.inl (e X h)⟩)
theorem se{P:Program}[aB P]{o:Oper}{s s':AS}{X:AS->Prop}(h:X s')(e:∀K:AS->Prop,K s'->VP P o s K:=by
 intro K hK;simp[VP];exact hK):Nx 2 P o s X:=by
 unfold Nx;exact .inr (.inr ⟨rfl,e X h⟩)
theorem sc{P:Program}[aB P]{c:Operand}{x y:Code}{s:AS}{Q:Exit->AS->Prop}{b:Bool}{p1 p2:Prop}(h1:p1->vE P x s Q)(h2:p2->vE P y s Q)(hc:s.ev c= .bool b:=by rfl)
  (e1:b=true->p1:=by
   intro h;first|(refine(?_:False);simp at h;done)|(refine(?_:False);(try simp at h);omega;done)|(simp at h;exact h)|exact h)
  (e2:b=false->p2:=by
   intro h;first|(refine(?_:False);simp at h;done)|(refine(?_:False);(try simp at h);omega;done)|(simp at h;exact h)|exact h):vE P (.cond c x y) s Q:=
 Sv hc (λh=>h1 (e1 h)) (λh=>h2 (e2 h))
theorem sp{P:Program}[aB P]{all r:List Oper}{o:Oper}{s:AS}{K:AS->Prop}{j d:Nat}{want b:Bool}{s1 s2:AS}{p1 p2:Prop}(h1:p1->lD P all (o::r) s1 K)(h2:p2->lD P all (o::r) s2 K)(hg:o.guard=some (j,want):=by rfl)(hd:(all[j]?).bind (·.dst)=some d:=by rfl)(hb:s.t[d]? =some (.bool b):=by rfl)(hx:(b=true)=(b=true):=by(fail_if_success (with_reducible refine Eq.refl (true=true)));(fail_if_success (with_reducible refine Eq.refl (false=true)));rfl)
  (e1:∀K':AS->Prop,K' s1->K' ⟨s.t.set d (.bool true),s.o⟩:=by intro K' hK';(try simp only[cW,cU]);exact hK')
  (e2:∀K':AS->Prop,K' s2->K' ⟨s.t.set d (.bool false),s.o⟩:=by intro K' hK';(try simp only[cW,cU]);exact hK')
  (e3:b=true->p1:=by
   intro h;first|(refine(?_:False);simp at h;done)|(refine(?_:False);(try simp at h);omega;done)|(simp at h;exact h)|exact h)
  (e4:b=false->p2:=by
   intro h;first|(refine(?_:False);simp at h;done)|(refine(?_:False);(try simp at h);omega;done)|(simp at h;exact h)|exact h):lD P all (o::r) s K:=
 zu hg hd hb (λh=>e1 (λs=>lD P all (o::r) s K) (h1 (e3 h))) (λh=>e2 (λs=>lD P all (o::r) s K) (h2 (e4 h)))
theorem nx{m:Nat}{P:Program}[aB P]{o:Oper}{s:AS}{X:AS->Prop}(h:Nx m P o s X):Nx m P o s X:=h
theorem cx{P:Program}[aB P]{c:Operand}{x y:Code}{s:AS}{Q:Exit->AS->Prop}(h:vE P (.cond c x y) s Q):vE P (.cond c x y) s Q:=h
theorem lx{P:Program}[aB P]{all r:List Oper}{o:Oper}{s:AS}{K:AS->Prop}(h:lD P all (o::r) s K):lD P all (o::r) s K:=h
theorem bM{P:Program}[aB P](hm:P.follows .mixedOrders=true){f:FuncId}{fn:Func}{c:Code}(hf:P.funcs[f]? =some fn){n:Nat}(hn:fn.ntmps=n){args t:List AV}{rr:AV}
  (h:vE P c ⟨t,[]⟩ (λe s=>(e= .normal\/e= .ret)/\aP P fn s rr)) (hb:fn.body=some c:=by rfl)
  (ht:args++replicate (n-args.length) .undef=t:=by
   simp only[eN,eV,Nat.reduceSub,Nat.reduceAdd,pD,Bm,eA,eM];rfl):Ok P f args rr:=by
 subst ht;subst hn;exact Xf hm hf hb h
theorem zx{P:Program}[aB P](hm:P.follows .mixedOrders=true){f:FuncId}{fn:Func}{c:Code}(hf:P.funcs[f]? =some fn){n:Nat}(hn:fn.ntmps=n){x x':AV}{rest t:List AV}{o:List aN}{p rr:AV}
  (h:vE P c ⟨t,o⟩ (λe s=>(e= .normal\/e= .ret)/\EW P fn s p x' rr)) (hb:fn.body=some c:=by rfl)
  (aO0:Ef (dF 0 0 x).2.length (dF 0 0 x).1=true:=by simp[Ef,NR])
  (ho:(dF 0 0 x).2=o:=by
   simp only[qW,mK,Kg,Bj,IP,zI,Lr,Bi,sA,hY,Nat.reduceAdd,eA,eM,fX];rfl)
  (hp:(dF 0 0 x).1=p:=by
   simp only[qW,mK,Kg,Bj,IP,zI,Lr,Bi,sA,hY,Nat.reduceAdd,eA,eM,fX];rfl)
  (ht:(p::rest)++replicate (n-(rest.length+1)) .undef=t:=by
   simp only[eN,eV,Nat.reduceSub,Nat.reduceAdd,pD,Bm,eA,eM];rfl):OkM P f x x' rest rr:=by
 subst ht;subst hn;subst hp;subst ho;exact zw hm hf hb aO0 h
attribute [simp] bytesOf
theorem sT{P:Program}[aB P]{c:Operand}{x y:Code}{s:AS}{Q:Exit->AS->Prop}{b:Bool}(h1:vE P x s Q)(hc:s.ev c= .bool b:=by rfl)
  (e2:b=false->False:=by intro h;first|(simp at h;done)|((try simp at h);omega;done)):vE P (.cond c x y) s Q:=
 Sv hc (λ_=>h1) (λh=>(e2 h).elim)
theorem sF{P:Program}[aB P]{c:Operand}{x y:Code}{s:AS}{Q:Exit->AS->Prop}{b:Bool}(h2:vE P y s Q)(hc:s.ev c= .bool b:=by rfl)
  (e1:b=true->False:=by intro h;first|(simp at h;done)|((try simp at h);omega;done)):vE P (.cond c x y) s Q:=
 Sv hc (λh=>(e1 h).elim) (λ_=>h2)
theorem wl{p q:Prop}(h:q)(e:Hid q->p:=by
 intro h;first|refine st ?_|(refine nx ?_;refine so ?_)|(refine cx ?_;first|refine sT ?_|refine sF ?_|(refine sc (λhc=> ?_) (λhc=> ?_)<;>try exact hc.elim))|(refine lx ?_;refine sp (λhc=> ?_) (λhc=> ?_)<;>try exact hc.elim)|refine sx ?_ ?_|refine sy ?_ ?_|fail
 repeat' first|refine st ?_|(refine nx ?_;refine so ?_)|(refine cx ?_;first|refine sT ?_|refine sF ?_|(refine sc (λhc=> ?_) (λhc=> ?_)<;>try exact hc.elim))|(refine lx ?_;refine sp (λhc=> ?_) (λhc=> ?_)<;>try exact hc.elim)|refine sx ?_ ?_|refine sy ?_ ?_|fail
 all_goals exact h.out):p:=e ⟨h⟩
theorem we{p q:Prop}(h:q)(e:Hid q->p:=by
 intro h;first|refine st ?_|(refine nx ?_;first|refine se ?_|refine so ?_)|(refine cx ?_;first|refine sT ?_|refine sF ?_|(refine sc (λhc=> ?_) (λhc=> ?_)<;>try exact hc.elim))|(refine lx ?_;refine sp (λhc=> ?_) (λhc=> ?_)<;>try exact hc.elim)|refine sx ?_ ?_|refine sy ?_ ?_|fail
 repeat' first|refine st ?_|(refine nx ?_;first|refine se ?_|refine so ?_)|(refine cx ?_;first|refine sT ?_|refine sF ?_|(refine sc (λhc=> ?_) (λhc=> ?_)<;>try exact hc.elim))|(refine lx ?_;refine sp (λhc=> ?_) (λhc=> ?_)<;>try exact hc.elim)|refine sx ?_ ?_|refine sy ?_ ?_|fail
 all_goals exact h.out):p:=e ⟨h⟩
theorem sq{p p1 p2 q1 q2:Prop}(h1:p1->q1)(h2:p2->q2)(e:Hid (p1->q1)->Hid (p2->q2)->p:=by
 intro h1 h2;first
  |(refine cx ?_;refine sc h1.out h2.out)
  |(refine lx ?_;refine sp h1.out h2.out)
  |refine sx (h1.out trivial) (h2.out trivial)
  |refine sy (h1.out trivial) (h2.out trivial)
  |fail):p:=e ⟨h1⟩ ⟨h2⟩
theorem wg{p q:Prop}(h:q)(e:Hid q->p:=by
 intro h;first|refine st ?_|(refine nx ?_;refine so ?_)|(refine cx ?_;first|refine sT ?_|refine sF ?_)|fail
 repeat first|refine st ?_|(refine nx ?_;refine so ?_)|(refine cx ?_;first|refine sT ?_|refine sF ?_)|fail
 exact h.out):p:=e ⟨h⟩
theorem wf{p q:Prop}(h:q)(e:Hid q->p:=by
 intro h;first|refine st ?_|(refine nx ?_;first|refine se ?_|refine so ?_)|(refine cx ?_;first|refine sT ?_|refine sF ?_)|fail
 repeat first|refine st ?_|(refine nx ?_;first|refine se ?_|refine so ?_)|(refine cx ?_;first|refine sT ?_|refine sF ?_)|fail
 exact h.out):p:=e ⟨h⟩
theorem gV{p q:Prop}(h:q)(e:Hid q->True->p:=by
 intro h W;first|refine st ?_|(refine nx ?_;refine so ?_)|(refine cx ?_;first|refine sT ?_|refine sF ?_|(refine sc (λhc=> ?_) (λhc=> ?_)<;>try exact hc.elim))|(refine lx ?_;refine sp (λhc=> ?_) (λhc=> ?_)<;>try exact hc.elim)|refine sx ?_ ?_|refine sy ?_ ?_|fail
 repeat' first|refine st ?_|(refine nx ?_;refine so ?_)|(refine cx ?_;first|refine sT ?_|refine sF ?_|(refine sc (λhc=> ?_) (λhc=> ?_)<;>try exact hc.elim))|(refine lx ?_;refine sp (λhc=> ?_) (λhc=> ?_)<;>try exact hc.elim)|refine sx ?_ ?_|refine sy ?_ ?_|fail
 all_goals exact h.out):p:=e ⟨h⟩ trivial
theorem aZ{p q:Prop}(h:q)(e:Hid q->True->p:=by
 intro h W;first|refine st ?_|(refine nx ?_;first|refine se ?_|refine so ?_)|(refine cx ?_;first|refine sT ?_|refine sF ?_|(refine sc (λhc=> ?_) (λhc=> ?_)<;>try exact hc.elim))|(refine lx ?_;refine sp (λhc=> ?_) (λhc=> ?_)<;>try exact hc.elim)|refine sx ?_ ?_|refine sy ?_ ?_|fail
 repeat' first|refine st ?_|(refine nx ?_;first|refine se ?_|refine so ?_)|(refine cx ?_;first|refine sT ?_|refine sF ?_|(refine sc (λhc=> ?_) (λhc=> ?_)<;>try exact hc.elim))|(refine lx ?_;refine sp (λhc=> ?_) (λhc=> ?_)<;>try exact hc.elim)|refine sx ?_ ?_|refine sy ?_ ?_|fail
 all_goals exact h.out):p:=e ⟨h⟩ trivial
theorem aR{q:Prop}(h:q):(Exit.ret= .normal\/Exit.ret= .ret)/\q:=⟨.inr rfl,h⟩
theorem aF{P:Program}{fn:Func}{s:AS}{r:AV}{x:Array ResultVar}(hr:fn.results=x)(e:fn.results=x->aP P fn s r:=by intro hr;simp[aP,hr]):(Exit.ret= .normal\/Exit.ret= .ret)/\aP P fn s r:=⟨.inr rfl,e hr⟩
section
variable{P:Program}{p q:List Nat}{l:List Oper}{Q:Exit -> Act -> World -> Prop}
end
theorem aIp{t:List AV}{o:List aN}{s':AS}(i bU:Nat){ob:aN}(vZ:AV.isObj o i bU=some ob)(Gh:ob.box=false)(e:(⟨t,o⟩:AS).frozen i bU ob=s'):lC ⟨t,o⟩ s':=by rw[<-e];exact λ_ _ B a w r=>X4 vZ Gh r
theorem aDa{t t':List AV}{o o':List aN}(i bU m:Nat){ob:aN}(vZ:AV.isObj o i bU=some ob)(Gh:ob.box=false)(ho:(Sk i bU (.sl .view ob.n (mX (λ_=>some .view) false ob.dO)) 0 o).take m=o')
  (h:wk (Sj i bU (.sl .view ob.n (mX (λ_=>some .view) false ob.dO)) t) t') (hc:eP m t'=true) (hb:dB m o'=true):lC ⟨t,o⟩ ⟨t',o'⟩:=
 lC.trans (aIp i bU vZ Gh rfl) (aT m ho h hc hb)
section
variable{P:Program}[aB P]{l:List Oper}{K:AS -> Prop}{n:Nat}{d d':List Bool}{s s':AS}{dst:Option Tmp}{ty:TypeId}{pos:String}{after:Array Edge}{x y:Operand}
end
def AS.yO(P:Program)(s:AS):List ResultVar->Option (Nat×List AV)
 | .cell t ty::xs=>match s.t.getD t .undef with
  | .ptr i bU idx off=>match s.at i bU idx with
   |some (ob,e)=>match kJ P ty with
    |some n=>if ob.box=true/\off+n<=e.length then(match s.wY P xs with
     |some ys=>some (i,.agg ((e.drop off).take n)::ys)
     |none=>none)else none
    |none=>none
   |none=>none
  |_=>none
 |_=>none
def AS.rvC(P:Program)(s:AS):List ResultVar->Option (Nat×List AV)
 |x::xs=>match s.wY P [x],s.yO P xs with
  |some [y],some (i,ys)=>some (i,y::ys)
  |_,_=>none
 |[]=>none
def NY(P:Program)(fn:Func)(s:AS)(r:AV):Prop:=
 ∃i ys,(s.yO P fn.results.toList=some (i,ys)\/s.rvC P fn.results.toList=some (i,ys))/\jO s.o (single ys)=true/\(mE (single ys)).Nodup/\i∉mE (single ys)/\res s.o (single ys)=r/\clean r=true
theorem dN{P:Program}{fn:Func}{s:AS}{r:AV}(h:match s.yO P fn.results.toList with
  |some p=>jO s.o (single p.2)=true/\(mE (single p.2)).Nodup/\p.1∉mE (single p.2)/\res s.o (single p.2)=r/\clean r=true
  |none=>False):NY P fn s r:=by
 split at h
 .rename_i p hp;exact⟨p.1,p.2,.inl hp,h⟩
 .exact h.elim
theorem Eh{P:Program}{fn:Func}{s:AS}{r:AV}(h:match s.rvC P fn.results.toList with
  |some p=>jO s.o (single p.2)=true/\(mE (single p.2)).Nodup/\p.1∉mE (single p.2)/\res s.o (single p.2)=r/\clean r=true
  |none=>False):NY P fn s r:=by
 split at h
 .rename_i p hp;exact⟨p.1,p.2,.inr hp,h⟩
 .exact h.elim
theorem XG{P:Program}[aB P]{B:gN P}{s:AS}{G:List CO}{a:Act}{w:World}(r:eB B s G a w){t:Tmp}{ty:TypeId}{i bU idx off n:Nat}{ob:aN}{e:List AV}
  (hx:s.t.getD t .undef= .ptr i bU idx off) (ha:s.at i bU idx=some (ob,e)) (wB:ob.box=true) (hn:kJ P ty=some n) (hfit:off+n<=e.length):
  ∃v fp g,look s.o G i ob g/\ob.live=true/\(FL a (.cell t ty)).run P w= .ok v w/\R w (env B s.o G w) (.agg ((e.drop off).take n)) v fp/\fp.Nodup/\∀b∈fp,g.F b:=by
 obtain⟨ho,he⟩:=Br ha;obtain⟨g,b,f,hl,hlive,hga,hv⟩:=r.ptr (x:= .tmp t) hx ho;obtain⟨fp0,⟨_,hown⟩,hnd,hF⟩:=r.ok i ob g hl hlive;simp only[wB,Env.of,gE]at hown;rcases hown with⟨h5,_⟩|⟨b',f',C,tyc,fz,qN,wW,hbk,hz,k1,k2,k3,rfl,hr⟩
 .rw [h5]at he;simp at he
 rw[hga]at wW;simp only[eE,pN,sY]at wW;obtain⟨rfl,rfl⟩:=wW;obtain⟨f1,f2,f3,cs,rfl,hcn,hc,hone,wL,_,_⟩:=AX hr he;have hle:=gG wL;simp only[Act.eval]at hv;obtain⟨g1,g2,rfl,_,ZX⟩:=uL off wL;obtain⟨g3,g4,rfl,hc3,_⟩:=uL n ZX;have hsub:∀x∈g3,x∈f1++(g1++(g3++g4))++f3:=λx hx=>by simp[hx]
 refine⟨.agg ((cs.drop off).take n).toArray,g3,g,hl,hlive,?_,by simp only[R];exact⟨_,rfl,Ii hone,hc3⟩,?_,λx hx=>hF x (AK _ (hsub x hx))⟩
 .have:=uV (P:=P) (t:=ty) (k:=off) (n:=n) (cs:=cs) hn (by omega) hc;simp only[Instr.loadAt,Instr.sureAddr,pure_bind]at this;simp[FL,hv,asAddr,<-oR,this]
 .simp only[lR]at hnd;have h1:=(gO.1 hnd.2).1;have h2:=(gO.1 h1).2.1;have h3:=(gO.1 h2).2.1;exact(gO.1 h3).1
theorem ll{P:Program}{s:AS}{l:List ResultVar}{i:Nat}{ys:List AV}(h:s.yO P l=some (i,ys)):
  ∃t ty xs bU idx off ob e n zs,l= .cell t ty::xs/\s.t.getD t .undef= .ptr i bU idx off/\s.at i bU idx=some (ob,e)/\kJ P ty=some n/\ob.box=true/\off+n<=e.length/\s.wY P xs=some zs/\ys= .agg ((e.drop off).take n)::zs:=by
 unfold AS.yO at h;split at h
 .split at h
  .rename_i i' bU idx off hx;split at h
   .rename_i ob e ha;split at h
    .rename_i n hn;split at h
     .rename_i hc;split at h
      .rename_i zs hzs;simp only[eE,oX]at h;obtain⟨rfl,rfl⟩:=h;exact⟨_,_,_,_,_,_,_,_,_,_,rfl,hx,ha,hn,hc.1,hc.2,hzs,rfl⟩
      .cases h
     .cases h
    .cases h
   .cases h
  .cases h
 .cases h
theorem LJ{P:Program}[aB P]{B:gN P}{s:AS}{G:List CO}{a:Act}{w:World}(r:eB B s G a w){fn:Func}{i:Nat}{ys:List AV}(h:s.yO P fn.results.toList=some (i,ys)):
  ∃v fp ob g,look s.o G i ob g/\ob.live=true/\(results fn a.tmps).run P w= .ok v w/\R w (env B s.o G w) (single ys) v fp/\fp.Nodup/\∀b∈fp,g.F b:=by
 obtain⟨t,ty,xs,bU,idx,off,ob,e,n,zs,jK,hx,ha,hn,wB,hfit,hzs,rfl⟩:=ll h;obtain⟨v0,fp,g,hl,hlive,ah,hR0,hnd,hF⟩:=XG r hx ha wB hn hfit;obtain⟨vs,h1,h2⟩:=Lm r hzs;have hl2:=gG h2;have hm:(fn.results.mapM (m:=Sem) (FL a)).run P w= .ok (v0::vs).toArray w:=by rw[DM,jK];simp only[Sem.run_map,mapM_cons,oS];rw[ah];simp only[lP];rw[h1];simp
 rw[Ke];simp only[oS];rw[hm];simp only[lP,tB];match zs,vs,hl2,h2 with
 |[],[],_,h2=>exact⟨v0,fp,ob,g,hl,hlive,by simp,hR0,hnd,hF⟩
 |z::zs,v1::vs,_,h2=>exact⟨.tuple (v0::v1::vs).toArray,fp,ob,g,hl,hlive,by simp,by simp only[single];rw[R];exact⟨_,rfl,by rw[Rc];exact⟨fp,[],hR0,h2,by simp⟩⟩,hnd,hF⟩
theorem Zd{P:Program}[aB P]{B:gN P}{s:AS}{G:List CO}{a:Act}{w:World}(r:eB B s G a w){fn:Func}{i:Nat}{ys:List AV}(h:s.rvC P fn.results.toList=some (i,ys)):
  ∃v fp ob g,look s.o G i ob g/\ob.live=true/\(results fn a.tmps).run P w= .ok v w/\R w (env B s.o G w) (single ys) v fp/\fp.Nodup/\∀b∈fp,g.F b:=by
 unfold AS.rvC at h;split at h
 .rename_i x xs heq;split at h
  .rename_i y i' ys' hy hB;simp only[eE,oX]at h;obtain⟨rfl,rfl⟩:=h;obtain⟨t,ty,xs',bU,idx,off,ob,e,n,zs,rfl,hx,ha,hn,wB,hfit,hzs,rfl⟩:=ll hB;obtain⟨v0,fp,g,hl,hlive,ah,hR0,hnd,hF⟩:=XG r hx ha wB hn hfit;obtain⟨vs,h1,h2⟩:=Lm r hzs;obtain⟨vy,h3,h4⟩:=Lm r hy;match vy,h4 with
   |[v],h4=>
    simp only[mapM_cons,mapM_nil,oS]at h3;have h5:(FL a x).run P w= .ok v w:=by
     cases hq:(FL a x).run P w with
     |ok v' w'=>rw[hq]at h3;simp at h3;rw[h3.1,h3.2]
     |_=>rw[hq]at h3;simp at h3
    have hm:(fn.results.mapM (m:=Sem) (FL a)).run P w= .ok (v::v0::vs).toArray w:=by rw[DM,heq];simp only[Sem.run_map,mapM_cons,oS];rw[h5];simp only[lP];rw[ah];simp only[lP];rw[h1];simp
    rw[Ke];simp only[oS];rw[hm];simp only[lP,tB];simp only[Rc]at h4;obtain⟨f1,f2,h6,⟨_,rfl⟩,h8⟩:=h4;obtain rfl:f1=[]:=by simpa using h8.symm
    exact⟨.tuple (v::v0::vs).toArray,fp,ob,g,hl,hlive,by simp,by simp only[single];rw[R];exact⟨_,rfl,by rw[Rc];exact⟨[],fp,h6,by rw[Rc];exact⟨fp,[],hR0,h2,by simp⟩,by simp⟩⟩,hnd,hF⟩
   |[],h4=>simp[Rc]at h4
   |_::_::_,h4=>simp[Rc]at h4
  .cases h
 .cases h
theorem F6{P:Program}[aB P](hm:P.follows .mixedOrders=true){f:FuncId}{fn:Func}{c:Code}(hf:P.funcs[f]? =some fn)(hb:fn.body=some c){args:List AV}{rr:AV}
  (h:vE P c ⟨args++replicate (fn.ntmps-args.length) .undef,[]⟩ (λe s=>(e= .normal\/e= .ret)/\(aP P fn s rr\/NY P fn s rr))):Ok P f args rr:=by
 intro w vs hg hargs;have hl:=gG hargs;have r0:eB ⟨w,λb=>b<w.heap.size,λ_=>False,λ_=>none,λ_=>none,hg,λ_ h=>h.elim,λ_ h=>h.elim⟩ ⟨args++replicate (fn.ntmps-args.length) .undef,[]⟩ [] {tmps:=vs.toArray++Array.replicate (fn.ntmps-vs.toArray.size) Go.undef,defers:=[]} w:=by
  refine⟨rfl,rfl,λi ob g hl=>by simp[look]at hl,λi j oi oj gi gj b hl=>by simp[look]at hl,λi ob g b hl=>by simp[look]at hl,?_,eC _,λ_ _ _=>rfl,λb hb=>hb,mI.rfl⟩;have h1:Rc w (env ⟨w,λb=>b<w.heap.size,λ_=>False,λ_=>none,λ_=>none,hg,λ_ h=>h.elim,λ_ h=>h.elim⟩ [] [] w) args vs []:=dU (w:=w) (w':=w) (E:=oM w) (E':=env ⟨w,λb=>b<w.heap.size,λ_=>False,λ_=>none,λ_=>none,hg,λ_ h=>h.elim,λ_ h=>h.elim⟩ [] [] w) ⟨λb hb=>⟨⟨.inl hb,λi ob g hl=>by simp[look]at hl⟩,rfl⟩,λ_ _=>trivial,λ_ _ _ h=>h.elim,λ_ _ _ h=>h.elim,λ_ _ _ _ _ h=>h.elim⟩ _ _ _ (by simp) hargs;have h2:∀n,Rc w (env ⟨w,λb=>b<w.heap.size,λ_=>False,λ_=>none,λ_=>none,hg,λ_ h=>h.elim,λ_ h=>h.elim⟩ [] [] w) (replicate n .undef) (replicate n Go.undef) []:=by
   intro n;induction n with
   |zero=>simp[Rc]
   |succ n ih=>simp only[pD,Rc];exact⟨[],[],by simp[R],ih,rfl⟩
  have:=mY h1 (h2 (fn.ntmps-args.length));simpa [hl]using this
 refine calls_of_wp hf hb (wp_mono (sS hm c _ _ h _ _ ⟨_,r0⟩) λe a w' he=> ?_);obtain⟨s,⟨he,F7⟩,G,r⟩:=he;have key:∃(E:Env) (v:Value) (fp:List Nat),(results fn a.tmps).run P w'= .ok v w'/\R w' E.plain rr v fp/\fp.Nodup/\clean rr=true/\∀b∈fp,∃j ob g,look s.o G j ob g/\ob.live=true/\g.F b:=by
  rcases F7 with⟨ys,zf,nU,hu,jK,hcl⟩|⟨i,ys,zf,nU,hu,hi,jK,hcl⟩
  .obtain ⟨v,hrun,hR⟩:=Al r zf;obtain⟨fp,h1,h2,h3⟩:=La r _ v nU hu hR;rw[jK]at h1;exact⟨_,v,fp,hrun,h1,h2,hcl,λb hb=>by obtain⟨i,ob,g,_,h⟩:=h3 b hb;exact⟨i,ob,g,h⟩⟩
  .obtain ⟨v,fp0,ob,g,hlk,hlive,hrun,hR,hnd,hF⟩:=zf.elim (LJ r) (Zd r);obtain⟨fp,h1,h2,h3⟩:=yo r hlk hlive _ v fp0 nU hu hi hnd hF hR;rw[jK]at h1;refine⟨_,v,fp,hrun,h1,h2,hcl,λb hb=> ?_⟩;rcases h3 b hb with h|⟨j,fF,g',_,h⟩
   .exact ⟨i,ob,g,hlk,hlive,hF b h⟩
   .exact ⟨j,fF,g',h⟩
 obtain⟨E,v,fp,hrun,h1,h2,hcl,h3⟩:=key;have hfin:∃v' fp,Ending.returned v= .returned v'/\R w' (BP w.heap.size w' fp) rr v' fp/\fp.Nodup/\(∀b∈fp,w.heap.size<=b/\b<w'.heap.size)/\w.heap.size<=w'.heap.size/\(∀b,b<w.heap.size->w'.heap[b]? =w.heap[b]?)/\mI w w':=by refine⟨v,fp,rfl,aMp <| Lb (E:=E.plain) (λ_ _=>trivial) rfl rfl rfl _ _ _ hcl h1,h2,λb hb=> ?_,r.size,λb hb=>r.frame b hb (λh=>h),r.same⟩;obtain⟨i,ob,g,hl,hlive,hF⟩:=h3 b hb;have:=r.fresh _ _ _ b hl hlive hF;exact⟨this.1.resolve_left (λh=>h),this.2⟩
 rcases he with rfl|rfl
 .exact ⟨r.defs,v,hrun,hfin⟩
 .exact ⟨r.defs,v,hrun,hfin⟩
theorem xZ{P:Program}[aB P](hm:P.follows .mixedOrders=true){f:FuncId}{fn:Func}{c:Code}(hf:P.funcs[f]? =some fn){n:Nat}(hn:fn.ntmps=n){args t:List AV}{rr:AV}
  (h:vE P c ⟨t,[]⟩ (λe s=>(e= .normal\/e= .ret)/\(aP P fn s rr\/NY P fn s rr))) (hb:fn.body=some c:=by rfl)
  (ht:args++replicate (n-args.length) .undef=t:=by
   simp only[eN,eV,Nat.reduceSub,Nat.reduceAdd,pD,Bm,eA,eM];rfl):Ok P f args rr:=by
 subst ht;subst hn;exact F6 hm hf hb h
theorem GJ{P:Program}{fn:Func}{s:AS}{r:AV}{x:Array ResultVar}(hr:fn.results=x)(e:fn.results=x->aP P fn s r\/NY P fn s r:=by intro hr;first|(refine .inl ?_;simp[aP,hr];done)|(refine .inr (dN ?_);simp[AS.yO,AS.wY,AS.rv,hr];done)):(Exit.ret= .normal\/Exit.ret= .ret)/\(aP P fn s r\/NY P fn s r):=⟨.inr rfl,e hr⟩
end Go.Aw
