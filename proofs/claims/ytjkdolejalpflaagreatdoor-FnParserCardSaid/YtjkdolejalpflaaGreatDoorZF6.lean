/- Proved here: steps towards the statement of this claim. No condition. -/
import Derived.Test.YtjkdolejalpflaaGreatDoorZF3
import Derived.ProofKit
set_option linter.all false
namespace Go.Aw
open List
def pre(op:Oper):List Nat:=(op.after.toList.filter λe=>Region.binds .any e).map (·.on)
def Xd(l:List Oper)(J:Nat->Bool):Prop:=∀j op,l[j]? =some op->J j=true->∀e∈pre op,J e=true
theorem Xe{op:Oper}{n:Nat}:n∈pre op↔∃e∈op.after.toList,Region.binds .any e=true/\e.on=n:=by simp[pre,mem_map,Cd,Ds]
def qH(P:Program)[aB P](l:List Oper)(op:Oper)(s:AS)(K:AS->Prop):Prop:=
 match op.guard with
 |none=>nL P op s K\/Ni P op s K
 |some (j,want)=>match mE l s j want with
  | .bool b=>(b=want->nL P op s K\/Ni P op s K)/\(b≠want->K (s.put op.dst (.fH [])))
  |_=>False
def nM(l:List Oper)(j:Nat):List Nat:=match l[j]? with|some o=>pre o|none=>[]
def reach(l:List Oper):Nat->List Nat->List Nat
 |0,acc=>acc
 |k+1,acc=>reach l k (if k∈acc then acc++nM l k else acc)
def AR(l:List Oper)(m:Nat):Bool:=
 decide (m<=l.length)&&((range (l.length-m)).all (λd=>(nM l (m+d)).all (λe=>decide (e<m+d))&&(d == 0 || decide (m+d-1∈nM l (m+d))))&&
 (decide (l.length<=m) || (range m).all λj=>decide (j∈reach l m (nM l m))))
theorem GX{l:List Oper}{J:Nat->Bool}(hc:Xd l J):∀(k:Nat) (acc:List Nat),(∀e∈acc,J e=true)->∀e∈reach l k acc,J e=true
 |0,acc,h=>h
 |k+1,acc,h=>by
  simp only[reach];refine GX hc k _ ?_;split
  .rename_i hk;intro e he;rcases fR.1 he with he|he
   .exact h e he
   .unfold nM at he;split at he
    .rename_i o ho;exact hc k o ho (h k hk) e he
    .cases he
  .exact h
theorem SQ{l:List Oper}{m j:Nat}{op:Oper}(ht:AR l m=true)(hm:m<=j)(hj:l[j]? =some op):(∀e∈pre op,e<j)/\(m<j->j-1∈pre op):=by
 unfold AR at ht;simp only[eC,gR]at ht;have hlt:=(cA.1 hj).1;have h:=ht.2.1 (j-m) (by simp;omega);have e:m+(j-m)=j:=by omega
 have hp:nM l j=pre op:=by simp[nM,hj]
 rw[e,hp]at h;simp only[gR,gS,tW,beq_iff_eq]at h;exact⟨h.1,λhlt=>h.2.resolve_left (by omega)⟩
theorem jk{l:List Oper}{m:Nat}{op:Oper}{J:Nat->Bool}(ht:AR l m=true)(hm:l[m]? =some op)(hc:Xd l J)(hp:∀e∈pre op,J e=true):∀j,j<m->J j=true:=by
 intro j hj;unfold AR at ht;simp only[eC,tW,gS]at ht;have hlt:=(cA.1 hm).1;have h:=ht.2.2.resolve_left (by omega);rw[gR]at h;have:=h j (by simpa using hj);simp only[gS]at this;have hpa:nM l m=pre op:=by simp[nM,hm]
 rw[hpa]at this;exact GX hc m _ hp j this
theorem SS{listed:Array Bool}{i:Nat}(h:i<listed.size):(!listed.getD i true)= !listed.getD i false:=by rw[eV,eV,oR h];rfl
theorem mem_ready{ops:Array Oper}{listed:Array Bool}(hl:listed.size=ops.size){i:Nat}:i∈Region.ready .any ops listed↔∃op,ops.toList[i]? =some op/\listed.getD i false=false/\∀e∈pre op,listed.getD e false=true:=by
 unfold Region.ready;rw[Cd];constructor
 .rintro ⟨hi1,hi2⟩;have wW:i<ops.size:=by simpa using hi1
  have hop:ops[i]? =some ops[i]:=by simp[wW]
  simp only[eC,hop,lR,pD]at hi2;obtain⟨h1,h2⟩:=hi2;rw[Cl]at h2;refine⟨ops[i],by simp[wW],?_,λn hn=> ?_⟩
  .rw [SS (by omega)]at h1;simpa using h1
  .obtain ⟨e,he,hb,rfl⟩:=Xe.1 hn;have:=h2 e (by simpa using he);simpa [hb]using this
 .rintro ⟨op,hop,h1,h2⟩;have wW:i<ops.size:=by have:=(cA.1 hop).1;simpa using this
  have hop':ops[i]? =some op:=by simpa using hop
  refine⟨by simpa using wW,?_⟩;simp only[eC,hop',lR,pD];refine⟨by rw[SS (by omega)];simp[h1],?_⟩;rw[Cl];intro e he;cases hb:Region.binds .any e with
  |false=>simp
  |true=>have:=h2 e.on (Xe.2 ⟨e,by simpa using he,hb,rfl⟩);simp[this]
theorem Qd{P:Program}[aB P]{B:eP P}{l:List Oper}{op:Oper}{s:AS}{K:AS->Prop}(h:qH P l op s K){a:Act}{w:World}(r:Rel B s a w){Kc:Act->World->Prop}{Q:Exit->Act->World->Prop}(hk:∀a' w' s',K s'->Rel B s' a' w'->Kc a' w'):
  if Region.wanted op (yielded l.toArray a.tmps)then op.wp P a w Kc Q\/(op.asks P a w/\LetsOut Q)else Kc (a.put op.dst undef) w:=by
 unfold qH at h;split at h
 .rename_i hg;rw[eA (by simp[Region.wanted,hg])];obtain⟨s',h',hst⟩:=h.elim (wP (B:=B)) (KI (B:=B));exact .inl (hst a w _ Q r λa' w' r'=>hk a' w' s' h' r')
 .rename_i j want hg;split at h
  .rename_i b hb;obtain⟨G,r'⟩:=r;have hy:=La r' hb;by_cases hbw:b=want
   .rw [eA (by simp[Region.wanted,hg,hy,hbw])];obtain⟨s',h',hst⟩:=(h.1 hbw).elim (wP (B:=B)) (KI (B:=B));exact .inl (hst a w _ Q ⟨G,r'⟩ λa' w' r'=>hk a' w' s' h' r')
   .rw [cU (by simp[Region.wanted,hg,hy,hbw])];exact hk _ _ _ (h.2 hbw) ⟨G,r'.put op.dst (Vf _ _)⟩
  .exact h.elim
theorem GY{P:Program}[aB P]{B:eP P}{all r:List Oper}{o:Oper}{s:AS}{K:AS->Prop}(h:gV P all (o::r) s K){a:Act}{w:World}(rl:Rel B s a w){Kc:Act->World->Prop}{Q:Exit->Act->World->Prop}(hk:∀a' w' s',gV P all r s' K->Rel B s' a' w'->Kc a' w'):
  if Region.wanted o (yielded all.toArray a.tmps)then o.wp P a w Kc Q\/(o.asks P a w/\LetsOut Q)else Kc (a.put o.dst undef) w:=by
 simp only[gV]at h;have stepped:((nL P o s λs'=>gV P all r s' K)\/(Dj P o s λs'=>gV P all r s' K)\/(Dy P o s λs'=>gV P all r s' K))->o.wp P a w Kc Q\/(o.asks P a w/\LetsOut Q):=by
  intro h;by_cases hcu:Dy P o s λs'=>gV P all r s' K
  .exact .inl (IB hcu a w _ Q rl λa' w' s' h' r'=>hk a' w' s' h' r')
  have:∃s',gV P all r s' K/\Step P B o s s':=by
   rcases h with h|h|h
   .exact wP (B:=B) h
   .exact KY (B:=B) h
   .exact (hcu h).elim
  obtain⟨s',h',hst⟩:=this;exact .inl (hst a w _ Q rl λa' w' r'=>hk a' w' s' h' r')
 split at h
 .rename_i hg;rw[eA (by simp[Region.wanted,hg])];exact stepped h
 .rename_i j want hg;split at h
  .rename_i b hb;have rl2:=rl;obtain⟨G,r'⟩:=rl2;have hy:=La r' hb;by_cases hbw:b=want
   .rw [eA (by simp[Region.wanted,hg,hy,hbw])];exact stepped (h.1 hbw)
   .rw [cU (by simp[Region.wanted,hg,hy,hbw])];exact hk _ _ _ (h.2 hbw) ⟨G,r'.put o.dst (Vf _ _)⟩
  .exact h.elim
theorem FL{listed:Array Bool}{i:Nat}(h:i<listed.size)(j:Nat):(listed.setIfInBounds i true).getD j false=dW (λj=>listed.getD j false) i j:=by
 unfold dW;simp only[eV,Array.getElem?_setIfInBounds];by_cases hj:j=i
 .subst hj;simp[h]
 .simp [hj,sX hj]
theorem Xf{P:Program}[aB P]{B:eP P}{ops:Array Oper}{m:Nat}{K:AS->Prop}{Q:Exit->Act->World->Prop}(ht:AR ops.toList m=true)(hk:∀a' w' s',K s'->Rel B s' a' w'->Q .normal a' w'):
  ∀(n k:Nat) (listed:Array Bool) (s:AS) (a:Act) (w:World),listed.size=ops.size->k+n=ops.size->m<=k->(∀j,listed.getD j false=decide (j<k))->gV P ops.toList (ops.toList.drop k) s K->Rel B s a w->wpAny P .any ops Q n listed a w
 |0,k,listed,s,a,w,hl,hn,hm,hj,h,r=>by have hdr:ops.toList.drop k=[]:=AK (by simp;omega);rw[hdr]at h;simp only[gV]at h;refine⟨?_,hk _ _ _ h r⟩;rw[Bs];intro i hi;obtain⟨op,hop,h1,_⟩:=(mem_ready hl).1 hi;have wW:=(cA.1 hop).1;rw[hj]at h1;simp at h1 wW;omega
 |n+1,k,listed,s,a,w,hl,hn,hm,hj,h,r=>by
  have hkl:k<ops.toList.length:=by simp;omega
  have hop:ops.toList[k]? =some ops.toList[k]:=aE hkl;have hpre:=SQ ht hm hop;constructor
  .intro hnil;exfalso;have:k∈Region.ready .any ops listed:=(mem_ready hl).2 ⟨_,hop,by rw[hj];simp,λe he=>by rw[hj];simpa using hpre.1 e he⟩;rw[hnil]at this;cases this
  .intro i hi;obtain⟨op,aA2,h1,h2⟩:=(mem_ready hl).1 hi;rw[hj]at h1;have hki:k<=i:=by simpa using h1
   have hik:i=k:=by
    rcases At k i with hlt|hge
    .exfalso;have:=h2 _ ((SQ ht (by omega) aA2).2 (by omega));rw[hj]at this;simp at this;omega
    .omega
   subst hik;rw[hop]at aA2;obtain rfl:=cD aA2;rw[mB hkl]at h;unfold wpOp;have Vu:ops[i]? =some ops.toList[i]:=by simpa using hop
   rw[Vu];have:=GY h r (Kc:=wpAny P .any ops Q n (listed.setIfInBounds i true)) (Q:=Q) (λa' w' s' h' r'=>
    Xf ht hk n (i+1) _ s' a' w' (by simpa using hl) (by omega) (by omega) (λj=>by
     rw[FL (by simpa [hl]using hkl)];unfold dW;by_cases hji:j=i
     .subst hji;simp
     .rw [cU hji];show listed.getD j false=_;rw[hj];have:(j<i)↔(j<i+1):=by omega
      simp[this]) h' r')
   simpa using this
def Qe(l:List Oper)(d:List Bool):List Nat:=(range l.length).filter λi=> !d.getD i false&&(nM l i).all λe=>d.getD e false
mutual
def vW(P:Program)[aB P](l:List Oper)(K:AS->Prop):Nat->List Bool->AS->Prop
 |0,_,s=>K s
 |n+1,d,s=>rO P l K n d s (Qe l d)
def rO(P:Program)[aB P](l:List Oper)(K:AS->Prop):Nat->List Bool->AS->List Nat->Prop
 |_,_,_,[]=>True
 |n,d,s,i::r=>(∃op,l[i]? =some op/\gV P l [op] s λs'=>vW P l K n (d.set i true) s')/\rO P l K n d s r
end
theorem GZ{P:Program}[aB P]{l:List Oper}{K:AS->Prop}{n:Nat}{d:List Bool}{s:AS}:∀{r:List Nat},rO P l K n d s r->∀i∈r,∃op,l[i]? =some op/\gV P l [op] s λs'=>vW P l K n (d.set i true) s'
 |[],_,i,hi=>by cases hi
 |j::r,h,i,hi=>by
  simp only[rO]at h;rcases lE.1 hi with rfl|hi
  .exact h.1
  .exact GZ h.2 i hi
def IL(l:List Oper):Bool:=(range l.length).all λi=>(nM l i).all λe=>decide (e<i)
theorem CX{l:List Oper}(h:IL l=true){i:Nat}{op:Oper}(hi:l[i]? =some op):∀e∈pre op,e<i:=by
 unfold IL at h;rw[gR]at h;have:=h i (by simp;exact(cA.1 hi).1);have hp:nM l i=pre op:=by simp[nM,hi]
 rw[hp,gR]at this;exact λe he=>by simpa using this e he
theorem Xg{P:Program}[aB P]{B:eP P}{ops:Array Oper}{K:AS->Prop}{Q:Exit->Act->World->Prop}(hfw:IL ops.toList=true)(hk:∀a' w' s',K s'->Rel B s' a' w'->Q .normal a' w'):
  ∀(n:Nat) (d:List Bool) (listed:Array Bool) (s:AS) (a:Act) (w:World),listed.toList=d->listed.size=ops.size->left d=n->vW P ops.toList K n d s->Rel B s a w->wpAny P .any ops Q n listed a w
 |0,d,listed,s,a,w,hd,hl,hn,h,r=>by
  simp only[vW]at h;refine⟨?_,hk _ _ _ h r⟩;rw[Bs];intro i hi;obtain⟨op,hop,h1,_⟩:=(mem_ready hl).1 hi;have wW:=(cA.1 hop).1;have hi':i<listed.size:=by simp at wW;omega
  have:=CR (l:=d) hn (i:=i) (b:=listed[i]) (by rw[<-hd];simp[hi']);rw[eV,oR hi']at h1;simp[this]at h1
 |n+1,d,listed,s,a,w,hd,hl,hn,h,r=>by
  have hget:∀j,d.getD j false=listed.getD j false:=λj=>by rw[<-hd,lO,eV];simp
  simp only[vW]at h;constructor
  .intro hnil;exfalso;obtain⟨i,h1,h2⟩:=FH (l:=d) (by omega);have hi:i<listed.size:=by have:=(cA.1 h1).1;rw[<-hd]at this;simpa using this
   have wW:i<ops.toList.length:=by simp;omega
   have hop:=aE wW;have:i∈Region.ready .any ops listed:=(mem_ready hl).2 ⟨_,hop,by rw[<-hget,lO,h1];rfl,λe he=>by
    have:=h2 e (CX hfw hop e he);rw[<-hget,lO,this];rfl⟩
   rw[hnil]at this;cases this
  .intro i hi;obtain⟨op,hop,h1,h2⟩:=(mem_ready hl).1 hi;have wW:=(cA.1 hop).1;have hir:i∈Qe ops.toList d:=by
    unfold Qe;rw[Cd];refine⟨by simpa using wW,?_⟩;have hp:nM ops.toList i=pre op:=by simp[nM,hop]
    rw[hget,h1,hp];simp only[Bool.not_false,AH,gR];exact λe he=>by rw[hget];exact h2 e he
   obtain⟨op',hop',hst⟩:=GZ h i hir;rw[hop]at hop';obtain rfl:=cD hop';unfold wpOp;have Vu:ops[i]? =some op:=by simpa using hop
   rw[Vu];have hil:i<listed.size:=by simp at wW;omega
   have:=GY hst r (Kc:=wpAny P .any ops Q n (listed.setIfInBounds i true)) (Q:=Q) (λa' w' s' h' r'=>by
    simp only[gV]at h';refine Xg hfw hk n (d.set i true) _ s' a' w' (by rw[tR,hd]) (by simpa using hl) ?_ h' r';have hdi:d[i]? =some false:=by
     have h3:=hget i;rw[h1,lO]at h3;have hid:i<d.length:=by rw[<-hd];simpa using hil
     rw[aE hid]at h3⊢;simpa using h3
    have:=BU hdi;omega)
   simpa using this
def vX(l:List Oper)(m:Nat):Bool:=(range l.length).all λi=>decide (i<=m) || (nM l i).any λe=>decide (m<=e)
theorem EC:∀(L:List Bool) (q:Nat),(∀j,L.getD j false=decide (j<q))->q<=L.length->left L+q=L.length
 |[],q,_,h=>by simp at h;simp[left,h]
 |b::L,q,hq,hle=>by
  have hb:=hq 0;simp[getD]at hb;rw[zT];cases q with
  |zero=>
   have hb':b=false:=by simpa using hb
   have:=EC L 0 (λj=>by have:=hq (j+1);simpa [getD]using this) (by omega);rw[hb',cU (by simp)];simp;omega
  |succ q=>
   have hb':b=true:=by simpa using hb
   have:=EC L q (λj=>by have:=hq (j+1);simpa [getD]using this) (by simpa using hle);rw[hb',eA rfl];simp;omega
theorem jl{P:Program}[aB P]{ops:Array Oper}{s:AS}{K:AS->Prop}(m:Nat)(aKu:m<=ops.size)(hfw:IL ops.toList=true)(hrest:vX ops.toList m=true)(S:(Nat->Bool)->AS)(h0:kR s (S λ_=>false))
  (hs:∀i op,i<m->ops.toList[i]? =some op->∀J:Nat->Bool,Xd ops.toList J->(∀k,m<=k->J k=false)->J i=false->(∀e∈pre op,J e=true)->(qH P ops.toList op (S J) λs'=>kR s' (S (dW J i)))\/(op.guard=none/\∀B,Step P B op (S J) (S (dW J i))))
  (he:∀J:Nat->Bool,Xd ops.toList J->(∀k,m<=k->J k=false)->((∀i,i<m->J i=true)\/∃op,ops.toList[m]? =some op/\∀e∈pre op,J e=true)->vW P ops.toList K (left ((range ops.size).map J)) ((range ops.size).map J) (S J)\/(AR ops.toList m=true/\(∀i,i<m->J i=true)/\gV P ops.toList (ops.toList.drop m) (S J) K)):KZ P ops s K:=by
 intro B a w Q hr hk;have toJ:∀listed:Array Bool,listed.size=ops.size->listed.toList=(range ops.size).map λi=>listed.getD i false:=by
  intro listed hl;refine CM λi=> ?_
  rw[tB];by_cases hi:i<ops.size
  .have hil:i<listed.size:=by omega
   simp[hi,hil]
  .have hil:listed.toList.length<=i:=by simp;omega
   rw[pH hil];simp[hi]
 have fin:∀(fuel:Nat) (listed:Array Bool) (a:Act) (w:World),listed.size=ops.size->left listed.toList=fuel->(∀k,m<=k->listed.getD k false=false)->Xd ops.toList (λi=>listed.getD i false)->Rel B (S λi=>listed.getD i false) a w->
   ((∀i,i<m->listed.getD i false=true)\/∃op,ops.toList[m]? =some op/\∀e∈pre op,listed.getD e false=true)->wpAny P .any ops Q fuel listed a w:=by
  intro fuel listed a w hl hz hhi hc r hor;rcases he _ hc hhi hor with this|⟨ht,hall,h⟩
  .rw [<-toJ listed hl]at this;exact Xg hfw hk fuel listed.toList listed _ a w rfl hl hz (hz▸this) r
  .have hJ:(λi=>listed.getD i false)=λk=>decide (k<m):=by
    funext i;by_cases hi:i<m
    .rw [hall i hi];simp[hi]
    .rw [hhi i (by omega)];simp[hi]
   have hcount:m+fuel=ops.size:=by have:=EC listed.toList m (λj=>by have:=congrFun hJ j;simpa [eV,lO]using this) (by simp;omega);rw[hz]at this;simp at this;omega
   exact Xf ht hk fuel m listed _ a w hl hcount (cX _) (λj=>congrFun hJ j) h r
 have key:∀(fuel:Nat) (listed:Array Bool) (a:Act) (w:World),listed.size=ops.size->left listed.toList=fuel->(∀k,m<=k->listed.getD k false=false)->Xd ops.toList (λi=>listed.getD i false)->Rel B (S λi=>listed.getD i false) a w->wpAny P .any ops Q fuel listed a w:=by
  intro fuel;induction fuel with
  |zero=>
   intro listed a w hl hz hhi hc r;refine fin 0 listed a w hl hz hhi hc r (.inl λi hi=> ?_);have hi':i<listed.size:=by omega
   have:=CR hz (i:=i) (b:=listed[i]) (by simp[hi']);simp[Array.getD,hi',this]
  |succ fuel ih=>
   intro listed a w hl hz hhi hc r;by_cases hall:(∀i,i<m->listed.getD i false=true)\/∃op,ops.toList[m]? =some op/\∀e∈pre op,listed.getD e false=true
   .exact fin _ listed a w hl hz hhi hc r hall
   .have hlow:∀i∈Region.ready .any ops listed,i<m:=by
     intro i hi;obtain⟨op,hop,h1,h2⟩:=(mem_ready hl).1 hi;rcases At i m with h|h
     .exact h
     .exfalso;rcases At m i with hlt|hge
      .unfold vX at hrest;rw[gR]at hrest;have:=hrest i (by simp;have:=(cA.1 hop).1;simpa using this);have hp:nM ops.toList i=pre op:=by simp[nM,hop]
       simp only[hp,tW,gS,any_eq_true]at this;rcases this with h'|⟨e,he,hme⟩
       .omega
       .have h3:=h2 e he;rw[hhi e hme]at h3;cases h3
      .have:i=m:=by omega
       subst this;exact hall (.inr ⟨op,hop,h2⟩)
    constructor
    .intro hnil;exfalso;obtain⟨i,h1,h2⟩:=FH (l:=listed.toList) (by omega);have hi:i<listed.size:=by have:=(cA.1 h1).1;simpa using this
     have hgi:listed.getD i false=false:=by
      have:listed[i]? =some false:=by simpa using h1
      rw[eV,this];rfl
     have aHw:i<ops.toList.length:=by simp;omega
     have hop:=aE aHw;have:i∈Region.ready .any ops listed:=(mem_ready hl).2 ⟨_,hop,hgi,λe he=>by
      have:=h2 e (CX hfw hop e he);have h3:listed[e]? =some true:=by simpa using this
      rw[eV,h3];rfl⟩
     rw[hnil]at this;cases this
    .intro i hi;have him:=hlow i hi;obtain⟨op,hop,h1,h2⟩:=(mem_ready hl).1 hi;have wW:i<ops.size:=by omega
     have hil:i<listed.size:=by omega
     have hst:=hs i op him hop (λj=>listed.getD j false) hc hhi h1 h2;unfold wpOp;have Vu:ops[i]? =some op:=by simpa using hop
     rw[Vu];have hu:(λj=>(listed.setIfInBounds i true).getD j false)=dW (λj=>listed.getD j false) i:=funext λj=>FL hil j
     have hnext:∀a' w',Rel B (S (dW (λj=>listed.getD j false) i)) a' w'->wpAny P .any ops Q fuel (listed.setIfInBounds i true) a' w':=λa' w' r'=>by
      refine ih _ _ _ (by simpa using hl) ?_ ?_ ?_ ?_
      .have h1':listed.toList[i]? =some false:=by
        have:listed[i]? =some listed[i]:=by simp[hil]
        rw[eV,this]at h1;simp only[pD]at h1;rw[h1]at this;simpa using this
       have:=BU h1';rw[tR];omega
      .intro k hk;rw[FL hil];unfold dW;rw[cU (by omega)];exact hhi k hk
      .rw [hu];intro j op' hj hJ e he;by_cases hji:j=i
       .subst hji;rw[hop]at hj;obtain rfl:=cD hj;unfold dW;split
        .rfl
        .exact h2 e he
       .unfold dW at hJ⊢;rw[cU hji]at hJ;split
        .rfl
        .exact hc j op' hj hJ e he
      .rw [hu];exact r'
     rcases hst with hst|⟨hg,hst⟩
     .have:=Qd hst r (Kc:=wpAny P .any ops Q fuel (listed.setIfInBounds i true)) (Q:=Q) (λa' w' s' hw r'=>hnext a' w' (hw B a' w' r'));simpa using this
     .have:Region.wanted op (yielded ops a.tmps)=true:=by simp[Region.wanted,hg]
      simp only[this,eI];exact .inl (hst B a w _ Q r hnext)
 obtain⟨G,r⟩:=hr;have r2:Rel B s a {w with drawn:=w.drawn+1}:=⟨G,{len:=r.len,defs:=r.defs,ok:=λi ob g hl hlive=>(r.ok i ob g hl hlive).keeps (w':={w with drawn:=w.drawn+1}) ⟨λb h=>⟨h,rfl⟩,λ_ h=>h,λ_ _ _ h=>⟨h,rfl⟩,λ_ _ _ h=>h,λ_ _ _ _ _ h=>h⟩ (λ_ _=>rfl),apart:=r.apart,fresh:=r.fresh,tmps:=dC (w:=w) (E:=env B s.o G w) (w':={w with drawn:=w.drawn+1}) (E':=env B s.o G {w with drawn:=w.drawn+1}) ⟨λb h=>⟨h,rfl⟩,λ_ h=>h,λ_ _ _ h=>⟨h,rfl⟩,λ_ _ _ h=>h,λ_ _ _ _ _ h=>h⟩ _ _ _ (by simp) r.tmps,size:=r.size,frame:=r.frame,base:=r.base,same:=r.same.trans ⟨rfl,rfl,rfl⟩}⟩;have hJ:(λi=>(Array.replicate ops.size false).getD i false)=λ_=>false:=by funext i;simp only[eV,BE];split<;>rfl
 refine key _ _ _ _ (by simp) (by simp[left]) (λk _=>congrFun hJ k) (by rw[hJ];intro j op _ h;cases h) ?_;rw[hJ];exact h0 _ _ _ r2
def jz(m:Nat)(z:List Nat)(k:Nat):Bool:=decide (k<m)&& !z.contains k
def rY(l:List Oper)(m:Nat):List Nat:=(range m).filter λj=> !(reach l m (nM l m)).contains j
def zV(F:List Nat->Prop):List Nat->List Nat->Prop
 |acc,[]=>F acc
 |acc,z::r=>zV F acc r/\zV F (z::acc) r
theorem Lt{F:List Nat->Prop}(p:Nat->Bool):∀(z acc:List Nat),zV F acc z->F ((z.filter p).reverse++acc)
 |[],acc,h=>by simpa [zV]using h
 |x::z,acc,h=>by
  simp only[zV]at h;by_cases hx:p x=true
  .have:=Lt p z (x::acc) h.2;rw[filter_cons_of_pos hx];simpa using this
  .have:=Lt p z acc h.1;rw[filter_cons_of_neg hx];exact this
theorem aD4{l:List Oper}{m:Nat}{op:Oper}{J:Nat->Bool}(hm:l[m]? =some op)(hc:Xd l J)(hhi:∀k,m<=k->J k=false)(hp:∀e∈pre op,J e=true):J=jz m ((rY l m).filter λk=> !J k).reverse:=by
 funext k;unfold jz;by_cases hk:k<m
 .simp only[hk,An,AH];cases hJ:J k with
  |true=>
   have:((rY l m).filter λk=> !J k).reverse.contains k=false:=by rw[contains_eq_mem];simp[hJ]
   rw[this];rfl
  |false=>
   have hs:k∈rY l m:=by
    unfold rY;rw[Cd];refine⟨by simpa using hk,?_⟩;have hpa:nM l m=pre op:=by simp[nM,hm]
    rw[hpa];cases hcn:(reach l m (pre op)).contains k with
    |false=>rfl
    |true=>rw[contains_eq_mem]at hcn;have:=GX hc m (pre op) hp k (by simpa using hcn);rw[hJ]at this;cases this
   have:((rY l m).filter λk=> !J k).reverse.contains k=true:=by rw[contains_eq_mem];simp[hJ,hs]
   rw[this];rfl
 .rw [hhi k (by omega)];simp[hk]
def jm(i:Nat)(pr:List Nat)(j:Nat)(op:Oper)(v:AV)(t:List AV):List AV:=
 match op.dst with
 |none=>t
 |some d=>if j=i then t else if j∈pr then t.set d v else if i∈pre op then t else t.set d .undef
def rP(i:Nat)(pr:List Nat):Nat->List Oper->List AV->List AV->List AV
 |_,[],_,t=>t
 |j,op::r,vs,t=>rP i pr (j+1) r vs.tail (jm i pr j op (vs.headD .undef) t)
def xC(J:Nat->Bool)(j:Nat)(op:Oper)(v:AV)(t:List AV):List AV:=
 match op.dst with
 |none=>t
 |some d=>if J j=true then t.set d v else t
def jI(J:Nat->Bool):Nat->List Oper->List AV->List AV->List AV
 |_,[],_,t=>t
 |j,op::r,vs,t=>jI J (j+1) r vs.tail (xC J j op (vs.headD .undef) t)
theorem Qf:∀{t2 t:List AV} (d:Nat) {v2 v:AV},wk t2 t->(v=v2\/v= .undef)->wk (t2.set d v2) (t.set d v)
 |[],[],_,_,_,_,_=>trivial
 |[],_::_,_,_,_,h,_=>h.elim
 |_::_,[],_,_,_,h,_=>h.elim
 |_::_,_::_,0,_,_,h,hv=>⟨hv,h.2⟩
 |_::_,_::_,d+1,_,_,h,hv=>⟨h.1,Qf d h.2 hv⟩
theorem FM:∀{t2 t:List AV} (d:Nat),wk t2 t->wk t2 (t.set d .undef)
 |[],[],_,_=>trivial
 |[],_::_,_,h=>h.elim
 |_::_,[],_,h=>h.elim
 |_::_,_::_,0,h=>⟨.inr rfl,h.2⟩
 |_::_,_::_,d+1,h=>⟨h.1,FM d h.2⟩
theorem OE:∀{t2 t:List AV},wk t2 t->t2.length=t.length
 |[],[],_=>rfl
 |[],_::_,h=>h.elim
 |_::_,[],h=>h.elim
 |_::_,_::_,h=>by simp[OE h.2]
theorem uN:∀t:List AV,wk t t
 |[]=>trivial
 |_::xs=>⟨.inl rfl,uN xs⟩
theorem OG{J:Nat->Bool}{i:Nat}{pr:List Nat}(hi:J i=false)(hpr:∀e∈pr,J e=true/\e<i):
  ∀(l:List Oper) (j:Nat) (vs vs':List AV) (t2 t:List AV),(∀k op,l[k]? =some op->J (j+k)=true->∀e∈pre op,J e=true)->(∀k,j+k<i->vs'.getD k .undef=vs.getD k .undef)->wk t2 t->wk (jI J j l vs t2) (rP i pr j l vs' t)
 |[],_,_,_,_,_,_,_,h=>h
 |op::r,j,vs,vs',t2,t,hc,hv,h=>by
  simp only[jI,rP];refine OG hi hpr r (j+1) vs.tail vs'.tail _ _ (λk q hk hJ=>hc (k+1) q (by simpa using hk) (by rwa[show j+(k+1)=j+1+k by omega])) (λk hk=>by
   have:=hv (k+1) (by omega);cases vs<;>cases vs'<;>simpa [getD]using this) ?_
  have h0:j<i->vs'.headD .undef=vs.headD .undef:=λhj=>by have:=hv 0 (by omega);cases vs<;>cases vs'<;>simpa [getD]using this
  unfold xC jm;cases hd:op.dst with
  |none=>exact h
  |some d=>
   dsimp only;by_cases hji:j=i
   .subst hji;rw[eA rfl,cU (by rw[hi];simp)];exact h
   .rw [cU hji];by_cases hp:j∈pr
    .rw [eA hp,eA (hpr j hp).1];exact Qf d h (.inl (h0 (hpr j hp).2))
    .rw [cU hp];by_cases hq:i∈pre op
     .rw [eA hq];have:J j≠true:=λhJ=>by
       have:=hc 0 op rfl hJ i hq;rw[hi]at this;cases this
      rw[cU this];exact h
     .rw [cU hq];split
      .exact Qf d h (.inr rfl)
      .exact FM d h
theorem OH{J:Nat->Bool}(d:Nat)(x:AV):∀(l:List Oper) (j:Nat) (vs:List AV) (t:List AV),(∀op∈l,op.dst≠some d)->jI J j l vs (t.set d x)=(jI J j l vs t).set d x
 |[],_,_,_,_=>rfl
 |op::r,j,vs,t,h=>by
  simp only[jI];rw[<-OH d x r (j+1) vs.tail _ (λq hq=>h q (by simp[hq]))];congr 1;unfold xC;cases hd:op.dst with
  |none=>rfl
  |some d'=>
   dsimp only;have:d'≠d:=λe=>h op (by simp) (by rw[hd,e])
   split
   .rw [set_comm _ _ (sX this)]
   .rfl
theorem Ca{J J':Nat->Bool}:∀(l:List Oper) (j:Nat) (vs:List AV) (t:List AV),(∀k,k<l.length->J (j+k)=J' (j+k))->jI J j l vs t=jI J' j l vs t
 |[],_,_,_,_=>rfl
 |op::r,j,vs,t,h=>by
  simp only[jI];have h0:J j=J' j:=h 0 (by simp);have:xC J j op (vs.headD .undef) t=xC J' j op (vs.headD .undef) t:=by unfold xC;rw[h0]
  rw[this];exact Ca r (j+1) vs.tail _ λk hk=>by
   have:=h (k+1) (by simpa using hk)
   rwa[show j+(k+1)=j+1+k by omega]at this
def distinct:List Oper->Bool
 |[]=>true
 |op::r=>(match op.dst with
  |none=>true
  |some d=>r.all λq=>decide (q.dst≠some d))&&distinct r
theorem Ha{J:Nat->Bool}:∀(l:List Oper) (j i:Nat) (op:Oper) (vs:List AV) (t:List AV) (v:AV),distinct l=true->l[i]? =some op->J (j+i)=false->vs.getD i .undef=v->
  jI (dW J (j+i)) j l vs t=uH (jI J j l vs t) op.dst v
 |[],_,_,_,_,_,_,_,h,_,_=>by simp at h
 |q::r,j,0,op,vs,t,v,hd,h,hJ,hv=>by
  simp at h;subst h;simp only[jI,oS]at hJ⊢;rw[Ca (J:=dW J j) (J':=J) r (j+1) vs.tail _ (λk _=>by unfold dW;rw[cU (by omega)])];have h1:xC (dW J j) j q (vs.headD .undef) t=uH t q.dst v:=by
   have hv':vs.headD .undef=v:=by cases vs<;>simpa [getD]using hv
   unfold xC uH;rw[hv'];cases q.dst with
   |none=>rfl
   |some d=>simp[dW]
  have h2:xC J j q (vs.headD .undef) t=t:=by
   unfold xC;cases q.dst with
   |none=>rfl
   |some d=>simp[hJ]
  rw[h1,h2];cases hq:q.dst with
  |none=>rfl
  |some d=>simp only[distinct,hq,eC,gR,gS]at hd;exact OH d v r (j+1) vs.tail t hd.1
 |q::r,j,i+1,op,vs,t,v,hd,h,hJ,hv=>by
  simp only[distinct,eC]at hd;simp only[jI];have h1:xC (dW J (j+(i+1))) j q (vs.headD .undef) t=xC J j q (vs.headD .undef) t:=by
   unfold xC;have:dW J (j+(i+1)) j=J j:=by unfold dW;rw[cU (by omega)]
   rw[this]
  rw[h1,show j+(i+1)=j+1+i by omega];exact Ha r (j+1) i op vs.tail _ v hd.2 (by simpa using h) (by rwa[show j+1+i=j+(i+1)by omega]) (by cases vs<;>simpa [getD]using hv)
def oJ(J:Nat->Bool)(b:List aD):List (Nat×List aD)->List aD
 |[]=>b
 |q::r=>if J q.1=true then q.2 else oJ J b r
def top(b:List aD):List (Nat×List aD)->List aD
 |[]=>b
 |q::_=>q.2
def Bu(pr:List Nat):List (Nat×List aD)->Bool
 |[]=>true
 |q::_=>decide (q.1∈pr)
def qZ(pr:List Nat)(n:Nat):Bool:=decide (n∈pr)
def yG(l:List Oper)(b:List aD):List (Nat×List aD)->Prop
 |[]=>True
 |q::r=>(∃new,q.2=top b r++new)/\(∀p,r.head? =some p->p.1<q.1/\∃op,l[q.1]? =some op/\p.1∈pre op)/\yG l b r
theorem jo{l:List Oper}{b:List aD}(J:Nat->Bool):∀{h:List (Nat×List aD)},yG l b h->∃ext,top b h=oJ J b h++ext
 |[],_=>⟨[],by simp[top,oJ]⟩
 |q::r,hc=>by
  obtain⟨new,hn⟩:=hc.1;obtain⟨ext,he⟩:=jo J hc.2.2;simp only[oJ,top];split
  .exact ⟨[],by simp⟩
  .exact ⟨ext++new,by rw[hn,he,tD]⟩
theorem Vv{l:List Oper}{b:List aD}{J:Nat->Bool}{pr:List Nat}(hp:∀e∈pr,J e=true):∀{h:List (Nat×List aD)},yG l b h->∃ext,oJ J b h=oJ (qZ pr) b h++ext
 |[],_=>⟨[],by simp[oJ]⟩
 |q::r,hc=>by
  simp only[oJ];by_cases hq:q.1∈pr
  .rw [eA (hp _ hq),eA (by simpa [qZ]using hq)];exact⟨[],by simp⟩
  .rw [cU (show¬qZ pr q.1=true by simpa [qZ]using hq)];split
   .obtain ⟨new,hn⟩:=hc.1;obtain⟨ext,he⟩:=jo (qZ pr) hc.2.2;exact⟨ext++new,by rw[hn,he,tD]⟩
   .exact Vv hp hc.2.2
theorem Qg(J:Nat->Bool)(b:List aD):∀{s h:List (Nat×List aD)},(∀q∈s,J q.1=false)->oJ J b (s++h)=oJ J b h
 |[],_,_=>rfl
 |q::s,h,hs=>by simp only[cM,oJ];rw[cU (by rw[hs q (by simp)];simp)];exact Qg J b λp hp=>hs p (by simp[hp])
theorem IM{l:List Oper}{b:List aD}{J:Nat->Bool}(hJ:Xd l J):∀{s h:List (Nat×List aD)} {q:Nat×List aD},yG l b (s++q::h)->J q.1=false->∀p∈s,J p.1=false
 |[],_,_,_,_=>λ_ hp=>by cases hp
 |x::s,h,q,hc,hq=>by
  have ih:=IM hJ hc.2.2 hq;intro p hp;rcases lE.1 hp with rfl|hp
  .cases hJx:J p.1 with
   |false=>rfl
   |true=>
    exfalso;cases s with
    |nil=>obtain⟨_,op,h1,h2⟩:=hc.2.1 q rfl;have:=hJ _ op h1 hJx _ h2;rw[hq]at this;cases this
    |cons y s=>obtain⟨_,op,h1,h2⟩:=hc.2.1 y rfl;have:=hJ _ op h1 hJx _ h2;rw[ih y (by simp)]at this;cases this
  .exact ih p hp
def xq(J:Nat->Bool)(dead:Bool)(q:Nat×Nat×List AV):aD:=
 if J q.1=true then⟨true,true,q.2.2.length,1,[q.2.2]⟩else⟨!dead,false,q.2.2.length,0,[]⟩
def oC(J:Nat->Bool)(dead:Bool):List (Nat×Nat×List AV)->List aD->List aD
 |[],o=>o
 |q::r,o=>oC J dead r (o.set q.2.1 (xq J dead q))
def Cb:Nat->Bool:=λ_=>false
def jq(fl:List (Nat×Nat×List AV))(n:Nat):Bool:=decide (fl.map (·.1)).Nodup&&(decide (fl.map (·.2.1)).Nodup&&fl.all λq=>decide (q.2.1<n))
theorem nI(J:Nat->Bool)(d:Bool):∀(fl:List (Nat×Nat×List AV)) (o:List aD),(oC J d fl o).length=o.length
 |[],_=>rfl
 |q::r,o=>by simp only[oC];rw[nI J d r];simp
theorem Cc{J:Nat->Bool}{d:Bool}{i:Nat}:∀{fl:List (Nat×Nat×List AV)} {o:List aD},(∀q∈fl,q.2.1≠i)->(oC J d fl o)[i]? =o[i]?
 |[],_,_=>rfl
 |q::r,o,h=>by simp only[oC];rw[Cc λp hp=>h p (by simp[hp]),gO (h q (by simp))]
theorem yH{J:Nat->Bool}{d:Bool}:∀{fl:List (Nat×Nat×List AV)} {o:List aD} {q:Nat×Nat×List AV},(fl.map (·.2.1)).Nodup->q∈fl->q.2.1<o.length->(oC J d fl o)[q.2.1]? =some (xq J d q)
 |p::r,o,q,hn,hq,hl=>by
  simp only[oC];simp only[mS,hY]at hn;rcases lE.1 hq with rfl|hq
  .rw [Cc λp hp e=>hn.1 (mem_map.2 ⟨p,hp,e⟩),nF hl]
  .exact yH hn.2 hq (by simpa using hl)
theorem Kg{J:Nat->Bool}{d:Bool}{n:List aD}:∀{fl:List (Nat×Nat×List AV)} {o:List aD},(∀q∈fl,q.2.1<o.length)->oC J d fl (o++n)=oC J d fl o++n
 |[],_,_=>rfl
 |q::r,o,h=>by simp only[oC];rw[set_append_left _ _ (h q (by simp)),Kg λp hp=>by simpa using h p (by simp[hp])]
theorem Xh{fl:List (Nat×Nat×List AV)}{o o':List aD}(hl:o.length=o'.length)(h:∀q∈fl,o[q.2.1]? =o'[q.2.1]?)(h2:∀i,(∀q∈fl,q.2.1≠i)->o[i]? =o'[i]?):o=o':=by
 refine CM λi=> ?_
 by_cases hi:∃q∈fl,q.2.1=i
 .obtain ⟨q,hq,rfl⟩:=hi;exact h q hq
 .exact h2 i λq hq e=>hi ⟨q,hq,e⟩
theorem E9{J J':Nat->Bool}{d d':Bool}{fl:List (Nat×Nat×List AV)}{o:List aD}(hn:(fl.map (·.2.1)).Nodup)(hs:∀q∈fl,q.2.1<o.length):oC J d fl (oC J' d' fl o)=oC J d fl o:=
 Xh (fl:=fl) (by simp[nI]) (λq hq=>by rw[yH hn hq (by rw[nI];exact hs q hq),yH hn hq (hs q hq)]) (λi hi=>by rw[Cc hi,Cc hi,Cc hi])
theorem OI{J J':Nat->Bool}{d:Bool}:∀{fl:List (Nat×Nat×List AV)} {o:List aD},(∀q∈fl,J q.1=J' q.1)->oC J d fl o=oC J' d fl o
 |[],_,_=>rfl
 |q::r,o,h=>by
  simp only[oC];have:xq J d q=xq J' d q:=by unfold xq;rw[h q (by simp)]
  rw[this,OI λp hp=>h p (by simp[hp])]
theorem Hd{α β:Type}(f:α->β):∀(L:List α),(L.map f).Nodup->∀p q,p∈L->q∈L->f p=f q->p=q
 |[],_,_,_,h,_,_=>by cases h
 |x::L,hn,p,q,hp,hq,e=>by
  simp only[mS,hY]at hn;rcases lE.1 hp with hp'|hp'
  .rcases lE.1 hq with hq'|hq'
   .rw [hp',hq']
   .exfalso;exact hn.1 (mem_map.2 ⟨q,hq',by rw[<-e,hp']⟩)
  .rcases lE.1 hq with hq'|hq'
   .exfalso;exact hn.1 (mem_map.2 ⟨p,hp',by rw[e,hq']⟩)
   .exact Hd f L hn.2 p q hp' hq' e
theorem F3{J:Nat->Bool}{d:Bool}{fl:List (Nat×Nat×List AV)}{o:List aD}{q:Nat×Nat×List AV}(hn1:(fl.map (·.1)).Nodup)(hn:(fl.map (·.2.1)).Nodup)(hs:∀q∈fl,q.2.1<o.length)(hq:q∈fl):
  oC (dW J q.1) d fl o=(oC J d fl o).set q.2.1 ⟨true,true,q.2.2.length,1,[q.2.2]⟩:=by
 have hinj:∀p∈fl,p.1=q.1->p=q:=λp hp e=>Hd (·.1) fl hn1 p q hp hq e
 have aD5:∀p∈fl,p.2.1=q.2.1->p=q:=λp hp e=>Hd (·.2.1) fl hn p q hp hq e
 refine Xh (fl:=fl) (by simp[nI]) (λp hp=> ?_) (λi hi=> ?_)
 .rw [yH hn hp (hs p hp)];by_cases hpq:p=q
  .subst hpq;rw[nF (by rw[nI];exact hs p hp)];simp[xq,dW]
  .rw [gO (λe=>hpq (aD5 p hp e.symm)),yH hn hp (hs p hp)]
   have:dW J q.1 p.1=J p.1:=by unfold dW;rw[cU (λe=>hpq (hinj p hp e))]
   simp[xq,this]
 .rw [Cc hi,gO (hi q hq),Cc hi]
theorem F4{J:Nat->Bool}{pr:List Nat}{fl:List (Nat×Nat×List AV)}{o ext:List aD}(hn:(fl.map (·.2.1)).Nodup)(hs:∀q∈fl,q.2.1<o.length)(hp:∀e∈pr,J e=true):
  Sub (oC (qZ pr) true fl o) (oC J false fl (o++ext)):=by
 intro i ob h hl;by_cases hi:∃q∈fl,q.2.1=i
 .obtain ⟨q,hq,rfl⟩:=hi;rw[yH hn hq (hs q hq)]at h;obtain rfl:=cD h;rw[yH hn hq (by have:=hs q hq;simp;omega)];unfold xq at hl⊢;by_cases hb:qZ pr q.1=true
  .rw [eA hb,eA (hp q.1 (by simpa [qZ]using hb))]
  .rw [cU hb]at hl;cases hl
 .have hi':∀q∈fl,q.2.1≠i:=λq hq e=>hi ⟨q,hq,e⟩
  rw[Cc hi']at h⊢;rw[nB (cA.1 h).1];exact h
theorem Xi{l:List Oper}{b:List aD}{J:Nat->Bool}{h:List (Nat×List aD)}(hc:yG l b h):∃ext,oJ J b h=b++ext:=by
 obtain⟨ext,he⟩:=Vv (J:=J) (pr:=[]) (by simp) hc;have:∀h:List (Nat×List aD),oJ (qZ []) b h=b:=by
  intro h;induction h with
  |nil=>rfl
  |cons q r ih=>simp[oJ,ih,qZ]
 exact⟨ext,by rw[he,this]⟩
theorem Qh{fl:List (Nat×Nat×List AV)}{b:List aD}(J:Nat->Bool)(hb:oC Cb true fl b=b):∀{h:List (Nat×List aD)},(∀q∈h,oC Cb true fl q.2=q.2)->oC Cb true fl (oJ J b h)=oJ J b h
 |[],_=>hb
 |q::r,h=>by
  simp only[oJ];split
  .exact h q (by simp)
  .exact Qh J hb λp hp=>h p (by simp[hp])
def Lu(op:Oper)(s:AS):AV:=match op.dst with
 |some d=>s.t.getD d .undef
 |none=> .undef
def kJ(P:Program)[aB P](l:List Oper)(t:List AV)(b:List aD)(fl:List (Nat×Nat×List AV))(K:AS->Prop):Nat->List Oper->List AV->List (Nat×List aD)->Prop
 |i,[],vs,h=>K ⟨jI (λ_=>true) 0 l vs t,oC (λk=>decide (k<i)) false fl (top b h)⟩
 |i,op::r,vs,h=>(∃q∈fl,q.1=i/\op.guard=none/\(∃T,op.op= .alloc T/\nC P T=some q.2.2)/\(∀e∈pre op,e<i)/\kJ P l t b fl K (i+1) r (vs++[.ptr q.2.1 1 0 0]) h)\/
   ((∀q∈fl,q.1≠i)/\qG op.op ⟨rP i (pre op) 0 l vs t,oC (qZ (pre op)) true fl (oJ (qZ (pre op)) b h)⟩=true/\(∀e∈pre op,e<i)/\
   qH P l op ⟨rP i (pre op) 0 l vs t,oC (qZ (pre op)) true fl (oJ (qZ (pre op)) b h)⟩ λs'=>
    (Bu (pre op) h=true\/s'.o.length=(oJ (qZ (pre op)) b h).length)/\
    kJ P l t b fl K (i+1) r (vs++[Lu op s']) (if s'.o.length=(oJ (qZ (pre op)) b h).length then h else(i,oC Cb true fl s'.o)::h))\/
   (vX l i=true/\zV (λz=>vW P l K (left ((range l.length).map (jz i z))) ((range l.length).map (jz i z)) ⟨jI (jz i z) 0 l vs t,oC (jz i z) false fl (oJ (jz i z) b h)⟩) [] (rY l i))\/
   (vX l i=true/\AR l i=true/\gV P l (op::r) ⟨jI (λk=>decide (k<i)) 0 l vs t,oC (λk=>decide (k<i)) false fl (top b h)⟩ K)
structure Item(P:Program)[aB P](l:List Oper)(t:List AV)(b:List aD)(fl:List (Nat × Nat × List AV))(j:Nat)(op:Oper)(vs:List AV)(hf:List (Nat × List aD)): Prop where
  pre:∀ e ∈ pre op, e<j
  ex:(∃ q ∈ fl, q.1 = j /\ op.guard = none /\ (∃ T, op.op = .alloc T /\ nC P T = some q.2.2) /\ vs.getD j .undef = .ptr q.2.1 1 0 0 /\ ∀ p ∈ hf, p.1 ≠ j) \/
    ((∀ q ∈ fl, q.1 ≠ j) /\ ∃ x new hj OJ, qG op.op ⟨rP j (Aw.pre op) 0 l (vs.take j) t, oC (qZ (Aw.pre op)) true fl (oJ (qZ (Aw.pre op)) b hj)⟩ = true /\ hf = OJ ++ hj /\ (∀ q ∈ hj, q.1<j) /\ (vs.getD j .undef = x \/ vs.getD j .undef = .undef) /\
    qH P l op ⟨rP j (Aw.pre op) 0 l (vs.take j) t, oC (qZ (Aw.pre op)) true fl (oJ (qZ (Aw.pre op)) b hj)⟩ (λs' => s' = ⟨uH (rP j (Aw.pre op) 0 l (vs.take j) t) op.dst x, oC (qZ (Aw.pre op)) true fl (oJ (qZ (Aw.pre op)) b hj) ++ new⟩) /\
    ((new = [] /\ ∀ q ∈ OJ, j<q.1) \/ (Bu (Aw.pre op) hj = true /\ ∃ s2, OJ = s2 ++ [(j, oJ (qZ (Aw.pre op)) b hj ++ new)] /\ ∀ q ∈ s2, j<q.1)))
theorem SV{b:List aD}{pr:List Nat}{h:List (Nat×List aD)}(ht:Bu pr h=true):oJ (qZ pr) b h=top b h:=by
 cases h with
 |nil=>rfl
 |cons q r=>simp only[Bu]at ht;simp only[oJ,top,qZ,ht,eI]
theorem OL{P:Program}[aB P]{op:Oper}{t t2:List AV}{o o2:List aD}{K:AS->Prop}(h:Ni P op ⟨t,o⟩ K):
  ∃x new x2,K ⟨uH t op.dst x,o++new⟩/\(x=x2\/x= .undef)/\(o2.length=o.length\/new=[])/\∀K2:AS->Prop,K2 ⟨uH t2 op.dst x2,o2++new⟩->Ni P op ⟨t2,o2⟩ K2:=by
 obtain⟨dst,op,ty,pos,after,gd⟩:=op;unfold Ni at h;dsimp only at h;split at h
 .split at h
  .rename_i e n by' he;refine⟨.sl .own n [],[],.sl .own n [],by rw[cY,<-put_eq];exact h.2,.inl rfl,.inr rfl,λK2 hK=> ?_⟩;rw[cY]at hK;rename_i tt _;show(match nK P tt with
    |some (e,n,_)=>jR P e n=true/\K2 (AS.put ⟨t2,o2⟩ dst (.sl .own n []))
    |none=>False)
   rw[he];exact⟨h.1,by rw[put_eq];exact hK⟩
  .exact h.elim
 .exact h.elim
theorem IP{P:Program}[aB P]{l:List Oper}{op:Oper}{t t2:List AV}{o o2:List aD}{K:AS->Prop}(q:qG op.op ⟨t,o⟩=true)(hw:wk t2 t)(h:qH P l op ⟨t,o⟩ K)(hs:Sub o o2)(vT:o2.length=o.length\/∀s',K s'->s'.o.length=o.length):
  ∃x new x2,K ⟨uH t op.dst x,o++new⟩/\(x=x2\/x= .undef)/\(o2.length=o.length\/new=[])/\∀K2:AS->Prop,K2 ⟨uH t2 op.dst x2,o2++new⟩->qH P l op ⟨t2,o2⟩ K2:=by
 unfold qH at h;split at h
 .rename_i hg;rcases h with h|h
  .obtain ⟨x,new,x2,h1,h2,h3,h4⟩:=Sr q hw h hs vT;exact⟨x,new,x2,h1,h2,h3,λK2 hK=>by unfold qH;simp only[hg];exact .inl (h4 K2 hK)⟩
  .obtain ⟨x,new,x2,h1,h2,h3,h4⟩:=OL (t2:=t2) (o2:=o2) h;exact⟨x,new,x2,h1,h2,h3,λK2 hK=>by unfold qH;simp only[hg];exact .inr (h4 K2 hK)⟩
 .rename_i j want hg;split at h
  .rename_i b hb;have hb2:mE l ⟨t2,o2⟩ j want= .bool b:=by
    unfold mE at hb⊢;split at hb
    .rename_i o' ho';split at hb
     .rename_i d hd;rcases Vh d hw with e|e
      .rw [<-e];exact hb
      .rw [e]at hb;cases hb
     .cases hb
    .cases hb
   by_cases hbw:b=want
   .rcases h.1 hbw with h|h
    .obtain ⟨x,new,x2,h1,h2,h3,h4⟩:=Sr q hw h hs vT;exact⟨x,new,x2,h1,h2,h3,λK2 hK=>by unfold qH;simp only[hg,hb2];exact⟨λ_=> .inl (h4 K2 hK),λhn=>absurd hbw hn⟩⟩
    .obtain ⟨x,new,x2,h1,h2,h3,h4⟩:=OL (t2:=t2) (o2:=o2) h;exact⟨x,new,x2,h1,h2,h3,λK2 hK=>by unfold qH;simp only[hg,hb2];exact⟨λ_=> .inr (h4 K2 hK),λhn=>absurd hbw hn⟩⟩
   .have h1:=h.2 hbw;rw[put_eq]at h1;exact⟨.fH [],[],.fH [],by rw[cY];exact h1,.inl rfl,.inr rfl,λK2 hK=>by
     unfold qH;simp only[hg,hb2];refine⟨λhn=>absurd hn hbw,λ_=> ?_⟩;rw[put_eq];rw[cY]at hK;exact hK⟩
  .exact h.elim
def aHx(P:Program)[aB P](l:List Oper)(t:List AV)(b:List aD)(fl:List (Nat×Nat×List AV))(K:AS->Prop)(m:Nat)(vs:List AV)(h:List (Nat×List aD)):Prop:=
 (m=l.length/\K ⟨jI (λ_=>true) 0 l vs t,oC (λk=>decide (k<m)) false fl (top b h)⟩)\/
 (m<l.length/\vX l m=true/\zV (λz=>vW P l K (left ((range l.length).map (jz m z))) ((range l.length).map (jz m z)) ⟨jI (jz m z) 0 l vs t,oC (jz m z) false fl (oJ (jz m z) b h)⟩) [] (rY l m))\/
 (m<l.length/\vX l m=true/\AR l m=true/\gV P l (l.drop m) ⟨jI (λk=>decide (k<m)) 0 l vs t,oC (λk=>decide (k<m)) false fl (top b h)⟩ K)
theorem CY{P:Program}[aB P]{l:List Oper}{t:List AV}{b:List aD}{fl:List (Nat × Nat × List AV)}{K:AS -> Prop}(hnd:(fl.map (·.2.1)).Nodup)(hsl:∀ q ∈ fl, q.2.1<b.length)(hb:oC Cb true fl b = b): ∀ (r:List Oper) (i:Nat) (vs:List AV) (h:List (Nat × List aD)), l.drop i = r -> vs.length = i -> i <= l.length -> (∀ q ∈ h, q.1<i) -> (∀ q ∈ h, oC Cb true fl q.2 = q.2) -> yG l b h -> kJ P l t b fl K i r vs h ->
    ∃ m vs' hf, i <= m /\ aHx P l t b fl K m (vs ++ vs') hf /\ yG l b hf /\ (∃ OJ, hf = OJ ++ h /\ ∀ q ∈ OJ, i <= q.1 /\ q.1<m) /\ (∀ q ∈ hf, oC Cb true fl q.2 = q.2) /\ ∀ j op, i <= j -> j<m -> l[j]? = some op -> Item P l t b fl j op (vs ++ vs') hf
  | [], i, vs, h, hr, hv, hi, hlt, hN, hc, hd => by
    have hil : i = l.length := by have : l.length <= i := by simpa using hr
                                  omega
    subst hil;refine⟨l.length, [], h, cX _, ?_, hc, ⟨[], rfl, by simp⟩, hN, λj op hij hj => by omega⟩;simp only[kJ]at hd;exact .inl ⟨rfl, by simpa using hd⟩
  | op :: r, i, vs, h, hr, hv, hi, hlt, hN, hc, hd => by
    have hil:i<l.length := by
      rcases At i l.length with h' | h'
      · exact h'
      · rw[AK h']at hr; cases hr
    have hop:l[i]? = some op := by
      have := CH head? hr;rw[head?_drop]at this; simpa using this
    have hdr:l.drop (i+1) = r := by rw[<- tI, hr]; rfl
    simp only[kJ]at hd;rcases hd with⟨q, hq, hqi, hg, hT, hpr, hd⟩ | ⟨hnf, hq, hpr, ha⟩ | ⟨htl, ha⟩ | ⟨htl, aHy, ha⟩;case inr.inr.inr =>
      refine⟨i, [], h, cX _, ?_, hc, ⟨[], rfl, by simp⟩, hN, λj op' hij hj => by omega⟩;rw[cY];exact .inr (.inr ⟨hil, htl, aHy, by rw[hr]; exact ha⟩)
    case inr.inr.inl =>
      refine⟨i, [], h, cX _, ?_, hc, ⟨[], rfl, by simp⟩, hN, λj op' hij hj => by omega⟩;rw[cY];exact .inr (.inl ⟨hil, htl, ha⟩)
    case inl =>
      obtain⟨m, vs', hf, km, k1, k2, ⟨OJ, k3, k4⟩, k6, k5⟩ := CY hnd hsl hb r (i+1) (vs ++ [.ptr q.2.1 1 0 0]) h hdr (by simp[hv]) (by omega) (λq hq => by have := hlt q hq; omega) hN hc hd;refine⟨m, .ptr q.2.1 1 0 0 :: vs', hf, by omega, by simpa using k1, k2, ⟨OJ, k3, λq hq => by have := k4 q hq; omega⟩, k6, λj op' hij hjm hj => ?_⟩;by_cases hji:j = i
      · subst hji
        rw[hop]at hj; obtain rfl := cD hj;refine⟨hpr, .inl ⟨q, hq, hqi, hg, hT, ?_, λp hp => ?_⟩⟩
        · rw[lO, hU (by omega), hv, Bk]; rfl
        · rw[k3]at hp
          rcases fR.1 hp with hp | hp
          · have := k4 p hp; omega
          · have := hlt p hp; omega
      · have := k5 j op' (by omega) hjm hj
        simpa using this
    have hsub:Sub (oC (qZ (pre op)) true fl (oJ (qZ (pre op)) b h)) (oC (qZ (pre op)) true fl (oJ (qZ (pre op)) b h)) := λ_ _ h _ => h
    obtain⟨x, new, x2, ⟨h1, h2⟩, _, _, h3⟩ := IP hq (uN _) ha hsub (.inl rfl);have h4 := h3 (λs' => s' = ⟨uH (rP i (pre op) 0 l vs t) op.dst x2, oC (qZ (pre op)) true fl (oJ (qZ (pre op)) b h) ++ new⟩) rfl;have hval:∀ (y:AV) (os:List aD), Lu op ⟨uH (rP i (pre op) 0 l vs t) op.dst y, os⟩ = y \/ Lu op ⟨uH (rP i (pre op) 0 l vs t) op.dst y, os⟩ = .undef := by
      intro y os;unfold Lu uH;cases op.dst with
      | none => exact .inr rfl
      | some d =>
        dsimp only;rw[lO, getElem?_set_self'];cases (rP i (pre op) 0 l vs t)[d]? with
        | none => exact .inr rfl
        | some z => exact .inl rfl
    obtain⟨aKv, hbase⟩ := Xi (J := qZ (pre op)) hc;have aA3:∀ q ∈ fl, q.2.1<(oJ (qZ (pre op)) b h).length := λq hq => by rw[hbase]; have := hsl q hq; simp; omega
    have aD6:oC Cb true fl (oC (qZ (pre op)) true fl (oJ (qZ (pre op)) b h) ++ new) = oJ (qZ (pre op)) b h ++ new := by
      rw[Kg (by rw[nI]; exact aA3), E9 hnd aA3, Qh _ hb hN]
    simp only[aD6]at h2;generalize hvv:Lu op ⟨uH (rP i (pre op) 0 l vs t) op.dst x, oC (qZ (pre op)) true fl (oJ (qZ (pre op)) b h) ++ new⟩ = vv at h2;have hvx:vv = x2 \/ vv = .undef := by
      rcases hval x (oC (qZ (pre op)) true fl (oJ (qZ (pre op)) b h) ++ new)with e | e
      · rw[hvv]at e; subst e; assumption
      · rw[hvv]at e; exact .inr e
    have hlen:((oC (qZ (pre op)) true fl (oJ (qZ (pre op)) b h) ++ new).length = (oJ (qZ (pre op)) b h).length) ↔ new = [] := by
      rw[eJ, nI]; constructor
      · intro e; exact hM (by omega)
      · rintro rfl; simp
    have item:∀ (vs':List AV) (hf:List (Nat × List aD)), ((∃ OJ, hf = OJ ++ h /\ new = [] /\ ∀ q ∈ OJ, i<q.1) \/ (Bu (pre op) h = true /\ ∃ s2, hf = s2 ++ (i, oJ (qZ (pre op)) b h ++ new) :: h /\ ∀ q ∈ s2, i<q.1)) -> Item P l t b fl i op ((vs ++ [vv]) ++ vs') hf := by
      intro vs' hf hcase;have e1:((vs ++ [vv]) ++ vs').take i = vs := by rw[tD, take_left' hv]
      have e2:((vs ++ [vv]) ++ vs').getD i .undef = vv := by
        rw[tD, lO, hU (by omega), hv, Bk]; rfl
      refine⟨hpr, .inr ⟨hnf, x2, new, h, ?_⟩⟩;rw[e1, e2];rcases hcase with⟨OJ, rfl, hn, hs⟩ | ⟨ht, s2, rfl, hs⟩
      · exact⟨OJ, hq, rfl, hlt, hvx, h4, .inl ⟨hn, hs⟩⟩
      · exact⟨s2 ++ [(i, oJ (qZ (pre op)) b h ++ new)], hq, by simp, hlt, hvx, h4, .inr ⟨ht, s2, rfl, hs⟩⟩
    by_cases hnew:new = []
    · rw[eA (hlen.2 hnew)]at h2
      obtain⟨m, vs', hf, km, k1, k2, ⟨OJ, k3, k4⟩, k6, k5⟩ := CY hnd hsl hb r (i+1) (vs ++ [vv]) h hdr (by simp[hv]) (by omega) (λq hq => by have := hlt q hq; omega) hN hc h2;refine⟨m, vv :: vs', hf, by omega, by simpa using k1, k2, ⟨OJ, k3, λq hq => by have := k4 q hq; omega⟩, k6, λj op' hij hjm hj => ?_⟩;by_cases hji:j = i
      · subst hji
        rw[hop]at hj; obtain rfl := cD hj;have := item vs' hf (.inl ⟨OJ, k3, hnew, λq hq => by have := k4 q hq; omega⟩);simpa using this
      · have := k5 j op' (by omega) hjm hj
        simpa using this
    · rw[cU (λe => hnew (hlen.1 e))]at h2
      have ht:Bu (pre op) h = true := h1.resolve_right (λe => hnew (hlen.1 e));have hc':yG l b ((i, oJ (qZ (pre op)) b h ++ new) :: h) := by
        refine⟨⟨new, by rw[SV ht]⟩, λp hp => ?_, hc⟩;cases h with
        | nil => cases hp
        | cons q h =>
          obtain rfl := cD hp;exact⟨hlt _ (by simp), op, hop, by simpa [Bu]using ht⟩
      obtain⟨m, vs', hf, km, k1, k2, ⟨OJ, k3, k4⟩, k6, k5⟩ := CY hnd hsl hb r (i+1) (vs ++ [vv]) _ hdr (by simp[hv]) (by omega) (λq hq => by
        rcases lE.1 hq with rfl | hq
        · simp
        · have := hlt q hq; omega) (λq hq => by
        rcases lE.1 hq with rfl | hq
        · show oC Cb true fl (oJ (qZ (pre op)) b h ++ new) = _
          rw[Kg aA3, Qh _ hb hN]
        · exact hN q hq) hc' h2
      refine⟨m, vv :: vs', hf, by omega, by simpa using k1, k2, ⟨OJ ++ [(i, oJ (qZ (pre op)) b h ++ new)], by simp[k3], λq hq => by
        rcases fR.1 hq with hq | hq
        · have := k4 q hq; omega
        · simp at hq; subst hq; exact⟨by simp, by omega⟩⟩, k6, λj op' hij hjm hj => ?_⟩
      by_cases hji:j = i
      · subst hji
        rw[hop]at hj; obtain rfl := cD hj;have := item vs' hf (.inr ⟨ht, OJ, k3, λq hq => by have := k4 q hq; omega⟩);simpa using this
      · have := k5 j op' (by omega) hjm hj
        simpa using this
theorem Yg{P:Program}[aB P]{id:Nat}{l:List Oper}{s:AS}{Q:Exit->AS->Prop}{fl:List (Nat×Nat×List AV)}{b:List aD}(hfw:IL l=true)(hdst:distinct l=true)(hfl:jq fl b.length=true)(hb:oC Cb true fl b=b)(hb0:oC Cb false fl b=s.o++(fl.map (·.2.2.length)).map λn=>⟨true,false,n,0,[]⟩)
  (h:kJ P l s.t b fl (Q .normal) 0 l [] []):kY P (.region id l.toArray true) s Q:=by
 simp only[jq,eC,gS,gR]at hfl;obtain⟨aHz,hnd,hsl⟩:=hfl;obtain⟨m,vs,hf,_,hK,hc,⟨aD7,V5,Nr⟩,hN,hit⟩:=CY hnd hsl hb l 0 [] [] rfl rfl (by omega) (by simp) (by simp) trivial h;simp only[cW]at hK hit;have aH0:∀j op,j<m->l[j]? =some op->Item P l s.t b fl j op vs hf:=λj op hjm hj=>hit j op (by omega) hjm hj
 have aA4:∀J:Nat->Bool,∀q∈fl,q.2.1<(oJ J b hf).length:=λJ q hq=>by obtain⟨ext,he⟩:=Xi (J:=J) hc;rw[he];have:=hsl q hq;simp;omega
 unfold kY;have hml:m<=l.length:=by
  rcases hK with h|h|h
  .omega
  .omega
  .omega
 have hrest:vX l m=true:=by
  rcases hK with h|h|h
  .rw [h.1];unfold vX;rw[gR];intro i hi;simp at hi;simp only[tW,gS];exact .inl (by omega)
  .exact h.2.1
  .exact h.2.1
 refine jl (ops:=l.toArray) m (by simpa using hml) (by simpa using hfw) (by simpa using hrest) (λJ=>⟨jI J 0 l vs s.t,oC J false fl (oJ J b hf)⟩) ?_ ?_ ?_
 .have e1:∀(l:List Oper) (j:Nat) (vs t:List AV),jI (λ_=>false) j l vs t=t:=by
   intro l;induction l with
   |nil=>intros;rfl
   |cons op r ih=>intro j vs t;simp only[jI];rw[ih];unfold xC;cases op.dst<;>simp
  have e2:∀h:List (Nat×List aD),oJ (λ_=>false) b h=b:=by
   intro h;induction h with
   |nil=>rfl
   |cons q r ih=>simp[oJ,ih]
  rw[e1,e2];have e3:oC (λ_=>false) false fl b=_:=hb0;rw[e3];exact λ_ _ _ _ _ r=>UG _ r
 .intro i op him hi;have hi':l[i]? =some op:=by simpa using hi
  have it:=aH0 i op him hi';intro J hJ hJm hJi hpre;have hJ':Xd l J:=by simpa using hJ
  rcases it.ex with⟨q,hq,hqi,hg,⟨T,hT,hz⟩,hval,hne⟩|⟨hnf,x,new,hj,OJ,hqq,hfe,hlt,hvx,hop,hcase⟩
  .right;refine⟨hg,λB=> ?_⟩;have hoJ:∀h:List (Nat×List aD),(∀p∈h,p.1≠i)->oJ (dW J i) b h=oJ J b h:=by
    intro h;induction h with
    |nil=>intro _;rfl
    |cons p r ih=>
     intro hq;simp only[oJ];rw[ih λp hp=>hq p (by simp[hp])];have:dW J i p.1=J p.1:=by unfold dW;rw[cU (hq p (by simp))]
     rw[this]
   have hto:jI (dW J i) 0 l vs s.t=uH (jI J 0 l vs s.t) op.dst (.ptr q.2.1 1 0 0):=by
    have:=Ha l 0 i op vs s.t (.ptr q.2.1 1 0 0) hdst hi' (by simpa using hJi) hval
    rwa[gE]at this
   have aH1:oC (dW J i) false fl (oJ J b hf)=(oC J false fl (oJ J b hf)).set q.2.1 ⟨true,true,q.2.2.length,1,[q.2.2]⟩:=by rw[<-hqi];exact F3 aHz hnd (aA4 J) hq
   rw[hto,hoJ hf hne,aH1];have aD9:(oC J false fl (oJ J b hf))[q.2.1]? =some ⟨true,false,q.2.2.length,0,[]⟩:=by rw[yH hnd hq (aA4 J q hq)];unfold xq;rw[cU (by rw[hqi,hJi];simp)];rfl
   obtain⟨dst,o,ty,pos,after,gd⟩:=op;dsimp only at hT hg⊢;subst hT;have:=PG (B:=B) (s:=⟨jI J 0 l vs s.t,oC J false fl (oJ J b hf)⟩) (dst:=dst) (ty:=ty) (pos:=pos) (after:=after) (gd:=gd) T hz aD9;rw[put_eq]at this;exact this
  left;have V6:wk (jI J 0 l vs s.t) (rP i (pre op) 0 l (vs.take i) s.t):=
   OG hJi (λe he=>⟨hpre e he,it.pre e he⟩) l 0 vs (vs.take i) s.t s.t (λk q hk hJk=>hJ' k q hk (by simpa using hJk)) (λk hk=>by
    rw[lO,lO,By];simp[show k<i by omega]) (uN _)
  have V7:∀(J':Nat->Bool) (s2:List (Nat×List aD)),(∀q∈s2,J' q.1=false)->∀h',oJ J' b (s2++h')=oJ J' b h':=λJ' s2 h1 h'=>Qg J' b h1
  have aH2:∀q:Nat×List aD,i<=q.1->qZ (pre op) q.1=false:=λq hq=>by
   cases hb:qZ (pre op) q.1 with
   |false=>rfl
   |true=>have:=it.pre q.1 (by simpa [qZ]using hb);omega
  have hoc:oJ (qZ (pre op)) b hf=oJ (qZ (pre op)) b hj:=by
   rw[hfe];refine Qg _ _ λq hq=>aH2 q ?_
   rcases hcase with⟨_,h1⟩|⟨_,s2,rfl,h1⟩
   .have:=h1 q hq;omega
   .rcases fR.1 hq with hq|hq
    .have:=h1 q hq;omega
    .simp at hq;subst hq;simp
  obtain⟨ext,vT⟩:=Vv (J:=J) hpre hc;rw[hoc]at vT;have aEa:∀q∈fl,q.2.1<(oJ (qZ (pre op)) b hj).length:=λq hq=>by rw[<-hoc];exact aA4 _ q hq
  have rJ:(new=[]/\oJ (dW J i) b hf=oJ J b hf)\/(ext=[]/\oJ (dW J i) b hf=oJ (qZ (pre op)) b hj++new):=by
   rcases hcase with⟨h1,h2⟩|⟨ht,s2,rfl,h2⟩
   .refine .inl ⟨h1,?_⟩;have:∀h:List (Nat×List aD),(∀q∈h,q.1≠i)->oJ (dW J i) b h=oJ J b h:=by
     intro h;induction h with
     |nil=>intro _;rfl
     |cons q r ih=>
      intro hq;simp only[oJ];rw[ih λp hp=>hq p (by simp[hp])];have:dW J i q.1=J q.1:=by unfold dW;rw[cU (hq q (by simp))]
      rw[this]
    refine this hf λq hq=> ?_
    rw[hfe]at hq;rcases fR.1 hq with hq|hq
    .have:=h2 q hq;omega
    .have:=hlt q hq;omega
   .right;have aA5:hf=s2++(i,oJ (qZ (pre op)) b hj++new)::hj:=by simp[hfe]
    have hs2:=IM hJ' (s:=s2) (by rw[<-aA5];exact hc) hJi;constructor
    .have h3:oJ J b hf=oJ J b hj:=by rw[aA5,V7 J s2 hs2];simp only[oJ];rw[cU (by rw[hJi];simp)]
     have h4:oJ J b hj=oJ (qZ (pre op)) b hj:=by
      rw[SV ht];cases hj with
      |nil=>rfl
      |cons q r=>simp only[Bu,gS]at ht;simp only[oJ,top];rw[eA (hpre _ ht)]
     rw[h3,h4]at vT;have:=CH length vT;rw[eJ]at this;exact hM (by omega)
    .rw [aA5,V7 (dW J i) s2 (λq hq=>by
      have:=h2 q hq;unfold dW;rw[cU (by omega)];exact hs2 q hq)]
     simp[oJ,dW]
  have hsub:Sub (oC (qZ (pre op)) true fl (oJ (qZ (pre op)) b hj)) (oC J false fl (oJ J b hf)):=by rw[vT];exact F4 hnd aEa hpre
  obtain⟨x',new',x2,rfl',hx2,_,hfin⟩:=IP (o2:=oC J false fl (oJ J b hf)) hqq V6 hop hsub (by
   rcases rJ with⟨h1,_⟩|⟨h1,_⟩
   .right;rintro s' rfl;simp[h1]
   .left;rw[nI,nI,vT,h1,cY])
  refine hfin _ ?_;have hset:new'=new/\(uH (rP i (pre op) 0 l (vs.take i) s.t) op.dst x'=uH (rP i (pre op) 0 l (vs.take i) s.t) op.dst x):=by simp only[AS.mk.injEq,append_cancel_left_eq]at rfl';exact⟨rfl'.2,rfl'.1⟩
  have hto:wk (uH (jI J 0 l vs s.t) op.dst x2) (jI (dW J i) 0 l vs s.t):=by
   have:=Ha l 0 i op vs s.t (vs.getD i .undef) hdst hi' (by simpa using hJi) rfl;rw[gE]at this;rw[this];have hL:=OE V6;unfold uH at hset⊢;cases hd:op.dst with
   |none=>exact uN _
   |some d=>
    rw[hd]at hset;dsimp only at hset⊢;rcases At d (jI J 0 l vs s.t).length with hdl|hle
    .have hxx:x'=x:=by have:=CH (λt=>t[d]?) hset.2;simpa [hL▸hdl]using this
     refine Qf d (uN _) ?_;rcases hvx with e|e
     .rw [e,<-hxx];assumption
     .exact .inr e
    .rw [set_eq_of_length_le hle,set_eq_of_length_le hle];exact uN _
  have aEb:∀o:List aD,oC (dW J i) false fl o=oC J false fl o:=λo=>OI λq hq=>by unfold dW;rw[cU (hnf q hq)]
  have aEc:oC J false fl (oJ J b hf)++new'=oC (dW J i) false fl (oJ (dW J i) b hf):=by
   rw[aEb,hset.1];rcases rJ with⟨h1,h2⟩|⟨h1,h2⟩
   .rw [h2,h1,cY]
   .rw [h2,Kg aEa,vT,h1,cY]
  rw[aEc];exact PU hto
 .intro J hJ hJm hor;have hJ':Xd l J:=by simpa using hJ
  have hsz:l.toArray.size=l.length:=by simp
  rw[hsz];have e0:l.toArray.toList=l:=by simp
  rw[e0]at hor⊢;rcases hK with⟨hme,hK⟩|⟨aA6,_,hK⟩|⟨aA6,_,htl,hK⟩
  .left;have hall:∀i,i<l.length->J i=true:=by
    intro i hi;rcases hor with h|⟨op,hop,_⟩
    .exact h i (by omega)
    .have:=(cA.1 hop).1;omega
   have e3:(range l.length).map J=replicate l.length true:=by
    refine CM λi=> ?_
    rw[tB,getElem?_replicate];by_cases hi:i<l.length
    .simp [hi,hall i hi]
    .simp [hi]
   have e4:left (replicate l.length true)=0:=by
    unfold left;rw[filter_eq_nil_iff.2]
    .rfl
    .intro x hx;rw[(mem_replicate.1 hx).2];simp
   rw[e3,e4];simp only[vW];have e5:jI J 0 l vs s.t=jI (λ_=>true) 0 l vs s.t:=Ca l 0 vs s.t λk hk=>by rw[gE];exact hall k hk
   have e6:oJ J b hf=top b hf:=by
    cases hf with
    |nil=>rfl
    |cons q r=>
     simp only[oJ,top];rw[eA];have:=(Nr q (by
      have:q::r=aD7:=by simpa using V5
      rw[<-this];simp)).2
     exact hall _ (by omega)
   have e7:oC J false fl (top b hf)=oC (λk=>decide (k<m)) false fl (top b hf):=by
    have:J=λk=>decide (k<m):=by
     funext k;by_cases hk:k<m
     .rw [hall k (by omega)];simp[hk]
     .rw [hJm k (by omega)];simp[hk]
    rw[this]
   rw[e5,e6,e7];exact hK
  .left;have hop:=aE aA6;have hpre:∀e∈pre l[m],J e=true:=by
    rcases hor with h|⟨op,hop',h⟩
    .exact λe he=>h e (CX hfw hop e he)
    .rw [hop]at hop';obtain rfl:=cD hop';exact h
   have e1:=aD4 hop hJ' hJm hpre;have:=Lt (λk=> !J k) (rY l m) [] hK;rw[cY,<-e1]at this;exact this
  .right;have hop:=aE aA6;have hall:∀i,i<m->J i=true:=by
    rcases hor with h|⟨op,hop',h⟩
    .exact h
    .exact jk htl hop' hJ' h
   refine⟨htl,hall,?_⟩;have hJf:J=λk=>decide (k<m):=by
    funext k;by_cases hk:k<m
    .rw [hall k hk];simp[hk]
    .rw [hJm k (by omega)];simp[hk]
   have e6:oJ J b hf=top b hf:=by
    cases hf with
    |nil=>rfl
    |cons q r=>
     simp only[oJ,top];rw[eA];have:=(Nr q (by
      have:q::r=aD7:=by simpa using V5
      rw[<-this];simp)).2
     exact hall _ (by omega)
   rw[e6,hJf];exact hK
theorem OM{P:Program}[aB P]{l:List Oper}{t:List AV}{b:List aD}{fl:List (Nat×Nat×List AV)}{K:AS->Prop}{i:Nat}{vs:List AV}{h:List (Nat×List aD)}{t':List AV}{o':List aD}(ht:jI (λ_=>true) 0 l vs t=t')(ho:oC (λk=>decide (k<i)) false fl (top b h)=o')(hk:K ⟨t',o'⟩):kJ P l t b fl K i [] vs h:=by simp only[kJ,ht,ho];exact hk
theorem ED{P:Program}[aB P]{l:List Oper}{t:List AV}{b:List aD}{fl:List (Nat×Nat×List AV)}{K:AS->Prop}{i:Nat}{op:Oper}{r:List Oper}{vs:List AV}{h:List (Nat×List aD)}
  {pr:List Nat} {m:List AV} {om:List aD} (hnf:(fl.all λq=>decide (q.1≠i))=true) (hpr:pre op=pr) (hlt:(pr.all λe=>decide (e<i))=true) (hm:rP i pr 0 l vs t=m) (ho:oC (qZ pr) true fl (oJ (qZ pr) b h)=om) (hq:qG op.op ⟨m,om⟩=true)
  (ha:qH P l op ⟨m,om⟩ λs'=>(Bu pr h=true\/s'.o.length=om.length)/\kJ P l t b fl K (i+1) r (vs++[Lu op s']) (if s'.o.length=om.length then h else(i,oC Cb true fl s'.o)::h)):kJ P l t b fl K i (op::r) vs h:=by
 subst hpr;subst hm;subst ho;simp only[kJ];simp only[nI]at ha;exact .inr (.inl ⟨λq hq=>by have:=gR.1 hnf q hq;simpa using this,hq,λe he=>by have:=gR.1 hlt e he;simpa using this,ha⟩)
theorem SX{P:Program}[aB P]{l:List Oper}{t:List AV}{b:List aD}{fl:List (Nat×Nat×List AV)}{K:AS->Prop}{i:Nat}{op:Oper}{r:List Oper}{vs:List AV}{h:List (Nat×List aD)}{q:Nat×Nat×List AV}{T:TypeId}
  (hq:fl.find? (λq=>q.1 == i)=some q) (hg:op.guard=none) (hT:op.op= .alloc T) (hz:nC P T=some q.2.2) (hlt:((pre op).all λe=>decide (e<i))=true) (hd:kJ P l t b fl K (i+1) r (vs++[.ptr q.2.1 1 0 0]) h):kJ P l t b fl K i (op::r) vs h:=by
 simp only[kJ];refine .inl ⟨q,AN hq,by have:=find?_some hq;simpa using this,hg,⟨T,hT,hz⟩,λe he=>by have:=gR.1 hlt e he;simpa using this,hd⟩
theorem He{P:Program}[aB P]{l:List Oper}{t:List AV}{b:List aD}{fl:List (Nat×Nat×List AV)}{K:AS->Prop}{i:Nat}{op:Oper}{r:List Oper}{vs:List AV}{h:List (Nat×List aD)}{z:List Nat}
  (hr:vX l i=true) (hz:rY l i=z) (ha:zV (λz=>vW P l K (left ((range l.length).map (jz i z))) ((range l.length).map (jz i z)) ⟨jI (jz i z) 0 l vs t,oC (jz i z) false fl (oJ (jz i z) b h)⟩) [] z):kJ P l t b fl K i (op::r) vs h:=by
 subst hz;simp only[kJ];exact .inr (.inr (.inl ⟨hr,ha⟩))
theorem OO{P:Program}[aB P]{l:List Oper}{t t':List AV}{b b':List aD}{fl:List (Nat×Nat×List AV)}{K:AS->Prop}{i:Nat}{op:Oper}{r:List Oper}{vs:List AV}{h:List (Nat×List aD)}
  (htl:(vX l i&&AR l i)=true) (ht:jI (λk=>decide (k<i)) 0 l vs t=t') (ho:oC (λk=>decide (k<i)) false fl (top b h)=b') (ha:gV P l (op::r) ⟨t',b'⟩ K):kJ P l t b fl K i (op::r) vs h:=by
 subst ht;subst ho;simp only[eC]at htl;simp only[kJ];exact .inr (.inr (.inr ⟨htl.1,htl.2,ha⟩))
def IQ(J:Nat->Bool):Nat->List Oper->List Bool
 |_,[]=>[]
 |j,_::r=>J j::IQ J (j+1) r
theorem OP{J:Nat->Bool}:∀(l:List Oper) (j i:Nat),(IQ J j l)[i]? =if i<l.length then some (J (j+i))else none
 |[],_,_=>by simp[IQ]
 |_::r,j,0=>by simp[IQ]
 |_::r,j,i+1=>by simp only[IQ,sE,eE];rw[OP r (j+1) i,show j+1+i=j+(i+1)by omega];simp
theorem jr(J:Nat->Bool)(l:List Oper):(range l.length).map J=IQ J 0 l:=by
 refine CM λi=> ?_
 rw[OP,tB];by_cases hi:i<l.length
 .simp [hi]
 .simp [hi]
def Lv(d:List Bool):Nat->List Oper->List Nat
 |_,[]=>[]
 |i,op::r=>if (!d.getD i false&&(pre op).all λe=>d.getD e false)=true then i::Lv d (i+1) r else Lv d (i+1) r
theorem CZ{d:List Bool}:∀{l:List Oper} {k i:Nat},i∈Lv d k l↔∃j op,l[j]? =some op/\i=k+j/\(!d.getD i false&&(pre op).all λe=>d.getD e false)=true
 |[],k,i=>by simp[Lv]
 |op::r,k,i=>by
  simp only[Lv];constructor
  .intro h;by_cases hc:(!d.getD k false&&(pre op).all λe=>d.getD e false)=true
   .rw [eA hc]at h;rcases lE.1 h with rfl|h
    .exact ⟨0,op,rfl,rfl,hc⟩
    .obtain ⟨j,o,h1,h2,h3⟩:=CZ.1 h;exact⟨j+1,o,by simpa using h1,by omega,h3⟩
   .rw [cU hc]at h;obtain⟨j,o,h1,h2,h3⟩:=CZ.1 h;exact⟨j+1,o,by simpa using h1,by omega,h3⟩
  .rintro ⟨j,o,h1,rfl,h3⟩;cases j with
   |zero=>simp at h1;subst h1;rw[oS]at h3⊢;rw[eA h3];simp
   |succ j=>
    have:=CZ.2 ⟨j,o,by simpa using h1,show k+(j+1)=k+1+j by omega,h3⟩;split
    .exact AF _ this
    .exact this
theorem OQ{P:Program}[aB P]{l:List Oper}{K:AS->Prop}{n:Nat}{d:List Bool}{s:AS}{r':List Nat}(h:rO P l K n d s r'):∀r:List Nat,(∀i∈r,i∈r')->rO P l K n d s r
 |[],_=>by simp only[rO]
 |i::r,hs=>by simp only[rO];exact⟨GZ h i (hs i (by simp)),OQ h r λj hj=>hs j (by simp[hj])⟩
theorem go_all{P:Program}[aB P]{l:List Oper}{K:AS->Prop}{n:Nat}{d:List Bool}{s:AS}{rl:List Nat}(hr:Lv d 0 l=rl)(h:rO P l K n d s rl):vW P l K (n+1) d s:=by
 simp only[vW];refine OQ h _ λi hi=> ?_
 rw[<-hr,CZ];unfold Qe at hi;rw[Cd]at hi;obtain⟨h1,h2⟩:=hi;have hlt:i<l.length:=by simpa using h1
 have hop:=aE hlt;have hp:nM l i=pre l[i]:=by simp[nM,hop]
 exact⟨i,l[i],hop,by omega,by rw[<-hp];exact h2⟩
theorem go_end{P:Program}[aB P]{l:List Oper}{K:AS->Prop}{d:List Bool}{s:AS}(h:K s):vW P l K 0 d s:=by simpa only[vW]using h
theorem go_one{P:Program}[aB P]{l:List Oper}{K:AS->Prop}{n:Nat}{d d':List Bool}{s:AS}{i:Nat}{op:Oper}(hop:l[i]? =some op)(hd:d.set i true=d')(h:gV P l [op] s λs'=>vW P l K n d' s'):rO P l K n d s [i]:=by subst hd;simp only[rO];exact⟨⟨op,hop,h⟩,trivial⟩
theorem sy{P:Program}[aB P]{l:List Oper}{K:AS->Prop}{n:Nat}{d:List Bool}{s:AS}{i j:Nat}{r:List Nat}(h1:rO P l K n d s [i])(h2:rO P l K n d s (j::r)):rO P l K n d s (i::j::r):=by simp only[rO]at h1 h2⊢;exact⟨h1.1,h2⟩
theorem sx{F:List Nat->Prop}{acc:List Nat}{z:Nat}{r:List Nat}(h1:zV F acc r)(h2:zV F (z::acc) r):zV F acc (z::r):=⟨h1,h2⟩
theorem go_sub{P:Program}[aB P]{l:List Oper}{t t':List AV}{b o':List aD}{fl:List (Nat×Nat×List AV)}{K:AS->Prop}{i n:Nat}{vs:List AV}{h:List (Nat×List aD)}{acc:List Nat}{d:List Bool}(hd:IQ (jz i acc) 0 l=d)(hn:left d=n)(ht:jI (jz i acc) 0 l vs t=t')(ho:oC (jz i acc) false fl (oJ (jz i acc) b h)=o')
  (ha:vW P l K n d ⟨t',o'⟩):zV (λz=>vW P l K (left ((range l.length).map (jz i z))) ((range l.length).map (jz i z)) ⟨jI (jz i z) 0 l vs t,oC (jz i z) false fl (oJ (jz i z) b h)⟩) acc []:=by
 subst hn;subst ht;subst ho;subst hd;simp only[zV,jr];exact ha
theorem tH{P:Program}[aB P]{all:List Oper}{K1 K2:AS->Prop}(hk:∀s',K1 s'->K2 s'):∀(r:List Oper) (s:AS),gV P all r s K1->gV P all r s K2
 |[],s,h=>by simp only[gV]at h⊢;exact hk s h
 |o::r,s,h=>by
  simp only[gV]at h⊢;split at h
  .rcases h with h|h|h
   .exact .inl (Qc (tH hk r) h)
   .exact .inr (.inl (SN (tH hk r) h))
   .exact .inr (.inr (OD (tH hk r) h))
  .split at h
   .exact ⟨λe=>(h.1 e).imp (Qc (tH hk r)) (Or.imp (SN (tH hk r)) (OD (tH hk r))),λe=>tH hk r _ (h.2 e)⟩
   .exact h.elim
mutual
theorem SY{P:Program}[aB P]{l:List Oper}{K1 K2:AS->Prop}(hk:∀s',K1 s'->K2 s'):∀(n:Nat) (d:List Bool) (s:AS),vW P l K1 n d s->vW P l K2 n d s
 |0,d,s,h=>by simp only[vW]at h⊢;exact hk s h
 |n+1,d,s,h=>by simp only[vW]at h⊢;exact OT hk n d s _ h
theorem OT{P:Program}[aB P]{l:List Oper}{K1 K2:AS->Prop}(hk:∀s',K1 s'->K2 s'):∀(n:Nat) (d:List Bool) (s:AS) (r:List Nat),rO P l K1 n d s r->rO P l K2 n d s r
 |n,d,s,[],h=>by simp only[rO]
 |n,d,s,i::r,h=>by simp only[rO]at h⊢;obtain⟨⟨op,h1,h2⟩,h3⟩:=h;exact⟨⟨op,h1,tH (λs'=>SY hk n _ s') _ _ h2⟩,OT hk n d s r h3⟩
end
theorem Lx{F1 F2:List Nat->Prop}(hk:∀z,F1 z->F2 z):∀(z acc:List Nat),zV F1 acc z->zV F2 acc z
 |[],acc,h=>hk acc h
 |x::z,acc,h=>⟨Lx hk z acc h.1,Lx hk z (x::acc) h.2⟩
theorem Vw{P:Program}[aB P]{l:List Oper}{t:List AV}{b:List aD}{fl:List (Nat×Nat×List AV)}{K:AS->Prop}{i:Nat}{op:Oper}{r:List Oper}{vs:List AV}{h:List (Nat×List aD)}{z:List Nat}{s1:AS}
  (hr:vX l i=true) (hz:rY l i=z) (ha:zV (λz=>vW P l (λs'=>s'=s1) (left ((range l.length).map (jz i z))) ((range l.length).map (jz i z)) ⟨jI (jz i z) 0 l vs t,oC (jz i z) false fl (oJ (jz i z) b h)⟩) [] z) (hk:K s1):kJ P l t b fl K i (op::r) vs h:=
 He hr hz (Lx (λz h=>SY (λs' e=>by subst e;exact hk) _ _ _ h) _ _ ha)
def LA(P:Program):Nat->Nat->List Oper->List (Nat×Nat×List AV)
 |_,_,[]=>[]
 |i,n,op::r=>match op.op with
  | .alloc T=>match nC P T with
   |some z=>(i,n,z)::LA P (i+1) (n+1) r
   |none=>LA P (i+1) n r
  |_=>LA P (i+1) n r
attribute [irreducible] kJ
def bN(t:List AV):List (Nat×AV)->List AV
 |[]=>t
 |p::r=>bN (t.set p.1 p.2) r
theorem aY{P:Program}[aB P]{c:Code}{s:AS}{Q:Exit->AS->Prop}{ι:Type}(inv:List AV->List aD->ι->AS)(μ:ι->Nat)(i:ι)(h0:kR s (inv s.t s.o i))(h:∀i,∀K:AS->Prop,(∀s' j,kR s' (inv s.t s.o j)->μ j<μ i->K s')->kY P c (inv s.t s.o i) (sK K Q)):kY P (.loop c) s Q:=ai (inv s.t s.o) μ i h0 h
attribute [irreducible] zV
attribute [simp] IQ Lv jz left oC xq Cb LA pre jm rP xC jI oJ top Bu qZ Lu bN
theorem Yh{P:Program}[aB P]{all r:List Oper}{o:Oper}{s:AS}{K:AS->Prop}{j:Nat}{want:Bool}(hg:o.guard=some (j,want))(hb:mE all s j want= .bool (!want))(h:gV P all r (s.put o.dst (.fH [])) K):gV P all (o::r) s K:=by unfold gV;rw[hg];dsimp only;rw[hb];exact⟨λhn=>(by cases want<;>cases hn),λ_=>h⟩
theorem Ta{α:Type}{l:List α}{i:Nat}{x:α}(h:l[i]? =some x):l.set i x=l:=by obtain⟨hi,rfl⟩:=cA.1 h;exact set_getElem_self hi
theorem Vx{P:Program}[aB P]{all r:List Oper}{o:Oper}{s:AS}{K:AS->Prop}{j d:Nat}{want b:Bool}(hg:o.guard=some (j,want))(hd:(all[j]?).bind (·.dst)=some d)(hb:s.t[d]? =some (.bool b))
  (h1:b=true->gV P all (o::r) ⟨s.t.set d (.bool true),s.o⟩ K) (h2:b=false->gV P all (o::r) ⟨s.t.set d (.bool false),s.o⟩ K):gV P all (o::r) s K:=by
 cases b
 .have:=h2 rfl;rw[Ta hb]at this;exact this
 .have:=h1 rfl;rw[Ta hb]at this;exact this
def LB{α:Type}(f:α->Bool)(l:List α):Int:=if l.any f=true then(l.findIdx f:Nat)else -1
theorem Xj{α:Type}{f:α->Bool}{l:List α}{k:Nat}(h:k<l.length)(hf:f l[k]=true)(hn:∀x∈l.take k,f x=false):LB f l=k:=by
 unfold LB;rw[eA (any_eq_true.2 ⟨_,mL h,hf⟩)];have:l.findIdx f=k:=by rw[findIdx_eq h];refine⟨hf,λj hj=> ?_⟩;exact hn _ (mem_take_iff_getElem.2 ⟨j,by omega,rfl⟩)
 rw[this]
theorem Hf{α:Type}{f:α->Bool}{l:List α}(hn:∀x∈l,f x=false):LB f l= -1:=by unfold LB;rw[cU];intro h;obtain⟨x,hx,hf⟩:=any_eq_true.1 h;rw[hn x hx]at hf;cases hf
theorem Tc{α:Type}(f:α->Bool)(l:List α):decide (0<=LB f l)=l.any f:=by unfold LB;cases h:l.any f<;>simp
theorem gL{α:Type}{p:α->Prop}{l:List α}{k:Nat}(h:k<l.length)(ha:∀x∈l.take k,p x)(hk:p l[k]):∀x∈l.take (k+1),p x:=by
 rw[eN h];intro x hx;rcases fR.1 hx with hx|hx
 .exact ha x hx
 .rw [pB.1 hx];exact hk
theorem nS{α:Type}{p:α->Prop}{l:List α}{k:Nat}(hk:l.length<=k)(ha:∀x∈l.take k,p x):∀x∈l,p x:=by
 rwa[eL hk]at ha
open Go.ChangeShapes Go.WideShapes Go.ChangeAt Go.RowKit
inductive Sh
  | int (k:IntKind)
  | bool
  | str
  | sl (n:Nat) (row:List Sh)
mutual
def Fits:Sh->AV->Prop
 | .int k,.int k' n=>k'=k/\(Lit.int k n).wf=true
 | .bool,.bool _=>True
 | .str,.str s=>s.length<=maxLen
 | .sl n row,.sl g n' rows=>g= .view/\n'=n/\rows.length<=maxLen/\∀r∈rows,mR row r
 |_,_=>False
def mR:List Sh->List AV->Prop
 |[],[]=>True
 |s::ss,x::xs=>Fits s x/\mR ss xs
 |_,_=>False
end
theorem FD:∀{ss tt:List Sh} {xs ys:List AV},mR ss xs->mR tt ys->mR (ss++tt) (xs++ys)
 |[],_,[],_,_,h=>h
 |s::ss,_,x::xs,_,h,h'=>by simp only[mR,cM]at h⊢;exact⟨h.1,FD h.2 h'⟩
 |[],_,_::_,_,h,_=>h.elim
 |_::_,_,[],_,h,_=>h.elim
def O8(sh:TypeId->Option (List Sh))(P:Program):List Field->Nat->Option (List Sh)
 |[],_=>some []
 |x::xs,o=>if x.offset=o then match sh x.type with
   |some a=>if a.length=P.cellsOf x.type then match O8 sh P xs (o+a.length)with
     |some b=>some (a++b)
     |none=>none
    else none
   |none=>none
  else none
def WQ(P:Program):Nat->TypeId->Option (List Sh)
 |0,_=>none
 |f+1,t=>match P.underlying t with
  |some .bool=>some [.bool]
  |some (.int k)=>some [.int k]
  |some .string=>some [.str]
  |some (.slice e)=>match WQ P f e with
   |some row=>if row.length=P.cellsOf e/\0<row.length then some [.sl row.length row]else none
   |none=>none
  |some (.struct fs)=>match O8 (WQ P f) P fs.toList 0 with
   |some r=>if r.length=P.cellsOf t then some r else none
   |none=>none
  |_=>none
theorem IE{α:Type}{p:Nat->α->Prop}:∀(n:Nat),(∀i,i<n->∃x,p i x)->∃l:List α,l.length=n/\∀i x,l[i]? =some x->p i x
 |0,_=>⟨[],rfl,λi x h=>by simp at h⟩
 |n+1,h=>by
  obtain⟨l,hl,hp⟩:=IE n (λi hi=>h i (by omega));obtain⟨x,hx⟩:=h n (by omega);refine⟨l++[x],by simp[hl],λi y hy=> ?_⟩;by_cases hi:i<l.length
  .rw [nB hi]at hy;exact hp i y hy
  .rw [hU (by omega)]at hy;have:i-l.length=0:=by
    cases hk:i-l.length with
    |zero=>rfl
    |succ k=>rw[hk]at hy;simp at hy
   rw[this]at hy;simp at hy;subst hy;have:i=n:=by omega
   subst this;exact hx
theorem O9{w:World}{E:Env}{b n:Nat}:∀(rows:List (List AV)) (off:Nat),
  (∀j r,rows[j]? =some r->∃cs:List Value,cs.length=n/\bA w b (off+j*n) cs/\(∀x∈cs,x.oneCell'=true)/\Rc w E r cs [])->Rr w E rows b off n []
 |[],_,_=>by simp[Rr]
 |r::rs,off,h=>by obtain⟨cs,h1,h2,h3,h4⟩:=h 0 r rfl;refine⟨cs,[],[],h1,by simpa using h2,h3,h4,O9 rs (off+n) λj r hj=> ?_,rfl⟩;obtain⟨cs,h1,h2,h3,h4⟩:=h (j+1) r (by simpa using hj);exact⟨cs,h1,by rw[oE,Nat.one_mul,show off+(j*n+n)=off+n+j*n by omega]at h2;exact h2,h3,h4⟩
section
variable{H:Type}{enc:TypeId × Value -> H}{P:Program}[aB P]{w:World}{spare:Nat -> Bool}{held:Bool}
def Reads(enc:TypeId×Value->H)(P:Program)(w:World)(spare:Nat->Bool)(held:Bool)(t:TypeId)(ss:List Sh):Prop:=
 ∀fuel cs x,DataW.trod enc P w 0 spare held fuel t cs=some x->∃Ox,mR ss Ox/\Rc w (lI w) Ox cs []/\∀c∈cs,c.oneCell'=true
theorem FE{sh:TypeId->Option (List Sh)}(ih:∀t ss,sh t=some ss->Reads enc P w spare held t ss){n:Nat}{cs:List Value}:
  ∀(fs:List Field) (o:Nat) (rs:List Sh),O8 sh P fs o=some rs->(∀f∈fs,∃y,DataW.trod enc P w 0 spare held n f.type ((cs.drop f.offset).take (P.cellsOf f.type))=some y)->
   ∃Ox,mR rs Ox/\Rc w (lI w) Ox ((cs.drop o).take rs.length) []/\∀c∈(cs.drop o).take rs.length,c.oneCell'=true
 |[],o,rs,h,_=>by simp only[O8,cQ]at h;subst h;exact⟨[],by simp[mR],by simp[Rc],by simp⟩
 |f::fs,o,rs,h,hf=>by
  simp only[O8]at h;split at h
  .rename_i ho;split at h
   .rename_i a ha;split at h
    .rename_i hl;split at h
     .rename_i b hb;obtain rfl:=cD h;obtain⟨y,hy⟩:=hf f (by simp);obtain⟨x1,h1,h2,h3⟩:=ih _ _ ha _ _ _ hy;obtain⟨x2,h4,h5,h6⟩:=FE ih fs _ _ hb λf hf'=>hf f (by simp[hf'])
      rw[ho,<-hl]at h2 h3;have e:(cs.drop o).take (a++b).length=(cs.drop o).take a.length++(cs.drop (o+a.length)).take b.length:=by rw[eJ,take_add,tI]
      refine⟨x1++x2,FD h1 h4,by rw[e];exact gK h2 h5,λc hc=> ?_⟩;rw[e,fR]at hc;exact hc.elim (h3 c) (h6 c)
     .cases h
    .cases h
   .cases h
  .cases h
theorem reads:∀(f:Nat) (t:TypeId) (ss:List Sh),WQ P f t=some ss->Reads enc P w spare held t ss
 |0,_,_,h=>by simp[WQ]at h
 |f+1,t,ss,h=>by
  intro fuel cs x hx;unfold WQ at h;split at h
  .rename_i ht;obtain rfl:=cD h;obtain⟨b,rfl,_⟩:=DataW.trod_bool ht hx;exact⟨[.bool b],by simp[mR,Fits],by simp[Rc,R],by simp[Value.oneCell']⟩
  .rename_i k ht;obtain rfl:=cD h;obtain⟨n,rfl,_,hw⟩:=DataW.trod_int ht hx;exact⟨[.int k n],by simp[mR,Fits,hw],by simp[Rc,R],by simp[Value.oneCell']⟩
  .rename_i ht;obtain rfl:=cD h;obtain⟨s,rfl,_,hw⟩:=DataW.trod_string ht hx;exact⟨[.str s.data.toList],by simpa [mR,Fits]using hw,by simp[Rc,R],by simp[Value.oneCell']⟩
  .rename_i e ht;split at h
   .rename_i row ZV;split at h
    .rename_i hc;obtain rfl:=cD h;have ih:=reads f e row ZV;rcases DataW.trod_slice ht hx with⟨rfl,_⟩|⟨a,len,cap,elems,rest,n,_,rfl,_,_,hlc,WR,hlen,YT,_,_⟩
     .exact ⟨[.sl .view row.length []],by simp[mR,Fits],by simp[Rc,R,maxLen],by simp[Value.oneCell']⟩
     .rw [<-hc.1]at YT;have Sl:∀i,i<len->∃r:List AV,mR row r/\∃cs,w.cells? 0 (a.add (i*row.length)) row.length=some cs/\(∀x∈cs,x.oneCell'=true)/\Rc w (lI w) r cs []:=by intro i hi;have h1:=YT i hi;rw[aE (by omega)]at h1;obtain⟨cs,hcs,M8⟩:=Option.bind_eq_some_iff.1 h1;obtain⟨r,h2,h3,h4⟩:=ih _ _ _ M8;exact⟨r,h2,cs,hcs,h4,h3⟩
      obtain⟨rows,hrl,hrp⟩:=IE len Sl;refine⟨[.sl .view row.length rows],?_,?_,by simp[Value.oneCell']⟩
      .simp only[mR,Fits,mN,true_and];refine⟨by omega,λr hr=> ?_⟩;obtain⟨i,hi⟩:=getElem?_of_mem hr;exact(hrp i r hi).1
      .simp only[Rc];refine⟨[],[],?_,rfl,rfl⟩;simp only[R];refine .inr ⟨some a,cap,by rw[hrl],⟨by omega,by omega⟩,.inr (.inr ⟨by simp,trivial,?_⟩)⟩;by_cases hl0:len=0
       .exact .inl (length_eq_zero_iff.1 (by omega))
       right;have h0:rows[0]? =some rows[0]:=aE (by omega);obtain⟨_,cs0,aAq,_⟩:=hrp 0 _ h0;have hcell:=(World.cells?_some aAq).2.2 0 hc.2;have aJc:=(World.cells?_some aAq).2.1;have Q3:a.spot=none:=by
        have:w.cell? a=cs0[0]?:=by simpa [Addr.add]using hcell
        rw[aE (by omega)]at this;unfold World.cell? at this;split at this
        .split at this
         .cases this
         .rename_i hs;simpa using hs
        .cases this
       have yo:a.block<w.heap.size:=by have:=World.cells?_block aAq hc.2;unfold Addr.add at this;split at this<;>exact this
       obtain⟨ab,ao,asp⟩:=a;simp only at Q3 yo;subst Q3;refine⟨ab,ao,rfl,yo,O9 rows ao λj r hj=> ?_⟩;obtain⟨_,cs,hcs,h1,hR⟩:=hrp j r hj;have hs:=World.cells?_some hcs;refine⟨cs,hs.2.1,λk v hv=> ?_,h1,?_⟩
       .have hk:k<row.length:=by have:=(cA.1 hv).1;omega
        have:=hs.2.2 k hk;rw[hv]at this;rw[<-this];congr 1;unfold Addr.add;split<;>split<;>simp_all<;>omega
       .exact dC (w:=w) (w':=w) (E:=lI w) ⟨λb hb=>⟨hb,rfl⟩,λ_ h=>trivial,λ_ _ _ h=>by exact h.elim,λ_ _ _ h=>by exact h.elim,λ_ _ _ _ _ h=>by exact h.elim⟩ _ _ _ (by simp) hR
    .cases h
   .cases h
  .rename_i fs ht;split at h
   .rename_i r hr;split at h
    .rename_i hc;obtain rfl:=cD h;obtain⟨xs,n,_,_,Ip,hxl,Kb⟩:=DataW.trod_struct ht hx;obtain⟨Ox,h1,h2,h3⟩:=FE (enc:=enc) (w:=w) (spare:=spare) (held:=held) (n:=n) (cs:=cs) (reads f) fs.toList 0 _ hr λfl hfl=>by
      obtain⟨i,hi⟩:=getElem?_of_mem hfl;have:=Kb i fl (by simpa using hi);have hlt:=(cA.1 hi).1;simp at hlt;rw[aE (by omega)]at this;exact⟨_,this⟩
     rw[drop_zero,eL (by omega)]at h2 h3;exact⟨Ox,h1,h2,h3⟩
    .cases h
   .cases h
  .cases h
inductive zh
  | one (s:Sh)
  | agg (row:List Sh)
def aj:zh->AV->Prop
 | .one s,x=>Fits s x
 | .agg row,.agg c=>mR row c
 |_,_=>False
def GR:List zh->List AV->Prop
 |[],[]=>True
 |s::ss,x::xs=>aj s x/\GR ss xs
 |_,_=>False
def shV(P:Program)(f:Nat)(t:TypeId):Option zh:=match P.underlying t with
 |some (.struct _)=>(WQ P f t).map .agg
 |some .bool|some (.int _)|some .string|some (.slice _)=>match WQ P f t with
  |some [s]=>some (.one s)
  |_=>none
 |_=>none
def ak(P:Program)(f:Nat):List TypeId->Option (List zh)
 |[]=>some []
 |t::ts=>match shV P f t,ak P f ts with
  |some s,some ss=>some (s::ss)
  |_,_=>none
theorem cells_one{v:Value}(h:∀cs,v≠ .agg cs):v.cells=#[v]:=by cases v<;>first|rfl|exact absurd rfl (h _)
theorem aAr{base:Nat}{f:Nat}{t:TypeId}{s:zh}(h:shV P f t=some s){v:Value}{d:DataW H}{ps:List MemPlace}(qD:Value.okWide P w .any base t v)
  (hT:DataW.Trod enc P w 0 spare held t v d ps):∃av,aj s av/\R w (lI w) av v []:=by
 obtain⟨fuel,hT⟩:=hT;unfold shV at h;have one:(∀cs,v≠ .agg cs)->(match WQ P f t with|some [s]=>some (zh.one s)|_=>none)=some s->∃av,aj s av/\R w (lI w) av v []:=by
  intro hv h;split at h
  .rename_i s1 hs;obtain rfl:=cD h;obtain⟨Ox,h1,h2,_⟩:=reads f t _ hs _ _ _ hT;rw[cells_one hv]at h2;cases Ox with
   |nil=>exact h1.elim
   |cons x xs=>
    cases xs with
    |nil=>simp only[Rc]at h2;obtain⟨f1,f2,hr,rfl,e⟩:=h2;simp only[cY]at e;subst e;simp only[mR]at h1;exact⟨x,h1.1,hr⟩
    |cons y ys=>simp[mR]at h1
  .cases h
 split at h
 .rename_i fs ht;obtain⟨ss,hs,rfl⟩:=tE.1 h;obtain⟨cs,rfl,_⟩:=okWide_struct ht qD;obtain⟨Ox,h1,h2,h3⟩:=reads f t _ hs _ _ _ hT;exact⟨.agg Ox,h1,by simp only[R];exact⟨cs.toList,by simp,h3,h2⟩⟩
 .rename_i ht;exact one (λcs e=>by subst e;simp[Value.okWide,ht,Cell.okWide,Cell.ok]at qD) h
 .rename_i ht;exact one (λcs e=>by subst e;simp[Value.okWide,ht,Cell.okWide,Cell.ok]at qD) h
 .rename_i ht;exact one (λcs e=>by subst e;simp[Value.okWide,ht,Cell.okWide,Cell.ok]at qD) h
 .rename_i ht;exact one (λcs e=>by subst e;simp[Value.okWide,ht,Cell.okWide,Cell.ok]at qD) h
 .cases h
theorem WS{base:Nat}{f:Nat}:∀{ts:List TypeId} {ss:List zh},ak P f ts=some ss->∀{vs:List Value} {ds:List (DataW H)} {ps:List MemPlace},
  (∀(j:Nat) t v,ts[j]? =some t->vs[j]? =some v->Value.okWide P w .any base t v)->DataW.TrodAll enc P w 0 spare held ts vs ds ps->∃Ox,GR ss Ox/\Rc w (lI w) Ox vs []
 |[],ss,h,[],_,_,_,_=>by simp only[ak,cQ]at h;subst h;exact⟨[],trivial,by simp[Rc]⟩
 |t::ts,ss,h,v::vs,d::ds,ps,qD,hT=>by
  simp only[ak]at h;split at h
  .rename_i s ss' h1 h2;obtain rfl:=cD h;obtain⟨p,q,ht,hr,_⟩:=hT;obtain⟨x,hx,hR⟩:=aAr h1 (qD 0 t v rfl rfl) ht;obtain⟨xs,hxs,hRs⟩:=WS h2 (λj t v h1 h2=>qD (j+1) t v (by simpa using h1) (by simpa using h2)) hr;exact⟨x::xs,⟨hx,hxs⟩,by simp only[Rc];exact⟨[],[],hR,hRs,rfl⟩⟩
  .cases h
 |[],_,_,_::_,_,_,_,hT=>by simp[DataW.TrodAll]at hT
 |_::_,_,_,[],_,_,_,hT=>by simp[DataW.TrodAll]at hT
 |_::_,_,_,_::_,[],_,_,hT=>by simp[DataW.TrodAll]at hT
theorem DD(hl:laidOutB P=true){W W':World}(hb:Below W.heap.size W W'):∀{ts:List TypeId} {vs:List Value} {ds:List (DataW H)} {ps:List MemPlace},
  (∀t∈ts,P.readableRec t=true/\t<P.types.size)->DataW.TrodAll enc P W 0 (λ_=>true) true ts vs ds ps->(∀x∈ps,x.block<W.heap.size)->∀sp:Nat->Bool,(∀p∈ps,sp p.block=true)->
   DataW.TrodAll enc P W' 0 sp true ts vs ds ps
 |[],[],[],_,_,h,_,_,_=>h
 |t::ts,v::vs,d::ds,ps,hr,h,hlt,sp,hsp=>by
  obtain⟨p,q,h1,h2,rfl⟩:=h;refine⟨p,q,?_,?_,rfl⟩
  .exact WideElems.Trod_stays hl (hr t (by simp)).1 (hr t (by simp)).2 h1 (λx hx=>hb.same (hlt x (by simp[hx]))) (λx hx=>hsp x (by simp[hx]))
  .exact DD hl hb (λt ht=>hr t (by simp[ht])) h2 (λx hx=>hlt x (by simp[hx])) sp (λx hx=>hsp x (by simp[hx]))
 |[],_::_,_,_,_,h,_,_,_=>h.elim
 |[],[],_::_,_,_,h,_,_,_=>h.elim
 |_::_,[],_,_,_,h,_,_,_=>h.elim
 |_::_,_::_,[],_,_,h,_,_,_=>h.elim
end
theorem Sm{α:Type}{row:List Sh}{e:α->List AV}{p:α->Prop}(h:∀r,mR row r->∃x,r=e x/\p x):∀rows:List (List AV),(∀r∈rows,mR row r)->∃l:List α,rows=l.map e/\∀x∈l,p x
 |[],_=>⟨[],rfl,by simp⟩
 |r::rs,hr=>by obtain⟨x,rfl,hx⟩:=h r (hr r (by simp));obtain⟨l,rfl,hl⟩:=Sm h rs (λr h=>hr r (by simp[h]));exact⟨x::l,rfl,by simpa using⟨hx,hl⟩⟩
theorem au{r:List AV}(h:mR [] r):r=[]:=by
 cases r with
 |nil=>rfl
 |cons _ _=>exact h.elim
theorem fits_int{k:IntKind}{ss:List Sh}{r:List AV}(h:mR (.int k::ss) r):∃n r',r= .int k n::r'/\(k.min<=n/\n<=k.max)/\mR ss r':=by
 match r,h with
 |[],h=>exact h.elim
 | .int k' n::r',h=>obtain⟨⟨rfl,hw⟩,h2⟩:=h;exact⟨n,r',rfl,by simpa [Lit.wf]using hw,h2⟩
theorem zi{n:Nat}{row ss:List Sh}{r:List AV}(h:mR (.sl n row::ss) r):∃rows r',r= .sl .view n rows::r'/\rows.length<=9223372036854775807/\(∀x∈rows,mR row x)/\mR ss r':=by
 match r,h with
 |[],h=>exact h.elim
 | .sl g n' rows::r',h=>obtain⟨⟨rfl,rfl,h1,h2⟩,h3⟩:=h;exact⟨rows,r',rfl,h1,h2,h3⟩
theorem XR{r:List AV}(h:GR [] r):r=[]:=by
 cases r with
 |nil=>rfl
 |cons _ _=>exact h.elim
theorem XT{s:Sh}{ss:List zh}{r:List AV}(h:GR (.one s::ss) r):∃x r',r=x::r'/\mR [s] [x]/\GR ss r':=by
 match r,h with
 |[],h=>exact h.elim
 |x::r',h=>exact⟨x,r',rfl,⟨h.1,trivial⟩,h.2⟩
theorem ax{C:Checked}[T:aB C.prog]{f:FuncId}{fn:Func}{s:ChangeSpec}{apart fresh handsOn again:Bool}{H:Type}{enc:TypeId×Value->H}{ss:List zh}{fuel:Nat}{tb:TypeId}
  (hl:laidOutB C.prog=true) (aDt:∀t∈fn.params.toList,C.prog.readableRec t=true/\t<C.prog.types.size)
  (yn:ak C.prog fuel fn.params.toList=some ss) (mD:fn.resultTypes=#[tb]) (hb:C.prog.underlying tb=some .bool) (Q5:s.vars=[])
  (hfn:∀ds:List (DataW H),ds.length=fn.params.toList.length->s.fn H ds={results:=[.lit (.bool true)],args:=ds})
  (qD:∀Ox,GR ss Ox->Ok C.prog f Ox (.bool true))
  {W:World} {base:Nat} {args:Array Value} {ds gs:List (DataW H)} {before:List MemPlace} (hT:aB.holds C.prog W)
  (hval:∀(j:Nat) t v,fn.params[j]? =some t->args[j]? =some v->Value.okWide C.prog W .any base t v)
  (hW:DataW.Whole enc C.prog fn.params.toList s.vars apart W args.toList ds gs before):
  Calls C.prog f args W λe W'=>∃v,e= .returned v/\s.post enc C.prog fn apart fresh handsOn again W args v W':=by
 obtain⟨p,q,hA,hV,hpq,hz,hn⟩:=id hW;rw[Q5]at hV;obtain⟨rfl,rfl⟩:gs=[]/\q=[]:=by
  cases gs with
  |nil=>exact⟨rfl,hV⟩
  |cons _ _=>exact hV.elim
 rw[cY]at hpq;subst hpq;have hlen:ds.length=fn.params.toList.length:=by
  have:∀(ts:List TypeId) (vs:List Value) (ds:List (DataW H)) ps,DataW.TrodAll enc C.prog W 0 (λ_=>true) true ts vs ds ps->ds.length=ts.length:=by
   intro ts;induction ts with
   |nil=>intro vs ds ps h;cases vs<;>cases ds<;>simp_all[DataW.TrodAll]
   |cons t ts ih=>intro vs ds ps h;cases vs<;>cases ds<;>simp_all[DataW.TrodAll];obtain⟨_,_,_,h,_⟩:=h;exact ih _ _ _ h
  exact this _ _ _ _ hA
 have aDv:=hfn ds hlen;obtain⟨Ox,aDw,hR⟩:=WS yn (λj t v h1 h2=>hval j t v (by simpa using h1) (by simpa using h2)) hA;have hc:=qD Ox aDw W args.toList hT hR;rw[show args.toList.toArray=args from rfl]at hc;refine hc.mono λe W' ⟨v,fp,he,hr,_,_,hsz,iN,wW⟩=>⟨v,he,?_⟩
 simp only[R]at hr;obtain⟨rfl,_⟩:=hr;have hbl:Below W.heap.size W W':=⟨wW.os,wW.tape,wW.output,hsz,iN⟩;have hlt:∀x∈before,x.block<W.heap.size:=λx hx=>hW.lt x hx
 have hsp:s.fn H (ds++[])={results:=[.lit (.bool true)],args:=ds}:=by rw[cY];exact aDv
 have hargs:∀sp:Nat->Bool,(∀p∈before,sp p.block=true)->DataW.TrodAll enc C.prog W' 0 sp true fn.params.toList args.toList (s.fn H (ds++[])).args before:=by intro sp h;rw[hsp];exact DD hl hbl aDt hA hlt sp h
 have hone:(Value.bool true).resultList fn.resultTypes.size=[.bool true]:=by rw[mD];rfl
 have Q6:∀(b:Nat) (sp:Nat->Bool) (hd:Bool),DataW.TrodAll enc C.prog W' b sp hd fn.resultTypes.toList ((Value.bool true).resultList fn.resultTypes.size) (s.fn H (ds++[])).results []:=by intro b sp hd;rw[hsp,hone,mD];exact⟨[],[],shut_bool hb true,rfl,rfl⟩
 have ay:∀sp:Nat->Bool,DataW.TrodVars enc C.prog W' sp s.vars (s.fn H (ds++[])).vars []:=by intro sp;rw[hsp,Q5];rfl
 have hold:∀p∈before,(λb=>decide (b<W.heap.size)) p.block=true:=λp hp=>by simpa using hlt p hp
 refine⟨ds,[],before,[],before,[],hW,Q6 _ _ _,hargs _ hold,ay _,World.keptBut_mono (λp hp=>hp.elim) (hbl.frame (λ_=>False)),λ_=> ?_⟩;refine⟨ok_one mD rfl (okWide_bool_mk hb true),_,_,([]++before)++[],⟨[]++before,[],trodAll_append (hargs _ (λ_ _=>rfl)) (Q6 _ _ _),ay _,rfl,?_,?_⟩,?_⟩
 .intro b off hp;have hp':MemPlace.cell b off∈before:=by simpa using hp
  rw[hbl.frozen (p:=⟨b,off,none⟩) (hlt _ hp')];exact hz b off hp'
 .intro ha;simpa using hn ha
 .intro p hp _;simpa using hp
def Be:Sh->AV->Prop
 | .int k,.int k' _=>k'=k
 | .bool,.bool _=>True
 | .str,.str _=>True
 |_,_=>False
def nW:List Sh->List AV->Prop
 |[],[]=>True
 |s::ss,x::xs=>Be s x/\nW ss xs
 |_,_=>False
theorem tT:∀{ss:List Sh} {xs:List AV},nW ss xs->xs.length=ss.length
 |[],[],_=>rfl
 |s::ss,x::xs,h=>by simp only[nW]at h;simp[tT h.2]
 |[],_::_,h=>h.elim
 |_::_,[],h=>h.elim
theorem Cn:∀{ss tt:List Sh} {xs:List AV},nW (ss++tt) xs->nW ss (xs.take ss.length)/\nW tt (xs.drop ss.length)
 |[],_,xs,h=>by simpa [nW]using h
 |s::ss,tt,x::xs,h=>by simp only[cM,nW]at h;simp only[eE,kO,AW,nW];have:=Cn h.2;exact⟨⟨h.1,this.1⟩,this.2⟩
 |_::_,_,[],h=>h.elim
def yN(P:Program)(t:TypeId):Bool:=match P.underlying t with|some (.struct _)=>true|_=>false
def valOf(P:Program)(t:TypeId)(cs:List Value):Value:=if yN P t then .agg cs.toArray else cs.headD (.tuple #[])
def K3(P:Program):Nat->TypeId->Bool
 |0,_=>false
 |f+1,t=>match P.underlying t with
  |some .bool|some (.int _)|some .string=>P.cellsOf t == 1
  |some (.struct fs)=> !P.stoodInHeld t&&fs.toList.all λx=>x.name != "_" &&K3 P f x.type
  |_=>false
theorem Jd{P:Program}{w:World}{f:Nat}{t:TypeId}(he:K3 P f t=true)(xs:List Value)(o:Nat)(h:P.cellsOf t=0\/o+P.cellsOf t<=xs.length):
  (part t xs.toArray o).run P w= .ok (valOf P t ((xs.drop o).take (P.cellsOf t))) w:=by
 cases f with
 |zero=>simp[K3]at he
 |succ f=>
  unfold K3 at he;have one:∀d,P.underlying t=some d->(d= .bool\/(∃k,d= .int k)\/d= .string)->P.cellsOf t=1->(part t xs.toArray o).run P w= .ok (valOf P t ((xs.drop o).take (P.cellsOf t))) w:=by
   intro d hu hd h1;have hlt:o<xs.length:=by omega
   have e:(xs.drop o).take 1=[xs[o]]:=by rw[mB hlt,kO,sC]
   rw[h1,e];rcases hd with rfl|⟨k,rfl⟩|rfl<;>simp[part,isAgg,fL hu,valOf,yN,hu,hlt]
  split at he
  .rename_i hu;exact one _ hu (.inl rfl) (by simpa using he)
  .rename_i hu;exact one _ hu (.inr (.inl ⟨_,rfl⟩)) (by simpa using he)
  .rename_i hu;exact one _ hu (.inr (.inr rfl)) (by simpa using he)
  .rename_i fs hu;obtain⟨i,hi⟩:=info_of_underlying hu;have hl:xs.toArray.extract o (o+P.cellsOf t)=((xs.drop o).take (P.cellsOf t)).toArray:=by apply Array.toList_inj.1;rw[Array.toList_extract];simp[extract]
   simp[part,isAgg,fL hu,run_sizeOf w hi,valOf,yN,hu,hl]
  .cases he
section
variable{P:Program}
theorem BB{f:Nat}(ih:∀t ss,WQ P f t=some ss->K3 P f t=true->∀c1 c2:List AV,nW ss c1->nW ss c2->∀d w,f<=d->∃b,(Op.equalIn d t (valOf P t (c1.map toV)) (valOf P t (c2.map toV))).run P w= .ok b w/\(b=true↔c1=c2))(c1 c2:List AV)(d:Nat)(w:World)(hd:f<=d):
  ∀(fs:List Field) (o:Nat) (rs:List Sh),O8 (WQ P f) P fs o=some rs->(fs.all λx=>x.name != "_" &&K3 P f x.type)=true->nW rs (c1.drop o)->nW rs (c2.drop o)->
   ∃b,(Op.eqFields d (c1.map toV).toArray (c2.map toV).toArray fs).run P w= .ok b w/\(b=true↔c1.drop o=c2.drop o)
 |[],o,rs,h,_,h1,h2=>by simp only[O8,cQ]at h;subst h;refine⟨true,by simp[Op.eqFields],?_⟩;have e1:=tT h1;have e2:=tT h2;simp only[eR,length_eq_zero_iff]at e1 e2;simp[e1,e2]
 |x::fs,o,rs,h,ha,h1,h2=>by
  simp only[O8]at h;simp only[CD,eC]at ha;split at h
  .rename_i ho;split at h
   .rename_i a hsa;split at h
    .rename_i hl;split at h
     .rename_i b hb;obtain rfl:=cD h;have s1:=Cn h1;have s2:=Cn h2;rw[tI]at s1 s2;have n1:=tT h1;have n2:=tT h2;simp only[tG,eJ]at n1 n2;obtain⟨b1,hr1,hi1⟩:=ih _ _ hsa ha.1.2 _ _ s1.1 s2.1 d w hd;obtain⟨b2,hr2,hi2⟩:=BB ih c1 c2 d w hd fs (o+a.length) b hb ha.2 s1.2 s2.2;have p1:=Jd (w:=w) ha.1.2 (c1.map toV) o (by rw[As];omega);have p2:=Jd (w:=w) ha.1.2 (c2.map toV) o (by rw[As];omega);rw[<-hl,<-map_drop,<-map_take]at p1 p2;have Sz:x.name≠ "_" :=by simpa using ha.1.1
      simp only[Op.eqFields,Sz,ne_eq,not_false_eq_true,eI,ho,mC,p1,p2,iS,hr1];have aBm:c1.drop o=(c1.drop o).take a.length++c1.drop (o+a.length):=by rw[<-tI,mT]
      have aBn:c2.drop o=(c2.drop o).take a.length++c2.drop (o+a.length):=by rw[<-tI,mT]
      have key:c1.drop o=c2.drop o↔((c1.drop o).take a.length=(c2.drop o).take a.length/\c1.drop (o+a.length)=c2.drop (o+a.length)):=by
       constructor
       .intro e;rw[e];refine⟨rfl,?_⟩;rw[<-tI,<-tI,e]
       .intro e;rw[aBm,aBn,e.1,e.2]
      cases b1 with
      |false=>exact⟨false,by simp,by simp only[cJ,false_iff];intro e;exact absurd (hi1.2 (key.1 e).1) (by simp)⟩
      |true=>exact⟨b2,by simpa using hr2,by rw[hi2,key];exact⟨λe=>⟨hi1.1 rfl,e⟩,λe=>e.2⟩⟩
     .cases h
    .cases h
   .cases h
  .cases h
theorem Xu:∀(f:Nat) (t:TypeId) (ss:List Sh),WQ P f t=some ss->K3 P f t=true->∀c1 c2:List AV,nW ss c1->nW ss c2->∀d w,f<=d->
  ∃b,(Op.equalIn d t (valOf P t (c1.map toV)) (valOf P t (c2.map toV))).run P w= .ok b w/\(b=true↔c1=c2)
 |0,_,_,h,_,_,_,_,_,_,_,_=>by simp[WQ]at h
 |f+1,t,ss,h,he,c1,c2,h1,h2,d,w,hd=>by
  obtain⟨d,rfl⟩:∃d',d=d'+1:=⟨d-1,by omega⟩;unfold WQ at h;unfold K3 at he;have one:∀s:Sh,ss=[s]->∃x y,c1=[x]/\c2=[y]/\Be s x/\Be s y:=by
   rintro s rfl;match c1,c2,h1,h2 with
   |[x],[y],h1,h2=>exact⟨x,y,rfl,rfl,h1.1,h2.1⟩
   |[],_,h1,_=>exact h1.elim
   |_::_::_,_,h1,_=>exact h1.2.elim
   |[_],[],_,h2=>exact h2.elim
   |[_],_::_::_,_,h2=>exact h2.2.elim
  split at h
  .rename_i hu;obtain⟨x,y,rfl,rfl,l1,l2⟩:=one _ (cD h).symm;cases x<;>simp only[Be]at l1;cases y<;>simp only[Be]at l2;rename_i p q;exact⟨p == q,by simp[valOf,yN,hu,toV,Go.run_equalIn_bool w d t p q hu],by simp⟩
  .rename_i k hu;obtain⟨x,y,rfl,rfl,l1,l2⟩:=one _ (cD h).symm;cases x<;>simp only[Be]at l1;cases y<;>simp only[Be]at l2;rename_i k1 p k2 q;have e1:k1=k:=l1;have e2:k2=k:=l2;subst e1;subst e2;exact⟨p == q,by simp[valOf,yN,hu,toV,run_equalIn_int w d t _ _ p q hu],by simp⟩
  .rename_i hu;obtain⟨x,y,rfl,rfl,l1,l2⟩:=one _ (cD h).symm;cases x<;>simp only[Be]at l1;cases y<;>simp only[Be]at l2;rename_i p q;refine⟨p == q,?_,by simp⟩;have:=run_equalIn_string w d t ⟨p.toArray⟩ ⟨q.toArray⟩ hu;rw[ByteArray.toList_eq,ByteArray.toList_eq]at this;simpa [valOf,yN,hu,toV]using this
  .rename_i e hu;rw[hu]at he;cases he
  .rename_i fs hu;rw[hu]at he;simp only[eC,CC]at he;split at h
   .rename_i r hr;split at h
    .obtain rfl:=cD h;have hf:P.fieldsOf t=fs:=by simp[Program.fieldsOf,hu]
     obtain⟨b,hb,hi⟩:=BB (λt ss a b c1 c2 e1 e2 d w hd=>Xu f t ss a b c1 c2 e1 e2 d w hd) c1 c2 d w (by omega) fs.toList 0 _ hr he.2 (by simpa using h1) (by simpa using h2);refine⟨b,?_,by simpa using hi⟩;have:=run_equalIn_struct w d t (c1.map toV).toArray (c2.map toV).toArray (by rw[hf];exact hu) he.1;rw[hf]at this;simpa [valOf,yN,hu]using this.trans hb
    .cases h
   .cases h
  .cases h
theorem Mj{t:TypeId}{f:Nat}{ss:List Sh}(hf:f<=10000)(hs:WQ P f t=some ss)(he:K3 P f t=true)(hst:yN P t=true)(hg:P.eqGuardType P.depth t=false){c1 c2:List AV}(h1:nW ss c1)(h2:nW ss c2){b:Bool}(hb:b=true↔c1=c2):
  N8 P t c1 c2 b:=by
 intro op x y w hop;obtain⟨b',hb',hi⟩:=Xu f t ss hs he c1 c2 h1 h2 10000 w hf;have e:b'=b:=by rw[<-hb]at hi;cases b<;>cases b'<;>simp_all
 subst e;simp only[valOf,hst,eI]at hb';rcases hop with rfl|rfl
 .simp only[mC,run_eqGuard_agg w _ t x y _ _ hg,iS,run_eql_struct,hb',eI]
 .simp only[mC,run_eqGuard_agg w _ t x y _ _ hg,iS,run_neq_struct,hb'];rfl
end
def Nx(m:Nat)(P:Program)[aB P](o:Oper)(s:AS)(X:AS->Prop):Prop:=nL P o s X\/((m=1/\(Dj P o s X\/Dy P o s X))\/(m=2/\Ni P o s X))
theorem go_seq{P:Program}[aB P]{x y:Code}{s:AS}{Q:Exit->AS->Prop}(h:kY P x s (sK (λs'=>kY P y s' Q) Q)):kY P (.seq x y) s Q:=by unfold kY;exact h
theorem go_then{K:AS->Prop}{Q:Exit->AS->Prop}{s:AS}(h:K s):sK K Q .normal s:=by unfold sK;exact h
theorem go_cons{P:Program}[aB P]{all r:List Oper}{o:Oper}{s:AS}{K:AS->Prop}(hg:o.guard=none)(h:Nx 1 P o s λs'=>gV P all r s' K):gV P all (o::r) s K:=by
 simp only[gV,hg];rcases h with h|h
 .exact .inl h
 .rcases h with h|h
  .exact .inr h.2
  .exact absurd h.1 (by decide)
theorem Qi{P:Program}[aB P]{o:Oper}{s:AS}{X:AS->Prop}(h:KX P o s X):Nx 1 P o s X:= .inr (.inl ⟨rfl,.inr ⟨s,kR.refl s,h⟩⟩)
theorem go_take{P:Program}[aB P]{all r:List Oper}{o:Oper}{s:AS}{K:AS->Prop}{j:Nat}{want:Bool}(hg:o.guard=some (j,want))(hb:mE all s j want= .bool want)(h:Nx 0 P o s λs'=>gV P all r s' K):gV P all (o::r) s K:=by
 simp only[gV,hg,hb];rcases h with h|h
 .exact ⟨λ_=> .inl h,λhn=>absurd rfl hn⟩
 .rcases h with h|h<;>exact absurd h.1 (by decide)
theorem go_takeC{P:Program}[aB P]{all r:List Oper}{o:Oper}{s:AS}{K:AS->Prop}{j:Nat}{want:Bool}(hg:o.guard=some (j,want))(hb:mE all s j want= .bool want)(h:Nx 1 P o s λs'=>gV P all r s' K):gV P all (o::r) s K:=by
 simp only[gV,hg,hb];rcases h with h|h
 .exact ⟨λ_=> .inl h,λhn=>absurd rfl hn⟩
 .rcases h with h|h
  .exact ⟨λ_=> .inr h.2,λhn=>absurd rfl hn⟩
  .exact absurd h.1 (by decide)
theorem go_skip{P:Program}[aB P]{all r:List Oper}{o:Oper}{s s':AS}{K:AS->Prop}{j:Nat}{want:Bool}(hg:o.guard=some (j,want))(hb:mE all s j want= .bool (!want))(h:gV P all r s' K)(hs:∀K':AS->Prop,K' s'->K' (s.put o.dst (.fH [])):=by intro K' hK';(try simp only[AS.put,cH,cG]);exact hK'):gV P all (o::r) s K:=
 Yh hg hb (hs (λs=>gV P all r s K) h)
theorem go_drawn{P:Program}[aB P]{id:Nat}{l:List Oper}{s:AS}{Q:Exit->AS->Prop}{fl:List (Nat×Nat×List AV)}{b:List aD}(hf:LA P 0 s.o.length l=fl)(hbb:s.o++(fl.map λq=>(⟨false,false,q.2.2.length,0,[]⟩:aD))=b)(hfw:IL l=true)(hdst:distinct l=true)(hfl:jq fl b.length=true)(hb:oC Cb true fl b=b)(hb0:oC Cb false fl b=s.o++(fl.map (·.2.2.length)).map λn=>⟨true,false,n,0,[]⟩)
  (h:kJ P l s.t b fl (Q .normal) 0 l [] []):kY P (.region id l.toArray true) s Q:=Yg hfw hdst hfl hb hb0 h
section
variable{P:Program}[aB P]{l:List Oper}{t:List AV}{b:List aD}{fl:List (Nat × Nat × List AV)}{K:AS -> Prop}{i:Nat}{op:Oper}{r:List Oper}{vs:List AV}{h:List (Nat × List aD)}{pr:List Nat}{m:List AV}{om:List aD}
theorem go_draw(hg:op.guard=none)(hnf:(fl.all λq=>decide (q.1≠i))=true)(hpr:pre op=pr)(hlt:(pr.all λe=>decide (e<i))=true)(hm:rP i pr 0 l vs t=m)(ho:oC (qZ pr) true fl (oJ (qZ pr) b h)=om)(hq:qG op.op ⟨m,om⟩=true)
  (ha:Nx 2 P op ⟨m,om⟩ λs'=>(Bu pr h=true\/s'.o.length=om.length)/\kJ P l t b fl K (i+1) r (vs++[Lu op s']) (if s'.o.length=om.length then h else(i,oC Cb true fl s'.o)::h)):kJ P l t b fl K i (op::r) vs h:=by
 refine ED hnf hpr hlt hm ho hq ?_;unfold qH;simp only[hg];rcases ha with ha|ha
 .exact .inl ha
 .rcases ha with ha|ha
  .exact absurd ha.1 (by decide)
  .exact .inr ha.2
theorem go_drawT{j:Nat}{want:Bool}(hg:op.guard=some (j,want))(hnf:(fl.all λq=>decide (q.1≠i))=true)(hpr:pre op=pr)(hlt:(pr.all λe=>decide (e<i))=true)(hm:rP i pr 0 l vs t=m)(ho:oC (qZ pr) true fl (oJ (qZ pr) b h)=om)(hq:qG op.op ⟨m,om⟩=true)(hb:mE l ⟨m,om⟩ j want= .bool want)
  (ha:Nx 2 P op ⟨m,om⟩ λs'=>(Bu pr h=true\/s'.o.length=om.length)/\kJ P l t b fl K (i+1) r (vs++[Lu op s']) (if s'.o.length=om.length then h else(i,oC Cb true fl s'.o)::h)):kJ P l t b fl K i (op::r) vs h:=by
 refine ED hnf hpr hlt hm ho hq ?_;unfold qH;simp only[hg,hb];rcases ha with ha|ha
 .exact ⟨λ_=> .inl ha,λhn=>absurd rfl hn⟩
 .rcases ha with ha|ha
  .exact absurd ha.1 (by decide)
  .exact ⟨λ_=> .inr ha.2,λhn=>absurd rfl hn⟩
theorem go_drawS{j:Nat}{want:Bool}(hg:op.guard=some (j,want))(hnf:(fl.all λq=>decide (q.1≠i))=true)(hpr:pre op=pr)(hlt:(pr.all λe=>decide (e<i))=true)(hm:rP i pr 0 l vs t=m)(ho:oC (qZ pr) true fl (oJ (qZ pr) b h)=om)(hds:(match op.dst with|some d=>decide (d<m.length)|none=>false)=true)(hq:qG op.op ⟨m,om⟩=true)(hb:mE l ⟨m,om⟩ j want= .bool (!want))
  (ha:kJ P l t b fl K (i+1) r (vs++[.fH []]) h):kJ P l t b fl K i (op::r) vs h:=by
 refine ED hnf hpr hlt hm ho hq ?_;unfold qH;simp only[hg,hb];refine⟨λhn=> ?_,λ_=> ?_⟩
 .cases want<;>cases hn
 .rw [put_eq];refine⟨.inr rfl,?_⟩;rw[eA rfl];have:Lu op ⟨uH m op.dst (.fH []),om⟩= .fH []:=by
   unfold Lu uH;cases hd:op.dst with
   |none=>rw[hd]at hds;cases hds
   |some d=>
    rw[hd]at hds;have hdl:d<m.length:=by simpa using hds
    dsimp only;rw[lO,nF hdl];rfl
  rw[this];exact ha
theorem go_barC{z:List Nat}{s1:AS}(hr:vX l i=true)(hz:rY l i=z)(hk:K s1)(ha:zV (λz=>vW P l (λs'=>s'=s1) (left ((range l.length).map (jz i z))) ((range l.length).map (jz i z)) ⟨jI (jz i z) 0 l vs t,oC (jz i z) false fl (oJ (jz i z) b h)⟩) [] z:=by
  repeat' (first|refine st ?_|(refine nx ?_;refine so ?_)|refine sx ?_ ?_|refine sy ?_ ?_|fail)
  all_goals rfl):kJ P l t b fl K i (op::r) vs h:=Vw hr hz ha hk
theorem go_float{q:Nat×Nat×List AV}{T:TypeId}{vs':List AV}(hq:fl.find? (λq=>q.1 == i)=some q)(hg:op.guard=none)(hT:op.op= .alloc T)(hz:nC P T=some q.2.2)(hlt:((pre op).all λe=>decide (e<i))=true)(hv:vs++[.ptr q.2.1 1 0 0]=vs')(hd:kJ P l t b fl K (i+1) r vs' h):kJ P l t b fl K i (op::r) vs h:=by subst hv;exact SX hq hg hT hz hlt hd
theorem go_next{vs':List AV}{h':List (Nat×List aD)}{c:Prop}(hc:c)(hv:vs=vs')(hh:h=h')(hd:kJ P l t b fl K i r vs' h'):c/\kJ P l t b fl K i r vs h:=by subst hv;subst hh;exact⟨hc,hd⟩
theorem kB{F:List Nat->Prop}{acc:List Nat}(h:zV F acc []):zV F acc []:=h
theorem kE{n:Nat}{d:List Bool}{s:AS}(h:vW P l K n d s):vW P l K n d s:=h
theorem kF{n:Nat}{d:List Bool}{s:AS}{j:Nat}(h:rO P l K n d s [j]):rO P l K n d s [j]:=h
theorem kD(hd:kJ P l t b fl K i r vs h):kJ P l t b fl K i r vs h:=hd
theorem kN{c:Prop}(hd:c/\kJ P l t b fl K i r vs h):c/\kJ P l t b fl K i r vs h:=hd
end
attribute [irreducible] Nx
theorem kL{P:Program}[aB P]{all l:List Oper}{s:AS}{K:AS->Prop}(h:gV P all l s K):gV P all l s K:=h
theorem kA{P:Program}[aB P]{c:Code}{s:AS}{Q:Exit->AS->Prop}(h:kY P c s Q):kY P c s Q:=h
theorem kT{K:AS->Prop}{Q:Exit->AS->Prop}{e:Exit}{s:AS}(h:sK K Q e s):sK K Q e s:=h
theorem kI{id:Nat}{Q:Exit->AS->Prop}{e:Exit}{s:AS}(h:Ve id Q e s):Ve id Q e s:=h
structure Hid(q:Prop): Prop where
  out:q
theorem st{p q:Prop}(h:q)(e:Hid q->p:=by
 intro h
 (first
  |(refine kL ?_;first
    |refine Fy ?_
    |refine go_cons rfl ?_
    |(refine go_take rfl ?_ ?_;(focus (simp[mE,W];done)))
    |(refine go_skip rfl ?_ ?_;(focus (simp[mE,W];done))))
  |(refine kA ?_;first
    |refine go_seq ?_|refine Lb ?_|refine WO ?_|refine Ou ?_|refine Sj ?_|refine Sk ?_|refine go_drawn (by simp;rfl) (by simp;rfl) (by decide+kernel) (by decide) (by first|rfl|(simp[jq];done)) (by simp) (by simp) ?_)
  |(refine kT ?_;first|refine go_then ?_|refine Fz ?_|refine Dz ?_)
  |(refine kI ?_;first|refine DC ?_|refine Ld ?_|refine Ov ?_|refine Ow (by decide) ?_)
  |(refine kN ?_;refine go_next (by simp;done) (by simp;rfl) (by simp;rfl) ?_)
  |(refine kD ?_;first
    |refine OM (by simp;rfl) (by simp;rfl) ?_
    |refine go_float rfl rfl rfl (by simp;done) (by first|rfl|(simp[Region.binds];done)) (by simp;rfl) ?_
    |(refine go_draw rfl (by first|rfl|(simp;done)) (by simp[Region.binds];rfl) (by decide) (by simp[Region.binds];rfl) (by simp;rfl) ?_ ?_;(focus (first|rfl|(simp[qG];done))))
    |(refine go_drawT rfl (by first|rfl|(simp;done)) (by simp[Region.binds];rfl) (by decide) (by simp[Region.binds];rfl) (by simp;rfl) ?_ ?_ ?_;(focus (first|rfl|(simp[qG];done)));(focus (simp[mE,W];done)))
    |(refine go_drawS rfl (by first|rfl|(simp;done)) (by simp[Region.binds];rfl) (by decide) (by simp[Region.binds];rfl) (by simp;rfl) ?_ ?_ ?_ ?_;(focus (first|rfl|(simp;done)));(focus (first|rfl|(simp[qG];done)));(focus (simp[mE,W];done)))
    |refine OO (by decide+kernel) (by simp;rfl) (by simp;rfl) ?_
    |refine go_barC (by decide+kernel) (by simp[rY,reach,nM,Region.binds,range_succ];rfl) ?_
    |refine He (by decide+kernel) (by simp[rY,reach,nM,Region.binds,range_succ];rfl) ?_)
  |(refine kB ?_;refine go_sub (by simp;rfl) (by simp;rfl) (by simp;rfl) (by simp;rfl) ?_)
  |(refine kE ?_;first|refine go_end ?_|refine go_all (by simp[Region.binds];rfl) ?_)
  |(refine kF ?_;refine go_one rfl (by simp only[cH,cG];rfl) ?_))
 repeat (first
  |(refine kL ?_;first
    |refine Fy ?_
    |refine go_cons rfl ?_
    |(refine go_take rfl ?_ ?_;(focus (simp[mE,W];done)))
    |(refine go_skip rfl ?_ ?_;(focus (simp[mE,W];done))))
  |(refine kA ?_;first
    |refine go_seq ?_|refine Lb ?_|refine WO ?_|refine Ou ?_|refine Sj ?_|refine Sk ?_|refine go_drawn (by simp;rfl) (by simp;rfl) (by decide+kernel) (by decide) (by first|rfl|(simp[jq];done)) (by simp) (by simp) ?_)
  |(refine kT ?_;first|refine go_then ?_|refine Fz ?_|refine Dz ?_)
  |(refine kI ?_;first|refine DC ?_|refine Ld ?_|refine Ov ?_|refine Ow (by decide) ?_)
  |(refine kN ?_;refine go_next (by simp;done) (by simp;rfl) (by simp;rfl) ?_)
  |(refine kD ?_;first
    |refine OM (by simp;rfl) (by simp;rfl) ?_
    |refine go_float rfl rfl rfl (by simp;done) (by first|rfl|(simp[Region.binds];done)) (by simp;rfl) ?_
    |(refine go_draw rfl (by first|rfl|(simp;done)) (by simp[Region.binds];rfl) (by decide) (by simp[Region.binds];rfl) (by simp;rfl) ?_ ?_;(focus (first|rfl|(simp[qG];done))))
    |(refine go_drawT rfl (by first|rfl|(simp;done)) (by simp[Region.binds];rfl) (by decide) (by simp[Region.binds];rfl) (by simp;rfl) ?_ ?_ ?_;(focus (first|rfl|(simp[qG];done)));(focus (simp[mE,W];done)))
    |(refine go_drawS rfl (by first|rfl|(simp;done)) (by simp[Region.binds];rfl) (by decide) (by simp[Region.binds];rfl) (by simp;rfl) ?_ ?_ ?_ ?_;(focus (first|rfl|(simp;done)));(focus (first|rfl|(simp[qG];done)));(focus (simp[mE,W];done)))
    |refine OO (by decide+kernel) (by simp;rfl) (by simp;rfl) ?_
    |refine go_barC (by decide+kernel) (by simp[rY,reach,nM,Region.binds,range_succ];rfl) ?_
    |refine He (by decide+kernel) (by simp[rY,reach,nM,Region.binds,range_succ];rfl) ?_)
  |(refine kB ?_;refine go_sub (by simp;rfl) (by simp;rfl) (by simp;rfl) (by simp;rfl) ?_)
  |(refine kE ?_;first|refine go_end ?_|refine go_all (by simp[Region.binds];rfl) ?_)
  |(refine kF ?_;refine go_one rfl (by simp only[cH,cG];rfl) ?_))
 exact h.out):p:=e ⟨h⟩
theorem so{P:Program}[aB P]{o:Oper}{s s':AS}{X:AS -> Prop}{m:Nat}(h:X s')(e:∀ K:AS -> Prop, K s' -> nL P o s K := by
  intro K hK;first
    | (simp[-Bool.exists_bool, nL, W]
       (try simp (disch := omega) only[wrap64])
       first
         | exact hK
         | (refine⟨_, by assumption, ?_⟩; (try simp only[aQ, aM, fO, cB, fI, bS, fU, bZ, cY, cW, cM, eE, eR, oS, gE, Nat.reduceAdd]); exact hK)
         | (refine⟨?_, hK⟩; omega)
         | (refine⟨?_, ?_, hK⟩ <;> omega)
         | (refine⟨?_, ?_, ?_, hK⟩ <;> omega))
    | (simp[-Bool.exists_bool, nL, V]
       (try simp (disch := omega) only[wrap64])
       first
         | exact hK
         | (refine⟨_, by assumption, ?_⟩; (try simp only[aQ, aM, fO, cB, fI, bS, fU, bZ, cY, cW, cM, eE, eR, oS, gE, Nat.reduceAdd]); exact hK)
         | (refine⟨?_, hK⟩; omega)
         | (refine⟨?_, ?_, hK⟩ <;> omega)
         | (refine⟨?_, ?_, ?_, hK⟩ <;> omega))): Nx m P o s X := by
  unfold Nx; exact .inl (e X h)
theorem sk{P:Program}[aB P]{o:Oper}{s s':AS}{X:AS->Prop}{m:Nat}{H:Prop}(e:∀K:AS->Prop,H->K s'->nL P o s K:=by
 intro K hc hK;first
  |(simp[-Bool.exists_bool,nL,W];refine⟨_,hc,?_⟩;(try simp only[aQ,aM,fO,cB,fI,bS,fU,bZ,cY,cW,cM,eE,eR,oS,gE,Nat.reduceAdd]);exact hK)
  |(simp[-Bool.exists_bool,nL,V];refine⟨_,hc,?_⟩;(try simp only[aQ,aM,fO,cB,fI,bS,fU,bZ,cY,cW,cM,eE,eR,oS,gE,Nat.reduceAdd]);exact hK))(hc:H)(h:X s'):Nx m P o s X:=by
 unfold Nx;exact .inl (e X hc h)
theorem sg{P:Program}[aB P]{o:Oper}{s s':AS}{X:AS->Prop}{H:Prop}(e:∀K:AS->Prop,H->K s'->Dj P o s K:=by
 intro K hc hK;refine aAn ?_;simp[-Bool.exists_bool,Si,W];refine⟨_,_,hc,?_⟩;simp[-Bool.exists_bool,takes,handed,yz,Oe,rowOf,iB,jB,KQ,KR,gG,lZ,res,qE,AV.isObj,AS.given,Ep,zD,Bq,aD.WM,aD.forget,rt,pM,iL,iV,AV.kept,W];exact hK)(hc:H)(h:X s'):Nx 1 P o s X:=by
 unfold Nx;exact .inr (.inl ⟨rfl,.inl (e X hc h)⟩)
theorem sz{P:Program}[aB P]{o:Oper}{s s':AS}{X:AS->Prop}(h:X s')(e:∀K:AS->Prop,K s'->Dj P o s K:=by
 intro K hK;refine aAo ?_;simp[-Bool.exists_bool,aAj,nL,iL,pM,rt,aD.kill,W];exact hK):Nx 1 P o s X:=by
 unfold Nx;exact .inr (.inl ⟨rfl,.inl (e X h)⟩)
theorem sw{P:Program}[aB P]{o:Oper}{s s1:AS}{X:AS->Prop}(hw:kR s s1)(h:Nx 1 P o s1 X):Nx 1 P o s X:=by
 unfold Nx at h⊢;rcases h with h|h
 .exact .inr (.inl ⟨rfl,.inl (ag hw (.inl h))⟩)
 .rcases h with h|h
  .rcases h.2 with h2|⟨s2,hw2,h2⟩
   .exact .inr (.inl ⟨rfl,.inl (ag hw (.inr h2))⟩)
   .exact .inr (.inl ⟨rfl,.inr ⟨s2,hw.trans hw2,h2⟩⟩)
  .exact absurd h.1 (by decide)
theorem sb{P:Program}[aB P]{o:Oper}{s s':AS}{X:AS->Prop}(h:X s')(e:∀K:AS->Prop,K s'->Dj P o s K:=by
 intro K hK;refine aAm ?_;simp[-Bool.exists_bool,IA,AS.made,W];first
  |exact hK
  |(refine⟨?_,hK⟩;omega)):Nx 1 P o s X:=by
 unfold Nx;exact .inr (.inl ⟨rfl,.inl (e X h)⟩)
theorem se{P:Program}[aB P]{o:Oper}{s s':AS}{X:AS->Prop}(h:X s')(e:∀K:AS->Prop,K s'->Ni P o s K:=by
 intro K hK;simp[Ni];exact hK):Nx 2 P o s X:=by
 unfold Nx;exact .inr (.inr ⟨rfl,e X h⟩)
theorem sc{P:Program}[aB P]{c:Operand}{x y:Code}{s:AS}{Q:Exit->AS->Prop}{b:Bool}{p1 p2:Prop}(h1:p1->kY P x s Q)(h2:p2->kY P y s Q)(hc:s.ev c= .bool b:=by rfl)
  (e1:b=true->p1:=by
   intro h;first|(refine(?_:False);simp at h;done)|(refine(?_:False);(try simp at h);omega;done)|(simp at h;exact h)|exact h)
  (e2:b=false->p2:=by
   intro h;first|(refine(?_:False);simp at h;done)|(refine(?_:False);(try simp at h);omega;done)|(simp at h;exact h)|exact h):kY P (.cond c x y) s Q:=
 Lc hc (λh=>h1 (e1 h)) (λh=>h2 (e2 h))
theorem sp{P:Program}[aB P]{all r:List Oper}{o:Oper}{s:AS}{K:AS->Prop}{j d:Nat}{want b:Bool}{s1 s2:AS}{p1 p2:Prop}(h1:p1->gV P all (o::r) s1 K)(h2:p2->gV P all (o::r) s2 K)(hg:o.guard=some (j,want):=by rfl)(hd:(all[j]?).bind (·.dst)=some d:=by rfl)(hb:s.t[d]? =some (.bool b):=by rfl)(hx:(b=true)=(b=true):=by(fail_if_success (with_reducible refine Eq.refl (true=true)));(fail_if_success (with_reducible refine Eq.refl (false=true)));rfl)
  (e1:∀K':AS->Prop,K' s1->K' ⟨s.t.set d (.bool true),s.o⟩:=by intro K' hK';(try simp only[cH,cG]);exact hK')
  (e2:∀K':AS->Prop,K' s2->K' ⟨s.t.set d (.bool false),s.o⟩:=by intro K' hK';(try simp only[cH,cG]);exact hK')
  (e3:b=true->p1:=by
   intro h;first|(refine(?_:False);simp at h;done)|(refine(?_:False);(try simp at h);omega;done)|(simp at h;exact h)|exact h)
  (e4:b=false->p2:=by
   intro h;first|(refine(?_:False);simp at h;done)|(refine(?_:False);(try simp at h);omega;done)|(simp at h;exact h)|exact h):gV P all (o::r) s K:=
 Vx hg hd hb (λh=>e1 (λs=>gV P all (o::r) s K) (h1 (e3 h))) (λh=>e2 (λs=>gV P all (o::r) s K) (h2 (e4 h)))
theorem nx{m:Nat}{P:Program}[aB P]{o:Oper}{s:AS}{X:AS->Prop}(h:Nx m P o s X):Nx m P o s X:=h
theorem cx{P:Program}[aB P]{c:Operand}{x y:Code}{s:AS}{Q:Exit->AS->Prop}(h:kY P (.cond c x y) s Q):kY P (.cond c x y) s Q:=h
theorem lx{P:Program}[aB P]{all r:List Oper}{o:Oper}{s:AS}{K:AS->Prop}(h:gV P all (o::r) s K):gV P all (o::r) s K:=h
theorem dA{P:Program}[aB P](hm:P.follows .mixedOrders=true){f:FuncId}{fn:Func}{c:Code}(hf:P.funcs[f]? =some fn){n:Nat}(hn:fn.ntmps=n){args t:List AV}{rr:AV}
  (h:kY P c ⟨t,[]⟩ (λe s=>(e= .normal\/e= .ret)/\aT P fn s rr)) (hb:fn.body=some c:=by rfl)
  (ht:args++replicate (n-args.length) .undef=t:=by
   simp only[eE,eR,Nat.reduceSub,Nat.reduceAdd,lB,rN,cM,cW];rfl):Ok P f args rr:=by
 subst ht;subst hn;exact Ot hm hf hb h
attribute [simp] bytesOf
theorem sT{P:Program}[aB P]{c:Operand}{x y:Code}{s:AS}{Q:Exit->AS->Prop}{b:Bool}(h1:kY P x s Q)(hc:s.ev c= .bool b:=by rfl)
  (e2:b=false->False:=by intro h;first|(simp at h;done)|((try simp at h);omega;done)):kY P (.cond c x y) s Q:=
 Lc hc (λ_=>h1) (λh=>(e2 h).elim)
theorem sF{P:Program}[aB P]{c:Operand}{x y:Code}{s:AS}{Q:Exit->AS->Prop}{b:Bool}(h2:kY P y s Q)(hc:s.ev c= .bool b:=by rfl)
  (e1:b=true->False:=by intro h;first|(simp at h;done)|((try simp at h);omega;done)):kY P (.cond c x y) s Q:=
 Lc hc (λh=>(e1 h).elim) (λ_=>h2)
theorem wl{p q:Prop}(h:q)(e:Hid q->p:=by
 intro h;first|refine st ?_|(refine nx ?_;refine so ?_)|(refine cx ?_;first|refine sT ?_|refine sF ?_|(refine sc (λhc=> ?_) (λhc=> ?_)<;>try exact hc.elim))|(refine lx ?_;refine sp (λhc=> ?_) (λhc=> ?_)<;>try exact hc.elim)|refine sx ?_ ?_|refine sy ?_ ?_|fail
 repeat' first|refine st ?_|(refine nx ?_;refine so ?_)|(refine cx ?_;first|refine sT ?_|refine sF ?_|(refine sc (λhc=> ?_) (λhc=> ?_)<;>try exact hc.elim))|(refine lx ?_;refine sp (λhc=> ?_) (λhc=> ?_)<;>try exact hc.elim)|refine sx ?_ ?_|refine sy ?_ ?_|fail
 all_goals exact h.out):p:=e ⟨h⟩
theorem we{p q:Prop}(h:q)(e:Hid q->p:=by
 intro h;first|refine st ?_|(refine nx ?_;first|refine se ?_|refine so ?_)|(refine cx ?_;first|refine sT ?_|refine sF ?_|(refine sc (λhc=> ?_) (λhc=> ?_)<;>try exact hc.elim))|(refine lx ?_;refine sp (λhc=> ?_) (λhc=> ?_)<;>try exact hc.elim)|refine sx ?_ ?_|refine sy ?_ ?_|fail
 repeat' first|refine st ?_|(refine nx ?_;first|refine se ?_|refine so ?_)|(refine cx ?_;first|refine sT ?_|refine sF ?_|(refine sc (λhc=> ?_) (λhc=> ?_)<;>try exact hc.elim))|(refine lx ?_;refine sp (λhc=> ?_) (λhc=> ?_)<;>try exact hc.elim)|refine sx ?_ ?_|refine sy ?_ ?_|fail
 all_goals exact h.out):p:=e ⟨h⟩
theorem sq{p p1 p2 q1 q2:Prop}(h1:p1->q1)(h2:p2->q2)(e:Hid (p1->q1)->Hid (p2->q2)->p:=by
 intro h1 h2;first
  |(refine cx ?_;refine sc h1.out h2.out)
  |(refine lx ?_;refine sp h1.out h2.out)
  |refine sx (h1.out trivial) (h2.out trivial)
  |refine sy (h1.out trivial) (h2.out trivial)
  |fail):p:=e ⟨h1⟩ ⟨h2⟩
theorem wg{p q:Prop}(h:q)(e:Hid q->p:=by
 intro h;first|refine st ?_|(refine nx ?_;refine so ?_)|(refine cx ?_;first|refine sT ?_|refine sF ?_)|fail
 repeat first|refine st ?_|(refine nx ?_;refine so ?_)|(refine cx ?_;first|refine sT ?_|refine sF ?_)|fail
 exact h.out):p:=e ⟨h⟩
theorem wf{p q:Prop}(h:q)(e:Hid q->p:=by
 intro h;first|refine st ?_|(refine nx ?_;first|refine se ?_|refine so ?_)|(refine cx ?_;first|refine sT ?_|refine sF ?_)|fail
 repeat first|refine st ?_|(refine nx ?_;first|refine se ?_|refine so ?_)|(refine cx ?_;first|refine sT ?_|refine sF ?_)|fail
 exact h.out):p:=e ⟨h⟩
theorem nG{p q:Prop}(h:q)(e:Hid q->True->p:=by
 intro h W;first|refine st ?_|(refine nx ?_;refine so ?_)|(refine cx ?_;first|refine sT ?_|refine sF ?_|(refine sc (λhc=> ?_) (λhc=> ?_)<;>try exact hc.elim))|(refine lx ?_;refine sp (λhc=> ?_) (λhc=> ?_)<;>try exact hc.elim)|refine sx ?_ ?_|refine sy ?_ ?_|fail
 repeat' first|refine st ?_|(refine nx ?_;refine so ?_)|(refine cx ?_;first|refine sT ?_|refine sF ?_|(refine sc (λhc=> ?_) (λhc=> ?_)<;>try exact hc.elim))|(refine lx ?_;refine sp (λhc=> ?_) (λhc=> ?_)<;>try exact hc.elim)|refine sx ?_ ?_|refine sy ?_ ?_|fail
 all_goals exact h.out):p:=e ⟨h⟩ trivial
theorem bI{p q:Prop}(h:q)(e:Hid q->True->p:=by
 intro h W;first|refine st ?_|(refine nx ?_;first|refine se ?_|refine so ?_)|(refine cx ?_;first|refine sT ?_|refine sF ?_|(refine sc (λhc=> ?_) (λhc=> ?_)<;>try exact hc.elim))|(refine lx ?_;refine sp (λhc=> ?_) (λhc=> ?_)<;>try exact hc.elim)|refine sx ?_ ?_|refine sy ?_ ?_|fail
 repeat' first|refine st ?_|(refine nx ?_;first|refine se ?_|refine so ?_)|(refine cx ?_;first|refine sT ?_|refine sF ?_|(refine sc (λhc=> ?_) (λhc=> ?_)<;>try exact hc.elim))|(refine lx ?_;refine sp (λhc=> ?_) (λhc=> ?_)<;>try exact hc.elim)|refine sx ?_ ?_|refine sy ?_ ?_|fail
 all_goals exact h.out):p:=e ⟨h⟩ trivial
theorem aP{q:Prop}(h:q):(Exit.ret= .normal\/Exit.ret= .ret)/\q:=⟨.inr rfl,h⟩
theorem aO{P:Program}{fn:Func}{s:AS}{r:AV}{x:Array ResultVar}(hr:fn.results=x)(e:fn.results=x->aT P fn s r:=by intro hr;simp[aT,hr]):(Exit.ret= .normal\/Exit.ret= .ret)/\aT P fn s r:=⟨.inr rfl,e hr⟩
section
variable{P:Program}{p q:List Nat}{l:List Oper}{Q:Exit -> Act -> World -> Prop}
end
theorem Vz{P:Program}[aB P]{ops:Array Oper}{s:AS}{K1 K2:AS->Prop}(hk:∀s,K1 s->K2 s)(h:KZ P ops s K1):KZ P ops s K2:=
 λB a w Q hr hq=>h B a w Q hr λa' w' s' h1 h2=>hq a' w' s' (hk _ h1) h2
theorem yI{P:Program}[aB P]:∀(c:Code) (s:AS) (Q1 Q2:Exit->AS->Prop),(∀e s,Q1 e s->Q2 e s)->kY P c s Q1->kY P c s Q2
 | .skip,s,_,_,hq,h=>by simp only[kY]at h⊢;exact hq _ _ h
 | .region id ops false,s,_,_,hq,h=>by simp only[kY]at h⊢;exact h.elim λs2 h=>⟨s2,h.1,tH (hq _) _ _ h.2⟩
 | .region id ops true,s,_,_,hq,h=>by simp only[kY]at h⊢;exact Vz (hq _) h
 | .seq x y,s,Q1,Q2,hq,h=>by simp only[kY]at h⊢;refine yI x s _ _ (λe s' he=> ?_) h;cases e<;>simp only[sK]at he⊢ <;>first|exact yI y s' _ _ hq he|exact hq _ _ he
 | .cond c x y,s,_,_,hq,h=>by
  simp only[kY]at h⊢;split at h
  .exact ⟨λe=>yI x s _ _ hq (h.1 e),λe=>yI y s _ _ hq (h.2 e)⟩
  .exact h.elim
 | .block id c,s,Q1,Q2,hq,h=>by
  simp only[kY]at h⊢;refine yI c s _ _ (λe s' he=> ?_) h;cases e with
  |exit O6=>
   simp only[Ve]at he⊢;split<;>rename_i hid
   .rw [eA hid]at he;exact hq _ _ he
   .rw [cU hid]at he;exact hq _ _ he
  |_=>simp only[Ve]at he⊢;exact hq _ _ he
 | .loop c,s,_,_,hq,h=>by simp only[kY]at h⊢;obtain⟨ι,inv,μ,i,h0,hr⟩:=h;refine⟨ι,inv,μ,i,h0,λi=>yI c _ _ _ (λe s' he=> ?_) (hr i)⟩;cases e<;>simp only[sK]at he⊢ <;>first|exact he|exact hq _ _ he
 | .exit id,s,_,_,hq,h=>by simp only[kY]at h⊢;exact hq _ _ h
 | .ret,s,_,_,hq,h=>by simp only[kY]at h⊢;exact hq _ _ h
 | .rangeFunc _ _ _ _,_,_,_,_,h=>by simp[kY]at h
 | .scope _,_,_,_,_,h=>by simp[kY]at h
 | .label _,_,_,_,_,h=>by simp[kY]at h
 | .goto _,_,_,_,_,h=>by simp[kY]at h
 | .refuse _,_,_,_,_,h=>by simp[kY]at h
section
variable{P:Program}[aB P]{l:List Oper}{K:AS -> Prop}{n:Nat}{d d':List Bool}{s s':AS}{dst:Option Tmp}{ty:TypeId}{pos:String}{after:Array Edge}{x y:Operand}
end
def AS.zI(P:Program)(s:AS):List ResultVar->Option (Nat×List AV)
 | .cell t ty::xs=>match s.t.getD t .undef with
  | .ptr i ver idx off=>match s.at i ver idx with
   |some (ob,e)=>match iZ P ty with
    |some n=>if ob.box=true/\off+n<=e.length then(match s.wI P xs with
     |some ys=>some (i,.agg ((e.drop off).take n)::ys)
     |none=>none)else none
    |none=>none
   |none=>none
  |_=>none
 |_=>none
def AS.rvC(P:Program)(s:AS):List ResultVar->Option (Nat×List AV)
 |x::xs=>match s.wI P [x],s.zI P xs with
  |some [y],some (i,ys)=>some (i,y::ys)
  |_,_=>none
 |[]=>none
def LJ(P:Program)(fn:Func)(s:AS)(r:AV):Prop:=
 ∃i ys,(s.zI P fn.results.toList=some (i,ys)\/s.rvC P fn.results.toList=some (i,ys))/\gG s.o (single ys)=true/\(iB (single ys)).Nodup/\i∉iB (single ys)/\res s.o (single ys)=r/\clean r=true
theorem gB{P:Program}{fn:Func}{s:AS}{r:AV}(h:match s.zI P fn.results.toList with
  |some p=>gG s.o (single p.2)=true/\(iB (single p.2)).Nodup/\p.1∉iB (single p.2)/\res s.o (single p.2)=r/\clean r=true
  |none=>False):LJ P fn s r:=by
 split at h
 .rename_i p hp;exact⟨p.1,p.2,.inl hp,h⟩
 .exact h.elim
theorem Pb{P:Program}[aB P]{B:eP P}{s:AS}{G:List CO}{a:Act}{w:World}(r:bU B s G a w){t:Tmp}{ty:TypeId}{i ver idx off n:Nat}{ob:aD}{e:List AV}
  (hx:s.t.getD t .undef= .ptr i ver idx off) (ha:s.at i ver idx=some (ob,e)) (rV:ob.box=true) (hn:iZ P ty=some n) (hfit:off+n<=e.length):
  ∃v fp g,look s.o G i ob g/\ob.live=true/\(Br a (.cell t ty)).run P w= .ok v w/\R w (env B s.o G w) (.agg ((e.drop off).take n)) v fp/\fp.Nodup/\∀b∈fp,g.F b:=by
 obtain⟨ho,he⟩:=yB ha;obtain⟨g,b,f,hl,hlive,hga,hv⟩:=r.ptr (x:= .tmp t) hx ho;obtain⟨Jr,⟨_,hown⟩,hnd,hF⟩:=r.ok i ob g hl hlive;simp only[rV,Env.of,eI]at hown;rcases hown with⟨h5,_⟩|⟨b',f',C,tyc,fz,nA,uB,hbk,hz,k1,k2,k3,rfl,hr⟩
 .rw [h5]at he;simp at he
 rw[hga]at uB;simp only[cQ,lA,mN]at uB;obtain⟨rfl,rfl⟩:=uB;obtain⟨f1,f2,f3,cs,rfl,hcn,hc,hone,rF,_,_⟩:=Am hr he;have hle:=eG rF;simp only[Act.eval]at hv;obtain⟨g1,g2,rfl,_,Rq⟩:=oZ off rF;obtain⟨g3,g4,rfl,Y9,_⟩:=oZ n Rq;have hsub:∀x∈g3,x∈f1++(g1++(g3++g4))++f3:=λx hx=>by simp[hx]
 refine⟨.agg ((cs.drop off).take n).toArray,g3,g,hl,hlive,?_,by simp only[R];exact⟨_,rfl,CK hone,Y9⟩,?_,λx hx=>hF x (AF _ (hsub x hx))⟩
 .have:=pV (P:=P) (t:=ty) (k:=off) (n:=n) (cs:=cs) hn (by omega) hc;simp only[Instr.loadAt,Instr.sureAddr,pure_bind]at this;simp[Br,hv,asAddr,<-mA,this]
 .simp only[hY]at hnd;have h1:=(fY.1 hnd.2).1;have h2:=(fY.1 h1).2.1;have h3:=(fY.1 h2).2.1;exact(fY.1 h3).1
theorem Ty{P:Program}{s:AS}{l:List ResultVar}{i:Nat}{ys:List AV}(h:s.zI P l=some (i,ys)):
  ∃t ty xs ver idx off ob e n zs,l= .cell t ty::xs/\s.t.getD t .undef= .ptr i ver idx off/\s.at i ver idx=some (ob,e)/\iZ P ty=some n/\ob.box=true/\off+n<=e.length/\s.wI P xs=some zs/\ys= .agg ((e.drop off).take n)::zs:=by
 unfold AS.zI at h;split at h
 .split at h
  .rename_i i' ver idx off hx;split at h
   .rename_i ob e ha;split at h
    .rename_i n hn;split at h
     .rename_i hc;split at h
      .rename_i zs Y6;simp only[cQ,oX]at h;obtain⟨rfl,rfl⟩:=h;exact⟨_,_,_,_,_,_,_,_,_,_,rfl,hx,ha,hn,hc.1,hc.2,Y6,rfl⟩
      .cases h
     .cases h
    .cases h
   .cases h
  .cases h
 .cases h
theorem tK{P:Program}[aB P]{B:eP P}{s:AS}{G:List CO}{a:Act}{w:World}(r:bU B s G a w){fn:Func}{i:Nat}{ys:List AV}(h:s.zI P fn.results.toList=some (i,ys)):
  ∃v fp ob g,look s.o G i ob g/\ob.live=true/\(results fn a.tmps).run P w= .ok v w/\R w (env B s.o G w) (single ys) v fp/\fp.Nodup/\∀b∈fp,g.F b:=by
 obtain⟨t,ty,xs,ver,idx,off,ob,e,n,zs,mD,hx,ha,hn,rV,hfit,Y6,rfl⟩:=Ty h;obtain⟨v0,fp,g,hl,hlive,RA,hR0,hnd,hF⟩:=Pb r hx ha rV hn hfit;obtain⟨vs,h1,h2⟩:=Fx r Y6;have hl2:=eG h2;have hm:(fn.results.mapM (m:=Sem) (Br a)).run P w= .ok (v0::vs).toArray w:=by rw[Bm,mD];simp only[Sem.run_map,mapM_cons,mC];rw[RA];simp only[iS];rw[h1];simp
 rw[Ey];simp only[mC];rw[hm];simp only[iS,sR];match zs,vs,hl2,h2 with
 |[],[],_,h2=>exact⟨v0,fp,ob,g,hl,hlive,by simp,hR0,hnd,hF⟩
 |z::zs,v1::vs,_,h2=>exact⟨.tuple (v0::v1::vs).toArray,fp,ob,g,hl,hlive,by simp,by simp only[single];rw[R];exact⟨_,rfl,by rw[Rc];exact⟨fp,[],hR0,h2,by simp⟩⟩,hnd,hF⟩
theorem Qq{P:Program}[aB P]{B:eP P}{s:AS}{G:List CO}{a:Act}{w:World}(r:bU B s G a w){fn:Func}{i:Nat}{ys:List AV}(h:s.rvC P fn.results.toList=some (i,ys)):
  ∃v fp ob g,look s.o G i ob g/\ob.live=true/\(results fn a.tmps).run P w= .ok v w/\R w (env B s.o G w) (single ys) v fp/\fp.Nodup/\∀b∈fp,g.F b:=by
 unfold AS.rvC at h;split at h
 .rename_i x xs heq;split at h
  .rename_i y i' ys' hy hB;simp only[cQ,oX]at h;obtain⟨rfl,rfl⟩:=h;obtain⟨t,ty,xs',ver,idx,off,ob,e,n,zs,rfl,hx,ha,hn,rV,hfit,Y6,rfl⟩:=Ty hB;obtain⟨v0,fp,g,hl,hlive,RA,hR0,hnd,hF⟩:=Pb r hx ha rV hn hfit;obtain⟨vs,h1,h2⟩:=Fx r Y6;obtain⟨vy,h3,h4⟩:=Fx r hy;match vy,h4 with
   |[v],h4=>
    simp only[mapM_cons,mapM_nil,mC]at h3;have h5:(Br a x).run P w= .ok v w:=by
     cases hq:(Br a x).run P w with
     |ok v' w'=>rw[hq]at h3;simp at h3;rw[h3.1,h3.2]
     |_=>rw[hq]at h3;simp at h3
    have hm:(fn.results.mapM (m:=Sem) (Br a)).run P w= .ok (v::v0::vs).toArray w:=by rw[Bm,heq];simp only[Sem.run_map,mapM_cons,mC];rw[h5];simp only[iS];rw[RA];simp only[iS];rw[h1];simp
    rw[Ey];simp only[mC];rw[hm];simp only[iS,sR];simp only[Rc]at h4;obtain⟨f1,f2,h6,⟨_,rfl⟩,h8⟩:=h4;obtain rfl:f1=[]:=by simpa using h8.symm
    exact⟨.tuple (v::v0::vs).toArray,fp,ob,g,hl,hlive,by simp,by simp only[single];rw[R];exact⟨_,rfl,by rw[Rc];exact⟨[],fp,h6,by rw[Rc];exact⟨fp,[],hR0,h2,by simp⟩,by simp⟩⟩,hnd,hF⟩
   |[],h4=>simp[Rc]at h4
   |_::_::_,h4=>simp[Rc]at h4
  .cases h
 .cases h
theorem VC{P:Program}[aB P](hm:P.follows .mixedOrders=true){f:FuncId}{fn:Func}{c:Code}(hf:P.funcs[f]? =some fn)(hb:fn.body=some c){args:List AV}{rr:AV}
  (h:kY P c ⟨args++replicate (fn.ntmps-args.length) .undef,[]⟩ (λe s=>(e= .normal\/e= .ret)/\(aT P fn s rr\/LJ P fn s rr))):Ok P f args rr:=by
 intro w vs hg hargs;have hl:=eG hargs;have r0:bU ⟨w,λb=>b<w.heap.size,λ_=>False,λ_=>none,λ_=>none,hg,λ_ h=>h.elim,λ_ h=>h.elim⟩ ⟨args++replicate (fn.ntmps-args.length) .undef,[]⟩ [] {tmps:=vs.toArray++Array.replicate (fn.ntmps-vs.toArray.size) Go.undef,defers:=[]} w:=by
  refine⟨rfl,rfl,λi ob g hl=>by simp[look]at hl,λi j oi oj gi gj b hl=>by simp[look]at hl,λi ob g b hl=>by simp[look]at hl,?_,cX _,λ_ _ _=>rfl,λb hb=>hb,iW.rfl⟩;have h1:Rc w (env ⟨w,λb=>b<w.heap.size,λ_=>False,λ_=>none,λ_=>none,hg,λ_ h=>h.elim,λ_ h=>h.elim⟩ [] [] w) args vs []:=dC (w:=w) (w':=w) (E:=lI w) (E':=env ⟨w,λb=>b<w.heap.size,λ_=>False,λ_=>none,λ_=>none,hg,λ_ h=>h.elim,λ_ h=>h.elim⟩ [] [] w) ⟨λb hb=>⟨⟨.inl hb,λi ob g hl=>by simp[look]at hl⟩,rfl⟩,λ_ _=>trivial,λ_ _ _ h=>h.elim,λ_ _ _ h=>h.elim,λ_ _ _ _ _ h=>h.elim⟩ _ _ _ (by simp) hargs;have h2:∀n,Rc w (env ⟨w,λb=>b<w.heap.size,λ_=>False,λ_=>none,λ_=>none,hg,λ_ h=>h.elim,λ_ h=>h.elim⟩ [] [] w) (replicate n .undef) (replicate n Go.undef) []:=by
   intro n;induction n with
   |zero=>simp[Rc]
   |succ n ih=>simp only[lB,Rc];exact⟨[],[],by simp[R],ih,rfl⟩
  have:=gK h1 (h2 (fn.ntmps-args.length));simpa [hl]using this
 refine AT hf hb (CN (lC hm c _ _ h _ _ ⟨_,r0⟩) λe a w' he=> ?_);obtain⟨s,⟨he,AZ⟩,G,r⟩:=he;have key:∃(E:Env) (v:Value) (fp:List Nat),(results fn a.tmps).run P w'= .ok v w'/\R w' E.plain rr v fp/\fp.Nodup/\clean rr=true/\∀b∈fp,∃j ob g,look s.o G j ob g/\ob.live=true/\g.F b:=by
  rcases AZ with⟨ys,Dk,qD,hu,mD,Ip⟩|⟨i,ys,Dk,qD,hu,hi,mD,Ip⟩
  .obtain ⟨v,hrun,hR⟩:=oF r Dk;obtain⟨fp,h1,h2,h3⟩:=Bp r _ v qD hu hR;rw[mD]at h1;exact⟨_,v,fp,hrun,h1,h2,Ip,λb hb=>by obtain⟨i,ob,g,_,h⟩:=h3 b hb;exact⟨i,ob,g,h⟩⟩
  .obtain ⟨v,Jr,ob,g,hlk,hlive,hrun,hR,hnd,hF⟩:=Dk.elim (tK r) (Qq r);obtain⟨fp,h1,h2,h3⟩:=GN r hlk hlive _ v Jr qD hu hi hnd hF hR;rw[mD]at h1;refine⟨_,v,fp,hrun,h1,h2,Ip,λb hb=> ?_⟩;rcases h3 b hb with h|⟨j,dH,g',_,h⟩
   .exact ⟨i,ob,g,hlk,hlive,hF b h⟩
   .exact ⟨j,dH,g',h⟩
 obtain⟨E,v,fp,hrun,h1,h2,Ip,h3⟩:=key;have hfin:∃v' fp,Ending.returned v= .returned v'/\R w' (wV w.heap.size w' fp) rr v' fp/\fp.Nodup/\(∀b∈fp,w.heap.size<=b/\b<w'.heap.size)/\w.heap.size<=w'.heap.size/\(∀b,b<w.heap.size->w'.heap[b]? =w.heap[b]?)/\iW w w':=by refine⟨v,fp,rfl,M6 <| JU (E:=E.plain) (λ_ _=>trivial) rfl rfl rfl _ _ _ Ip h1,h2,λb hb=> ?_,r.size,λb hb=>r.frame b hb (λh=>h),r.same⟩;obtain⟨i,ob,g,hl,hlive,hF⟩:=h3 b hb;have:=r.fresh _ _ _ b hl hlive hF;exact⟨this.1.resolve_left (λh=>h),this.2⟩
 rcases he with rfl|rfl
 .exact ⟨r.defs,v,hrun,hfin⟩
 .exact ⟨r.defs,v,hrun,hfin⟩
theorem LK{P:Program}[aB P](hm:P.follows .mixedOrders=true){f:FuncId}{fn:Func}{c:Code}(hf:P.funcs[f]? =some fn){n:Nat}(hn:fn.ntmps=n){args t:List AV}{rr:AV}
  (h:kY P c ⟨t,[]⟩ (λe s=>(e= .normal\/e= .ret)/\(aT P fn s rr\/LJ P fn s rr))) (hb:fn.body=some c:=by rfl)
  (ht:args++replicate (n-args.length) .undef=t:=by
   simp only[eE,eR,Nat.reduceSub,Nat.reduceAdd,lB,rN,cM,cW];rfl):Ok P f args rr:=by
 subst ht;subst hn;exact VC hm hf hb h
theorem Tz{P:Program}{fn:Func}{s:AS}{r:AV}{x:Array ResultVar}(hr:fn.results=x)(e:fn.results=x->aT P fn s r\/LJ P fn s r:=by intro hr;first|(refine .inl ?_;simp[aT,hr];done)|(refine .inr (gB ?_);simp[AS.zI,AS.wI,AS.rv,hr];done)):(Exit.ret= .normal\/Exit.ret= .ret)/\(aT P fn s r\/LJ P fn s r):=⟨.inr rfl,e hr⟩
end Go.Aw
