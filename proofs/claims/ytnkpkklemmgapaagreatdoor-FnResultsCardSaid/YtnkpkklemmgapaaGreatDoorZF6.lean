/- Proved here: steps towards the statement of this claim. No condition. -/
import Derived.Test.YtnkpkklemmgapaaGreatDoorZF3
import Derived.ProofKit
set_option linter.all false
namespace Go.Aw
open List
def pre(op:Oper):List Nat:=(op.after.toList.filter λe=>Region.binds .any e).map (·.on)
def XJ(l:List Oper)(J:Nat->Bool):Prop:=∀j op,l[j]? =some op->J j=true->∀e∈pre op,J e=true
theorem uy{op:Oper}{n:Nat}:n∈pre op↔∃e∈op.after.toList,Region.binds .any e=true/\e.on=n:=by simp[pre,qS,BT,and_assoc]
def qL(P:Program)[aB P](l:List Oper)(op:Oper)(s:AS)(K:AS->Prop):Prop:=
 match op.guard with
 |none=>rM P op s K\/RO P op s K
 |some (j,want)=>match nI l s j want with
  | .bool b=>(b=want->rM P op s K\/RO P op s K)/\(b≠want->K (s.put op.dst (.iP [])))
  |_=>False
def lZ(l:List Oper)(j:Nat):List Nat:=match l[j]? with|some o=>pre o|none=>[]
def reach(l:List Oper):Nat->List Nat->List Nat
 |0,acc=>acc
 |k+1,acc=>reach l k (if k∈acc then acc++lZ l k else acc)
def Db(l:List Oper)(m:Nat):Bool:=
 decide (m<=l.length)&&((range (l.length-m)).all (λd=>(lZ l (m+d)).all (λe=>decide (e<m+d))&&(d == 0 || decide (m+d-1∈lZ l (m+d))))&&
 (decide (l.length<=m) || (range m).all λj=>decide (j∈reach l m (lZ l m))))
theorem Ls{l:List Oper}{J:Nat->Bool}(hc:XJ l J):∀(k:Nat) (acc:List Nat),(∀e∈acc,J e=true)->∀e∈reach l k acc,J e=true
 |0,acc,h=>h
 |k+1,acc,h=>by
  simp only[reach];refine Ls hc k _ ?_;split
  .rename_i hk;intro e he;rcases fS.1 he with he|he
   .exact h e he
   .unfold lZ at he;split at he
    .rename_i o ho;exact hc k o ho (h k hk) e he
    .cases he
  .exact h
theorem XK{l:List Oper}{m j:Nat}{op:Oper}(ht:Db l m=true)(hm:m<=j)(hj:l[j]? =some op):(∀e∈pre op,e<j)/\(m<j->j-1∈pre op):=by
 unfold Db at ht;simp only[eI,fW]at ht;have hlt:=(cQ.1 hj).1;have h:=ht.2.1 (j-m) (by simp;omega);have e:m+(j-m)=j:=by omega
 have hp:lZ l j=pre op:=by simp[lZ,hj]
 rw[e,hp]at h;simp only[fW,fX,sE,CA]at h;exact⟨h.1,λhlt=>h.2.resolve_left (by omega)⟩
theorem aCo{l:List Oper}{m:Nat}{op:Oper}{J:Nat->Bool}(ht:Db l m=true)(hm:l[m]? =some op)(hc:XJ l J)(hp:∀e∈pre op,J e=true):∀j,j<m->J j=true:=by
 intro j hj;unfold Db at ht;simp only[eI,sE,fX]at ht;have hlt:=(cQ.1 hm).1;have h:=ht.2.2.resolve_left (by omega);rw[fW]at h;have:=h j (by simpa using hj);simp only[fX]at this;have hpa:lZ l m=pre op:=by simp[lZ,hm]
 rw[hpa]at this;exact Ls hc m _ hp j this
theorem XL{listed:Array Bool}{i:Nat}(h:i<listed.size):(!listed.getD i true)= !listed.getD i false:=by rw[eN,eN,pN h];rfl
theorem mem_ready{ops:Array Oper}{listed:Array Bool}(hl:listed.size=ops.size){i:Nat}:i∈Region.ready .any ops listed↔∃op,ops.toList[i]? =some op/\listed.getD i false=false/\∀e∈pre op,listed.getD e false=true:=by
 unfold Region.ready;rw[BT];constructor
 .rintro ⟨hi1,hi2⟩;have zJ:i<ops.size:=by simpa using hi1
  have hop:ops[i]? =some ops[i]:=by simp[zJ]
  simp only[eI,hop,mA,pA]at hi2;obtain⟨h1,h2⟩:=hi2;rw[DB]at h2;refine⟨ops[i],by simp[zJ],?_,λn hn=> ?_⟩
  .rw [XL (by omega)]at h1;simpa using h1
  .obtain ⟨e,he,hb,rfl⟩:=uy.1 hn;have:=h2 e (by simpa using he);simpa [hb]using this
 .rintro ⟨op,hop,h1,h2⟩;have zJ:i<ops.size:=by have:=(cQ.1 hop).1;simpa using this
  have hop':ops[i]? =some op:=by simpa using hop
  refine⟨by simpa using zJ,?_⟩;simp only[eI,hop',mA,pA];refine⟨by rw[XL (by omega)];simp[h1],?_⟩;rw[DB];intro e he;cases hb:Region.binds .any e with
  |false=>simp
  |true=>have:=h2 e.on (uy.2 ⟨e,by simpa using he,hb,rfl⟩);simp[this]
theorem Vv{P:Program}[aB P]{B:fM P}{l:List Oper}{op:Oper}{s:AS}{K:AS->Prop}(h:qL P l op s K){a:Act}{w:World}(r:Rel B s a w){Kc:Act->World->Prop}{Q:Exit->Act->World->Prop}(hk:∀a' w' s',K s'->Rel B s' a' w'->Kc a' w'):
  if Region.wanted op (yielded l.toArray a.tmps)then op.wp P a w Kc Q\/(op.asks P a w/\LetsOut Q)else Kc (a.put op.dst undef) w:=by
 unfold qL at h;split at h
 .rename_i hg;rw[eW (by simp[Region.wanted,hg])];obtain⟨s',h',hst⟩:=h.elim (zW (B:=B)) (OU (B:=B));exact .inl (hst a w _ Q r λa' w' r'=>hk a' w' s' h' r')
 .rename_i j want hg;split at h
  .rename_i b hb;obtain⟨G,r'⟩:=r;have hy:=Pm r' hb;by_cases hbw:b=want
   .rw [eW (by simp[Region.wanted,hg,hy,hbw])];obtain⟨s',h',hst⟩:=(h.1 hbw).elim (zW (B:=B)) (OU (B:=B));exact .inl (hst a w _ Q ⟨G,r'⟩ λa' w' r'=>hk a' w' s' h' r')
   .rw [eK (by simp[Region.wanted,hg,hy,hbw])];exact hk _ _ _ (h.2 hbw) ⟨G,r'.put op.dst (cz _ _)⟩
  .exact h.elim
theorem Lt{P:Program}[aB P]{B:fM P}{all r:List Oper}{o:Oper}{s:AS}{K:AS->Prop}(h:iJ P all (o::r) s K){a:Act}{w:World}(rl:Rel B s a w){Kc:Act->World->Prop}{Q:Exit->Act->World->Prop}(hk:∀a' w' s',iJ P all r s' K->Rel B s' a' w'->Kc a' w'):
  if Region.wanted o (yielded all.toArray a.tmps)then o.wp P a w Kc Q\/(o.asks P a w/\LetsOut Q)else Kc (a.put o.dst undef) w:=by
 simp only[iJ]at h;have stepped:((rM P o s λs'=>iJ P all r s' K)\/(En P o s λs'=>iJ P all r s' K)\/(GG P o s λs'=>iJ P all r s' K))->o.wp P a w Kc Q\/(o.asks P a w/\LetsOut Q):=by
  intro h;by_cases hcu:GG P o s λs'=>iJ P all r s' K
  .exact .inl (Mr hcu a w _ Q rl λa' w' s' h' r'=>hk a' w' s' h' r')
  have:∃s',iJ P all r s' K/\Step P B o s s':=by
   rcases h with h|h|h
   .exact zW (B:=B) h
   .exact Pk (B:=B) h
   .exact (hcu h).elim
  obtain⟨s',h',hst⟩:=this;exact .inl (hst a w _ Q rl λa' w' r'=>hk a' w' s' h' r')
 split at h
 .rename_i hg;rw[eW (by simp[Region.wanted,hg])];exact stepped h
 .rename_i j want hg;split at h
  .rename_i b hb;have rl2:=rl;obtain⟨G,r'⟩:=rl2;have hy:=Pm r' hb;by_cases hbw:b=want
   .rw [eW (by simp[Region.wanted,hg,hy,hbw])];exact stepped (h.1 hbw)
   .rw [eK (by simp[Region.wanted,hg,hy,hbw])];exact hk _ _ _ (h.2 hbw) ⟨G,r'.put o.dst (cz _ _)⟩
  .exact h.elim
theorem JM{listed:Array Bool}{i:Nat}(h:i<listed.size)(j:Nat):(listed.setIfInBounds i true).getD j false=eT (λj=>listed.getD j false) i j:=by
 unfold eT;simp only[eN,rK];by_cases hj:j=i
 .subst hj;simp[h]
 .simp [hj,wA hj]
theorem uz{P:Program}[aB P]{B:fM P}{ops:Array Oper}{m:Nat}{K:AS->Prop}{Q:Exit->Act->World->Prop}(ht:Db ops.toList m=true)(hk:∀a' w' s',K s'->Rel B s' a' w'->Q .normal a' w'):
  ∀(n k:Nat) (listed:Array Bool) (s:AS) (a:Act) (w:World),listed.size=ops.size->k+n=ops.size->m<=k->(∀j,listed.getD j false=decide (j<k))->iJ P ops.toList (ops.toList.drop k) s K->Rel B s a w->wpAny P .any ops Q n listed a w
 |0,k,listed,s,a,w,hl,hn,hm,hj,h,r=>by have hdr:ops.toList.drop k=[]:=Ek (by simp;omega);rw[hdr]at h;simp only[iJ]at h;refine⟨?_,hk _ _ _ h r⟩;rw[rI];intro i hi;obtain⟨op,hop,h1,_⟩:=(mem_ready hl).1 hi;have zJ:=(cQ.1 hop).1;rw[hj]at h1;simp at h1 zJ;omega
 |n+1,k,listed,s,a,w,hl,hn,hm,hj,h,r=>by
  have hkl:k<ops.toList.length:=by simp;omega
  have hop:ops.toList[k]? =some ops.toList[k]:=aE hkl;have hpre:=XK ht hm hop;constructor
  .intro hnil;exfalso;have:k∈Region.ready .any ops listed:=(mem_ready hl).2 ⟨_,hop,by rw[hj];simp,λe he=>by rw[hj];simpa using hpre.1 e he⟩;rw[hnil]at this;cases this
  .intro i hi;obtain⟨op,aLd,h1,h2⟩:=(mem_ready hl).1 hi;rw[hj]at h1;have hki:k<=i:=by simpa using h1
   have hik:i=k:=by
    rcases tA k i with hlt|hge
    .exfalso;have:=h2 _ ((XK ht (by omega) aLd).2 (by omega));rw[hj]at this;simp at this;omega
    .omega
   subst hik;rw[hop]at aLd;obtain rfl:=cU aLd;rw[oS hkl]at h;unfold wpOp;have fu:ops[i]? =some ops.toList[i]:=by simpa using hop
   rw[fu];have:=Lt h r (Kc:=wpAny P .any ops Q n (listed.setIfInBounds i true)) (Q:=Q) (λa' w' s' h' r'=>
    uz ht hk n (i+1) _ s' a' w' (by simpa using hl) (by omega) (by omega) (λj=>by
     rw[JM (by simpa [hl]using hkl)];unfold eT;by_cases hji:j=i
     .subst hji;simp
     .rw [eK hji];show listed.getD j false=_;rw[hj];have:(j<i)↔(j<i+1):=by omega
      simp[this]) h' r')
   simpa using this
def Vw(l:List Oper)(d:List Bool):List Nat:=(range l.length).filter λi=> !d.getD i false&&(lZ l i).all λe=>d.getD e false
mutual
def yK(P:Program)[aB P](l:List Oper)(K:AS->Prop):Nat->List Bool->AS->Prop
 |0,_,s=>K s
 |n+1,d,s=>uU P l K n d s (Vw l d)
def uU(P:Program)[aB P](l:List Oper)(K:AS->Prop):Nat->List Bool->AS->List Nat->Prop
 |_,_,_,[]=>True
 |n,d,s,i::r=>(∃op,l[i]? =some op/\iJ P l [op] s λs'=>yK P l K n (d.set i true) s')/\uU P l K n d s r
end
theorem Lu{P:Program}[aB P]{l:List Oper}{K:AS->Prop}{n:Nat}{d:List Bool}{s:AS}:∀{r:List Nat},uU P l K n d s r->∀i∈r,∃op,l[i]? =some op/\iJ P l [op] s λs'=>yK P l K n (d.set i true) s'
 |[],_,i,hi=>by cases hi
 |j::r,h,i,hi=>by
  simp only[uU]at h;rcases gE.1 hi with rfl|hi
  .exact h.1
  .exact Lu h.2 i hi
def GQ(l:List Oper):Bool:=(range l.length).all λi=>(lZ l i).all λe=>decide (e<i)
theorem FT{l:List Oper}(h:GQ l=true){i:Nat}{op:Oper}(hi:l[i]? =some op):∀e∈pre op,e<i:=by
 unfold GQ at h;rw[fW]at h;have:=h i (by simp;exact(cQ.1 hi).1);have hp:lZ l i=pre op:=by simp[lZ,hi]
 rw[hp,fW]at this;exact λe he=>by simpa using this e he
theorem ve{P:Program}[aB P]{B:fM P}{ops:Array Oper}{K:AS->Prop}{Q:Exit->Act->World->Prop}(hfw:GQ ops.toList=true)(hk:∀a' w' s',K s'->Rel B s' a' w'->Q .normal a' w'):
  ∀(n:Nat) (d:List Bool) (listed:Array Bool) (s:AS) (a:Act) (w:World),listed.toList=d->listed.size=ops.size->left d=n->yK P ops.toList K n d s->Rel B s a w->wpAny P .any ops Q n listed a w
 |0,d,listed,s,a,w,hd,hl,hn,h,r=>by
  simp only[yK]at h;refine⟨?_,hk _ _ _ h r⟩;rw[rI];intro i hi;obtain⟨op,hop,h1,_⟩:=(mem_ready hl).1 hi;have zJ:=(cQ.1 hop).1;have hi':i<listed.size:=by simp at zJ;omega
  have:=FM (l:=d) hn (i:=i) (b:=listed[i]) (by rw[<-hd];simp[hi']);rw[eN,pN hi']at h1;simp[this]at h1
 |n+1,d,listed,s,a,w,hd,hl,hn,h,r=>by
  have hget:∀j,d.getD j false=listed.getD j false:=λj=>by rw[<-hd,hY,eN];simp
  simp only[yK]at h;constructor
  .intro hnil;exfalso;obtain⟨i,h1,h2⟩:=JH (l:=d) (by omega);have hi:i<listed.size:=by have:=(cQ.1 h1).1;rw[<-hd]at this;simpa using this
   have zJ:i<ops.toList.length:=by simp;omega
   have hop:=aE zJ;have:i∈Region.ready .any ops listed:=(mem_ready hl).2 ⟨_,hop,by rw[<-hget,hY,h1];rfl,λe he=>by
    have:=h2 e (FT hfw hop e he);rw[<-hget,hY,this];rfl⟩
   rw[hnil]at this;cases this
  .intro i hi;obtain⟨op,hop,h1,h2⟩:=(mem_ready hl).1 hi;have zJ:=(cQ.1 hop).1;have hir:i∈Vw ops.toList d:=by
    unfold Vw;rw[BT];refine⟨by simpa using zJ,?_⟩;have hp:lZ ops.toList i=pre op:=by simp[lZ,hop]
    rw[hget,h1,hp];simp only[FG,tR,fW];exact λe he=>by rw[hget];exact h2 e he
   obtain⟨op',hop',hst⟩:=Lu h i hir;rw[hop]at hop';obtain rfl:=cU hop';unfold wpOp;have fu:ops[i]? =some op:=by simpa using hop
   rw[fu];have hil:i<listed.size:=by simp at zJ;omega
   have:=Lt hst r (Kc:=wpAny P .any ops Q n (listed.setIfInBounds i true)) (Q:=Q) (λa' w' s' h' r'=>by
    simp only[iJ]at h';refine ve hfw hk n (d.set i true) _ s' a' w' (by rw[AE,hd]) (by simpa using hl) ?_ h' r';have hdi:d[i]? =some false:=by
     have h3:=hget i;rw[h1,hY]at h3;have hid:i<d.length:=by rw[<-hd];simpa using hil
     rw[aE hid]at h3⊢;simpa using h3
    have:=Es hdi;omega)
   simpa using this
def wH(l:List Oper)(m:Nat):Bool:=(range l.length).all λi=>decide (i<=m) || (lZ l i).any λe=>decide (m<=e)
theorem Il:∀(L:List Bool) (q:Nat),(∀j,L.getD j false=decide (j<q))->q<=L.length->left L+q=L.length
 |[],q,_,h=>by simp at h;simp[left,h]
 |b::L,q,hq,hle=>by
  have hb:=hq 0;simp[getD]at hb;rw[Cf];cases q with
  |zero=>
   have hb':b=false:=by simpa using hb
   have:=Il L 0 (λj=>by have:=hq (j+1);simpa [getD]using this) (by omega);rw[hb',eK (by simp)];simp;omega
  |succ q=>
   have hb':b=true:=by simpa using hb
   have:=Il L q (λj=>by have:=hq (j+1);simpa [getD]using this) (by simpa using hle);rw[hb',eW rfl];simp;omega
theorem XM{P:Program}[aB P]{ops:Array Oper}{s:AS}{K:AS->Prop}(m:Nat)(aW5:m<=ops.size)(hfw:GQ ops.toList=true)(hrest:wH ops.toList m=true)(S:(Nat->Bool)->AS)(h0:kY s (S λ_=>false))
  (hs:∀i op,i<m->ops.toList[i]? =some op->∀J:Nat->Bool,XJ ops.toList J->(∀k,m<=k->J k=false)->J i=false->(∀e∈pre op,J e=true)->(qL P ops.toList op (S J) λs'=>kY s' (S (eT J i)))\/(op.guard=none/\∀B,Step P B op (S J) (S (eT J i))))
  (he:∀J:Nat->Bool,XJ ops.toList J->(∀k,m<=k->J k=false)->((∀i,i<m->J i=true)\/∃op,ops.toList[m]? =some op/\∀e∈pre op,J e=true)->yK P ops.toList K (left ((range ops.size).map J)) ((range ops.size).map J) (S J)\/(Db ops.toList m=true/\(∀i,i<m->J i=true)/\iJ P ops.toList (ops.toList.drop m) (S J) K)):CU P ops s K:=by
 intro B a w Q hr hk;have toJ:∀listed:Array Bool,listed.size=ops.size->listed.toList=(range ops.size).map λi=>listed.getD i false:=by
  intro listed hl;refine AK λi=> ?_
  rw[sA];by_cases hi:i<ops.size
  .have hil:i<listed.size:=by omega
   simp[hi,hil]
  .have hil:listed.toList.length<=i:=by simp;omega
   rw[pP hil];simp[hi]
 have fin:∀(fuel:Nat) (listed:Array Bool) (a:Act) (w:World),listed.size=ops.size->left listed.toList=fuel->(∀k,m<=k->listed.getD k false=false)->XJ ops.toList (λi=>listed.getD i false)->Rel B (S λi=>listed.getD i false) a w->
   ((∀i,i<m->listed.getD i false=true)\/∃op,ops.toList[m]? =some op/\∀e∈pre op,listed.getD e false=true)->wpAny P .any ops Q fuel listed a w:=by
  intro fuel listed a w hl hz hhi hc r hor;rcases he _ hc hhi hor with this|⟨ht,hall,h⟩
  .rw [<-toJ listed hl]at this;exact ve hfw hk fuel listed.toList listed _ a w rfl hl hz (hz▸this) r
  .have hJ:(λi=>listed.getD i false)=λk=>decide (k<m):=by
    funext i;by_cases hi:i<m
    .rw [hall i hi];simp[hi]
    .rw [hhi i (by omega)];simp[hi]
   have hcount:m+fuel=ops.size:=by have:=Il listed.toList m (λj=>by have:=congrFun hJ j;simpa [eN,hY]using this) (by simp;omega);rw[hz]at this;simp at this;omega
   exact uz ht hk fuel m listed _ a w hl hcount (eE _) (λj=>congrFun hJ j) h r
 have key:∀(fuel:Nat) (listed:Array Bool) (a:Act) (w:World),listed.size=ops.size->left listed.toList=fuel->(∀k,m<=k->listed.getD k false=false)->XJ ops.toList (λi=>listed.getD i false)->Rel B (S λi=>listed.getD i false) a w->wpAny P .any ops Q fuel listed a w:=by
  intro fuel;induction fuel with
  |zero=>
   intro listed a w hl hz hhi hc r;refine fin 0 listed a w hl hz hhi hc r (.inl λi hi=> ?_);have hi':i<listed.size:=by omega
   have:=FM hz (i:=i) (b:=listed[i]) (by simp[hi']);simp[Array.getD,hi',this]
  |succ fuel ih=>
   intro listed a w hl hz hhi hc r;by_cases hall:(∀i,i<m->listed.getD i false=true)\/∃op,ops.toList[m]? =some op/\∀e∈pre op,listed.getD e false=true
   .exact fin _ listed a w hl hz hhi hc r hall
   .have hlow:∀i∈Region.ready .any ops listed,i<m:=by
     intro i hi;obtain⟨op,hop,h1,h2⟩:=(mem_ready hl).1 hi;rcases tA i m with h|h
     .exact h
     .exfalso;rcases tA m i with hlt|hge
      .unfold wH at hrest;rw[fW]at hrest;have:=hrest i (by simp;have:=(cQ.1 hop).1;simpa using this);have hp:lZ ops.toList i=pre op:=by simp[lZ,hop]
       simp only[hp,sE,fX,any_eq_true]at this;rcases this with h'|⟨e,he,hme⟩
       .omega
       .have h3:=h2 e he;rw[hhi e hme]at h3;cases h3
      .have:i=m:=by omega
       subst this;exact hall (.inr ⟨op,hop,h2⟩)
    constructor
    .intro hnil;exfalso;obtain⟨i,h1,h2⟩:=JH (l:=listed.toList) (by omega);have hi:i<listed.size:=by have:=(cQ.1 h1).1;simpa using this
     have hgi:listed.getD i false=false:=by
      have:listed[i]? =some false:=by simpa using h1
      rw[eN,this];rfl
     have aSv:i<ops.toList.length:=by simp;omega
     have hop:=aE aSv;have:i∈Region.ready .any ops listed:=(mem_ready hl).2 ⟨_,hop,hgi,λe he=>by
      have:=h2 e (FT hfw hop e he);have h3:listed[e]? =some true:=by simpa using this
      rw[eN,h3];rfl⟩
     rw[hnil]at this;cases this
    .intro i hi;have him:=hlow i hi;obtain⟨op,hop,h1,h2⟩:=(mem_ready hl).1 hi;have zJ:i<ops.size:=by omega
     have hil:i<listed.size:=by omega
     have hst:=hs i op him hop (λj=>listed.getD j false) hc hhi h1 h2;unfold wpOp;have fu:ops[i]? =some op:=by simpa using hop
     rw[fu];have hu:(λj=>(listed.setIfInBounds i true).getD j false)=eT (λj=>listed.getD j false) i:=funext λj=>JM hil j
     have hnext:∀a' w',Rel B (S (eT (λj=>listed.getD j false) i)) a' w'->wpAny P .any ops Q fuel (listed.setIfInBounds i true) a' w':=λa' w' r'=>by
      refine ih _ _ _ (by simpa using hl) ?_ ?_ ?_ ?_
      .have h1':listed.toList[i]? =some false:=by
        have:listed[i]? =some listed[i]:=by simp[hil]
        rw[eN,this]at h1;simp only[pA]at h1;rw[h1]at this;simpa using this
       have:=Es h1';rw[AE];omega
      .intro k hk;rw[JM hil];unfold eT;rw[eK (by omega)];exact hhi k hk
      .rw [hu];intro j op' hj hJ e he;by_cases hji:j=i
       .subst hji;rw[hop]at hj;obtain rfl:=cU hj;unfold eT;split
        .rfl
        .exact h2 e he
       .unfold eT at hJ⊢;rw[eK hji]at hJ;split
        .rfl
        .exact hc j op' hj hJ e he
      .rw [hu];exact r'
     rcases hst with hst|⟨hg,hst⟩
     .have:=Vv hst r (Kc:=wpAny P .any ops Q fuel (listed.setIfInBounds i true)) (Q:=Q) (λa' w' s' hw r'=>hnext a' w' (hw B a' w' r'));simpa using this
     .have:Region.wanted op (yielded ops a.tmps)=true:=by simp[Region.wanted,hg]
      simp only[this,eV];exact .inl (hst B a w _ Q r hnext)
 obtain⟨G,r⟩:=hr;have r2:Rel B s a {w with drawn:=w.drawn+1}:=⟨G,{len:=r.len,defs:=r.defs,ok:=λi ob g hl hlive=>(r.ok i ob g hl hlive).keeps (w':={w with drawn:=w.drawn+1}) ⟨λb h=>⟨h,rfl⟩,λ_ h=>h,λ_ _ _ h=>⟨h,rfl⟩,λ_ _ _ h=>h,λ_ _ _ _ _ h=>h⟩ (λ_ _=>rfl),apart:=r.apart,fresh:=r.fresh,tmps:=dX (w:=w) (E:=env B s.o G w) (w':={w with drawn:=w.drawn+1}) (E':=env B s.o G {w with drawn:=w.drawn+1}) ⟨λb h=>⟨h,rfl⟩,λ_ h=>h,λ_ _ _ h=>⟨h,rfl⟩,λ_ _ _ h=>h,λ_ _ _ _ _ h=>h⟩ _ _ _ (by simp) r.tmps,size:=r.size,frame:=r.frame,base:=r.base,same:=r.same.trans ⟨rfl,rfl,rfl⟩}⟩;have hJ:(λi=>(Array.replicate ops.size false).getD i false)=λ_=>false:=by funext i;simp only[eN,sR];split<;>rfl
 refine key _ _ _ _ (by simp) (by simp[left]) (λk _=>congrFun hJ k) (by rw[hJ];intro j op _ h;cases h) ?_;rw[hJ];exact h0 _ _ _ r2
def jz(m:Nat)(z:List Nat)(k:Nat):Bool:=decide (k<m)&& !z.contains k
def sH(l:List Oper)(m:Nat):List Nat:=(range m).filter λj=> !(reach l m (lZ l m)).contains j
def Ci(F:List Nat->Prop):List Nat->List Nat->Prop
 |acc,[]=>F acc
 |acc,z::r=>Ci F acc r/\Ci F (z::acc) r
theorem PH{F:List Nat->Prop}(p:Nat->Bool):∀(z acc:List Nat),Ci F acc z->F ((z.filter p).reverse++acc)
 |[],acc,h=>by simpa [Ci]using h
 |x::z,acc,h=>by
  simp only[Ci]at h;by_cases hx:p x=true
  .have:=PH p z (x::acc) h.2;rw[filter_cons_of_pos hx];simpa using this
  .have:=PH p z acc h.1;rw[filter_cons_of_neg hx];exact this
theorem aOv{l:List Oper}{m:Nat}{op:Oper}{J:Nat->Bool}(hm:l[m]? =some op)(hc:XJ l J)(hhi:∀k,m<=k->J k=false)(hp:∀e∈pre op,J e=true):J=jz m ((sH l m).filter λk=> !J k).reverse:=by
 funext k;unfold jz;by_cases hk:k<m
 .simp only[hk,decide_true,tR];cases hJ:J k with
  |true=>
   have:((sH l m).filter λk=> !J k).reverse.contains k=false:=by rw[contains_eq_mem];simp[hJ]
   rw[this];rfl
  |false=>
   have hs:k∈sH l m:=by
    unfold sH;rw[BT];refine⟨by simpa using hk,?_⟩;have hpa:lZ l m=pre op:=by simp[lZ,hm]
    rw[hpa];cases hcn:(reach l m (pre op)).contains k with
    |false=>rfl
    |true=>rw[contains_eq_mem]at hcn;have:=Ls hc m (pre op) hp k (by simpa using hcn);rw[hJ]at this;cases this
   have:((sH l m).filter λk=> !J k).reverse.contains k=true:=by rw[contains_eq_mem];simp[hJ,hs]
   rw[this];rfl
 .rw [hhi k (by omega)];simp[hk]
def aCp(i:Nat)(pr:List Nat)(j:Nat)(op:Oper)(v:AV)(t:List AV):List AV:=
 match op.dst with
 |none=>t
 |some d=>if j=i then t else if j∈pr then t.set d v else if i∈pre op then t else t.set d .undef
def nM(i:Nat)(pr:List Nat):Nat->List Oper->List AV->List AV->List AV
 |_,[],_,t=>t
 |j,op::r,vs,t=>nM i pr (j+1) r vs.tail (aCp i pr j op (vs.headD .undef) t)
def zF(J:Nat->Bool)(j:Nat)(op:Oper)(v:AV)(t:List AV):List AV:=
 match op.dst with
 |none=>t
 |some d=>if J j=true then t.set d v else t
def gM(J:Nat->Bool):Nat->List Oper->List AV->List AV->List AV
 |_,[],_,t=>t
 |j,op::r,vs,t=>gM J (j+1) r vs.tail (zF J j op (vs.headD .undef) t)
theorem PI:∀{t2 t:List AV} (d:Nat) {v2 v:AV},wk t2 t->(v=v2\/v= .undef)->wk (t2.set d v2) (t.set d v)
 |[],[],_,_,_,_,_=>trivial
 |[],_::_,_,_,_,h,_=>h.elim
 |_::_,[],_,_,_,h,_=>h.elim
 |_::_,_::_,0,_,_,h,hv=>⟨hv,h.2⟩
 |_::_,_::_,d+1,_,_,h,hv=>⟨h.1,PI d h.2 hv⟩
theorem JN:∀{t2 t:List AV} (d:Nat),wk t2 t->wk t2 (t.set d .undef)
 |[],[],_,_=>trivial
 |[],_::_,_,h=>h.elim
 |_::_,[],_,h=>h.elim
 |_::_,_::_,0,h=>⟨.inr rfl,h.2⟩
 |_::_,_::_,d+1,h=>⟨h.1,JN d h.2⟩
theorem Lv:∀{t2 t:List AV},wk t2 t->t2.length=t.length
 |[],[],_=>rfl
 |[],_::_,h=>h.elim
 |_::_,[],h=>h.elim
 |_::_,_::_,h=>by simp[Lv h.2]
theorem mR:∀t:List AV,wk t t
 |[]=>trivial
 |_::xs=>⟨.inl rfl,mR xs⟩
theorem Lx{J:Nat->Bool}{i:Nat}{pr:List Nat}(hi:J i=false)(hpr:∀e∈pr,J e=true/\e<i):
  ∀(l:List Oper) (j:Nat) (vs vs':List AV) (t2 t:List AV),(∀k op,l[k]? =some op->J (j+k)=true->∀e∈pre op,J e=true)->(∀k,j+k<i->vs'.getD k .undef=vs.getD k .undef)->wk t2 t->wk (gM J j l vs t2) (nM i pr j l vs' t)
 |[],_,_,_,_,_,_,_,h=>h
 |op::r,j,vs,vs',t2,t,hc,hv,h=>by
  simp only[gM,nM];refine Lx hi hpr r (j+1) vs.tail vs'.tail _ _ (λk q hk hJ=>hc (k+1) q (by simpa using hk) (by rwa[show j+(k+1)=j+1+k by omega])) (λk hk=>by
   have:=hv (k+1) (by omega);cases vs<;>cases vs'<;>simpa [getD]using this) ?_
  have h0:j<i->vs'.headD .undef=vs.headD .undef:=λhj=>by have:=hv 0 (by omega);cases vs<;>cases vs'<;>simpa [getD]using this
  unfold zF aCp;cases hd:op.dst with
  |none=>exact h
  |some d=>
   dsimp only;by_cases hji:j=i
   .subst hji;rw[eW rfl,eK (by rw[hi];simp)];exact h
   .rw [eK hji];by_cases hp:j∈pr
    .rw [eW hp,eW (hpr j hp).1];exact PI d h (.inl (h0 (hpr j hp).2))
    .rw [eK hp];by_cases hq:i∈pre op
     .rw [eW hq];have:J j≠true:=λhJ=>by
       have:=hc 0 op rfl hJ i hq;rw[hi]at this;cases this
      rw[eK this];exact h
     .rw [eK hq];split
      .exact PI d h (.inr rfl)
      .exact JN d h
theorem TW{J:Nat->Bool}(d:Nat)(x:AV):∀(l:List Oper) (j:Nat) (vs:List AV) (t:List AV),(∀op∈l,op.dst≠some d)->gM J j l vs (t.set d x)=(gM J j l vs t).set d x
 |[],_,_,_,_=>rfl
 |op::r,j,vs,t,h=>by
  simp only[gM];rw[<-TW d x r (j+1) vs.tail _ (λq hq=>h q (by simp[hq]))];congr 1;unfold zF;cases hd:op.dst with
  |none=>rfl
  |some d'=>
   dsimp only;have:d'≠d:=λe=>h op (by simp) (by rw[hd,e])
   split
   .rw [set_comm _ _ (wA this)]
   .rfl
theorem Bf{J J':Nat->Bool}:∀(l:List Oper) (j:Nat) (vs:List AV) (t:List AV),(∀k,k<l.length->J (j+k)=J' (j+k))->gM J j l vs t=gM J' j l vs t
 |[],_,_,_,_=>rfl
 |op::r,j,vs,t,h=>by
  simp only[gM];have h0:J j=J' j:=h 0 (by simp);have:zF J j op (vs.headD .undef) t=zF J' j op (vs.headD .undef) t:=by unfold zF;rw[h0]
  rw[this];exact Bf r (j+1) vs.tail _ λk hk=>by
   have:=h (k+1) (by simpa using hk)
   rwa[show j+(k+1)=j+1+k by omega]at this
def distinct:List Oper->Bool
 |[]=>true
 |op::r=>(match op.dst with
  |none=>true
  |some d=>r.all λq=>decide (q.dst≠some d))&&distinct r
theorem FU{J:Nat->Bool}:∀(l:List Oper) (j i:Nat) (op:Oper) (vs:List AV) (t:List AV) (v:AV),distinct l=true->l[i]? =some op->J (j+i)=false->vs.getD i .undef=v->
  gM (eT J (j+i)) j l vs t=rR (gM J j l vs t) op.dst v
 |[],_,_,_,_,_,_,_,h,_,_=>by simp at h
 |q::r,j,0,op,vs,t,v,hd,h,hJ,hv=>by
  simp at h;subst h;simp only[gM,rS]at hJ⊢;rw[Bf (J:=eT J j) (J':=J) r (j+1) vs.tail _ (λk _=>by unfold eT;rw[eK (by omega)])];have h1:zF (eT J j) j q (vs.headD .undef) t=rR t q.dst v:=by
   have hv':vs.headD .undef=v:=by cases vs<;>simpa [getD]using hv
   unfold zF rR;rw[hv'];cases q.dst with
   |none=>rfl
   |some d=>simp[eT]
  have h2:zF J j q (vs.headD .undef) t=t:=by
   unfold zF;cases q.dst with
   |none=>rfl
   |some d=>simp[hJ]
  rw[h1,h2];cases hq:q.dst with
  |none=>rfl
  |some d=>simp only[distinct,hq,eI,fW,fX]at hd;exact TW d v r (j+1) vs.tail t hd.1
 |q::r,j,i+1,op,vs,t,v,hd,h,hJ,hv=>by
  simp only[distinct,eI]at hd;simp only[gM];have h1:zF (eT J (j+(i+1))) j q (vs.headD .undef) t=zF J j q (vs.headD .undef) t:=by
   unfold zF;have:eT J (j+(i+1)) j=J j:=by unfold eT;rw[eK (by omega)]
   rw[this]
  rw[h1,show j+(i+1)=j+1+i by omega];exact FU r (j+1) i op vs.tail _ v hd.2 (by simpa using h) (by rwa[show j+1+i=j+(i+1)by omega]) (by cases vs<;>simpa [getD]using hv)
def oJ(J:Nat->Bool)(b:List aD):List (Nat×List aD)->List aD
 |[]=>b
 |q::r=>if J q.1=true then q.2 else oJ J b r
def top(b:List aD):List (Nat×List aD)->List aD
 |[]=>b
 |q::_=>q.2
def DN(pr:List Nat):List (Nat×List aD)->Bool
 |[]=>true
 |q::_=>decide (q.1∈pr)
def uK(pr:List Nat)(n:Nat):Bool:=decide (n∈pr)
def Bg(l:List Oper)(b:List aD):List (Nat×List aD)->Prop
 |[]=>True
 |q::r=>(∃new,q.2=top b r++new)/\(∀p,r.head? =some p->p.1<q.1/\∃op,l[q.1]? =some op/\p.1∈pre op)/\Bg l b r
theorem aCq{l:List Oper}{b:List aD}(J:Nat->Bool):∀{h:List (Nat×List aD)},Bg l b h->∃ext,top b h=oJ J b h++ext
 |[],_=>⟨[],by simp[top,oJ]⟩
 |q::r,hc=>by
  obtain⟨new,hn⟩:=hc.1;obtain⟨ext,he⟩:=aCq J hc.2.2;simp only[oJ,top];split
  .exact ⟨[],by simp⟩
  .exact ⟨ext++new,by rw[hn,he,sB]⟩
theorem fw{l:List Oper}{b:List aD}{J:Nat->Bool}{pr:List Nat}(hp:∀e∈pr,J e=true):∀{h:List (Nat×List aD)},Bg l b h->∃ext,oJ J b h=oJ (uK pr) b h++ext
 |[],_=>⟨[],by simp[oJ]⟩
 |q::r,hc=>by
  simp only[oJ];by_cases hq:q.1∈pr
  .rw [eW (hp _ hq),eW (by simpa [uK]using hq)];exact⟨[],by simp⟩
  .rw [eK (show¬uK pr q.1=true by simpa [uK]using hq)];split
   .obtain ⟨new,hn⟩:=hc.1;obtain⟨ext,he⟩:=aCq (uK pr) hc.2.2;exact⟨ext++new,by rw[hn,he,sB]⟩
   .exact fw hp hc.2.2
theorem Vx(J:Nat->Bool)(b:List aD):∀{s h:List (Nat×List aD)},(∀q∈s,J q.1=false)->oJ J b (s++h)=oJ J b h
 |[],_,_=>rfl
 |q::s,h,hs=>by simp only[cW,oJ];rw[eK (by rw[hs q (by simp)];simp)];exact Vx J b λp hp=>hs p (by simp[hp])
theorem MC{l:List Oper}{b:List aD}{J:Nat->Bool}(hJ:XJ l J):∀{s h:List (Nat×List aD)} {q:Nat×List aD},Bg l b (s++q::h)->J q.1=false->∀p∈s,J p.1=false
 |[],_,_,_,_=>λ_ hp=>by cases hp
 |x::s,h,q,hc,hq=>by
  have ih:=MC hJ hc.2.2 hq;intro p hp;rcases gE.1 hp with rfl|hp
  .cases hJx:J p.1 with
   |false=>rfl
   |true=>
    exfalso;cases s with
    |nil=>obtain⟨_,op,h1,h2⟩:=hc.2.1 q rfl;have:=hJ _ op h1 hJx _ h2;rw[hq]at this;cases this
    |cons y s=>obtain⟨_,op,h1,h2⟩:=hc.2.1 y rfl;have:=hJ _ op h1 hJx _ h2;rw[ih y (by simp)]at this;cases this
  .exact ih p hp
def flv(J:Nat->Bool)(dead:Bool)(q:Nat×Nat×List AV):aD:=
 if J q.1=true then⟨true,true,q.2.2.length,1,[q.2.2]⟩else⟨!dead,false,q.2.2.length,0,[]⟩
def qX(J:Nat->Bool)(dead:Bool):List (Nat×Nat×List AV)->List aD->List aD
 |[],o=>o
 |q::r,o=>qX J dead r (o.set q.2.1 (flv J dead q))
def Ez:Nat->Bool:=λ_=>false
def XN(fl:List (Nat×Nat×List AV))(n:Nat):Bool:=decide (fl.map (·.1)).Nodup&&(decide (fl.map (·.2.1)).Nodup&&fl.all λq=>decide (q.2.1<n))
theorem pO(J:Nat->Bool)(d:Bool):∀(fl:List (Nat×Nat×List AV)) (o:List aD),(qX J d fl o).length=o.length
 |[],_=>rfl
 |q::r,o=>by simp only[qX];rw[pO J d r];simp
theorem EA{J:Nat->Bool}{d:Bool}{i:Nat}:∀{fl:List (Nat×Nat×List AV)} {o:List aD},(∀q∈fl,q.2.1≠i)->(qX J d fl o)[i]? =o[i]?
 |[],_,_=>rfl
 |q::r,o,h=>by simp only[qX];rw[EA λp hp=>h p (by simp[hp]),gR (h q (by simp))]
theorem Bh{J:Nat->Bool}{d:Bool}:∀{fl:List (Nat×Nat×List AV)} {o:List aD} {q:Nat×Nat×List AV},(fl.map (·.2.1)).Nodup->q∈fl->q.2.1<o.length->(qX J d fl o)[q.2.1]? =some (flv J d q)
 |p::r,o,q,hn,hq,hl=>by
  simp only[qX];simp only[lA,mC]at hn;rcases gE.1 hq with rfl|hq
  .rw [EA λp hp e=>hn.1 (qS.2 ⟨p,hp,e⟩),lR hl]
  .exact Bh hn.2 hq (by simpa using hl)
theorem Ot{J:Nat->Bool}{d:Bool}{n:List aD}:∀{fl:List (Nat×Nat×List AV)} {o:List aD},(∀q∈fl,q.2.1<o.length)->qX J d fl (o++n)=qX J d fl o++n
 |[],_,_=>rfl
 |q::r,o,h=>by simp only[qX];rw[set_append_left _ _ (h q (by simp)),Ot λp hp=>by simpa using h p (by simp[hp])]
theorem vg{fl:List (Nat×Nat×List AV)}{o o':List aD}(hl:o.length=o'.length)(h:∀q∈fl,o[q.2.1]? =o'[q.2.1]?)(h2:∀i,(∀q∈fl,q.2.1≠i)->o[i]? =o'[i]?):o=o':=by
 refine AK λi=> ?_
 by_cases hi:∃q∈fl,q.2.1=i
 .obtain ⟨q,hq,rfl⟩:=hi;exact h q hq
 .exact h2 i λq hq e=>hi ⟨q,hq,e⟩
theorem aHi{J J':Nat->Bool}{d d':Bool}{fl:List (Nat×Nat×List AV)}{o:List aD}(hn:(fl.map (·.2.1)).Nodup)(hs:∀q∈fl,q.2.1<o.length):qX J d fl (qX J' d' fl o)=qX J d fl o:=
 vg (fl:=fl) (by simp[pO]) (λq hq=>by rw[Bh hn hq (by rw[pO];exact hs q hq),Bh hn hq (hs q hq)]) (λi hi=>by rw[EA hi,EA hi,EA hi])
theorem TY{J J':Nat->Bool}{d:Bool}:∀{fl:List (Nat×Nat×List AV)} {o:List aD},(∀q∈fl,J q.1=J' q.1)->qX J d fl o=qX J' d fl o
 |[],_,_=>rfl
 |q::r,o,h=>by
  simp only[qX];have:flv J d q=flv J' d q:=by unfold flv;rw[h q (by simp)]
  rw[this,TY λp hp=>h p (by simp[hp])]
theorem FV{α β:Type}(f:α->β):∀(L:List α),(L.map f).Nodup->∀p q,p∈L->q∈L->f p=f q->p=q
 |[],_,_,_,h,_,_=>by cases h
 |x::L,hn,p,q,hp,hq,e=>by
  simp only[lA,mC]at hn;rcases gE.1 hp with hp'|hp'
  .rcases gE.1 hq with hq'|hq'
   .rw [hp',hq']
   .exfalso;exact hn.1 (qS.2 ⟨q,hq',by rw[<-e,hp']⟩)
  .rcases gE.1 hq with hq'|hq'
   .exfalso;exact hn.1 (qS.2 ⟨p,hp',by rw[e,hq']⟩)
   .exact FV f L hn.2 p q hp' hq' e
theorem aHj{J:Nat->Bool}{d:Bool}{fl:List (Nat×Nat×List AV)}{o:List aD}{q:Nat×Nat×List AV}(hn1:(fl.map (·.1)).Nodup)(hn:(fl.map (·.2.1)).Nodup)(hs:∀q∈fl,q.2.1<o.length)(hq:q∈fl):
  qX (eT J q.1) d fl o=(qX J d fl o).set q.2.1 ⟨true,true,q.2.2.length,1,[q.2.2]⟩:=by
 have hinj:∀p∈fl,p.1=q.1->p=q:=λp hp e=>FV (·.1) fl hn1 p q hp hq e
 have aOw:∀p∈fl,p.2.1=q.2.1->p=q:=λp hp e=>FV (·.2.1) fl hn p q hp hq e
 refine vg (fl:=fl) (by simp[pO]) (λp hp=> ?_) (λi hi=> ?_)
 .rw [Bh hn hp (hs p hp)];by_cases hpq:p=q
  .subst hpq;rw[lR (by rw[pO];exact hs p hp)];simp[flv,eT]
  .rw [gR (λe=>hpq (aOw p hp e.symm)),Bh hn hp (hs p hp)]
   have:eT J q.1 p.1=J p.1:=by unfold eT;rw[eK (λe=>hpq (hinj p hp e))]
   simp[flv,this]
 .rw [EA hi,gR (hi q hq),EA hi]
theorem aHk{J:Nat->Bool}{pr:List Nat}{fl:List (Nat×Nat×List AV)}{o ext:List aD}(hn:(fl.map (·.2.1)).Nodup)(hs:∀q∈fl,q.2.1<o.length)(hp:∀e∈pr,J e=true):
  Sub (qX (uK pr) true fl o) (qX J false fl (o++ext)):=by
 intro i ob h hl;by_cases hi:∃q∈fl,q.2.1=i
 .obtain ⟨q,hq,rfl⟩:=hi;rw[Bh hn hq (hs q hq)]at h;obtain rfl:=cU h;rw[Bh hn hq (by have:=hs q hq;simp;omega)];unfold flv at hl⊢;by_cases hb:uK pr q.1=true
  .rw [eW hb,eW (hp q.1 (by simpa [uK]using hb))]
  .rw [eK hb]at hl;cases hl
 .have hi':∀q∈fl,q.2.1≠i:=λq hq e=>hi ⟨q,hq,e⟩
  rw[EA hi']at h⊢;rw[pS (cQ.1 h).1];exact h
theorem vk{l:List Oper}{b:List aD}{J:Nat->Bool}{h:List (Nat×List aD)}(hc:Bg l b h):∃ext,oJ J b h=b++ext:=by
 obtain⟨ext,he⟩:=fw (J:=J) (pr:=[]) (by simp) hc;have:∀h:List (Nat×List aD),oJ (uK []) b h=b:=by
  intro h;induction h with
  |nil=>rfl
  |cons q r ih=>simp[oJ,ih,uK]
 exact⟨ext,by rw[he,this]⟩
theorem Vy{fl:List (Nat×Nat×List AV)}{b:List aD}(J:Nat->Bool)(hb:qX Ez true fl b=b):∀{h:List (Nat×List aD)},(∀q∈h,qX Ez true fl q.2=q.2)->qX Ez true fl (oJ J b h)=oJ J b h
 |[],_=>hb
 |q::r,h=>by
  simp only[oJ];split
  .exact h q (by simp)
  .exact Vy J hb λp hp=>h p (by simp[hp])
def EB(op:Oper)(s:AS):AV:=match op.dst with
 |some d=>s.t.getD d .undef
 |none=> .undef
def lS(P:Program)[aB P](l:List Oper)(t:List AV)(b:List aD)(fl:List (Nat×Nat×List AV))(K:AS->Prop):Nat->List Oper->List AV->List (Nat×List aD)->Prop
 |i,[],vs,h=>K ⟨gM (λ_=>true) 0 l vs t,qX (λk=>decide (k<i)) false fl (top b h)⟩
 |i,op::r,vs,h=>(∃q∈fl,q.1=i/\op.guard=none/\(∃T,op.op= .alloc T/\nW P T=some q.2.2)/\(∀e∈pre op,e<i)/\lS P l t b fl K (i+1) r (vs++[.ptr q.2.1 1 0 0]) h)\/
   ((∀q∈fl,q.1≠i)/\mQ op.op ⟨nM i (pre op) 0 l vs t,qX (uK (pre op)) true fl (oJ (uK (pre op)) b h)⟩=true/\(∀e∈pre op,e<i)/\
   qL P l op ⟨nM i (pre op) 0 l vs t,qX (uK (pre op)) true fl (oJ (uK (pre op)) b h)⟩ λs'=>
    (DN (pre op) h=true\/s'.o.length=(oJ (uK (pre op)) b h).length)/\
    lS P l t b fl K (i+1) r (vs++[EB op s']) (if s'.o.length=(oJ (uK (pre op)) b h).length then h else(i,qX Ez true fl s'.o)::h))\/
   (wH l i=true/\Ci (λz=>yK P l K (left ((range l.length).map (jz i z))) ((range l.length).map (jz i z)) ⟨gM (jz i z) 0 l vs t,qX (jz i z) false fl (oJ (jz i z) b h)⟩) [] (sH l i))\/
   (wH l i=true/\Db l i=true/\iJ P l (op::r) ⟨gM (λk=>decide (k<i)) 0 l vs t,qX (λk=>decide (k<i)) false fl (top b h)⟩ K)
structure Item(P:Program)[aB P](l:List Oper)(t:List AV)(b:List aD)(fl:List (Nat × Nat × List AV))(j:Nat)(op:Oper)(vs:List AV)(hf:List (Nat × List aD)): Prop where
  pre:∀ e ∈ pre op, e<j
  ex:(∃ q ∈ fl, q.1 = j /\ op.guard = none /\ (∃ T, op.op = .alloc T /\ nW P T = some q.2.2) /\ vs.getD j .undef = .ptr q.2.1 1 0 0 /\ ∀ p ∈ hf, p.1 ≠ j) \/
    ((∀ q ∈ fl, q.1 ≠ j) /\ ∃ x new hj TZ, mQ op.op ⟨nM j (Aw.pre op) 0 l (vs.take j) t, qX (uK (Aw.pre op)) true fl (oJ (uK (Aw.pre op)) b hj)⟩ = true /\ hf = TZ ++ hj /\ (∀ q ∈ hj, q.1<j) /\ (vs.getD j .undef = x \/ vs.getD j .undef = .undef) /\
    qL P l op ⟨nM j (Aw.pre op) 0 l (vs.take j) t, qX (uK (Aw.pre op)) true fl (oJ (uK (Aw.pre op)) b hj)⟩ (λs' => s' = ⟨rR (nM j (Aw.pre op) 0 l (vs.take j) t) op.dst x, qX (uK (Aw.pre op)) true fl (oJ (uK (Aw.pre op)) b hj) ++ new⟩) /\
    ((new = [] /\ ∀ q ∈ TZ, j<q.1) \/ (DN (Aw.pre op) hj = true /\ ∃ s2, TZ = s2 ++ [(j, oJ (uK (Aw.pre op)) b hj ++ new)] /\ ∀ q ∈ s2, j<q.1)))
theorem XO{b:List aD}{pr:List Nat}{h:List (Nat×List aD)}(ht:DN pr h=true):oJ (uK pr) b h=top b h:=by
 cases h with
 |nil=>rfl
 |cons q r=>simp only[DN]at ht;simp only[oJ,top,uK,ht,eV]
theorem Ua{P:Program}[aB P]{op:Oper}{t t2:List AV}{o o2:List aD}{K:AS->Prop}(h:RO P op ⟨t,o⟩ K):
  ∃x new x2,K ⟨rR t op.dst x,o++new⟩/\(x=x2\/x= .undef)/\(o2.length=o.length\/new=[])/\∀K2:AS->Prop,K2 ⟨rR t2 op.dst x2,o2++new⟩->RO P op ⟨t2,o2⟩ K2:=by
 obtain⟨dst,op,ty,pos,after,gd⟩:=op;unfold RO at h;dsimp only at h;split at h
 .split at h
  .rename_i e n by' he;refine⟨.sl .own n [],[],.sl .own n [],by rw[eC,<-put_eq];exact h.2,.inl rfl,.inr rfl,λK2 hK=> ?_⟩;rw[eC]at hK;rename_i tt _;show(match lQ P tt with
    |some (e,n,_)=>iR P e n=true/\K2 (AS.put ⟨t2,o2⟩ dst (.sl .own n []))
    |none=>False)
   rw[he];exact⟨h.1,by rw[put_eq];exact hK⟩
  .exact h.elim
 .exact h.elim
theorem Bi{P:Program}[aB P]{l:List Oper}{op:Oper}{t t2:List AV}{o o2:List aD}{K:AS->Prop}(q:mQ op.op ⟨t,o⟩=true)(hw:wk t2 t)(h:qL P l op ⟨t,o⟩ K)(hs:Sub o o2)(yV:o2.length=o.length\/∀s',K s'->s'.o.length=o.length):
  ∃x new x2,K ⟨rR t op.dst x,o++new⟩/\(x=x2\/x= .undef)/\(o2.length=o.length\/new=[])/\∀K2:AS->Prop,K2 ⟨rR t2 op.dst x2,o2++new⟩->qL P l op ⟨t2,o2⟩ K2:=by
 unfold qL at h;split at h
 .rename_i hg;rcases h with h|h
  .obtain ⟨x,new,x2,h1,h2,h3,h4⟩:=Xv q hw h hs yV;exact⟨x,new,x2,h1,h2,h3,λK2 hK=>by unfold qL;simp only[hg];exact .inl (h4 K2 hK)⟩
  .obtain ⟨x,new,x2,h1,h2,h3,h4⟩:=Ua (t2:=t2) (o2:=o2) h;exact⟨x,new,x2,h1,h2,h3,λK2 hK=>by unfold qL;simp only[hg];exact .inr (h4 K2 hK)⟩
 .rename_i j want hg;split at h
  .rename_i b hb;have hb2:nI l ⟨t2,o2⟩ j want= .bool b:=by
    unfold nI at hb⊢;split at hb
    .rename_i o' ho';split at hb
     .rename_i d hd;rcases dh d hw with e|e
      .rw [<-e];exact hb
      .rw [e]at hb;cases hb
     .cases hb
    .cases hb
   by_cases hbw:b=want
   .rcases h.1 hbw with h|h
    .obtain ⟨x,new,x2,h1,h2,h3,h4⟩:=Xv q hw h hs yV;exact⟨x,new,x2,h1,h2,h3,λK2 hK=>by unfold qL;simp only[hg,hb2];exact⟨λ_=> .inl (h4 K2 hK),λhn=>absurd hbw hn⟩⟩
    .obtain ⟨x,new,x2,h1,h2,h3,h4⟩:=Ua (t2:=t2) (o2:=o2) h;exact⟨x,new,x2,h1,h2,h3,λK2 hK=>by unfold qL;simp only[hg,hb2];exact⟨λ_=> .inr (h4 K2 hK),λhn=>absurd hbw hn⟩⟩
   .have h1:=h.2 hbw;rw[put_eq]at h1;exact⟨.iP [],[],.iP [],by rw[eC];exact h1,.inl rfl,.inr rfl,λK2 hK=>by
     unfold qL;simp only[hg,hb2];refine⟨λhn=>absurd hn hbw,λ_=> ?_⟩;rw[put_eq];rw[eC]at hK;exact hK⟩
  .exact h.elim
def aSw(P:Program)[aB P](l:List Oper)(t:List AV)(b:List aD)(fl:List (Nat×Nat×List AV))(K:AS->Prop)(m:Nat)(vs:List AV)(h:List (Nat×List aD)):Prop:=
 (m=l.length/\K ⟨gM (λ_=>true) 0 l vs t,qX (λk=>decide (k<m)) false fl (top b h)⟩)\/
 (m<l.length/\wH l m=true/\Ci (λz=>yK P l K (left ((range l.length).map (jz m z))) ((range l.length).map (jz m z)) ⟨gM (jz m z) 0 l vs t,qX (jz m z) false fl (oJ (jz m z) b h)⟩) [] (sH l m))\/
 (m<l.length/\wH l m=true/\Db l m=true/\iJ P l (l.drop m) ⟨gM (λk=>decide (k<m)) 0 l vs t,qX (λk=>decide (k<m)) false fl (top b h)⟩ K)
theorem FW{P:Program}[aB P]{l:List Oper}{t:List AV}{b:List aD}{fl:List (Nat × Nat × List AV)}{K:AS -> Prop}(hnd:(fl.map (·.2.1)).Nodup)(hsl:∀ q ∈ fl, q.2.1<b.length)(hb:qX Ez true fl b = b): ∀ (r:List Oper) (i:Nat) (vs:List AV) (h:List (Nat × List aD)), l.drop i = r -> vs.length = i -> i <= l.length -> (∀ q ∈ h, q.1<i) -> (∀ q ∈ h, qX Ez true fl q.2 = q.2) -> Bg l b h -> lS P l t b fl K i r vs h ->
    ∃ m vs' hf, i <= m /\ aSw P l t b fl K m (vs ++ vs') hf /\ Bg l b hf /\ (∃ TZ, hf = TZ ++ h /\ ∀ q ∈ TZ, i <= q.1 /\ q.1<m) /\ (∀ q ∈ hf, qX Ez true fl q.2 = q.2) /\ ∀ j op, i <= j -> j<m -> l[j]? = some op -> Item P l t b fl j op (vs ++ vs') hf
  | [], i, vs, h, hr, hv, hi, hlt, hN, hc, hd => by
    have hil : i = l.length := by have : l.length <= i := by simpa using hr
                                  omega
    subst hil;refine⟨l.length, [], h, eE _, ?_, hc, ⟨[], rfl, by simp⟩, hN, λj op hij hj => by omega⟩;simp only[lS]at hd;exact .inl ⟨rfl, by simpa using hd⟩
  | op :: r, i, vs, h, hr, hv, hi, hlt, hN, hc, hd => by
    have hil:i<l.length := by
      rcases tA i l.length with h' | h'
      · exact h'
      · rw[Ek h']at hr; cases hr
    have hop:l[i]? = some op := by
      have := Ax head? hr;rw[head?_drop]at this; simpa using this
    have hdr:l.drop (i+1) = r := by rw[<- yW, hr]; rfl
    simp only[lS]at hd;rcases hd with⟨q, hq, hqi, hg, hT, hpr, hd⟩ | ⟨hnf, hq, hpr, ha⟩ | ⟨htl, ha⟩ | ⟨htl, aSx, ha⟩;case inr.inr.inr =>
      refine⟨i, [], h, eE _, ?_, hc, ⟨[], rfl, by simp⟩, hN, λj op' hij hj => by omega⟩;rw[eC];exact .inr (.inr ⟨hil, htl, aSx, by rw[hr]; exact ha⟩)
    case inr.inr.inl =>
      refine⟨i, [], h, eE _, ?_, hc, ⟨[], rfl, by simp⟩, hN, λj op' hij hj => by omega⟩;rw[eC];exact .inr (.inl ⟨hil, htl, ha⟩)
    case inl =>
      obtain⟨m, vs', hf, km, k1, k2, ⟨TZ, k3, k4⟩, k6, k5⟩ := FW hnd hsl hb r (i+1) (vs ++ [.ptr q.2.1 1 0 0]) h hdr (by simp[hv]) (by omega) (λq hq => by have := hlt q hq; omega) hN hc hd;refine⟨m, .ptr q.2.1 1 0 0 :: vs', hf, by omega, by simpa using k1, k2, ⟨TZ, k3, λq hq => by have := k4 q hq; omega⟩, k6, λj op' hij hjm hj => ?_⟩;by_cases hji:j = i
      · subst hji
        rw[hop]at hj; obtain rfl := cU hj;refine⟨hpr, .inl ⟨q, hq, hqi, hg, hT, ?_, λp hp => ?_⟩⟩
        · rw[hY, mL (by omega), hv, DS]; rfl
        · rw[k3]at hp
          rcases fS.1 hp with hp | hp
          · have := k4 p hp; omega
          · have := hlt p hp; omega
      · have := k5 j op' (by omega) hjm hj
        simpa using this
    have hsub:Sub (qX (uK (pre op)) true fl (oJ (uK (pre op)) b h)) (qX (uK (pre op)) true fl (oJ (uK (pre op)) b h)) := λ_ _ h _ => h
    obtain⟨x, new, x2, ⟨h1, h2⟩, _, _, h3⟩ := Bi hq (mR _) ha hsub (.inl rfl);have h4 := h3 (λs' => s' = ⟨rR (nM i (pre op) 0 l vs t) op.dst x2, qX (uK (pre op)) true fl (oJ (uK (pre op)) b h) ++ new⟩) rfl;have hval:∀ (y:AV) (os:List aD), EB op ⟨rR (nM i (pre op) 0 l vs t) op.dst y, os⟩ = y \/ EB op ⟨rR (nM i (pre op) 0 l vs t) op.dst y, os⟩ = .undef := by
      intro y os;unfold EB rR;cases op.dst with
      | none => exact .inr rfl
      | some d =>
        dsimp only;rw[hY, getElem?_set_self'];cases (nM i (pre op) 0 l vs t)[d]? with
        | none => exact .inr rfl
        | some z => exact .inl rfl
    obtain⟨aW6, hbase⟩ := vk (J := uK (pre op)) hc;have aLe:∀ q ∈ fl, q.2.1<(oJ (uK (pre op)) b h).length := λq hq => by rw[hbase]; have := hsl q hq; simp; omega
    have aOx:qX Ez true fl (qX (uK (pre op)) true fl (oJ (uK (pre op)) b h) ++ new) = oJ (uK (pre op)) b h ++ new := by
      rw[Ot (by rw[pO]; exact aLe), aHi hnd aLe, Vy _ hb hN]
    simp only[aOx]at h2;generalize hvv:EB op ⟨rR (nM i (pre op) 0 l vs t) op.dst x, qX (uK (pre op)) true fl (oJ (uK (pre op)) b h) ++ new⟩ = vv at h2;have hvx:vv = x2 \/ vv = .undef := by
      rcases hval x (qX (uK (pre op)) true fl (oJ (uK (pre op)) b h) ++ new)with e | e
      · rw[hvv]at e; subst e; assumption
      · rw[hvv]at e; exact .inr e
    have hlen:((qX (uK (pre op)) true fl (oJ (uK (pre op)) b h) ++ new).length = (oJ (uK (pre op)) b h).length) ↔ new = [] := by
      rw[eM, pO]; constructor
      · intro e; exact lB (by omega)
      · rintro rfl; simp
    have item:∀ (vs':List AV) (hf:List (Nat × List aD)), ((∃ TZ, hf = TZ ++ h /\ new = [] /\ ∀ q ∈ TZ, i<q.1) \/ (DN (pre op) h = true /\ ∃ s2, hf = s2 ++ (i, oJ (uK (pre op)) b h ++ new) :: h /\ ∀ q ∈ s2, i<q.1)) -> Item P l t b fl i op ((vs ++ [vv]) ++ vs') hf := by
      intro vs' hf hcase;have e1:((vs ++ [vv]) ++ vs').take i = vs := by rw[sB, take_left' hv]
      have e2:((vs ++ [vv]) ++ vs').getD i .undef = vv := by
        rw[sB, hY, mL (by omega), hv, DS]; rfl
      refine⟨hpr, .inr ⟨hnf, x2, new, h, ?_⟩⟩;rw[e1, e2];rcases hcase with⟨TZ, rfl, hn, hs⟩ | ⟨ht, s2, rfl, hs⟩
      · exact⟨TZ, hq, rfl, hlt, hvx, h4, .inl ⟨hn, hs⟩⟩
      · exact⟨s2 ++ [(i, oJ (uK (pre op)) b h ++ new)], hq, by simp, hlt, hvx, h4, .inr ⟨ht, s2, rfl, hs⟩⟩
    by_cases hnew:new = []
    · rw[eW (hlen.2 hnew)]at h2
      obtain⟨m, vs', hf, km, k1, k2, ⟨TZ, k3, k4⟩, k6, k5⟩ := FW hnd hsl hb r (i+1) (vs ++ [vv]) h hdr (by simp[hv]) (by omega) (λq hq => by have := hlt q hq; omega) hN hc h2;refine⟨m, vv :: vs', hf, by omega, by simpa using k1, k2, ⟨TZ, k3, λq hq => by have := k4 q hq; omega⟩, k6, λj op' hij hjm hj => ?_⟩;by_cases hji:j = i
      · subst hji
        rw[hop]at hj; obtain rfl := cU hj;have := item vs' hf (.inl ⟨TZ, k3, hnew, λq hq => by have := k4 q hq; omega⟩);simpa using this
      · have := k5 j op' (by omega) hjm hj
        simpa using this
    · rw[eK (λe => hnew (hlen.1 e))]at h2
      have ht:DN (pre op) h = true := h1.resolve_right (λe => hnew (hlen.1 e));have hc':Bg l b ((i, oJ (uK (pre op)) b h ++ new) :: h) := by
        refine⟨⟨new, by rw[XO ht]⟩, λp hp => ?_, hc⟩;cases h with
        | nil => cases hp
        | cons q h =>
          obtain rfl := cU hp;exact⟨hlt _ (by simp), op, hop, by simpa [DN]using ht⟩
      obtain⟨m, vs', hf, km, k1, k2, ⟨TZ, k3, k4⟩, k6, k5⟩ := FW hnd hsl hb r (i+1) (vs ++ [vv]) _ hdr (by simp[hv]) (by omega) (λq hq => by
        rcases gE.1 hq with rfl | hq
        · simp
        · have := hlt q hq; omega) (λq hq => by
        rcases gE.1 hq with rfl | hq
        · show qX Ez true fl (oJ (uK (pre op)) b h ++ new) = _
          rw[Ot aLe, Vy _ hb hN]
        · exact hN q hq) hc' h2
      refine⟨m, vv :: vs', hf, by omega, by simpa using k1, k2, ⟨TZ ++ [(i, oJ (uK (pre op)) b h ++ new)], by simp[k3], λq hq => by
        rcases fS.1 hq with hq | hq
        · have := k4 q hq; omega
        · simp at hq; subst hq; exact⟨by simp, by omega⟩⟩, k6, λj op' hij hjm hj => ?_⟩
      by_cases hji:j = i
      · subst hji
        rw[hop]at hj; obtain rfl := cU hj;have := item vs' hf (.inr ⟨ht, TZ, k3, λq hq => by have := k4 q hq; omega⟩);simpa using this
      · have := k5 j op' (by omega) hjm hj
        simpa using this
theorem F4{P:Program}[aB P]{id:Nat}{l:List Oper}{s:AS}{Q:Exit->AS->Prop}{fl:List (Nat×Nat×List AV)}{b:List aD}(hfw:GQ l=true)(hdst:distinct l=true)(hfl:XN fl b.length=true)(hb:qX Ez true fl b=b)(hb0:qX Ez false fl b=s.o++(fl.map (·.2.2.length)).map λn=>⟨true,false,n,0,[]⟩)
  (h:lS P l s.t b fl (Q .normal) 0 l [] []):jL P (.region id l.toArray true) s Q:=by
 simp only[XN,eI,fX,fW]at hfl;obtain⟨aSy,hnd,hsl⟩:=hfl;obtain⟨m,vs,hf,_,hK,hc,⟨aOy,aJs,F5⟩,hN,hit⟩:=FW hnd hsl hb l 0 [] [] rfl rfl (by omega) (by simp) (by simp) trivial h;simp only[cY]at hK hit;have aSz:∀j op,j<m->l[j]? =some op->Item P l s.t b fl j op vs hf:=λj op hjm hj=>hit j op (by omega) hjm hj
 have aLf:∀J:Nat->Bool,∀q∈fl,q.2.1<(oJ J b hf).length:=λJ q hq=>by obtain⟨ext,he⟩:=vk (J:=J) hc;rw[he];have:=hsl q hq;simp;omega
 unfold jL;have hml:m<=l.length:=by
  rcases hK with h|h|h
  .omega
  .omega
  .omega
 have hrest:wH l m=true:=by
  rcases hK with h|h|h
  .rw [h.1];unfold wH;rw[fW];intro i hi;simp at hi;simp only[sE,fX];exact .inl (by omega)
  .exact h.2.1
  .exact h.2.1
 refine XM (ops:=l.toArray) m (by simpa using hml) (by simpa using hfw) (by simpa using hrest) (λJ=>⟨gM J 0 l vs s.t,qX J false fl (oJ J b hf)⟩) ?_ ?_ ?_
 .have e1:∀(l:List Oper) (j:Nat) (vs t:List AV),gM (λ_=>false) j l vs t=t:=by
   intro l;induction l with
   |nil=>intros;rfl
   |cons op r ih=>intro j vs t;simp only[gM];rw[ih];unfold zF;cases op.dst<;>simp
  have e2:∀h:List (Nat×List aD),oJ (λ_=>false) b h=b:=by
   intro h;induction h with
   |nil=>rfl
   |cons q r ih=>simp[oJ,ih]
  rw[e1,e2];have e3:qX (λ_=>false) false fl b=_:=hb0;rw[e3];exact λ_ _ _ _ _ r=>OA _ r
 .intro i op him hi;have hi':l[i]? =some op:=by simpa using hi
  have it:=aSz i op him hi';intro J hJ hJm hJi hpre;have hJ':XJ l J:=by simpa using hJ
  rcases it.ex with⟨q,hq,hqi,hg,⟨T,hT,hz⟩,hval,hne⟩|⟨hnf,x,new,hj,TZ,hqq,hfe,hlt,hvx,hop,hcase⟩
  .right;refine⟨hg,λB=> ?_⟩;have hoJ:∀h:List (Nat×List aD),(∀p∈h,p.1≠i)->oJ (eT J i) b h=oJ J b h:=by
    intro h;induction h with
    |nil=>intro _;rfl
    |cons p r ih=>
     intro hq;simp only[oJ];rw[ih λp hp=>hq p (by simp[hp])];have:eT J i p.1=J p.1:=by unfold eT;rw[eK (hq p (by simp))]
     rw[this]
   have hto:gM (eT J i) 0 l vs s.t=rR (gM J 0 l vs s.t) op.dst (.ptr q.2.1 1 0 0):=by
    have:=FU l 0 i op vs s.t (.ptr q.2.1 1 0 0) hdst hi' (by simpa using hJi) hval
    rwa[lO]at this
   have aS0:qX (eT J i) false fl (oJ J b hf)=(qX J false fl (oJ J b hf)).set q.2.1 ⟨true,true,q.2.2.length,1,[q.2.2]⟩:=by rw[<-hqi];exact aHj aSy hnd (aLf J) hq
   rw[hto,hoJ hf hne,aS0];have aOz:(qX J false fl (oJ J b hf))[q.2.1]? =some ⟨true,false,q.2.2.length,0,[]⟩:=by rw[Bh hnd hq (aLf J q hq)];unfold flv;rw[eK (by rw[hqi,hJi];simp)];rfl
   obtain⟨dst,o,ty,pos,after,gd⟩:=op;dsimp only at hT hg⊢;subst hT;have:=Vd (B:=B) (s:=⟨gM J 0 l vs s.t,qX J false fl (oJ J b hf)⟩) (dst:=dst) (ty:=ty) (pos:=pos) (after:=after) (gd:=gd) T hz aOz;rw[put_eq]at this;exact this
  left;have Ub:wk (gM J 0 l vs s.t) (nM i (pre op) 0 l (vs.take i) s.t):=
   Lx hJi (λe he=>⟨hpre e he,it.pre e he⟩) l 0 vs (vs.take i) s.t s.t (λk q hk hJk=>hJ' k q hk (by simpa using hJk)) (λk hk=>by
    rw[hY,hY,Cd];simp[show k<i by omega]) (mR _)
  have aJt:∀(J':Nat->Bool) (s2:List (Nat×List aD)),(∀q∈s2,J' q.1=false)->∀h',oJ J' b (s2++h')=oJ J' b h':=λJ' s2 h1 h'=>Vx J' b h1
  have aS2:∀q:Nat×List aD,i<=q.1->uK (pre op) q.1=false:=λq hq=>by
   cases hb:uK (pre op) q.1 with
   |false=>rfl
   |true=>have:=it.pre q.1 (by simpa [uK]using hb);omega
  have hoc:oJ (uK (pre op)) b hf=oJ (uK (pre op)) b hj:=by
   rw[hfe];refine Vx _ _ λq hq=>aS2 q ?_
   rcases hcase with⟨_,h1⟩|⟨_,s2,rfl,h1⟩
   .have:=h1 q hq;omega
   .rcases fS.1 hq with hq|hq
    .have:=h1 q hq;omega
    .simp at hq;subst hq;simp
  obtain⟨ext,yV⟩:=fw (J:=J) hpre hc;rw[hoc]at yV;have aO0:∀q∈fl,q.2.1<(oJ (uK (pre op)) b hj).length:=λq hq=>by rw[<-hoc];exact aLf _ q hq
  have vZ:(new=[]/\oJ (eT J i) b hf=oJ J b hf)\/(ext=[]/\oJ (eT J i) b hf=oJ (uK (pre op)) b hj++new):=by
   rcases hcase with⟨h1,h2⟩|⟨ht,s2,rfl,h2⟩
   .refine .inl ⟨h1,?_⟩;have:∀h:List (Nat×List aD),(∀q∈h,q.1≠i)->oJ (eT J i) b h=oJ J b h:=by
     intro h;induction h with
     |nil=>intro _;rfl
     |cons q r ih=>
      intro hq;simp only[oJ];rw[ih λp hp=>hq p (by simp[hp])];have:eT J i q.1=J q.1:=by unfold eT;rw[eK (hq q (by simp))]
      rw[this]
    refine this hf λq hq=> ?_
    rw[hfe]at hq;rcases fS.1 hq with hq|hq
    .have:=h2 q hq;omega
    .have:=hlt q hq;omega
   .right;have aLh:hf=s2++(i,oJ (uK (pre op)) b hj++new)::hj:=by simp[hfe]
    have hs2:=MC hJ' (s:=s2) (by rw[<-aLh];exact hc) hJi;constructor
    .have h3:oJ J b hf=oJ J b hj:=by rw[aLh,aJt J s2 hs2];simp only[oJ];rw[eK (by rw[hJi];simp)]
     have h4:oJ J b hj=oJ (uK (pre op)) b hj:=by
      rw[XO ht];cases hj with
      |nil=>rfl
      |cons q r=>simp only[DN,fX]at ht;simp only[oJ,top];rw[eW (hpre _ ht)]
     rw[h3,h4]at yV;have:=Ax length yV;rw[eM]at this;exact lB (by omega)
    .rw [aLh,aJt (eT J i) s2 (λq hq=>by
      have:=h2 q hq;unfold eT;rw[eK (by omega)];exact hs2 q hq)]
     simp[oJ,eT]
  have hsub:Sub (qX (uK (pre op)) true fl (oJ (uK (pre op)) b hj)) (qX J false fl (oJ J b hf)):=by rw[yV];exact aHk hnd aO0 hpre
  obtain⟨x',new',x2,rfl',hx2,_,hfin⟩:=Bi (o2:=qX J false fl (oJ J b hf)) hqq Ub hop hsub (by
   rcases vZ with⟨h1,_⟩|⟨h1,_⟩
   .right;rintro s' rfl;simp[h1]
   .left;rw[pO,pO,yV,h1,eC])
  refine hfin _ ?_;have hset:new'=new/\(rR (nM i (pre op) 0 l (vs.take i) s.t) op.dst x'=rR (nM i (pre op) 0 l (vs.take i) s.t) op.dst x):=by simp only[AS.mk.injEq,append_cancel_left_eq]at rfl';exact⟨rfl'.2,rfl'.1⟩
  have hto:wk (rR (gM J 0 l vs s.t) op.dst x2) (gM (eT J i) 0 l vs s.t):=by
   have:=FU l 0 i op vs s.t (vs.getD i .undef) hdst hi' (by simpa using hJi) rfl;rw[lO]at this;rw[this];have hL:=Lv Ub;unfold rR at hset⊢;cases hd:op.dst with
   |none=>exact mR _
   |some d=>
    rw[hd]at hset;dsimp only at hset⊢;rcases tA d (gM J 0 l vs s.t).length with hdl|hle
    .have hxx:x'=x:=by have:=Ax (λt=>t[d]?) hset.2;simpa [hL▸hdl]using this
     refine PI d (mR _) ?_;rcases hvx with e|e
     .rw [e,<-hxx];assumption
     .exact .inr e
    .rw [zE hle,zE hle];exact mR _
  have aO1:∀o:List aD,qX (eT J i) false fl o=qX J false fl o:=λo=>TY λq hq=>by unfold eT;rw[eK (hnf q hq)]
  have aO2:qX J false fl (oJ J b hf)++new'=qX (eT J i) false fl (oJ (eT J i) b hf):=by
   rw[aO1,hset.1];rcases vZ with⟨h1,h2⟩|⟨h1,h2⟩
   .rw [h2,h1,eC]
   .rw [h2,Ot aO0,yV,h1,eC]
  rw[aO2];exact Ag hto
 .intro J hJ hJm hor;have hJ':XJ l J:=by simpa using hJ
  have hsz:l.toArray.size=l.length:=by simp
  rw[hsz];have e0:l.toArray.toList=l:=by simp
  rw[e0]at hor⊢;rcases hK with⟨hme,hK⟩|⟨aLi,_,hK⟩|⟨aLi,_,htl,hK⟩
  .left;have hall:∀i,i<l.length->J i=true:=by
    intro i hi;rcases hor with h|⟨op,hop,_⟩
    .exact h i (by omega)
    .have:=(cQ.1 hop).1;omega
   have e3:(range l.length).map J=replicate l.length true:=by
    refine AK λi=> ?_
    rw[sA,getElem?_replicate];by_cases hi:i<l.length
    .simp [hi,hall i hi]
    .simp [hi]
   have e4:left (replicate l.length true)=0:=by
    unfold left;rw[filter_eq_nil_iff.2]
    .rfl
    .intro x hx;rw[(mem_replicate.1 hx).2];simp
   rw[e3,e4];simp only[yK];have e5:gM J 0 l vs s.t=gM (λ_=>true) 0 l vs s.t:=Bf l 0 vs s.t λk hk=>by rw[lO];exact hall k hk
   have e6:oJ J b hf=top b hf:=by
    cases hf with
    |nil=>rfl
    |cons q r=>
     simp only[oJ,top];rw[eW];have:=(F5 q (by
      have:q::r=aOy:=by simpa using aJs
      rw[<-this];simp)).2
     exact hall _ (by omega)
   have e7:qX J false fl (top b hf)=qX (λk=>decide (k<m)) false fl (top b hf):=by
    have:J=λk=>decide (k<m):=by
     funext k;by_cases hk:k<m
     .rw [hall k (by omega)];simp[hk]
     .rw [hJm k (by omega)];simp[hk]
    rw[this]
   rw[e5,e6,e7];exact hK
  .left;have hop:=aE aLi;have hpre:∀e∈pre l[m],J e=true:=by
    rcases hor with h|⟨op,hop',h⟩
    .exact λe he=>h e (FT hfw hop e he)
    .rw [hop]at hop';obtain rfl:=cU hop';exact h
   have e1:=aOv hop hJ' hJm hpre;have:=PH (λk=> !J k) (sH l m) [] hK;rw[eC,<-e1]at this;exact this
  .right;have hop:=aE aLi;have hall:∀i,i<m->J i=true:=by
    rcases hor with h|⟨op,hop',h⟩
    .exact h
    .exact aCo htl hop' hJ' h
   refine⟨htl,hall,?_⟩;have hJf:J=λk=>decide (k<m):=by
    funext k;by_cases hk:k<m
    .rw [hall k hk];simp[hk]
    .rw [hJm k (by omega)];simp[hk]
   have e6:oJ J b hf=top b hf:=by
    cases hf with
    |nil=>rfl
    |cons q r=>
     simp only[oJ,top];rw[eW];have:=(F5 q (by
      have:q::r=aOy:=by simpa using aJs
      rw[<-this];simp)).2
     exact hall _ (by omega)
   rw[e6,hJf];exact hK
theorem Uc{P:Program}[aB P]{l:List Oper}{t:List AV}{b:List aD}{fl:List (Nat×Nat×List AV)}{K:AS->Prop}{i:Nat}{vs:List AV}{h:List (Nat×List aD)}{t':List AV}{o':List aD}(ht:gM (λ_=>true) 0 l vs t=t')(ho:qX (λk=>decide (k<i)) false fl (top b h)=o')(hk:K ⟨t',o'⟩):lS P l t b fl K i [] vs h:=by simp only[lS,ht,ho];exact hk
theorem Im{P:Program}[aB P]{l:List Oper}{t:List AV}{b:List aD}{fl:List (Nat×Nat×List AV)}{K:AS->Prop}{i:Nat}{op:Oper}{r:List Oper}{vs:List AV}{h:List (Nat×List aD)}
  {pr:List Nat} {m:List AV} {om:List aD} (hnf:(fl.all λq=>decide (q.1≠i))=true) (hpr:pre op=pr) (hlt:(pr.all λe=>decide (e<i))=true) (hm:nM i pr 0 l vs t=m) (ho:qX (uK pr) true fl (oJ (uK pr) b h)=om) (hq:mQ op.op ⟨m,om⟩=true)
  (ha:qL P l op ⟨m,om⟩ λs'=>(DN pr h=true\/s'.o.length=om.length)/\lS P l t b fl K (i+1) r (vs++[EB op s']) (if s'.o.length=om.length then h else(i,qX Ez true fl s'.o)::h)):lS P l t b fl K i (op::r) vs h:=by
 subst hpr;subst hm;subst ho;simp only[lS];simp only[pO]at ha;exact .inr (.inl ⟨λq hq=>by have:=fW.1 hnf q hq;simpa using this,hq,λe he=>by have:=fW.1 hlt e he;simpa using this,ha⟩)
theorem XP{P:Program}[aB P]{l:List Oper}{t:List AV}{b:List aD}{fl:List (Nat×Nat×List AV)}{K:AS->Prop}{i:Nat}{op:Oper}{r:List Oper}{vs:List AV}{h:List (Nat×List aD)}{q:Nat×Nat×List AV}{T:TypeId}
  (hq:fl.find? (λq=>q.1 == i)=some q) (hg:op.guard=none) (hT:op.op= .alloc T) (hz:nW P T=some q.2.2) (hlt:((pre op).all λe=>decide (e<i))=true) (hd:lS P l t b fl K (i+1) r (vs++[.ptr q.2.1 1 0 0]) h):lS P l t b fl K i (op::r) vs h:=by
 simp only[lS];refine .inl ⟨q,pZ hq,by have:=Fl hq;simpa using this,hg,⟨T,hT,hz⟩,λe he=>by have:=fW.1 hlt e he;simpa using this,hd⟩
theorem LA{P:Program}[aB P]{l:List Oper}{t:List AV}{b:List aD}{fl:List (Nat×Nat×List AV)}{K:AS->Prop}{i:Nat}{op:Oper}{r:List Oper}{vs:List AV}{h:List (Nat×List aD)}{z:List Nat}
  (hr:wH l i=true) (hz:sH l i=z) (ha:Ci (λz=>yK P l K (left ((range l.length).map (jz i z))) ((range l.length).map (jz i z)) ⟨gM (jz i z) 0 l vs t,qX (jz i z) false fl (oJ (jz i z) b h)⟩) [] z):lS P l t b fl K i (op::r) vs h:=by
 subst hz;simp only[lS];exact .inr (.inr (.inl ⟨hr,ha⟩))
theorem Ud{P:Program}[aB P]{l:List Oper}{t t':List AV}{b b':List aD}{fl:List (Nat×Nat×List AV)}{K:AS->Prop}{i:Nat}{op:Oper}{r:List Oper}{vs:List AV}{h:List (Nat×List aD)}
  (htl:(wH l i&&Db l i)=true) (ht:gM (λk=>decide (k<i)) 0 l vs t=t') (ho:qX (λk=>decide (k<i)) false fl (top b h)=b') (ha:iJ P l (op::r) ⟨t',b'⟩ K):lS P l t b fl K i (op::r) vs h:=by
 subst ht;subst ho;simp only[eI]at htl;simp only[lS];exact .inr (.inr (.inr ⟨htl.1,htl.2,ha⟩))
def ME(J:Nat->Bool):Nat->List Oper->List Bool
 |_,[]=>[]
 |j,_::r=>J j::ME J (j+1) r
theorem Ue{J:Nat->Bool}:∀(l:List Oper) (j i:Nat),(ME J j l)[i]? =if i<l.length then some (J (j+i))else none
 |[],_,_=>by simp[ME]
 |_::r,j,0=>by simp[ME]
 |_::r,j,i+1=>by simp only[ME,AD,dT];rw[Ue r (j+1) i,show j+1+i=j+(i+1)by omega];simp
theorem aCs(J:Nat->Bool)(l:List Oper):(range l.length).map J=ME J 0 l:=by
 refine AK λi=> ?_
 rw[Ue,sA];by_cases hi:i<l.length
 .simp [hi]
 .simp [hi]
def PK(d:List Bool):Nat->List Oper->List Nat
 |_,[]=>[]
 |i,op::r=>if (!d.getD i false&&(pre op).all λe=>d.getD e false)=true then i::PK d (i+1) r else PK d (i+1) r
theorem FX{d:List Bool}:∀{l:List Oper} {k i:Nat},i∈PK d k l↔∃j op,l[j]? =some op/\i=k+j/\(!d.getD i false&&(pre op).all λe=>d.getD e false)=true
 |[],k,i=>by simp[PK]
 |op::r,k,i=>by
  simp only[PK];constructor
  .intro h;by_cases hc:(!d.getD k false&&(pre op).all λe=>d.getD e false)=true
   .rw [eW hc]at h;rcases gE.1 h with rfl|h
    .exact ⟨0,op,rfl,rfl,hc⟩
    .obtain ⟨j,o,h1,h2,h3⟩:=FX.1 h;exact⟨j+1,o,by simpa using h1,by omega,h3⟩
   .rw [eK hc]at h;obtain⟨j,o,h1,h2,h3⟩:=FX.1 h;exact⟨j+1,o,by simpa using h1,by omega,h3⟩
  .rintro ⟨j,o,h1,rfl,h3⟩;cases j with
   |zero=>simp at h1;subst h1;rw[rS]at h3⊢;rw[eW h3];simp
   |succ j=>
    have:=FX.2 ⟨j,o,by simpa using h1,show k+(j+1)=k+1+j by omega,h3⟩;split
    .exact tG _ this
    .exact this
theorem Uf{P:Program}[aB P]{l:List Oper}{K:AS->Prop}{n:Nat}{d:List Bool}{s:AS}{r':List Nat}(h:uU P l K n d s r'):∀r:List Nat,(∀i∈r,i∈r')->uU P l K n d s r
 |[],_=>by simp only[uU]
 |i::r,hs=>by simp only[uU];exact⟨Lu h i (hs i (by simp)),Uf h r λj hj=>hs j (by simp[hj])⟩
theorem go_all{P:Program}[aB P]{l:List Oper}{K:AS->Prop}{n:Nat}{d:List Bool}{s:AS}{rl:List Nat}(hr:PK d 0 l=rl)(h:uU P l K n d s rl):yK P l K (n+1) d s:=by
 simp only[yK];refine Uf h _ λi hi=> ?_
 rw[<-hr,FX];unfold Vw at hi;rw[BT]at hi;obtain⟨h1,h2⟩:=hi;have hlt:i<l.length:=by simpa using h1
 have hop:=aE hlt;have hp:lZ l i=pre l[i]:=by simp[lZ,hop]
 exact⟨i,l[i],hop,by omega,by rw[<-hp];exact h2⟩
theorem go_end{P:Program}[aB P]{l:List Oper}{K:AS->Prop}{d:List Bool}{s:AS}(h:K s):yK P l K 0 d s:=by simpa only[yK]using h
theorem go_one{P:Program}[aB P]{l:List Oper}{K:AS->Prop}{n:Nat}{d d':List Bool}{s:AS}{i:Nat}{op:Oper}(hop:l[i]? =some op)(hd:d.set i true=d')(h:iJ P l [op] s λs'=>yK P l K n d' s'):uU P l K n d s [i]:=by subst hd;simp only[uU];exact⟨⟨op,hop,h⟩,trivial⟩
theorem sy{P:Program}[aB P]{l:List Oper}{K:AS->Prop}{n:Nat}{d:List Bool}{s:AS}{i j:Nat}{r:List Nat}(h1:uU P l K n d s [i])(h2:uU P l K n d s (j::r)):uU P l K n d s (i::j::r):=by simp only[uU]at h1 h2⊢;exact⟨h1.1,h2⟩
theorem sx{F:List Nat->Prop}{acc:List Nat}{z:Nat}{r:List Nat}(h1:Ci F acc r)(h2:Ci F (z::acc) r):Ci F acc (z::r):=⟨h1,h2⟩
theorem go_sub{P:Program}[aB P]{l:List Oper}{t t':List AV}{b o':List aD}{fl:List (Nat×Nat×List AV)}{K:AS->Prop}{i n:Nat}{vs:List AV}{h:List (Nat×List aD)}{acc:List Nat}{d:List Bool}(hd:ME (jz i acc) 0 l=d)(hn:left d=n)(ht:gM (jz i acc) 0 l vs t=t')(ho:qX (jz i acc) false fl (oJ (jz i acc) b h)=o')
  (ha:yK P l K n d ⟨t',o'⟩):Ci (λz=>yK P l K (left ((range l.length).map (jz i z))) ((range l.length).map (jz i z)) ⟨gM (jz i z) 0 l vs t,qX (jz i z) false fl (oJ (jz i z) b h)⟩) acc []:=by
 subst hn;subst ht;subst ho;subst hd;simp only[Ci,aCs];exact ha
theorem wI{P:Program}[aB P]{all:List Oper}{K1 K2:AS->Prop}(hk:∀s',K1 s'->K2 s'):∀(r:List Oper) (s:AS),iJ P all r s K1->iJ P all r s K2
 |[],s,h=>by simp only[iJ]at h⊢;exact hk s h
 |o::r,s,h=>by
  simp only[iJ]at h⊢;split at h
  .rcases h with h|h|h
   .exact .inl (Vu (wI hk r) h)
   .exact .inr (.inl (XI (wI hk r) h))
   .exact .inr (.inr (TV (wI hk r) h))
  .split at h
   .exact ⟨λe=>(h.1 e).imp (Vu (wI hk r)) (Or.imp (XI (wI hk r)) (TV (wI hk r))),λe=>wI hk r _ (h.2 e)⟩
   .exact h.elim
mutual
theorem XQ{P:Program}[aB P]{l:List Oper}{K1 K2:AS->Prop}(hk:∀s',K1 s'->K2 s'):∀(n:Nat) (d:List Bool) (s:AS),yK P l K1 n d s->yK P l K2 n d s
 |0,d,s,h=>by simp only[yK]at h⊢;exact hk s h
 |n+1,d,s,h=>by simp only[yK]at h⊢;exact Ug hk n d s _ h
theorem Ug{P:Program}[aB P]{l:List Oper}{K1 K2:AS->Prop}(hk:∀s',K1 s'->K2 s'):∀(n:Nat) (d:List Bool) (s:AS) (r:List Nat),uU P l K1 n d s r->uU P l K2 n d s r
 |n,d,s,[],h=>by simp only[uU]
 |n,d,s,i::r,h=>by simp only[uU]at h⊢;obtain⟨⟨op,h1,h2⟩,h3⟩:=h;exact⟨⟨op,h1,wI (λs'=>XQ hk n _ s') _ _ h2⟩,Ug hk n d s r h3⟩
end
theorem PM{F1 F2:List Nat->Prop}(hk:∀z,F1 z->F2 z):∀(z acc:List Nat),Ci F1 acc z->Ci F2 acc z
 |[],acc,h=>hk acc h
 |x::z,acc,h=>⟨PM hk z acc h.1,PM hk z (x::acc) h.2⟩
theorem Dc{P:Program}[aB P]{l:List Oper}{t:List AV}{b:List aD}{fl:List (Nat×Nat×List AV)}{K:AS->Prop}{i:Nat}{op:Oper}{r:List Oper}{vs:List AV}{h:List (Nat×List aD)}{z:List Nat}{s1:AS}
  (hr:wH l i=true) (hz:sH l i=z) (ha:Ci (λz=>yK P l (λs'=>s'=s1) (left ((range l.length).map (jz i z))) ((range l.length).map (jz i z)) ⟨gM (jz i z) 0 l vs t,qX (jz i z) false fl (oJ (jz i z) b h)⟩) [] z) (hk:K s1):lS P l t b fl K i (op::r) vs h:=
 LA hr hz (PM (λz h=>XQ (λs' e=>by subst e;exact hk) _ _ _ h) _ _ ha)
def PN(P:Program):Nat->Nat->List Oper->List (Nat×Nat×List AV)
 |_,_,[]=>[]
 |i,n,op::r=>match op.op with
  | .alloc T=>match nW P T with
   |some z=>(i,n,z)::PN P (i+1) (n+1) r
   |none=>PN P (i+1) n r
  |_=>PN P (i+1) n r
attribute [irreducible] lS
def bH(t:List AV):List (Nat×AV)->List AV
 |[]=>t
 |p::r=>bH (t.set p.1 p.2) r
theorem aI{P:Program}[aB P]{c:Code}{s:AS}{Q:Exit->AS->Prop}{ι:Type}(inv:List AV->List aD->ι->AS)(μ:ι->Nat)(i:ι)(h0:kY s (inv s.t s.o i))(h:∀i,∀K:AS->Prop,(∀s' j,kY s' (inv s.t s.o j)->μ j<μ i->K s')->jL P c (inv s.t s.o i) (uG K Q)):jL P (.loop c) s Q:=aBf (inv s.t s.o) μ i h0 h
attribute [irreducible] Ci
attribute [simp] ME PK jz left qX flv Ez PN pre aCp nM zF gM oJ top DN uK EB bH
theorem F6{P:Program}[aB P]{all r:List Oper}{o:Oper}{s:AS}{K:AS->Prop}{j:Nat}{want:Bool}(hg:o.guard=some (j,want))(hb:nI all s j want= .bool (!want))(h:iJ P all r (s.put o.dst (.iP [])) K):iJ P all (o::r) s K:=by unfold iJ;rw[hg];dsimp only;rw[hb];exact⟨λhn=>(by cases want<;>cases hn),λ_=>h⟩
theorem XR{α:Type}{l:List α}{i:Nat}{x:α}(h:l[i]? =some x):l.set i x=l:=by obtain⟨hi,rfl⟩:=cQ.1 h;exact set_getElem_self hi
theorem gm{P:Program}[aB P]{all r:List Oper}{o:Oper}{s:AS}{K:AS->Prop}{j d:Nat}{want b:Bool}(hg:o.guard=some (j,want))(hd:(all[j]?).bind (·.dst)=some d)(hb:s.t[d]? =some (.bool b))
  (h1:b=true->iJ P all (o::r) ⟨s.t.set d (.bool true),s.o⟩ K) (h2:b=false->iJ P all (o::r) ⟨s.t.set d (.bool false),s.o⟩ K):iJ P all (o::r) s K:=by
 cases b
 .have:=h2 rfl;rw[XR hb]at this;exact this
 .have:=h1 rfl;rw[XR hb]at this;exact this
def zO{α:Type}(f:α->Bool)(l:List α):Int:=if l.any f=true then(l.findIdx f:Nat)else -1
theorem Ou{α:Type}{f:α->Bool}{l:List α}{k:Nat}(h:k<l.length)(hf:f l[k]=true)(hn:∀x∈l.take k,f x=false):zO f l=k:=by
 unfold zO;rw[eW (any_eq_true.2 ⟨_,hI h,hf⟩)];have:l.findIdx f=k:=by rw[findIdx_eq h];refine⟨hf,λj hj=> ?_⟩;exact hn _ (mem_take_iff_getElem.2 ⟨j,by omega,rfl⟩)
 rw[this]
theorem FY{α:Type}{f:α->Bool}{l:List α}(hn:∀x∈l,f x=false):zO f l= -1:=by unfold zO;rw[eK];intro h;obtain⟨x,hx,hf⟩:=any_eq_true.1 h;rw[hn x hx]at hf;cases hf
theorem gB{α:Type}{p:α->Prop}{l:List α}{k:Nat}(h:k<l.length)(ha:∀x∈l.take k,p x)(hk:p l[k]):∀x∈l.take (k+1),p x:=by
 rw[eL h];intro x hx;rcases fS.1 hx with hx|hx
 .exact ha x hx
 .rw [nF.1 hx];exact hk
theorem qM{α:Type}{p:α->Prop}{l:List α}{k:Nat}(hk:l.length<=k)(ha:∀x∈l.take k,p x):∀x∈l,p x:=by
 rwa[eJ hk]at ha
open Go.ChangeShapes Go.WideShapes Go.ChangeAt Go.RowKit
inductive Sh
  | int (k:IntKind)
  | bool
  | str
  | sl (n:Nat) (row:List Sh)
mutual
def Fits:Sh->AV->Prop
 | .int k,.int k' n=>k'=k/\(Lit.int k n).wf=true
 | .bool,.bool _=>True
 | .str,.str s=>s.length<=maxLen
 | .sl n row,.sl g n' rows=>g= .view/\n'=n/\rows.length<=maxLen/\∀r∈rows,nX row r
 |_,_=>False
def nX:List Sh->List AV->Prop
 |[],[]=>True
 |s::ss,x::xs=>Fits s x/\nX ss xs
 |_,_=>False
end
theorem JF:∀{ss tt:List Sh} {xs ys:List AV},nX ss xs->nX tt ys->nX (ss++tt) (xs++ys)
 |[],_,[],_,_,h=>h
 |s::ss,_,x::xs,_,h,h'=>by simp only[nX,cW]at h⊢;exact⟨h.1,JF h.2 h'⟩
 |[],_,_::_,_,h,_=>h.elim
 |_::_,_,[],_,h,_=>h.elim
def shF(sh:TypeId->Option (List Sh))(P:Program):List Field->Nat->Option (List Sh)
 |[],_=>some []
 |x::xs,o=>if x.offset=o then match sh x.type with
   |some a=>if a.length=P.cellsOf x.type then match shF sh P xs (o+a.length)with
     |some b=>some (a++b)
     |none=>none
    else none
   |none=>none
  else none
def uj(P:Program):Nat->TypeId->Option (List Sh)
 |0,_=>none
 |f+1,t=>match P.underlying t with
  |some .bool=>some [.bool]
  |some (.int k)=>some [.int k]
  |some .string=>some [.str]
  |some (.slice e)=>match uj P f e with
   |some row=>if row.length=P.cellsOf e/\0<row.length then some [.sl row.length row]else none
   |none=>none
  |some (.struct fs)=>match shF (uj P f) P fs.toList 0 with
   |some r=>if r.length=P.cellsOf t then some r else none
   |none=>none
  |_=>none
theorem Mt{α:Type}{p:Nat->α->Prop}:∀(n:Nat),(∀i,i<n->∃x,p i x)->∃l:List α,l.length=n/\∀i x,l[i]? =some x->p i x
 |0,_=>⟨[],rfl,λi x h=>by simp at h⟩
 |n+1,h=>by
  obtain⟨l,hl,hp⟩:=Mt n (λi hi=>h i (by omega));obtain⟨x,hx⟩:=h n (by omega);refine⟨l++[x],by simp[hl],λi y hy=> ?_⟩;by_cases hi:i<l.length
  .rw [pS hi]at hy;exact hp i y hy
  .rw [mL (by omega)]at hy;have:i-l.length=0:=by
    cases hk:i-l.length with
    |zero=>rfl
    |succ k=>rw[hk]at hy;simp at hy
   rw[this]at hy;simp at hy;subst hy;have:i=n:=by omega
   subst this;exact hx
theorem aJc{w:World}{E:Env}{b n:Nat}:∀(rows:List (List AV)) (off:Nat),
  (∀j r,rows[j]? =some r->∃cs:List Value,cs.length=n/\dU w b (off+j*n) cs/\(∀x∈cs,x.oneCell'=true)/\Rc w E r cs [])->Rr w E rows b off n []
 |[],_,_=>by simp[Rr]
 |r::rs,off,h=>by obtain⟨cs,h1,h2,h3,h4⟩:=h 0 r rfl;refine⟨cs,[],[],h1,by simpa using h2,h3,h4,aJc rs (off+n) λj r hj=> ?_,rfl⟩;obtain⟨cs,h1,h2,h3,h4⟩:=h (j+1) r (by simpa using hj);exact⟨cs,h1,by rw[rB,Nat.one_mul,show off+(j*n+n)=off+n+j*n by omega]at h2;exact h2,h3,h4⟩
section
variable{H:Type}{enc:TypeId × Value -> H}{P:Program}[aB P]{w:World}{spare:Nat -> Bool}{held:Bool}
def Reads(enc:TypeId×Value->H)(P:Program)(w:World)(spare:Nat->Bool)(held:Bool)(t:TypeId)(ss:List Sh):Prop:=
 ∀fuel cs x,DataW.trod enc P w 0 spare held fuel t cs=some x->∃TN,nX ss TN/\Rc w (mK w) TN cs []/\∀c∈cs,c.oneCell'=true
theorem JG{sh:TypeId->Option (List Sh)}(ih:∀t ss,sh t=some ss->Reads enc P w spare held t ss){n:Nat}{cs:List Value}:
  ∀(fs:List Field) (o:Nat) (rs:List Sh),shF sh P fs o=some rs->(∀f∈fs,∃y,DataW.trod enc P w 0 spare held n f.type ((cs.drop f.offset).take (P.cellsOf f.type))=some y)->
   ∃TN,nX rs TN/\Rc w (mK w) TN ((cs.drop o).take rs.length) []/\∀c∈(cs.drop o).take rs.length,c.oneCell'=true
 |[],o,rs,h,_=>by simp only[shF,eA]at h;subst h;exact⟨[],by simp[nX],by simp[Rc],by simp⟩
 |f::fs,o,rs,h,hf=>by
  simp only[shF]at h;split at h
  .rename_i ho;split at h
   .rename_i a ha;split at h
    .rename_i hl;split at h
     .rename_i b hb;obtain rfl:=cU h;obtain⟨y,hy⟩:=hf f (by simp);obtain⟨x1,h1,h2,h3⟩:=ih _ _ ha _ _ _ hy;obtain⟨x2,h4,h5,h6⟩:=JG ih fs _ _ hb λf hf'=>hf f (by simp[hf'])
      rw[ho,<-hl]at h2 h3;have e:(cs.drop o).take (a++b).length=(cs.drop o).take a.length++(cs.drop (o+a.length)).take b.length:=by rw[eM,take_add,yW]
      refine⟨x1++x2,JF h1 h4,by rw[e];exact iQ h2 h5,λc hc=> ?_⟩;rw[e,fS]at hc;exact hc.elim (h3 c) (h6 c)
     .cases h
    .cases h
   .cases h
  .cases h
theorem reads:∀(f:Nat) (t:TypeId) (ss:List Sh),uj P f t=some ss->Reads enc P w spare held t ss
 |0,_,_,h=>by simp[uj]at h
 |f+1,t,ss,h=>by
  intro fuel cs x hx;unfold uj at h;split at h
  .rename_i ht;obtain rfl:=cU h;obtain⟨b,rfl,_⟩:=DataW.trod_bool ht hx;exact⟨[.bool b],by simp[nX,Fits],by simp[Rc,R],by simp[Value.oneCell']⟩
  .rename_i k ht;obtain rfl:=cU h;obtain⟨n,rfl,_,hw⟩:=DataW.trod_int ht hx;exact⟨[.int k n],by simp[nX,Fits,hw],by simp[Rc,R],by simp[Value.oneCell']⟩
  .rename_i ht;obtain rfl:=cU h;obtain⟨s,rfl,_,hw⟩:=DataW.trod_string ht hx;exact⟨[.str s.data.toList],by simpa [nX,Fits]using hw,by simp[Rc,R],by simp[Value.oneCell']⟩
  .rename_i e ht;split at h
   .rename_i row hrow;split at h
    .rename_i hc;obtain rfl:=cU h;have ih:=reads f e row hrow;rcases DataW.trod_slice ht hx with⟨rfl,_⟩|⟨a,len,cap,elems,rest,n,_,rfl,_,_,hlc,hcm,hlen,WC,_,_⟩
     .exact ⟨[.sl .view row.length []],by simp[nX,Fits],by simp[Rc,R,maxLen],by simp[Value.oneCell']⟩
     .rw [<-hc.1]at WC;have Xo:∀i,i<len->∃r:List AV,nX row r/\∃cs,w.cells? 0 (a.add (i*row.length)) row.length=some cs/\(∀x∈cs,x.oneCell'=true)/\Rc w (mK w) r cs []:=by intro i hi;have h1:=WC i hi;rw[aE (by omega)]at h1;obtain⟨cs,hcs,htr⟩:=Option.bind_eq_some_iff.1 h1;obtain⟨r,h2,h3,h4⟩:=ih _ _ _ htr;exact⟨r,h2,cs,hcs,h4,h3⟩
      obtain⟨rows,hrl,hrp⟩:=Mt len Xo;refine⟨[.sl .view row.length rows],?_,?_,by simp[Value.oneCell']⟩
      .simp only[nX,Fits,qT,true_and];refine⟨by omega,λr hr=> ?_⟩;obtain⟨i,hi⟩:=getElem?_of_mem hr;exact(hrp i r hi).1
      .simp only[Rc];refine⟨[],[],?_,rfl,rfl⟩;simp only[R];refine .inr ⟨some a,cap,by rw[hrl],⟨by omega,by omega⟩,.inr (.inr ⟨by simp,trivial,?_⟩)⟩;by_cases hl0:len=0
       .exact .inl (BE.1 (by omega))
       right;have h0:rows[0]? =some rows[0]:=aE (by omega);obtain⟨_,cs0,aK3,_⟩:=hrp 0 _ h0;have aOk:=(World.cells?_some aK3).2.2 0 hc.2;have aU2:=(World.cells?_some aK3).2.1;have aJe:a.spot=none:=by
        have:w.cell? a=cs0[0]?:=by simpa [Addr.add]using aOk
        rw[aE (by omega)]at this;unfold World.cell? at this;split at this
        .split at this
         .cases this
         .rename_i hs;simpa using hs
        .cases this
       have aGf:a.block<w.heap.size:=by have:=World.cells?_block aK3 hc.2;unfold Addr.add at this;split at this<;>exact this
       obtain⟨ab,ao,asp⟩:=a;simp only at aJe aGf;subst aJe;refine⟨ab,ao,rfl,aGf,aJc rows ao λj r hj=> ?_⟩;obtain⟨_,cs,hcs,h1,hR⟩:=hrp j r hj;have hs:=World.cells?_some hcs;refine⟨cs,hs.2.1,λk v hv=> ?_,h1,?_⟩
       .have hk:k<row.length:=by have:=(cQ.1 hv).1;omega
        have:=hs.2.2 k hk;rw[hv]at this;rw[<-this];congr 1;unfold Addr.add;split<;>split<;>simp_all<;>omega
       .exact dX (w:=w) (w':=w) (E:=mK w) ⟨λb hb=>⟨hb,rfl⟩,λ_ h=>trivial,λ_ _ _ h=>by exact h.elim,λ_ _ _ h=>by exact h.elim,λ_ _ _ _ _ h=>by exact h.elim⟩ _ _ _ (by simp) hR
    .cases h
   .cases h
  .rename_i fs ht;split at h
   .rename_i r hr;split at h
    .rename_i hc;obtain rfl:=cU h;obtain⟨xs,n,_,_,Ea,hxl,U9⟩:=DataW.trod_struct ht hx;obtain⟨TN,h1,h2,h3⟩:=JG (enc:=enc) (w:=w) (spare:=spare) (held:=held) (n:=n) (cs:=cs) (reads f) fs.toList 0 _ hr λfl hfl=>by
      obtain⟨i,hi⟩:=getElem?_of_mem hfl;have:=U9 i fl (by simpa using hi);have hlt:=(cQ.1 hi).1;simp at hlt;rw[aE (by omega)]at this;exact⟨_,this⟩
     rw[DH,eJ (by omega)]at h2 h3;exact⟨TN,h1,h2,h3⟩
    .cases h
   .cases h
  .cases h
inductive ShV
  | one (s:Sh)
  | agg (row:List Sh)
def aBg:ShV->AV->Prop
 | .one s,x=>Fits s x
 | .agg row,.agg c=>nX row c
 |_,_=>False
def Lj:List ShV->List AV->Prop
 |[],[]=>True
 |s::ss,x::xs=>aBg s x/\Lj ss xs
 |_,_=>False
def shV(P:Program)(f:Nat)(t:TypeId):Option ShV:=match P.underlying t with
 |some (.struct _)=>(uj P f t).map .agg
 |some .bool|some (.int _)|some .string|some (.slice _)=>match uj P f t with
  |some [s]=>some (.one s)
  |_=>none
 |_=>none
def aBh(P:Program)(f:Nat):List TypeId->Option (List ShV)
 |[]=>some []
 |t::ts=>match shV P f t,aBh P f ts with
  |some s,some ss=>some (s::ss)
  |_,_=>none
theorem zz{v:Value}(h:∀cs,v≠ .agg cs):v.cells=#[v]:=by cases v<;>first|rfl|exact absurd rfl (h _)
theorem aK4{base:Nat}{f:Nat}{t:TypeId}{s:ShV}(h:shV P f t=some s){v:Value}{d:DataW H}{ps:List MemPlace}(qE:Value.okWide P w .any base t v)
  (hT:DataW.Trod enc P w 0 spare held t v d ps):∃av,aBg s av/\R w (mK w) av v []:=by
 obtain⟨fuel,hT⟩:=hT;unfold shV at h;have one:(∀cs,v≠ .agg cs)->(match uj P f t with|some [s]=>some (ShV.one s)|_=>none)=some s->∃av,aBg s av/\R w (mK w) av v []:=by
  intro hv h;split at h
  .rename_i s1 hs;obtain rfl:=cU h;obtain⟨TN,h1,h2,_⟩:=reads f t _ hs _ _ _ hT;rw[zz hv]at h2;cases TN with
   |nil=>exact h1.elim
   |cons x xs=>
    cases xs with
    |nil=>simp only[Rc]at h2;obtain⟨f1,f2,hr,rfl,e⟩:=h2;simp only[eC]at e;subst e;simp only[nX]at h1;exact⟨x,h1.1,hr⟩
    |cons y ys=>simp[nX]at h1
  .cases h
 split at h
 .rename_i fs ht;obtain⟨ss,hs,rfl⟩:=Option.map_eq_some_iff.1 h;obtain⟨cs,rfl,_⟩:=okWide_struct ht qE;obtain⟨TN,h1,h2,h3⟩:=reads f t _ hs _ _ _ hT;exact⟨.agg TN,h1,by simp only[R];exact⟨cs.toList,by simp,h3,h2⟩⟩
 .rename_i ht;exact one (λcs e=>by subst e;simp[Value.okWide,ht,Cell.okWide,Cell.ok]at qE) h
 .rename_i ht;exact one (λcs e=>by subst e;simp[Value.okWide,ht,Cell.okWide,Cell.ok]at qE) h
 .rename_i ht;exact one (λcs e=>by subst e;simp[Value.okWide,ht,Cell.okWide,Cell.ok]at qE) h
 .rename_i ht;exact one (λcs e=>by subst e;simp[Value.okWide,ht,Cell.okWide,Cell.ok]at qE) h
 .cases h
theorem uk{base:Nat}{f:Nat}:∀{ts:List TypeId} {ss:List ShV},aBh P f ts=some ss->∀{vs:List Value} {ds:List (DataW H)} {ps:List MemPlace},
  (∀(j:Nat) t v,ts[j]? =some t->vs[j]? =some v->Value.okWide P w .any base t v)->DataW.TrodAll enc P w 0 spare held ts vs ds ps->∃TN,Lj ss TN/\Rc w (mK w) TN vs []
 |[],ss,h,[],_,_,_,_=>by simp only[aBh,eA]at h;subst h;exact⟨[],trivial,by simp[Rc]⟩
 |t::ts,ss,h,v::vs,d::ds,ps,qE,hT=>by
  simp only[aBh]at h;split at h
  .rename_i s ss' h1 h2;obtain rfl:=cU h;obtain⟨p,q,ht,hr,_⟩:=hT;obtain⟨x,hx,hR⟩:=aK4 h1 (qE 0 t v rfl rfl) ht;obtain⟨xs,hxs,hRs⟩:=uk h2 (λj t v h1 h2=>qE (j+1) t v (by simpa using h1) (by simpa using h2)) hr;exact⟨x::xs,⟨hx,hxs⟩,by simp only[Rc];exact⟨[],[],hR,hRs,rfl⟩⟩
  .cases h
 |[],_,_,_::_,_,_,_,hT=>by simp[DataW.TrodAll]at hT
 |_::_,_,_,[],_,_,_,hT=>by simp[DataW.TrodAll]at hT
 |_::_,_,_,_::_,[],_,_,hT=>by simp[DataW.TrodAll]at hT
theorem GK(hl:laidOutB P=true){W W':World}(hb:Below W.heap.size W W'):∀{ts:List TypeId} {vs:List Value} {ds:List (DataW H)} {ps:List MemPlace},
  (∀t∈ts,P.readableRec t=true/\t<P.types.size)->DataW.TrodAll enc P W 0 (λ_=>true) true ts vs ds ps->(∀x∈ps,x.block<W.heap.size)->∀sp:Nat->Bool,(∀p∈ps,sp p.block=true)->
   DataW.TrodAll enc P W' 0 sp true ts vs ds ps
 |[],[],[],_,_,h,_,_,_=>h
 |t::ts,v::vs,d::ds,ps,hr,h,hlt,sp,hsp=>by
  obtain⟨p,q,h1,h2,rfl⟩:=h;refine⟨p,q,?_,?_,rfl⟩
  .exact WideElems.Trod_stays hl (hr t (by simp)).1 (hr t (by simp)).2 h1 (λx hx=>hb.same (hlt x (by simp[hx]))) (λx hx=>hsp x (by simp[hx]))
  .exact GK hl hb (λt ht=>hr t (by simp[ht])) h2 (λx hx=>hlt x (by simp[hx])) sp (λx hx=>hsp x (by simp[hx]))
 |[],_::_,_,_,_,h,_,_,_=>h.elim
 |[],[],_::_,_,_,h,_,_,_=>h.elim
 |_::_,[],_,_,_,h,_,_,_=>h.elim
 |_::_,_::_,[],_,_,h,_,_,_=>h.elim
end
theorem Xp{α:Type}{row:List Sh}{e:α->List AV}{p:α->Prop}(h:∀r,nX row r->∃x,r=e x/\p x):∀rows:List (List AV),(∀r∈rows,nX row r)->∃l:List α,rows=l.map e/\∀x∈l,p x
 |[],_=>⟨[],rfl,by simp⟩
 |r::rs,hr=>by obtain⟨x,rfl,hx⟩:=h r (hr r (by simp));obtain⟨l,rfl,hl⟩:=Xp h rs (λr h=>hr r (by simp[h]));exact⟨x::l,rfl,by simpa using⟨hx,hl⟩⟩
theorem aBi{r:List AV}(h:nX [] r):r=[]:=by
 cases r with
 |nil=>rfl
 |cons _ _=>exact h.elim
theorem fits_int{k:IntKind}{ss:List Sh}{r:List AV}(h:nX (.int k::ss) r):∃n r',r= .int k n::r'/\(k.min<=n/\n<=k.max)/\nX ss r':=by
 match r,h with
 |[],h=>exact h.elim
 | .int k' n::r',h=>obtain⟨⟨rfl,hw⟩,h2⟩:=h;exact⟨n,r',rfl,by simpa [Lit.wf]using hw,h2⟩
theorem aGs{n:Nat}{row ss:List Sh}{r:List AV}(h:nX (.sl n row::ss) r):∃rows r',r= .sl .view n rows::r'/\rows.length<=9223372036854775807/\(∀x∈rows,nX row x)/\nX ss r':=by
 match r,h with
 |[],h=>exact h.elim
 | .sl g n' rows::r',h=>obtain⟨⟨rfl,rfl,h1,h2⟩,h3⟩:=h;exact⟨rows,r',rfl,h1,h2,h3⟩
theorem A7{r:List AV}(h:Lj [] r):r=[]:=by
 cases r with
 |nil=>rfl
 |cons _ _=>exact h.elim
theorem A8{s:Sh}{ss:List ShV}{r:List AV}(h:Lj (.one s::ss) r):∃x r',r=x::r'/\nX [s] [x]/\Lj ss r':=by
 match r,h with
 |[],h=>exact h.elim
 |x::r',h=>exact⟨x,r',rfl,⟨h.1,trivial⟩,h.2⟩
theorem aBj{C:Checked}[T:aB C.prog]{f:FuncId}{fn:Func}{s:ChangeSpec}{apart fresh handsOn again:Bool}{H:Type}{enc:TypeId×Value->H}{ss:List ShV}{fuel:Nat}{tb:TypeId}
  (hl:laidOutB C.prog=true) (aOl:∀t∈fn.params.toList,C.prog.readableRec t=true/\t<C.prog.types.size)
  (U0:aBh C.prog fuel fn.params.toList=some ss) (lC:fn.resultTypes=#[tb]) (hb:C.prog.underlying tb=some .bool) (aJf:s.vars=[])
  (Xq:∀ds:List (DataW H),ds.length=fn.params.toList.length->s.fn H ds={results:=[.lit (.bool true)],args:=ds})
  (qE:∀TN,Lj ss TN->Ok C.prog f TN (.bool true))
  {W:World} {base:Nat} {args:Array Value} {ds gs:List (DataW H)} {before:List MemPlace} (hT:aB.holds C.prog W)
  (hval:∀(j:Nat) t v,fn.params[j]? =some t->args[j]? =some v->Value.okWide C.prog W .any base t v)
  (hW:DataW.Whole enc C.prog fn.params.toList s.vars apart W args.toList ds gs before):
  Calls C.prog f args W λe W'=>∃v,e= .returned v/\s.post enc C.prog fn apart fresh handsOn again W args v W':=by
 obtain⟨p,q,hA,hV,hpq,hz,hn⟩:=id hW;rw[aJf]at hV;obtain⟨rfl,rfl⟩:gs=[]/\q=[]:=by
  cases gs with
  |nil=>exact⟨rfl,hV⟩
  |cons _ _=>exact hV.elim
 rw[eC]at hpq;subst hpq;have hlen:ds.length=fn.params.toList.length:=by
  have:∀(ts:List TypeId) (vs:List Value) (ds:List (DataW H)) ps,DataW.TrodAll enc C.prog W 0 (λ_=>true) true ts vs ds ps->ds.length=ts.length:=by
   intro ts;induction ts with
   |nil=>intro vs ds ps h;cases vs<;>cases ds<;>simp_all[DataW.TrodAll]
   |cons t ts ih=>intro vs ds ps h;cases vs<;>cases ds<;>simp_all[DataW.TrodAll];obtain⟨_,_,_,h,_⟩:=h;exact ih _ _ _ h
  exact this _ _ _ _ hA
 have aOm:=Xq ds hlen;obtain⟨TN,aOn,hR⟩:=uk U0 (λj t v h1 h2=>hval j t v (by simpa using h1) (by simpa using h2)) hA;have hc:=qE TN aOn W args.toList hT hR;rw[show args.toList.toArray=args from rfl]at hc;refine hc.mono λe W' ⟨v,fp,he,hr,_,_,hsz,iH,zJ⟩=>⟨v,he,?_⟩
 simp only[R]at hr;obtain⟨rfl,_⟩:=hr;have hbl:Below W.heap.size W W':=⟨zJ.os,zJ.tape,zJ.output,hsz,iH⟩;have hlt:∀x∈before,x.block<W.heap.size:=λx hx=>hW.lt x hx
 have hsp:s.fn H (ds++[])={results:=[.lit (.bool true)],args:=ds}:=by rw[eC];exact aOm
 have oP:∀sp:Nat->Bool,(∀p∈before,sp p.block=true)->DataW.TrodAll enc C.prog W' 0 sp true fn.params.toList args.toList (s.fn H (ds++[])).args before:=by intro sp h;rw[hsp];exact GK hl hbl aOl hA hlt sp h
 have hone:(Value.bool true).resultList fn.resultTypes.size=[.bool true]:=by rw[lC];rfl
 have aJg:∀(b:Nat) (sp:Nat->Bool) (hd:Bool),DataW.TrodAll enc C.prog W' b sp hd fn.resultTypes.toList ((Value.bool true).resultList fn.resultTypes.size) (s.fn H (ds++[])).results []:=by intro b sp hd;rw[hsp,hone,lC];exact⟨[],[],shut_bool hb true,rfl,rfl⟩
 have aBk:∀sp:Nat->Bool,DataW.TrodVars enc C.prog W' sp s.vars (s.fn H (ds++[])).vars []:=by intro sp;rw[hsp,aJf];rfl
 have hold:∀p∈before,(λb=>decide (b<W.heap.size)) p.block=true:=λp hp=>by simpa using hlt p hp
 refine⟨ds,[],before,[],before,[],hW,aJg _ _ _,oP _ hold,aBk _,World.keptBut_mono (λp hp=>hp.elim) (hbl.frame (λ_=>False)),λ_=> ?_⟩;refine⟨ok_one lC rfl (okWide_bool_mk hb true),_,_,([]++before)++[],⟨[]++before,[],trodAll_append (oP _ (λ_ _=>rfl)) (aJg _ _ _),aBk _,rfl,?_,?_⟩,?_⟩
 .intro b off hp;have hp':MemPlace.cell b off∈before:=by simpa using hp
  rw[hbl.frozen (p:=⟨b,off,none⟩) (hlt _ hp')];exact hz b off hp'
 .intro ha;simpa using hn ha
 .intro p hp _;simpa using hp
def IG:Sh->AV->Prop
 | .int k,.int k' _=>k'=k
 | .bool,.bool _=>True
 | .str,.str _=>True
 |_,_=>False
def tL:List Sh->List AV->Prop
 |[],[]=>True
 |s::ss,x::xs=>IG s x/\tL ss xs
 |_,_=>False
theorem wM:∀{ss:List Sh} {xs:List AV},tL ss xs->xs.length=ss.length
 |[],[],_=>rfl
 |s::ss,x::xs,h=>by simp only[tL]at h;simp[wM h.2]
 |[],_::_,h=>h.elim
 |_::_,[],h=>h.elim
theorem EO:∀{ss tt:List Sh} {xs:List AV},tL (ss++tt) xs->tL ss (xs.take ss.length)/\tL tt (xs.drop ss.length)
 |[],_,xs,h=>by simpa [tL]using h
 |s::ss,tt,x::xs,h=>by simp only[cW,tL]at h;simp only[dT,fL,vA,tL];have:=EO h.2;exact⟨⟨h.1,this.1⟩,this.2⟩
 |_::_,_,[],h=>h.elim
def Bp(P:Program)(t:TypeId):Bool:=match P.underlying t with|some (.struct _)=>true|_=>false
def valOf(P:Program)(t:TypeId)(cs:List Value):Value:=if Bp P t then .agg cs.toArray else cs.headD (.tuple #[])
def eqT(P:Program):Nat->TypeId->Bool
 |0,_=>false
 |f+1,t=>match P.underlying t with
  |some .bool|some (.int _)|some .string=>P.cellsOf t == 1
  |some (.struct fs)=> !P.stoodInHeld t&&fs.toList.all λx=>x.name != "_" &&eqT P f x.type
  |_=>false
theorem MN{P:Program}{w:World}{f:Nat}{t:TypeId}(he:eqT P f t=true)(xs:List Value)(o:Nat)(h:P.cellsOf t=0\/o+P.cellsOf t<=xs.length):
  (part t xs.toArray o).run P w= .ok (valOf P t ((xs.drop o).take (P.cellsOf t))) w:=by
 cases f with
 |zero=>simp[eqT]at he
 |succ f=>
  unfold eqT at he;have one:∀d,P.underlying t=some d->(d= .bool\/(∃k,d= .int k)\/d= .string)->P.cellsOf t=1->(part t xs.toArray o).run P w= .ok (valOf P t ((xs.drop o).take (P.cellsOf t))) w:=by
   intro d hu hd h1;have hlt:o<xs.length:=by omega
   have e:(xs.drop o).take 1=[xs[o]]:=by rw[oS hlt,fL,lE]
   rw[h1,e];rcases hd with rfl|⟨k,rfl⟩|rfl<;>simp[part,isAgg,gC hu,valOf,Bp,hu,hlt]
  split at he
  .rename_i hu;exact one _ hu (.inl rfl) (by simpa using he)
  .rename_i hu;exact one _ hu (.inr (.inl ⟨_,rfl⟩)) (by simpa using he)
  .rename_i hu;exact one _ hu (.inr (.inr rfl)) (by simpa using he)
  .rename_i fs hu;obtain⟨i,hi⟩:=info_of_underlying hu;have hl:xs.toArray.extract o (o+P.cellsOf t)=((xs.drop o).take (P.cellsOf t)).toArray:=by apply Array.toList_inj.1;rw[Array.toList_extract];simp[extract]
   simp[part,isAgg,gC hu,run_sizeOf w hi,valOf,Bp,hu,hl]
  .cases he
section
variable{P:Program}
theorem DU{f:Nat}(ih:∀t ss,uj P f t=some ss->eqT P f t=true->∀c1 c2:List AV,tL ss c1->tL ss c2->∀d w,f<=d->∃b,(Op.equalIn d t (valOf P t (c1.map toV)) (valOf P t (c2.map toV))).run P w= .ok b w/\(b=true↔c1=c2))(c1 c2:List AV)(d:Nat)(w:World)(hd:f<=d):
  ∀(fs:List Field) (o:Nat) (rs:List Sh),shF (uj P f) P fs o=some rs->(fs.all λx=>x.name != "_" &&eqT P f x.type)=true->tL rs (c1.drop o)->tL rs (c2.drop o)->
   ∃b,(Op.eqFields d (c1.map toV).toArray (c2.map toV).toArray fs).run P w= .ok b w/\(b=true↔c1.drop o=c2.drop o)
 |[],o,rs,h,_,h1,h2=>by simp only[shF,eA]at h;subst h;refine⟨true,by simp[Op.eqFields],?_⟩;have e1:=wM h1;have e2:=wM h2;simp only[eR,BE]at e1 e2;simp[e1,e2]
 |x::fs,o,rs,h,ha,h1,h2=>by
  simp only[shF]at h;simp only[BY,eI]at ha;split at h
  .rename_i ho;split at h
   .rename_i a hsa;split at h
    .rename_i hl;split at h
     .rename_i b hb;obtain rfl:=cU h;have s1:=EO h1;have s2:=EO h2;rw[yW]at s1 s2;have n1:=wM h1;have n2:=wM h2;simp only[AI,eM]at n1 n2;obtain⟨b1,hr1,hi1⟩:=ih _ _ hsa ha.1.2 _ _ s1.1 s2.1 d w hd;obtain⟨b2,hr2,hi2⟩:=DU ih c1 c2 d w hd fs (o+a.length) b hb ha.2 s1.2 s2.2;have p1:=MN (w:=w) ha.1.2 (c1.map toV) o (by rw[oT];omega);have p2:=MN (w:=w) ha.1.2 (c2.map toV) o (by rw[oT];omega);rw[<-hl,<-map_drop,<-map_take]at p1 p2;have aCc:x.name≠ "_" :=by simpa using ha.1.1
      simp only[Op.eqFields,aCc,ne_eq,not_false_eq_true,eV,ho,oA,p1,p2,lP,hr1];have aL0:c1.drop o=(c1.drop o).take a.length++c1.drop (o+a.length):=by rw[<-yW,mN]
      have aL1:c2.drop o=(c2.drop o).take a.length++c2.drop (o+a.length):=by rw[<-yW,mN]
      have key:c1.drop o=c2.drop o↔((c1.drop o).take a.length=(c2.drop o).take a.length/\c1.drop (o+a.length)=c2.drop (o+a.length)):=by
       constructor
       .intro e;rw[e];refine⟨rfl,?_⟩;rw[<-yW,<-yW,e]
       .intro e;rw[aL0,aL1,e.1,e.2]
      cases b1 with
      |false=>exact⟨false,by simp,by simp only[cX,false_iff];intro e;exact absurd (hi1.2 (key.1 e).1) (by simp)⟩
      |true=>exact⟨b2,by simpa using hr2,by rw[hi2,key];exact⟨λe=>⟨hi1.1 rfl,e⟩,λe=>e.2⟩⟩
     .cases h
    .cases h
   .cases h
  .cases h
theorem xn:∀(f:Nat) (t:TypeId) (ss:List Sh),uj P f t=some ss->eqT P f t=true->∀c1 c2:List AV,tL ss c1->tL ss c2->∀d w,f<=d->
  ∃b,(Op.equalIn d t (valOf P t (c1.map toV)) (valOf P t (c2.map toV))).run P w= .ok b w/\(b=true↔c1=c2)
 |0,_,_,h,_,_,_,_,_,_,_,_=>by simp[uj]at h
 |f+1,t,ss,h,he,c1,c2,h1,h2,d,w,hd=>by
  obtain⟨d,rfl⟩:∃d',d=d'+1:=⟨d-1,by omega⟩;unfold uj at h;unfold eqT at he;have one:∀s:Sh,ss=[s]->∃x y,c1=[x]/\c2=[y]/\IG s x/\IG s y:=by
   rintro s rfl;match c1,c2,h1,h2 with
   |[x],[y],h1,h2=>exact⟨x,y,rfl,rfl,h1.1,h2.1⟩
   |[],_,h1,_=>exact h1.elim
   |_::_::_,_,h1,_=>exact h1.2.elim
   |[_],[],_,h2=>exact h2.elim
   |[_],_::_::_,_,h2=>exact h2.2.elim
  split at h
  .rename_i hu;obtain⟨x,y,rfl,rfl,l1,l2⟩:=one _ (cU h).symm;cases x<;>simp only[IG]at l1;cases y<;>simp only[IG]at l2;rename_i p q;exact⟨p == q,by simp[valOf,Bp,hu,toV,Go.run_equalIn_bool w d t p q hu],by simp⟩
  .rename_i k hu;obtain⟨x,y,rfl,rfl,l1,l2⟩:=one _ (cU h).symm;cases x<;>simp only[IG]at l1;cases y<;>simp only[IG]at l2;rename_i k1 p k2 q;have e1:k1=k:=l1;have e2:k2=k:=l2;subst e1;subst e2;exact⟨p == q,by simp[valOf,Bp,hu,toV,run_equalIn_int w d t _ _ p q hu],by simp⟩
  .rename_i hu;obtain⟨x,y,rfl,rfl,l1,l2⟩:=one _ (cU h).symm;cases x<;>simp only[IG]at l1;cases y<;>simp only[IG]at l2;rename_i p q;refine⟨p == q,?_,by simp⟩;have:=run_equalIn_string w d t ⟨p.toArray⟩ ⟨q.toArray⟩ hu;rw[ByteArray.toList_eq,ByteArray.toList_eq]at this;simpa [valOf,Bp,hu,toV]using this
  .rename_i e hu;rw[hu]at he;cases he
  .rename_i fs hu;rw[hu]at he;simp only[eI,xF]at he;split at h
   .rename_i r hr;split at h
    .obtain rfl:=cU h;have hf:P.fieldsOf t=fs:=by simp[Program.fieldsOf,hu]
     obtain⟨b,hb,hi⟩:=DU (λt ss a b c1 c2 e1 e2 d w hd=>xn f t ss a b c1 c2 e1 e2 d w hd) c1 c2 d w (by omega) fs.toList 0 _ hr he.2 (by simpa using h1) (by simpa using h2);refine⟨b,?_,by simpa using hi⟩;have:=run_equalIn_struct w d t (c1.map toV).toArray (c2.map toV).toArray (by rw[hf];exact hu) he.1;rw[hf]at this;simpa [valOf,Bp,hu]using this.trans hb
    .cases h
   .cases h
  .cases h
theorem jy{t:TypeId}{f:Nat}{ss:List Sh}(hf:f<=10000)(hs:uj P f t=some ss)(he:eqT P f t=true)(hst:Bp P t=true)(hg:P.eqGuardType P.depth t=false){c1 c2:List AV}(h1:tL ss c1)(h2:tL ss c2){b:Bool}(hb:b=true↔c1=c2):
  EqA P t c1 c2 b:=by
 intro op x y w hop;obtain⟨b',hb',hi⟩:=xn f t ss hs he c1 c2 h1 h2 10000 w hf;have e:b'=b:=by rw[<-hb]at hi;cases b<;>cases b'<;>simp_all
 subst e;simp only[valOf,hst,eV]at hb';rcases hop with rfl|rfl
 .simp only[oA,run_eqGuard_agg w _ t x y _ _ hg,lP,run_eql_struct,hb',eV]
 .simp only[oA,run_eqGuard_agg w _ t x y _ _ hg,lP,run_neq_struct,hb'];rfl
end
def Nx(m:Nat)(P:Program)[aB P](o:Oper)(s:AS)(X:AS->Prop):Prop:=rM P o s X\/((m=1/\(En P o s X\/GG P o s X))\/(m=2/\RO P o s X))
theorem go_seq{P:Program}[aB P]{x y:Code}{s:AS}{Q:Exit->AS->Prop}(h:jL P x s (uG (λs'=>jL P y s' Q) Q)):jL P (.seq x y) s Q:=by unfold jL;exact h
theorem go_then{K:AS->Prop}{Q:Exit->AS->Prop}{s:AS}(h:K s):uG K Q .normal s:=by unfold uG;exact h
theorem go_cons{P:Program}[aB P]{all r:List Oper}{o:Oper}{s:AS}{K:AS->Prop}(hg:o.guard=none)(h:Nx 1 P o s λs'=>iJ P all r s' K):iJ P all (o::r) s K:=by
 simp only[iJ,hg];rcases h with h|h
 .exact .inl h
 .rcases h with h|h
  .exact .inr h.2
  .exact absurd h.1 (by decide)
theorem gy{P:Program}[aB P]{o:Oper}{s:AS}{X:AS->Prop}(h:RU P o s X):Nx 1 P o s X:= .inr (.inl ⟨rfl,.inr ⟨s,kY.refl s,h⟩⟩)
theorem go_take{P:Program}[aB P]{all r:List Oper}{o:Oper}{s:AS}{K:AS->Prop}{j:Nat}{want:Bool}(hg:o.guard=some (j,want))(hb:nI all s j want= .bool want)(h:Nx 0 P o s λs'=>iJ P all r s' K):iJ P all (o::r) s K:=by
 simp only[iJ,hg,hb];rcases h with h|h
 .exact ⟨λ_=> .inl h,λhn=>absurd rfl hn⟩
 .rcases h with h|h<;>exact absurd h.1 (by decide)
theorem go_takeC{P:Program}[aB P]{all r:List Oper}{o:Oper}{s:AS}{K:AS->Prop}{j:Nat}{want:Bool}(hg:o.guard=some (j,want))(hb:nI all s j want= .bool want)(h:Nx 1 P o s λs'=>iJ P all r s' K):iJ P all (o::r) s K:=by
 simp only[iJ,hg,hb];rcases h with h|h
 .exact ⟨λ_=> .inl h,λhn=>absurd rfl hn⟩
 .rcases h with h|h
  .exact ⟨λ_=> .inr h.2,λhn=>absurd rfl hn⟩
  .exact absurd h.1 (by decide)
theorem go_skip{P:Program}[aB P]{all r:List Oper}{o:Oper}{s s':AS}{K:AS->Prop}{j:Nat}{want:Bool}(hg:o.guard=some (j,want))(hb:nI all s j want= .bool (!want))(h:iJ P all r s' K)(hs:∀K':AS->Prop,K' s'->K' (s.put o.dst (.iP [])):=by intro K' hK';(try simp only[AS.put,cH,cJ]);exact hK'):iJ P all (o::r) s K:=
 F6 hg hb (hs (λs=>iJ P all r s K) h)
theorem go_drawn{P:Program}[aB P]{id:Nat}{l:List Oper}{s:AS}{Q:Exit->AS->Prop}{fl:List (Nat×Nat×List AV)}{b:List aD}(hf:PN P 0 s.o.length l=fl)(hbb:s.o++(fl.map λq=>(⟨false,false,q.2.2.length,0,[]⟩:aD))=b)(hfw:GQ l=true)(hdst:distinct l=true)(hfl:XN fl b.length=true)(hb:qX Ez true fl b=b)(hb0:qX Ez false fl b=s.o++(fl.map (·.2.2.length)).map λn=>⟨true,false,n,0,[]⟩)
  (h:lS P l s.t b fl (Q .normal) 0 l [] []):jL P (.region id l.toArray true) s Q:=F4 hfw hdst hfl hb hb0 h
section
variable{P:Program}[aB P]{l:List Oper}{t:List AV}{b:List aD}{fl:List (Nat × Nat × List AV)}{K:AS -> Prop}{i:Nat}{op:Oper}{r:List Oper}{vs:List AV}{h:List (Nat × List aD)}{pr:List Nat}{m:List AV}{om:List aD}
theorem go_draw(hg:op.guard=none)(hnf:(fl.all λq=>decide (q.1≠i))=true)(hpr:pre op=pr)(hlt:(pr.all λe=>decide (e<i))=true)(hm:nM i pr 0 l vs t=m)(ho:qX (uK pr) true fl (oJ (uK pr) b h)=om)(hq:mQ op.op ⟨m,om⟩=true)
  (ha:Nx 2 P op ⟨m,om⟩ λs'=>(DN pr h=true\/s'.o.length=om.length)/\lS P l t b fl K (i+1) r (vs++[EB op s']) (if s'.o.length=om.length then h else(i,qX Ez true fl s'.o)::h)):lS P l t b fl K i (op::r) vs h:=by
 refine Im hnf hpr hlt hm ho hq ?_;unfold qL;simp only[hg];rcases ha with ha|ha
 .exact .inl ha
 .rcases ha with ha|ha
  .exact absurd ha.1 (by decide)
  .exact .inr ha.2
theorem go_drawT{j:Nat}{want:Bool}(hg:op.guard=some (j,want))(hnf:(fl.all λq=>decide (q.1≠i))=true)(hpr:pre op=pr)(hlt:(pr.all λe=>decide (e<i))=true)(hm:nM i pr 0 l vs t=m)(ho:qX (uK pr) true fl (oJ (uK pr) b h)=om)(hq:mQ op.op ⟨m,om⟩=true)(hb:nI l ⟨m,om⟩ j want= .bool want)
  (ha:Nx 2 P op ⟨m,om⟩ λs'=>(DN pr h=true\/s'.o.length=om.length)/\lS P l t b fl K (i+1) r (vs++[EB op s']) (if s'.o.length=om.length then h else(i,qX Ez true fl s'.o)::h)):lS P l t b fl K i (op::r) vs h:=by
 refine Im hnf hpr hlt hm ho hq ?_;unfold qL;simp only[hg,hb];rcases ha with ha|ha
 .exact ⟨λ_=> .inl ha,λhn=>absurd rfl hn⟩
 .rcases ha with ha|ha
  .exact absurd ha.1 (by decide)
  .exact ⟨λ_=> .inr ha.2,λhn=>absurd rfl hn⟩
theorem go_drawS{j:Nat}{want:Bool}(hg:op.guard=some (j,want))(hnf:(fl.all λq=>decide (q.1≠i))=true)(hpr:pre op=pr)(hlt:(pr.all λe=>decide (e<i))=true)(hm:nM i pr 0 l vs t=m)(ho:qX (uK pr) true fl (oJ (uK pr) b h)=om)(hds:(match op.dst with|some d=>decide (d<m.length)|none=>false)=true)(hq:mQ op.op ⟨m,om⟩=true)(hb:nI l ⟨m,om⟩ j want= .bool (!want))
  (ha:lS P l t b fl K (i+1) r (vs++[.iP []]) h):lS P l t b fl K i (op::r) vs h:=by
 refine Im hnf hpr hlt hm ho hq ?_;unfold qL;simp only[hg,hb];refine⟨λhn=> ?_,λ_=> ?_⟩
 .cases want<;>cases hn
 .rw [put_eq];refine⟨.inr rfl,?_⟩;rw[eW rfl];have:EB op ⟨rR m op.dst (.iP []),om⟩= .iP []:=by
   unfold EB rR;cases hd:op.dst with
   |none=>rw[hd]at hds;cases hds
   |some d=>
    rw[hd]at hds;have hdl:d<m.length:=by simpa using hds
    dsimp only;rw[hY,lR hdl];rfl
  rw[this];exact ha
theorem go_barC{z:List Nat}{s1:AS}(hr:wH l i=true)(hz:sH l i=z)(hk:K s1)(ha:Ci (λz=>yK P l (λs'=>s'=s1) (left ((range l.length).map (jz i z))) ((range l.length).map (jz i z)) ⟨gM (jz i z) 0 l vs t,qX (jz i z) false fl (oJ (jz i z) b h)⟩) [] z:=by
  repeat' (first|refine st ?_|(refine nx ?_;refine so ?_)|refine sx ?_ ?_|refine sy ?_ ?_|fail)
  all_goals rfl):lS P l t b fl K i (op::r) vs h:=Dc hr hz ha hk
theorem go_float{q:Nat×Nat×List AV}{T:TypeId}{vs':List AV}(hq:fl.find? (λq=>q.1 == i)=some q)(hg:op.guard=none)(hT:op.op= .alloc T)(hz:nW P T=some q.2.2)(hlt:((pre op).all λe=>decide (e<i))=true)(hv:vs++[.ptr q.2.1 1 0 0]=vs')(hd:lS P l t b fl K (i+1) r vs' h):lS P l t b fl K i (op::r) vs h:=by subst hv;exact XP hq hg hT hz hlt hd
theorem go_next{vs':List AV}{h':List (Nat×List aD)}{c:Prop}(hc:c)(hv:vs=vs')(hh:h=h')(hd:lS P l t b fl K i r vs' h'):c/\lS P l t b fl K i r vs h:=by subst hv;subst hh;exact⟨hc,hd⟩
theorem kB{F:List Nat->Prop}{acc:List Nat}(h:Ci F acc []):Ci F acc []:=h
theorem kE{n:Nat}{d:List Bool}{s:AS}(h:yK P l K n d s):yK P l K n d s:=h
theorem kF{n:Nat}{d:List Bool}{s:AS}{j:Nat}(h:uU P l K n d s [j]):uU P l K n d s [j]:=h
theorem kD(hd:lS P l t b fl K i r vs h):lS P l t b fl K i r vs h:=hd
theorem kN{c:Prop}(hd:c/\lS P l t b fl K i r vs h):c/\lS P l t b fl K i r vs h:=hd
end
attribute [irreducible] Nx
theorem kL{P:Program}[aB P]{all l:List Oper}{s:AS}{K:AS->Prop}(h:iJ P all l s K):iJ P all l s K:=h
theorem kA{P:Program}[aB P]{c:Code}{s:AS}{Q:Exit->AS->Prop}(h:jL P c s Q):jL P c s Q:=h
theorem kT{K:AS->Prop}{Q:Exit->AS->Prop}{e:Exit}{s:AS}(h:uG K Q e s):uG K Q e s:=h
theorem kI{id:Nat}{Q:Exit->AS->Prop}{e:Exit}{s:AS}(h:bz id Q e s):bz id Q e s:=h
structure Hid(q:Prop): Prop where
  out:q
theorem st{p q:Prop}(h:q)(e:Hid q->p:=by
 intro h
 (first
  |(refine kL ?_;first
    |refine Pn ?_
    |refine go_cons rfl ?_
    |(refine go_take rfl ?_ ?_;(focus (simp[nI,W];done)))
    |(refine go_skip rfl ?_ ?_;(focus (simp[nI,W];done))))
  |(refine kA ?_;first
    |refine go_seq ?_|refine Po ?_|refine ui ?_|refine TK ?_|refine Xm ?_|refine Xn ?_|refine go_drawn (by simp;rfl) (by simp;rfl) (by decide+kernel) (by decide) (by first|rfl|(simp[XN];done)) (by simp) (by simp) ?_)
  |(refine kT ?_;first|refine go_then ?_|refine JE ?_|refine GH ?_)
  |(refine kI ?_;first|refine GI ?_|refine Ps ?_|refine TL ?_|refine TM (by decide) ?_)
  |(refine kN ?_;refine go_next (by simp;done) (by simp;rfl) (by simp;rfl) ?_)
  |(refine kD ?_;first
    |refine Uc (by simp;rfl) (by simp;rfl) ?_
    |refine go_float rfl rfl rfl (by simp;done) (by first|rfl|(simp[Region.binds];done)) (by simp;rfl) ?_
    |(refine go_draw rfl (by first|rfl|(simp;done)) (by simp[Region.binds];rfl) (by decide) (by simp[Region.binds];rfl) (by simp;rfl) ?_ ?_;(focus (first|rfl|(simp[mQ];done))))
    |(refine go_drawT rfl (by first|rfl|(simp;done)) (by simp[Region.binds];rfl) (by decide) (by simp[Region.binds];rfl) (by simp;rfl) ?_ ?_ ?_;(focus (first|rfl|(simp[mQ];done)));(focus (simp[nI,W];done)))
    |(refine go_drawS rfl (by first|rfl|(simp;done)) (by simp[Region.binds];rfl) (by decide) (by simp[Region.binds];rfl) (by simp;rfl) ?_ ?_ ?_ ?_;(focus (first|rfl|(simp;done)));(focus (first|rfl|(simp[mQ];done)));(focus (simp[nI,W];done)))
    |refine Ud (by decide+kernel) (by simp;rfl) (by simp;rfl) ?_
    |refine go_barC (by decide+kernel) (by simp[sH,reach,lZ,Region.binds,CD];rfl) ?_
    |refine LA (by decide+kernel) (by simp[sH,reach,lZ,Region.binds,CD];rfl) ?_)
  |(refine kB ?_;refine go_sub (by simp;rfl) (by simp;rfl) (by simp;rfl) (by simp;rfl) ?_)
  |(refine kE ?_;first|refine go_end ?_|refine go_all (by simp[Region.binds];rfl) ?_)
  |(refine kF ?_;refine go_one rfl (by simp only[cH,cJ];rfl) ?_))
 repeat (first
  |(refine kL ?_;first
    |refine Pn ?_
    |refine go_cons rfl ?_
    |(refine go_take rfl ?_ ?_;(focus (simp[nI,W];done)))
    |(refine go_skip rfl ?_ ?_;(focus (simp[nI,W];done))))
  |(refine kA ?_;first
    |refine go_seq ?_|refine Po ?_|refine ui ?_|refine TK ?_|refine Xm ?_|refine Xn ?_|refine go_drawn (by simp;rfl) (by simp;rfl) (by decide+kernel) (by decide) (by first|rfl|(simp[XN];done)) (by simp) (by simp) ?_)
  |(refine kT ?_;first|refine go_then ?_|refine JE ?_|refine GH ?_)
  |(refine kI ?_;first|refine GI ?_|refine Ps ?_|refine TL ?_|refine TM (by decide) ?_)
  |(refine kN ?_;refine go_next (by simp;done) (by simp;rfl) (by simp;rfl) ?_)
  |(refine kD ?_;first
    |refine Uc (by simp;rfl) (by simp;rfl) ?_
    |refine go_float rfl rfl rfl (by simp;done) (by first|rfl|(simp[Region.binds];done)) (by simp;rfl) ?_
    |(refine go_draw rfl (by first|rfl|(simp;done)) (by simp[Region.binds];rfl) (by decide) (by simp[Region.binds];rfl) (by simp;rfl) ?_ ?_;(focus (first|rfl|(simp[mQ];done))))
    |(refine go_drawT rfl (by first|rfl|(simp;done)) (by simp[Region.binds];rfl) (by decide) (by simp[Region.binds];rfl) (by simp;rfl) ?_ ?_ ?_;(focus (first|rfl|(simp[mQ];done)));(focus (simp[nI,W];done)))
    |(refine go_drawS rfl (by first|rfl|(simp;done)) (by simp[Region.binds];rfl) (by decide) (by simp[Region.binds];rfl) (by simp;rfl) ?_ ?_ ?_ ?_;(focus (first|rfl|(simp;done)));(focus (first|rfl|(simp[mQ];done)));(focus (simp[nI,W];done)))
    |refine Ud (by decide+kernel) (by simp;rfl) (by simp;rfl) ?_
    |refine go_barC (by decide+kernel) (by simp[sH,reach,lZ,Region.binds,CD];rfl) ?_
    |refine LA (by decide+kernel) (by simp[sH,reach,lZ,Region.binds,CD];rfl) ?_)
  |(refine kB ?_;refine go_sub (by simp;rfl) (by simp;rfl) (by simp;rfl) (by simp;rfl) ?_)
  |(refine kE ?_;first|refine go_end ?_|refine go_all (by simp[Region.binds];rfl) ?_)
  |(refine kF ?_;refine go_one rfl (by simp only[cH,cJ];rfl) ?_))
 exact h.out):p:=e ⟨h⟩
theorem so{P:Program}[aB P]{o:Oper}{s s':AS}{X:AS -> Prop}{m:Nat}(h:X s')(e:∀ K:AS -> Prop, K s' -> rM P o s K := by
  intro K hK;first
    | (simp[-Bool.exists_bool, rM, W]
       (try simp (disch := omega) only[wrap64])
       first
         | exact hK
         | (refine⟨_, by assumption, ?_⟩; (try simp only[aJ, aH, eU, bS, eQ, bQ, eZ, bR, eC, cY, cW, dT, eR, rS, lO, Nat.reduceAdd]); exact hK)
         | (refine⟨?_, hK⟩; omega)
         | (refine⟨?_, ?_, hK⟩ <;> omega)
         | (refine⟨?_, ?_, ?_, hK⟩ <;> omega))
    | (simp[-Bool.exists_bool, rM, V]
       (try simp (disch := omega) only[wrap64])
       first
         | exact hK
         | (refine⟨_, by assumption, ?_⟩; (try simp only[aJ, aH, eU, bS, eQ, bQ, eZ, bR, eC, cY, cW, dT, eR, rS, lO, Nat.reduceAdd]); exact hK)
         | (refine⟨?_, hK⟩; omega)
         | (refine⟨?_, ?_, hK⟩ <;> omega)
         | (refine⟨?_, ?_, ?_, hK⟩ <;> omega))): Nx m P o s X := by
  unfold Nx; exact .inl (e X h)
theorem sk{P:Program}[aB P]{o:Oper}{s s':AS}{X:AS->Prop}{m:Nat}{H:Prop}(e:∀K:AS->Prop,H->K s'->rM P o s K:=by
 intro K hc hK;first
  |(simp[-Bool.exists_bool,rM,W];refine⟨_,hc,?_⟩;(try simp only[aJ,aH,eU,bS,eQ,bQ,eZ,bR,eC,cY,cW,dT,eR,rS,lO,Nat.reduceAdd]);exact hK)
  |(simp[-Bool.exists_bool,rM,V];refine⟨_,hc,?_⟩;(try simp only[aJ,aH,eU,bS,eQ,bQ,eZ,bR,eC,cY,cW,dT,eR,rS,lO,Nat.reduceAdd]);exact hK))(hc:H)(h:X s'):Nx m P o s X:=by
 unfold Nx;exact .inl (e X hc h)
theorem sm{P:Program}[aB P]{o:Oper}{s s':AS}{X:AS->Prop}{H:Prop}(e:∀K:AS->Prop,H->K s'->En P o s K:=by
 intro K hc hK;refine aBc ?_;simp[-Bool.exists_bool,JB,W];refine⟨_,_,hc,?_⟩;simp[-Bool.exists_bool,AS.Oj,Nw,aD.aGh,aD.forget,Bc,Cc,Go.Aw.mt,Go.Aw.mtc,W];exact hK)(hc:H)(h:X s'):Nx 1 P o s X:=by
 unfold Nx;exact .inr (.inl ⟨rfl,.inl (e X hc h)⟩)
theorem sg{P:Program}[aB P]{o:Oper}{s s':AS}{X:AS->Prop}{H:Prop}(e:∀K:AS->Prop,H->K s'->En P o s K:=by
 intro K hc hK;refine aKz ?_;simp[-Bool.exists_bool,Xl,W];refine⟨_,_,hc,?_⟩;simp[-Bool.exists_bool,takes,handed,aGl,TC,rowOf,iN,jF,Pb,Pd,gP,lM,res,rC,AV.isObj,AS.given,Ia,BJ,DK,aD.uf,aD.forget,rt,qD,iI,gU,AV.kept,W];exact hK)(hc:H)(h:X s'):Nx 1 P o s X:=by
 unfold Nx;exact .inr (.inl ⟨rfl,.inl (e X hc h)⟩)
theorem sz{P:Program}[aB P]{o:Oper}{s s':AS}{X:AS->Prop}(h:X s')(e:∀K:AS->Prop,K s'->En P o s K:=by
 intro K hK;refine aK0 ?_;simp[-Bool.exists_bool,aKu,rM,iI,qD,rt,aD.kill,W];exact hK):Nx 1 P o s X:=by
 unfold Nx;exact .inr (.inl ⟨rfl,.inl (e X h)⟩)
theorem sw{P:Program}[aB P]{o:Oper}{s s1:AS}{X:AS->Prop}(hw:kY s s1)(h:Nx 1 P o s1 X):Nx 1 P o s X:=by
 unfold Nx at h⊢;rcases h with h|h
 .exact .inr (.inl ⟨rfl,.inl (aBd hw (.inl h))⟩)
 .rcases h with h|h
  .rcases h.2 with h2|⟨s2,hw2,h2⟩
   .exact .inr (.inl ⟨rfl,.inl (aBd hw (.inr h2))⟩)
   .exact .inr (.inl ⟨rfl,.inr ⟨s2,hw.trans hw2,h2⟩⟩)
  .exact absurd h.1 (by decide)
theorem sb{P:Program}[aB P]{o:Oper}{s s':AS}{X:AS->Prop}(h:X s')(e:∀K:AS->Prop,K s'->En P o s K:=by
 intro K hK;refine aBc ?_;simp[-Bool.exists_bool,JB,AS.made,W];first
  |exact hK
  |(refine⟨?_,hK⟩;omega)):Nx 1 P o s X:=by
 unfold Nx;exact .inr (.inl ⟨rfl,.inl (e X h)⟩)
theorem se{P:Program}[aB P]{o:Oper}{s s':AS}{X:AS->Prop}(h:X s')(e:∀K:AS->Prop,K s'->RO P o s K:=by
 intro K hK;simp[RO];exact hK):Nx 2 P o s X:=by
 unfold Nx;exact .inr (.inr ⟨rfl,e X h⟩)
theorem sc{P:Program}[aB P]{c:Operand}{x y:Code}{s:AS}{Q:Exit->AS->Prop}{b:Bool}{p1 p2:Prop}(h1:p1->jL P x s Q)(h2:p2->jL P y s Q)(hc:s.ev c= .bool b:=by rfl)
  (e1:b=true->p1:=by
   intro h;first|(refine(?_:False);simp at h;done)|(refine(?_:False);(try simp at h);omega;done)|(simp at h;exact h)|exact h)
  (e2:b=false->p2:=by
   intro h;first|(refine(?_:False);simp at h;done)|(refine(?_:False);(try simp at h);omega;done)|(simp at h;exact h)|exact h):jL P (.cond c x y) s Q:=
 Pq hc (λh=>h1 (e1 h)) (λh=>h2 (e2 h))
theorem sp{P:Program}[aB P]{all r:List Oper}{o:Oper}{s:AS}{K:AS->Prop}{j d:Nat}{want b:Bool}{s1 s2:AS}{p1 p2:Prop}(h1:p1->iJ P all (o::r) s1 K)(h2:p2->iJ P all (o::r) s2 K)(hg:o.guard=some (j,want):=by rfl)(hd:(all[j]?).bind (·.dst)=some d:=by rfl)(hb:s.t[d]? =some (.bool b):=by rfl)(hx:(b=true)=(b=true):=by(fail_if_success (with_reducible refine Eq.refl (true=true)));(fail_if_success (with_reducible refine Eq.refl (false=true)));rfl)
  (e1:∀K':AS->Prop,K' s1->K' ⟨s.t.set d (.bool true),s.o⟩:=by intro K' hK';(try simp only[cH,cJ]);exact hK')
  (e2:∀K':AS->Prop,K' s2->K' ⟨s.t.set d (.bool false),s.o⟩:=by intro K' hK';(try simp only[cH,cJ]);exact hK')
  (e3:b=true->p1:=by
   intro h;first|(refine(?_:False);simp at h;done)|(refine(?_:False);(try simp at h);omega;done)|(simp at h;exact h)|exact h)
  (e4:b=false->p2:=by
   intro h;first|(refine(?_:False);simp at h;done)|(refine(?_:False);(try simp at h);omega;done)|(simp at h;exact h)|exact h):iJ P all (o::r) s K:=
 gm hg hd hb (λh=>e1 (λs=>iJ P all (o::r) s K) (h1 (e3 h))) (λh=>e2 (λs=>iJ P all (o::r) s K) (h2 (e4 h)))
theorem nx{m:Nat}{P:Program}[aB P]{o:Oper}{s:AS}{X:AS->Prop}(h:Nx m P o s X):Nx m P o s X:=h
theorem cx{P:Program}[aB P]{c:Operand}{x y:Code}{s:AS}{Q:Exit->AS->Prop}(h:jL P (.cond c x y) s Q):jL P (.cond c x y) s Q:=h
theorem lx{P:Program}[aB P]{all r:List Oper}{o:Oper}{s:AS}{K:AS->Prop}(h:iJ P all (o::r) s K):iJ P all (o::r) s K:=h
theorem dL{P:Program}[aB P](hm:P.follows .mixedOrders=true){f:FuncId}{fn:Func}{c:Code}(hf:P.funcs[f]? =some fn){n:Nat}(hn:fn.ntmps=n){args t:List AV}{rr:AV}
  (h:jL P c ⟨t,[]⟩ (λe s=>(e= .normal\/e= .ret)/\aX P fn s rr)) (hb:fn.body=some c:=by rfl)
  (ht:args++replicate (n-args.length) .undef=t:=by
   simp only[dT,eR,Nat.reduceSub,Nat.reduceAdd,mS,rL,cW,cY];rfl):Ok P f args rr:=by
 subst ht;subst hn;exact FL hm hf hb h
attribute [simp] bytesOf
theorem sT{P:Program}[aB P]{c:Operand}{x y:Code}{s:AS}{Q:Exit->AS->Prop}{b:Bool}(h1:jL P x s Q)(hc:s.ev c= .bool b:=by rfl)
  (e2:b=false->False:=by intro h;first|(simp at h;done)|((try simp at h);omega;done)):jL P (.cond c x y) s Q:=
 Pq hc (λ_=>h1) (λh=>(e2 h).elim)
theorem sF{P:Program}[aB P]{c:Operand}{x y:Code}{s:AS}{Q:Exit->AS->Prop}{b:Bool}(h2:jL P y s Q)(hc:s.ev c= .bool b:=by rfl)
  (e1:b=true->False:=by intro h;first|(simp at h;done)|((try simp at h);omega;done)):jL P (.cond c x y) s Q:=
 Pq hc (λh=>(e1 h).elim) (λ_=>h2)
theorem wl{p q:Prop}(h:q)(e:Hid q->p:=by
 intro h;first|refine st ?_|(refine nx ?_;refine so ?_)|(refine cx ?_;first|refine sT ?_|refine sF ?_|(refine sc (λhc=> ?_) (λhc=> ?_)<;>try exact hc.elim))|(refine lx ?_;refine sp (λhc=> ?_) (λhc=> ?_)<;>try exact hc.elim)|refine sx ?_ ?_|refine sy ?_ ?_|fail
 repeat' first|refine st ?_|(refine nx ?_;refine so ?_)|(refine cx ?_;first|refine sT ?_|refine sF ?_|(refine sc (λhc=> ?_) (λhc=> ?_)<;>try exact hc.elim))|(refine lx ?_;refine sp (λhc=> ?_) (λhc=> ?_)<;>try exact hc.elim)|refine sx ?_ ?_|refine sy ?_ ?_|fail
 all_goals exact h.out):p:=e ⟨h⟩
theorem we{p q:Prop}(h:q)(e:Hid q->p:=by
 intro h;first|refine st ?_|(refine nx ?_;first|refine se ?_|refine so ?_)|(refine cx ?_;first|refine sT ?_|refine sF ?_|(refine sc (λhc=> ?_) (λhc=> ?_)<;>try exact hc.elim))|(refine lx ?_;refine sp (λhc=> ?_) (λhc=> ?_)<;>try exact hc.elim)|refine sx ?_ ?_|refine sy ?_ ?_|fail
 repeat' first|refine st ?_|(refine nx ?_;first|refine se ?_|refine so ?_)|(refine cx ?_;first|refine sT ?_|refine sF ?_|(refine sc (λhc=> ?_) (λhc=> ?_)<;>try exact hc.elim))|(refine lx ?_;refine sp (λhc=> ?_) (λhc=> ?_)<;>try exact hc.elim)|refine sx ?_ ?_|refine sy ?_ ?_|fail
 all_goals exact h.out):p:=e ⟨h⟩
theorem sq{p p1 p2 q1 q2:Prop}(h1:p1->q1)(h2:p2->q2)(e:Hid (p1->q1)->Hid (p2->q2)->p:=by
 intro h1 h2;first
  |(refine cx ?_;refine sc h1.out h2.out)
  |(refine lx ?_;refine sp h1.out h2.out)
  |refine sx (h1.out trivial) (h2.out trivial)
  |refine sy (h1.out trivial) (h2.out trivial)
  |fail):p:=e ⟨h1⟩ ⟨h2⟩
theorem wg{p q:Prop}(h:q)(e:Hid q->p:=by
 intro h;first|refine st ?_|(refine nx ?_;refine so ?_)|(refine cx ?_;first|refine sT ?_|refine sF ?_)|fail
 repeat first|refine st ?_|(refine nx ?_;refine so ?_)|(refine cx ?_;first|refine sT ?_|refine sF ?_)|fail
 exact h.out):p:=e ⟨h⟩
theorem wf{p q:Prop}(h:q)(e:Hid q->p:=by
 intro h;first|refine st ?_|(refine nx ?_;first|refine se ?_|refine so ?_)|(refine cx ?_;first|refine sT ?_|refine sF ?_)|fail
 repeat first|refine st ?_|(refine nx ?_;first|refine se ?_|refine so ?_)|(refine cx ?_;first|refine sT ?_|refine sF ?_)|fail
 exact h.out):p:=e ⟨h⟩
theorem oU{p q:Prop}(h:q)(e:Hid q->True->p:=by
 intro h W;first|refine st ?_|(refine nx ?_;refine so ?_)|(refine cx ?_;first|refine sT ?_|refine sF ?_|(refine sc (λhc=> ?_) (λhc=> ?_)<;>try exact hc.elim))|(refine lx ?_;refine sp (λhc=> ?_) (λhc=> ?_)<;>try exact hc.elim)|refine sx ?_ ?_|refine sy ?_ ?_|fail
 repeat' first|refine st ?_|(refine nx ?_;refine so ?_)|(refine cx ?_;first|refine sT ?_|refine sF ?_|(refine sc (λhc=> ?_) (λhc=> ?_)<;>try exact hc.elim))|(refine lx ?_;refine sp (λhc=> ?_) (λhc=> ?_)<;>try exact hc.elim)|refine sx ?_ ?_|refine sy ?_ ?_|fail
 all_goals exact h.out):p:=e ⟨h⟩ trivial
theorem dH{p q:Prop}(h:q)(e:Hid q->True->p:=by
 intro h W;first|refine st ?_|(refine nx ?_;first|refine se ?_|refine so ?_)|(refine cx ?_;first|refine sT ?_|refine sF ?_|(refine sc (λhc=> ?_) (λhc=> ?_)<;>try exact hc.elim))|(refine lx ?_;refine sp (λhc=> ?_) (λhc=> ?_)<;>try exact hc.elim)|refine sx ?_ ?_|refine sy ?_ ?_|fail
 repeat' first|refine st ?_|(refine nx ?_;first|refine se ?_|refine so ?_)|(refine cx ?_;first|refine sT ?_|refine sF ?_|(refine sc (λhc=> ?_) (λhc=> ?_)<;>try exact hc.elim))|(refine lx ?_;refine sp (λhc=> ?_) (λhc=> ?_)<;>try exact hc.elim)|refine sx ?_ ?_|refine sy ?_ ?_|fail
 all_goals exact h.out):p:=e ⟨h⟩ trivial
theorem aZ{q:Prop}(h:q):(Exit.ret= .normal\/Exit.ret= .ret)/\q:=⟨.inr rfl,h⟩
theorem aR{P:Program}{fn:Func}{s:AS}{r:AV}{x:Array ResultVar}(hr:fn.results=x)(e:fn.results=x->aX P fn s r:=by intro hr;simp[aX,hr]):(Exit.ret= .normal\/Exit.ret= .ret)/\aX P fn s r:=⟨.inr rfl,e hr⟩
def gz(q:List Nat)(o:Oper):Oper:=
 {o with after:=o.after.map (λe=>{e with on:=q.getD e.on e.on}),guard:=o.guard.map λg=>(q.getD g.1 g.1,g.2)}
def qN(p q:List Nat)(l:List Oper):List Oper:=p.filterMap λi=>(l[i]?).map (gz q)
def JO(p q:List Nat)(n:Nat):Bool:=
 p.length == n&&q.length == n&&((range n).all λk=>decide (p.getD k n<n)&&q.getD (p.getD k n) n == k)&&((range n).all λi=>decide (q.getD i n<n)&&p.getD (q.getD i n) n == i)
theorem Uh(p q:List Nat)(l:List Oper)(h:∀i∈p,i<l.length)(k:Nat):(qN p q l)[k]? =(p[k]?).bind λi=>(l[i]?).map (gz q):=by
 induction p generalizing k with
 |nil=>simp[qN]
 |cons i p ih=>
  have hi:=h i (by simp);have e:qN (i::p) q l=gz q l[i]::qN p q l:=by simp[qN,hi]
  rw[e];cases k with
  |zero=>simp[hi]
  |succ k=>simpa using ih (λj hj=>h j (by simp[hj])) k
theorem aLj(q:List Nat)(o:Oper)(P:Program)(a:Act)(w:World)(K:Act->World->Prop)(Q:Exit->Act->World->Prop):(gz q o).wp P a w K Q=o.wp P a w K Q:=by obtain⟨dst,op,ty,pos,after,gd⟩:=o;rfl
theorem aCu(q:List Nat)(o:Oper)(P:Program)(a:Act)(w:World):(gz q o).asks P a w=o.asks P a w:=by obtain⟨dst,op,ty,pos,after,gd⟩:=o;rfl
theorem zP{md:Region.Mode}{ops:Array Oper}{L:Array Bool}{i:Nat}:i∈Region.ready md ops L↔i<ops.size/\L.getD i true=false/\∃o,ops[i]? =some o/\∀e∈o.after.toList,Region.binds md e=true->L.getD e.on false=true:=by
 unfold Region.ready;rw[BT,mem_range];simp only[eI,xF];refine⟨λ⟨h1,h2,h3⟩=>⟨h1,h2,?_⟩,λ⟨h1,h2,o,ho,h3⟩=>⟨h1,h2,?_⟩⟩
 .rw [pN h1]at h3⊢;refine⟨_,rfl,λe he hb=> ?_⟩;simp only[mA,pA]at h3;have:=Array.all_eq_true_iff_forall_mem.1 h3 e (by simpa using he);simpa [hb]using this
 .rw [ho];simp only[mA,pA];refine Array.all_eq_true_iff_forall_mem.2 λe he=> ?_
  cases hb:Region.binds md e with
  |false=>simp
  |true=>simpa using h3 e (by simpa using he) hb
section
variable{P:Program}{p q:List Nat}{l:List Oper}{Q:Exit -> Act -> World -> Prop}
structure ib(p q:List Nat)(n:Nat): Prop where
  pl:p.length = n
  ql:q.length = n
  pq:∀ k, k<n -> p.getD k n<n /\ q.getD (p.getD k n) n = k
  qp:∀ i, i<n -> q.getD i n<n /\ p.getD (q.getD i n) n = i
theorem F7{n:Nat}(h:JO p q n=true):ib p q n:=by simp only[JO,eI,CA,fW,mem_range,fX]at h;exact⟨h.1.1.1,h.1.1.2,h.1.2,h.2⟩
theorem JP(h:ib p q l.length):(qN p q l).length=l.length:=by
 have hp:∀i∈p,i<l.length:=by intro i hi;obtain⟨k,hk,rfl⟩:=DQ hi;have:=(h.pq k (by rw[<-h.pl];exact hk)).1;simpa [getD,hk]using this
 have:∀k,k<p.length->(qN p q l)[k]?≠none:=by intro k hk;rw[Uh p q l hp k,aE hk];simp[hp _ (hI hk)]
 have h2:(qN p q l).length<=p.length:=by unfold qN;exact length_filterMap_le _ _
 have h3:p.length<=(qN p q l).length:=by
  rcases tA (qN p q l).length p.length with hlt|hge
  .exact absurd (pP (eE _)) (this _ hlt)
  .exact hge
 rw[<-h.pl];omega
theorem ic(h:ib p q l.length):∀(fuel:Nat) (L L':Array Bool) (a:Act) (w:World),L.size=l.length->L'.size=l.length->(∀i,i<l.length->L'[q.getD i l.length]? =L[i]?)->
  wpAny P .any (qN p q l).toArray Q fuel L' a w->wpAny P .any l.toArray Q fuel L a w:=by
 have hp:∀i∈p,i<l.length:=by intro i hi;obtain⟨k,hk,rfl⟩:=DQ hi;have:=(h.pq k (by rw[<-h.pl];exact hk)).1;simpa [getD,hk]using this
 have hlen:(qN p q l).length=l.length:=JP h;have hq:∀i,i<l.length->(qN p q l)[q.getD i l.length]? =(l[i]?).map (gz q):=by
  intro i hi;obtain⟨h1,h2⟩:=h.qp i hi;rw[Uh p q l hp];have hk:q.getD i l.length<p.length:=by rw[h.pl];exact h1
  rw[aE hk];have:p[q.getD i l.length]=i:=by have e:=h2;rw[hY (l:=p),aE hk]at e;simpa only[pA]using e
  rw[this];rfl
 have hsz:(qN p q l).toArray.size=l.toArray.size:=by simpa using hlen
 have rd:∀(L L':Array Bool),L.size=l.length->L'.size=l.length->(∀i,i<l.length->L'[q.getD i l.length]? =L[i]?)->∀i,i<l.length->
   (q.getD i l.length∈Region.ready .any (qN p q l).toArray L'↔i∈Region.ready .any l.toArray L):=by
  intro L L' hL hL' hLL i hi;have aO3:∀(n:Nat),L'.getD (q.getD n n) false=L.getD n false:=by
   intro n;rcases tA n l.length with hn|hn
   .have e:q.getD n n=q.getD n l.length:=by
     have:n<q.length:=by rw[h.ql];exact hn
     simp[getD,this]
    rw[e,eN,eN,hLL n hn]
   .have e:q.getD n n=n:=by
     have:q.length<=n:=by rw[h.ql];exact hn
     simp[getD,pP this]
    rw[e,eN,eN,tE (by omega),tE (by omega)]
  have h1:=(h.qp i hi).1;rw[zP,zP];have hb:(L'.getD (q.getD i l.length) true=false)↔(L.getD i true=false):=by rw[eN,eN,hLL i hi]
  have ho:(qN p q l).toArray[q.getD i l.length]? =some (gz q l[i]):=by have:=hq i hi;rw[aE hi]at this;simpa using this
  have WV:l.toArray[i]? =some l[i]:=by simp[hi]
  refine⟨λ⟨_,k2,o,k3,k4⟩=>⟨by simpa using hi,hb.1 k2,l[i],WV,λe he hbe=> ?_⟩,λ⟨_,k2,o,k3,k4⟩=>⟨by rw[hsz];simpa using h1,hb.2 k2,gz q l[i],ho,λe he hbe=> ?_⟩⟩
  .obtain rfl:=cU (ho.symm.trans k3);rw[<-aO3];refine k4 {e with on:=q.getD e.on e.on} ?_ hbe;simp only[gz,An,qS];exact⟨e,he,rfl⟩
  .obtain rfl:=cU (WV.symm.trans k3);simp only[gz,An,qS]at he;obtain⟨e0,he0,rfl⟩:=he;rw[aO3];exact k4 e0 he0 hbe
 have rd2:∀(L L':Array Bool),L.size=l.length->L'.size=l.length->(∀i,i<l.length->L'[q.getD i l.length]? =L[i]?)->Region.ready .any l.toArray L=[]->Region.ready .any (qN p q l).toArray L'=[]:=by
  intro L L' hL hL' hLL he;refine rI.2 λk hk=> ?_
  have hkl:k<l.length:=by have:=(zP.1 hk).1;rw[hsz]at this;simpa using this
  obtain⟨h1,h2⟩:=h.pq k hkl;have:=(rd L L' hL hL' hLL _ h1).1 (by rw[h2];exact hk);rw[he]at this;cases this
 have yl:∀(tm:Array Value) (j:Nat),yielded (qN p q l).toArray tm (q.getD j j)=yielded l.toArray tm j:=by
  intro tm j;unfold yielded;have:((qN p q l).toArray[q.getD j j]?).bind (·.dst)=(l.toArray[j]?).bind (·.dst):=by
   rcases tA j l.length with hj|hj
   .have e:q.getD j j=q.getD j l.length:=by
     have:j<q.length:=by rw[h.ql];exact hj
     simp[getD,this]
    have h3:=hq j hj;rw[aE hj]at h3;rw[e,Bk,Bk,h3,aE hj];rfl
   .have e:q.getD j j=j:=by
     have:q.length<=j:=by rw[h.ql];exact hj
     simp[getD,pP this]
    rw[e];rw[tE (by rw[hsz];simpa using hj),tE (by simpa using hj)]
  rw[this]
 have op:∀(K K':Act->World->Prop) (i:Nat) (a:Act) (w:World),i<l.length->(∀a w,K' a w->K a w)->wpOp P (qN p q l).toArray Q (q.getD i l.length) K' a w->wpOp P l.toArray Q i K a w:=by
  intro K K' i a w hi hK hw;have ho:(qN p q l).toArray[q.getD i l.length]? =some (gz q l[i]):=by have:=hq i hi;rw[aE hi]at this;simpa using this
  have WV:l.toArray[i]? =some l[i]:=by simp[hi]
  unfold wpOp at hw⊢;rw[ho]at hw;rw[WV];dsimp only at hw⊢;have hwt:Region.wanted (gz q l[i]) (yielded (qN p q l).toArray a.tmps)=Region.wanted l[i] (yielded l.toArray a.tmps):=by
   unfold Region.wanted;cases hg:l[i].guard with
   |none=>simp[gz,hg]
   |some g=>have e:=yl a.tmps g.1;simp only[gz,hg,mA];rw[e]
  rw[hwt,aLj,aCu]at hw;split
  .rename_i hc;rw[eW hc]at hw;exact hw.imp (Oper.wp_mono hK) id
  .rename_i hc;rw[eK hc]at hw;exact hK _ _ hw
 intro fuel;induction fuel with
 |zero=>
  intro L L' a w hL hL' hLL hh;simp only[wpAny]at hh⊢;refine⟨rI.2 λi hi=> ?_,hh.2⟩;have hil:i<l.length:=by simpa using(zP.1 hi).1
  have:=(rd L L' hL hL' hLL i hil).2 hi;rw[hh.1]at this;cases this
 |succ fuel ih=>
  intro L L' a w hL hL' hLL hh;simp only[wpAny]at hh⊢;refine⟨λhe=>hh.1 (rd2 L L' hL hL' hLL he),λi hi=> ?_⟩;have hil:i<l.length:=by simpa using(zP.1 hi).1
  have h1:=hh.2 _ ((rd L L' hL hL' hLL i hil).2 hi);refine op _ _ i a w hil (λa w hk=>ih _ _ a w (by simpa using hL) (by simpa using hL') (λj hj=> ?_) hk) h1;have hqi:=(h.qp i hil).1;rw[rK,rK];by_cases e:i=j
  .subst e;rw[eW rfl,eW rfl,eW (by omega),eW (by omega)]
  .have:q.getD i l.length≠q.getD j l.length:=λe2=>e (by rw[<-(h.qp i hil).2,<-(h.qp j hj).2,e2])
   rw[eK this,eK e];exact hLL j hj
end
theorem XT{P:Program}[aB P]{p q:List Nat}{l:List Oper}{s:AS}{K:AS->Prop}(h:JO p q l.length=true)(hd:CU P (qN p q l).toArray s K):CU P l.toArray s K:=by
 intro B a w Q hr hk;have hp:=F7 h;have h1:=hd B a w Q hr hk;have hsz:(qN p q l).toArray.size=l.length:=by simpa using JP hp
 rw[hsz]at h1;have:l.toArray.size=l.length:=by simp
 rw[this];refine ic hp l.length _ _ a _ (by simp) (by simp) (λi hi=> ?_) h1;have:=(hp.qp i hi).1;rw[sR,eW this,sR,eW hi]
def tF(f:Nat->Option (List Nat×List Nat)):Code->Code
 | .region id ops true=>match f id with
  |some (p,q)=>if JO p q ops.toList.length then .region id (qN p q ops.toList).toArray true else .region id ops true
  |none=> .region id ops true
 | .seq x y=> .seq (tF f x) (tF f y)
 | .cond c x y=> .cond c (tF f x) (tF f y)
 | .block id c=> .block id (tF f c)
 | .loop c=> .loop (tF f c)
 |c=>c
theorem ig{P:Program}[aB P]{ops:Array Oper}{s:AS}{K1 K2:AS->Prop}(hk:∀s,K1 s->K2 s)(h:CU P ops s K1):CU P ops s K2:=
 λB a w Q hr hq=>h B a w Q hr λa' w' s' h1 h2=>hq a' w' s' (hk _ h1) h2
theorem yA{P:Program}[aB P]:∀(c:Code) (s:AS) (Q1 Q2:Exit->AS->Prop),(∀e s,Q1 e s->Q2 e s)->jL P c s Q1->jL P c s Q2
 | .skip,s,_,_,hq,h=>by simp only[jL]at h⊢;exact hq _ _ h
 | .region id ops false,s,_,_,hq,h=>by simp only[jL]at h⊢;exact h.elim λs2 h=>⟨s2,h.1,wI (hq _) _ _ h.2⟩
 | .region id ops true,s,_,_,hq,h=>by simp only[jL]at h⊢;exact ig (hq _) h
 | .seq x y,s,Q1,Q2,hq,h=>by simp only[jL]at h⊢;refine yA x s _ _ (λe s' he=> ?_) h;cases e<;>simp only[uG]at he⊢ <;>first|exact yA y s' _ _ hq he|exact hq _ _ he
 | .cond c x y,s,_,_,hq,h=>by
  simp only[jL]at h⊢;split at h
  .exact ⟨λe=>yA x s _ _ hq (h.1 e),λe=>yA y s _ _ hq (h.2 e)⟩
  .exact h.elim
 | .block id c,s,Q1,Q2,hq,h=>by
  simp only[jL]at h⊢;refine yA c s _ _ (λe s' he=> ?_) h;cases e with
  |exit id'=>
   simp only[bz]at he⊢;split<;>rename_i hid
   .rw [eW hid]at he;exact hq _ _ he
   .rw [eK hid]at he;exact hq _ _ he
  |_=>simp only[bz]at he⊢;exact hq _ _ he
 | .loop c,s,_,_,hq,h=>by simp only[jL]at h⊢;obtain⟨ι,inv,μ,i,h0,hr⟩:=h;refine⟨ι,inv,μ,i,h0,λi=>yA c _ _ _ (λe s' he=> ?_) (hr i)⟩;cases e<;>simp only[uG]at he⊢ <;>first|exact he|exact hq _ _ he
 | .exit id,s,_,_,hq,h=>by simp only[jL]at h⊢;exact hq _ _ h
 | .ret,s,_,_,hq,h=>by simp only[jL]at h⊢;exact hq _ _ h
 | .rangeFunc _ _ _ _,_,_,_,_,h=>by simp[jL]at h
 | .scope _,_,_,_,_,h=>by simp[jL]at h
 | .label _,_,_,_,_,h=>by simp[jL]at h
 | .goto _,_,_,_,_,h=>by simp[jL]at h
 | .refuse _,_,_,_,_,h=>by simp[jL]at h
theorem xL{P:Program}[aB P](f:Nat->Option (List Nat×List Nat)):∀(c:Code) (s:AS) (Q:Exit->AS->Prop),jL P (tF f c) s Q->jL P c s Q
 | .skip,s,Q,h=>by simpa only[tF]using h
 | .region id ops false,s,Q,h=>by simpa only[tF]using h
 | .region id ops true,s,Q,h=>by
  simp only[tF]at h;split at h
  .rename_i p q hf;split at h
   .rename_i hc;simp only[jL]at h⊢;exact XT (l:=ops.toList) hc h
   .exact h
  .exact h
 | .seq x y,s,Q,h=>by simp only[tF,jL]at h⊢;refine xL f x s _ (yA _ _ _ _ (λe s' he=> ?_) h);cases e<;>simp only[uG]at he⊢ <;>first|exact xL f y s' _ he|exact he
 | .cond c x y,s,Q,h=>by
  simp only[tF,jL]at h⊢;split at h
  .exact ⟨λe=>xL f x s Q (h.1 e),λe=>xL f y s Q (h.2 e)⟩
  .exact h.elim
 | .block id c,s,Q,h=>by simp only[tF,jL]at h⊢;exact xL f c s _ h
 | .loop c,s,Q,h=>by simp only[tF,jL]at h⊢;obtain⟨ι,inv,μ,i,h0,hr⟩:=h;exact⟨ι,inv,μ,i,h0,λi=>xL f c _ _ (hr i)⟩
 | .exit id,s,Q,h=>by simpa only[tF]using h
 | .ret,s,Q,h=>by simpa only[tF]using h
 | .rangeFunc _ _ _ _,_,_,h=>by simp[tF,jL]at h
 | .scope _,_,_,h=>by simp[tF,jL]at h
 | .label _,_,_,h=>by simp[tF,jL]at h
 | .goto _,_,_,h=>by simp[tF,jL]at h
 | .refuse _,_,_,h=>by simp[tF,jL]at h
def perms(L:List (Nat×List Nat×List Nat))(i:Nat):Option (List Nat×List Nat):=(L.find? (λx=>x.1 == i)).map (·.2)
theorem aS5{P:Program}[aB P](hm:P.follows .mixedOrders=true){f:FuncId}{fn:Func}{c c':Code}(L:List (Nat×List Nat×List Nat))(hf:P.funcs[f]? =some fn){n:Nat}(hn:fn.ntmps=n){args t:List AV}{rr:AV}
  (h:jL P c' ⟨t,[]⟩ (λe s=>(e= .normal\/e= .ret)/\aX P fn s rr)) (hb:fn.body=some c:=by rfl)
  (hc:tF (perms L) c=c':=by simp[tF,perms,JO,qN,gz,CD];rfl)
  (ht:args++replicate (n-args.length) .undef=t:=by
   simp only[dT,eR,Nat.reduceSub,Nat.reduceAdd,mS,rL,cW,cY];rfl):Ok P f args rr:=by
 subst ht;subst hn;subst hc;exact FL hm hf hb (xL _ _ _ _ h)
theorem aEm{t:List AV}{o:List aD}{s':AS}(i ver:Nat){ob:aD}(tX:AV.isObj o i ver=some ob)(hbx:ob.box=false)(e:(⟨t,o⟩:AS).frozen i ver ob=s'):kY ⟨t,o⟩ s':=by rw[<-e];exact λ_ _ B a w r=>Vm tX hbx r
theorem O4{t t':List AV}{o o':List aD}(i ver m:Nat){ob:aD}(tX:AV.isObj o i ver=some ob)(hbx:ob.box=false)(ho:(tZ i ver (.sl .view ob.n (iI (λ_=>some .view) false ob.dM)) 0 o).take m=o')
  (h:wk (uL i ver (.sl .view ob.n (iI (λ_=>some .view) false ob.dM)) t) t') (hc:gH m t'=true) (hb:fI m o'=true):kY ⟨t,o⟩ ⟨t',o'⟩:=
 kY.trans (aEm i ver tX hbx rfl) (aL m ho h hc hb)
section
variable{P:Program}[aB P]{l:List Oper}{K:AS -> Prop}{n:Nat}{d d':List Bool}{s s':AS}{dst:Option Tmp}{ty:TypeId}{pos:String}{after:Array Edge}{x y:Operand}
end
def AS.EF(P:Program)(s:AS):List ResultVar->Option (Nat×List AV)
 | .cell t ty::xs=>match s.t.getD t .undef with
  | .ptr i ver idx off=>match s.at i ver idx with
   |some (ob,e)=>match jV P ty with
    |some n=>if ob.box=true/\off+n<=e.length then(match s.Ce P xs with
     |some ys=>some (i,.agg ((e.drop off).take n)::ys)
     |none=>none)else none
    |none=>none
   |none=>none
  |_=>none
 |_=>none
def AS.rvC(P:Program)(s:AS):List ResultVar->Option (Nat×List AV)
 |x::xs=>match s.Ce P [x],s.EF P xs with
  |some [y],some (i,ys)=>some (i,y::ys)
  |_,_=>none
 |[]=>none
def PQ(P:Program)(fn:Func)(s:AS)(r:AV):Prop:=
 ∃i ys,(s.EF P fn.results.toList=some (i,ys)\/s.rvC P fn.results.toList=some (i,ys))/\gP s.o (single ys)=true/\(iN (single ys)).Nodup/\i∉iN (single ys)/\res s.o (single ys)=r/\clean r=true
theorem mJ{P:Program}{fn:Func}{s:AS}{r:AV}(h:match s.EF P fn.results.toList with
  |some p=>gP s.o (single p.2)=true/\(iN (single p.2)).Nodup/\p.1∉iN (single p.2)/\res s.o (single p.2)=r/\clean r=true
  |none=>False):PQ P fn s r:=by
 split at h
 .rename_i p hp;exact⟨p.1,p.2,.inl hp,h⟩
 .exact h.elim
theorem Un{P:Program}[aB P]{B:fM P}{s:AS}{G:List CO}{a:Act}{w:World}(r:dN B s G a w){t:Tmp}{ty:TypeId}{i ver idx off n:Nat}{ob:aD}{e:List AV}
  (hx:s.t.getD t .undef= .ptr i ver idx off) (ha:s.at i ver idx=some (ob,e)) (tY:ob.box=true) (hn:jV P ty=some n) (yF:off+n<=e.length):
  ∃v fp g,look s.o G i ob g/\ob.live=true/\(DL a (.cell t ty)).run P w= .ok v w/\R w (env B s.o G w) (.agg ((e.drop off).take n)) v fp/\fp.Nodup/\∀b∈fp,g.F b:=by
 obtain⟨ho,he⟩:=CK ha;obtain⟨g,b,f,hl,hlive,hga,hv⟩:=r.ptr (x:= .tmp t) hx ho;obtain⟨Rw,⟨_,hown⟩,hnd,hF⟩:=r.ok i ob g hl hlive;simp only[tY,Env.of,eV]at hown;rcases hown with⟨h5,_⟩|⟨b',f',C,tyc,fz,nU,vB,hbk,hz,k1,k2,k3,rfl,hr⟩
 .rw [h5]at he;simp at he
 rw[hga]at vB;simp only[eA,nB,qT]at vB;obtain⟨rfl,rfl⟩:=vB;obtain⟨f1,f2,f3,cs,rfl,hcn,hc,hone,sK,_,_⟩:=Ac hr he;have hle:=fA sK;simp only[Act.eval]at hv;obtain⟨g1,g2,rfl,_,ry⟩:=rP off sK;obtain⟨g3,g4,rfl,hc3,_⟩:=rP n ry;have hsub:∀x∈g3,x∈f1++(g1++(g3++g4))++f3:=λx hx=>by simp[hx]
 refine⟨.agg ((cs.drop off).take n).toArray,g3,g,hl,hlive,?_,by simp only[R];exact⟨_,rfl,FH hone,hc3⟩,?_,λx hx=>hF x (tG _ (hsub x hx))⟩
 .have:=sM (P:=P) (t:=ty) (k:=off) (n:=n) (cs:=cs) hn (by omega) hc;simp only[Instr.loadAt,Instr.sureAddr,pure_bind]at this;simp[DL,hv,asAddr,<-oE,this]
 .simp only[mC]at hnd;have h1:=(gS.1 hnd.2).1;have h2:=(gS.1 h1).2.1;have h3:=(gS.1 h2).2.1;exact(gS.1 h3).1
theorem Yf{P:Program}{s:AS}{l:List ResultVar}{i:Nat}{ys:List AV}(h:s.EF P l=some (i,ys)):
  ∃t ty xs ver idx off ob e n zs,l= .cell t ty::xs/\s.t.getD t .undef= .ptr i ver idx off/\s.at i ver idx=some (ob,e)/\jV P ty=some n/\ob.box=true/\off+n<=e.length/\s.Ce P xs=some zs/\ys= .agg ((e.drop off).take n)::zs:=by
 unfold AS.EF at h;split at h
 .split at h
  .rename_i i' ver idx off hx;split at h
   .rename_i ob e ha;split at h
    .rename_i n hn;split at h
     .rename_i hc;split at h
      .rename_i zs hzs;simp only[eA,oR]at h;obtain⟨rfl,rfl⟩:=h;exact⟨_,_,_,_,_,_,_,_,_,_,rfl,hx,ha,hn,hc.1,hc.2,hzs,rfl⟩
      .cases h
     .cases h
    .cases h
   .cases h
  .cases h
 .cases h
theorem zQ{P:Program}[aB P]{B:fM P}{s:AS}{G:List CO}{a:Act}{w:World}(r:dN B s G a w){fn:Func}{i:Nat}{ys:List AV}(h:s.EF P fn.results.toList=some (i,ys)):
  ∃v fp ob g,look s.o G i ob g/\ob.live=true/\(results fn a.tmps).run P w= .ok v w/\R w (env B s.o G w) (single ys) v fp/\fp.Nodup/\∀b∈fp,g.F b:=by
 obtain⟨t,ty,xs,ver,idx,off,ob,e,n,zs,lC,hx,ha,hn,tY,yF,hzs,rfl⟩:=Yf h;obtain⟨v0,fp,g,hl,hlive,WN,hR0,hnd,hF⟩:=Un r hx ha tY hn yF;obtain⟨vs,h1,h2⟩:=JC r hzs;have hl2:=fA h2;have hm:(fn.results.mapM (m:=Sem) (DL a)).run P w= .ok (v0::vs).toArray w:=by rw[CN,lC];simp only[Sem.run_map,mapM_cons,oA];rw[WN];simp only[lP];rw[h1];simp
 rw[Ij];simp only[oA];rw[hm];simp only[lP,sY];match zs,vs,hl2,h2 with
 |[],[],_,h2=>exact⟨v0,fp,ob,g,hl,hlive,by simp,hR0,hnd,hF⟩
 |z::zs,v1::vs,_,h2=>exact⟨.tuple (v0::v1::vs).toArray,fp,ob,g,hl,hlive,by simp,by simp only[single];rw[R];exact⟨_,rfl,by rw[Rc];exact⟨fp,[],hR0,h2,by simp⟩⟩,hnd,hF⟩
theorem VA{P:Program}[aB P]{B:fM P}{s:AS}{G:List CO}{a:Act}{w:World}(r:dN B s G a w){fn:Func}{i:Nat}{ys:List AV}(h:s.rvC P fn.results.toList=some (i,ys)):
  ∃v fp ob g,look s.o G i ob g/\ob.live=true/\(results fn a.tmps).run P w= .ok v w/\R w (env B s.o G w) (single ys) v fp/\fp.Nodup/\∀b∈fp,g.F b:=by
 unfold AS.rvC at h;split at h
 .rename_i x xs heq;split at h
  .rename_i y i' ys' hy hB;simp only[eA,oR]at h;obtain⟨rfl,rfl⟩:=h;obtain⟨t,ty,xs',ver,idx,off,ob,e,n,zs,rfl,hx,ha,hn,tY,yF,hzs,rfl⟩:=Yf hB;obtain⟨v0,fp,g,hl,hlive,WN,hR0,hnd,hF⟩:=Un r hx ha tY hn yF;obtain⟨vs,h1,h2⟩:=JC r hzs;obtain⟨vy,h3,h4⟩:=JC r hy;match vy,h4 with
   |[v],h4=>
    simp only[mapM_cons,mapM_nil,oA]at h3;have h5:(DL a x).run P w= .ok v w:=by
     cases hq:(DL a x).run P w with
     |ok v' w'=>rw[hq]at h3;simp at h3;rw[h3.1,h3.2]
     |_=>rw[hq]at h3;simp at h3
    have hm:(fn.results.mapM (m:=Sem) (DL a)).run P w= .ok (v::v0::vs).toArray w:=by rw[CN,heq];simp only[Sem.run_map,mapM_cons,oA];rw[h5];simp only[lP];rw[WN];simp only[lP];rw[h1];simp
    rw[Ij];simp only[oA];rw[hm];simp only[lP,sY];simp only[Rc]at h4;obtain⟨f1,f2,h6,⟨_,rfl⟩,h8⟩:=h4;obtain rfl:f1=[]:=by simpa using h8.symm
    exact⟨.tuple (v::v0::vs).toArray,fp,ob,g,hl,hlive,by simp,by simp only[single];rw[R];exact⟨_,rfl,by rw[Rc];exact⟨[],fp,h6,by rw[Rc];exact⟨fp,[],hR0,h2,by simp⟩,by simp⟩⟩,hnd,hF⟩
   |[],h4=>simp[Rc]at h4
   |_::_::_,h4=>simp[Rc]at h4
  .cases h
 .cases h
theorem jc{P:Program}[aB P](hm:P.follows .mixedOrders=true){f:FuncId}{fn:Func}{c:Code}(hf:P.funcs[f]? =some fn)(hb:fn.body=some c){args:List AV}{rr:AV}
  (h:jL P c ⟨args++replicate (fn.ntmps-args.length) .undef,[]⟩ (λe s=>(e= .normal\/e= .ret)/\(aX P fn s rr\/PQ P fn s rr))):Ok P f args rr:=by
 intro w vs hg oP;have hl:=fA oP;have r0:dN ⟨w,λb=>b<w.heap.size,λ_=>False,λ_=>none,λ_=>none,hg,λ_ h=>h.elim,λ_ h=>h.elim⟩ ⟨args++replicate (fn.ntmps-args.length) .undef,[]⟩ [] {tmps:=vs.toArray++Array.replicate (fn.ntmps-vs.toArray.size) Go.undef,defers:=[]} w:=by
  refine⟨rfl,rfl,λi ob g hl=>by simp[look]at hl,λi j oi oj gi gj b hl=>by simp[look]at hl,λi ob g b hl=>by simp[look]at hl,?_,eE _,λ_ _ _=>rfl,λb hb=>hb,nV.rfl⟩;have h1:Rc w (env ⟨w,λb=>b<w.heap.size,λ_=>False,λ_=>none,λ_=>none,hg,λ_ h=>h.elim,λ_ h=>h.elim⟩ [] [] w) args vs []:=dX (w:=w) (w':=w) (E:=mK w) (E':=env ⟨w,λb=>b<w.heap.size,λ_=>False,λ_=>none,λ_=>none,hg,λ_ h=>h.elim,λ_ h=>h.elim⟩ [] [] w) ⟨λb hb=>⟨⟨.inl hb,λi ob g hl=>by simp[look]at hl⟩,rfl⟩,λ_ _=>trivial,λ_ _ _ h=>h.elim,λ_ _ _ h=>h.elim,λ_ _ _ _ _ h=>h.elim⟩ _ _ _ (by simp) oP;have h2:∀n,Rc w (env ⟨w,λb=>b<w.heap.size,λ_=>False,λ_=>none,λ_=>none,hg,λ_ h=>h.elim,λ_ h=>h.elim⟩ [] [] w) (replicate n .undef) (replicate n Go.undef) []:=by
   intro n;induction n with
   |zero=>simp[Rc]
   |succ n ih=>simp only[mS,Rc];exact⟨[],[],by simp[R],ih,rfl⟩
  have:=iQ h1 (h2 (fn.ntmps-args.length));simpa [hl]using this
 refine DG hf hb (FF (nA hm c _ _ h _ _ ⟨_,r0⟩) λe a w' he=> ?_);obtain⟨s,⟨he,Iw⟩,G,r⟩:=he;have key:∃(E:Env) (v:Value) (fp:List Nat),(results fn a.tmps).run P w'= .ok v w'/\R w' E.plain rr v fp/\fp.Nodup/\clean rr=true/\∀b∈fp,∃j ob g,look s.o G j ob g/\ob.live=true/\g.F b:=by
  rcases Iw with⟨ys,JD,qE,hu,lC,Ea⟩|⟨i,ys,JD,qE,hu,hi,lC,Ea⟩
  .obtain ⟨v,fV,hR⟩:=sZ r JD;obtain⟨fp,h1,h2,h3⟩:=Ee r _ v qE hu hR;rw[lC]at h1;exact⟨_,v,fp,fV,h1,h2,Ea,λb hb=>by obtain⟨i,ob,g,_,h⟩:=h3 b hb;exact⟨i,ob,g,h⟩⟩
  .obtain ⟨v,Rw,ob,g,hlk,hlive,fV,hR,hnd,hF⟩:=JD.elim (zQ r) (VA r);obtain⟨fp,h1,h2,h3⟩:=Pe r hlk hlive _ v Rw qE hu hi hnd hF hR;rw[lC]at h1;refine⟨_,v,fp,fV,h1,h2,Ea,λb hb=> ?_⟩;rcases h3 b hb with h|⟨j,ob',g',_,h⟩
   .exact ⟨i,ob,g,hlk,hlive,hF b h⟩
   .exact ⟨j,ob',g',h⟩
 obtain⟨E,v,fp,fV,h1,h2,Ea,h3⟩:=key;have hfin:∃v' fp,Ending.returned v= .returned v'/\R w' (Ae w.heap.size w' fp) rr v' fp/\fp.Nodup/\(∀b∈fp,w.heap.size<=b/\b<w'.heap.size)/\w.heap.size<=w'.heap.size/\(∀b,b<w.heap.size->w'.heap[b]? =w.heap[b]?)/\nV w w':=by refine⟨v,fp,rfl,aI0 <| Oe (E:=E.plain) (λ_ _=>trivial) rfl rfl rfl _ _ _ Ea h1,h2,λb hb=> ?_,r.size,λb hb=>r.frame b hb (λh=>h),r.same⟩;obtain⟨i,ob,g,hl,hlive,hF⟩:=h3 b hb;have:=r.fresh _ _ _ b hl hlive hF;exact⟨this.1.resolve_left (λh=>h),this.2⟩
 rcases he with rfl|rfl
 .exact ⟨r.defs,v,fV,hfin⟩
 .exact ⟨r.defs,v,fV,hfin⟩
theorem aC1{P:Program}[aB P](hm:P.follows .mixedOrders=true){f:FuncId}{fn:Func}{c:Code}(hf:P.funcs[f]? =some fn){n:Nat}(hn:fn.ntmps=n){args t:List AV}{rr:AV}
  (h:jL P c ⟨t,[]⟩ (λe s=>(e= .normal\/e= .ret)/\(aX P fn s rr\/PQ P fn s rr))) (hb:fn.body=some c:=by rfl)
  (ht:args++replicate (n-args.length) .undef=t:=by
   simp only[dT,eR,Nat.reduceSub,Nat.reduceAdd,mS,rL,cW,cY];rfl):Ok P f args rr:=by
 subst ht;subst hn;exact jc hm hf hb h
theorem aC2{P:Program}{fn:Func}{s:AS}{r:AV}{x:Array ResultVar}(hr:fn.results=x)(e:fn.results=x->aX P fn s r\/PQ P fn s r:=by intro hr;first|(refine .inl ?_;simp[aX,hr];done)|(refine .inr (mJ ?_);simp[AS.EF,AS.Ce,AS.rv,hr];done)):(Exit.ret= .normal\/Exit.ret= .ret)/\(aX P fn s r\/PQ P fn s r):=⟨.inr rfl,e hr⟩
end Go.Aw
