/- Proved here: steps towards the statement of this claim. No condition. -/
import Derived.Test.YtfbefblglejcaaaGreatDoorZF3
import Derived.ProofKit
set_option linter.all false
namespace Go.Aw
open List
def pre(op:Oper):List Nat:=(op.after.toList.filter λe=>Region.binds .any e).map (·.on)
def Clo(l:List Oper)(J:Nat->Bool):Prop:=∀j op,l[j]? =some op->J j=true->∀e∈pre op,J e=true
theorem M0{op:Oper}{n:Nat}:n∈pre op↔∃e∈op.after.toList,Region.binds .any e=true/\e.on=n:=by simp[pre,AM,DQ,Fm]
def sN(P:Program)[aC P](l:List Oper)(op:Oper)(s:AS)(K:AS->Prop):Prop:=
 match op.guard with
 |none=>sD P op s K\/UI P op s K
 |some (j,want)=>match sJ l s j want with
  | .bool b=>(b=want->sD P op s K\/UI P op s K)/\(b≠want->K (s.put op.dst (.gT [])))
  |_=>False
def nC(l:List Oper)(j:Nat):List Nat:=match l[j]? with|some o=>pre o|none=>[]
def reach(l:List Oper):Nat->List Nat->List Nat
 |0,acc=>acc
 |k+1,acc=>reach l k (if k∈acc then acc++nC l k else acc)
def EG(l:List Oper)(m:Nat):Bool:=
 decide (m<=l.length)&&((range (l.length-m)).all (λd=>(nC l (m+d)).all (λe=>decide (e<m+d))&&(d == 0 || decide (m+d-1∈nC l (m+d))))&&
 (decide (l.length<=m) || (range m).all λj=>decide (j∈reach l m (nC l m))))
theorem Nl{l:List Oper}{J:Nat->Bool}(hc:Clo l J):∀(k:Nat) (acc:List Nat),(∀e∈acc,J e=true)->∀e∈reach l k acc,J e=true
 |0,acc,h=>h
 |k+1,acc,h=>by
  simp only[reach];refine Nl hc k _ ?_;split
  .rename_i hk;intro e he;rcases fL.1 he with he|he
   .exact h e he
   .unfold nC at he;split at he
    .rename_i o ho;exact hc k o ho (h k hk) e he
    .cases he
  .exact h
theorem ZV{l:List Oper}{m j:Nat}{op:Oper}(ht:EG l m=true)(hm:m<=j)(hj:l[j]? =some op):(∀e∈pre op,e<j)/\(m<j->j-1∈pre op):=by
 unfold EG at ht;simp only[eJ,fN]at ht;have hlt:=(cH.1 hj).1;have h:=ht.2.1 (j-m) (by simp;omega);have e:m+(j-m)=j:=by omega
 have hp:nC l j=pre op:=by simp[nC,hj]
 rw[e,hp]at h;simp only[fN,fR,tI,Bs]at h;exact⟨h.1,λhlt=>h.2.resolve_left (by omega)⟩
theorem aEs{l:List Oper}{m:Nat}{op:Oper}{J:Nat->Bool}(ht:EG l m=true)(hm:l[m]? =some op)(hc:Clo l J)(hp:∀e∈pre op,J e=true):∀j,j<m->J j=true:=by
 intro j hj;unfold EG at ht;simp only[eJ,tI,fR]at ht;have hlt:=(cH.1 hm).1;have h:=ht.2.2.resolve_left (by omega);rw[fN]at h;have:=h j (by simpa using hj);simp only[fR]at this;have hpa:nC l m=pre op:=by simp[nC,hm]
 rw[hpa]at this;exact Nl hc m _ hp j this
theorem ZW{listed:Array Bool}{i:Nat}(h:i<listed.size):(!listed.getD i true)= !listed.getD i false:=by rw[fY,fY,tM h];rfl
theorem mem_ready{ops:Array Oper}{listed:Array Bool}(hl:listed.size=ops.size){i:Nat}:i∈Region.ready .any ops listed↔∃op,ops.toList[i]? =some op/\listed.getD i false=false/\∀e∈pre op,listed.getD e false=true:=by
 unfold Region.ready;rw[DQ];constructor
 .rintro ⟨hi1,hi2⟩;have FO:i<ops.size:=by simpa using hi1
  have hop:ops[i]? =some ops[i]:=by simp[FO]
  simp only[eJ,hop,mS,rL]at hi2;obtain⟨h1,h2⟩:=hi2;rw[DS]at h2;refine⟨ops[i],by simp[FO],?_,λn hn=> ?_⟩
  .rw [ZW (by omega)]at h1;simpa using h1
  .obtain ⟨e,he,hb,rfl⟩:=M0.1 hn;have:=h2 e (by simpa using he);simpa [hb]using this
 .rintro ⟨op,hop,h1,h2⟩;have FO:i<ops.size:=by have:=(cH.1 hop).1;simpa using this
  have hop':ops[i]? =some op:=by simpa using hop
  refine⟨by simpa using FO,?_⟩;simp only[eJ,hop',mS,rL];refine⟨by rw[ZW (by omega)];simp[h1],?_⟩;rw[DS];intro e he;cases hb:Region.binds .any e with
  |false=>simp
  |true=>have:=h2 e.on (M0.2 ⟨e,by simpa using he,hb,rfl⟩);simp[this]
theorem XC{P:Program}[aC P]{B:gM P}{l:List Oper}{op:Oper}{s:AS}{K:AS->Prop}(h:sN P l op s K){a:Act}{w:World}(r:Rel B s a w){Kc:Act->World->Prop}{Q:Exit->Act->World->Prop}(hk:∀a' w' s',K s'->Rel B s' a' w'->Kc a' w'):
  if Region.wanted op (yielded l.toArray a.tmps)then op.wp P a w Kc Q\/(op.asks P a w/\LetsOut Q)else Kc (a.put op.dst undef) w:=by
 unfold sN at h;split at h
 .rename_i hg;rw[eK (by simp[Region.wanted,hg])];obtain⟨s',h',hst⟩:=h.elim (Bt (B:=B)) (Ro (B:=B));exact .inl (hst a w _ Q r λa' w' r'=>hk a' w' s' h' r')
 .rename_i j want hg;split at h
  .rename_i b hb;obtain⟨G,r'⟩:=r;have hy:=RB r' hb;by_cases hbw:b=want
   .rw [eK (by simp[Region.wanted,hg,hy,hbw])];obtain⟨s',h',hst⟩:=(h.1 hbw).elim (Bt (B:=B)) (Ro (B:=B));exact .inl (hst a w _ Q ⟨G,r'⟩ λa' w' r'=>hk a' w' s' h' r')
   .rw [cX (by simp[Region.wanted,hg,hy,hbw])];exact hk _ _ _ (h.2 hbw) ⟨G,r'.put op.dst (uj _ _)⟩
  .exact h.elim
theorem VU{P:Program}[aC P]{B:gM P}{all r:List Oper}{o:Oper}{s:AS}{K:AS->Prop}(h:kU P all (o::r) s K){a:Act}{w:World}(rl:Rel B s a w){Kc:Act->World->Prop}{Q:Exit->Act->World->Prop}(hk:∀a' w' s',kU P all r s' K->Rel B s' a' w'->Kc a' w'):
  if Region.wanted o (yielded all.toArray a.tmps)then o.wp P a w Kc Q\/(o.asks P a w/\LetsOut Q)else Kc (a.put o.dst undef) w:=by
 simp only[kU]at h;have stepped:((sD P o s λs'=>kU P all r s' K)\/(JK P o s λs'=>kU P all r s' K)\/(IL P o s λs'=>kU P all r s' K))->o.wp P a w Kc Q\/(o.asks P a w/\LetsOut Q):=by
  intro h;by_cases hcu:IL P o s λs'=>kU P all r s' K
  .exact .inl (OD hcu a w _ Q rl λa' w' s' h' r'=>hk a' w' s' h' r')
  have:∃s',kU P all r s' K/\Step P B o s s':=by
   rcases h with h|h|h
   .exact Bt (B:=B) h
   .exact RA (B:=B) h
   .exact (hcu h).elim
  obtain⟨s',h',hst⟩:=this;exact .inl (hst a w _ Q rl λa' w' r'=>hk a' w' s' h' r')
 split at h
 .rename_i hg;rw[eK (by simp[Region.wanted,hg])];exact stepped h
 .rename_i j want hg;split at h
  .rename_i b hb;have rl2:=rl;obtain⟨G,r'⟩:=rl2;have hy:=RB r' hb;by_cases hbw:b=want
   .rw [eK (by simp[Region.wanted,hg,hy,hbw])];exact stepped (h.1 hbw)
   .rw [cX (by simp[Region.wanted,hg,hy,hbw])];exact hk _ _ _ (h.2 hbw) ⟨G,r'.put o.dst (uj _ _)⟩
  .exact h.elim
theorem RY{listed:Array Bool}{i:Nat}(h:i<listed.size)(j:Nat):(listed.setIfInBounds i true).getD j false=uQ (λj=>listed.getD j false) i j:=by
 unfold uQ;simp only[fY,Array.getElem?_setIfInBounds];by_cases hj:j=i
 .subst hj;simp[h]
 .simp [hj,Ax hj]
theorem M3{P:Program}[aC P]{B:gM P}{ops:Array Oper}{m:Nat}{K:AS->Prop}{Q:Exit->Act->World->Prop}(ht:EG ops.toList m=true)(hk:∀a' w' s',K s'->Rel B s' a' w'->Q .normal a' w'):
  ∀(n k:Nat) (listed:Array Bool) (s:AS) (a:Act) (w:World),listed.size=ops.size->k+n=ops.size->m<=k->(∀j,listed.getD j false=decide (j<k))->kU P ops.toList (ops.toList.drop k) s K->Rel B s a w->wpAny P .any ops Q n listed a w
 |0,k,listed,s,a,w,hl,hn,hm,hj,h,r=>by have hdr:ops.toList.drop k=[]:=AE (by simp;omega);rw[hdr]at h;simp only[kU]at h;refine⟨?_,hk _ _ _ h r⟩;rw[eq_nil_iff_forall_not_mem];intro i hi;obtain⟨op,hop,h1,_⟩:=(mem_ready hl).1 hi;have FO:=(cH.1 hop).1;rw[hj]at h1;simp at h1 FO;omega
 |n+1,k,listed,s,a,w,hl,hn,hm,hj,h,r=>by
  have hkl:k<ops.toList.length:=by simp;omega
  have hop:ops.toList[k]? =some ops.toList[k]:=aE hkl;have hpre:=ZV ht hm hop;constructor
  .intro hnil;exfalso;have:k∈Region.ready .any ops listed:=(mem_ready hl).2 ⟨_,hop,by rw[hj];simp,λe he=>by rw[hj];simpa using hpre.1 e he⟩;rw[hnil]at this;cases this
  .intro i hi;obtain⟨op,aMv,h1,h2⟩:=(mem_ready hl).1 hi;rw[hj]at h1;have hki:k<=i:=by simpa using h1
   have hik:i=k:=by
    rcases sL k i with hlt|hge
    .exfalso;have:=h2 _ ((ZV ht (by omega) aMv).2 (by omega));rw[hj]at this;simp at this;omega
    .omega
   subst hik;rw[hop]at aMv;obtain rfl:=cQ aMv;rw[mL hkl]at h;unfold wpOp;have aEt:ops[i]? =some ops.toList[i]:=by simpa using hop
   rw[aEt];have:=VU h r (Kc:=wpAny P .any ops Q n (listed.setIfInBounds i true)) (Q:=Q) (λa' w' s' h' r'=>
    M3 ht hk n (i+1) _ s' a' w' (by simpa using hl) (by omega) (by omega) (λj=>by
     rw[RY (by simpa [hl]using hkl)];unfold uQ;by_cases hji:j=i
     .subst hji;simp
     .rw [cX hji];show listed.getD j false=_;rw[hj];have:(j<i)↔(j<i+1):=by omega
      simp[this]) h' r')
   simpa using this
def XD(l:List Oper)(d:List Bool):List Nat:=(range l.length).filter λi=> !d.getD i false&&(nC l i).all λe=>d.getD e false
mutual
def Ag(P:Program)[aC P](l:List Oper)(K:AS->Prop):Nat->List Bool->AS->Prop
 |0,_,s=>K s
 |n+1,d,s=>wM P l K n d s (XD l d)
def wM(P:Program)[aC P](l:List Oper)(K:AS->Prop):Nat->List Bool->AS->List Nat->Prop
 |_,_,_,[]=>True
 |n,d,s,i::r=>(∃op,l[i]? =some op/\kU P l [op] s λs'=>Ag P l K n (d.set i true) s')/\wM P l K n d s r
end
theorem Nn{P:Program}[aC P]{l:List Oper}{K:AS->Prop}{n:Nat}{d:List Bool}{s:AS}:∀{r:List Nat},wM P l K n d s r->∀i∈r,∃op,l[i]? =some op/\kU P l [op] s λs'=>Ag P l K n (d.set i true) s'
 |[],_,i,hi=>by cases hi
 |j::r,h,i,hi=>by
  simp only[wM]at h;rcases lB.1 hi with rfl|hi
  .exact h.1
  .exact Nn h.2 i hi
def OM(l:List Oper):Bool:=(range l.length).all λi=>(nC l i).all λe=>decide (e<i)
theorem Np{l:List Oper}(h:OM l=true){i:Nat}{op:Oper}(hi:l[i]? =some op):∀e∈pre op,e<i:=by
 unfold OM at h;rw[fN]at h;have:=h i (by simp;exact(cH.1 hi).1);have hp:nC l i=pre op:=by simp[nC,hi]
 rw[hp,fN]at this;exact λe he=>by simpa using this e he
theorem M4{P:Program}[aC P]{B:gM P}{ops:Array Oper}{K:AS->Prop}{Q:Exit->Act->World->Prop}(hfw:OM ops.toList=true)(hk:∀a' w' s',K s'->Rel B s' a' w'->Q .normal a' w'):
  ∀(n:Nat) (d:List Bool) (listed:Array Bool) (s:AS) (a:Act) (w:World),listed.toList=d->listed.size=ops.size->left d=n->Ag P ops.toList K n d s->Rel B s a w->wpAny P .any ops Q n listed a w
 |0,d,listed,s,a,w,hd,hl,hn,h,r=>by
  simp only[Ag]at h;refine⟨?_,hk _ _ _ h r⟩;rw[eq_nil_iff_forall_not_mem];intro i hi;obtain⟨op,hop,h1,_⟩:=(mem_ready hl).1 hi;have FO:=(cH.1 hop).1;have hi':i<listed.size:=by simp at FO;omega
  have:=Nh (l:=d) hn (i:=i) (b:=listed[i]) (by rw[<-hd];simp[hi']);rw[fY,tM hi']at h1;simp[this]at h1
 |n+1,d,listed,s,a,w,hd,hl,hn,h,r=>by
  have hget:∀j,d.getD j false=listed.getD j false:=λj=>by rw[<-hd,iS,fY];simp
  simp only[Ag]at h;constructor
  .intro hnil;exfalso;obtain⟨i,h1,h2⟩:=RI (l:=d) (by omega);have hi:i<listed.size:=by have:=(cH.1 h1).1;rw[<-hd]at this;simpa using this
   have FO:i<ops.toList.length:=by simp;omega
   have hop:=aE FO;have:i∈Region.ready .any ops listed:=(mem_ready hl).2 ⟨_,hop,by rw[<-hget,iS,h1];rfl,λe he=>by
    have:=h2 e (Np hfw hop e he);rw[<-hget,iS,this];rfl⟩
   rw[hnil]at this;cases this
  .intro i hi;obtain⟨op,hop,h1,h2⟩:=(mem_ready hl).1 hi;have FO:=(cH.1 hop).1;have hir:i∈XD ops.toList d:=by
    unfold XD;rw[DQ];refine⟨by simpa using FO,?_⟩;have hp:nC ops.toList i=pre op:=by simp[nC,hop]
    rw[hget,h1,hp];simp only[Fi,Cp,fN];exact λe he=>by rw[hget];exact h2 e he
   obtain⟨op',hop',hst⟩:=Nn h i hir;rw[hop]at hop';obtain rfl:=cQ hop';unfold wpOp;have aEt:ops[i]? =some op:=by simpa using hop
   rw[aEt];have hil:i<listed.size:=by simp at FO;omega
   have:=VU hst r (Kc:=wpAny P .any ops Q n (listed.setIfInBounds i true)) (Q:=Q) (λa' w' s' h' r'=>by
    simp only[kU]at h';refine M4 hfw hk n (d.set i true) _ s' a' w' (by rw[CC,hd]) (by simpa using hl) ?_ h' r';have hdi:d[i]? =some false:=by
     have h3:=hget i;rw[h1,iS]at h3;have hid:i<d.length:=by rw[<-hd];simpa using hil
     rw[aE hid]at h3⊢;simpa using h3
    have:=Lc hdi;omega)
   simpa using this
def yE(l:List Oper)(m:Nat):Bool:=(range l.length).all λi=>decide (i<=m) || (nC l i).any λe=>decide (m<=e)
theorem JO:∀(L:List Bool) (q:Nat),(∀j,L.getD j false=decide (j<q))->q<=L.length->left L+q=L.length
 |[],q,_,h=>by simp at h;simp[left,h]
 |b::L,q,hq,hle=>by
  have hb:=hq 0;simp[getD]at hb;rw[DK];cases q with
  |zero=>
   have hb':b=false:=by simpa using hb
   have:=JO L 0 (λj=>by have:=hq (j+1);simpa [getD]using this) (by omega);rw[hb',cX (by simp)];simp;omega
  |succ q=>
   have hb':b=true:=by simpa using hb
   have:=JO L q (λj=>by have:=hq (j+1);simpa [getD]using this) (by simpa using hle);rw[hb',eK rfl];simp;omega
theorem ZX{P:Program}[aC P]{ops:Array Oper}{s:AS}{K:AS->Prop}(m:Nat)(aW3:m<=ops.size)(hfw:OM ops.toList=true)(hrest:yE ops.toList m=true)(S:(Nat->Bool)->AS)(h0:lY s (S λ_=>false))
  (hs:∀i op,i<m->ops.toList[i]? =some op->∀J:Nat->Bool,Clo ops.toList J->(∀k,m<=k->J k=false)->J i=false->(∀e∈pre op,J e=true)->(sN P ops.toList op (S J) λs'=>lY s' (S (uQ J i)))\/(op.guard=none/\∀B,Step P B op (S J) (S (uQ J i))))
  (he:∀J:Nat->Bool,Clo ops.toList J->(∀k,m<=k->J k=false)->((∀i,i<m->J i=true)\/∃op,ops.toList[m]? =some op/\∀e∈pre op,J e=true)->Ag P ops.toList K (left ((range ops.size).map J)) ((range ops.size).map J) (S J)\/(EG ops.toList m=true/\(∀i,i<m->J i=true)/\kU P ops.toList (ops.toList.drop m) (S J) K)):um P ops s K:=by
 intro B a w Q hr hk;have toJ:∀listed:Array Bool,listed.size=ops.size->listed.toList=(range ops.size).map λi=>listed.getD i false:=by
  intro listed hl;refine BY λi=> ?_
  rw[tA];by_cases hi:i<ops.size
  .have hil:i<listed.size:=by omega
   simp[hi,hil]
  .have hil:listed.toList.length<=i:=by simp;omega
   rw[pB hil];simp[hi]
 have fin:∀(fuel:Nat) (listed:Array Bool) (a:Act) (w:World),listed.size=ops.size->left listed.toList=fuel->(∀k,m<=k->listed.getD k false=false)->Clo ops.toList (λi=>listed.getD i false)->Rel B (S λi=>listed.getD i false) a w->
   ((∀i,i<m->listed.getD i false=true)\/∃op,ops.toList[m]? =some op/\∀e∈pre op,listed.getD e false=true)->wpAny P .any ops Q fuel listed a w:=by
  intro fuel listed a w hl hz hhi hc r hor;rcases he _ hc hhi hor with this|⟨ht,hall,h⟩
  .rw [<-toJ listed hl]at this;exact M4 hfw hk fuel listed.toList listed _ a w rfl hl hz (hz▸this) r
  .have hJ:(λi=>listed.getD i false)=λk=>decide (k<m):=by
    funext i;by_cases hi:i<m
    .rw [hall i hi];simp[hi]
    .rw [hhi i (by omega)];simp[hi]
   have hcount:m+fuel=ops.size:=by have:=JO listed.toList m (λj=>by have:=congrFun hJ j;simpa [fY,iS]using this) (by simp;omega);rw[hz]at this;simp at this;omega
   exact M3 ht hk fuel m listed _ a w hl hcount (eE _) (λj=>congrFun hJ j) h r
 have key:∀(fuel:Nat) (listed:Array Bool) (a:Act) (w:World),listed.size=ops.size->left listed.toList=fuel->(∀k,m<=k->listed.getD k false=false)->Clo ops.toList (λi=>listed.getD i false)->Rel B (S λi=>listed.getD i false) a w->wpAny P .any ops Q fuel listed a w:=by
  intro fuel;induction fuel with
  |zero=>
   intro listed a w hl hz hhi hc r;refine fin 0 listed a w hl hz hhi hc r (.inl λi hi=> ?_);have hi':i<listed.size:=by omega
   have:=Nh hz (i:=i) (b:=listed[i]) (by simp[hi']);simp[Array.getD,hi',this]
  |succ fuel ih=>
   intro listed a w hl hz hhi hc r;by_cases hall:(∀i,i<m->listed.getD i false=true)\/∃op,ops.toList[m]? =some op/\∀e∈pre op,listed.getD e false=true
   .exact fin _ listed a w hl hz hhi hc r hall
   .have hlow:∀i∈Region.ready .any ops listed,i<m:=by
     intro i hi;obtain⟨op,hop,h1,h2⟩:=(mem_ready hl).1 hi;rcases sL i m with h|h
     .exact h
     .exfalso;rcases sL m i with hlt|hge
      .unfold yE at hrest;rw[fN]at hrest;have:=hrest i (by simp;have:=(cH.1 hop).1;simpa using this);have hp:nC ops.toList i=pre op:=by simp[nC,hop]
       simp only[hp,tI,fR,any_eq_true]at this;rcases this with h'|⟨e,he,hme⟩
       .omega
       .have h3:=h2 e he;rw[hhi e hme]at h3;cases h3
      .have:i=m:=by omega
       subst this;exact hall (.inr ⟨op,hop,h2⟩)
    constructor
    .intro hnil;exfalso;obtain⟨i,h1,h2⟩:=RI (l:=listed.toList) (by omega);have hi:i<listed.size:=by have:=(cH.1 h1).1;simpa using this
     have hgi:listed.getD i false=false:=by
      have:listed[i]? =some false:=by simpa using h1
      rw[fY,this];rfl
     have aTp:i<ops.toList.length:=by simp;omega
     have hop:=aE aTp;have:i∈Region.ready .any ops listed:=(mem_ready hl).2 ⟨_,hop,hgi,λe he=>by
      have:=h2 e (Np hfw hop e he);have h3:listed[e]? =some true:=by simpa using this
      rw[fY,h3];rfl⟩
     rw[hnil]at this;cases this
    .intro i hi;have him:=hlow i hi;obtain⟨op,hop,h1,h2⟩:=(mem_ready hl).1 hi;have FO:i<ops.size:=by omega
     have hil:i<listed.size:=by omega
     have hst:=hs i op him hop (λj=>listed.getD j false) hc hhi h1 h2;unfold wpOp;have aEt:ops[i]? =some op:=by simpa using hop
     rw[aEt];have hu:(λj=>(listed.setIfInBounds i true).getD j false)=uQ (λj=>listed.getD j false) i:=funext λj=>RY hil j
     have hnext:∀a' w',Rel B (S (uQ (λj=>listed.getD j false) i)) a' w'->wpAny P .any ops Q fuel (listed.setIfInBounds i true) a' w':=λa' w' r'=>by
      refine ih _ _ _ (by simpa using hl) ?_ ?_ ?_ ?_
      .have h1':listed.toList[i]? =some false:=by
        have:listed[i]? =some listed[i]:=by simp[hil]
        rw[fY,this]at h1;simp only[rL]at h1;rw[h1]at this;simpa using this
       have:=Lc h1';rw[CC];omega
      .intro k hk;rw[RY hil];unfold uQ;rw[cX (by omega)];exact hhi k hk
      .rw [hu];intro j op' hj hJ e he;by_cases hji:j=i
       .subst hji;rw[hop]at hj;obtain rfl:=cQ hj;unfold uQ;split
        .rfl
        .exact h2 e he
       .unfold uQ at hJ⊢;rw[cX hji]at hJ;split
        .rfl
        .exact hc j op' hj hJ e he
      .rw [hu];exact r'
     rcases hst with hst|⟨hg,hst⟩
     .have:=XC hst r (Kc:=wpAny P .any ops Q fuel (listed.setIfInBounds i true)) (Q:=Q) (λa' w' s' hw r'=>hnext a' w' (hw B a' w' r'));simpa using this
     .have:Region.wanted op (yielded ops a.tmps)=true:=by simp[Region.wanted,hg]
      simp only[this,gC];exact .inl (hst B a w _ Q r hnext)
 obtain⟨G,r⟩:=hr;have r2:Rel B s a {w with drawn:=w.drawn+1}:=⟨G,{len:=r.len,defs:=r.defs,ok:=λi ob g hl hlive=>(r.ok i ob g hl hlive).keeps (w':={w with drawn:=w.drawn+1}) ⟨λb h=>⟨h,rfl⟩,λ_ h=>h,λ_ _ _ h=>⟨h,rfl⟩,λ_ _ _ h=>h,λ_ _ _ _ _ h=>h⟩ (λ_ _=>rfl),apart:=r.apart,fresh:=r.fresh,tmps:=dU (w:=w) (E:=env B s.o G w) (w':={w with drawn:=w.drawn+1}) (E':=env B s.o G {w with drawn:=w.drawn+1}) ⟨λb h=>⟨h,rfl⟩,λ_ h=>h,λ_ _ _ h=>⟨h,rfl⟩,λ_ _ _ h=>h,λ_ _ _ _ _ h=>h⟩ _ _ _ (by simp) r.tmps,size:=r.size,frame:=r.frame,base:=r.base,same:=r.same.trans ⟨rfl,rfl,rfl⟩}⟩;have hJ:(λi=>(Array.replicate ops.size false).getD i false)=λ_=>false:=by funext i;simp only[fY,Array.getElem?_replicate];split<;>rfl
 refine key _ _ _ _ (by simp) (by simp[left]) (λk _=>congrFun hJ k) (by rw[hJ];intro j op _ h;cases h) ?_;rw[hJ];exact h0 _ _ _ r2
def jz(m:Nat)(z:List Nat)(k:Nat):Bool:=decide (k<m)&& !z.contains k
def uO(l:List Oper)(m:Nat):List Nat:=(range m).filter λj=> !(reach l m (nC l m)).contains j
def DR(F:List Nat->Prop):List Nat->List Nat->Prop
 |acc,[]=>F acc
 |acc,z::r=>DR F acc r/\DR F (z::acc) r
theorem RZ{F:List Nat->Prop}(p:Nat->Bool):∀(z acc:List Nat),DR F acc z->F ((z.filter p).reverse++acc)
 |[],acc,h=>by simpa [DR]using h
 |x::z,acc,h=>by
  simp only[DR]at h;by_cases hx:p x=true
  .have:=RZ p z (x::acc) h.2;rw[filter_cons_of_pos hx];simpa using this
  .have:=RZ p z acc h.1;rw[filter_cons_of_neg hx];exact this
theorem aQi{l:List Oper}{m:Nat}{op:Oper}{J:Nat->Bool}(hm:l[m]? =some op)(hc:Clo l J)(hhi:∀k,m<=k->J k=false)(hp:∀e∈pre op,J e=true):J=jz m ((uO l m).filter λk=> !J k).reverse:=by
 funext k;unfold jz;by_cases hk:k<m
 .simp only[hk,CD,Cp];cases hJ:J k with
  |true=>
   have:((uO l m).filter λk=> !J k).reverse.contains k=false:=by rw[contains_eq_mem];simp[hJ]
   rw[this];rfl
  |false=>
   have hs:k∈uO l m:=by
    unfold uO;rw[DQ];refine⟨by simpa using hk,?_⟩;have hpa:nC l m=pre op:=by simp[nC,hm]
    rw[hpa];cases hcn:(reach l m (pre op)).contains k with
    |false=>rfl
    |true=>rw[contains_eq_mem]at hcn;have:=Nl hc m (pre op) hp k (by simpa using hcn);rw[hJ]at this;cases this
   have:((uO l m).filter λk=> !J k).reverse.contains k=true:=by rw[contains_eq_mem];simp[hJ,hs]
   rw[this];rfl
 .rw [hhi k (by omega)];simp[hk]
def aEu(i:Nat)(pr:List Nat)(j:Nat)(op:Oper)(v:AV)(t:List AV):List AV:=
 match op.dst with
 |none=>t
 |some d=>if j=i then t else if j∈pr then t.set d v else if i∈pre op then t else t.set d .undef
def pX(i:Nat)(pr:List Nat):Nat->List Oper->List AV->List AV->List AV
 |_,[],_,t=>t
 |j,op::r,vs,t=>pX i pr (j+1) r vs.tail (aEu i pr j op (vs.headD .undef) t)
def Ba(J:Nat->Bool)(j:Nat)(op:Oper)(v:AV)(t:List AV):List AV:=
 match op.dst with
 |none=>t
 |some d=>if J j=true then t.set d v else t
def iM(J:Nat->Bool):Nat->List Oper->List AV->List AV->List AV
 |_,[],_,t=>t
 |j,op::r,vs,t=>iM J (j+1) r vs.tail (Ba J j op (vs.headD .undef) t)
theorem Sa:∀{t2 t:List AV} (d:Nat) {v2 v:AV},wk t2 t->(v=v2\/v= .undef)->wk (t2.set d v2) (t.set d v)
 |[],[],_,_,_,_,_=>trivial
 |[],_::_,_,_,_,h,_=>h.elim
 |_::_,[],_,_,_,h,_=>h.elim
 |_::_,_::_,0,_,_,h,hv=>⟨hv,h.2⟩
 |_::_,_::_,d+1,_,_,h,hv=>⟨h.1,Sa d h.2 hv⟩
theorem Li:∀{t2 t:List AV} (d:Nat),wk t2 t->wk t2 (t.set d .undef)
 |[],[],_,_=>trivial
 |[],_::_,_,h=>h.elim
 |_::_,[],_,h=>h.elim
 |_::_,_::_,0,h=>⟨.inr rfl,h.2⟩
 |_::_,_::_,d+1,h=>⟨h.1,Li d h.2⟩
theorem Nq:∀{t2 t:List AV},wk t2 t->t2.length=t.length
 |[],[],_=>rfl
 |[],_::_,h=>h.elim
 |_::_,[],h=>h.elim
 |_::_,_::_,h=>by simp[Nq h.2]
theorem lC:∀t:List AV,wk t t
 |[]=>trivial
 |_::xs=>⟨.inl rfl,lC xs⟩
theorem Nr{J:Nat->Bool}{i:Nat}{pr:List Nat}(hi:J i=false)(hpr:∀e∈pr,J e=true/\e<i):
  ∀(l:List Oper) (j:Nat) (vs vs':List AV) (t2 t:List AV),(∀k op,l[k]? =some op->J (j+k)=true->∀e∈pre op,J e=true)->(∀k,j+k<i->vs'.getD k .undef=vs.getD k .undef)->wk t2 t->wk (iM J j l vs t2) (pX i pr j l vs' t)
 |[],_,_,_,_,_,_,_,h=>h
 |op::r,j,vs,vs',t2,t,hc,hv,h=>by
  simp only[iM,pX];refine Nr hi hpr r (j+1) vs.tail vs'.tail _ _ (λk q hk hJ=>hc (k+1) q (by simpa using hk) (by rwa[show j+(k+1)=j+1+k by omega])) (λk hk=>by
   have:=hv (k+1) (by omega);cases vs<;>cases vs'<;>simpa [getD]using this) ?_
  have h0:j<i->vs'.headD .undef=vs.headD .undef:=λhj=>by have:=hv 0 (by omega);cases vs<;>cases vs'<;>simpa [getD]using this
  unfold Ba aEu;cases hd:op.dst with
  |none=>exact h
  |some d=>
   dsimp only;by_cases hji:j=i
   .subst hji;rw[eK rfl,cX (by rw[hi];simp)];exact h
   .rw [cX hji];by_cases hp:j∈pr
    .rw [eK hp,eK (hpr j hp).1];exact Sa d h (.inl (h0 (hpr j hp).2))
    .rw [cX hp];by_cases hq:i∈pre op
     .rw [eK hq];have:J j≠true:=λhJ=>by
       have:=hc 0 op rfl hJ i hq;rw[hi]at this;cases this
      rw[cX this];exact h
     .rw [cX hq];split
      .exact Sa d h (.inr rfl)
      .exact Li d h
theorem VV{J:Nat->Bool}(d:Nat)(x:AV):∀(l:List Oper) (j:Nat) (vs:List AV) (t:List AV),(∀op∈l,op.dst≠some d)->iM J j l vs (t.set d x)=(iM J j l vs t).set d x
 |[],_,_,_,_=>rfl
 |op::r,j,vs,t,h=>by
  simp only[iM];rw[<-VV d x r (j+1) vs.tail _ (λq hq=>h q (by simp[hq]))];congr 1;unfold Ba;cases hd:op.dst with
  |none=>rfl
  |some d'=>
   dsimp only;have:d'≠d:=λe=>h op (by simp) (by rw[hd,e])
   split
   .rw [set_comm _ _ (Ax this)]
   .rfl
theorem CF{J J':Nat->Bool}:∀(l:List Oper) (j:Nat) (vs:List AV) (t:List AV),(∀k,k<l.length->J (j+k)=J' (j+k))->iM J j l vs t=iM J' j l vs t
 |[],_,_,_,_=>rfl
 |op::r,j,vs,t,h=>by
  simp only[iM];have h0:J j=J' j:=h 0 (by simp);have:Ba J j op (vs.headD .undef) t=Ba J' j op (vs.headD .undef) t:=by unfold Ba;rw[h0]
  rw[this];exact CF r (j+1) vs.tail _ λk hk=>by
   have:=h (k+1) (by simpa using hk)
   rwa[show j+(k+1)=j+1+k by omega]at this
def distinct:List Oper->Bool
 |[]=>true
 |op::r=>(match op.dst with
  |none=>true
  |some d=>r.all λq=>decide (q.dst≠some d))&&distinct r
theorem Hz{J:Nat->Bool}:∀(l:List Oper) (j i:Nat) (op:Oper) (vs:List AV) (t:List AV) (v:AV),distinct l=true->l[i]? =some op->J (j+i)=false->vs.getD i .undef=v->
  iM (uQ J (j+i)) j l vs t=uJ (iM J j l vs t) op.dst v
 |[],_,_,_,_,_,_,_,h,_,_=>by simp at h
 |q::r,j,0,op,vs,t,v,hd,h,hJ,hv=>by
  simp at h;subst h;simp only[iM,rK]at hJ⊢;rw[CF (J:=uQ J j) (J':=J) r (j+1) vs.tail _ (λk _=>by unfold uQ;rw[cX (by omega)])];have h1:Ba (uQ J j) j q (vs.headD .undef) t=uJ t q.dst v:=by
   have hv':vs.headD .undef=v:=by cases vs<;>simpa [getD]using hv
   unfold Ba uJ;rw[hv'];cases q.dst with
   |none=>rfl
   |some d=>simp[uQ]
  have h2:Ba J j q (vs.headD .undef) t=t:=by
   unfold Ba;cases q.dst with
   |none=>rfl
   |some d=>simp[hJ]
  rw[h1,h2];cases hq:q.dst with
  |none=>rfl
  |some d=>simp only[distinct,hq,eJ,fN,fR]at hd;exact VV d v r (j+1) vs.tail t hd.1
 |q::r,j,i+1,op,vs,t,v,hd,h,hJ,hv=>by
  simp only[distinct,eJ]at hd;simp only[iM];have h1:Ba (uQ J (j+(i+1))) j q (vs.headD .undef) t=Ba J j q (vs.headD .undef) t:=by
   unfold Ba;have:uQ J (j+(i+1)) j=J j:=by unfold uQ;rw[cX (by omega)]
   rw[this]
  rw[h1,show j+(i+1)=j+1+i by omega];exact Hz r (j+1) i op vs.tail _ v hd.2 (by simpa using h) (by rwa[show j+1+i=j+(i+1)by omega]) (by cases vs<;>simpa [getD]using hv)
def oJ(J:Nat->Bool)(b:List aM):List (Nat×List aM)->List aM
 |[]=>b
 |q::r=>if J q.1=true then q.2 else oJ J b r
def top(b:List aM):List (Nat×List aM)->List aM
 |[]=>b
 |q::_=>q.2
def Fw(pr:List Nat):List (Nat×List aM)->Bool
 |[]=>true
 |q::_=>decide (q.1∈pr)
def wE(pr:List Nat)(n:Nat):Bool:=decide (n∈pr)
def CG(l:List Oper)(b:List aM):List (Nat×List aM)->Prop
 |[]=>True
 |q::r=>(∃new,q.2=top b r++new)/\(∀p,r.head? =some p->p.1<q.1/\∃op,l[q.1]? =some op/\p.1∈pre op)/\CG l b r
theorem aEv{l:List Oper}{b:List aM}(J:Nat->Bool):∀{h:List (Nat×List aM)},CG l b h->∃ext,top b h=oJ J b h++ext
 |[],_=>⟨[],by simp[top,oJ]⟩
 |q::r,hc=>by
  obtain⟨new,hn⟩:=hc.1;obtain⟨ext,he⟩:=aEv J hc.2.2;simp only[oJ,top];split
  .exact ⟨[],by simp⟩
  .exact ⟨ext++new,by rw[hn,he,rN]⟩
theorem vz{l:List Oper}{b:List aM}{J:Nat->Bool}{pr:List Nat}(hp:∀e∈pr,J e=true):∀{h:List (Nat×List aM)},CG l b h->∃ext,oJ J b h=oJ (wE pr) b h++ext
 |[],_=>⟨[],by simp[oJ]⟩
 |q::r,hc=>by
  simp only[oJ];by_cases hq:q.1∈pr
  .rw [eK (hp _ hq),eK (by simpa [wE]using hq)];exact⟨[],by simp⟩
  .rw [cX (show¬wE pr q.1=true by simpa [wE]using hq)];split
   .obtain ⟨new,hn⟩:=hc.1;obtain⟨ext,he⟩:=aEv (wE pr) hc.2.2;exact⟨ext++new,by rw[hn,he,rN]⟩
   .exact vz hp hc.2.2
theorem XE(J:Nat->Bool)(b:List aM):∀{s h:List (Nat×List aM)},(∀q∈s,J q.1=false)->oJ J b (s++h)=oJ J b h
 |[],_,_=>rfl
 |q::s,h,hs=>by simp only[eA,oJ];rw[cX (by rw[hs q (by simp)];simp)];exact XE J b λp hp=>hs p (by simp[hp])
theorem OO{l:List Oper}{b:List aM}{J:Nat->Bool}(hJ:Clo l J):∀{s h:List (Nat×List aM)} {q:Nat×List aM},CG l b (s++q::h)->J q.1=false->∀p∈s,J p.1=false
 |[],_,_,_,_=>λ_ hp=>by cases hp
 |x::s,h,q,hc,hq=>by
  have ih:=OO hJ hc.2.2 hq;intro p hp;rcases lB.1 hp with rfl|hp
  .cases hJx:J p.1 with
   |false=>rfl
   |true=>
    exfalso;cases s with
    |nil=>obtain⟨_,op,h1,h2⟩:=hc.2.1 q rfl;have:=hJ _ op h1 hJx _ h2;rw[hq]at this;cases this
    |cons y s=>obtain⟨_,op,h1,h2⟩:=hc.2.1 y rfl;have:=hJ _ op h1 hJx _ h2;rw[ih y (by simp)]at this;cases this
  .exact ih p hp
def flv(J:Nat->Bool)(dead:Bool)(q:Nat×Nat×List AV):aM:=
 if J q.1=true then⟨true,true,q.2.2.length,1,[q.2.2]⟩else⟨!dead,false,q.2.2.length,0,[]⟩
def tH(J:Nat->Bool)(dead:Bool):List (Nat×Nat×List AV)->List aM->List aM
 |[],o=>o
 |q::r,o=>tH J dead r (o.set q.2.1 (flv J dead q))
def Gg:Nat->Bool:=λ_=>false
def ZY(fl:List (Nat×Nat×List AV))(n:Nat):Bool:=decide (fl.map (·.1)).Nodup&&(decide (fl.map (·.2.1)).Nodup&&fl.all λq=>decide (q.2.1<n))
theorem rO(J:Nat->Bool)(d:Bool):∀(fl:List (Nat×Nat×List AV)) (o:List aM),(tH J d fl o).length=o.length
 |[],_=>rfl
 |q::r,o=>by simp only[tH];rw[rO J d r];simp
theorem Gh{J:Nat->Bool}{d:Bool}{i:Nat}:∀{fl:List (Nat×Nat×List AV)} {o:List aM},(∀q∈fl,q.2.1≠i)->(tH J d fl o)[i]? =o[i]?
 |[],_,_=>rfl
 |q::r,o,h=>by simp only[tH];rw[Gh λp hp=>h p (by simp[hp]),lE (h q (by simp))]
theorem CJ{J:Nat->Bool}{d:Bool}:∀{fl:List (Nat×Nat×List AV)} {o:List aM} {q:Nat×Nat×List AV},(fl.map (·.2.1)).Nodup->q∈fl->q.2.1<o.length->(tH J d fl o)[q.2.1]? =some (flv J d q)
 |p::r,o,q,hn,hq,hl=>by
  simp only[tH];simp only[mC,lR]at hn;rcases lB.1 hq with rfl|hq
  .rw [Gh λp hp e=>hn.1 (AM.2 ⟨p,hp,e⟩),mB hl]
  .exact CJ hn.2 hq (by simpa using hl)
theorem QE{J:Nat->Bool}{d:Bool}{n:List aM}:∀{fl:List (Nat×Nat×List AV)} {o:List aM},(∀q∈fl,q.2.1<o.length)->tH J d fl (o++n)=tH J d fl o++n
 |[],_,_=>rfl
 |q::r,o,h=>by simp only[tH];rw[set_append_left _ _ (h q (by simp)),QE λp hp=>by simpa using h p (by simp[hp])]
theorem M5{fl:List (Nat×Nat×List AV)}{o o':List aM}(hl:o.length=o'.length)(h:∀q∈fl,o[q.2.1]? =o'[q.2.1]?)(h2:∀i,(∀q∈fl,q.2.1≠i)->o[i]? =o'[i]?):o=o':=by
 refine BY λi=> ?_
 by_cases hi:∃q∈fl,q.2.1=i
 .obtain ⟨q,hq,rfl⟩:=hi;exact h q hq
 .exact h2 i λq hq e=>hi ⟨q,hq,e⟩
theorem aI3{J J':Nat->Bool}{d d':Bool}{fl:List (Nat×Nat×List AV)}{o:List aM}(hn:(fl.map (·.2.1)).Nodup)(hs:∀q∈fl,q.2.1<o.length):tH J d fl (tH J' d' fl o)=tH J d fl o:=
 M5 (fl:=fl) (by simp[rO]) (λq hq=>by rw[CJ hn hq (by rw[rO];exact hs q hq),CJ hn hq (hs q hq)]) (λi hi=>by rw[Gh hi,Gh hi,Gh hi])
theorem VW{J J':Nat->Bool}{d:Bool}:∀{fl:List (Nat×Nat×List AV)} {o:List aM},(∀q∈fl,J q.1=J' q.1)->tH J d fl o=tH J' d fl o
 |[],_,_=>rfl
 |q::r,o,h=>by
  simp only[tH];have:flv J d q=flv J' d q:=by unfold flv;rw[h q (by simp)]
  rw[this,VW λp hp=>h p (by simp[hp])]
theorem HV{α β:Type}(f:α->β):∀(L:List α),(L.map f).Nodup->∀p q,p∈L->q∈L->f p=f q->p=q
 |[],_,_,_,h,_,_=>by cases h
 |x::L,hn,p,q,hp,hq,e=>by
  simp only[mC,lR]at hn;rcases lB.1 hp with hp'|hp'
  .rcases lB.1 hq with hq'|hq'
   .rw [hp',hq']
   .exfalso;exact hn.1 (AM.2 ⟨q,hq',by rw[<-e,hp']⟩)
  .rcases lB.1 hq with hq'|hq'
   .exfalso;exact hn.1 (AM.2 ⟨p,hp',by rw[e,hq']⟩)
   .exact HV f L hn.2 p q hp' hq' e
theorem aI4{J:Nat->Bool}{d:Bool}{fl:List (Nat×Nat×List AV)}{o:List aM}{q:Nat×Nat×List AV}(hn1:(fl.map (·.1)).Nodup)(hn:(fl.map (·.2.1)).Nodup)(hs:∀q∈fl,q.2.1<o.length)(hq:q∈fl):
  tH (uQ J q.1) d fl o=(tH J d fl o).set q.2.1 ⟨true,true,q.2.2.length,1,[q.2.2]⟩:=by
 have hinj:∀p∈fl,p.1=q.1->p=q:=λp hp e=>HV (·.1) fl hn1 p q hp hq e
 have aQj:∀p∈fl,p.2.1=q.2.1->p=q:=λp hp e=>HV (·.2.1) fl hn p q hp hq e
 refine M5 (fl:=fl) (by simp[rO]) (λp hp=> ?_) (λi hi=> ?_)
 .rw [CJ hn hp (hs p hp)];by_cases hpq:p=q
  .subst hpq;rw[mB (by rw[rO];exact hs p hp)];simp[flv,uQ]
  .rw [lE (λe=>hpq (aQj p hp e.symm)),CJ hn hp (hs p hp)]
   have:uQ J q.1 p.1=J p.1:=by unfold uQ;rw[cX (λe=>hpq (hinj p hp e))]
   simp[flv,this]
 .rw [Gh hi,lE (hi q hq),Gh hi]
theorem aI5{J:Nat->Bool}{pr:List Nat}{fl:List (Nat×Nat×List AV)}{o ext:List aM}(hn:(fl.map (·.2.1)).Nodup)(hs:∀q∈fl,q.2.1<o.length)(hp:∀e∈pr,J e=true):
  Sub (tH (wE pr) true fl o) (tH J false fl (o++ext)):=by
 intro i ob h hl;by_cases hi:∃q∈fl,q.2.1=i
 .obtain ⟨q,hq,rfl⟩:=hi;rw[CJ hn hq (hs q hq)]at h;obtain rfl:=cQ h;rw[CJ hn hq (by have:=hs q hq;simp;omega)];unfold flv at hl⊢;by_cases hb:wE pr q.1=true
  .rw [eK hb,eK (hp q.1 (by simpa [wE]using hb))]
  .rw [cX hb]at hl;cases hl
 .have hi':∀q∈fl,q.2.1≠i:=λq hq e=>hi ⟨q,hq,e⟩
  rw[Gh hi']at h⊢;rw[pL (cH.1 h).1];exact h
theorem M6{l:List Oper}{b:List aM}{J:Nat->Bool}{h:List (Nat×List aM)}(hc:CG l b h):∃ext,oJ J b h=b++ext:=by
 obtain⟨ext,he⟩:=vz (J:=J) (pr:=[]) (by simp) hc;have:∀h:List (Nat×List aM),oJ (wE []) b h=b:=by
  intro h;induction h with
  |nil=>rfl
  |cons q r ih=>simp[oJ,ih,wE]
 exact⟨ext,by rw[he,this]⟩
theorem XF{fl:List (Nat×Nat×List AV)}{b:List aM}(J:Nat->Bool)(hb:tH Gg true fl b=b):∀{h:List (Nat×List aM)},(∀q∈h,tH Gg true fl q.2=q.2)->tH Gg true fl (oJ J b h)=oJ J b h
 |[],_=>hb
 |q::r,h=>by
  simp only[oJ];split
  .exact h q (by simp)
  .exact XF J hb λp hp=>h p (by simp[hp])
def Gi(op:Oper)(s:AS):AV:=match op.dst with
 |some d=>s.t.getD d .undef
 |none=> .undef
def nN(P:Program)[aC P](l:List Oper)(t:List AV)(b:List aM)(fl:List (Nat×Nat×List AV))(K:AS->Prop):Nat->List Oper->List AV->List (Nat×List aM)->Prop
 |i,[],vs,h=>K ⟨iM (λ_=>true) 0 l vs t,tH (λk=>decide (k<i)) false fl (top b h)⟩
 |i,op::r,vs,h=>(∃q∈fl,q.1=i/\op.guard=none/\(∃T,op.op= .alloc T/\qV P T=some q.2.2)/\(∀e∈pre op,e<i)/\nN P l t b fl K (i+1) r (vs++[.ptr q.2.1 1 0 0]) h)\/
   ((∀q∈fl,q.1≠i)/\nU op.op ⟨pX i (pre op) 0 l vs t,tH (wE (pre op)) true fl (oJ (wE (pre op)) b h)⟩=true/\(∀e∈pre op,e<i)/\
   sN P l op ⟨pX i (pre op) 0 l vs t,tH (wE (pre op)) true fl (oJ (wE (pre op)) b h)⟩ λs'=>
    (Fw (pre op) h=true\/s'.o.length=(oJ (wE (pre op)) b h).length)/\
    nN P l t b fl K (i+1) r (vs++[Gi op s']) (if s'.o.length=(oJ (wE (pre op)) b h).length then h else(i,tH Gg true fl s'.o)::h))\/
   (yE l i=true/\DR (λz=>Ag P l K (left ((range l.length).map (jz i z))) ((range l.length).map (jz i z)) ⟨iM (jz i z) 0 l vs t,tH (jz i z) false fl (oJ (jz i z) b h)⟩) [] (uO l i))\/
   (yE l i=true/\EG l i=true/\kU P l (op::r) ⟨iM (λk=>decide (k<i)) 0 l vs t,tH (λk=>decide (k<i)) false fl (top b h)⟩ K)
structure Item(P:Program)[aC P](l:List Oper)(t:List AV)(b:List aM)(fl:List (Nat × Nat × List AV))(j:Nat)(op:Oper)(vs:List AV)(hf:List (Nat × List aM)): Prop where
  pre:∀ e ∈ pre op, e<j
  ex:(∃ q ∈ fl, q.1 = j /\ op.guard = none /\ (∃ T, op.op = .alloc T /\ qV P T = some q.2.2) /\ vs.getD j .undef = .ptr q.2.1 1 0 0 /\ ∀ p ∈ hf, p.1 ≠ j) \/
    ((∀ q ∈ fl, q.1 ≠ j) /\ ∃ x new hj VX, nU op.op ⟨pX j (Aw.pre op) 0 l (vs.take j) t, tH (wE (Aw.pre op)) true fl (oJ (wE (Aw.pre op)) b hj)⟩ = true /\ hf = VX ++ hj /\ (∀ q ∈ hj, q.1<j) /\ (vs.getD j .undef = x \/ vs.getD j .undef = .undef) /\
    sN P l op ⟨pX j (Aw.pre op) 0 l (vs.take j) t, tH (wE (Aw.pre op)) true fl (oJ (wE (Aw.pre op)) b hj)⟩ (λs' => s' = ⟨uJ (pX j (Aw.pre op) 0 l (vs.take j) t) op.dst x, tH (wE (Aw.pre op)) true fl (oJ (wE (Aw.pre op)) b hj) ++ new⟩) /\
    ((new = [] /\ ∀ q ∈ VX, j<q.1) \/ (Fw (Aw.pre op) hj = true /\ ∃ s2, VX = s2 ++ [(j, oJ (wE (Aw.pre op)) b hj ++ new)] /\ ∀ q ∈ s2, j<q.1)))
theorem ZZ{b:List aM}{pr:List Nat}{h:List (Nat×List aM)}(ht:Fw pr h=true):oJ (wE pr) b h=top b h:=by
 cases h with
 |nil=>rfl
 |cons q r=>simp only[Fw]at ht;simp only[oJ,top,wE,ht,gC]
theorem VY{P:Program}[aC P]{op:Oper}{t t2:List AV}{o o2:List aM}{K:AS->Prop}(h:UI P op ⟨t,o⟩ K):
  ∃x new x2,K ⟨uJ t op.dst x,o++new⟩/\(x=x2\/x= .undef)/\(o2.length=o.length\/new=[])/\∀K2:AS->Prop,K2 ⟨uJ t2 op.dst x2,o2++new⟩->UI P op ⟨t2,o2⟩ K2:=by
 obtain⟨dst,op,ty,pos,after,gd⟩:=op;unfold UI at h;dsimp only at h;split at h
 .split at h
  .rename_i e n by' he;refine⟨.sl .own n [],[],.sl .own n [],by rw[fW,<-put_eq];exact h.2,.inl rfl,.inr rfl,λK2 hK=> ?_⟩;rw[fW]at hK;rename_i tt _;show(match mU P tt with
    |some (e,n,_)=>iW P e n=true/\K2 (AS.put ⟨t2,o2⟩ dst (.sl .own n []))
    |none=>False)
   rw[he];exact⟨h.1,by rw[put_eq];exact hK⟩
  .exact h.elim
 .exact h.elim
theorem CK{P:Program}[aC P]{l:List Oper}{op:Oper}{t t2:List AV}{o o2:List aM}{K:AS->Prop}(q:nU op.op ⟨t,o⟩=true)(hw:wk t2 t)(h:sN P l op ⟨t,o⟩ K)(hs:Sub o o2)(AB:o2.length=o.length\/∀s',K s'->s'.o.length=o.length):
  ∃x new x2,K ⟨uJ t op.dst x,o++new⟩/\(x=x2\/x= .undef)/\(o2.length=o.length\/new=[])/\∀K2:AS->Prop,K2 ⟨uJ t2 op.dst x2,o2++new⟩->sN P l op ⟨t2,o2⟩ K2:=by
 unfold sN at h;split at h
 .rename_i hg;rcases h with h|h
  .obtain ⟨x,new,x2,h1,h2,h3,h4⟩:=ZH q hw h hs AB;exact⟨x,new,x2,h1,h2,h3,λK2 hK=>by unfold sN;simp only[hg];exact .inl (h4 K2 hK)⟩
  .obtain ⟨x,new,x2,h1,h2,h3,h4⟩:=VY (t2:=t2) (o2:=o2) h;exact⟨x,new,x2,h1,h2,h3,λK2 hK=>by unfold sN;simp only[hg];exact .inr (h4 K2 hK)⟩
 .rename_i j want hg;split at h
  .rename_i b hb;have hb2:sJ l ⟨t2,o2⟩ j want= .bool b:=by
    unfold sJ at hb⊢;split at hb
    .rename_i o' ho';split at hb
     .rename_i d hd;rcases uu d hw with e|e
      .rw [<-e];exact hb
      .rw [e]at hb;cases hb
     .cases hb
    .cases hb
   by_cases hbw:b=want
   .rcases h.1 hbw with h|h
    .obtain ⟨x,new,x2,h1,h2,h3,h4⟩:=ZH q hw h hs AB;exact⟨x,new,x2,h1,h2,h3,λK2 hK=>by unfold sN;simp only[hg,hb2];exact⟨λ_=> .inl (h4 K2 hK),λhn=>absurd hbw hn⟩⟩
    .obtain ⟨x,new,x2,h1,h2,h3,h4⟩:=VY (t2:=t2) (o2:=o2) h;exact⟨x,new,x2,h1,h2,h3,λK2 hK=>by unfold sN;simp only[hg,hb2];exact⟨λ_=> .inr (h4 K2 hK),λhn=>absurd hbw hn⟩⟩
   .have h1:=h.2 hbw;rw[put_eq]at h1;exact⟨.gT [],[],.gT [],by rw[fW];exact h1,.inl rfl,.inr rfl,λK2 hK=>by
     unfold sN;simp only[hg,hb2];refine⟨λhn=>absurd hn hbw,λ_=> ?_⟩;rw[put_eq];rw[fW]at hK;exact hK⟩
  .exact h.elim
def aTq(P:Program)[aC P](l:List Oper)(t:List AV)(b:List aM)(fl:List (Nat×Nat×List AV))(K:AS->Prop)(m:Nat)(vs:List AV)(h:List (Nat×List aM)):Prop:=
 (m=l.length/\K ⟨iM (λ_=>true) 0 l vs t,tH (λk=>decide (k<m)) false fl (top b h)⟩)\/
 (m<l.length/\yE l m=true/\DR (λz=>Ag P l K (left ((range l.length).map (jz m z))) ((range l.length).map (jz m z)) ⟨iM (jz m z) 0 l vs t,tH (jz m z) false fl (oJ (jz m z) b h)⟩) [] (uO l m))\/
 (m<l.length/\yE l m=true/\EG l m=true/\kU P l (l.drop m) ⟨iM (λk=>decide (k<m)) 0 l vs t,tH (λk=>decide (k<m)) false fl (top b h)⟩ K)
theorem HY{P:Program}[aC P]{l:List Oper}{t:List AV}{b:List aM}{fl:List (Nat × Nat × List AV)}{K:AS -> Prop}(hnd:(fl.map (·.2.1)).Nodup)(hsl:∀ q ∈ fl, q.2.1<b.length)(hb:tH Gg true fl b = b): ∀ (r:List Oper) (i:Nat) (vs:List AV) (h:List (Nat × List aM)), l.drop i = r -> vs.length = i -> i <= l.length -> (∀ q ∈ h, q.1<i) -> (∀ q ∈ h, tH Gg true fl q.2 = q.2) -> CG l b h -> nN P l t b fl K i r vs h ->
    ∃ m vs' hf, i <= m /\ aTq P l t b fl K m (vs ++ vs') hf /\ CG l b hf /\ (∃ VX, hf = VX ++ h /\ ∀ q ∈ VX, i <= q.1 /\ q.1<m) /\ (∀ q ∈ hf, tH Gg true fl q.2 = q.2) /\ ∀ j op, i <= j -> j<m -> l[j]? = some op -> Item P l t b fl j op (vs ++ vs') hf
  | [], i, vs, h, hr, hv, hi, hlt, hN, hc, hd => by
    have hil : i = l.length := by have : l.length <= i := by simpa using hr
                                  omega
    subst hil;refine⟨l.length, [], h, eE _, ?_, hc, ⟨[], rfl, by simp⟩, hN, λj op hij hj => by omega⟩;simp only[nN]at hd;exact .inl ⟨rfl, by simpa using hd⟩
  | op :: r, i, vs, h, hr, hv, hi, hlt, hN, hc, hd => by
    have hil:i<l.length := by
      rcases sL i l.length with h' | h'
      · exact h'
      · rw[AE h']at hr; cases hr
    have hop:l[i]? = some op := by
      have := As head? hr;rw[head?_drop]at this; simpa using this
    have hdr:l.drop (i+1) = r := by rw[<- AD, hr]; rfl
    simp only[nN]at hd;rcases hd with⟨q, hq, hqi, hg, hT, hpr, hd⟩ | ⟨hnf, hq, hpr, ha⟩ | ⟨htl, ha⟩ | ⟨htl, aTr, ha⟩;case inr.inr.inr =>
      refine⟨i, [], h, eE _, ?_, hc, ⟨[], rfl, by simp⟩, hN, λj op' hij hj => by omega⟩;rw[fW];exact .inr (.inr ⟨hil, htl, aTr, by rw[hr]; exact ha⟩)
    case inr.inr.inl =>
      refine⟨i, [], h, eE _, ?_, hc, ⟨[], rfl, by simp⟩, hN, λj op' hij hj => by omega⟩;rw[fW];exact .inr (.inl ⟨hil, htl, ha⟩)
    case inl =>
      obtain⟨m, vs', hf, km, k1, k2, ⟨VX, k3, k4⟩, k6, k5⟩ := HY hnd hsl hb r (i+1) (vs ++ [.ptr q.2.1 1 0 0]) h hdr (by simp[hv]) (by omega) (λq hq => by have := hlt q hq; omega) hN hc hd;refine⟨m, .ptr q.2.1 1 0 0 :: vs', hf, by omega, by simpa using k1, k2, ⟨VX, k3, λq hq => by have := k4 q hq; omega⟩, k6, λj op' hij hjm hj => ?_⟩;by_cases hji:j = i
      · subst hji
        rw[hop]at hj; obtain rfl := cQ hj;refine⟨hpr, .inl ⟨q, hq, hqi, hg, hT, ?_, λp hp => ?_⟩⟩
        · rw[iS, hY (by omega), hv, zE]; rfl
        · rw[k3]at hp
          rcases fL.1 hp with hp | hp
          · have := k4 p hp; omega
          · have := hlt p hp; omega
      · have := k5 j op' (by omega) hjm hj
        simpa using this
    have hsub:Sub (tH (wE (pre op)) true fl (oJ (wE (pre op)) b h)) (tH (wE (pre op)) true fl (oJ (wE (pre op)) b h)) := λ_ _ h _ => h
    obtain⟨x, new, x2, ⟨h1, h2⟩, _, _, h3⟩ := CK hq (lC _) ha hsub (.inl rfl);have h4 := h3 (λs' => s' = ⟨uJ (pX i (pre op) 0 l vs t) op.dst x2, tH (wE (pre op)) true fl (oJ (wE (pre op)) b h) ++ new⟩) rfl;have hval:∀ (y:AV) (os:List aM), Gi op ⟨uJ (pX i (pre op) 0 l vs t) op.dst y, os⟩ = y \/ Gi op ⟨uJ (pX i (pre op) 0 l vs t) op.dst y, os⟩ = .undef := by
      intro y os;unfold Gi uJ;cases op.dst with
      | none => exact .inr rfl
      | some d =>
        dsimp only;rw[iS, getElem?_set_self'];cases (pX i (pre op) 0 l vs t)[d]? with
        | none => exact .inr rfl
        | some z => exact .inl rfl
    obtain⟨aW4, hbase⟩ := M6 (J := wE (pre op)) hc;have aMw:∀ q ∈ fl, q.2.1<(oJ (wE (pre op)) b h).length := λq hq => by rw[hbase]; have := hsl q hq; simp; omega
    have aQk:tH Gg true fl (tH (wE (pre op)) true fl (oJ (wE (pre op)) b h) ++ new) = oJ (wE (pre op)) b h ++ new := by
      rw[QE (by rw[rO]; exact aMw), aI3 hnd aMw, XF _ hb hN]
    simp only[aQk]at h2;generalize hvv:Gi op ⟨uJ (pX i (pre op) 0 l vs t) op.dst x, tH (wE (pre op)) true fl (oJ (wE (pre op)) b h) ++ new⟩ = vv at h2;have hvx:vv = x2 \/ vv = .undef := by
      rcases hval x (tH (wE (pre op)) true fl (oJ (wE (pre op)) b h) ++ new)with e | e
      · rw[hvv]at e; subst e; assumption
      · rw[hvv]at e; exact .inr e
    have hlen:((tH (wE (pre op)) true fl (oJ (wE (pre op)) b h) ++ new).length = (oJ (wE (pre op)) b h).length) ↔ new = [] := by
      rw[eR, rO]; constructor
      · intro e; exact lO (by omega)
      · rintro rfl; simp
    have item:∀ (vs':List AV) (hf:List (Nat × List aM)), ((∃ VX, hf = VX ++ h /\ new = [] /\ ∀ q ∈ VX, i<q.1) \/ (Fw (pre op) h = true /\ ∃ s2, hf = s2 ++ (i, oJ (wE (pre op)) b h ++ new) :: h /\ ∀ q ∈ s2, i<q.1)) -> Item P l t b fl i op ((vs ++ [vv]) ++ vs') hf := by
      intro vs' hf hcase;have e1:((vs ++ [vv]) ++ vs').take i = vs := by rw[rN, take_left' hv]
      have e2:((vs ++ [vv]) ++ vs').getD i .undef = vv := by
        rw[rN, iS, hY (by omega), hv, zE]; rfl
      refine⟨hpr, .inr ⟨hnf, x2, new, h, ?_⟩⟩;rw[e1, e2];rcases hcase with⟨VX, rfl, hn, hs⟩ | ⟨ht, s2, rfl, hs⟩
      · exact⟨VX, hq, rfl, hlt, hvx, h4, .inl ⟨hn, hs⟩⟩
      · exact⟨s2 ++ [(i, oJ (wE (pre op)) b h ++ new)], hq, by simp, hlt, hvx, h4, .inr ⟨ht, s2, rfl, hs⟩⟩
    by_cases hnew:new = []
    · rw[eK (hlen.2 hnew)]at h2
      obtain⟨m, vs', hf, km, k1, k2, ⟨VX, k3, k4⟩, k6, k5⟩ := HY hnd hsl hb r (i+1) (vs ++ [vv]) h hdr (by simp[hv]) (by omega) (λq hq => by have := hlt q hq; omega) hN hc h2;refine⟨m, vv :: vs', hf, by omega, by simpa using k1, k2, ⟨VX, k3, λq hq => by have := k4 q hq; omega⟩, k6, λj op' hij hjm hj => ?_⟩;by_cases hji:j = i
      · subst hji
        rw[hop]at hj; obtain rfl := cQ hj;have := item vs' hf (.inl ⟨VX, k3, hnew, λq hq => by have := k4 q hq; omega⟩);simpa using this
      · have := k5 j op' (by omega) hjm hj
        simpa using this
    · rw[cX (λe => hnew (hlen.1 e))]at h2
      have ht:Fw (pre op) h = true := h1.resolve_right (λe => hnew (hlen.1 e));have hc':CG l b ((i, oJ (wE (pre op)) b h ++ new) :: h) := by
        refine⟨⟨new, by rw[ZZ ht]⟩, λp hp => ?_, hc⟩;cases h with
        | nil => cases hp
        | cons q h =>
          obtain rfl := cQ hp;exact⟨hlt _ (by simp), op, hop, by simpa [Fw]using ht⟩
      obtain⟨m, vs', hf, km, k1, k2, ⟨VX, k3, k4⟩, k6, k5⟩ := HY hnd hsl hb r (i+1) (vs ++ [vv]) _ hdr (by simp[hv]) (by omega) (λq hq => by
        rcases lB.1 hq with rfl | hq
        · simp
        · have := hlt q hq; omega) (λq hq => by
        rcases lB.1 hq with rfl | hq
        · show tH Gg true fl (oJ (wE (pre op)) b h ++ new) = _
          rw[QE aMw, XF _ hb hN]
        · exact hN q hq) hc' h2
      refine⟨m, vv :: vs', hf, by omega, by simpa using k1, k2, ⟨VX ++ [(i, oJ (wE (pre op)) b h ++ new)], by simp[k3], λq hq => by
        rcases fL.1 hq with hq | hq
        · have := k4 q hq; omega
        · simp at hq; subst hq; exact⟨by simp, by omega⟩⟩, k6, λj op' hij hjm hj => ?_⟩
      by_cases hji:j = i
      · subst hji
        rw[hop]at hj; obtain rfl := cQ hj;have := item vs' hf (.inr ⟨ht, VX, k3, λq hq => by have := k4 q hq; omega⟩);simpa using this
      · have := k5 j op' (by omega) hjm hj
        simpa using this
theorem aAk{P:Program}[aC P]{id:Nat}{l:List Oper}{s:AS}{Q:Exit->AS->Prop}{fl:List (Nat×Nat×List AV)}{b:List aM}(hfw:OM l=true)(hdst:distinct l=true)(hfl:ZY fl b.length=true)(hb:tH Gg true fl b=b)(hb0:tH Gg false fl b=s.o++(fl.map (·.2.2.length)).map λn=>⟨true,false,n,0,[]⟩)
  (h:nN P l s.t b fl (Q .normal) 0 l [] []):uY P (.region id l.toArray true) s Q:=by
 simp only[ZY,eJ,fR,fN]at hfl;obtain⟨aTs,hnd,hsl⟩:=hfl;obtain⟨m,vs,hf,_,hK,hc,⟨aQl,aLc,UQ⟩,hN,hit⟩:=HY hnd hsl hb l 0 [] [] rfl rfl (by omega) (by simp) (by simp) trivial h;simp only[eM]at hK hit;have aTt:∀j op,j<m->l[j]? =some op->Item P l s.t b fl j op vs hf:=λj op hjm hj=>hit j op (by omega) hjm hj
 have aMx:∀J:Nat->Bool,∀q∈fl,q.2.1<(oJ J b hf).length:=λJ q hq=>by obtain⟨ext,he⟩:=M6 (J:=J) hc;rw[he];have:=hsl q hq;simp;omega
 unfold uY;have MQ:m<=l.length:=by
  rcases hK with h|h|h
  .omega
  .omega
  .omega
 have hrest:yE l m=true:=by
  rcases hK with h|h|h
  .rw [h.1];unfold yE;rw[fN];intro i hi;simp at hi;simp only[tI,fR];exact .inl (by omega)
  .exact h.2.1
  .exact h.2.1
 refine ZX (ops:=l.toArray) m (by simpa using MQ) (by simpa using hfw) (by simpa using hrest) (λJ=>⟨iM J 0 l vs s.t,tH J false fl (oJ J b hf)⟩) ?_ ?_ ?_
 .have e1:∀(l:List Oper) (j:Nat) (vs t:List AV),iM (λ_=>false) j l vs t=t:=by
   intro l;induction l with
   |nil=>intros;rfl
   |cons op r ih=>intro j vs t;simp only[iM];rw[ih];unfold Ba;cases op.dst<;>simp
  have e2:∀h:List (Nat×List aM),oJ (λ_=>false) b h=b:=by
   intro h;induction h with
   |nil=>rfl
   |cons q r ih=>simp[oJ,ih]
  rw[e1,e2];have e3:tH (λ_=>false) false fl b=_:=hb0;rw[e3];exact λ_ _ _ _ _ r=>QU _ r
 .intro i op him hi;have hi':l[i]? =some op:=by simpa using hi
  have it:=aTt i op him hi';intro J hJ hJm hJi hpre;have hJ':Clo l J:=by simpa using hJ
  rcases it.ex with⟨q,hq,hqi,hg,⟨T,hT,hz⟩,hval,hne⟩|⟨hnf,x,new,hj,VX,hqq,hfe,hlt,hvx,hop,hcase⟩
  .right;refine⟨hg,λB=> ?_⟩;have hoJ:∀h:List (Nat×List aM),(∀p∈h,p.1≠i)->oJ (uQ J i) b h=oJ J b h:=by
    intro h;induction h with
    |nil=>intro _;rfl
    |cons p r ih=>
     intro hq;simp only[oJ];rw[ih λp hp=>hq p (by simp[hp])];have:uQ J i p.1=J p.1:=by unfold uQ;rw[cX (hq p (by simp))]
     rw[this]
   have hto:iM (uQ J i) 0 l vs s.t=uJ (iM J 0 l vs s.t) op.dst (.ptr q.2.1 1 0 0):=by
    have:=Hz l 0 i op vs s.t (.ptr q.2.1 1 0 0) hdst hi' (by simpa using hJi) hval
    rwa[hM]at this
   have aTu:tH (uQ J i) false fl (oJ J b hf)=(tH J false fl (oJ J b hf)).set q.2.1 ⟨true,true,q.2.2.length,1,[q.2.2]⟩:=by rw[<-hqi];exact aI4 aTs hnd (aMx J) hq
   rw[hto,hoJ hf hne,aTu];have aQm:(tH J false fl (oJ J b hf))[q.2.1]? =some ⟨true,false,q.2.2.length,0,[]⟩:=by rw[CJ hnd hq (aMx J q hq)];unfold flv;rw[cX (by rw[hqi,hJi];simp)];rfl
   obtain⟨dst,o,ty,pos,after,gd⟩:=op;dsimp only at hT hg⊢;subst hT;have:=Xi (B:=B) (s:=⟨iM J 0 l vs s.t,tH J false fl (oJ J b hf)⟩) (dst:=dst) (ty:=ty) (pos:=pos) (after:=after) (gd:=gd) T hz aQm;rw[put_eq]at this;exact this
  left;have VZ:wk (iM J 0 l vs s.t) (pX i (pre op) 0 l (vs.take i) s.t):=
   Nr hJi (λe he=>⟨hpre e he,it.pre e he⟩) l 0 vs (vs.take i) s.t s.t (λk q hk hJk=>hJ' k q hk (by simpa using hJk)) (λk hk=>by
    rw[iS,iS,AW];simp[show k<i by omega]) (lC _)
  have aLd:∀(J':Nat->Bool) (s2:List (Nat×List aM)),(∀q∈s2,J' q.1=false)->∀h',oJ J' b (s2++h')=oJ J' b h':=λJ' s2 h1 h'=>XE J' b h1
  have aTw:∀q:Nat×List aM,i<=q.1->wE (pre op) q.1=false:=λq hq=>by
   cases hb:wE (pre op) q.1 with
   |false=>rfl
   |true=>have:=it.pre q.1 (by simpa [wE]using hb);omega
  have hoc:oJ (wE (pre op)) b hf=oJ (wE (pre op)) b hj:=by
   rw[hfe];refine XE _ _ λq hq=>aTw q ?_
   rcases hcase with⟨_,h1⟩|⟨_,s2,rfl,h1⟩
   .have:=h1 q hq;omega
   .rcases fL.1 hq with hq|hq
    .have:=h1 q hq;omega
    .simp at hq;subst hq;simp
  obtain⟨ext,AB⟩:=vz (J:=J) hpre hc;rw[hoc]at AB;have aQn:∀q∈fl,q.2.1<(oJ (wE (pre op)) b hj).length:=λq hq=>by rw[<-hoc];exact aMx _ q hq
  have Cs:(new=[]/\oJ (uQ J i) b hf=oJ J b hf)\/(ext=[]/\oJ (uQ J i) b hf=oJ (wE (pre op)) b hj++new):=by
   rcases hcase with⟨h1,h2⟩|⟨ht,s2,rfl,h2⟩
   .refine .inl ⟨h1,?_⟩;have:∀h:List (Nat×List aM),(∀q∈h,q.1≠i)->oJ (uQ J i) b h=oJ J b h:=by
     intro h;induction h with
     |nil=>intro _;rfl
     |cons q r ih=>
      intro hq;simp only[oJ];rw[ih λp hp=>hq p (by simp[hp])];have:uQ J i q.1=J q.1:=by unfold uQ;rw[cX (hq q (by simp))]
      rw[this]
    refine this hf λq hq=> ?_
    rw[hfe]at hq;rcases fL.1 hq with hq|hq
    .have:=h2 q hq;omega
    .have:=hlt q hq;omega
   .right;have aMz:hf=s2++(i,oJ (wE (pre op)) b hj++new)::hj:=by simp[hfe]
    have hs2:=OO hJ' (s:=s2) (by rw[<-aMz];exact hc) hJi;constructor
    .have h3:oJ J b hf=oJ J b hj:=by rw[aMz,aLd J s2 hs2];simp only[oJ];rw[cX (by rw[hJi];simp)]
     have h4:oJ J b hj=oJ (wE (pre op)) b hj:=by
      rw[ZZ ht];cases hj with
      |nil=>rfl
      |cons q r=>simp only[Fw,fR]at ht;simp only[oJ,top];rw[eK (hpre _ ht)]
     rw[h3,h4]at AB;have:=As length AB;rw[eR]at this;exact lO (by omega)
    .rw [aMz,aLd (uQ J i) s2 (λq hq=>by
      have:=h2 q hq;unfold uQ;rw[cX (by omega)];exact hs2 q hq)]
     simp[oJ,uQ]
  have hsub:Sub (tH (wE (pre op)) true fl (oJ (wE (pre op)) b hj)) (tH J false fl (oJ J b hf)):=by rw[AB];exact aI5 hnd aQn hpre
  obtain⟨x',new',x2,rfl',hx2,_,hfin⟩:=CK (o2:=tH J false fl (oJ J b hf)) hqq VZ hop hsub (by
   rcases Cs with⟨h1,_⟩|⟨h1,_⟩
   .right;rintro s' rfl;simp[h1]
   .left;rw[rO,rO,AB,h1,fW])
  refine hfin _ ?_;have hset:new'=new/\(uJ (pX i (pre op) 0 l (vs.take i) s.t) op.dst x'=uJ (pX i (pre op) 0 l (vs.take i) s.t) op.dst x):=by simp only[AS.mk.injEq,append_cancel_left_eq]at rfl';exact⟨rfl'.2,rfl'.1⟩
  have hto:wk (uJ (iM J 0 l vs s.t) op.dst x2) (iM (uQ J i) 0 l vs s.t):=by
   have:=Hz l 0 i op vs s.t (vs.getD i .undef) hdst hi' (by simpa using hJi) rfl;rw[hM]at this;rw[this];have hL:=Nq VZ;unfold uJ at hset⊢;cases hd:op.dst with
   |none=>exact lC _
   |some d=>
    rw[hd]at hset;dsimp only at hset⊢;rcases sL d (iM J 0 l vs s.t).length with hdl|hle
    .have hxx:x'=x:=by have:=As (λt=>t[d]?) hset.2;simpa [hL▸hdl]using this
     refine Sa d (lC _) ?_;rcases hvx with e|e
     .rw [e,<-hxx];assumption
     .exact .inr e
    .rw [By hle,By hle];exact lC _
  have aQo:∀o:List aM,tH (uQ J i) false fl o=tH J false fl o:=λo=>VW λq hq=>by unfold uQ;rw[cX (hnf q hq)]
  have aQp:tH J false fl (oJ J b hf)++new'=tH (uQ J i) false fl (oJ (uQ J i) b hf):=by
   rw[aQo,hset.1];rcases Cs with⟨h1,h2⟩|⟨h1,h2⟩
   .rw [h2,h1,fW]
   .rw [h2,QE aQn,AB,h1,fW]
  rw[aQp];exact wF hto
 .intro J hJ hJm hor;have hJ':Clo l J:=by simpa using hJ
  have hsz:l.toArray.size=l.length:=by simp
  rw[hsz];have e0:l.toArray.toList=l:=by simp
  rw[e0]at hor⊢;rcases hK with⟨hme,hK⟩|⟨aM0,_,hK⟩|⟨aM0,_,htl,hK⟩
  .left;have hall:∀i,i<l.length->J i=true:=by
    intro i hi;rcases hor with h|⟨op,hop,_⟩
    .exact h i (by omega)
    .have:=(cH.1 hop).1;omega
   have e3:(range l.length).map J=replicate l.length true:=by
    refine BY λi=> ?_
    rw[tA,getElem?_replicate];by_cases hi:i<l.length
    .simp [hi,hall i hi]
    .simp [hi]
   have e4:left (replicate l.length true)=0:=by
    unfold left;rw[filter_eq_nil_iff.2]
    .rfl
    .intro x hx;rw[(mem_replicate.1 hx).2];simp
   rw[e3,e4];simp only[Ag];have e5:iM J 0 l vs s.t=iM (λ_=>true) 0 l vs s.t:=CF l 0 vs s.t λk hk=>by rw[hM];exact hall k hk
   have e6:oJ J b hf=top b hf:=by
    cases hf with
    |nil=>rfl
    |cons q r=>
     simp only[oJ,top];rw[eK];have:=(UQ q (by
      have:q::r=aQl:=by simpa using aLc
      rw[<-this];simp)).2
     exact hall _ (by omega)
   have e7:tH J false fl (top b hf)=tH (λk=>decide (k<m)) false fl (top b hf):=by
    have:J=λk=>decide (k<m):=by
     funext k;by_cases hk:k<m
     .rw [hall k (by omega)];simp[hk]
     .rw [hJm k (by omega)];simp[hk]
    rw[this]
   rw[e5,e6,e7];exact hK
  .left;have hop:=aE aM0;have hpre:∀e∈pre l[m],J e=true:=by
    rcases hor with h|⟨op,hop',h⟩
    .exact λe he=>h e (Np hfw hop e he)
    .rw [hop]at hop';obtain rfl:=cQ hop';exact h
   have e1:=aQi hop hJ' hJm hpre;have:=RZ (λk=> !J k) (uO l m) [] hK;rw[fW,<-e1]at this;exact this
  .right;have hop:=aE aM0;have hall:∀i,i<m->J i=true:=by
    rcases hor with h|⟨op,hop',h⟩
    .exact h
    .exact aEs htl hop' hJ' h
   refine⟨htl,hall,?_⟩;have hJf:J=λk=>decide (k<m):=by
    funext k;by_cases hk:k<m
    .rw [hall k hk];simp[hk]
    .rw [hJm k (by omega)];simp[hk]
   have e6:oJ J b hf=top b hf:=by
    cases hf with
    |nil=>rfl
    |cons q r=>
     simp only[oJ,top];rw[eK];have:=(UQ q (by
      have:q::r=aQl:=by simpa using aLc
      rw[<-this];simp)).2
     exact hall _ (by omega)
   rw[e6,hJf];exact hK
theorem Wd{P:Program}[aC P]{l:List Oper}{t:List AV}{b:List aM}{fl:List (Nat×Nat×List AV)}{K:AS->Prop}{i:Nat}{vs:List AV}{h:List (Nat×List aM)}{t':List AV}{o':List aM}(ht:iM (λ_=>true) 0 l vs t=t')(ho:tH (λk=>decide (k<i)) false fl (top b h)=o')(hk:K ⟨t',o'⟩):nN P l t b fl K i [] vs h:=by simp only[nN,ht,ho];exact hk
theorem JP{P:Program}[aC P]{l:List Oper}{t:List AV}{b:List aM}{fl:List (Nat×Nat×List AV)}{K:AS->Prop}{i:Nat}{op:Oper}{r:List Oper}{vs:List AV}{h:List (Nat×List aM)}
  {pr:List Nat} {m:List AV} {om:List aM} (hnf:(fl.all λq=>decide (q.1≠i))=true) (hpr:pre op=pr) (hlt:(pr.all λe=>decide (e<i))=true) (hm:pX i pr 0 l vs t=m) (ho:tH (wE pr) true fl (oJ (wE pr) b h)=om) (hq:nU op.op ⟨m,om⟩=true)
  (ha:sN P l op ⟨m,om⟩ λs'=>(Fw pr h=true\/s'.o.length=om.length)/\nN P l t b fl K (i+1) r (vs++[Gi op s']) (if s'.o.length=om.length then h else(i,tH Gg true fl s'.o)::h)):nN P l t b fl K i (op::r) vs h:=by
 subst hpr;subst hm;subst ho;simp only[nN];simp only[rO]at ha;exact .inr (.inl ⟨λq hq=>by have:=fN.1 hnf q hq;simpa using this,hq,λe he=>by have:=fN.1 hlt e he;simpa using this,ha⟩)
theorem aa{P:Program}[aC P]{l:List Oper}{t:List AV}{b:List aM}{fl:List (Nat×Nat×List AV)}{K:AS->Prop}{i:Nat}{op:Oper}{r:List Oper}{vs:List AV}{h:List (Nat×List aM)}{q:Nat×Nat×List AV}{T:TypeId}
  (hq:fl.find? (λq=>q.1 == i)=some q) (hg:op.guard=none) (hT:op.op= .alloc T) (hz:qV P T=some q.2.2) (hlt:((pre op).all λe=>decide (e<i))=true) (hd:nN P l t b fl K (i+1) r (vs++[.ptr q.2.1 1 0 0]) h):nN P l t b fl K i (op::r) vs h:=by
 simp only[nN];refine .inl ⟨q,pA hq,by have:=DP hq;simpa using this,hg,⟨T,hT,hz⟩,λe he=>by have:=fN.1 hlt e he;simpa using this,hd⟩
theorem Ns{P:Program}[aC P]{l:List Oper}{t:List AV}{b:List aM}{fl:List (Nat×Nat×List AV)}{K:AS->Prop}{i:Nat}{op:Oper}{r:List Oper}{vs:List AV}{h:List (Nat×List aM)}{z:List Nat}
  (hr:yE l i=true) (hz:uO l i=z) (ha:DR (λz=>Ag P l K (left ((range l.length).map (jz i z))) ((range l.length).map (jz i z)) ⟨iM (jz i z) 0 l vs t,tH (jz i z) false fl (oJ (jz i z) b h)⟩) [] z):nN P l t b fl K i (op::r) vs h:=by
 subst hz;simp only[nN];exact .inr (.inr (.inl ⟨hr,ha⟩))
theorem We{P:Program}[aC P]{l:List Oper}{t t':List AV}{b b':List aM}{fl:List (Nat×Nat×List AV)}{K:AS->Prop}{i:Nat}{op:Oper}{r:List Oper}{vs:List AV}{h:List (Nat×List aM)}
  (htl:(yE l i&&EG l i)=true) (ht:iM (λk=>decide (k<i)) 0 l vs t=t') (ho:tH (λk=>decide (k<i)) false fl (top b h)=b') (ha:kU P l (op::r) ⟨t',b'⟩ K):nN P l t b fl K i (op::r) vs h:=by
 subst ht;subst ho;simp only[eJ]at htl;simp only[nN];exact .inr (.inr (.inr ⟨htl.1,htl.2,ha⟩))
def OP(J:Nat->Bool):Nat->List Oper->List Bool
 |_,[]=>[]
 |j,_::r=>J j::OP J (j+1) r
theorem Wh{J:Nat->Bool}:∀(l:List Oper) (j i:Nat),(OP J j l)[i]? =if i<l.length then some (J (j+i))else none
 |[],_,_=>by simp[OP]
 |_::r,j,0=>by simp[OP]
 |_::r,j,i+1=>by simp only[OP,wA,eN];rw[Wh r (j+1) i,show j+1+i=j+(i+1)by omega];simp
theorem aEx(J:Nat->Bool)(l:List Oper):(range l.length).map J=OP J 0 l:=by
 refine BY λi=> ?_
 rw[Wh,tA];by_cases hi:i<l.length
 .simp [hi]
 .simp [hi]
def Sb(d:List Bool):Nat->List Oper->List Nat
 |_,[]=>[]
 |i,op::r=>if (!d.getD i false&&(pre op).all λe=>d.getD e false)=true then i::Sb d (i+1) r else Sb d (i+1) r
theorem HZ{d:List Bool}:∀{l:List Oper} {k i:Nat},i∈Sb d k l↔∃j op,l[j]? =some op/\i=k+j/\(!d.getD i false&&(pre op).all λe=>d.getD e false)=true
 |[],k,i=>by simp[Sb]
 |op::r,k,i=>by
  simp only[Sb];constructor
  .intro h;by_cases hc:(!d.getD k false&&(pre op).all λe=>d.getD e false)=true
   .rw [eK hc]at h;rcases lB.1 h with rfl|h
    .exact ⟨0,op,rfl,rfl,hc⟩
    .obtain ⟨j,o,h1,h2,h3⟩:=HZ.1 h;exact⟨j+1,o,by simpa using h1,by omega,h3⟩
   .rw [cX hc]at h;obtain⟨j,o,h1,h2,h3⟩:=HZ.1 h;exact⟨j+1,o,by simpa using h1,by omega,h3⟩
  .rintro ⟨j,o,h1,rfl,h3⟩;cases j with
   |zero=>simp at h1;subst h1;rw[rK]at h3⊢;rw[eK h3];simp
   |succ j=>
    have:=HZ.2 ⟨j,o,by simpa using h1,show k+(j+1)=k+1+j by omega,h3⟩;split
    .exact AT _ this
    .exact this
theorem Wi{P:Program}[aC P]{l:List Oper}{K:AS->Prop}{n:Nat}{d:List Bool}{s:AS}{r':List Nat}(h:wM P l K n d s r'):∀r:List Nat,(∀i∈r,i∈r')->wM P l K n d s r
 |[],_=>by simp only[wM]
 |i::r,hs=>by simp only[wM];exact⟨Nn h i (hs i (by simp)),Wi h r λj hj=>hs j (by simp[hj])⟩
theorem go_all{P:Program}[aC P]{l:List Oper}{K:AS->Prop}{n:Nat}{d:List Bool}{s:AS}{rl:List Nat}(hr:Sb d 0 l=rl)(h:wM P l K n d s rl):Ag P l K (n+1) d s:=by
 simp only[Ag];refine Wi h _ λi hi=> ?_
 rw[<-hr,HZ];unfold XD at hi;rw[DQ]at hi;obtain⟨h1,h2⟩:=hi;have hlt:i<l.length:=by simpa using h1
 have hop:=aE hlt;have hp:nC l i=pre l[i]:=by simp[nC,hop]
 exact⟨i,l[i],hop,by omega,by rw[<-hp];exact h2⟩
theorem go_end{P:Program}[aC P]{l:List Oper}{K:AS->Prop}{d:List Bool}{s:AS}(h:K s):Ag P l K 0 d s:=by simpa only[Ag]using h
theorem go_one{P:Program}[aC P]{l:List Oper}{K:AS->Prop}{n:Nat}{d d':List Bool}{s:AS}{i:Nat}{op:Oper}(hop:l[i]? =some op)(hd:d.set i true=d')(h:kU P l [op] s λs'=>Ag P l K n d' s'):wM P l K n d s [i]:=by subst hd;simp only[wM];exact⟨⟨op,hop,h⟩,trivial⟩
theorem sy{P:Program}[aC P]{l:List Oper}{K:AS->Prop}{n:Nat}{d:List Bool}{s:AS}{i j:Nat}{r:List Nat}(h1:wM P l K n d s [i])(h2:wM P l K n d s (j::r)):wM P l K n d s (i::j::r):=by simp only[wM]at h1 h2⊢;exact⟨h1.1,h2⟩
theorem sx{F:List Nat->Prop}{acc:List Nat}{z:Nat}{r:List Nat}(h1:DR F acc r)(h2:DR F (z::acc) r):DR F acc (z::r):=⟨h1,h2⟩
theorem go_sub{P:Program}[aC P]{l:List Oper}{t t':List AV}{b o':List aM}{fl:List (Nat×Nat×List AV)}{K:AS->Prop}{i n:Nat}{vs:List AV}{h:List (Nat×List aM)}{acc:List Nat}{d:List Bool}(hd:OP (jz i acc) 0 l=d)(hn:left d=n)(ht:iM (jz i acc) 0 l vs t=t')(ho:tH (jz i acc) false fl (oJ (jz i acc) b h)=o')
  (ha:Ag P l K n d ⟨t',o'⟩):DR (λz=>Ag P l K (left ((range l.length).map (jz i z))) ((range l.length).map (jz i z)) ⟨iM (jz i z) 0 l vs t,tH (jz i z) false fl (oJ (jz i z) b h)⟩) acc []:=by
 subst hn;subst ht;subst ho;subst hd;simp only[DR,aEx];exact ha
theorem Ah{P:Program}[aC P]{all:List Oper}{K1 K2:AS->Prop}(hk:∀s',K1 s'->K2 s'):∀(r:List Oper) (s:AS),kU P all r s K1->kU P all r s K2
 |[],s,h=>by simp only[kU]at h⊢;exact hk s h
 |o::r,s,h=>by
  simp only[kU]at h⊢;split at h
  .rcases h with h|h|h
   .exact .inl (XB (Ah hk r) h)
   .exact .inr (.inl (ZU (Ah hk r) h))
   .exact .inr (.inr (VT (Ah hk r) h))
  .split at h
   .exact ⟨λe=>(h.1 e).imp (XB (Ah hk r)) (Or.imp (ZU (Ah hk r)) (VT (Ah hk r))),λe=>Ah hk r _ (h.2 e)⟩
   .exact h.elim
mutual
theorem ae{P:Program}[aC P]{l:List Oper}{K1 K2:AS->Prop}(hk:∀s',K1 s'->K2 s'):∀(n:Nat) (d:List Bool) (s:AS),Ag P l K1 n d s->Ag P l K2 n d s
 |0,d,s,h=>by simp only[Ag]at h⊢;exact hk s h
 |n+1,d,s,h=>by simp only[Ag]at h⊢;exact Wj hk n d s _ h
theorem Wj{P:Program}[aC P]{l:List Oper}{K1 K2:AS->Prop}(hk:∀s',K1 s'->K2 s'):∀(n:Nat) (d:List Bool) (s:AS) (r:List Nat),wM P l K1 n d s r->wM P l K2 n d s r
 |n,d,s,[],h=>by simp only[wM]
 |n,d,s,i::r,h=>by simp only[wM]at h⊢;obtain⟨⟨op,h1,h2⟩,h3⟩:=h;exact⟨⟨op,h1,Ah (λs'=>ae hk n _ s') _ _ h2⟩,Wj hk n d s r h3⟩
end
theorem Sc{F1 F2:List Nat->Prop}(hk:∀z,F1 z->F2 z):∀(z acc:List Nat),DR F1 acc z->DR F2 acc z
 |[],acc,h=>hk acc h
 |x::z,acc,h=>⟨Sc hk z acc h.1,Sc hk z (x::acc) h.2⟩
theorem EH{P:Program}[aC P]{l:List Oper}{t:List AV}{b:List aM}{fl:List (Nat×Nat×List AV)}{K:AS->Prop}{i:Nat}{op:Oper}{r:List Oper}{vs:List AV}{h:List (Nat×List aM)}{z:List Nat}{s1:AS}
  (hr:yE l i=true) (hz:uO l i=z) (ha:DR (λz=>Ag P l (λs'=>s'=s1) (left ((range l.length).map (jz i z))) ((range l.length).map (jz i z)) ⟨iM (jz i z) 0 l vs t,tH (jz i z) false fl (oJ (jz i z) b h)⟩) [] z) (hk:K s1):nN P l t b fl K i (op::r) vs h:=
 Ns hr hz (Sc (λz h=>ae (λs' e=>by subst e;exact hk) _ _ _ h) _ _ ha)
def Sd(P:Program):Nat->Nat->List Oper->List (Nat×Nat×List AV)
 |_,_,[]=>[]
 |i,n,op::r=>match op.op with
  | .alloc T=>match qV P T with
   |some z=>(i,n,z)::Sd P (i+1) (n+1) r
   |none=>Sd P (i+1) n r
  |_=>Sd P (i+1) n r
attribute [irreducible] nN
def bC(t:List AV):List (Nat×AV)->List AV
 |[]=>t
 |p::r=>bC (t.set p.1 p.2) r
theorem aO{P:Program}[aC P]{c:Code}{s:AS}{Q:Exit->AS->Prop}{ι:Type}(inv:List AV->List aM->ι->AS)(μ:ι->Nat)(i:ι)(h0:lY s (inv s.t s.o i))(h:∀i,∀K:AS->Prop,(∀s' j,lY s' (inv s.t s.o j)->μ j<μ i->K s')->uY P c (inv s.t s.o i) (DI K Q)):uY P (.loop c) s Q:=aDm (inv s.t s.o) μ i h0 h
attribute [irreducible] DR
attribute [simp] OP Sb jz left tH flv Gg Sd pre aEu pX Ba iM oJ top Fw wE Gi bC
theorem aAl{P:Program}[aC P]{all r:List Oper}{o:Oper}{s:AS}{K:AS->Prop}{j:Nat}{want:Bool}(hg:o.guard=some (j,want))(hb:sJ all s j want= .bool (!want))(h:kU P all r (s.put o.dst (.gT [])) K):kU P all (o::r) s K:=by unfold kU;rw[hg];dsimp only;rw[hb];exact⟨λhn=>(by cases want<;>cases hn),λ_=>h⟩
theorem af{α:Type}{l:List α}{i:Nat}{x:α}(h:l[i]? =some x):l.set i x=l:=by obtain⟨hi,rfl⟩:=cH.1 h;exact set_getElem_self hi
theorem wh{P:Program}[aC P]{all r:List Oper}{o:Oper}{s:AS}{K:AS->Prop}{j d:Nat}{want b:Bool}(hg:o.guard=some (j,want))(hd:(all[j]?).bind (·.dst)=some d)(hb:s.t[d]? =some (.bool b))
  (h1:b=true->kU P all (o::r) ⟨s.t.set d (.bool true),s.o⟩ K) (h2:b=false->kU P all (o::r) ⟨s.t.set d (.bool false),s.o⟩ K):kU P all (o::r) s K:=by
 cases b
 .have:=h2 rfl;rw[af hb]at this;exact this
 .have:=h1 rfl;rw[af hb]at this;exact this
def qF{α:Type}(f:α->Bool)(l:List α):Int:=if l.any f=true then(l.findIdx f:Nat)else -1
theorem uS{α:Type}{f:α->Bool}{l:List α}{k:Nat}(h:k<l.length)(hf:f l[k]=true)(hn:∀x∈l.take k,f x=false):qF f l=k:=by
 unfold qF;rw[eK (any_eq_true.2 ⟨_,fS h,hf⟩)];have:l.findIdx f=k:=by rw[findIdx_eq h];refine⟨hf,λj hj=> ?_⟩;exact hn _ (mem_take_iff_getElem.2 ⟨j,by omega,rfl⟩)
 rw[this]
theorem nJ{α:Type}{f:α->Bool}{l:List α}(hn:∀x∈l,f x=false):qF f l= -1:=by unfold qF;rw[cX];intro h;obtain⟨x,hx,hf⟩:=any_eq_true.1 h;rw[hn x hx]at hf;cases hf
theorem Gj{α:Type}(f:α->Bool)(l:List α):decide (0<=qF f l)=l.any f:=by unfold qF;cases h:l.any f<;>simp
theorem cB{α:Type}{p:α->Prop}{l:List α}{k:Nat}(h:k<l.length)(ha:∀x∈l.take k,p x)(hk:p l[k]):∀x∈l.take (k+1),p x:=by
 rw[eI h];intro x hx;rcases fL.1 hx with hx|hx
 .exact ha x hx
 .rw [rI.1 hx];exact hk
theorem iR{α:Type}{p:α->Prop}{l:List α}{k:Nat}(hk:l.length<=k)(ha:∀x∈l.take k,p x):∀x∈l,p x:=by
 rwa[cY hk]at ha
theorem yF{n:Int}{k:Nat}(h:n<=1048576):sub n k<=1048576:=by unfold sub;split<;>omega
theorem vW{n:Int}{k:Nat}(h:n<=1048576):n-(k:Int)<=1048576:=by omega
theorem yG{n m:Int}{k:Nat}(e:sub n k=m)(h:0<=m):m=n-k/\(k:Int)<=n:=by unfold sub at e;split at e<;>omega
theorem vX{n m:Int}{k:Nat}(e:sub n k=m)(h0:0<=n)(h:m<0):m= -1/\n<k:=by unfold sub at e;split at e<;>omega
open Go.ChangeShapes Go.WideShapes Go.ChangeAt Go.RowKit
inductive Sh
  | int (k:IntKind)
  | bool
  | str
  | sl (n:Nat) (row:List Sh)
mutual
def Fits:Sh->AV->Prop
 | .int k,.int k' n=>k'=k/\(Lit.int k n).wf=true
 | .bool,.bool _=>True
 | .str,.str s=>s.length<=maxLen
 | .sl n row,.sl g n' rows=>g= .view/\n'=n/\rows.length<=maxLen/\∀r∈rows,nA row r
 |_,_=>False
def nA:List Sh->List AV->Prop
 |[],[]=>True
 |s::ss,x::xs=>Fits s x/\nA ss xs
 |_,_=>False
end
theorem La:∀{ss tt:List Sh} {xs ys:List AV},nA ss xs->nA tt ys->nA (ss++tt) (xs++ys)
 |[],_,[],_,_,h=>h
 |s::ss,_,x::xs,_,h,h'=>by simp only[nA,eA]at h⊢;exact⟨h.1,La h.2 h'⟩
 |[],_,_::_,_,h,_=>h.elim
 |_::_,_,[],_,h,_=>h.elim
def shF(sh:TypeId->Option (List Sh))(P:Program):List Field->Nat->Option (List Sh)
 |[],_=>some []
 |x::xs,o=>if x.offset=o then match sh x.type with
   |some a=>if a.length=P.cellsOf x.type then match shF sh P xs (o+a.length)with
     |some b=>some (a++b)
     |none=>none
    else none
   |none=>none
  else none
def K3(P:Program):Nat->TypeId->Option (List Sh)
 |0,_=>none
 |f+1,t=>match P.underlying t with
  |some .bool=>some [.bool]
  |some (.int k)=>some [.int k]
  |some .string=>some [.str]
  |some (.slice e)=>match K3 P f e with
   |some row=>if row.length=P.cellsOf e/\0<row.length then some [.sl row.length row]else none
   |none=>none
  |some (.struct fs)=>match shF (K3 P f) P fs.toList 0 with
   |some r=>if r.length=P.cellsOf t then some r else none
   |none=>none
  |_=>none
theorem OG{α:Type}{p:Nat->α->Prop}:∀(n:Nat),(∀i,i<n->∃x,p i x)->∃l:List α,l.length=n/\∀i x,l[i]? =some x->p i x
 |0,_=>⟨[],rfl,λi x h=>by simp at h⟩
 |n+1,h=>by
  obtain⟨l,hl,hp⟩:=OG n (λi hi=>h i (by omega));obtain⟨x,hx⟩:=h n (by omega);refine⟨l++[x],by simp[hl],λi y hy=> ?_⟩;by_cases hi:i<l.length
  .rw [pL hi]at hy;exact hp i y hy
  .rw [hY (by omega)]at hy;have:i-l.length=0:=by
    cases hk:i-l.length with
    |zero=>rfl
    |succ k=>rw[hk]at hy;simp at hy
   rw[this]at hy;simp at hy;subst hy;have:i=n:=by omega
   subst this;exact hx
theorem aKv{w:World}{E:Env}{b n:Nat}:∀(rows:List (List AV)) (off:Nat),
  (∀j r,rows[j]? =some r->∃cs:List Value,cs.length=n/\bL w b (off+j*n) cs/\(∀x∈cs,x.oneCell'=true)/\Rc w E r cs [])->Rr w E rows b off n []
 |[],_,_=>by simp[Rr]
 |r::rs,off,h=>by obtain⟨cs,h1,h2,h3,h4⟩:=h 0 r rfl;refine⟨cs,[],[],h1,by simpa using h2,h3,h4,aKv rs (off+n) λj r hj=> ?_,rfl⟩;obtain⟨cs,h1,h2,h3,h4⟩:=h (j+1) r (by simpa using hj);exact⟨cs,h1,by rw[pZ,Nat.one_mul,show off+(j*n+n)=off+n+j*n by omega]at h2;exact h2,h3,h4⟩
section
variable{H:Type}{enc:TypeId × Value -> H}{P:Program}[aC P]{w:World}{spare:Nat -> Bool}{held:Bool}
def Reads(enc:TypeId×Value->H)(P:Program)(w:World)(spare:Nat->Bool)(held:Bool)(t:TypeId)(ss:List Sh):Prop:=
 ∀fuel cs x,DataW.trod enc P w 0 spare held fuel t cs=some x->∃VN,nA ss VN/\Rc w (oI w) VN cs []/\∀c∈cs,c.oneCell'=true
theorem Lb{sh:TypeId->Option (List Sh)}(ih:∀t ss,sh t=some ss->Reads enc P w spare held t ss){n:Nat}{cs:List Value}:
  ∀(fs:List Field) (o:Nat) (rs:List Sh),shF sh P fs o=some rs->(∀f∈fs,∃y,DataW.trod enc P w 0 spare held n f.type ((cs.drop f.offset).take (P.cellsOf f.type))=some y)->
   ∃VN,nA rs VN/\Rc w (oI w) VN ((cs.drop o).take rs.length) []/\∀c∈(cs.drop o).take rs.length,c.oneCell'=true
 |[],o,rs,h,_=>by simp only[shF,eC]at h;subst h;exact⟨[],by simp[nA],by simp[Rc],by simp⟩
 |f::fs,o,rs,h,hf=>by
  simp only[shF]at h;split at h
  .rename_i ho;split at h
   .rename_i a ha;split at h
    .rename_i hl;split at h
     .rename_i b hb;obtain rfl:=cQ h;obtain⟨y,hy⟩:=hf f (by simp);obtain⟨x1,h1,h2,h3⟩:=ih _ _ ha _ _ _ hy;obtain⟨x2,h4,h5,h6⟩:=Lb ih fs _ _ hb λf hf'=>hf f (by simp[hf'])
      rw[ho,<-hl]at h2 h3;have e:(cs.drop o).take (a++b).length=(cs.drop o).take a.length++(cs.drop (o+a.length)).take b.length:=by rw[eR,take_add,AD]
      refine⟨x1++x2,La h1 h4,by rw[e];exact mQ h2 h5,λc hc=> ?_⟩;rw[e,fL]at hc;exact hc.elim (h3 c) (h6 c)
     .cases h
    .cases h
   .cases h
  .cases h
theorem reads:∀(f:Nat) (t:TypeId) (ss:List Sh),K3 P f t=some ss->Reads enc P w spare held t ss
 |0,_,_,h=>by simp[K3]at h
 |f+1,t,ss,h=>by
  intro fuel cs x hx;unfold K3 at h;split at h
  .rename_i ht;obtain rfl:=cQ h;obtain⟨b,rfl,_⟩:=DataW.trod_bool ht hx;exact⟨[.bool b],by simp[nA,Fits],by simp[Rc,R],by simp[Value.oneCell']⟩
  .rename_i k ht;obtain rfl:=cQ h;obtain⟨n,rfl,_,hw⟩:=DataW.trod_int ht hx;exact⟨[.int k n],by simp[nA,Fits,hw],by simp[Rc,R],by simp[Value.oneCell']⟩
  .rename_i ht;obtain rfl:=cQ h;obtain⟨s,rfl,_,hw⟩:=DataW.trod_string ht hx;exact⟨[.str s.data.toList],by simpa [nA,Fits]using hw,by simp[Rc,R],by simp[Value.oneCell']⟩
  .rename_i e ht;split at h
   .rename_i row hrow;split at h
    .rename_i hc;obtain rfl:=cQ h;have ih:=reads f e row hrow;rcases DataW.trod_slice ht hx with⟨rfl,_⟩|⟨a,len,cap,elems,rest,n,_,rfl,_,_,hlc,K4,hlen,hel,_,_⟩
     .exact ⟨[.sl .view row.length []],by simp[nA,Fits],by simp[Rc,R,maxLen],by simp[Value.oneCell']⟩
     .rw [<-hc.1]at hel;have aDn:∀i,i<len->∃r:List AV,nA row r/\∃cs,w.cells? 0 (a.add (i*row.length)) row.length=some cs/\(∀x∈cs,x.oneCell'=true)/\Rc w (oI w) r cs []:=by intro i hi;have h1:=hel i hi;rw[aE (by omega)]at h1;obtain⟨cs,hcs,htr⟩:=Option.bind_eq_some_iff.1 h1;obtain⟨r,h2,h3,h4⟩:=ih _ _ _ htr;exact⟨r,h2,cs,hcs,h4,h3⟩
      obtain⟨rows,hrl,hrp⟩:=OG len aDn;refine⟨[.sl .view row.length rows],?_,?_,by simp[Value.oneCell']⟩
      .simp only[nA,Fits,sA,true_and];refine⟨by omega,λr hr=> ?_⟩;obtain⟨i,hi⟩:=getElem?_of_mem hr;exact(hrp i r hi).1
      .simp only[Rc];refine⟨[],[],?_,rfl,rfl⟩;simp only[R];refine .inr ⟨some a,cap,by rw[hrl],⟨by omega,by omega⟩,.inr (.inr ⟨by simp,trivial,?_⟩)⟩;by_cases hl0:len=0
       .exact .inl (xF.1 (by omega))
       right;have h0:rows[0]? =some rows[0]:=aE (by omega);obtain⟨_,cs0,aMl,_⟩:=hrp 0 _ h0;have hcell:=(World.cells?_some aMl).2.2 0 hc.2;have aVy:=(World.cells?_some aMl).2.1;have aKw:a.spot=none:=by
        have:w.cell? a=cs0[0]?:=by simpa [Addr.add]using hcell
        rw[aE (by omega)]at this;unfold World.cell? at this;split at this
        .split at this
         .cases this
         .rename_i hs;simpa using hs
        .cases this
       have aIa:a.block<w.heap.size:=by have:=World.cells?_block aMl hc.2;unfold Addr.add at this;split at this<;>exact this
       obtain⟨ab,ao,asp⟩:=a;simp only at aKw aIa;subst aKw;refine⟨ab,ao,rfl,aIa,aKv rows ao λj r hj=> ?_⟩;obtain⟨_,cs,hcs,h1,hR⟩:=hrp j r hj;have hs:=World.cells?_some hcs;refine⟨cs,hs.2.1,λk v hv=> ?_,h1,?_⟩
       .have hk:k<row.length:=by have:=(cH.1 hv).1;omega
        have:=hs.2.2 k hk;rw[hv]at this;rw[<-this];congr 1;unfold Addr.add;split<;>split<;>simp_all<;>omega
       .exact dU (w:=w) (w':=w) (E:=oI w) ⟨λb hb=>⟨hb,rfl⟩,λ_ h=>trivial,λ_ _ _ h=>by exact h.elim,λ_ _ _ h=>by exact h.elim,λ_ _ _ _ _ h=>by exact h.elim⟩ _ _ _ (by simp) hR
    .cases h
   .cases h
  .rename_i fs ht;split at h
   .rename_i r hr;split at h
    .rename_i hc;obtain rfl:=cQ h;obtain⟨xs,n,_,_,hcl,hxl,Ep⟩:=DataW.trod_struct ht hx;obtain⟨VN,h1,h2,h3⟩:=Lb (enc:=enc) (w:=w) (spare:=spare) (held:=held) (n:=n) (cs:=cs) (reads f) fs.toList 0 _ hr λfl hfl=>by
      obtain⟨i,hi⟩:=getElem?_of_mem hfl;have:=Ep i fl (by simpa using hi);have hlt:=(cH.1 hi).1;simp at hlt;rw[aE (by omega)]at this;exact⟨_,this⟩
     rw[AI,cY (by omega)]at h2 h3;exact⟨VN,h1,h2,h3⟩
    .cases h
   .cases h
  .cases h
inductive ShV
  | one (s:Sh)
  | agg (row:List Sh)
def aDo:ShV->AV->Prop
 | .one s,x=>Fits s x
 | .agg row,.agg c=>nA row c
 |_,_=>False
def Ng:List ShV->List AV->Prop
 |[],[]=>True
 |s::ss,x::xs=>aDo s x/\Ng ss xs
 |_,_=>False
def shV(P:Program)(f:Nat)(t:TypeId):Option ShV:=match P.underlying t with
 |some (.struct _)=>(K3 P f t).map .agg
 |some .bool|some (.int _)|some .string|some (.slice _)=>match K3 P f t with
  |some [s]=>some (.one s)
  |_=>none
 |_=>none
def aDp(P:Program)(f:Nat):List TypeId->Option (List ShV)
 |[]=>some []
 |t::ts=>match shV P f t,aDp P f ts with
  |some s,some ss=>some (s::ss)
  |_,_=>none
theorem Y9{v:Value}(h:∀cs,v≠ .agg cs):v.cells=#[v]:=by cases v<;>first|rfl|exact absurd rfl (h _)
theorem aMm{base:Nat}{f:Nat}{t:TypeId}{s:ShV}(h:shV P f t=some s){v:Value}{d:DataW H}{ps:List MemPlace}(nR:Value.okWide P w .any base t v)
  (hT:DataW.Trod enc P w 0 spare held t v d ps):∃av,aDo s av/\R w (oI w) av v []:=by
 obtain⟨fuel,hT⟩:=hT;unfold shV at h;have one:(∀cs,v≠ .agg cs)->(match K3 P f t with|some [s]=>some (ShV.one s)|_=>none)=some s->∃av,aDo s av/\R w (oI w) av v []:=by
  intro hv h;split at h
  .rename_i s1 hs;obtain rfl:=cQ h;obtain⟨VN,h1,h2,_⟩:=reads f t _ hs _ _ _ hT;rw[Y9 hv]at h2;cases VN with
   |nil=>exact h1.elim
   |cons x xs=>
    cases xs with
    |nil=>simp only[Rc]at h2;obtain⟨f1,f2,hr,rfl,e⟩:=h2;simp only[fW]at e;subst e;simp only[nA]at h1;exact⟨x,h1.1,hr⟩
    |cons y ys=>simp[nA]at h1
  .cases h
 split at h
 .rename_i fs ht;obtain⟨ss,hs,rfl⟩:=tD.1 h;obtain⟨cs,rfl,_⟩:=okWide_struct ht nR;obtain⟨VN,h1,h2,h3⟩:=reads f t _ hs _ _ _ hT;exact⟨.agg VN,h1,by simp only[R];exact⟨cs.toList,by simp,h3,h2⟩⟩
 .rename_i ht;exact one (λcs e=>by subst e;simp[Value.okWide,ht,Cell.okWide,Cell.ok]at nR) h
 .rename_i ht;exact one (λcs e=>by subst e;simp[Value.okWide,ht,Cell.okWide,Cell.ok]at nR) h
 .rename_i ht;exact one (λcs e=>by subst e;simp[Value.okWide,ht,Cell.okWide,Cell.ok]at nR) h
 .rename_i ht;exact one (λcs e=>by subst e;simp[Value.okWide,ht,Cell.okWide,Cell.ok]at nR) h
 .cases h
theorem K5{base:Nat}{f:Nat}:∀{ts:List TypeId} {ss:List ShV},aDp P f ts=some ss->∀{vs:List Value} {ds:List (DataW H)} {ps:List MemPlace},
  (∀(j:Nat) t v,ts[j]? =some t->vs[j]? =some v->Value.okWide P w .any base t v)->DataW.TrodAll enc P w 0 spare held ts vs ds ps->∃VN,Ng ss VN/\Rc w (oI w) VN vs []
 |[],ss,h,[],_,_,_,_=>by simp only[aDp,eC]at h;subst h;exact⟨[],trivial,by simp[Rc]⟩
 |t::ts,ss,h,v::vs,d::ds,ps,nR,hT=>by
  simp only[aDp]at h;split at h
  .rename_i s ss' h1 h2;obtain rfl:=cQ h;obtain⟨p,q,ht,hr,_⟩:=hT;obtain⟨x,hx,hR⟩:=aMm h1 (nR 0 t v rfl rfl) ht;obtain⟨xs,hxs,hRs⟩:=K5 h2 (λj t v h1 h2=>nR (j+1) t v (by simpa using h1) (by simpa using h2)) hr;exact⟨x::xs,⟨hx,hxs⟩,by simp only[Rc];exact⟨[],[],hR,hRs,rfl⟩⟩
  .cases h
 |[],_,_,_::_,_,_,_,hT=>by simp[DataW.TrodAll]at hT
 |_::_,_,_,[],_,_,_,hT=>by simp[DataW.TrodAll]at hT
 |_::_,_,_,_::_,[],_,_,hT=>by simp[DataW.TrodAll]at hT
theorem IQ(hl:laidOutB P=true){W W':World}(hb:Below W.heap.size W W'):∀{ts:List TypeId} {vs:List Value} {ds:List (DataW H)} {ps:List MemPlace},
  (∀t∈ts,P.readableRec t=true/\t<P.types.size)->DataW.TrodAll enc P W 0 (λ_=>true) true ts vs ds ps->(∀x∈ps,x.block<W.heap.size)->∀sp:Nat->Bool,(∀p∈ps,sp p.block=true)->
   DataW.TrodAll enc P W' 0 sp true ts vs ds ps
 |[],[],[],_,_,h,_,_,_=>h
 |t::ts,v::vs,d::ds,ps,hr,h,hlt,sp,hsp=>by
  obtain⟨p,q,h1,h2,rfl⟩:=h;refine⟨p,q,?_,?_,rfl⟩
  .exact WideElems.Trod_stays hl (hr t (by simp)).1 (hr t (by simp)).2 h1 (λx hx=>hb.same (hlt x (by simp[hx]))) (λx hx=>hsp x (by simp[hx]))
  .exact IQ hl hb (λt ht=>hr t (by simp[ht])) h2 (λx hx=>hlt x (by simp[hx])) sp (λx hx=>hsp x (by simp[hx]))
 |[],_::_,_,_,_,h,_,_,_=>h.elim
 |[],[],_::_,_,_,h,_,_,_=>h.elim
 |_::_,[],_,_,_,h,_,_,_=>h.elim
 |_::_,_::_,[],_,_,h,_,_,_=>h.elim
end
theorem Ga{α:Type}{row:List Sh}{e:α->List AV}{p:α->Prop}(h:∀r,nA row r->∃x,r=e x/\p x):∀rows:List (List AV),(∀r∈rows,nA row r)->∃l:List α,rows=l.map e/\∀x∈l,p x
 |[],_=>⟨[],rfl,by simp⟩
 |r::rs,hr=>by obtain⟨x,rfl,hx⟩:=h r (hr r (by simp));obtain⟨l,rfl,hl⟩:=Ga h rs (λr h=>hr r (by simp[h]));exact⟨x::l,rfl,by simpa using⟨hx,hl⟩⟩
theorem DJ{r:List AV}(h:nA [] r):r=[]:=by
 cases r with
 |nil=>rfl
 |cons _ _=>exact h.elim
theorem qX{ss:List Sh}{r:List AV}(h:nA (.str::ss) r):∃s r',r= .str s::r'/\s.length<=9223372036854775807/\nA ss r':=by
 match r,h with
 |[],h=>exact h.elim
 | .str s::r',h=>exact⟨s,r',rfl,h.1,h.2⟩
theorem fits_int{k:IntKind}{ss:List Sh}{r:List AV}(h:nA (.int k::ss) r):∃n r',r= .int k n::r'/\(k.min<=n/\n<=k.max)/\nA ss r':=by
 match r,h with
 |[],h=>exact h.elim
 | .int k' n::r',h=>obtain⟨⟨rfl,hw⟩,h2⟩:=h;exact⟨n,r',rfl,by simpa [Lit.wf]using hw,h2⟩
theorem fits_bool{ss:List Sh}{r:List AV}(h:nA (.bool::ss) r):∃b r',r= .bool b::r'/\nA ss r':=by
 match r,h with
 |[],h=>exact h.elim
 | .bool b::r',h=>exact⟨b,r',rfl,h.2⟩
theorem QD{n:Nat}{row ss:List Sh}{r:List AV}(h:nA (.sl n row::ss) r):∃rows r',r= .sl .view n rows::r'/\rows.length<=9223372036854775807/\(∀x∈rows,nA row x)/\nA ss r':=by
 match r,h with
 |[],h=>exact h.elim
 | .sl g n' rows::r',h=>obtain⟨⟨rfl,rfl,h1,h2⟩,h3⟩:=h;exact⟨rows,r',rfl,h1,h2,h3⟩
theorem Z0{r:List AV}(h:Ng [] r):r=[]:=by
 cases r with
 |nil=>rfl
 |cons _ _=>exact h.elim
theorem VO{row:List Sh}{ss:List ShV}{r:List AV}(h:Ng (.agg row::ss) r):∃c r',r= .agg c::r'/\nA row c/\Ng ss r':=by
 match r,h with
 |[],h=>exact h.elim
 |x::r',h=>
  cases x with
  |agg c=>exact⟨c,r',rfl,h.1,h.2⟩
  |_=>exact h.1.elim
theorem aDq{C:Checked}[T:aC C.prog]{f:FuncId}{fn:Func}{s:ChangeSpec}{apart fresh handsOn again:Bool}{H:Type}{enc:TypeId×Value->H}{ss:List ShV}{fuel:Nat}{tb:TypeId}
  (hl:laidOutB C.prog=true) (aP8:∀t∈fn.params.toList,C.prog.readableRec t=true/\t<C.prog.types.size)
  (hsh:aDp C.prog fuel fn.params.toList=some ss) (jO:fn.resultTypes=#[tb]) (hb:C.prog.underlying tb=some .bool) (aKx:s.vars=[])
  (hfn:∀ds:List (DataW H),ds.length=fn.params.toList.length->s.fn H ds={results:=[.lit (.bool true)],args:=ds})
  (nR:∀VN,Ng ss VN->Ok C.prog f VN (.bool true))
  {W:World} {base:Nat} {args:Array Value} {ds gs:List (DataW H)} {before:List MemPlace} (hT:aC.holds C.prog W)
  (hval:∀(j:Nat) t v,fn.params[j]? =some t->args[j]? =some v->Value.okWide C.prog W .any base t v)
  (hW:DataW.Whole enc C.prog fn.params.toList s.vars apart W args.toList ds gs before):
  Calls C.prog f args W λe W'=>∃v,e= .returned v/\s.post enc C.prog fn apart fresh handsOn again W args v W':=by
 obtain⟨p,q,hA,hV,hpq,hz,hn⟩:=id hW;rw[aKx]at hV;obtain⟨rfl,rfl⟩:gs=[]/\q=[]:=by
  cases gs with
  |nil=>exact⟨rfl,hV⟩
  |cons _ _=>exact hV.elim
 rw[fW]at hpq;subst hpq;have hlen:ds.length=fn.params.toList.length:=by
  have:∀(ts:List TypeId) (vs:List Value) (ds:List (DataW H)) ps,DataW.TrodAll enc C.prog W 0 (λ_=>true) true ts vs ds ps->ds.length=ts.length:=by
   intro ts;induction ts with
   |nil=>intro vs ds ps h;cases vs<;>cases ds<;>simp_all[DataW.TrodAll]
   |cons t ts ih=>intro vs ds ps h;cases vs<;>cases ds<;>simp_all[DataW.TrodAll];obtain⟨_,_,_,h,_⟩:=h;exact ih _ _ _ h
  exact this _ _ _ _ hA
 have aQa:=hfn ds hlen;obtain⟨VN,aQb,hR⟩:=K5 hsh (λj t v h1 h2=>hval j t v (by simpa using h1) (by simpa using h2)) hA;have hc:=nR VN aQb W args.toList hT hR;rw[show args.toList.toArray=args from rfl]at hc;refine hc.mono λe W' ⟨v,fp,he,hr,_,_,hsz,nZ,FO⟩=>⟨v,he,?_⟩
 simp only[R]at hr;obtain⟨rfl,_⟩:=hr;have hbl:Below W.heap.size W W':=⟨FO.os,FO.tape,FO.output,hsz,nZ⟩;have hlt:∀x∈before,x.block<W.heap.size:=λx hx=>hW.lt x hx
 have hsp:s.fn H (ds++[])={results:=[.lit (.bool true)],args:=ds}:=by rw[fW];exact aQa
 have hargs:∀sp:Nat->Bool,(∀p∈before,sp p.block=true)->DataW.TrodAll enc C.prog W' 0 sp true fn.params.toList args.toList (s.fn H (ds++[])).args before:=by intro sp h;rw[hsp];exact IQ hl hbl aP8 hA hlt sp h
 have hone:(Value.bool true).resultList fn.resultTypes.size=[.bool true]:=by rw[jO];rfl
 have aKy:∀(b:Nat) (sp:Nat->Bool) (hd:Bool),DataW.TrodAll enc C.prog W' b sp hd fn.resultTypes.toList ((Value.bool true).resultList fn.resultTypes.size) (s.fn H (ds++[])).results []:=by intro b sp hd;rw[hsp,hone,jO];exact⟨[],[],shut_bool hb true,rfl,rfl⟩
 have aDr:∀sp:Nat->Bool,DataW.TrodVars enc C.prog W' sp s.vars (s.fn H (ds++[])).vars []:=by intro sp;rw[hsp,aKx];rfl
 have hold:∀p∈before,(λb=>decide (b<W.heap.size)) p.block=true:=λp hp=>by simpa using hlt p hp
 refine⟨ds,[],before,[],before,[],hW,aKy _ _ _,hargs _ hold,aDr _,World.keptBut_mono (λp hp=>hp.elim) (hbl.frame (λ_=>False)),λ_=> ?_⟩;refine⟨ok_one jO rfl (okWide_bool_mk hb true),_,_,([]++before)++[],⟨[]++before,[],trodAll_append (hargs _ (λ_ _=>rfl)) (aKy _ _ _),aDr _,rfl,?_,?_⟩,?_⟩
 .intro b off hp;have hp':MemPlace.cell b off∈before:=by simpa using hp
  rw[hbl.frozen (p:=⟨b,off,none⟩) (hlt _ hp')];exact hz b off hp'
 .intro ha;simpa using hn ha
 .intro p hp _;simpa using hp
def Sk:Sh->AV->Prop
 | .int k,.int k' _=>k'=k
 | .bool,.bool _=>True
 | .str,.str _=>True
 |_,_=>False
def yI:List Sh->List AV->Prop
 |[],[]=>True
 |s::ss,x::xs=>Sk s x/\yI ss xs
 |_,_=>False
theorem yJ:∀{ss:List Sh} {xs:List AV},yI ss xs->xs.length=ss.length
 |[],[],_=>rfl
 |s::ss,x::xs,h=>by simp only[yI]at h;simp[yJ h.2]
 |[],_::_,h=>h.elim
 |_::_,[],h=>h.elim
theorem Gl:∀{ss tt:List Sh} {xs:List AV},yI (ss++tt) xs->yI ss (xs.take ss.length)/\yI tt (xs.drop ss.length)
 |[],_,xs,h=>by simpa [yI]using h
 |s::ss,tt,x::xs,h=>by simp only[eA,yI]at h;simp only[eN,eL,pC,yI];have:=Gl h.2;exact⟨⟨h.1,this.1⟩,this.2⟩
 |_::_,_,[],h=>h.elim
def CL(P:Program)(t:TypeId):Bool:=match P.underlying t with|some (.struct _)=>true|_=>false
def valOf(P:Program)(t:TypeId)(cs:List Value):Value:=if CL P t then .agg cs.toArray else cs.headD (.tuple #[])
def eqT(P:Program):Nat->TypeId->Bool
 |0,_=>false
 |f+1,t=>match P.underlying t with
  |some .bool|some (.int _)|some .string=>P.cellsOf t == 1
  |some (.struct fs)=> !P.stoodInHeld t&&fs.toList.all λx=>x.name != "_" &&eqT P f x.type
  |_=>false
theorem OQ{P:Program}{w:World}{f:Nat}{t:TypeId}(he:eqT P f t=true)(xs:List Value)(o:Nat)(h:P.cellsOf t=0\/o+P.cellsOf t<=xs.length):
  (part t xs.toArray o).run P w= .ok (valOf P t ((xs.drop o).take (P.cellsOf t))) w:=by
 cases f with
 |zero=>simp[eqT]at he
 |succ f=>
  unfold eqT at he;have one:∀d,P.underlying t=some d->(d= .bool\/(∃k,d= .int k)\/d= .string)->P.cellsOf t=1->(part t xs.toArray o).run P w= .ok (valOf P t ((xs.drop o).take (P.cellsOf t))) w:=by
   intro d hu hd h1;have hlt:o<xs.length:=by omega
   have e:(xs.drop o).take 1=[xs[o]]:=by rw[mL hlt,eL,fX]
   rw[h1,e];rcases hd with rfl|⟨k,rfl⟩|rfl<;>simp[part,isAgg,gE hu,valOf,CL,hu,hlt]
  split at he
  .rename_i hu;exact one _ hu (.inl rfl) (by simpa using he)
  .rename_i hu;exact one _ hu (.inr (.inl ⟨_,rfl⟩)) (by simpa using he)
  .rename_i hu;exact one _ hu (.inr (.inr rfl)) (by simpa using he)
  .rename_i fs hu;obtain⟨i,hi⟩:=info_of_underlying hu;have hl:xs.toArray.extract o (o+P.cellsOf t)=((xs.drop o).take (P.cellsOf t)).toArray:=by apply Array.toList_inj.1;rw[Array.toList_extract];simp[extract]
   simp[part,isAgg,gE hu,run_sizeOf w hi,valOf,CL,hu,hl]
  .cases he
section
variable{P:Program}
theorem Fx{f:Nat}(ih:∀t ss,K3 P f t=some ss->eqT P f t=true->∀c1 c2:List AV,yI ss c1->yI ss c2->∀d w,f<=d->∃b,(Op.equalIn d t (valOf P t (c1.map toV)) (valOf P t (c2.map toV))).run P w= .ok b w/\(b=true↔c1=c2))(c1 c2:List AV)(d:Nat)(w:World)(hd:f<=d):
  ∀(fs:List Field) (o:Nat) (rs:List Sh),shF (K3 P f) P fs o=some rs->(fs.all λx=>x.name != "_" &&eqT P f x.type)=true->yI rs (c1.drop o)->yI rs (c2.drop o)->
   ∃b,(Op.eqFields d (c1.map toV).toArray (c2.map toV).toArray fs).run P w= .ok b w/\(b=true↔c1.drop o=c2.drop o)
 |[],o,rs,h,_,h1,h2=>by simp only[shF,eC]at h;subst h;refine⟨true,by simp[Op.eqFields],?_⟩;have e1:=yJ h1;have e2:=yJ h2;simp only[eV,xF]at e1 e2;simp[e1,e2]
 |x::fs,o,rs,h,ha,h1,h2=>by
  simp only[shF]at h;simp only[Cd,eJ]at ha;split at h
  .rename_i ho;split at h
   .rename_i a hsa;split at h
    .rename_i hl;split at h
     .rename_i b hb;obtain rfl:=cQ h;have s1:=Gl h1;have s2:=Gl h2;rw[AD]at s1 s2;have n1:=yJ h1;have n2:=yJ h2;simp only[An,eR]at n1 n2;obtain⟨b1,hr1,hi1⟩:=ih _ _ hsa ha.1.2 _ _ s1.1 s2.1 d w hd;obtain⟨b2,hr2,hi2⟩:=Fx ih c1 c2 d w hd fs (o+a.length) b hb ha.2 s1.2 s2.2;have p1:=OQ (w:=w) ha.1.2 (c1.map toV) o (by rw[oY];omega);have p2:=OQ (w:=w) ha.1.2 (c2.map toV) o (by rw[oY];omega);rw[<-hl,<-map_drop,<-map_take]at p1 p2;have ZL:x.name≠ "_" :=by simpa using ha.1.1
      simp only[Op.eqFields,ZL,ne_eq,not_false_eq_true,gC,ho,nF,p1,p2,lP,hr1];have aNb:c1.drop o=(c1.drop o).take a.length++c1.drop (o+a.length):=by rw[<-AD,oA]
      have aNc:c2.drop o=(c2.drop o).take a.length++c2.drop (o+a.length):=by rw[<-AD,oA]
      have key:c1.drop o=c2.drop o↔((c1.drop o).take a.length=(c2.drop o).take a.length/\c1.drop (o+a.length)=c2.drop (o+a.length)):=by
       constructor
       .intro e;rw[e];refine⟨rfl,?_⟩;rw[<-AD,<-AD,e]
       .intro e;rw[aNb,aNc,e.1,e.2]
      cases b1 with
      |false=>exact⟨false,by simp,by simp only[eS,false_iff];intro e;exact absurd (hi1.2 (key.1 e).1) (by simp)⟩
      |true=>exact⟨b2,by simpa using hr2,by rw[hi2,key];exact⟨λe=>⟨hi1.1 rfl,e⟩,λe=>e.2⟩⟩
     .cases h
    .cases h
   .cases h
  .cases h
theorem N8:∀(f:Nat) (t:TypeId) (ss:List Sh),K3 P f t=some ss->eqT P f t=true->∀c1 c2:List AV,yI ss c1->yI ss c2->∀d w,f<=d->
  ∃b,(Op.equalIn d t (valOf P t (c1.map toV)) (valOf P t (c2.map toV))).run P w= .ok b w/\(b=true↔c1=c2)
 |0,_,_,h,_,_,_,_,_,_,_,_=>by simp[K3]at h
 |f+1,t,ss,h,he,c1,c2,h1,h2,d,w,hd=>by
  obtain⟨d,rfl⟩:∃d',d=d'+1:=⟨d-1,by omega⟩;unfold K3 at h;unfold eqT at he;have one:∀s:Sh,ss=[s]->∃x y,c1=[x]/\c2=[y]/\Sk s x/\Sk s y:=by
   rintro s rfl;match c1,c2,h1,h2 with
   |[x],[y],h1,h2=>exact⟨x,y,rfl,rfl,h1.1,h2.1⟩
   |[],_,h1,_=>exact h1.elim
   |_::_::_,_,h1,_=>exact h1.2.elim
   |[_],[],_,h2=>exact h2.elim
   |[_],_::_::_,_,h2=>exact h2.2.elim
  split at h
  .rename_i hu;obtain⟨x,y,rfl,rfl,l1,l2⟩:=one _ (cQ h).symm;cases x<;>simp only[Sk]at l1;cases y<;>simp only[Sk]at l2;rename_i p q;exact⟨p == q,by simp[valOf,CL,hu,toV,Go.run_equalIn_bool w d t p q hu],by simp⟩
  .rename_i k hu;obtain⟨x,y,rfl,rfl,l1,l2⟩:=one _ (cQ h).symm;cases x<;>simp only[Sk]at l1;cases y<;>simp only[Sk]at l2;rename_i k1 p k2 q;have e1:k1=k:=l1;have e2:k2=k:=l2;subst e1;subst e2;exact⟨p == q,by simp[valOf,CL,hu,toV,run_equalIn_int w d t _ _ p q hu],by simp⟩
  .rename_i hu;obtain⟨x,y,rfl,rfl,l1,l2⟩:=one _ (cQ h).symm;cases x<;>simp only[Sk]at l1;cases y<;>simp only[Sk]at l2;rename_i p q;refine⟨p == q,?_,by simp⟩;have:=run_equalIn_string w d t ⟨p.toArray⟩ ⟨q.toArray⟩ hu;rw[ByteArray.toList_eq,ByteArray.toList_eq]at this;simpa [valOf,CL,hu,toV]using this
  .rename_i e hu;rw[hu]at he;cases he
  .rename_i fs hu;rw[hu]at he;simp only[eJ,EV]at he;split at h
   .rename_i r hr;split at h
    .obtain rfl:=cQ h;have hf:P.fieldsOf t=fs:=by simp[Program.fieldsOf,hu]
     obtain⟨b,hb,hi⟩:=Fx (λt ss a b c1 c2 e1 e2 d w hd=>N8 f t ss a b c1 c2 e1 e2 d w hd) c1 c2 d w (by omega) fs.toList 0 _ hr he.2 (by simpa using h1) (by simpa using h2);refine⟨b,?_,by simpa using hi⟩;have:=run_equalIn_struct w d t (c1.map toV).toArray (c2.map toV).toArray (by rw[hf];exact hu) he.1;rw[hf]at this;simpa [valOf,CL,hu]using this.trans hb
    .cases h
   .cases h
  .cases h
theorem aNd{t:TypeId}{f:Nat}{ss:List Sh}(hf:f<=10000)(hs:K3 P f t=some ss)(he:eqT P f t=true)(hst:CL P t=true)(hg:P.eqGuardType P.depth t=false){c1 c2:List AV}(h1:yI ss c1)(h2:yI ss c2){b:Bool}(hb:b=true↔c1=c2):
  EqA P t c1 c2 b:=by
 intro op x y w hop;obtain⟨b',hb',hi⟩:=N8 f t ss hs he c1 c2 h1 h2 10000 w hf;have e:b'=b:=by rw[<-hb]at hi;cases b<;>cases b'<;>simp_all
 subst e;simp only[valOf,hst,gC]at hb';rcases hop with rfl|rfl
 .simp only[nF,run_eqGuard_agg w _ t x y _ _ hg,lP,run_eql_struct,hb',gC]
 .simp only[nF,run_eqGuard_agg w _ t x y _ _ hg,lP,run_neq_struct,hb'];rfl
end
def Nx(m:Nat)(P:Program)[aC P](o:Oper)(s:AS)(X:AS->Prop):Prop:=sD P o s X\/((m=1/\(JK P o s X\/IL P o s X))\/(m=2/\UI P o s X))
theorem go_seq{P:Program}[aC P]{x y:Code}{s:AS}{Q:Exit->AS->Prop}(h:uY P x s (DI (λs'=>uY P y s' Q) Q)):uY P (.seq x y) s Q:=by unfold uY;exact h
theorem go_then{K:AS->Prop}{Q:Exit->AS->Prop}{s:AS}(h:K s):DI K Q .normal s:=by unfold DI;exact h
theorem go_cons{P:Program}[aC P]{all r:List Oper}{o:Oper}{s:AS}{K:AS->Prop}(hg:o.guard=none)(h:Nx 1 P o s λs'=>kU P all r s' K):kU P all (o::r) s K:=by
 simp only[kU,hg];rcases h with h|h
 .exact .inl h
 .rcases h with h|h
  .exact .inr h.2
  .exact absurd h.1 (by decide)
theorem go_take{P:Program}[aC P]{all r:List Oper}{o:Oper}{s:AS}{K:AS->Prop}{j:Nat}{want:Bool}(hg:o.guard=some (j,want))(hb:sJ all s j want= .bool want)(h:Nx 0 P o s λs'=>kU P all r s' K):kU P all (o::r) s K:=by
 simp only[kU,hg,hb];rcases h with h|h
 .exact ⟨λ_=> .inl h,λhn=>absurd rfl hn⟩
 .rcases h with h|h<;>exact absurd h.1 (by decide)
theorem go_skip{P:Program}[aC P]{all r:List Oper}{o:Oper}{s s':AS}{K:AS->Prop}{j:Nat}{want:Bool}(hg:o.guard=some (j,want))(hb:sJ all s j want= .bool (!want))(h:kU P all r s' K)(hs:∀K':AS->Prop,K' s'->K' (s.put o.dst (.gT [])):=by intro K' hK';(try simp only[AS.put,cW,cU]);exact hK'):kU P all (o::r) s K:=
 aAl hg hb (hs (λs=>kU P all r s K) h)
theorem go_drawn{P:Program}[aC P]{id:Nat}{l:List Oper}{s:AS}{Q:Exit->AS->Prop}{fl:List (Nat×Nat×List AV)}{b:List aM}(hf:Sd P 0 s.o.length l=fl)(hbb:s.o++(fl.map λq=>(⟨false,false,q.2.2.length,0,[]⟩:aM))=b)(hfw:OM l=true)(hdst:distinct l=true)(hfl:ZY fl b.length=true)(hb:tH Gg true fl b=b)(hb0:tH Gg false fl b=s.o++(fl.map (·.2.2.length)).map λn=>⟨true,false,n,0,[]⟩)
  (h:nN P l s.t b fl (Q .normal) 0 l [] []):uY P (.region id l.toArray true) s Q:=aAk hfw hdst hfl hb hb0 h
section
variable{P:Program}[aC P]{l:List Oper}{t:List AV}{b:List aM}{fl:List (Nat × Nat × List AV)}{K:AS -> Prop}{i:Nat}{op:Oper}{r:List Oper}{vs:List AV}{h:List (Nat × List aM)}{pr:List Nat}{m:List AV}{om:List aM}
theorem go_draw(hg:op.guard=none)(hnf:(fl.all λq=>decide (q.1≠i))=true)(hpr:pre op=pr)(hlt:(pr.all λe=>decide (e<i))=true)(hm:pX i pr 0 l vs t=m)(ho:tH (wE pr) true fl (oJ (wE pr) b h)=om)(hq:nU op.op ⟨m,om⟩=true)
  (ha:Nx 2 P op ⟨m,om⟩ λs'=>(Fw pr h=true\/s'.o.length=om.length)/\nN P l t b fl K (i+1) r (vs++[Gi op s']) (if s'.o.length=om.length then h else(i,tH Gg true fl s'.o)::h)):nN P l t b fl K i (op::r) vs h:=by
 refine JP hnf hpr hlt hm ho hq ?_;unfold sN;simp only[hg];rcases ha with ha|ha
 .exact .inl ha
 .rcases ha with ha|ha
  .exact absurd ha.1 (by decide)
  .exact .inr ha.2
theorem go_drawT{j:Nat}{want:Bool}(hg:op.guard=some (j,want))(hnf:(fl.all λq=>decide (q.1≠i))=true)(hpr:pre op=pr)(hlt:(pr.all λe=>decide (e<i))=true)(hm:pX i pr 0 l vs t=m)(ho:tH (wE pr) true fl (oJ (wE pr) b h)=om)(hq:nU op.op ⟨m,om⟩=true)(hb:sJ l ⟨m,om⟩ j want= .bool want)
  (ha:Nx 2 P op ⟨m,om⟩ λs'=>(Fw pr h=true\/s'.o.length=om.length)/\nN P l t b fl K (i+1) r (vs++[Gi op s']) (if s'.o.length=om.length then h else(i,tH Gg true fl s'.o)::h)):nN P l t b fl K i (op::r) vs h:=by
 refine JP hnf hpr hlt hm ho hq ?_;unfold sN;simp only[hg,hb];rcases ha with ha|ha
 .exact ⟨λ_=> .inl ha,λhn=>absurd rfl hn⟩
 .rcases ha with ha|ha
  .exact absurd ha.1 (by decide)
  .exact ⟨λ_=> .inr ha.2,λhn=>absurd rfl hn⟩
theorem go_drawS{j:Nat}{want:Bool}(hg:op.guard=some (j,want))(hnf:(fl.all λq=>decide (q.1≠i))=true)(hpr:pre op=pr)(hlt:(pr.all λe=>decide (e<i))=true)(hm:pX i pr 0 l vs t=m)(ho:tH (wE pr) true fl (oJ (wE pr) b h)=om)(hds:(match op.dst with|some d=>decide (d<m.length)|none=>false)=true)(hq:nU op.op ⟨m,om⟩=true)(hb:sJ l ⟨m,om⟩ j want= .bool (!want))
  (ha:nN P l t b fl K (i+1) r (vs++[.gT []]) h):nN P l t b fl K i (op::r) vs h:=by
 refine JP hnf hpr hlt hm ho hq ?_;unfold sN;simp only[hg,hb];refine⟨λhn=> ?_,λ_=> ?_⟩
 .cases want<;>cases hn
 .rw [put_eq];refine⟨.inr rfl,?_⟩;rw[eK rfl];have:Gi op ⟨uJ m op.dst (.gT []),om⟩= .gT []:=by
   unfold Gi uJ;cases hd:op.dst with
   |none=>rw[hd]at hds;cases hds
   |some d=>
    rw[hd]at hds;have hdl:d<m.length:=by simpa using hds
    dsimp only;rw[iS,mB hdl];rfl
  rw[this];exact ha
theorem go_barC{z:List Nat}{s1:AS}(hr:yE l i=true)(hz:uO l i=z)(hk:K s1)(ha:DR (λz=>Ag P l (λs'=>s'=s1) (left ((range l.length).map (jz i z))) ((range l.length).map (jz i z)) ⟨iM (jz i z) 0 l vs t,tH (jz i z) false fl (oJ (jz i z) b h)⟩) [] z:=by
  repeat' (first|refine st ?_|(refine nx ?_;refine so ?_)|refine sx ?_ ?_|refine sy ?_ ?_|fail)
  all_goals rfl):nN P l t b fl K i (op::r) vs h:=EH hr hz ha hk
theorem go_float{q:Nat×Nat×List AV}{T:TypeId}{vs':List AV}(hq:fl.find? (λq=>q.1 == i)=some q)(hg:op.guard=none)(hT:op.op= .alloc T)(hz:qV P T=some q.2.2)(hlt:((pre op).all λe=>decide (e<i))=true)(hv:vs++[.ptr q.2.1 1 0 0]=vs')(hd:nN P l t b fl K (i+1) r vs' h):nN P l t b fl K i (op::r) vs h:=by subst hv;exact aa hq hg hT hz hlt hd
theorem go_next{vs':List AV}{h':List (Nat×List aM)}{c:Prop}(hc:c)(hv:vs=vs')(hh:h=h')(hd:nN P l t b fl K i r vs' h'):c/\nN P l t b fl K i r vs h:=by subst hv;subst hh;exact⟨hc,hd⟩
theorem kB{F:List Nat->Prop}{acc:List Nat}(h:DR F acc []):DR F acc []:=h
theorem kE{n:Nat}{d:List Bool}{s:AS}(h:Ag P l K n d s):Ag P l K n d s:=h
theorem kF{n:Nat}{d:List Bool}{s:AS}{j:Nat}(h:wM P l K n d s [j]):wM P l K n d s [j]:=h
theorem kD(hd:nN P l t b fl K i r vs h):nN P l t b fl K i r vs h:=hd
theorem kN{c:Prop}(hd:c/\nN P l t b fl K i r vs h):c/\nN P l t b fl K i r vs h:=hd
end
attribute [irreducible] Nx
theorem kL{P:Program}[aC P]{all l:List Oper}{s:AS}{K:AS->Prop}(h:kU P all l s K):kU P all l s K:=h
theorem kA{P:Program}[aC P]{c:Code}{s:AS}{Q:Exit->AS->Prop}(h:uY P c s Q):uY P c s Q:=h
theorem kT{K:AS->Prop}{Q:Exit->AS->Prop}{e:Exit}{s:AS}(h:DI K Q e s):DI K Q e s:=h
theorem kI{id:Nat}{Q:Exit->AS->Prop}{e:Exit}{s:AS}(h:Y8 id Q e s):Y8 id Q e s:=h
structure Hid(q:Prop): Prop where
  out:q
theorem st{p q:Prop}(h:q)(e:Hid q->p:=by
 intro h
 (first
  |(refine kL ?_;first
    |refine ZA ?_
    |refine go_cons rfl ?_
    |(refine go_take rfl ?_ ?_;(focus (simp[sJ,W];done)))
    |(refine go_skip rfl ?_ ?_;(focus (simp[sJ,W];done))))
  |(refine kA ?_;first
    |refine go_seq ?_|refine RD ?_|refine H9 ?_|refine VK ?_|refine ZC ?_|refine ZE ?_|refine go_drawn (by simp;rfl) (by simp;rfl) (by decide+kernel) (by decide) (by first|rfl|(simp[ZY];done)) (by simp) (by simp) ?_)
  |(refine kT ?_;first|refine go_then ?_|refine KY ?_|refine IM ?_)
  |(refine kI ?_;first|refine IP ?_|refine RH ?_|refine VL ?_|refine VM (by decide) ?_)
  |(refine kN ?_;refine go_next (by simp;done) (by simp;rfl) (by simp;rfl) ?_)
  |(refine kD ?_;first
    |refine Wd (by simp;rfl) (by simp;rfl) ?_
    |refine go_float rfl rfl rfl (by simp;done) (by first|rfl|(simp[Region.binds];done)) (by simp;rfl) ?_
    |(refine go_draw rfl (by first|rfl|(simp;done)) (by simp[Region.binds];rfl) (by decide) (by simp[Region.binds];rfl) (by simp;rfl) ?_ ?_;(focus (first|rfl|(simp[nU];done))))
    |(refine go_drawT rfl (by first|rfl|(simp;done)) (by simp[Region.binds];rfl) (by decide) (by simp[Region.binds];rfl) (by simp;rfl) ?_ ?_ ?_;(focus (first|rfl|(simp[nU];done)));(focus (simp[sJ,W];done)))
    |(refine go_drawS rfl (by first|rfl|(simp;done)) (by simp[Region.binds];rfl) (by decide) (by simp[Region.binds];rfl) (by simp;rfl) ?_ ?_ ?_ ?_;(focus (first|rfl|(simp;done)));(focus (first|rfl|(simp[nU];done)));(focus (simp[sJ,W];done)))
    |refine We (by decide+kernel) (by simp;rfl) (by simp;rfl) ?_
    |refine go_barC (by decide+kernel) (by simp[uO,reach,nC,Region.binds,Fo];rfl) ?_
    |refine Ns (by decide+kernel) (by simp[uO,reach,nC,Region.binds,Fo];rfl) ?_)
  |(refine kB ?_;refine go_sub (by simp;rfl) (by simp;rfl) (by simp;rfl) (by simp;rfl) ?_)
  |(refine kE ?_;first|refine go_end ?_|refine go_all (by simp[Region.binds];rfl) ?_)
  |(refine kF ?_;refine go_one rfl (by simp only[cW,cU];rfl) ?_))
 repeat (first
  |(refine kL ?_;first
    |refine ZA ?_
    |refine go_cons rfl ?_
    |(refine go_take rfl ?_ ?_;(focus (simp[sJ,W];done)))
    |(refine go_skip rfl ?_ ?_;(focus (simp[sJ,W];done))))
  |(refine kA ?_;first
    |refine go_seq ?_|refine RD ?_|refine H9 ?_|refine VK ?_|refine ZC ?_|refine ZE ?_|refine go_drawn (by simp;rfl) (by simp;rfl) (by decide+kernel) (by decide) (by first|rfl|(simp[ZY];done)) (by simp) (by simp) ?_)
  |(refine kT ?_;first|refine go_then ?_|refine KY ?_|refine IM ?_)
  |(refine kI ?_;first|refine IP ?_|refine RH ?_|refine VL ?_|refine VM (by decide) ?_)
  |(refine kN ?_;refine go_next (by simp;done) (by simp;rfl) (by simp;rfl) ?_)
  |(refine kD ?_;first
    |refine Wd (by simp;rfl) (by simp;rfl) ?_
    |refine go_float rfl rfl rfl (by simp;done) (by first|rfl|(simp[Region.binds];done)) (by simp;rfl) ?_
    |(refine go_draw rfl (by first|rfl|(simp;done)) (by simp[Region.binds];rfl) (by decide) (by simp[Region.binds];rfl) (by simp;rfl) ?_ ?_;(focus (first|rfl|(simp[nU];done))))
    |(refine go_drawT rfl (by first|rfl|(simp;done)) (by simp[Region.binds];rfl) (by decide) (by simp[Region.binds];rfl) (by simp;rfl) ?_ ?_ ?_;(focus (first|rfl|(simp[nU];done)));(focus (simp[sJ,W];done)))
    |(refine go_drawS rfl (by first|rfl|(simp;done)) (by simp[Region.binds];rfl) (by decide) (by simp[Region.binds];rfl) (by simp;rfl) ?_ ?_ ?_ ?_;(focus (first|rfl|(simp;done)));(focus (first|rfl|(simp[nU];done)));(focus (simp[sJ,W];done)))
    |refine We (by decide+kernel) (by simp;rfl) (by simp;rfl) ?_
    |refine go_barC (by decide+kernel) (by simp[uO,reach,nC,Region.binds,Fo];rfl) ?_
    |refine Ns (by decide+kernel) (by simp[uO,reach,nC,Region.binds,Fo];rfl) ?_)
  |(refine kB ?_;refine go_sub (by simp;rfl) (by simp;rfl) (by simp;rfl) (by simp;rfl) ?_)
  |(refine kE ?_;first|refine go_end ?_|refine go_all (by simp[Region.binds];rfl) ?_)
  |(refine kF ?_;refine go_one rfl (by simp only[cW,cU];rfl) ?_))
 exact h.out):p:=e ⟨h⟩
theorem so{P:Program}[aC P]{o:Oper}{s s':AS}{X:AS -> Prop}{m:Nat}(h:X s')(e:∀ K:AS -> Prop, K s' -> sD P o s K := by
  intro K hK;first
    | (simp[-Bool.exists_bool, sD, W]
       (try simp (disch := omega) only[wrap64])
       first
         | exact hK
         | (refine⟨_, by assumption, ?_⟩; (try simp only[qL, mF, JM, AZ, Io, zC, KZ, AY, fW, eM, eA, eN, eV, rK, hM, Nat.reduceAdd]); exact hK)
         | (refine⟨?_, hK⟩; omega)
         | (refine⟨?_, ?_, hK⟩ <;> omega)
         | (refine⟨?_, ?_, ?_, hK⟩ <;> omega))
    | (simp[-Bool.exists_bool, sD, V]
       (try simp (disch := omega) only[wrap64])
       first
         | exact hK
         | (refine⟨_, by assumption, ?_⟩; (try simp only[qL, mF, JM, AZ, Io, zC, KZ, AY, fW, eM, eA, eN, eV, rK, hM, Nat.reduceAdd]); exact hK)
         | (refine⟨?_, hK⟩; omega)
         | (refine⟨?_, ?_, hK⟩ <;> omega)
         | (refine⟨?_, ?_, ?_, hK⟩ <;> omega))): Nx m P o s X := by
  unfold Nx; exact .inl (e X h)
theorem sk{P:Program}[aC P]{o:Oper}{s s':AS}{X:AS->Prop}{m:Nat}{H:Prop}(e:∀K:AS->Prop,H->K s'->sD P o s K:=by
 intro K hc hK;first
  |(simp[-Bool.exists_bool,sD,W];refine⟨_,hc,?_⟩;(try simp only[qL,mF,JM,AZ,Io,zC,KZ,AY,fW,eM,eA,eN,eV,rK,hM,Nat.reduceAdd]);exact hK)
  |(simp[-Bool.exists_bool,sD,V];refine⟨_,hc,?_⟩;(try simp only[qL,mF,JM,AZ,Io,zC,KZ,AY,fW,eM,eA,eN,eV,rK,hM,Nat.reduceAdd]);exact hK))(hc:H)(h:X s'):Nx m P o s X:=by
 unfold Nx;exact .inl (e X hc h)
theorem sm{P:Program}[aC P]{o:Oper}{s s':AS}{X:AS->Prop}{H:Prop}(e:∀K:AS->Prop,H->K s'->JK P o s K:=by
 intro K hc hK;refine aDk ?_;simp[-Bool.exists_bool,KW,W];refine⟨_,_,hc,?_⟩;simp[-Bool.exists_bool,AS.QA,PK,aM.aId,aM.forget,Cx,DF,Go.Aw.mt,Go.Aw.mtc,W];exact hK)(hc:H)(h:X s'):Nx 1 P o s X:=by
 unfold Nx;exact .inr (.inl ⟨rfl,.inl (e X hc h)⟩)
theorem sg{P:Program}[aC P]{o:Oper}{s s':AS}{X:AS->Prop}{H:Prop}(e:∀K:AS->Prop,H->K s'->JK P o s K:=by
 intro K hc hK;refine aMi ?_;simp[-Bool.exists_bool,Zz,W];refine⟨_,_,hc,?_⟩;simp[-Bool.exists_bool,takes,handed,aIg,VD,rowOf,lV,kC,Rw,Rx,jJ,nG,res,uX,AV.isObj,AS.given,JH,Dp,Fs,aM.H8,aM.forget,rt,xR,mX,iP,AV.kept,W];exact hK)(hc:H)(h:X s'):Nx 1 P o s X:=by
 unfold Nx;exact .inr (.inl ⟨rfl,.inl (e X hc h)⟩)
theorem sz{P:Program}[aC P]{o:Oper}{s s':AS}{X:AS->Prop}(h:X s')(e:∀K:AS->Prop,K s'->JK P o s K:=by
 intro K hK;refine aMj ?_;simp[-Bool.exists_bool,aMe,sD,mX,xR,rt,aM.kill,W];exact hK):Nx 1 P o s X:=by
 unfold Nx;exact .inr (.inl ⟨rfl,.inl (e X h)⟩)
theorem sb{P:Program}[aC P]{o:Oper}{s s':AS}{X:AS->Prop}(h:X s')(e:∀K:AS->Prop,K s'->JK P o s K:=by
 intro K hK;refine aDk ?_;simp[-Bool.exists_bool,KW,AS.made,W];first
  |exact hK
  |(refine⟨?_,hK⟩;omega)):Nx 1 P o s X:=by
 unfold Nx;exact .inr (.inl ⟨rfl,.inl (e X h)⟩)
theorem se{P:Program}[aC P]{o:Oper}{s s':AS}{X:AS->Prop}(h:X s')(e:∀K:AS->Prop,K s'->UI P o s K:=by
 intro K hK;simp[UI];exact hK):Nx 2 P o s X:=by
 unfold Nx;exact .inr (.inr ⟨rfl,e X h⟩)
theorem sc{P:Program}[aC P]{c:Operand}{x y:Code}{s:AS}{Q:Exit->AS->Prop}{b:Bool}{p1 p2:Prop}(h1:p1->uY P x s Q)(h2:p2->uY P y s Q)(hc:s.ev c= .bool b:=by rfl)
  (e1:b=true->p1:=by
   intro h;first|(refine(?_:False);simp at h;done)|(refine(?_:False);(try simp at h);omega;done)|(simp at h;exact h)|exact h)
  (e2:b=false->p2:=by
   intro h;first|(refine(?_:False);simp at h;done)|(refine(?_:False);(try simp at h);omega;done)|(simp at h;exact h)|exact h):uY P (.cond c x y) s Q:=
 RF hc (λh=>h1 (e1 h)) (λh=>h2 (e2 h))
theorem sp{P:Program}[aC P]{all r:List Oper}{o:Oper}{s:AS}{K:AS->Prop}{j d:Nat}{want b:Bool}{s1 s2:AS}{p1 p2:Prop}(h1:p1->kU P all (o::r) s1 K)(h2:p2->kU P all (o::r) s2 K)(hg:o.guard=some (j,want):=by rfl)(hd:(all[j]?).bind (·.dst)=some d:=by rfl)(hb:s.t[d]? =some (.bool b):=by rfl)(hx:(b=true)=(b=true):=by(fail_if_success (with_reducible refine Eq.refl (true=true)));(fail_if_success (with_reducible refine Eq.refl (false=true)));rfl)
  (e1:∀K':AS->Prop,K' s1->K' ⟨s.t.set d (.bool true),s.o⟩:=by intro K' hK';(try simp only[cW,cU]);exact hK')
  (e2:∀K':AS->Prop,K' s2->K' ⟨s.t.set d (.bool false),s.o⟩:=by intro K' hK';(try simp only[cW,cU]);exact hK')
  (e3:b=true->p1:=by
   intro h;first|(refine(?_:False);simp at h;done)|(refine(?_:False);(try simp at h);omega;done)|(simp at h;exact h)|exact h)
  (e4:b=false->p2:=by
   intro h;first|(refine(?_:False);simp at h;done)|(refine(?_:False);(try simp at h);omega;done)|(simp at h;exact h)|exact h):kU P all (o::r) s K:=
 wh hg hd hb (λh=>e1 (λs=>kU P all (o::r) s K) (h1 (e3 h))) (λh=>e2 (λs=>kU P all (o::r) s K) (h2 (e4 h)))
theorem nx{m:Nat}{P:Program}[aC P]{o:Oper}{s:AS}{X:AS->Prop}(h:Nx m P o s X):Nx m P o s X:=h
theorem cx{P:Program}[aC P]{c:Operand}{x y:Code}{s:AS}{Q:Exit->AS->Prop}(h:uY P (.cond c x y) s Q):uY P (.cond c x y) s Q:=h
theorem lx{P:Program}[aC P]{all r:List Oper}{o:Oper}{s:AS}{K:AS->Prop}(h:kU P all (o::r) s K):kU P all (o::r) s K:=h
theorem bM{P:Program}[aC P](hm:P.follows .mixedOrders=true){f:FuncId}{fn:Func}{c:Code}(hf:P.funcs[f]? =some fn){n:Nat}(hn:fn.ntmps=n){args t:List AV}{rr:AV}
  (h:uY P c ⟨t,[]⟩ (λe s=>(e= .normal\/e= .ret)/\aP P fn s rr)) (hb:fn.body=some c:=by rfl)
  (ht:args++replicate (n-args.length) .undef=t:=by
   simp only[eN,eV,Nat.reduceSub,Nat.reduceAdd,pN,BW,eA,eM];rfl):Ok P f args rr:=by
 subst ht;subst hn;exact VJ hm hf hb h
theorem wo{P:Program}[aC P](hm:P.follows .mixedOrders=true){f:FuncId}{fn:Func}{c:Code}(hf:P.funcs[f]? =some fn){n:Nat}(hn:fn.ntmps=n){x x':AV}{rest t:List AV}{o:List aM}{p rr:AV}
  (h:uY P c ⟨t,o⟩ (λe s=>(e= .normal\/e= .ret)/\EI P fn s p x' rr)) (hb:fn.body=some c:=by rfl)
  (aM1:DT (dF 0 0 x).2.length (dF 0 0 x).1=true:=by simp[DT,Nt])
  (ho:(dF 0 0 x).2=o:=by
   simp only[qL,mF,JM,AZ,Io,zC,KZ,AY,rK,hM,Nat.reduceAdd,eA,eM,fW];rfl)
  (hp:(dF 0 0 x).1=p:=by
   simp only[qL,mF,JM,AZ,Io,zC,KZ,AY,rK,hM,Nat.reduceAdd,eA,eM,fW];rfl)
  (ht:(p::rest)++replicate (n-(rest.length+1)) .undef=t:=by
   simp only[eN,eV,Nat.reduceSub,Nat.reduceAdd,pN,BW,eA,eM];rfl):OkM P f x x' rest rr:=by
 subst ht;subst hn;subst hp;subst ho;exact wm hm hf hb aM1 h
attribute [simp] bytesOf
theorem sT{P:Program}[aC P]{c:Operand}{x y:Code}{s:AS}{Q:Exit->AS->Prop}{b:Bool}(h1:uY P x s Q)(hc:s.ev c= .bool b:=by rfl)
  (e2:b=false->False:=by intro h;first|(simp at h;done)|((try simp at h);omega;done)):uY P (.cond c x y) s Q:=
 RF hc (λ_=>h1) (λh=>(e2 h).elim)
theorem sF{P:Program}[aC P]{c:Operand}{x y:Code}{s:AS}{Q:Exit->AS->Prop}{b:Bool}(h2:uY P y s Q)(hc:s.ev c= .bool b:=by rfl)
  (e1:b=true->False:=by intro h;first|(simp at h;done)|((try simp at h);omega;done)):uY P (.cond c x y) s Q:=
 RF hc (λh=>(e1 h).elim) (λ_=>h2)
theorem wl{p q:Prop}(h:q)(e:Hid q->p:=by
 intro h;first|refine st ?_|(refine nx ?_;refine so ?_)|(refine cx ?_;first|refine sT ?_|refine sF ?_|(refine sc (λhc=> ?_) (λhc=> ?_)<;>try exact hc.elim))|(refine lx ?_;refine sp (λhc=> ?_) (λhc=> ?_)<;>try exact hc.elim)|refine sx ?_ ?_|refine sy ?_ ?_|fail
 repeat' first|refine st ?_|(refine nx ?_;refine so ?_)|(refine cx ?_;first|refine sT ?_|refine sF ?_|(refine sc (λhc=> ?_) (λhc=> ?_)<;>try exact hc.elim))|(refine lx ?_;refine sp (λhc=> ?_) (λhc=> ?_)<;>try exact hc.elim)|refine sx ?_ ?_|refine sy ?_ ?_|fail
 all_goals exact h.out):p:=e ⟨h⟩
theorem we{p q:Prop}(h:q)(e:Hid q->p:=by
 intro h;first|refine st ?_|(refine nx ?_;first|refine se ?_|refine so ?_)|(refine cx ?_;first|refine sT ?_|refine sF ?_|(refine sc (λhc=> ?_) (λhc=> ?_)<;>try exact hc.elim))|(refine lx ?_;refine sp (λhc=> ?_) (λhc=> ?_)<;>try exact hc.elim)|refine sx ?_ ?_|refine sy ?_ ?_|fail
 repeat' first|refine st ?_|(refine nx ?_;first|refine se ?_|refine so ?_)|(refine cx ?_;first|refine sT ?_|refine sF ?_|(refine sc (λhc=> ?_) (λhc=> ?_)<;>try exact hc.elim))|(refine lx ?_;refine sp (λhc=> ?_) (λhc=> ?_)<;>try exact hc.elim)|refine sx ?_ ?_|refine sy ?_ ?_|fail
 all_goals exact h.out):p:=e ⟨h⟩
theorem sq{p p1 p2 q1 q2:Prop}(h1:p1->q1)(h2:p2->q2)(e:Hid (p1->q1)->Hid (p2->q2)->p:=by
 intro h1 h2;first
  |(refine cx ?_;refine sc h1.out h2.out)
  |(refine lx ?_;refine sp h1.out h2.out)
  |refine sx (h1.out trivial) (h2.out trivial)
  |refine sy (h1.out trivial) (h2.out trivial)
  |fail):p:=e ⟨h1⟩ ⟨h2⟩
theorem wg{p q:Prop}(h:q)(e:Hid q->p:=by
 intro h;first|refine st ?_|(refine nx ?_;refine so ?_)|(refine cx ?_;first|refine sT ?_|refine sF ?_)|fail
 repeat first|refine st ?_|(refine nx ?_;refine so ?_)|(refine cx ?_;first|refine sT ?_|refine sF ?_)|fail
 exact h.out):p:=e ⟨h⟩
theorem wf{p q:Prop}(h:q)(e:Hid q->p:=by
 intro h;first|refine st ?_|(refine nx ?_;first|refine se ?_|refine so ?_)|(refine cx ?_;first|refine sT ?_|refine sF ?_)|fail
 repeat first|refine st ?_|(refine nx ?_;first|refine se ?_|refine so ?_)|(refine cx ?_;first|refine sT ?_|refine sF ?_)|fail
 exact h.out):p:=e ⟨h⟩
theorem iF{p q:Prop}(h:q)(e:Hid q->True->p:=by
 intro h W;first|refine st ?_|(refine nx ?_;refine so ?_)|(refine cx ?_;first|refine sT ?_|refine sF ?_|(refine sc (λhc=> ?_) (λhc=> ?_)<;>try exact hc.elim))|(refine lx ?_;refine sp (λhc=> ?_) (λhc=> ?_)<;>try exact hc.elim)|refine sx ?_ ?_|refine sy ?_ ?_|fail
 repeat' first|refine st ?_|(refine nx ?_;refine so ?_)|(refine cx ?_;first|refine sT ?_|refine sF ?_|(refine sc (λhc=> ?_) (λhc=> ?_)<;>try exact hc.elim))|(refine lx ?_;refine sp (λhc=> ?_) (λhc=> ?_)<;>try exact hc.elim)|refine sx ?_ ?_|refine sy ?_ ?_|fail
 all_goals exact h.out):p:=e ⟨h⟩ trivial
theorem aY{p q:Prop}(h:q)(e:Hid q->True->p:=by
 intro h W;first|refine st ?_|(refine nx ?_;first|refine se ?_|refine so ?_)|(refine cx ?_;first|refine sT ?_|refine sF ?_|(refine sc (λhc=> ?_) (λhc=> ?_)<;>try exact hc.elim))|(refine lx ?_;refine sp (λhc=> ?_) (λhc=> ?_)<;>try exact hc.elim)|refine sx ?_ ?_|refine sy ?_ ?_|fail
 repeat' first|refine st ?_|(refine nx ?_;first|refine se ?_|refine so ?_)|(refine cx ?_;first|refine sT ?_|refine sF ?_|(refine sc (λhc=> ?_) (λhc=> ?_)<;>try exact hc.elim))|(refine lx ?_;refine sp (λhc=> ?_) (λhc=> ?_)<;>try exact hc.elim)|refine sx ?_ ?_|refine sy ?_ ?_|fail
 all_goals exact h.out):p:=e ⟨h⟩ trivial
theorem aQ{q:Prop}(h:q):(Exit.ret= .normal\/Exit.ret= .ret)/\q:=⟨.inr rfl,h⟩
theorem aD{P:Program}{fn:Func}{s:AS}{r:AV}{x:Array ResultVar}(hr:fn.results=x)(e:fn.results=x->aP P fn s r:=by intro hr;simp[aP,hr]):(Exit.ret= .normal\/Exit.ret= .ret)/\aP P fn s r:=⟨.inr rfl,e hr⟩
section
variable{P:Program}{p q:List Nat}{l:List Oper}{Q:Exit -> Act -> World -> Prop}
end
def AS.yK(P:Program)(s:AS):List ResultVar->Option (Nat×List AV)
 | .cell t ty::xs=>match s.t.getD t .undef with
  | .ptr i bV idx off=>match s.at i bV idx with
   |some (ob,e)=>match lS P ty with
    |some n=>if ob.box=true/\off+n<=e.length then(match s.wT P xs with
     |some ys=>some (i,.agg ((e.drop off).take n)::ys)
     |none=>none)else none
    |none=>none
   |none=>none
  |_=>none
 |_=>none
def AS.rvC(P:Program)(s:AS):List ResultVar->Option (Nat×List AV)
 |x::xs=>match s.wT P [x],s.yK P xs with
  |some [y],some (i,ys)=>some (i,y::ys)
  |_,_=>none
 |[]=>none
def Nz(P:Program)(fn:Func)(s:AS)(r:AV):Prop:=
 ∃i ys,(s.yK P fn.results.toList=some (i,ys)\/s.rvC P fn.results.toList=some (i,ys))/\jJ s.o (single ys)=true/\(lV (single ys)).Nodup/\i∉lV (single ys)/\res s.o (single ys)=r/\clean r=true
theorem dN{P:Program}{fn:Func}{s:AS}{r:AV}(h:match s.yK P fn.results.toList with
  |some p=>jJ s.o (single p.2)=true/\(lV (single p.2)).Nodup/\p.1∉lV (single p.2)/\res s.o (single p.2)=r/\clean r=true
  |none=>False):Nz P fn s r:=by
 split at h
 .rename_i p hp;exact⟨p.1,p.2,.inl hp,h⟩
 .exact h.elim
theorem DW{P:Program}{fn:Func}{s:AS}{r:AV}(h:match s.rvC P fn.results.toList with
  |some p=>jJ s.o (single p.2)=true/\(lV (single p.2)).Nodup/\p.1∉lV (single p.2)/\res s.o (single p.2)=r/\clean r=true
  |none=>False):Nz P fn s r:=by
 split at h
 .rename_i p hp;exact⟨p.1,p.2,.inr hp,h⟩
 .exact h.elim
theorem Wq{P:Program}[aC P]{B:gM P}{s:AS}{G:List CO}{a:Act}{w:World}(r:eB B s G a w){t:Tmp}{ty:TypeId}{i bV idx off n:Nat}{ob:aM}{e:List AV}
  (hx:s.t.getD t .undef= .ptr i bV idx off) (ha:s.at i bV idx=some (ob,e)) (vT:ob.box=true) (hn:lS P ty=some n) (hfit:off+n<=e.length):
  ∃v fp g,look s.o G i ob g/\ob.live=true/\(Fu a (.cell t ty)).run P w= .ok v w/\R w (env B s.o G w) (.agg ((e.drop off).take n)) v fp/\fp.Nodup/\∀b∈fp,g.F b:=by
 obtain⟨ho,he⟩:=Bf ha;obtain⟨g,b,f,hl,hlive,hga,hv⟩:=r.ptr (x:= .tmp t) hx ho;obtain⟨fp0,⟨_,hown⟩,hnd,hF⟩:=r.ok i ob g hl hlive;simp only[vT,Env.of,gC]at hown;rcases hown with⟨h5,_⟩|⟨b',f',C,tyc,fz,rE,wR,hbk,hz,k1,k2,k3,rfl,hr⟩
 .rw [h5]at he;simp at he
 rw[hga]at wR;simp only[eC,pD,sA]at wR;obtain⟨rfl,rfl⟩:=wR;obtain⟨f1,f2,f3,cs,rfl,hcn,hc,hone,wK,_,_⟩:=Az hr he;have hle:=gH wK;simp only[Act.eval]at hv;obtain⟨g1,g2,rfl,_,YW⟩:=uG off wK;obtain⟨g3,g4,rfl,hc3,_⟩:=uG n YW;have hsub:∀x∈g3,x∈f1++(g1++(g3++g4))++f3:=λx hx=>by simp[hx]
 refine⟨.agg ((cs.drop off).take n).toArray,g3,g,hl,hlive,?_,by simp only[R];exact⟨_,rfl,Hm hone,hc3⟩,?_,λx hx=>hF x (AT _ (hsub x hx))⟩
 .have:=uP (P:=P) (t:=ty) (k:=off) (n:=n) (cs:=cs) hn (by omega) hc;simp only[Instr.loadAt,Instr.sureAddr,pure_bind]at this;simp[Fu,hv,asAddr,<-oE,this]
 .simp only[lR]at hnd;have h1:=(gO.1 hnd.2).1;have h2:=(gO.1 h1).2.1;have h3:=(gO.1 h2).2.1;exact(gO.1 h3).1
theorem cu{P:Program}{s:AS}{l:List ResultVar}{i:Nat}{ys:List AV}(h:s.yK P l=some (i,ys)):
  ∃t ty xs bV idx off ob e n zs,l= .cell t ty::xs/\s.t.getD t .undef= .ptr i bV idx off/\s.at i bV idx=some (ob,e)/\lS P ty=some n/\ob.box=true/\off+n<=e.length/\s.wT P xs=some zs/\ys= .agg ((e.drop off).take n)::zs:=by
 unfold AS.yK at h;split at h
 .split at h
  .rename_i i' bV idx off hx;split at h
   .rename_i ob e ha;split at h
    .rename_i n hn;split at h
     .rename_i hc;split at h
      .rename_i zs hzs;simp only[eC,oR]at h;obtain⟨rfl,rfl⟩:=h;exact⟨_,_,_,_,_,_,_,_,_,_,rfl,hx,ha,hn,hc.1,hc.2,hzs,rfl⟩
      .cases h
     .cases h
    .cases h
   .cases h
  .cases h
 .cases h
theorem Lp{P:Program}[aC P]{B:gM P}{s:AS}{G:List CO}{a:Act}{w:World}(r:eB B s G a w){fn:Func}{i:Nat}{ys:List AV}(h:s.yK P fn.results.toList=some (i,ys)):
  ∃v fp ob g,look s.o G i ob g/\ob.live=true/\(results fn a.tmps).run P w= .ok v w/\R w (env B s.o G w) (single ys) v fp/\fp.Nodup/\∀b∈fp,g.F b:=by
 obtain⟨t,ty,xs,bV,idx,off,ob,e,n,zs,jO,hx,ha,hn,vT,hfit,hzs,rfl⟩:=cu h;obtain⟨v0,fp,g,hl,hlive,Zd,hR0,hnd,hF⟩:=Wq r hx ha vT hn hfit;obtain⟨vs,h1,h2⟩:=KX r hzs;have hl2:=gH h2;have hm:(fn.results.mapM (m:=Sem) (Fu a)).run P w= .ok (v0::vs).toArray w:=by rw[Dd,jO];simp only[Sem.run_map,mapM_cons,nF];rw[Zd];simp only[lP];rw[h1];simp
 rw[JL];simp only[nF];rw[hm];simp only[lP,sE];match zs,vs,hl2,h2 with
 |[],[],_,h2=>exact⟨v0,fp,ob,g,hl,hlive,by simp,hR0,hnd,hF⟩
 |z::zs,v1::vs,_,h2=>exact⟨.tuple (v0::v1::vs).toArray,fp,ob,g,hl,hlive,by simp,by simp only[single];rw[R];exact⟨_,rfl,by rw[Rc];exact⟨fp,[],hR0,h2,by simp⟩⟩,hnd,hF⟩
theorem XR{P:Program}[aC P]{B:gM P}{s:AS}{G:List CO}{a:Act}{w:World}(r:eB B s G a w){fn:Func}{i:Nat}{ys:List AV}(h:s.rvC P fn.results.toList=some (i,ys)):
  ∃v fp ob g,look s.o G i ob g/\ob.live=true/\(results fn a.tmps).run P w= .ok v w/\R w (env B s.o G w) (single ys) v fp/\fp.Nodup/\∀b∈fp,g.F b:=by
 unfold AS.rvC at h;split at h
 .rename_i x xs heq;split at h
  .rename_i y i' ys' hy hB;simp only[eC,oR]at h;obtain⟨rfl,rfl⟩:=h;obtain⟨t,ty,xs',bV,idx,off,ob,e,n,zs,rfl,hx,ha,hn,vT,hfit,hzs,rfl⟩:=cu hB;obtain⟨v0,fp,g,hl,hlive,Zd,hR0,hnd,hF⟩:=Wq r hx ha vT hn hfit;obtain⟨vs,h1,h2⟩:=KX r hzs;obtain⟨vy,h3,h4⟩:=KX r hy;match vy,h4 with
   |[v],h4=>
    simp only[mapM_cons,mapM_nil,nF]at h3;have h5:(Fu a x).run P w= .ok v w:=by
     cases hq:(Fu a x).run P w with
     |ok v' w'=>rw[hq]at h3;simp at h3;rw[h3.1,h3.2]
     |_=>rw[hq]at h3;simp at h3
    have hm:(fn.results.mapM (m:=Sem) (Fu a)).run P w= .ok (v::v0::vs).toArray w:=by rw[Dd,heq];simp only[Sem.run_map,mapM_cons,nF];rw[h5];simp only[lP];rw[Zd];simp only[lP];rw[h1];simp
    rw[JL];simp only[nF];rw[hm];simp only[lP,sE];simp only[Rc]at h4;obtain⟨f1,f2,h6,⟨_,rfl⟩,h8⟩:=h4;obtain rfl:f1=[]:=by simpa using h8.symm
    exact⟨.tuple (v::v0::vs).toArray,fp,ob,g,hl,hlive,by simp,by simp only[single];rw[R];exact⟨_,rfl,by rw[Rc];exact⟨[],fp,h6,by rw[Rc];exact⟨fp,[],hR0,h2,by simp⟩,by simp⟩⟩,hnd,hF⟩
   |[],h4=>simp[Rc]at h4
   |_::_::_,h4=>simp[Rc]at h4
  .cases h
 .cases h
theorem yc{P:Program}[aC P](hm:P.follows .mixedOrders=true){f:FuncId}{fn:Func}{c:Code}(hf:P.funcs[f]? =some fn)(hb:fn.body=some c){args:List AV}{rr:AV}
  (h:uY P c ⟨args++replicate (fn.ntmps-args.length) .undef,[]⟩ (λe s=>(e= .normal\/e= .ret)/\(aP P fn s rr\/Nz P fn s rr))):Ok P f args rr:=by
 intro w vs hg hargs;have hl:=gH hargs;have r0:eB ⟨w,λb=>b<w.heap.size,λ_=>False,λ_=>none,λ_=>none,hg,λ_ h=>h.elim,λ_ h=>h.elim⟩ ⟨args++replicate (fn.ntmps-args.length) .undef,[]⟩ [] {tmps:=vs.toArray++Array.replicate (fn.ntmps-vs.toArray.size) Go.undef,defers:=[]} w:=by
  refine⟨rfl,rfl,λi ob g hl=>by simp[look]at hl,λi j oi oj gi gj b hl=>by simp[look]at hl,λi ob g b hl=>by simp[look]at hl,?_,eE _,λ_ _ _=>rfl,λb hb=>hb,nS.rfl⟩;have h1:Rc w (env ⟨w,λb=>b<w.heap.size,λ_=>False,λ_=>none,λ_=>none,hg,λ_ h=>h.elim,λ_ h=>h.elim⟩ [] [] w) args vs []:=dU (w:=w) (w':=w) (E:=oI w) (E':=env ⟨w,λb=>b<w.heap.size,λ_=>False,λ_=>none,λ_=>none,hg,λ_ h=>h.elim,λ_ h=>h.elim⟩ [] [] w) ⟨λb hb=>⟨⟨.inl hb,λi ob g hl=>by simp[look]at hl⟩,rfl⟩,λ_ _=>trivial,λ_ _ _ h=>h.elim,λ_ _ _ h=>h.elim,λ_ _ _ _ _ h=>h.elim⟩ _ _ _ (by simp) hargs;have h2:∀n,Rc w (env ⟨w,λb=>b<w.heap.size,λ_=>False,λ_=>none,λ_=>none,hg,λ_ h=>h.elim,λ_ h=>h.elim⟩ [] [] w) (replicate n .undef) (replicate n Go.undef) []:=by
   intro n;induction n with
   |zero=>simp[Rc]
   |succ n ih=>simp only[pN,Rc];exact⟨[],[],by simp[R],ih,rfl⟩
  have:=mQ h1 (h2 (fn.ntmps-args.length));simpa [hl]using this
 refine calls_of_wp hf hb (wp_mono (sK hm c _ _ h _ _ ⟨_,r0⟩) λe a w' he=> ?_);obtain⟨s,⟨he,yf⟩,G,r⟩:=he;have key:∃(E:Env) (v:Value) (fp:List Nat),(results fn a.tmps).run P w'= .ok v w'/\R w' E.plain rr v fp/\fp.Nodup/\clean rr=true/\∀b∈fp,∃j ob g,look s.o G j ob g/\ob.live=true/\g.F b:=by
  rcases yf with⟨ys,uo,nR,hu,jO,hcl⟩|⟨i,ys,uo,nR,hu,hi,jO,hcl⟩
  .obtain ⟨v,hrun,hR⟩:=Ad r uo;obtain⟨fp,h1,h2,h3⟩:=KN r _ v nR hu hR;rw[jO]at h1;exact⟨_,v,fp,hrun,h1,h2,hcl,λb hb=>by obtain⟨i,ob,g,_,h⟩:=h3 b hb;exact⟨i,ob,g,h⟩⟩
  .obtain ⟨v,fp0,ob,g,hlk,hlive,hrun,hR,hnd,hF⟩:=uo.elim (Lp r) (XR r);obtain⟨fp,h1,h2,h3⟩:=tq r hlk hlive _ v fp0 nR hu hi hnd hF hR;rw[jO]at h1;refine⟨_,v,fp,hrun,h1,h2,hcl,λb hb=> ?_⟩;rcases h3 b hb with h|⟨j,fF,g',_,h⟩
   .exact ⟨i,ob,g,hlk,hlive,hF b h⟩
   .exact ⟨j,fF,g',h⟩
 obtain⟨E,v,fp,hrun,h1,h2,hcl,h3⟩:=key;have hfin:∃v' fp,Ending.returned v= .returned v'/\R w' (BC w.heap.size w' fp) rr v' fp/\fp.Nodup/\(∀b∈fp,w.heap.size<=b/\b<w'.heap.size)/\w.heap.size<=w'.heap.size/\(∀b,b<w.heap.size->w'.heap[b]? =w.heap[b]?)/\nS w w':=by refine⟨v,fp,rfl,aKm <| KO (E:=E.plain) (λ_ _=>trivial) rfl rfl rfl _ _ _ hcl h1,h2,λb hb=> ?_,r.size,λb hb=>r.frame b hb (λh=>h),r.same⟩;obtain⟨i,ob,g,hl,hlive,hF⟩:=h3 b hb;have:=r.fresh _ _ _ b hl hlive hF;exact⟨this.1.resolve_left (λh=>h),this.2⟩
 rcases he with rfl|rfl
 .exact ⟨r.defs,v,hrun,hfin⟩
 .exact ⟨r.defs,v,hrun,hfin⟩
theorem xU{P:Program}[aC P](hm:P.follows .mixedOrders=true){f:FuncId}{fn:Func}{c:Code}(hf:P.funcs[f]? =some fn){n:Nat}(hn:fn.ntmps=n){args t:List AV}{rr:AV}
  (h:uY P c ⟨t,[]⟩ (λe s=>(e= .normal\/e= .ret)/\(aP P fn s rr\/Nz P fn s rr))) (hb:fn.body=some c:=by rfl)
  (ht:args++replicate (n-args.length) .undef=t:=by
   simp only[eN,eV,Nat.reduceSub,Nat.reduceAdd,pN,BW,eA,eM];rfl):Ok P f args rr:=by
 subst ht;subst hn;exact yc hm hf hb h
theorem Gm{P:Program}{fn:Func}{s:AS}{r:AV}{x:Array ResultVar}(hr:fn.results=x)(e:fn.results=x->aP P fn s r\/Nz P fn s r:=by intro hr;first|(refine .inl ?_;simp[aP,hr];done)|(refine .inr (dN ?_);simp[AS.yK,AS.wT,AS.rv,hr];done)):(Exit.ret= .normal\/Exit.ret= .ret)/\(aP P fn s r\/Nz P fn s r):=⟨.inr rfl,e hr⟩
end Go.Aw
