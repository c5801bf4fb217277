/- Steps. No condition. -/
import Derived.Test.YtanobkmhbpjnpaaGreatDoorZF3
import Derived.ProofKit
set_option linter.all false
namespace Go.Aw
open List
def pre(op:Oper):List Nat:=(op.after.toList.filter λe=>Region.binds .any e).map (·.on)
def zg(l:List Oper)(J:Nat->Bool):Prop:=∀j op,l[j]? =some op->J j=true->∀e∈pre op,J e=true
def aA0{op:Oper}{n:Nat}:n∈pre op↔∃e∈op.after.toList,Region.binds .any e=true/\e.on=n:=by simp[pre,zE,FF,GP]
def uP(P:Program)[aG P](l:List Oper)(op:Oper)(s:AS)(K:AS->Prop):Prop:=
 match op.guard with
 |none=>uA P op s K\/VH P op s K
 |some (j,want)=>match qN l s j want with
  | .bool b=>(b=want->uA P op s K\/VH P op s K)/\(b≠want->K (s.put op.dst (.iL [])))
  |_=>False
def pW(l:List Oper)(j:Nat):List Nat:=match l[j]? with|some o=>pre o|none=>[]
def reach(l:List Oper):Nat->List Nat->List Nat
 |0,acc=>acc
 |k+1,acc=>reach l k (if k∈acc then acc++pW l k else acc)
def FN(l:List Oper)(m:Nat):Bool:=
 decide (m<=l.length)&&((range (l.length-m)).all (λd=>(pW l (m+d)).all (λe=>decide (e<m+d))&&(d == 0 || decide (m+d-1∈pW l (m+d))))&&
 (decide (l.length<=m) || (range m).all λj=>decide (j∈reach l m (pW l m))))
def Ol{l:List Oper}{J:Nat->Bool}(hc:zg l J):∀(k:Nat) (acc:List Nat),(∀e∈acc,J e=true)->∀e∈reach l k acc,J e=true
 |0,acc,h=>h
 |k+1,acc,h=>by
  simp only[reach];refine Ol hc k _ ?_;split
  .rename_i hk;intro e he;rcases fR.1 he with he|he
   .exact h e he
   .unfold pW at he;split at he
    .rename_i o ho;exact hc k o ho (h k hk) e he
    .cases he
  .exact h
def ic{l:List Oper}{m j:Nat}{op:Oper}(ht:FN l m=true)(hm:m<=j)(hj:l[j]? =some op):(∀e∈pre op,e<j)/\(m<j->j-1∈pre op):=by
 unfold FN at ht;simp only[eK,fW]at ht;have hlt:=(cU.1 hj).1;have h:=ht.2.1 (j-m) (by simp;omega);have e:m+(j-m)=j:=by omega
 have hp:pW l j=pre op:=by simp[pW,hj]
 rw[e,hp]at h;simp only[fW,fY,sA,Ds]at h;exact⟨h.1,λhlt=>h.2.resolve_left (by omega)⟩
def aHa{l:List Oper}{m:Nat}{op:Oper}{J:Nat->Bool}(ht:FN l m=true)(hm:l[m]? =some op)(hc:zg l J)(hp:∀e∈pre op,J e=true):∀j,j<m->J j=true:=by
 intro j hj;unfold FN at ht;simp only[eK,sA,fY]at ht;have hlt:=(cU.1 hm).1;have h:=ht.2.2.resolve_left (by omega);rw[fW]at h;have:=h j (by simpa using hj);simp only[fY]at this;have hpa:pW l m=pre op:=by simp[pW,hm]
 rw[hpa]at this;exact Ol hc m _ hp j this
def ig{listed:Array Bool}{i:Nat}(h:i<listed.size):(!listed.getD i true)= !listed.getD i false:=by rw[gC,gC,rS h];rfl
def mem_ready{ops:Array Oper}{listed:Array Bool}(hl:listed.size=ops.size){i:Nat}:i∈Region.ready .any ops listed↔∃op,ops.toList[i]? =some op/\listed.getD i false=false/\∀e∈pre op,listed.getD e false=true:=by
 unfold Region.ready;rw[FF];constructor
 .rintro ⟨hi1,hi2⟩;have BG:i<ops.size:=by simpa using hi1
  have hop:ops[i]? =some ops[i]:=by simp[BG]
  simp only[eK,hop,oR,sB]at hi2;obtain⟨h1,h2⟩:=hi2;rw[FG]at h2;refine⟨ops[i],by simp[BG],?_,λn hn=> ?_⟩
  .rw [ig (by omega)]at h1;simpa using h1
  .obtain ⟨e,he,hb,rfl⟩:=aA0.1 hn;have:=h2 e (by simpa using he);simpa [hb]using this
 .rintro ⟨op,hop,h1,h2⟩;have BG:i<ops.size:=by have:=(cU.1 hop).1;simpa using this
  have hop':ops[i]? =some op:=by simpa using hop
  refine⟨by simpa using BG,?_⟩;simp only[eK,hop',oR,sB];refine⟨by rw[ig (by omega)];simp[h1],?_⟩;rw[FG];intro e he;cases hb:Region.binds .any e with
  |false=>simp
  |true=>have:=h2 e.on (aA0.2 ⟨e,by simpa using he,hb,rfl⟩);simp[this]
def YE{P:Program}[aG P]{B:gL P}{l:List Oper}{op:Oper}{s:AS}{K:AS->Prop}(h:uP P l op s K){a:Act}{w:World}(r:Rel B s a w){Kc:Act->World->Prop}{Q:Exit->Act->World->Prop}(hk:∀a' w' s',K s'->Rel B s' a' w'->Kc a' w'):
  if Region.wanted op (yielded l.toArray a.tmps)then op.wp P a w Kc Q\/(op.asks P a w/\LetsOut Q)else Kc (a.put op.dst undef) w:=by
 unfold uP at h;split at h
 .rename_i hg;rw[eM (by simp[Region.wanted,hg])];obtain⟨s',h',hst⟩:=h.elim (Cq (B:=B)) (Sw (B:=B));exact .inl (hst a w _ Q r λa' w' r'=>hk a' w' s' h' r')
 .rename_i j want hg;split at h
  .rename_i b hb;obtain⟨G,r'⟩:=r;have hy:=SX r' hb;by_cases hbw:b=want
   .rw [eM (by simp[Region.wanted,hg,hy,hbw])];obtain⟨s',h',hst⟩:=(h.1 hbw).elim (Cq (B:=B)) (Sw (B:=B));exact .inl (hst a w _ Q ⟨G,r'⟩ λa' w' r'=>hk a' w' s' h' r')
   .rw [eC (by simp[Region.wanted,hg,hy,hbw])];exact hk _ _ _ (h.2 hbw) ⟨G,r'.put op.dst (E5 _ _)⟩
  .exact h.elim
def Om{P:Program}[aG P]{B:gL P}{all r:List Oper}{o:Oper}{s:AS}{K:AS->Prop}(h:mH P all (o::r) s K){a:Act}{w:World}(rl:Rel B s a w){Kc:Act->World->Prop}{Q:Exit->Act->World->Prop}(hk:∀a' w' s',mH P all r s' K->Rel B s' a' w'->Kc a' w'):
  if Region.wanted o (yielded all.toArray a.tmps)then o.wp P a w Kc Q\/(o.asks P a w/\LetsOut Q)else Kc (a.put o.dst undef) w:=by
 simp only[mH]at h;have stepped:((uA P o s λs'=>mH P all r s' K)\/(Jt P o s λs'=>mH P all r s' K)\/(JG P o s λs'=>mH P all r s' K))->o.wp P a w Kc Q\/(o.asks P a w/\LetsOut Q):=by
  intro h;by_cases hcu:JG P o s λs'=>mH P all r s' K
  .exact .inl (PI hcu a w _ Q rl λa' w' s' h' r'=>hk a' w' s' h' r')
  have:∃s',mH P all r s' K/\Step P B o s s':=by
   rcases h with h|h|h
   .exact Cq (B:=B) h
   .exact SS (B:=B) h
   .exact (hcu h).elim
  obtain⟨s',h',hst⟩:=this;exact .inl (hst a w _ Q rl λa' w' r'=>hk a' w' s' h' r')
 split at h
 .rename_i hg;rw[eM (by simp[Region.wanted,hg])];exact stepped h
 .rename_i j want hg;split at h
  .rename_i b hb;have rl2:=rl;obtain⟨G,r'⟩:=rl2;have hy:=SX r' hb;by_cases hbw:b=want
   .rw [eM (by simp[Region.wanted,hg,hy,hbw])];exact stepped (h.1 hbw)
   .rw [eC (by simp[Region.wanted,hg,hy,hbw])];exact hk _ _ _ (h.2 hbw) ⟨G,r'.put o.dst (E5 _ _)⟩
  .exact h.elim
def Mm{listed:Array Bool}{i:Nat}(h:i<listed.size)(j:Nat):(listed.setIfInBounds i true).getD j false=qX (λj=>listed.getD j false) i j:=by
 unfold qX;simp only[gC,Array.getElem?_setIfInBounds];by_cases hj:j=i
 .subst hj;simp[h]
 .simp [hj,AH hj]
def aA1{P:Program}[aG P]{B:gL P}{ops:Array Oper}{m:Nat}{K:AS->Prop}{Q:Exit->Act->World->Prop}(ht:FN ops.toList m=true)(hk:∀a' w' s',K s'->Rel B s' a' w'->Q .normal a' w'):
  ∀(n k:Nat) (listed:Array Bool) (s:AS) (a:Act) (w:World),listed.size=ops.size->k+n=ops.size->m<=k->(∀j,listed.getD j false=decide (j<k))->mH P ops.toList (ops.toList.drop k) s K->Rel B s a w->wpAny P .any ops Q n listed a w
 |0,k,listed,s,a,w,hl,hn,hm,hj,h,r=>by have hdr:ops.toList.drop k=[]:=Cp (by simp;omega);rw[hdr]at h;simp only[mH]at h;refine⟨?_,hk _ _ _ h r⟩;rw[Ek];intro i hi;obtain⟨op,hop,h1,_⟩:=(mem_ready hl).1 hi;have BG:=(cU.1 hop).1;rw[hj]at h1;simp at h1 BG;omega
 |n+1,k,listed,s,a,w,hl,hn,hm,hj,h,r=>by
  have hkl:k<ops.toList.length:=by simp;omega
  have hop:ops.toList[k]? =some ops.toList[k]:=aE hkl;have hpre:=ic ht hm hop;constructor
  .intro hnil;exfalso;have:k∈Region.ready .any ops listed:=(mem_ready hl).2 ⟨_,hop,by rw[hj];simp,λe he=>by rw[hj];simpa using hpre.1 e he⟩;rw[hnil]at this;cases this
  .intro i hi;obtain⟨op,aQd,h1,h2⟩:=(mem_ready hl).1 hi;rw[hj]at h1;have hki:k<=i:=by simpa using h1
   have hik:i=k:=by
    rcases AM k i with hlt|hge
    .exfalso;have:=h2 _ ((ic ht (by omega) aQd).2 (by omega));rw[hj]at this;simp at this;omega
    .omega
   subst hik;rw[hop]at aQd;obtain rfl:=cX aQd;rw[oY hkl]at h;unfold wpOp;have H5:ops[i]? =some ops.toList[i]:=by simpa using hop
   rw[H5];have:=Om h r (Kc:=wpAny P .any ops Q n (listed.setIfInBounds i true)) (Q:=Q) (λa' w' s' h' r'=>
    aA1 ht hk n (i+1) _ s' a' w' (by simpa using hl) (by omega) (by omega) (λj=>by
     rw[Mm (by simpa [hl]using hkl)];unfold qX;by_cases hji:j=i
     .subst hji;simp
     .rw [eC hji];show listed.getD j false=_;rw[hj];have:(j<i)↔(j<i+1):=by omega
      simp[this]) h' r')
   simpa using this
def YF(l:List Oper)(d:List Bool):List Nat:=(range l.length).filter λi=> !d.getD i false&&(pW l i).all λe=>d.getD e false
mutual
def Bu(P:Program)[aG P](l:List Oper)(K:AS->Prop):Nat->List Bool->AS->Prop
 |0,_,s=>K s
 |n+1,d,s=>yE P l K n d s (YF l d)
def yE(P:Program)[aG P](l:List Oper)(K:AS->Prop):Nat->List Bool->AS->List Nat->Prop
 |_,_,_,[]=>True
 |n,d,s,i::r=>(∃op,l[i]? =some op/\mH P l [op] s λs'=>Bu P l K n (d.set i true) s')/\yE P l K n d s r
end
def Oo{P:Program}[aG P]{l:List Oper}{K:AS->Prop}{n:Nat}{d:List Bool}{s:AS}:∀{r:List Nat},yE P l K n d s r->∀i∈r,∃op,l[i]? =some op/\mH P l [op] s λs'=>Bu P l K n (d.set i true) s'
 |[],_,i,hi=>by cases hi
 |j::r,h,i,hi=>by
  simp only[yE]at h;rcases mC.1 hi with rfl|hi
  .exact h.1
  .exact Oo h.2 i hi
def JP(l:List Oper):Bool:=(range l.length).all λi=>(pW l i).all λe=>decide (e<i)
def Jc{l:List Oper}(h:JP l=true){i:Nat}{op:Oper}(hi:l[i]? =some op):∀e∈pre op,e<i:=by
 unfold JP at h;rw[fW]at h;have:=h i (by simp;exact(cU.1 hi).1);have hp:pW l i=pre op:=by simp[pW,hi]
 rw[hp,fW]at this;exact λe he=>by simpa using this e he
def aA2{P:Program}[aG P]{B:gL P}{ops:Array Oper}{K:AS->Prop}{Q:Exit->Act->World->Prop}(hfw:JP ops.toList=true)(hk:∀a' w' s',K s'->Rel B s' a' w'->Q .normal a' w'):
  ∀(n:Nat) (d:List Bool) (listed:Array Bool) (s:AS) (a:Act) (w:World),listed.toList=d->listed.size=ops.size->left d=n->Bu P ops.toList K n d s->Rel B s a w->wpAny P .any ops Q n listed a w
 |0,d,listed,s,a,w,hd,hl,hn,h,r=>by
  simp only[Bu]at h;refine⟨?_,hk _ _ _ h r⟩;rw[Ek];intro i hi;obtain⟨op,hop,h1,_⟩:=(mem_ready hl).1 hi;have BG:=(cU.1 hop).1;have hi':i<listed.size:=by simp at BG;omega
  have:=IX (l:=d) hn (i:=i) (b:=listed[i]) (by rw[<-hd];simp[hi']);rw[gC,rS hi']at h1;simp[this]at h1
 |n+1,d,listed,s,a,w,hd,hl,hn,h,r=>by
  have hget:∀j,d.getD j false=listed.getD j false:=λj=>by rw[<-hd,mA,gC];simp
  simp only[Bu]at h;constructor
  .intro hnil;exfalso;obtain⟨i,h1,h2⟩:=Mh (l:=d) (by omega);have hi:i<listed.size:=by have:=(cU.1 h1).1;rw[<-hd]at this;simpa using this
   have BG:i<ops.toList.length:=by simp;omega
   have hop:=aE BG;have:i∈Region.ready .any ops listed:=(mem_ready hl).2 ⟨_,hop,by rw[<-hget,mA,h1];rfl,λe he=>by
    have:=h2 e (Jc hfw hop e he);rw[<-hget,mA,this];rfl⟩
   rw[hnil]at this;cases this
  .intro i hi;obtain⟨op,hop,h1,h2⟩:=(mem_ready hl).1 hi;have BG:=(cU.1 hop).1;have hir:i∈YF ops.toList d:=by
    unfold YF;rw[FF];refine⟨by simpa using BG,?_⟩;have hp:pW ops.toList i=pre op:=by simp[pW,hop]
    rw[hget,h1,hp];simp only[Hk,AK,fW];exact λe he=>by rw[hget];exact h2 e he
   obtain⟨op',hop',hst⟩:=Oo h i hir;rw[hop]at hop';obtain rfl:=cX hop';unfold wpOp;have H5:ops[i]? =some op:=by simpa using hop
   rw[H5];have hil:i<listed.size:=by simp at BG;omega
   have:=Om hst r (Kc:=wpAny P .any ops Q n (listed.setIfInBounds i true)) (Q:=Q) (λa' w' s' h' r'=>by
    simp only[mH]at h';refine aA2 hfw hk n (d.set i true) _ s' a' w' (by rw[BT,hd]) (by simpa using hl) ?_ h' r';have hdi:d[i]? =some false:=by
     have h3:=hget i;rw[h1,mA]at h3;have hid:i<d.length:=by rw[<-hd];simpa using hil
     rw[aE hid]at h3⊢;simpa using h3
    have:=Hm hdi;omega)
   simpa using this
def zV(l:List Oper)(m:Nat):Bool:=(range l.length).all λi=>decide (i<=m) || (pW l i).any λe=>decide (m<=e)
def KG:∀(L:List Bool) (q:Nat),(∀j,L.getD j false=decide (j<q))->q<=L.length->left L+q=L.length
 |[],q,_,h=>by simp at h;simp[left,h]
 |b::L,q,hq,hle=>by
  have hb:=hq 0;simp[getD]at hb;rw[EK];cases q with
  |zero=>
   have hb':b=false:=by simpa using hb
   have:=KG L 0 (λj=>by have:=hq (j+1);simpa [getD]using this) (by omega);rw[hb',eC (by simp)];simp;omega
  |succ q=>
   have hb':b=true:=by simpa using hb
   have:=KG L q (λj=>by have:=hq (j+1);simpa [getD]using this) (by simpa using hle);rw[hb',eM rfl];simp;omega
def ik{P:Program}[aG P]{ops:Array Oper}{s:AS}{K:AS->Prop}(m:Nat)(bB3:m<=ops.size)(hfw:JP ops.toList=true)(hrest:zV ops.toList m=true)(S:(Nat->Bool)->AS)(h0:mZ s (S λ_=>false))
  (hs:∀i op,i<m->ops.toList[i]? =some op->∀J:Nat->Bool,zg ops.toList J->(∀k,m<=k->J k=false)->J i=false->(∀e∈pre op,J e=true)->(uP P ops.toList op (S J) λs'=>mZ s' (S (qX J i)))\/(op.guard=none/\∀B,Step P B op (S J) (S (qX J i))))
  (he:∀J:Nat->Bool,zg ops.toList J->(∀k,m<=k->J k=false)->((∀i,i<m->J i=true)\/∃op,ops.toList[m]? =some op/\∀e∈pre op,J e=true)->Bu P ops.toList K (left ((range ops.size).map J)) ((range ops.size).map J) (S J)\/(FN ops.toList m=true/\(∀i,i<m->J i=true)/\mH P ops.toList (ops.toList.drop m) (S J) K)):SV P ops s K:=by
 intro B a w Q hr hk;have toJ:∀listed:Array Bool,listed.size=ops.size->listed.toList=(range ops.size).map λi=>listed.getD i false:=by
  intro listed hl;refine CA λi=> ?_
  rw[vA];by_cases hi:i<ops.size
  .have hil:i<listed.size:=by omega
   simp[hi,hil]
  .have hil:listed.toList.length<=i:=by simp;omega
   rw[pT hil];simp[hi]
 have fin:∀(fuel:Nat) (listed:Array Bool) (a:Act) (w:World),listed.size=ops.size->left listed.toList=fuel->(∀k,m<=k->listed.getD k false=false)->zg ops.toList (λi=>listed.getD i false)->Rel B (S λi=>listed.getD i false) a w->
   ((∀i,i<m->listed.getD i false=true)\/∃op,ops.toList[m]? =some op/\∀e∈pre op,listed.getD e false=true)->wpAny P .any ops Q fuel listed a w:=by
  intro fuel listed a w hl hz hhi hc r hor;rcases he _ hc hhi hor with this|⟨ht,hall,h⟩
  .rw [<-toJ listed hl]at this;exact aA2 hfw hk fuel listed.toList listed _ a w rfl hl hz (hz▸this) r
  .have hJ:(λi=>listed.getD i false)=λk=>decide (k<m):=by
    funext i;by_cases hi:i<m
    .rw [hall i hi];simp[hi]
    .rw [hhi i (by omega)];simp[hi]
   have hcount:m+fuel=ops.size:=by have:=KG listed.toList m (λj=>by have:=congrFun hJ j;simpa [gC,mA]using this) (by simp;omega);rw[hz]at this;simp at this;omega
   exact aA1 ht hk fuel m listed _ a w hl hcount (eJ _) (λj=>congrFun hJ j) h r
 have key:∀(fuel:Nat) (listed:Array Bool) (a:Act) (w:World),listed.size=ops.size->left listed.toList=fuel->(∀k,m<=k->listed.getD k false=false)->zg ops.toList (λi=>listed.getD i false)->Rel B (S λi=>listed.getD i false) a w->wpAny P .any ops Q fuel listed a w:=by
  intro fuel;induction fuel with
  |zero=>
   intro listed a w hl hz hhi hc r;refine fin 0 listed a w hl hz hhi hc r (.inl λi hi=> ?_);have hi':i<listed.size:=by omega
   have:=IX hz (i:=i) (b:=listed[i]) (by simp[hi']);simp[Array.getD,hi',this]
  |succ fuel ih=>
   intro listed a w hl hz hhi hc r;by_cases hall:(∀i,i<m->listed.getD i false=true)\/∃op,ops.toList[m]? =some op/\∀e∈pre op,listed.getD e false=true
   .exact fin _ listed a w hl hz hhi hc r hall
   .have hlow:∀i∈Region.ready .any ops listed,i<m:=by
     intro i hi;obtain⟨op,hop,h1,h2⟩:=(mem_ready hl).1 hi;rcases AM i m with h|h
     .exact h
     .exfalso;rcases AM m i with hlt|hge
      .unfold zV at hrest;rw[fW]at hrest;have:=hrest i (by simp;have:=(cU.1 hop).1;simpa using this);have hp:pW ops.toList i=pre op:=by simp[pW,hop]
       simp only[hp,sA,fY,any_eq_true]at this;rcases this with h'|⟨e,he,hme⟩
       .omega
       .have h3:=h2 e he;rw[hhi e hme]at h3;cases h3
      .have:i=m:=by omega
       subst this;exact hall (.inr ⟨op,hop,h2⟩)
    constructor
    .intro hnil;exfalso;obtain⟨i,h1,h2⟩:=Mh (l:=listed.toList) (by omega);have hi:i<listed.size:=by have:=(cU.1 h1).1;simpa using this
     have hgi:listed.getD i false=false:=by
      have:listed[i]? =some false:=by simpa using h1
      rw[gC,this];rfl
     have aYb:i<ops.toList.length:=by simp;omega
     have hop:=aE aYb;have:i∈Region.ready .any ops listed:=(mem_ready hl).2 ⟨_,hop,hgi,λe he=>by
      have:=h2 e (Jc hfw hop e he);have h3:listed[e]? =some true:=by simpa using this
      rw[gC,h3];rfl⟩
     rw[hnil]at this;cases this
    .intro i hi;have him:=hlow i hi;obtain⟨op,hop,h1,h2⟩:=(mem_ready hl).1 hi;have BG:i<ops.size:=by omega
     have hil:i<listed.size:=by omega
     have hst:=hs i op him hop (λj=>listed.getD j false) hc hhi h1 h2;unfold wpOp;have H5:ops[i]? =some op:=by simpa using hop
     rw[H5];have hu:(λj=>(listed.setIfInBounds i true).getD j false)=qX (λj=>listed.getD j false) i:=funext λj=>Mm hil j
     have hnext:∀a' w',Rel B (S (qX (λj=>listed.getD j false) i)) a' w'->wpAny P .any ops Q fuel (listed.setIfInBounds i true) a' w':=λa' w' r'=>by
      refine ih _ _ _ (by simpa using hl) ?_ ?_ ?_ ?_
      .have h1':listed.toList[i]? =some false:=by
        have:listed[i]? =some listed[i]:=by simp[hil]
        rw[gC,this]at h1;simp only[sB]at h1;rw[h1]at this;simpa using this
       have:=Hm h1';rw[BT];omega
      .intro k hk;rw[Mm hil];unfold qX;rw[eC (by omega)];exact hhi k hk
      .rw [hu];intro j op' hj hJ e he;by_cases hji:j=i
       .subst hji;rw[hop]at hj;obtain rfl:=cX hj;unfold qX;split
        .rfl
        .exact h2 e he
       .unfold qX at hJ⊢;rw[eC hji]at hJ;split
        .rfl
        .exact hc j op' hj hJ e he
      .rw [hu];exact r'
     rcases hst with hst|⟨hg,hst⟩
     .have:=YE hst r (Kc:=wpAny P .any ops Q fuel (listed.setIfInBounds i true)) (Q:=Q) (λa' w' s' hw r'=>hnext a' w' (hw B a' w' r'));simpa using this
     .have:Region.wanted op (yielded ops a.tmps)=true:=by simp[Region.wanted,hg]
      simp only[this,eS];exact .inl (hst B a w _ Q r hnext)
 obtain⟨G,r⟩:=hr;have r2:Rel B s a {w with drawn:=w.drawn+1}:=⟨G,{len:=r.len,defs:=r.defs,ok:=λi ob g hl aY=>(r.ok i ob g hl aY).keeps (w':={w with drawn:=w.drawn+1}) ⟨λb h=>⟨h,rfl⟩,λ_ h=>h,λ_ _ _ h=>⟨h,rfl⟩,λ_ _ _ h=>h,λ_ _ _ _ _ h=>h⟩ (λ_ _=>rfl),fV:=r.fV,eB:=r.eB,tmps:=gQ (w:=w) (E:=env B s.o G w) (w':={w with drawn:=w.drawn+1}) (E':=env B s.o G {w with drawn:=w.drawn+1}) ⟨λb h=>⟨h,rfl⟩,λ_ h=>h,λ_ _ _ h=>⟨h,rfl⟩,λ_ _ _ h=>h,λ_ _ _ _ _ h=>h⟩ _ _ _ (by simp) r.tmps,size:=r.size,frame:=r.frame,base:=r.base,same:=r.same.trans ⟨rfl,rfl,rfl⟩}⟩;have hJ:(λi=>(Array.replicate ops.size false).getD i false)=λ_=>false:=by funext i;simp only[gC,Fk];split<;>rfl
 refine key _ _ _ _ (by simp) (by simp[left]) (λk _=>congrFun hJ k) (by rw[hJ];intro j op _ h;cases h) ?_;rw[hJ];exact h0 _ _ _ r2
def jz(m:Nat)(z:List Nat)(k:Nat):Bool:=decide (k<m)&& !z.contains k
def wJ(l:List Oper)(m:Nat):List Nat:=(range m).filter λj=> !(reach l m (pW l m)).contains j
def EN(F:List Nat->Prop):List Nat->List Nat->Prop
 |acc,[]=>F acc
 |acc,z::r=>EN F acc r/\EN F (z::acc) r
def Tv{F:List Nat->Prop}(p:Nat->Bool):∀(z acc:List Nat),EN F acc z->F ((z.filter p).reverse++acc)
 |[],acc,h=>by simpa [EN]using h
 |x::z,acc,h=>by
  simp only[EN]at h;by_cases hx:p x=true
  .have:=Tv p z (x::acc) h.2;rw[filter_cons_of_pos hx];simpa using this
  .have:=Tv p z acc h.1;rw[filter_cons_of_neg hx];exact this
def aUb{l:List Oper}{m:Nat}{op:Oper}{J:Nat->Bool}(hm:l[m]? =some op)(hc:zg l J)(hhi:∀k,m<=k->J k=false)(hp:∀e∈pre op,J e=true):J=jz m ((wJ l m).filter λk=> !J k).reverse:=by
 funext k;unfold jz;by_cases hk:k<m
 .simp only[hk,Dg,AK];cases hJ:J k with
  |true=>
   have:((wJ l m).filter λk=> !J k).reverse.contains k=false:=by rw[contains_eq_mem];simp[hJ]
   rw[this];rfl
  |false=>
   have hs:k∈wJ l m:=by
    unfold wJ;rw[FF];refine⟨by simpa using hk,?_⟩;have hpa:pW l m=pre op:=by simp[pW,hm]
    rw[hpa];cases hcn:(reach l m (pre op)).contains k with
    |false=>rfl
    |true=>rw[contains_eq_mem]at hcn;have:=Ol hc m (pre op) hp k (by simpa using hcn);rw[hJ]at this;cases this
   have:((wJ l m).filter λk=> !J k).reverse.contains k=true:=by rw[contains_eq_mem];simp[hJ,hs]
   rw[this];rfl
 .rw [hhi k (by omega)];simp[hk]
def aHb(i:Nat)(pr:List Nat)(j:Nat)(op:Oper)(v:AV)(t:List AV):List AV:=
 match op.dst with
 |none=>t
 |some d=>if j=i then t else if j∈pr then t.set d v else if i∈pre op then t else t.set d .aB
def rU(i:Nat)(pr:List Nat):Nat->List Oper->List AV->List AV->List AV
 |_,[],_,t=>t
 |j,op::r,vs,t=>rU i pr (j+1) r vs.tail (aHb i pr j op (vs.headD .aB) t)
def BR(J:Nat->Bool)(j:Nat)(op:Oper)(v:AV)(t:List AV):List AV:=
 match op.dst with
 |none=>t
 |some d=>if J j=true then t.set d v else t
def kQ(J:Nat->Bool):Nat->List Oper->List AV->List AV->List AV
 |_,[],_,t=>t
 |j,op::r,vs,t=>kQ J (j+1) r vs.tail (BR J j op (vs.headD .aB) t)
def Tw:∀{t2 t:List AV} (d:Nat) {v2 v:AV},wk t2 t->(v=v2\/v= .aB)->wk (t2.set d v2) (t.set d v)
 |[],[],_,_,_,_,_=>trivial
 |[],_::_,_,_,_,h,_=>h.elim
 |_::_,[],_,_,_,h,_=>h.elim
 |_::_,_::_,0,_,_,h,hv=>⟨hv,h.2⟩
 |_::_,_::_,d+1,_,_,h,hv=>⟨h.1,Tw d h.2 hv⟩
def Mo:∀{t2 t:List AV} (d:Nat),wk t2 t->wk t2 (t.set d .aB)
 |[],[],_,_=>trivial
 |[],_::_,_,h=>h.elim
 |_::_,[],_,h=>h.elim
 |_::_,_::_,0,h=>⟨.inr rfl,h.2⟩
 |_::_,_::_,d+1,h=>⟨h.1,Mo d h.2⟩
def Oq:∀{t2 t:List AV},wk t2 t->t2.length=t.length
 |[],[],_=>rfl
 |[],_::_,h=>h.elim
 |_::_,[],h=>h.elim
 |_::_,_::_,h=>by simp[Oq h.2]
def oH:∀t:List AV,wk t t
 |[]=>trivial
 |_::xs=>⟨.inl rfl,oH xs⟩
def Ot{J:Nat->Bool}{i:Nat}{pr:List Nat}(hi:J i=false)(hpr:∀e∈pr,J e=true/\e<i):
  ∀(l:List Oper) (j:Nat) (vs vs':List AV) (t2 t:List AV),(∀k op,l[k]? =some op->J (j+k)=true->∀e∈pre op,J e=true)->(∀k,j+k<i->vs'.getD k .aB=vs.getD k .aB)->wk t2 t->wk (kQ J j l vs t2) (rU i pr j l vs' t)
 |[],_,_,_,_,_,_,_,h=>h
 |op::r,j,vs,vs',t2,t,hc,hv,h=>by
  simp only[kQ,rU];refine Ot hi hpr r (j+1) vs.tail vs'.tail _ _ (λk q hk hJ=>hc (k+1) q (by simpa using hk) (by rwa[show j+(k+1)=j+1+k by omega])) (λk hk=>by
   have:=hv (k+1) (by omega);cases vs<;>cases vs'<;>simpa [getD]using this) ?_
  have h0:j<i->vs'.headD .aB=vs.headD .aB:=λhj=>by have:=hv 0 (by omega);cases vs<;>cases vs'<;>simpa [getD]using this
  unfold BR aHb;cases hd:op.dst with
  |none=>exact h
  |some d=>
   dsimp only;by_cases hji:j=i
   .subst hji;rw[eM rfl,eC (by rw[hi];simp)];exact h
   .rw [eC hji];by_cases hp:j∈pr
    .rw [eM hp,eM (hpr j hp).1];exact Tw d h (.inl (h0 (hpr j hp).2))
    .rw [eC hp];by_cases hq:i∈pre op
     .rw [eM hq];have:J j≠true:=λhJ=>by
       have:=hc 0 op rfl hJ i hq;rw[hi]at this;cases this
      rw[eC this];exact h
     .rw [eC hq];split
      .exact Tw d h (.inr rfl)
      .exact Mo d h
def Xd{J:Nat->Bool}(d:Nat)(x:AV):∀(l:List Oper) (j:Nat) (vs:List AV) (t:List AV),(∀op∈l,op.dst≠some d)->kQ J j l vs (t.set d x)=(kQ J j l vs t).set d x
 |[],_,_,_,_=>rfl
 |op::r,j,vs,t,h=>by
  simp only[kQ];rw[<-Xd d x r (j+1) vs.tail _ (λq hq=>h q (by simp[hq]))];congr 1;unfold BR;cases hd:op.dst with
  |none=>rfl
  |some d'=>
   dsimp only;have:d'≠d:=λe=>h op (by simp) (by rw[hd,e])
   split
   .rw [set_comm _ _ (AH this)]
   .rfl
def DI{J J':Nat->Bool}:∀(l:List Oper) (j:Nat) (vs:List AV) (t:List AV),(∀k,k<l.length->J (j+k)=J' (j+k))->kQ J j l vs t=kQ J' j l vs t
 |[],_,_,_,_=>rfl
 |op::r,j,vs,t,h=>by
  simp only[kQ];have h0:J j=J' j:=h 0 (by simp);have:BR J j op (vs.headD .aB) t=BR J' j op (vs.headD .aB) t:=by unfold BR;rw[h0]
  rw[this];exact DI r (j+1) vs.tail _ λk hk=>by
   have:=h (k+1) (by simpa using hk)
   rwa[show j+(k+1)=j+1+k by omega]at this
def distinct:List Oper->Bool
 |[]=>true
 |op::r=>(match op.dst with
  |none=>true
  |some d=>r.all λq=>decide (q.dst≠some d))&&distinct r
def Jd{J:Nat->Bool}:∀(l:List Oper) (j i:Nat) (op:Oper) (vs:List AV) (t:List AV) (v:AV),distinct l=true->l[i]? =some op->J (j+i)=false->vs.getD i .aB=v->
  kQ (qX J (j+i)) j l vs t=vZ (kQ J j l vs t) op.dst v
 |[],_,_,_,_,_,_,_,h,_,_=>by simp at h
 |q::r,j,0,op,vs,t,v,hd,h,hJ,hv=>by
  simp at h;subst h;simp only[kQ,sE]at hJ⊢;rw[DI (J:=qX J j) (J':=J) r (j+1) vs.tail _ (λk _=>by unfold qX;rw[eC (by omega)])];have h1:BR (qX J j) j q (vs.headD .aB) t=vZ t q.dst v:=by
   have hv':vs.headD .aB=v:=by cases vs<;>simpa [getD]using hv
   unfold BR vZ;rw[hv'];cases q.dst with
   |none=>rfl
   |some d=>simp[qX]
  have h2:BR J j q (vs.headD .aB) t=t:=by
   unfold BR;cases q.dst with
   |none=>rfl
   |some d=>simp[hJ]
  rw[h1,h2];cases hq:q.dst with
  |none=>rfl
  |some d=>simp only[distinct,hq,eK,fW,fY]at hd;exact Xd d v r (j+1) vs.tail t hd.1
 |q::r,j,i+1,op,vs,t,v,hd,h,hJ,hv=>by
  simp only[distinct,eK]at hd;simp only[kQ];have h1:BR (qX J (j+(i+1))) j q (vs.headD .aB) t=BR J j q (vs.headD .aB) t:=by
   unfold BR;have:qX J (j+(i+1)) j=J j:=by unfold qX;rw[eC (by omega)]
   rw[this]
  rw[h1,show j+(i+1)=j+1+i by omega];exact Jd r (j+1) i op vs.tail _ v hd.2 (by simpa using h) (by rwa[show j+1+i=j+(i+1)by omega]) (by cases vs<;>simpa [getD]using hv)
def oJ(J:Nat->Bool)(b:List aI):List (Nat×List aI)->List aI
 |[]=>b
 |q::r=>if J q.1=true then q.2 else oJ J b r
def top(b:List aI):List (Nat×List aI)->List aI
 |[]=>b
 |q::_=>q.2
def Gt(pr:List Nat):List (Nat×List aI)->Bool
 |[]=>true
 |q::_=>decide (q.1∈pr)
def xU(pr:List Nat)(n:Nat):Bool:=decide (n∈pr)
def DJ(l:List Oper)(b:List aI):List (Nat×List aI)->Prop
 |[]=>True
 |q::r=>(∃new,q.2=top b r++new)/\(∀p,r.head? =some p->p.1<q.1/\∃op,l[q.1]? =some op/\p.1∈pre op)/\DJ l b r
def aHc{l:List Oper}{b:List aI}(J:Nat->Bool):∀{h:List (Nat×List aI)},DJ l b h->∃ext,top b h=oJ J b h++ext
 |[],_=>⟨[],by simp[top,oJ]⟩
 |q::r,hc=>by
  obtain⟨new,hn⟩:=hc.1;obtain⟨ext,he⟩:=aHc J hc.2.2;simp only[oJ,top];split
  .exact ⟨[],by simp⟩
  .exact ⟨ext++new,by rw[hn,he,rL]⟩
def H6{l:List Oper}{b:List aI}{J:Nat->Bool}{pr:List Nat}(hp:∀e∈pr,J e=true):∀{h:List (Nat×List aI)},DJ l b h->∃ext,oJ J b h=oJ (xU pr) b h++ext
 |[],_=>⟨[],by simp[oJ]⟩
 |q::r,hc=>by
  simp only[oJ];by_cases hq:q.1∈pr
  .rw [eM (hp _ hq),eM (by simpa [xU]using hq)];exact⟨[],by simp⟩
  .rw [eC (show¬xU pr q.1=true by simpa [xU]using hq)];split
   .obtain ⟨new,hn⟩:=hc.1;obtain⟨ext,he⟩:=aHc (xU pr) hc.2.2;exact⟨ext++new,by rw[hn,he,rL]⟩
   .exact H6 hp hc.2.2
def YG(J:Nat->Bool)(b:List aI):∀{s h:List (Nat×List aI)},(∀q∈s,J q.1=false)->oJ J b (s++h)=oJ J b h
 |[],_,_=>rfl
 |q::s,h,hs=>by simp only[cW,oJ];rw[eC (by rw[hs q (by simp)];simp)];exact YG J b λp hp=>hs p (by simp[hp])
def PS{l:List Oper}{b:List aI}{J:Nat->Bool}(hJ:zg l J):∀{s h:List (Nat×List aI)} {q:Nat×List aI},DJ l b (s++q::h)->J q.1=false->∀p∈s,J p.1=false
 |[],_,_,_,_=>λ_ hp=>by cases hp
 |x::s,h,q,hc,hq=>by
  have ih:=PS hJ hc.2.2 hq;intro p hp;rcases mC.1 hp with rfl|hp
  .cases hJx:J p.1 with
   |false=>rfl
   |true=>
    exfalso;cases s with
    |nil=>obtain⟨_,op,h1,h2⟩:=hc.2.1 q rfl;have:=hJ _ op h1 hJx _ h2;rw[hq]at this;cases this
    |cons y s=>obtain⟨_,op,h1,h2⟩:=hc.2.1 y rfl;have:=hJ _ op h1 hJx _ h2;rw[ih y (by simp)]at this;cases this
  .exact ih p hp
def flv(J:Nat->Bool)(dead:Bool)(q:Nat×Nat×List AV):aI:=
 if J q.1=true then⟨true,true,q.2.2.length,1,[q.2.2]⟩else⟨!dead,false,q.2.2.length,0,[]⟩
def vB(J:Nat->Bool)(dead:Bool):List (Nat×Nat×List AV)->List aI->List aI
 |[],o=>o
 |q::r,o=>vB J dead r (o.set q.2.1 (flv J dead q))
def Hu:Nat->Bool:=λ_=>false
def iq(fl:List (Nat×Nat×List AV))(n:Nat):Bool:=decide (fl.map (·.1)).Nodup&&(decide (fl.map (·.2.1)).Nodup&&fl.all λq=>decide (q.2.1<n))
def tT(J:Nat->Bool)(d:Bool):∀(fl:List (Nat×Nat×List AV)) (o:List aI),(vB J d fl o).length=o.length
 |[],_=>rfl
 |q::r,o=>by simp only[vB];rw[tT J d r];simp
def Hw{J:Nat->Bool}{d:Bool}{i:Nat}:∀{fl:List (Nat×Nat×List AV)} {o:List aI},(∀q∈fl,q.2.1≠i)->(vB J d fl o)[i]? =o[i]?
 |[],_,_=>rfl
 |q::r,o,h=>by simp only[vB];rw[Hw λp hp=>h p (by simp[hp]),lB (h q (by simp))]
def DK{J:Nat->Bool}{d:Bool}:∀{fl:List (Nat×Nat×List AV)} {o:List aI} {q:Nat×Nat×List AV},(fl.map (·.2.1)).Nodup->q∈fl->q.2.1<o.length->(vB J d fl o)[q.2.1]? =some (flv J d q)
 |p::r,o,q,hn,hq,hl=>by
  simp only[vB];simp only[oE,nF]at hn;rcases mC.1 hq with rfl|hq
  .rw [Hw λp hp e=>hn.1 (zE.2 ⟨p,hp,e⟩),mN hl]
  .exact DK hn.2 hq (by simpa using hl)
def RH{J:Nat->Bool}{d:Bool}{n:List aI}:∀{fl:List (Nat×Nat×List AV)} {o:List aI},(∀q∈fl,q.2.1<o.length)->vB J d fl (o++n)=vB J d fl o++n
 |[],_,_=>rfl
 |q::r,o,h=>by simp only[vB];rw[set_append_left _ _ (h q (by simp)),RH λp hp=>by simpa using h p (by simp[hp])]
def aA3{fl:List (Nat×Nat×List AV)}{o o':List aI}(hl:o.length=o'.length)(h:∀q∈fl,o[q.2.1]? =o'[q.2.1]?)(h2:∀i,(∀q∈fl,q.2.1≠i)->o[i]? =o'[i]?):o=o':=by
 refine CA λi=> ?_
 by_cases hi:∃q∈fl,q.2.1=i
 .obtain ⟨q,hq,rfl⟩:=hi;exact h q hq
 .exact h2 i λq hq e=>hi ⟨q,hq,e⟩
def aL4{J J':Nat->Bool}{d d':Bool}{fl:List (Nat×Nat×List AV)}{o:List aI}(hn:(fl.map (·.2.1)).Nodup)(hs:∀q∈fl,q.2.1<o.length):vB J d fl (vB J' d' fl o)=vB J d fl o:=
 aA3 (fl:=fl) (by simp[tT]) (λq hq=>by rw[DK hn hq (by rw[tT];exact hs q hq),DK hn hq (hs q hq)]) (λi hi=>by rw[Hw hi,Hw hi,Hw hi])
def Xe{J J':Nat->Bool}{d:Bool}:∀{fl:List (Nat×Nat×List AV)} {o:List aI},(∀q∈fl,J q.1=J' q.1)->vB J d fl o=vB J' d fl o
 |[],_,_=>rfl
 |q::r,o,h=>by
  simp only[vB];have:flv J d q=flv J' d q:=by unfold flv;rw[h q (by simp)]
  rw[this,Xe λp hp=>h p (by simp[hp])]
def Je{α β:Type}(f:α->β):∀(L:List α),(L.map f).Nodup->∀p q,p∈L->q∈L->f p=f q->p=q
 |[],_,_,_,h,_,_=>by cases h
 |x::L,hn,p,q,hp,hq,e=>by
  simp only[oE,nF]at hn;rcases mC.1 hp with hp'|hp'
  .rcases mC.1 hq with hq'|hq'
   .rw [hp',hq']
   .exfalso;exact hn.1 (zE.2 ⟨q,hq',by rw[<-e,hp']⟩)
  .rcases mC.1 hq with hq'|hq'
   .exfalso;exact hn.1 (zE.2 ⟨p,hp',by rw[e,hq']⟩)
   .exact Je f L hn.2 p q hp' hq' e
def aL5{J:Nat->Bool}{d:Bool}{fl:List (Nat×Nat×List AV)}{o:List aI}{q:Nat×Nat×List AV}(hn1:(fl.map (·.1)).Nodup)(hn:(fl.map (·.2.1)).Nodup)(hs:∀q∈fl,q.2.1<o.length)(hq:q∈fl):
  vB (qX J q.1) d fl o=(vB J d fl o).set q.2.1 ⟨true,true,q.2.2.length,1,[q.2.2]⟩:=by
 have hinj:∀p∈fl,p.1=q.1->p=q:=λp hp e=>Je (·.1) fl hn1 p q hp hq e
 have aUc:∀p∈fl,p.2.1=q.2.1->p=q:=λp hp e=>Je (·.2.1) fl hn p q hp hq e
 refine aA3 (fl:=fl) (by simp[tT]) (λp hp=> ?_) (λi hi=> ?_)
 .rw [DK hn hp (hs p hp)];by_cases hpq:p=q
  .subst hpq;rw[mN (by rw[tT];exact hs p hp)];simp[flv,qX]
  .rw [lB (λe=>hpq (aUc p hp e.symm)),DK hn hp (hs p hp)]
   have:qX J q.1 p.1=J p.1:=by unfold qX;rw[eC (λe=>hpq (hinj p hp e))]
   simp[flv,this]
 .rw [Hw hi,lB (hi q hq),Hw hi]
def aL6{J:Nat->Bool}{pr:List Nat}{fl:List (Nat×Nat×List AV)}{o ext:List aI}(hn:(fl.map (·.2.1)).Nodup)(hs:∀q∈fl,q.2.1<o.length)(hp:∀e∈pr,J e=true):
  Sub (vB (xU pr) true fl o) (vB J false fl (o++ext)):=by
 intro i ob h hl;by_cases hi:∃q∈fl,q.2.1=i
 .obtain ⟨q,hq,rfl⟩:=hi;rw[DK hn hq (hs q hq)]at h;obtain rfl:=cX h;rw[DK hn hq (by have:=hs q hq;simp;omega)];unfold flv at hl⊢;by_cases hb:xU pr q.1=true
  .rw [eM hb,eM (hp q.1 (by simpa [xU]using hb))]
  .rw [eC hb]at hl;cases hl
 .have hi':∀q∈fl,q.2.1≠i:=λq hq e=>hi ⟨q,hq,e⟩
  rw[Hw hi']at h⊢;rw[oA (cU.1 h).1];exact h
def aA4{l:List Oper}{b:List aI}{J:Nat->Bool}{h:List (Nat×List aI)}(hc:DJ l b h):∃ext,oJ J b h=b++ext:=by
 obtain⟨ext,he⟩:=H6 (J:=J) (pr:=[]) (by simp) hc;have:∀h:List (Nat×List aI),oJ (xU []) b h=b:=by
  intro h;induction h with
  |nil=>rfl
  |cons q r ih=>simp[oJ,ih,xU]
 exact⟨ext,by rw[he,this]⟩
def YH{fl:List (Nat×Nat×List AV)}{b:List aI}(J:Nat->Bool)(hb:vB Hu true fl b=b):∀{h:List (Nat×List aI)},(∀q∈h,vB Hu true fl q.2=q.2)->vB Hu true fl (oJ J b h)=oJ J b h
 |[],_=>hb
 |q::r,h=>by
  simp only[oJ];split
  .exact h q (by simp)
  .exact YH J hb λp hp=>h p (by simp[hp])
def Hy(op:Oper)(s:AS):AV:=match op.dst with
 |some d=>s.t.getD d .aB
 |none=> .aB
def pX(P:Program)[aG P](l:List Oper)(t:List AV)(b:List aI)(fl:List (Nat×Nat×List AV))(K:AS->Prop):Nat->List Oper->List AV->List (Nat×List aI)->Prop
 |i,[],vs,h=>K ⟨kQ (λ_=>true) 0 l vs t,vB (λk=>decide (k<i)) false fl (top b h)⟩
 |i,op::r,vs,h=>(∃q∈fl,q.1=i/\op.guard=none/\(∃T,op.op= .alloc T/\sS P T=some q.2.2)/\(∀e∈pre op,e<i)/\pX P l t b fl K (i+1) r (vs++[.ptr q.2.1 1 0 0]) h)\/
   ((∀q∈fl,q.1≠i)/\qO op.op ⟨rU i (pre op) 0 l vs t,vB (xU (pre op)) true fl (oJ (xU (pre op)) b h)⟩=true/\(∀e∈pre op,e<i)/\
   uP P l op ⟨rU i (pre op) 0 l vs t,vB (xU (pre op)) true fl (oJ (xU (pre op)) b h)⟩ λs'=>
    (Gt (pre op) h=true\/s'.o.length=(oJ (xU (pre op)) b h).length)/\
    pX P l t b fl K (i+1) r (vs++[Hy op s']) (if s'.o.length=(oJ (xU (pre op)) b h).length then h else(i,vB Hu true fl s'.o)::h))\/
   (zV l i=true/\EN (λz=>Bu P l K (left ((range l.length).map (jz i z))) ((range l.length).map (jz i z)) ⟨kQ (jz i z) 0 l vs t,vB (jz i z) false fl (oJ (jz i z) b h)⟩) [] (wJ l i))\/
   (zV l i=true/\FN l i=true/\mH P l (op::r) ⟨kQ (λk=>decide (k<i)) 0 l vs t,vB (λk=>decide (k<i)) false fl (top b h)⟩ K)
structure Item(P:Program)[aG P](l:List Oper)(t:List AV)(b:List aI)(fl:List (Nat × Nat × List AV))(j:Nat)(op:Oper)(vs:List AV)(hf:List (Nat × List aI)): Prop where
  pre:∀ e ∈ pre op, e<j
  ex:(∃ q ∈ fl, q.1 = j /\ op.guard = none /\ (∃ T, op.op = .alloc T /\ sS P T = some q.2.2) /\ vs.getD j .aB = .ptr q.2.1 1 0 0 /\ ∀ p ∈ hf, p.1 ≠ j) \/
    ((∀ q ∈ fl, q.1 ≠ j) /\ ∃ x new hj Xf, qO op.op ⟨rU j (Aw.pre op) 0 l (vs.take j) t, vB (xU (Aw.pre op)) true fl (oJ (xU (Aw.pre op)) b hj)⟩ = true /\ hf = Xf ++ hj /\ (∀ q ∈ hj, q.1<j) /\ (vs.getD j .aB = x \/ vs.getD j .aB = .aB) /\
    uP P l op ⟨rU j (Aw.pre op) 0 l (vs.take j) t, vB (xU (Aw.pre op)) true fl (oJ (xU (Aw.pre op)) b hj)⟩ (λs' => s' = ⟨vZ (rU j (Aw.pre op) 0 l (vs.take j) t) op.dst x, vB (xU (Aw.pre op)) true fl (oJ (xU (Aw.pre op)) b hj) ++ new⟩) /\
    ((new = [] /\ ∀ q ∈ Xf, j<q.1) \/ (Gt (Aw.pre op) hj = true /\ ∃ s2, Xf = s2 ++ [(j, oJ (xU (Aw.pre op)) b hj ++ new)] /\ ∀ q ∈ s2, j<q.1)))
def iw{b:List aI}{pr:List Nat}{h:List (Nat×List aI)}(ht:Gt pr h=true):oJ (xU pr) b h=top b h:=by
 cases h with
 |nil=>rfl
 |cons q r=>simp only[Gt]at ht;simp only[oJ,top,xU,ht,eS]
def Xg{P:Program}[aG P]{op:Oper}{t t2:List AV}{o o2:List aI}{K:AS->Prop}(h:VH P op ⟨t,o⟩ K):
  ∃x new x2,K ⟨vZ t op.dst x,o++new⟩/\(x=x2\/x= .aB)/\(o2.length=o.length\/new=[])/\∀K2:AS->Prop,K2 ⟨vZ t2 op.dst x2,o2++new⟩->VH P op ⟨t2,o2⟩ K2:=by
 obtain⟨dst,op,ty,pos,after,gd⟩:=op;unfold VH at h;dsimp only at h;split at h
 .split at h
  .rename_i e n by' he;refine⟨.sl .own n [],[],.sl .own n [],by rw[eE,<-put_eq];exact h.2,.inl rfl,.inr rfl,λK2 hK=> ?_⟩;rw[eE]at hK;rename_i tt _;show(match oO P tt with
    |some (e,n,_)=>kZ P e n=true/\K2 (AS.put ⟨t2,o2⟩ dst (.sl .own n []))
    |none=>False)
   rw[he];exact⟨h.1,by rw[put_eq];exact hK⟩
  .exact h.elim
 .exact h.elim
def DL{P:Program}[aG P]{l:List Oper}{op:Oper}{t t2:List AV}{o o2:List aI}{K:AS->Prop}(q:qO op.op ⟨t,o⟩=true)(hw:wk t2 t)(h:uP P l op ⟨t,o⟩ K)(hs:Sub o o2)(BI:o2.length=o.length\/∀s',K s'->s'.o.length=o.length):
  ∃x new x2,K ⟨vZ t op.dst x,o++new⟩/\(x=x2\/x= .aB)/\(o2.length=o.length\/new=[])/\∀K2:AS->Prop,K2 ⟨vZ t2 op.dst x2,o2++new⟩->uP P l op ⟨t2,o2⟩ K2:=by
 unfold uP at h;split at h
 .rename_i hg;rcases h with h|h
  .obtain ⟨x,new,x2,h1,h2,h3,h4⟩:=dh q hw h hs BI;exact⟨x,new,x2,h1,h2,h3,λK2 hK=>by unfold uP;simp only[hg];exact .inl (h4 K2 hK)⟩
  .obtain ⟨x,new,x2,h1,h2,h3,h4⟩:=Xg (t2:=t2) (o2:=o2) h;exact⟨x,new,x2,h1,h2,h3,λK2 hK=>by unfold uP;simp only[hg];exact .inr (h4 K2 hK)⟩
 .rename_i j want hg;split at h
  .rename_i b hb;have hb2:qN l ⟨t2,o2⟩ j want= .bool b:=by
    unfold qN at hb⊢;split at hb
    .rename_i o' ho';split at hb
     .rename_i d hd;rcases E9 d hw with e|e
      .rw [<-e];exact hb
      .rw [e]at hb;cases hb
     .cases hb
    .cases hb
   by_cases hbw:b=want
   .rcases h.1 hbw with h|h
    .obtain ⟨x,new,x2,h1,h2,h3,h4⟩:=dh q hw h hs BI;exact⟨x,new,x2,h1,h2,h3,λK2 hK=>by unfold uP;simp only[hg,hb2];exact⟨λ_=> .inl (h4 K2 hK),λhn=>absurd hbw hn⟩⟩
    .obtain ⟨x,new,x2,h1,h2,h3,h4⟩:=Xg (t2:=t2) (o2:=o2) h;exact⟨x,new,x2,h1,h2,h3,λK2 hK=>by unfold uP;simp only[hg,hb2];exact⟨λ_=> .inr (h4 K2 hK),λhn=>absurd hbw hn⟩⟩
   .have h1:=h.2 hbw;rw[put_eq]at h1;exact⟨.iL [],[],.iL [],by rw[eE];exact h1,.inl rfl,.inr rfl,λK2 hK=>by
     unfold uP;simp only[hg,hb2];refine⟨λhn=>absurd hn hbw,λ_=> ?_⟩;rw[put_eq];rw[eE]at hK;exact hK⟩
  .exact h.elim
def aYc(P:Program)[aG P](l:List Oper)(t:List AV)(b:List aI)(fl:List (Nat×Nat×List AV))(K:AS->Prop)(m:Nat)(vs:List AV)(h:List (Nat×List aI)):Prop:=
 (m=l.length/\K ⟨kQ (λ_=>true) 0 l vs t,vB (λk=>decide (k<m)) false fl (top b h)⟩)\/
 (m<l.length/\zV l m=true/\EN (λz=>Bu P l K (left ((range l.length).map (jz m z))) ((range l.length).map (jz m z)) ⟨kQ (jz m z) 0 l vs t,vB (jz m z) false fl (oJ (jz m z) b h)⟩) [] (wJ l m))\/
 (m<l.length/\zV l m=true/\FN l m=true/\mH P l (l.drop m) ⟨kQ (λk=>decide (k<m)) 0 l vs t,vB (λk=>decide (k<m)) false fl (top b h)⟩ K)
def Jf{P:Program}[aG P]{l:List Oper}{t:List AV}{b:List aI}{fl:List (Nat × Nat × List AV)}{K:AS -> Prop}(hnd:(fl.map (·.2.1)).Nodup)(hsl:∀ q ∈ fl, q.2.1<b.length)(hb:vB Hu true fl b = b): ∀ (r:List Oper) (i:Nat) (vs:List AV) (h:List (Nat × List aI)), l.drop i = r -> vs.length = i -> i <= l.length -> (∀ q ∈ h, q.1<i) -> (∀ q ∈ h, vB Hu true fl q.2 = q.2) -> DJ l b h -> pX P l t b fl K i r vs h ->
    ∃ m vs' hf, i <= m /\ aYc P l t b fl K m (vs ++ vs') hf /\ DJ l b hf /\ (∃ Xf, hf = Xf ++ h /\ ∀ q ∈ Xf, i <= q.1 /\ q.1<m) /\ (∀ q ∈ hf, vB Hu true fl q.2 = q.2) /\ ∀ j op, i <= j -> j<m -> l[j]? = some op -> Item P l t b fl j op (vs ++ vs') hf
  | [], i, vs, h, hr, hv, hi, hlt, hN, hc, hd => by
    have hil : i = l.length := by have : l.length <= i := by simpa using hr
                                  omega
    subst hil;refine⟨l.length, [], h, eJ _, ?_, hc, ⟨[], rfl, by simp⟩, hN, λj op hij hj => by omega⟩;simp only[pX]at hd;exact .inl ⟨rfl, by simpa using hd⟩
  | op :: r, i, vs, h, hr, hv, hi, hlt, hN, hc, hd => by
    have hil:i<l.length := by
      rcases AM i l.length with h' | h'
      · exact h'
      · rw[Cp h']at hr; cases hr
    have hop:l[i]? = some op := by
      have := As head? hr;rw[head?_drop]at this; simpa using this
    have hdr:l.drop (i+1) = r := by rw[<- Bk, hr]; rfl
    simp only[pX]at hd;rcases hd with⟨q, hq, hqi, hg, hT, hpr, hd⟩ | ⟨hnf, hq, hpr, ha⟩ | ⟨htl, ha⟩ | ⟨htl, aYd, ha⟩;case inr.inr.inr =>
      refine⟨i, [], h, eJ _, ?_, hc, ⟨[], rfl, by simp⟩, hN, λj op' hij hj => by omega⟩;rw[eE];exact .inr (.inr ⟨hil, htl, aYd, by rw[hr]; exact ha⟩)
    case inr.inr.inl =>
      refine⟨i, [], h, eJ _, ?_, hc, ⟨[], rfl, by simp⟩, hN, λj op' hij hj => by omega⟩;rw[eE];exact .inr (.inl ⟨hil, htl, ha⟩)
    case inl =>
      obtain⟨m, vs', hf, km, k1, k2, ⟨Xf, k3, k4⟩, k6, k5⟩ := Jf hnd hsl hb r (i+1) (vs ++ [.ptr q.2.1 1 0 0]) h hdr (by simp[hv]) (by omega) (λq hq => by have := hlt q hq; omega) hN hc hd;refine⟨m, .ptr q.2.1 1 0 0 :: vs', hf, by omega, by simpa using k1, k2, ⟨Xf, k3, λq hq => by have := k4 q hq; omega⟩, k6, λj op' hij hjm hj => ?_⟩;by_cases hji:j = i
      · subst hji
        rw[hop]at hj; obtain rfl := cX hj;refine⟨hpr, .inl ⟨q, hq, hqi, hg, hT, ?_, λp hp => ?_⟩⟩
        · rw[mA, lO (by omega), hv, tU]; rfl
        · rw[k3]at hp
          rcases fR.1 hp with hp | hp
          · have := k4 p hp; omega
          · have := hlt p hp; omega
      · have := k5 j op' (by omega) hjm hj
        simpa using this
    have hsub:Sub (vB (xU (pre op)) true fl (oJ (xU (pre op)) b h)) (vB (xU (pre op)) true fl (oJ (xU (pre op)) b h)) := λ_ _ h _ => h
    obtain⟨x, new, x2, ⟨h1, h2⟩, _, _, h3⟩ := DL hq (oH _) ha hsub (.inl rfl);have h4 := h3 (λs' => s' = ⟨vZ (rU i (pre op) 0 l vs t) op.dst x2, vB (xU (pre op)) true fl (oJ (xU (pre op)) b h) ++ new⟩) rfl;have hval:∀ (y:AV) (os:List aI), Hy op ⟨vZ (rU i (pre op) 0 l vs t) op.dst y, os⟩ = y \/ Hy op ⟨vZ (rU i (pre op) 0 l vs t) op.dst y, os⟩ = .aB := by
      intro y os;unfold Hy vZ;cases op.dst with
      | none => exact .inr rfl
      | some d =>
        dsimp only;rw[mA, getElem?_set_self'];cases (rU i (pre op) 0 l vs t)[d]? with
        | none => exact .inr rfl
        | some z => exact .inl rfl
    obtain⟨bB4, hbase⟩ := aA4 (J := xU (pre op)) hc;have aQe:∀ q ∈ fl, q.2.1<(oJ (xU (pre op)) b h).length := λq hq => by rw[hbase]; have := hsl q hq; simp; omega
    have aUd:vB Hu true fl (vB (xU (pre op)) true fl (oJ (xU (pre op)) b h) ++ new) = oJ (xU (pre op)) b h ++ new := by
      rw[RH (by rw[tT]; exact aQe), aL4 hnd aQe, YH _ hb hN]
    simp only[aUd]at h2;generalize hvv:Hy op ⟨vZ (rU i (pre op) 0 l vs t) op.dst x, vB (xU (pre op)) true fl (oJ (xU (pre op)) b h) ++ new⟩ = vv at h2;have hvx:vv = x2 \/ vv = .aB := by
      rcases hval x (vB (xU (pre op)) true fl (oJ (xU (pre op)) b h) ++ new)with e | e
      · rw[hvv]at e; subst e; assumption
      · rw[hvv]at e; exact .inr e
    have dF:((vB (xU (pre op)) true fl (oJ (xU (pre op)) b h) ++ new).length = (oJ (xU (pre op)) b h).length) ↔ new = [] := by
      rw[eR, tT]; constructor
      · intro e; exact gO (by omega)
      · rintro rfl; simp
    have item:∀ (vs':List AV) (hf:List (Nat × List aI)), ((∃ Xf, hf = Xf ++ h /\ new = [] /\ ∀ q ∈ Xf, i<q.1) \/ (Gt (pre op) h = true /\ ∃ s2, hf = s2 ++ (i, oJ (xU (pre op)) b h ++ new) :: h /\ ∀ q ∈ s2, i<q.1)) -> Item P l t b fl i op ((vs ++ [vv]) ++ vs') hf := by
      intro vs' hf hcase;have e1:((vs ++ [vv]) ++ vs').take i = vs := by rw[rL, take_left' hv]
      have e2:((vs ++ [vv]) ++ vs').getD i .aB = vv := by
        rw[rL, mA, lO (by omega), hv, tU]; rfl
      refine⟨hpr, .inr ⟨hnf, x2, new, h, ?_⟩⟩;rw[e1, e2];rcases hcase with⟨Xf, rfl, hn, hs⟩ | ⟨ht, s2, rfl, hs⟩
      · exact⟨Xf, hq, rfl, hlt, hvx, h4, .inl ⟨hn, hs⟩⟩
      · exact⟨s2 ++ [(i, oJ (xU (pre op)) b h ++ new)], hq, by simp, hlt, hvx, h4, .inr ⟨ht, s2, rfl, hs⟩⟩
    by_cases hnew:new = []
    · rw[eM (dF.2 hnew)]at h2
      obtain⟨m, vs', hf, km, k1, k2, ⟨Xf, k3, k4⟩, k6, k5⟩ := Jf hnd hsl hb r (i+1) (vs ++ [vv]) h hdr (by simp[hv]) (by omega) (λq hq => by have := hlt q hq; omega) hN hc h2;refine⟨m, vv :: vs', hf, by omega, by simpa using k1, k2, ⟨Xf, k3, λq hq => by have := k4 q hq; omega⟩, k6, λj op' hij hjm hj => ?_⟩;by_cases hji:j = i
      · subst hji
        rw[hop]at hj; obtain rfl := cX hj;have := item vs' hf (.inl ⟨Xf, k3, hnew, λq hq => by have := k4 q hq; omega⟩);simpa using this
      · have := k5 j op' (by omega) hjm hj
        simpa using this
    · rw[eC (λe => hnew (dF.1 e))]at h2
      have ht:Gt (pre op) h = true := h1.resolve_right (λe => hnew (dF.1 e));have hc':DJ l b ((i, oJ (xU (pre op)) b h ++ new) :: h) := by
        refine⟨⟨new, by rw[iw ht]⟩, λp hp => ?_, hc⟩;cases h with
        | nil => cases hp
        | cons q h =>
          obtain rfl := cX hp;exact⟨hlt _ (by simp), op, hop, by simpa [Gt]using ht⟩
      obtain⟨m, vs', hf, km, k1, k2, ⟨Xf, k3, k4⟩, k6, k5⟩ := Jf hnd hsl hb r (i+1) (vs ++ [vv]) _ hdr (by simp[hv]) (by omega) (λq hq => by
        rcases mC.1 hq with rfl | hq
        · simp
        · have := hlt q hq; omega) (λq hq => by
        rcases mC.1 hq with rfl | hq
        · show vB Hu true fl (oJ (xU (pre op)) b h ++ new) = _
          rw[RH aQe, YH _ hb hN]
        · exact hN q hq) hc' h2
      refine⟨m, vv :: vs', hf, by omega, by simpa using k1, k2, ⟨Xf ++ [(i, oJ (xU (pre op)) b h ++ new)], by simp[k3], λq hq => by
        rcases fR.1 hq with hq | hq
        · have := k4 q hq; omega
        · simp at hq; subst hq; exact⟨by simp, by omega⟩⟩, k6, λj op' hij hjm hj => ?_⟩
      by_cases hji:j = i
      · subst hji
        rw[hop]at hj; obtain rfl := cX hj;have := item vs' hf (.inr ⟨ht, Xf, k3, λq hq => by have := k4 q hq; omega⟩);simpa using this
      · have := k5 j op' (by omega) hjm hj
        simpa using this
def aCq{P:Program}[aG P]{id:Nat}{l:List Oper}{s:AS}{Q:Exit->AS->Prop}{fl:List (Nat×Nat×List AV)}{b:List aI}(hfw:JP l=true)(hdst:distinct l=true)(hfl:iq fl b.length=true)(hb:vB Hu true fl b=b)(hb0:vB Hu false fl b=s.o++(fl.map (·.2.2.length)).map λn=>⟨true,false,n,0,[]⟩)
  (h:pX P l s.t b fl (Q .normal) 0 l [] []):qA P (.region id l.toArray true) s Q:=by
 simp only[iq,eK,fY,fW]at hfl;obtain⟨aYe,hnd,hsl⟩:=hfl;obtain⟨m,vs,hf,_,hK,hc,⟨aUe,aOs,VO⟩,hN,hit⟩:=Jf hnd hsl hb l 0 [] [] rfl rfl (by omega) (by simp) (by simp) trivial h;simp only[eA]at hK hit;have aYf:∀j op,j<m->l[j]? =some op->Item P l s.t b fl j op vs hf:=λj op hjm hj=>hit j op (by omega) hjm hj
 have aQf:∀J:Nat->Bool,∀q∈fl,q.2.1<(oJ J b hf).length:=λJ q hq=>by obtain⟨ext,he⟩:=aA4 (J:=J) hc;rw[he];have:=hsl q hq;simp;omega
 unfold qA;have hml:m<=l.length:=by
  rcases hK with h|h|h
  .omega
  .omega
  .omega
 have hrest:zV l m=true:=by
  rcases hK with h|h|h
  .rw [h.1];unfold zV;rw[fW];intro i hi;simp at hi;simp only[sA,fY];exact .inl (by omega)
  .exact h.2.1
  .exact h.2.1
 refine ik (ops:=l.toArray) m (by simpa using hml) (by simpa using hfw) (by simpa using hrest) (λJ=>⟨kQ J 0 l vs s.t,vB J false fl (oJ J b hf)⟩) ?_ ?_ ?_
 .have e1:∀(l:List Oper) (j:Nat) (vs t:List AV),kQ (λ_=>false) j l vs t=t:=by
   intro l;induction l with
   |nil=>intros;rfl
   |cons op r ih=>intro j vs t;simp only[kQ];rw[ih];unfold BR;cases op.dst<;>simp
  have e2:∀h:List (Nat×List aI),oJ (λ_=>false) b h=b:=by
   intro h;induction h with
   |nil=>rfl
   |cons q r ih=>simp[oJ,ih]
  rw[e1,e2];have e3:vB (λ_=>false) false fl b=_:=hb0;rw[e3];exact λ_ _ _ _ _ r=>Sa _ r
 .intro i op him hi;have hi':l[i]? =some op:=by simpa using hi
  have it:=aYf i op him hi';intro J hJ hJm hJi hpre;have hJ':zg l J:=by simpa using hJ
  rcases it.ex with⟨q,hq,hqi,hg,⟨T,hT,hz⟩,hval,jE⟩|⟨hnf,x,new,hj,Xf,hqq,hfe,hlt,hvx,hop,hcase⟩
  .right;refine⟨hg,λB=> ?_⟩;have hoJ:∀h:List (Nat×List aI),(∀p∈h,p.1≠i)->oJ (qX J i) b h=oJ J b h:=by
    intro h;induction h with
    |nil=>intro _;rfl
    |cons p r ih=>
     intro hq;simp only[oJ];rw[ih λp hp=>hq p (by simp[hp])];have:qX J i p.1=J p.1:=by unfold qX;rw[eC (hq p (by simp))]
     rw[this]
   have hto:kQ (qX J i) 0 l vs s.t=vZ (kQ J 0 l vs s.t) op.dst (.ptr q.2.1 1 0 0):=by
    have:=Jd l 0 i op vs s.t (.ptr q.2.1 1 0 0) hdst hi' (by simpa using hJi) hval
    rwa[lR]at this
   have aYg:vB (qX J i) false fl (oJ J b hf)=(vB J false fl (oJ J b hf)).set q.2.1 ⟨true,true,q.2.2.length,1,[q.2.2]⟩:=by rw[<-hqi];exact aL5 aYe hnd (aQf J) hq
   rw[hto,hoJ hf jE,aYg];have aUf:(vB J false fl (oJ J b hf))[q.2.1]? =some ⟨true,false,q.2.2.length,0,[]⟩:=by rw[DK hnd hq (aQf J q hq)];unfold flv;rw[eC (by rw[hqi,hJi];simp)];rfl
   obtain⟨dst,o,ty,pos,after,gd⟩:=op;dsimp only at hT hg⊢;subst hT;have:=Yk (B:=B) (s:=⟨kQ J 0 l vs s.t,vB J false fl (oJ J b hf)⟩) (dst:=dst) (ty:=ty) (pos:=pos) (after:=after) (gd:=gd) T hz aUf;rw[put_eq]at this;exact this
  left;have Xh:wk (kQ J 0 l vs s.t) (rU i (pre op) 0 l (vs.take i) s.t):=
   Ot hJi (λe he=>⟨hpre e he,it.pre e he⟩) l 0 vs (vs.take i) s.t s.t (λk q hk hJk=>hJ' k q hk (by simpa using hJk)) (λk hk=>by
    rw[mA,mA,CC];simp[show k<i by omega]) (oH _)
  have aOt:∀(J':Nat->Bool) (s2:List (Nat×List aI)),(∀q∈s2,J' q.1=false)->∀h',oJ J' b (s2++h')=oJ J' b h':=λJ' s2 h1 h'=>YG J' b h1
  have aYi:∀q:Nat×List aI,i<=q.1->xU (pre op) q.1=false:=λq hq=>by
   cases hb:xU (pre op) q.1 with
   |false=>rfl
   |true=>have:=it.pre q.1 (by simpa [xU]using hb);omega
  have hoc:oJ (xU (pre op)) b hf=oJ (xU (pre op)) b hj:=by
   rw[hfe];refine YG _ _ λq hq=>aYi q ?_
   rcases hcase with⟨_,h1⟩|⟨_,s2,rfl,h1⟩
   .have:=h1 q hq;omega
   .rcases fR.1 hq with hq|hq
    .have:=h1 q hq;omega
    .simp at hq;subst hq;simp
  obtain⟨ext,BI⟩:=H6 (J:=J) hpre hc;rw[hoc]at BI;have aUg:∀q∈fl,q.2.1<(oJ (xU (pre op)) b hj).length:=λq hq=>by rw[<-hoc];exact aQf _ q hq
  have zL:(new=[]/\oJ (qX J i) b hf=oJ J b hf)\/(ext=[]/\oJ (qX J i) b hf=oJ (xU (pre op)) b hj++new):=by
   rcases hcase with⟨h1,h2⟩|⟨ht,s2,rfl,h2⟩
   .refine .inl ⟨h1,?_⟩;have:∀h:List (Nat×List aI),(∀q∈h,q.1≠i)->oJ (qX J i) b h=oJ J b h:=by
     intro h;induction h with
     |nil=>intro _;rfl
     |cons q r ih=>
      intro hq;simp only[oJ];rw[ih λp hp=>hq p (by simp[hp])];have:qX J i q.1=J q.1:=by unfold qX;rw[eC (hq q (by simp))]
      rw[this]
    refine this hf λq hq=> ?_
    rw[hfe]at hq;rcases fR.1 hq with hq|hq
    .have:=h2 q hq;omega
    .have:=hlt q hq;omega
   .right;have aQh:hf=s2++(i,oJ (xU (pre op)) b hj++new)::hj:=by simp[hfe]
    have hs2:=PS hJ' (s:=s2) (by rw[<-aQh];exact hc) hJi;constructor
    .have h3:oJ J b hf=oJ J b hj:=by rw[aQh,aOt J s2 hs2];simp only[oJ];rw[eC (by rw[hJi];simp)]
     have h4:oJ J b hj=oJ (xU (pre op)) b hj:=by
      rw[iw ht];cases hj with
      |nil=>rfl
      |cons q r=>simp only[Gt,fY]at ht;simp only[oJ,top];rw[eM (hpre _ ht)]
     rw[h3,h4]at BI;have:=As length BI;rw[eR]at this;exact gO (by omega)
    .rw [aQh,aOt (qX J i) s2 (λq hq=>by
      have:=h2 q hq;unfold qX;rw[eC (by omega)];exact hs2 q hq)]
     simp[oJ,qX]
  have hsub:Sub (vB (xU (pre op)) true fl (oJ (xU (pre op)) b hj)) (vB J false fl (oJ J b hf)):=by rw[BI];exact aL6 hnd aUg hpre
  obtain⟨x',new',x2,rfl',hx2,_,hfin⟩:=DL (o2:=vB J false fl (oJ J b hf)) hqq Xh hop hsub (by
   rcases zL with⟨h1,_⟩|⟨h1,_⟩
   .right;rintro s' rfl;simp[h1]
   .left;rw[tT,tT,BI,h1,eE])
  refine hfin _ ?_;have hset:new'=new/\(vZ (rU i (pre op) 0 l (vs.take i) s.t) op.dst x'=vZ (rU i (pre op) 0 l (vs.take i) s.t) op.dst x):=by simp only[AS.mk.injEq,append_cancel_left_eq]at rfl';exact⟨rfl'.2,rfl'.1⟩
  have hto:wk (vZ (kQ J 0 l vs s.t) op.dst x2) (kQ (qX J i) 0 l vs s.t):=by
   have:=Jd l 0 i op vs s.t (vs.getD i .aB) hdst hi' (by simpa using hJi) rfl;rw[lR]at this;rw[this];have hL:=Oq Xh;unfold vZ at hset⊢;cases hd:op.dst with
   |none=>exact oH _
   |some d=>
    rw[hd]at hset;dsimp only at hset⊢;rcases AM d (kQ J 0 l vs s.t).length with hdl|hle
    .have hxx:x'=x:=by have:=As (λt=>t[d]?) hset.2;simpa [hL▸hdl]using this
     refine Tw d (oH _) ?_;rcases hvx with e|e
     .rw [e,<-hxx];assumption
     .exact .inr e
    .rw [Bs hle,Bs hle];exact oH _
  have aUh:∀o:List aI,vB (qX J i) false fl o=vB J false fl o:=λo=>Xe λq hq=>by unfold qX;rw[eC (hnf q hq)]
  have aUi:vB J false fl (oJ J b hf)++new'=vB (qX J i) false fl (oJ (qX J i) b hf):=by
   rw[aUh,hset.1];rcases zL with⟨h1,h2⟩|⟨h1,h2⟩
   .rw [h2,h1,eE]
   .rw [h2,RH aUg,BI,h1,eE]
  rw[aUi];exact zS hto
 .intro J hJ hJm hor;have hJ':zg l J:=by simpa using hJ
  have hsz:l.toArray.size=l.length:=by simp
  rw[hsz];have e0:l.toArray.toList=l:=by simp
  rw[e0]at hor⊢;rcases hK with⟨hme,hK⟩|⟨aQi,_,hK⟩|⟨aQi,_,htl,hK⟩
  .left;have hall:∀i,i<l.length->J i=true:=by
    intro i hi;rcases hor with h|⟨op,hop,_⟩
    .exact h i (by omega)
    .have:=(cU.1 hop).1;omega
   have e3:(range l.length).map J=replicate l.length true:=by
    refine CA λi=> ?_
    rw[vA,getElem?_replicate];by_cases hi:i<l.length
    .simp [hi,hall i hi]
    .simp [hi]
   have e4:left (replicate l.length true)=0:=by
    unfold left;rw[filter_eq_nil_iff.2]
    .rfl
    .intro x hx;rw[(mem_replicate.1 hx).2];simp
   rw[e3,e4];simp only[Bu];have e5:kQ J 0 l vs s.t=kQ (λ_=>true) 0 l vs s.t:=DI l 0 vs s.t λk hk=>by rw[lR];exact hall k hk
   have e6:oJ J b hf=top b hf:=by
    cases hf with
    |nil=>rfl
    |cons q r=>
     simp only[oJ,top];rw[eM];have:=(VO q (by
      have:q::r=aUe:=by simpa using aOs
      rw[<-this];simp)).2
     exact hall _ (by omega)
   have e7:vB J false fl (top b hf)=vB (λk=>decide (k<m)) false fl (top b hf):=by
    have:J=λk=>decide (k<m):=by
     funext k;by_cases hk:k<m
     .rw [hall k (by omega)];simp[hk]
     .rw [hJm k (by omega)];simp[hk]
    rw[this]
   rw[e5,e6,e7];exact hK
  .left;have hop:=aE aQi;have hpre:∀e∈pre l[m],J e=true:=by
    rcases hor with h|⟨op,hop',h⟩
    .exact λe he=>h e (Jc hfw hop e he)
    .rw [hop]at hop';obtain rfl:=cX hop';exact h
   have e1:=aUb hop hJ' hJm hpre;have:=Tv (λk=> !J k) (wJ l m) [] hK;rw[eE,<-e1]at this;exact this
  .right;have hop:=aE aQi;have hall:∀i,i<m->J i=true:=by
    rcases hor with h|⟨op,hop',h⟩
    .exact h
    .exact aHa htl hop' hJ' h
   refine⟨htl,hall,?_⟩;have hJf:J=λk=>decide (k<m):=by
    funext k;by_cases hk:k<m
    .rw [hall k hk];simp[hk]
    .rw [hJm k (by omega)];simp[hk]
   have e6:oJ J b hf=top b hf:=by
    cases hf with
    |nil=>rfl
    |cons q r=>
     simp only[oJ,top];rw[eM];have:=(VO q (by
      have:q::r=aUe:=by simpa using aOs
      rw[<-this];simp)).2
     exact hall _ (by omega)
   rw[e6,hJf];exact hK
def Xi{P:Program}[aG P]{l:List Oper}{t:List AV}{b:List aI}{fl:List (Nat×Nat×List AV)}{K:AS->Prop}{i:Nat}{vs:List AV}{h:List (Nat×List aI)}{t':List AV}{o':List aI}(ht:kQ (λ_=>true) 0 l vs t=t')(ho:vB (λk=>decide (k<i)) false fl (top b h)=o')(hk:K ⟨t',o'⟩):pX P l t b fl K i [] vs h:=by simp only[pX,ht,ho];exact hk
def KH{P:Program}[aG P]{l:List Oper}{t:List AV}{b:List aI}{fl:List (Nat×Nat×List AV)}{K:AS->Prop}{i:Nat}{op:Oper}{r:List Oper}{vs:List AV}{h:List (Nat×List aI)}
  {pr:List Nat} {m:List AV} {om:List aI} (hnf:(fl.all λq=>decide (q.1≠i))=true) (hpr:pre op=pr) (hlt:(pr.all λe=>decide (e<i))=true) (hm:rU i pr 0 l vs t=m) (ho:vB (xU pr) true fl (oJ (xU pr) b h)=om) (hq:qO op.op ⟨m,om⟩=true)
  (ha:uP P l op ⟨m,om⟩ λs'=>(Gt pr h=true\/s'.o.length=om.length)/\pX P l t b fl K (i+1) r (vs++[Hy op s']) (if s'.o.length=om.length then h else(i,vB Hu true fl s'.o)::h)):pX P l t b fl K i (op::r) vs h:=by
 subst hpr;subst hm;subst ho;simp only[pX];simp only[tT]at ha;exact .inr (.inl ⟨λq hq=>by have:=fW.1 hnf q hq;simpa using this,hq,λe he=>by have:=fW.1 hlt e he;simpa using this,ha⟩)
def iy{P:Program}[aG P]{l:List Oper}{t:List AV}{b:List aI}{fl:List (Nat×Nat×List AV)}{K:AS->Prop}{i:Nat}{op:Oper}{r:List Oper}{vs:List AV}{h:List (Nat×List aI)}{q:Nat×Nat×List AV}{T:TypeId}
  (hq:fl.find? (λq=>q.1 == i)=some q) (hg:op.guard=none) (hT:op.op= .alloc T) (hz:sS P T=some q.2.2) (hlt:((pre op).all λe=>decide (e<i))=true) (hd:pX P l t b fl K (i+1) r (vs++[.ptr q.2.1 1 0 0]) h):pX P l t b fl K i (op::r) vs h:=by
 simp only[pX];refine .inl ⟨q,pN hq,by have:=FA hq;simpa using this,hg,⟨T,hT,hz⟩,λe he=>by have:=fW.1 hlt e he;simpa using this,hd⟩
def Ou{P:Program}[aG P]{l:List Oper}{t:List AV}{b:List aI}{fl:List (Nat×Nat×List AV)}{K:AS->Prop}{i:Nat}{op:Oper}{r:List Oper}{vs:List AV}{h:List (Nat×List aI)}{z:List Nat}
  (hr:zV l i=true) (hz:wJ l i=z) (ha:EN (λz=>Bu P l K (left ((range l.length).map (jz i z))) ((range l.length).map (jz i z)) ⟨kQ (jz i z) 0 l vs t,vB (jz i z) false fl (oJ (jz i z) b h)⟩) [] z):pX P l t b fl K i (op::r) vs h:=by
 subst hz;simp only[pX];exact .inr (.inr (.inl ⟨hr,ha⟩))
def Xj{P:Program}[aG P]{l:List Oper}{t t':List AV}{b b':List aI}{fl:List (Nat×Nat×List AV)}{K:AS->Prop}{i:Nat}{op:Oper}{r:List Oper}{vs:List AV}{h:List (Nat×List aI)}
  (htl:(zV l i&&FN l i)=true) (ht:kQ (λk=>decide (k<i)) 0 l vs t=t') (ho:vB (λk=>decide (k<i)) false fl (top b h)=b') (ha:mH P l (op::r) ⟨t',b'⟩ K):pX P l t b fl K i (op::r) vs h:=by
 subst ht;subst ho;simp only[eK]at htl;simp only[pX];exact .inr (.inr (.inr ⟨htl.1,htl.2,ha⟩))
def PT(J:Nat->Bool):Nat->List Oper->List Bool
 |_,[]=>[]
 |j,_::r=>J j::PT J (j+1) r
def Xk{J:Nat->Bool}:∀(l:List Oper) (j i:Nat),(PT J j l)[i]? =if i<l.length then some (J (j+i))else none
 |[],_,_=>by simp[PT]
 |_::r,j,0=>by simp[PT]
 |_::r,j,i+1=>by simp only[PT,AE,eL];rw[Xk r (j+1) i,show j+1+i=j+(i+1)by omega];simp
def aHe(J:Nat->Bool)(l:List Oper):(range l.length).map J=PT J 0 l:=by
 refine CA λi=> ?_
 rw[Xk,vA];by_cases hi:i<l.length
 .simp [hi]
 .simp [hi]
def Tx(d:List Bool):Nat->List Oper->List Nat
 |_,[]=>[]
 |i,op::r=>if (!d.getD i false&&(pre op).all λe=>d.getD e false)=true then i::Tx d (i+1) r else Tx d (i+1) r
def Jg{d:List Bool}:∀{l:List Oper} {k i:Nat},i∈Tx d k l↔∃j op,l[j]? =some op/\i=k+j/\(!d.getD i false&&(pre op).all λe=>d.getD e false)=true
 |[],k,i=>by simp[Tx]
 |op::r,k,i=>by
  simp only[Tx];constructor
  .intro h;by_cases hc:(!d.getD k false&&(pre op).all λe=>d.getD e false)=true
   .rw [eM hc]at h;rcases mC.1 h with rfl|h
    .exact ⟨0,op,rfl,rfl,hc⟩
    .obtain ⟨j,o,h1,h2,h3⟩:=Jg.1 h;exact⟨j+1,o,by simpa using h1,by omega,h3⟩
   .rw [eC hc]at h;obtain⟨j,o,h1,h2,h3⟩:=Jg.1 h;exact⟨j+1,o,by simpa using h1,by omega,h3⟩
  .rintro ⟨j,o,h1,rfl,h3⟩;cases j with
   |zero=>simp at h1;subst h1;rw[sE]at h3⊢;rw[eM h3];simp
   |succ j=>
    have:=Jg.2 ⟨j,o,by simpa using h1,show k+(j+1)=k+1+j by omega,h3⟩;split
    .exact Cd _ this
    .exact this
def Xl{P:Program}[aG P]{l:List Oper}{K:AS->Prop}{n:Nat}{d:List Bool}{s:AS}{r':List Nat}(h:yE P l K n d s r'):∀r:List Nat,(∀i∈r,i∈r')->yE P l K n d s r
 |[],_=>by simp only[yE]
 |i::r,hs=>by simp only[yE];exact⟨Oo h i (hs i (by simp)),Xl h r λj hj=>hs j (by simp[hj])⟩
def go_all{P:Program}[aG P]{l:List Oper}{K:AS->Prop}{n:Nat}{d:List Bool}{s:AS}{rl:List Nat}(hr:Tx d 0 l=rl)(h:yE P l K n d s rl):Bu P l K (n+1) d s:=by
 simp only[Bu];refine Xl h _ λi hi=> ?_
 rw[<-hr,Jg];unfold YF at hi;rw[FF]at hi;obtain⟨h1,h2⟩:=hi;have hlt:i<l.length:=by simpa using h1
 have hop:=aE hlt;have hp:pW l i=pre l[i]:=by simp[pW,hop]
 exact⟨i,l[i],hop,by omega,by rw[<-hp];exact h2⟩
def go_end{P:Program}[aG P]{l:List Oper}{K:AS->Prop}{d:List Bool}{s:AS}(h:K s):Bu P l K 0 d s:=by simpa only[Bu]using h
def go_one{P:Program}[aG P]{l:List Oper}{K:AS->Prop}{n:Nat}{d d':List Bool}{s:AS}{i:Nat}{op:Oper}(hop:l[i]? =some op)(hd:d.set i true=d')(h:mH P l [op] s λs'=>Bu P l K n d' s'):yE P l K n d s [i]:=by subst hd;simp only[yE];exact⟨⟨op,hop,h⟩,trivial⟩
def sy{P:Program}[aG P]{l:List Oper}{K:AS->Prop}{n:Nat}{d:List Bool}{s:AS}{i j:Nat}{r:List Nat}(h1:yE P l K n d s [i])(h2:yE P l K n d s (j::r)):yE P l K n d s (i::j::r):=by simp only[yE]at h1 h2⊢;exact⟨h1.1,h2⟩
def sx{F:List Nat->Prop}{acc:List Nat}{z:Nat}{r:List Nat}(h1:EN F acc r)(h2:EN F (z::acc) r):EN F acc (z::r):=⟨h1,h2⟩
def go_sub{P:Program}[aG P]{l:List Oper}{t t':List AV}{b o':List aI}{fl:List (Nat×Nat×List AV)}{K:AS->Prop}{i n:Nat}{vs:List AV}{h:List (Nat×List aI)}{acc:List Nat}{d:List Bool}(hd:PT (jz i acc) 0 l=d)(hn:left d=n)(ht:kQ (jz i acc) 0 l vs t=t')(ho:vB (jz i acc) false fl (oJ (jz i acc) b h)=o')
  (ha:Bu P l K n d ⟨t',o'⟩):EN (λz=>Bu P l K (left ((range l.length).map (jz i z))) ((range l.length).map (jz i z)) ⟨kQ (jz i z) 0 l vs t,vB (jz i z) false fl (oJ (jz i z) b h)⟩) acc []:=by
 subst hn;subst ht;subst ho;subst hd;simp only[EN,aHe];exact ha
def zW{P:Program}[aG P]{all:List Oper}{K1 K2:AS->Prop}(hk:∀s',K1 s'->K2 s'):∀(r:List Oper) (s:AS),mH P all r s K1->mH P all r s K2
 |[],s,h=>by simp only[mH]at h⊢;exact hk s h
 |o::r,s,h=>by
  simp only[mH]at h⊢;split at h
  .rcases h with h|h|h
   .exact .inl (YD (zW hk r) h)
   .exact .inr (.inl (ib (zW hk r) h))
   .exact .inr (.inr (Xc (zW hk r) h))
  .split at h
   .exact ⟨λe=>(h.1 e).imp (YD (zW hk r)) (Or.imp (ib (zW hk r)) (Xc (zW hk r))),λe=>zW hk r _ (h.2 e)⟩
   .exact h.elim
mutual
theorem ja{P:Program}[aG P]{l:List Oper}{K1 K2:AS->Prop}(hk:∀s',K1 s'->K2 s'):∀(n:Nat) (d:List Bool) (s:AS),Bu P l K1 n d s->Bu P l K2 n d s
 |0,d,s,h=>by simp only[Bu]at h⊢;exact hk s h
 |n+1,d,s,h=>by simp only[Bu]at h⊢;exact Xm hk n d s _ h
theorem Xm{P:Program}[aG P]{l:List Oper}{K1 K2:AS->Prop}(hk:∀s',K1 s'->K2 s'):∀(n:Nat) (d:List Bool) (s:AS) (r:List Nat),yE P l K1 n d s r->yE P l K2 n d s r
 |n,d,s,[],h=>by simp only[yE]
 |n,d,s,i::r,h=>by simp only[yE]at h⊢;obtain⟨⟨op,h1,h2⟩,h3⟩:=h;exact⟨⟨op,h1,zW (λs'=>ja hk n _ s') _ _ h2⟩,Xm hk n d s r h3⟩
end
def Ty{F1 F2:List Nat->Prop}(hk:∀z,F1 z->F2 z):∀(z acc:List Nat),EN F1 acc z->EN F2 acc z
 |[],acc,h=>hk acc h
 |x::z,acc,h=>⟨Ty hk z acc h.1,Ty hk z (x::acc) h.2⟩
def FO{P:Program}[aG P]{l:List Oper}{t:List AV}{b:List aI}{fl:List (Nat×Nat×List AV)}{K:AS->Prop}{i:Nat}{op:Oper}{r:List Oper}{vs:List AV}{h:List (Nat×List aI)}{z:List Nat}{s1:AS}
  (hr:zV l i=true) (hz:wJ l i=z) (ha:EN (λz=>Bu P l (λs'=>s'=s1) (left ((range l.length).map (jz i z))) ((range l.length).map (jz i z)) ⟨kQ (jz i z) 0 l vs t,vB (jz i z) false fl (oJ (jz i z) b h)⟩) [] z) (hk:K s1):pX P l t b fl K i (op::r) vs h:=
 Ou hr hz (Ty (λz h=>ja (λs' e=>by subst e;exact hk) _ _ _ h) _ _ ha)
def Tz(P:Program):Nat->Nat->List Oper->List (Nat×Nat×List AV)
 |_,_,[]=>[]
 |i,n,op::r=>match op.op with
  | .alloc T=>match sS P T with
   |some z=>(i,n,z)::Tz P (i+1) (n+1) r
   |none=>Tz P (i+1) n r
  |_=>Tz P (i+1) n r
attribute [irreducible] pX
def bP(t:List AV):List (Nat×AV)->List AV
 |[]=>t
 |p::r=>bP (t.set p.1 p.2) r
def aT{P:Program}[aG P]{c:Code}{s:AS}{Q:Exit->AS->Prop}{ι:Type}(inv:List AV->List aI->ι->AS)(μ:ι->Nat)(i:ι)(h0:mZ s (inv s.t s.o i))(h:∀i,∀K:AS->Prop,(∀s' j,mZ s' (inv s.t s.o j)->μ j<μ i->K s')->qA P c (inv s.t s.o i) (zA K Q)):qA P (.loop c) s Q:=aF0 (inv s.t s.o) μ i h0 h
attribute [irreducible] EN
attribute [simp] PT Tx jz left vB flv Hu Tz pre aHb rU BR kQ oJ top Gt xU Hy bP
def aCr{P:Program}[aG P]{all r:List Oper}{o:Oper}{s:AS}{K:AS->Prop}{j:Nat}{want:Bool}(hg:o.guard=some (j,want))(hb:qN all s j want= .bool (!want))(h:mH P all r (s.put o.dst (.iL [])) K):mH P all (o::r) s K:=by unfold mH;rw[hg];dsimp only;rw[hb];exact⟨λhn=>(by cases want<;>cases hn),λ_=>h⟩
def jb{α:Type}{l:List α}{i:Nat}{x:α}(h:l[i]? =some x):l.set i x=l:=by obtain⟨hi,rfl⟩:=cU.1 h;exact set_getElem_self hi
def H7{P:Program}[aG P]{all r:List Oper}{o:Oper}{s:AS}{K:AS->Prop}{j d:Nat}{want b:Bool}(hg:o.guard=some (j,want))(hd:(all[j]?).bind (·.dst)=some d)(hb:s.t[d]? =some (.bool b))
  (h1:b=true->mH P all (o::r) ⟨s.t.set d (.bool true),s.o⟩ K) (h2:b=false->mH P all (o::r) ⟨s.t.set d (.bool false),s.o⟩ K):mH P all (o::r) s K:=by
 cases b
 .have:=h2 rfl;rw[jb hb]at this;exact this
 .have:=h1 rfl;rw[jb hb]at this;exact this
def wR{α:Type}(f:α->Bool)(l:List α):Int:=if l.any f=true then(l.findIdx f:Nat)else -1
def Cb{α:Type}{f:α->Bool}{l:List α}{k:Nat}(h:k<l.length)(hf:f l[k]=true)(hn:∀x∈l.take k,f x=false):wR f l=k:=by
 unfold wR;rw[eM (any_eq_true.2 ⟨_,gR h,hf⟩)];have:l.findIdx f=k:=by rw[findIdx_eq h];refine⟨hf,λj hj=> ?_⟩;exact hn _ (mem_take_iff_getElem.2 ⟨j,by omega,rfl⟩)
 rw[this]
def wI{α:Type}{f:α->Bool}{l:List α}(hn:∀x∈l,f x=false):wR f l= -1:=by unfold wR;rw[eC];intro h;obtain⟨x,hx,hf⟩:=any_eq_true.1 h;rw[hn x hx]at hf;cases hf
def Hz{α:Type}(f:α->Bool)(l:List α):decide (0<=wR f l)=l.any f:=by unfold wR;cases h:l.any f<;>simp
def fB{α:Type}{p:α->Prop}{l:List α}{k:Nat}(h:k<l.length)(ha:∀x∈l.take k,p x)(hk:p l[k]):∀x∈l.take (k+1),p x:=by
 rw[fN h];intro x hx;rcases fR.1 hx with hx|hx
 .exact ha x hx
 .rw [mS.1 hx];exact hk
def nS{α:Type}{p:α->Prop}{l:List α}{k:Nat}(hk:l.length<=k)(ha:∀x∈l.take k,p x):∀x∈l,p x:=by
 rwa[eN hk]at ha
open Go.ChangeShapes Go.WideShapes Go.ChangeAt Go.RowKit
inductive Sh
  | int (k:IntKind)
  | bool
  | str
  | sl (n:Nat) (row:List Sh)
mutual
def Fits:Sh->AV->Prop
 | .int k,.int k' n=>k'=k/\(Lit.int k n).wf=true
 | .bool,.bool _=>True
 | .str,.str s=>s.length<=maxLen
 | .sl n row,.sl g n' rows=>g= .view/\n'=n/\rows.length<=maxLen/\∀r∈rows,sI row r
 |_,_=>False
def sI:List Sh->List AV->Prop
 |[],[]=>True
 |s::ss,x::xs=>Fits s x/\sI ss xs
 |_,_=>False
end
def Mf:∀{ss tt:List Sh} {xs ys:List AV},sI ss xs->sI tt ys->sI (ss++tt) (xs++ys)
 |[],_,[],_,_,h=>h
 |s::ss,_,x::xs,_,h,h'=>by simp only[sI,cW]at h⊢;exact⟨h.1,Mf h.2 h'⟩
 |[],_,_::_,_,h,_=>h.elim
 |_::_,_,[],_,h,_=>h.elim
def shF(sh:TypeId->Option (List Sh))(P:Program):List Field->Nat->Option (List Sh)
 |[],_=>some []
 |x::xs,o=>if x.offset=o then match sh x.type with
   |some a=>if a.length=P.cellsOf x.type then match shF sh P xs (o+a.length)with
     |some b=>some (a++b)
     |none=>none
    else none
   |none=>none
  else none
def shC(P:Program):Nat->TypeId->Option (List Sh)
 |0,_=>none
 |f+1,t=>match P.underlying t with
  |some .bool=>some [.bool]
  |some (.int k)=>some [.int k]
  |some .string=>some [.str]
  |some (.slice e)=>match shC P f e with
   |some row=>if row.length=P.cellsOf e/\0<row.length then some [.sl row.length row]else none
   |none=>none
  |some (.struct fs)=>match shF (shC P f) P fs.toList 0 with
   |some r=>if r.length=P.cellsOf t then some r else none
   |none=>none
  |_=>none
def PM{α:Type}{p:Nat->α->Prop}:∀(n:Nat),(∀i,i<n->∃x,p i x)->∃l:List α,l.length=n/\∀i x,l[i]? =some x->p i x
 |0,_=>⟨[],rfl,λi x h=>by simp at h⟩
 |n+1,h=>by
  obtain⟨l,hl,hp⟩:=PM n (λi hi=>h i (by omega));obtain⟨x,hx⟩:=h n (by omega);refine⟨l++[x],by simp[hl],λi y hy=> ?_⟩;by_cases hi:i<l.length
  .rw [oA hi]at hy;exact hp i y hy
  .rw [lO (by omega)]at hy;have:i-l.length=0:=by
    cases hk:i-l.length with
    |zero=>rfl
    |succ k=>rw[hk]at hy;simp at hy
   rw[this]at hy;simp at hy;subst hy;have:i=n:=by omega
   subst this;exact hx
def aOc{w:World}{E:Env}{b n:Nat}:∀(rows:List (List AV)) (off:Nat),
  (∀j r,rows[j]? =some r->∃cs:List Value,cs.length=n/\dB w b (off+j*n) cs/\(∀x∈cs,x.oneCell'=true)/\Rc w E r cs [])->Rr w E rows b off n []
 |[],_,_=>by simp[Rr]
 |r::rs,off,h=>by obtain⟨cs,h1,h2,h3,h4⟩:=h 0 r rfl;refine⟨cs,[],[],h1,by simpa using h2,h3,h4,aOc rs (off+n) λj r hj=> ?_,rfl⟩;obtain⟨cs,h1,h2,h3,h4⟩:=h (j+1) r (by simpa using hj);exact⟨cs,h1,by rw[rK,Nat.one_mul,show off+(j*n+n)=off+n+j*n by omega]at h2;exact h2,h3,h4⟩
section
variable{H:Type}{enc:TypeId × Value -> H}{P:Program}[aG P]{w:World}{spare:Nat -> Bool}{held:Bool}
def Reads(enc:TypeId×Value->H)(P:Program)(w:World)(spare:Nat->Bool)(held:Bool)(t:TypeId)(ss:List Sh):Prop:=
 ∀fuel cs x,DataW.trod enc P w 0 spare held fuel t cs=some x->∃WV,sI ss WV/\Rc w (qM w) WV cs []/\∀c∈cs,c.oneCell'=true
def Mg{sh:TypeId->Option (List Sh)}(ih:∀t ss,sh t=some ss->Reads enc P w spare held t ss){n:Nat}{cs:List Value}:
  ∀(fs:List Field) (o:Nat) (rs:List Sh),shF sh P fs o=some rs->(∀f∈fs,∃y,DataW.trod enc P w 0 spare held n f.type ((cs.drop f.offset).take (P.cellsOf f.type))=some y)->
   ∃WV,sI rs WV/\Rc w (qM w) WV ((cs.drop o).take rs.length) []/\∀c∈(cs.drop o).take rs.length,c.oneCell'=true
 |[],o,rs,h,_=>by simp only[shF,eI]at h;subst h;exact⟨[],by simp[sI],by simp[Rc],by simp⟩
 |f::fs,o,rs,h,hf=>by
  simp only[shF]at h;split at h
  .rename_i ho;split at h
   .rename_i a ha;split at h
    .rename_i hl;split at h
     .rename_i b hb;obtain rfl:=cX h;obtain⟨y,hy⟩:=hf f (by simp);obtain⟨x1,h1,h2,h3⟩:=ih _ _ ha _ _ _ hy;obtain⟨x2,h4,h5,h6⟩:=Mg ih fs _ _ hb λf hf'=>hf f (by simp[hf'])
      rw[ho,<-hl]at h2 h3;have e:(cs.drop o).take (a++b).length=(cs.drop o).take a.length++(cs.drop (o+a.length)).take b.length:=by rw[eR,take_add,Bk]
      refine⟨x1++x2,Mf h1 h4,by rw[e];exact mJ h2 h5,λc hc=> ?_⟩;rw[e,fR]at hc;exact hc.elim (h3 c) (h6 c)
     .cases h
    .cases h
   .cases h
  .cases h
def reads:∀(f:Nat) (t:TypeId) (ss:List Sh),shC P f t=some ss->Reads enc P w spare held t ss
 |0,_,_,h=>by simp[shC]at h
 |f+1,t,ss,h=>by
  intro fuel cs x hx;unfold shC at h;split at h
  .rename_i ht;obtain rfl:=cX h;obtain⟨b,rfl,_⟩:=DataW.trod_bool ht hx;exact⟨[.bool b],by simp[sI,Fits],by simp[Rc,R],by simp[Value.oneCell']⟩
  .rename_i k ht;obtain rfl:=cX h;obtain⟨n,rfl,_,hw⟩:=DataW.trod_int ht hx;exact⟨[.int k n],by simp[sI,Fits,hw],by simp[Rc,R],by simp[Value.oneCell']⟩
  .rename_i ht;obtain rfl:=cX h;obtain⟨s,rfl,_,hw⟩:=DataW.trod_string ht hx;exact⟨[.str s.data.toList],by simpa [sI,Fits]using hw,by simp[Rc,R],by simp[Value.oneCell']⟩
  .rename_i e ht;split at h
   .rename_i row hrow;split at h
    .rename_i hc;obtain rfl:=cX h;have ih:=reads f e row hrow;rcases DataW.trod_slice ht hx with⟨rfl,_⟩|⟨a,len,cap,elems,rest,n,_,rfl,_,_,hlc,hcm,dF,hel,_,_⟩
     .exact ⟨[.sl .view row.length []],by simp[sI,Fits],by simp[Rc,R,maxLen],by simp[Value.oneCell']⟩
     .rw [<-hc.1]at hel;have bu:∀i,i<len->∃r:List AV,sI row r/\∃cs,w.cells? 0 (a.add (i*row.length)) row.length=some cs/\(∀x∈cs,x.oneCell'=true)/\Rc w (qM w) r cs []:=by intro i hi;have h1:=hel i hi;rw[aE (by omega)]at h1;obtain⟨cs,hcs,htr⟩:=Option.bind_eq_some_iff.1 h1;obtain⟨r,h2,h3,h4⟩:=ih _ _ _ htr;exact⟨r,h2,cs,hcs,h4,h3⟩
      obtain⟨rows,hrl,hrp⟩:=PM len bu;refine⟨[.sl .view row.length rows],?_,?_,by simp[Value.oneCell']⟩
      .simp only[sI,Fits,pS,true_and];refine⟨by omega,λr hr=> ?_⟩;obtain⟨i,hi⟩:=getElem?_of_mem hr;exact(hrp i r hi).1
      .simp only[Rc];refine⟨[],[],?_,rfl,rfl⟩;simp only[R];refine .inr ⟨some a,cap,by rw[hrl],⟨by omega,by omega⟩,.inr (.inr ⟨by simp,trivial,?_⟩)⟩;by_cases hl0:len=0
       .exact .inl (AF.1 (by omega))
       right;have h0:rows[0]? =some rows[0]:=aE (by omega);obtain⟨_,cs0,aP1,_⟩:=hrp 0 _ h0;have hcell:=(World.cells?_some aP1).2.2 0 hc.2;have bAj:=(World.cells?_some aP1).2.1;have aOd:a.spot=none:=by
        have:w.cell? a=cs0[0]?:=by simpa [Addr.add]using hcell
        rw[aE (by omega)]at this;unfold World.cell? at this;split at this
        .split at this
         .cases this
         .rename_i hs;simpa using hs
        .cases this
       have aK1:a.block<w.heap.size:=by have:=World.cells?_block aP1 hc.2;unfold Addr.add at this;split at this<;>exact this
       obtain⟨ab,ao,asp⟩:=a;simp only at aOd aK1;subst aOd;refine⟨ab,ao,rfl,aK1,aOc rows ao λj r hj=> ?_⟩;obtain⟨_,cs,hcs,h1,hR⟩:=hrp j r hj;have hs:=World.cells?_some hcs;refine⟨cs,hs.2.1,λk v hv=> ?_,h1,?_⟩
       .have hk:k<row.length:=by have:=(cU.1 hv).1;omega
        have:=hs.2.2 k hk;rw[hv]at this;rw[<-this];congr 1;unfold Addr.add;split<;>split<;>simp_all<;>omega
       .exact gQ (w:=w) (w':=w) (E:=qM w) ⟨λb hb=>⟨hb,rfl⟩,λ_ h=>trivial,λ_ _ _ h=>by exact h.elim,λ_ _ _ h=>by exact h.elim,λ_ _ _ _ _ h=>by exact h.elim⟩ _ _ _ (by simp) hR
    .cases h
   .cases h
  .rename_i fs ht;split at h
   .rename_i r hr;split at h
    .rename_i hc;obtain rfl:=cX h;obtain⟨xs,n,_,_,IU,hxl,RD⟩:=DataW.trod_struct ht hx;obtain⟨WV,h1,h2,h3⟩:=Mg (enc:=enc) (w:=w) (spare:=spare) (held:=held) (n:=n) (cs:=cs) (reads f) fs.toList 0 _ hr λfl hfl=>by
      obtain⟨i,hi⟩:=getElem?_of_mem hfl;have:=RD i fl (by simpa using hi);have hlt:=(cU.1 hi).1;simp at hlt;rw[aE (by omega)]at this;exact⟨_,this⟩
     rw[DP,eN (by omega)]at h2 h3;exact⟨WV,h1,h2,h3⟩
    .cases h
   .cases h
  .cases h
inductive ShV
  | one (s:Sh)
  | agg (row:List Sh)
def aF1:ShV->AV->Prop
 | .one s,x=>Fits s x
 | .agg row,.agg c=>sI row c
 |_,_=>False
def Oe:List ShV->List AV->Prop
 |[],[]=>True
 |s::ss,x::xs=>aF1 s x/\Oe ss xs
 |_,_=>False
def shV(P:Program)(f:Nat)(t:TypeId):Option ShV:=match P.underlying t with
 |some (.struct _)=>(shC P f t).map .agg
 |some .bool|some (.int _)|some .string|some (.slice _)=>match shC P f t with
  |some [s]=>some (.one s)
  |_=>none
 |_=>none
def aF2(P:Program)(f:Nat):List TypeId->Option (List ShV)
 |[]=>some []
 |t::ts=>match shV P f t,aF2 P f ts with
  |some s,some ss=>some (s::ss)
  |_,_=>none
def aCc{v:Value}(h:∀cs,v≠ .agg cs):v.cells=#[v]:=by cases v<;>first|rfl|exact absurd rfl (h _)
def aP2{base:Nat}{f:Nat}{t:TypeId}{s:ShV}(h:shV P f t=some s){v:Value}{d:DataW H}{ps:List MemPlace}(rP:Value.okWide P w .any base t v)
  (hT:DataW.Trod enc P w 0 spare held t v d ps):∃av,aF1 s av/\R w (qM w) av v []:=by
 obtain⟨fuel,hT⟩:=hT;unfold shV at h;have one:(∀cs,v≠ .agg cs)->(match shC P f t with|some [s]=>some (ShV.one s)|_=>none)=some s->∃av,aF1 s av/\R w (qM w) av v []:=by
  intro hv h;split at h
  .rename_i s1 hs;obtain rfl:=cX h;obtain⟨WV,h1,h2,_⟩:=reads f t _ hs _ _ _ hT;rw[aCc hv]at h2;cases WV with
   |nil=>exact h1.elim
   |cons x xs=>
    cases xs with
    |nil=>simp only[Rc]at h2;obtain⟨f1,f2,hr,rfl,e⟩:=h2;simp only[eE]at e;subst e;simp only[sI]at h1;exact⟨x,h1.1,hr⟩
    |cons y ys=>simp[sI]at h1
  .cases h
 split at h
 .rename_i fs ht;obtain⟨ss,hs,rfl⟩:=xF.1 h;obtain⟨cs,rfl,_⟩:=okWide_struct ht rP;obtain⟨WV,h1,h2,h3⟩:=reads f t _ hs _ _ _ hT;exact⟨.agg WV,h1,by simp only[R];exact⟨cs.toList,by simp,h3,h2⟩⟩
 .rename_i ht;exact one (λcs e=>by subst e;simp[Value.okWide,ht,Cell.okWide,Cell.ok]at rP) h
 .rename_i ht;exact one (λcs e=>by subst e;simp[Value.okWide,ht,Cell.okWide,Cell.ok]at rP) h
 .rename_i ht;exact one (λcs e=>by subst e;simp[Value.okWide,ht,Cell.okWide,Cell.ok]at rP) h
 .rename_i ht;exact one (λcs e=>by subst e;simp[Value.okWide,ht,Cell.okWide,Cell.ok]at rP) h
 .cases h
def aAr{base:Nat}{f:Nat}:∀{ts:List TypeId} {ss:List ShV},aF2 P f ts=some ss->∀{vs:List Value} {ds:List (DataW H)} {ps:List MemPlace},
  (∀(j:Nat) t v,ts[j]? =some t->vs[j]? =some v->Value.okWide P w .any base t v)->DataW.TrodAll enc P w 0 spare held ts vs ds ps->∃WV,Oe ss WV/\Rc w (qM w) WV vs []
 |[],ss,h,[],_,_,_,_=>by simp only[aF2,eI]at h;subst h;exact⟨[],trivial,by simp[Rc]⟩
 |t::ts,ss,h,v::vs,d::ds,ps,rP,hT=>by
  simp only[aF2]at h;split at h
  .rename_i s ss' h1 h2;obtain rfl:=cX h;obtain⟨p,q,ht,hr,_⟩:=hT;obtain⟨x,hx,hR⟩:=aP2 h1 (rP 0 t v rfl rfl) ht;obtain⟨xs,hxs,hRs⟩:=aAr h2 (λj t v h1 h2=>rP (j+1) t v (by simpa using h1) (by simpa using h2)) hr;exact⟨x::xs,⟨hx,hxs⟩,by simp only[Rc];exact⟨[],[],hR,hRs,rfl⟩⟩
  .cases h
 |[],_,_,_::_,_,_,_,hT=>by simp[DataW.TrodAll]at hT
 |_::_,_,_,[],_,_,_,hT=>by simp[DataW.TrodAll]at hT
 |_::_,_,_,_::_,[],_,_,hT=>by simp[DataW.TrodAll]at hT
def JK(hl:laidOutB P=true){W W':World}(hb:Below W.heap.size W W'):∀{ts:List TypeId} {vs:List Value} {ds:List (DataW H)} {ps:List MemPlace},
  (∀t∈ts,P.readableRec t=true/\t<P.types.size)->DataW.TrodAll enc P W 0 (λ_=>true) true ts vs ds ps->(∀x∈ps,x.block<W.heap.size)->∀sp:Nat->Bool,(∀p∈ps,sp p.block=true)->
   DataW.TrodAll enc P W' 0 sp true ts vs ds ps
 |[],[],[],_,_,h,_,_,_=>h
 |t::ts,v::vs,d::ds,ps,hr,h,hlt,sp,hsp=>by
  obtain⟨p,q,h1,h2,rfl⟩:=h;refine⟨p,q,?_,?_,rfl⟩
  .exact WideElems.Trod_stays hl (hr t (by simp)).1 (hr t (by simp)).2 h1 (λx hx=>hb.same (hlt x (by simp[hx]))) (λx hx=>hsp x (by simp[hx]))
  .exact JK hl hb (λt ht=>hr t (by simp[ht])) h2 (λx hx=>hlt x (by simp[hx])) sp (λx hx=>hsp x (by simp[hx]))
 |[],_::_,_,_,_,h,_,_,_=>h.elim
 |[],[],_::_,_,_,h,_,_,_=>h.elim
 |_::_,[],_,_,_,h,_,_,_=>h.elim
 |_::_,_::_,[],_,_,h,_,_,_=>h.elim
end
def bz{α:Type}{row:List Sh}{e:α->List AV}{p:α->Prop}(h:∀r,sI row r->∃x,r=e x/\p x):∀rows:List (List AV),(∀r∈rows,sI row r)->∃l:List α,rows=l.map e/\∀x∈l,p x
 |[],_=>⟨[],rfl,by simp⟩
 |r::rs,hr=>by obtain⟨x,rfl,hx⟩:=h r (hr r (by simp));obtain⟨l,rfl,hl⟩:=bz h rs (λr h=>hr r (by simp[h]));exact⟨x::l,rfl,by simpa using⟨hx,hl⟩⟩
def aF3{r:List AV}(h:sI [] r):r=[]:=by
 cases r with
 |nil=>rfl
 |cons _ _=>exact h.elim
def fits_int{k:IntKind}{ss:List Sh}{r:List AV}(h:sI (.int k::ss) r):∃n r',r= .int k n::r'/\(k.min<=n/\n<=k.max)/\sI ss r':=by
 match r,h with
 |[],h=>exact h.elim
 | .int k' n::r',h=>obtain⟨⟨rfl,hw⟩,h2⟩:=h;exact⟨n,r',rfl,by simpa [Lit.wf]using hw,h2⟩
def aLg{n:Nat}{row ss:List Sh}{r:List AV}(h:sI (.sl n row::ss) r):∃rows r',r= .sl .view n rows::r'/\rows.length<=9223372036854775807/\(∀x∈rows,sI row x)/\sI ss r':=by
 match r,h with
 |[],h=>exact h.elim
 | .sl g n' rows::r',h=>obtain⟨⟨rfl,rfl,h1,h2⟩,h3⟩:=h;exact⟨rows,r',rfl,h1,h2,h3⟩
def aCd{r:List AV}(h:Oe [] r):r=[]:=by
 cases r with
 |nil=>rfl
 |cons _ _=>exact h.elim
def aCe{s:Sh}{ss:List ShV}{r:List AV}(h:Oe (.one s::ss) r):∃x r',r=x::r'/\sI [s] [x]/\Oe ss r':=by
 match r,h with
 |[],h=>exact h.elim
 |x::r',h=>exact⟨x,r',rfl,⟨h.1,trivial⟩,h.2⟩
def aF4{C:Checked}[T:aG C.prog]{f:FuncId}{fn:Func}{s:ChangeSpec}{fV eB handsOn again:Bool}{H:Type}{enc:TypeId×Value->H}{ss:List ShV}{fuel:Nat}{tb:TypeId}
  (hl:laidOutB C.prog=true) (aTz:∀t∈fn.params.toList,C.prog.readableRec t=true/\t<C.prog.types.size)
  (hsh:aF2 C.prog fuel fn.params.toList=some ss) (lI:fn.resultTypes=#[tb]) (hb:C.prog.underlying tb=some .bool) (aOe:s.vars=[])
  (hfn:∀ds:List (DataW H),ds.length=fn.params.toList.length->s.fn H ds={results:=[.lit (.bool true)],args:=ds})
  (rP:∀WV,Oe ss WV->Ok C.prog f WV (.bool true))
  {W:World} {base:Nat} {args:Array Value} {ds gs:List (DataW H)} {before:List MemPlace} (hT:aG.holds C.prog W)
  (hval:∀(j:Nat) t v,fn.params[j]? =some t->args[j]? =some v->Value.okWide C.prog W .any base t v)
  (hW:DataW.Whole enc C.prog fn.params.toList s.vars fV W args.toList ds gs before):
  Calls C.prog f args W λe W'=>∃v,e= .returned v/\s.post enc C.prog fn fV eB handsOn again W args v W':=by
 obtain⟨p,q,hA,hV,hpq,hz,hn⟩:=id hW;rw[aOe]at hV;obtain⟨rfl,rfl⟩:gs=[]/\q=[]:=by
  cases gs with
  |nil=>exact⟨rfl,hV⟩
  |cons _ _=>exact hV.elim
 rw[eE]at hpq;subst hpq;have dF:ds.length=fn.params.toList.length:=by
  have:∀(ts:List TypeId) (vs:List Value) (ds:List (DataW H)) ps,DataW.TrodAll enc C.prog W 0 (λ_=>true) true ts vs ds ps->ds.length=ts.length:=by
   intro ts;induction ts with
   |nil=>intro vs ds ps h;cases vs<;>cases ds<;>simp_all[DataW.TrodAll]
   |cons t ts ih=>intro vs ds ps h;cases vs<;>cases ds<;>simp_all[DataW.TrodAll];obtain⟨_,_,_,h,_⟩:=h;exact ih _ _ _ h
  exact this _ _ _ _ hA
 have aT1:=hfn ds dF;obtain⟨WV,aT2,hR⟩:=aAr hsh (λj t v h1 h2=>hval j t v (by simpa using h1) (by simpa using h2)) hA;have hc:=rP WV aT2 W args.toList hT hR;rw[show args.toList.toArray=args from rfl]at hc;refine hc.mono λe W' ⟨v,fp,he,hr,_,_,hsz,mI,BG⟩=>⟨v,he,?_⟩
 simp only[R]at hr;obtain⟨rfl,_⟩:=hr;have hbl:Below W.heap.size W W':=⟨BG.os,BG.tape,BG.output,hsz,mI⟩;have hlt:∀x∈before,x.block<W.heap.size:=λx hx=>hW.lt x hx
 have hsp:s.fn H (ds++[])={results:=[.lit (.bool true)],args:=ds}:=by rw[eE];exact aT1
 have hargs:∀sp:Nat->Bool,(∀p∈before,sp p.block=true)->DataW.TrodAll enc C.prog W' 0 sp true fn.params.toList args.toList (s.fn H (ds++[])).args before:=by intro sp h;rw[hsp];exact JK hl hbl aTz hA hlt sp h
 have hone:(Value.bool true).resultList fn.resultTypes.size=[.bool true]:=by rw[lI];rfl
 have aOf:∀(b:Nat) (sp:Nat->Bool) (hd:Bool),DataW.TrodAll enc C.prog W' b sp hd fn.resultTypes.toList ((Value.bool true).resultList fn.resultTypes.size) (s.fn H (ds++[])).results []:=by intro b sp hd;rw[hsp,hone,lI];exact⟨[],[],shut_bool hb true,rfl,rfl⟩
 have aF5:∀sp:Nat->Bool,DataW.TrodVars enc C.prog W' sp s.vars (s.fn H (ds++[])).vars []:=by intro sp;rw[hsp,aOe];rfl
 have hold:∀p∈before,(λb=>decide (b<W.heap.size)) p.block=true:=λp hp=>by simpa using hlt p hp
 refine⟨ds,[],before,[],before,[],hW,aOf _ _ _,hargs _ hold,aF5 _,World.keptBut_mono (λp hp=>hp.elim) (hbl.frame (λ_=>False)),λ_=> ?_⟩;refine⟨ok_one lI rfl (okWide_bool_mk hb true),_,_,([]++before)++[],⟨[]++before,[],trodAll_append (hargs _ (λ_ _=>rfl)) (aOf _ _ _),aF5 _,rfl,?_,?_⟩,?_⟩
 .intro b off hp;have hp':MemPlace.cell b off∈before:=by simpa using hp
  rw[hbl.frozen (p:=⟨b,off,none⟩) (hlt _ hp')];exact hz b off hp'
 .intro ha;simpa using hn ha
 .intro p hp _;simpa using hp
def Ga:Sh->AV->Prop
 | .int k,.int k' _=>k'=k
 | .bool,.bool _=>True
 | .str,.str _=>True
 |_,_=>False
def uV:List Sh->List AV->Prop
 |[],[]=>True
 |s::ss,x::xs=>Ga s x/\uV ss xs
 |_,_=>False
def zZ:∀{ss:List Sh} {xs:List AV},uV ss xs->xs.length=ss.length
 |[],[],_=>rfl
 |s::ss,x::xs,h=>by simp only[uV]at h;simp[zZ h.2]
 |[],_::_,h=>h.elim
 |_::_,[],h=>h.elim
def Ij:∀{ss tt:List Sh} {xs:List AV},uV (ss++tt) xs->uV ss (xs.take ss.length)/\uV tt (xs.drop ss.length)
 |[],_,xs,h=>by simpa [uV]using h
 |s::ss,tt,x::xs,h=>by simp only[cW,uV]at h;simp only[eL,eV,sX,uV];have:=Ij h.2;exact⟨⟨h.1,this.1⟩,this.2⟩
 |_::_,_,[],h=>h.elim
def DY(P:Program)(t:TypeId):Bool:=match P.underlying t with|some (.struct _)=>true|_=>false
def valOf(P:Program)(t:TypeId)(cs:List Value):Value:=if DY P t then .agg cs.toArray else cs.headD (.tuple #[])
def eqT(P:Program):Nat->TypeId->Bool
 |0,_=>false
 |f+1,t=>match P.underlying t with
  |some .bool|some (.int _)|some .string=>P.cellsOf t == 1
  |some (.struct fs)=> !P.stoodInHeld t&&fs.toList.all λx=>x.name != "_" &&eqT P f x.type
  |_=>false
def Qb{P:Program}{w:World}{f:Nat}{t:TypeId}(he:eqT P f t=true)(xs:List Value)(o:Nat)(h:P.cellsOf t=0\/o+P.cellsOf t<=xs.length):
  (part t xs.toArray o).run P w= .ok (valOf P t ((xs.drop o).take (P.cellsOf t))) w:=by
 cases f with
 |zero=>simp[eqT]at he
 |succ f=>
  unfold eqT at he;have one:∀d,P.underlying t=some d->(d= .bool\/(∃k,d= .int k)\/d= .string)->P.cellsOf t=1->(part t xs.toArray o).run P w= .ok (valOf P t ((xs.drop o).take (P.cellsOf t))) w:=by
   intro d hu hd h1;have hlt:o<xs.length:=by omega
   have e:(xs.drop o).take 1=[xs[o]]:=by rw[oY hlt,eV,gS]
   rw[h1,e];rcases hd with rfl|⟨k,rfl⟩|rfl<;>simp[part,isAgg,kO hu,valOf,DY,hu,hlt]
  split at he
  .rename_i hu;exact one _ hu (.inl rfl) (by simpa using he)
  .rename_i hu;exact one _ hu (.inr (.inl ⟨_,rfl⟩)) (by simpa using he)
  .rename_i hu;exact one _ hu (.inr (.inr rfl)) (by simpa using he)
  .rename_i fs hu;obtain⟨i,hi⟩:=info_of_underlying hu;have hl:xs.toArray.extract o (o+P.cellsOf t)=((xs.drop o).take (P.cellsOf t)).toArray:=by apply Array.toList_inj.1;rw[Array.toList_extract];simp[extract]
   simp[part,isAgg,kO hu,run_sizeOf w hi,valOf,DY,hu,hl]
  .cases he
section
variable{P:Program}
def GD{f:Nat}(ih:∀t ss,shC P f t=some ss->eqT P f t=true->∀c1 c2:List AV,uV ss c1->uV ss c2->∀d w,f<=d->∃b,(Op.equalIn d t (valOf P t (c1.map toV)) (valOf P t (c2.map toV))).run P w= .ok b w/\(b=true↔c1=c2))(c1 c2:List AV)(d:Nat)(w:World)(hd:f<=d):
  ∀(fs:List Field) (o:Nat) (rs:List Sh),shF (shC P f) P fs o=some rs->(fs.all λx=>x.name != "_" &&eqT P f x.type)=true->uV rs (c1.drop o)->uV rs (c2.drop o)->
   ∃b,(Op.eqFields d (c1.map toV).toArray (c2.map toV).toArray fs).run P w= .ok b w/\(b=true↔c1.drop o=c2.drop o)
 |[],o,rs,h,_,h1,h2=>by simp only[shF,eI]at h;subst h;refine⟨true,by simp[Op.eqFields],?_⟩;have e1:=zZ h1;have e2:=zZ h2;simp only[fL,AF]at e1 e2;simp[e1,e2]
 |x::fs,o,rs,h,ha,h1,h2=>by
  simp only[shF]at h;simp only[Cl,eK]at ha;split at h
  .rename_i ho;split at h
   .rename_i a hsa;split at h
    .rename_i hl;split at h
     .rename_i b hb;obtain rfl:=cX h;have s1:=Ij h1;have s2:=Ij h2;rw[Bk]at s1 s2;have n1:=zZ h1;have n2:=zZ h2;simp only[AN,eR]at n1 n2;obtain⟨b1,hr1,hi1⟩:=ih _ _ hsa ha.1.2 _ _ s1.1 s2.1 d w hd;obtain⟨b2,hr2,hi2⟩:=GD ih c1 c2 d w hd fs (o+a.length) b hb ha.2 s1.2 s2.2;have p1:=Qb (w:=w) ha.1.2 (c1.map toV) o (by rw[tE];omega);have p2:=Qb (w:=w) ha.1.2 (c2.map toV) o (by rw[tE];omega);rw[<-hl,<-map_drop,<-map_take]at p1 p2;have dz:x.name≠ "_" :=by simpa using ha.1.1
      simp only[Op.eqFields,dz,ne_eq,not_false_eq_true,eS,ho,pB,p1,p2,mT,hr1];have aQ2:c1.drop o=(c1.drop o).take a.length++c1.drop (o+a.length):=by rw[<-Bk,pC]
      have aQ3:c2.drop o=(c2.drop o).take a.length++c2.drop (o+a.length):=by rw[<-Bk,pC]
      have key:c1.drop o=c2.drop o↔((c1.drop o).take a.length=(c2.drop o).take a.length/\c1.drop (o+a.length)=c2.drop (o+a.length)):=by
       constructor
       .intro e;rw[e];refine⟨rfl,?_⟩;rw[<-Bk,<-Bk,e]
       .intro e;rw[aQ2,aQ3,e.1,e.2]
      cases b1 with
      |false=>exact⟨false,by simp,by simp only[cY,false_iff];intro e;exact absurd (hi1.2 (key.1 e).1) (by simp)⟩
      |true=>exact⟨b2,by simpa using hr2,by rw[hi2,key];exact⟨λe=>⟨hi1.1 rfl,e⟩,λe=>e.2⟩⟩
     .cases h
    .cases h
   .cases h
  .cases h
def aBg:∀(f:Nat) (t:TypeId) (ss:List Sh),shC P f t=some ss->eqT P f t=true->∀c1 c2:List AV,uV ss c1->uV ss c2->∀d w,f<=d->
  ∃b,(Op.equalIn d t (valOf P t (c1.map toV)) (valOf P t (c2.map toV))).run P w= .ok b w/\(b=true↔c1=c2)
 |0,_,_,h,_,_,_,_,_,_,_,_=>by simp[shC]at h
 |f+1,t,ss,h,he,c1,c2,h1,h2,d,w,hd=>by
  obtain⟨d,rfl⟩:∃d',d=d'+1:=⟨d-1,by omega⟩;unfold shC at h;unfold eqT at he;have one:∀s:Sh,ss=[s]->∃x y,c1=[x]/\c2=[y]/\Ga s x/\Ga s y:=by
   rintro s rfl;match c1,c2,h1,h2 with
   |[x],[y],h1,h2=>exact⟨x,y,rfl,rfl,h1.1,h2.1⟩
   |[],_,h1,_=>exact h1.elim
   |_::_::_,_,h1,_=>exact h1.2.elim
   |[_],[],_,h2=>exact h2.elim
   |[_],_::_::_,_,h2=>exact h2.2.elim
  split at h
  .rename_i hu;obtain⟨x,y,rfl,rfl,l1,l2⟩:=one _ (cX h).symm;cases x<;>simp only[Ga]at l1;cases y<;>simp only[Ga]at l2;rename_i p q;exact⟨p == q,by simp[valOf,DY,hu,toV,Go.run_equalIn_bool w d t p q hu],by simp⟩
  .rename_i k hu;obtain⟨x,y,rfl,rfl,l1,l2⟩:=one _ (cX h).symm;cases x<;>simp only[Ga]at l1;cases y<;>simp only[Ga]at l2;rename_i k1 p k2 q;have e1:k1=k:=l1;have e2:k2=k:=l2;subst e1;subst e2;exact⟨p == q,by simp[valOf,DY,hu,toV,run_equalIn_int w d t _ _ p q hu],by simp⟩
  .rename_i hu;obtain⟨x,y,rfl,rfl,l1,l2⟩:=one _ (cX h).symm;cases x<;>simp only[Ga]at l1;cases y<;>simp only[Ga]at l2;rename_i p q;refine⟨p == q,?_,by simp⟩;have:=run_equalIn_string w d t ⟨p.toArray⟩ ⟨q.toArray⟩ hu;rw[ByteArray.toList_eq,ByteArray.toList_eq]at this;simpa [valOf,DY,hu,toV]using this
  .rename_i e hu;rw[hu]at he;cases he
  .rename_i fs hu;rw[hu]at he;simp only[eK,AW]at he;split at h
   .rename_i r hr;split at h
    .obtain rfl:=cX h;have hf:P.fieldsOf t=fs:=by simp[Program.fieldsOf,hu]
     obtain⟨b,hb,hi⟩:=GD (λt ss a b c1 c2 e1 e2 d w hd=>aBg f t ss a b c1 c2 e1 e2 d w hd) c1 c2 d w (by omega) fs.toList 0 _ hr he.2 (by simpa using h1) (by simpa using h2);refine⟨b,?_,by simpa using hi⟩;have:=run_equalIn_struct w d t (c1.map toV).toArray (c2.map toV).toArray (by rw[hf];exact hu) he.1;rw[hf]at this;simpa [valOf,DY,hu]using this.trans hb
    .cases h
   .cases h
  .cases h
def Ua{t:TypeId}{f:Nat}{ss:List Sh}(hf:f<=10000)(hs:shC P f t=some ss)(he:eqT P f t=true)(hst:DY P t=true)(hg:P.eqGuardType P.depth t=false){c1 c2:List AV}(h1:uV ss c1)(h2:uV ss c2){b:Bool}(hb:b=true↔c1=c2):
  EqA P t c1 c2 b:=by
 intro op x y w hop;obtain⟨b',hb',hi⟩:=aBg f t ss hs he c1 c2 h1 h2 10000 w hf;have e:b'=b:=by rw[<-hb]at hi;cases b<;>cases b'<;>simp_all
 subst e;simp only[valOf,hst,eS]at hb';rcases hop with rfl|rfl
 .simp only[pB,run_eqGuard_agg w _ t x y _ _ hg,mT,run_eql_struct,hb',eS]
 .simp only[pB,run_eqGuard_agg w _ t x y _ _ hg,mT,run_neq_struct,hb'];rfl
end
def Nx(m:Nat)(P:Program)[aG P](o:Oper)(s:AS)(X:AS->Prop):Prop:=uA P o s X\/((m=1/\(Jt P o s X\/JG P o s X))\/(m=2/\VH P o s X))
def go_seq{P:Program}[aG P]{x y:Code}{s:AS}{Q:Exit->AS->Prop}(h:qA P x s (zA (λs'=>qA P y s' Q) Q)):qA P (.seq x y) s Q:=by unfold qA;exact h
def go_then{K:AS->Prop}{Q:Exit->AS->Prop}{s:AS}(h:K s):zA K Q .normal s:=by unfold zA;exact h
def go_cons{P:Program}[aG P]{all r:List Oper}{o:Oper}{s:AS}{K:AS->Prop}(hg:o.guard=none)(h:Nx 1 P o s λs'=>mH P all r s' K):mH P all (o::r) s K:=by
 simp only[mH,hg];rcases h with h|h
 .exact .inl h
 .rcases h with h|h
  .exact .inr h.2
  .exact absurd h.1 (by decide)
def H8{P:Program}[aG P]{o:Oper}{s:AS}{X:AS->Prop}(h:VK P o s X):Nx 1 P o s X:= .inr (.inl ⟨rfl,.inr ⟨s,mZ.refl s,h⟩⟩)
def go_take{P:Program}[aG P]{all r:List Oper}{o:Oper}{s:AS}{K:AS->Prop}{j:Nat}{want:Bool}(hg:o.guard=some (j,want))(hb:qN all s j want= .bool want)(h:Nx 0 P o s λs'=>mH P all r s' K):mH P all (o::r) s K:=by
 simp only[mH,hg,hb];rcases h with h|h
 .exact ⟨λ_=> .inl h,λhn=>absurd rfl hn⟩
 .rcases h with h|h<;>exact absurd h.1 (by decide)
def go_takeC{P:Program}[aG P]{all r:List Oper}{o:Oper}{s:AS}{K:AS->Prop}{j:Nat}{want:Bool}(hg:o.guard=some (j,want))(hb:qN all s j want= .bool want)(h:Nx 1 P o s λs'=>mH P all r s' K):mH P all (o::r) s K:=by
 simp only[mH,hg,hb];rcases h with h|h
 .exact ⟨λ_=> .inl h,λhn=>absurd rfl hn⟩
 .rcases h with h|h
  .exact ⟨λ_=> .inr h.2,λhn=>absurd rfl hn⟩
  .exact absurd h.1 (by decide)
def go_skip{P:Program}[aG P]{all r:List Oper}{o:Oper}{s s':AS}{K:AS->Prop}{j:Nat}{want:Bool}(hg:o.guard=some (j,want))(hb:qN all s j want= .bool (!want))(h:mH P all r s' K)(hs:∀K':AS->Prop,K' s'->K' (s.put o.dst (.iL [])):=by intro K' hK';(try simp only[AS.put,cH,cQ]);exact hK'):mH P all (o::r) s K:=
 aCr hg hb (hs (λs=>mH P all r s K) h)
def go_drawn{P:Program}[aG P]{id:Nat}{l:List Oper}{s:AS}{Q:Exit->AS->Prop}{fl:List (Nat×Nat×List AV)}{b:List aI}(hf:Tz P 0 s.o.length l=fl)(hbb:s.o++(fl.map λq=>(⟨false,false,q.2.2.length,0,[]⟩:aI))=b)(hfw:JP l=true)(hdst:distinct l=true)(hfl:iq fl b.length=true)(hb:vB Hu true fl b=b)(hb0:vB Hu false fl b=s.o++(fl.map (·.2.2.length)).map λn=>⟨true,false,n,0,[]⟩)
  (h:pX P l s.t b fl (Q .normal) 0 l [] []):qA P (.region id l.toArray true) s Q:=aCq hfw hdst hfl hb hb0 h
section
variable{P:Program}[aG P]{l:List Oper}{t:List AV}{b:List aI}{fl:List (Nat × Nat × List AV)}{K:AS -> Prop}{i:Nat}{op:Oper}{r:List Oper}{vs:List AV}{h:List (Nat × List aI)}{pr:List Nat}{m:List AV}{om:List aI}
def go_draw(hg:op.guard=none)(hnf:(fl.all λq=>decide (q.1≠i))=true)(hpr:pre op=pr)(hlt:(pr.all λe=>decide (e<i))=true)(hm:rU i pr 0 l vs t=m)(ho:vB (xU pr) true fl (oJ (xU pr) b h)=om)(hq:qO op.op ⟨m,om⟩=true)
  (ha:Nx 2 P op ⟨m,om⟩ λs'=>(Gt pr h=true\/s'.o.length=om.length)/\pX P l t b fl K (i+1) r (vs++[Hy op s']) (if s'.o.length=om.length then h else(i,vB Hu true fl s'.o)::h)):pX P l t b fl K i (op::r) vs h:=by
 refine KH hnf hpr hlt hm ho hq ?_;unfold uP;simp only[hg];rcases ha with ha|ha
 .exact .inl ha
 .rcases ha with ha|ha
  .exact absurd ha.1 (by decide)
  .exact .inr ha.2
def go_drawT{j:Nat}{want:Bool}(hg:op.guard=some (j,want))(hnf:(fl.all λq=>decide (q.1≠i))=true)(hpr:pre op=pr)(hlt:(pr.all λe=>decide (e<i))=true)(hm:rU i pr 0 l vs t=m)(ho:vB (xU pr) true fl (oJ (xU pr) b h)=om)(hq:qO op.op ⟨m,om⟩=true)(hb:qN l ⟨m,om⟩ j want= .bool want)
  (ha:Nx 2 P op ⟨m,om⟩ λs'=>(Gt pr h=true\/s'.o.length=om.length)/\pX P l t b fl K (i+1) r (vs++[Hy op s']) (if s'.o.length=om.length then h else(i,vB Hu true fl s'.o)::h)):pX P l t b fl K i (op::r) vs h:=by
 refine KH hnf hpr hlt hm ho hq ?_;unfold uP;simp only[hg,hb];rcases ha with ha|ha
 .exact ⟨λ_=> .inl ha,λhn=>absurd rfl hn⟩
 .rcases ha with ha|ha
  .exact absurd ha.1 (by decide)
  .exact ⟨λ_=> .inr ha.2,λhn=>absurd rfl hn⟩
def go_drawS{j:Nat}{want:Bool}(hg:op.guard=some (j,want))(hnf:(fl.all λq=>decide (q.1≠i))=true)(hpr:pre op=pr)(hlt:(pr.all λe=>decide (e<i))=true)(hm:rU i pr 0 l vs t=m)(ho:vB (xU pr) true fl (oJ (xU pr) b h)=om)(hds:(match op.dst with|some d=>decide (d<m.length)|none=>false)=true)(hq:qO op.op ⟨m,om⟩=true)(hb:qN l ⟨m,om⟩ j want= .bool (!want))
  (ha:pX P l t b fl K (i+1) r (vs++[.iL []]) h):pX P l t b fl K i (op::r) vs h:=by
 refine KH hnf hpr hlt hm ho hq ?_;unfold uP;simp only[hg,hb];refine⟨λhn=> ?_,λ_=> ?_⟩
 .cases want<;>cases hn
 .rw [put_eq];refine⟨.inr rfl,?_⟩;rw[eM rfl];have:Hy op ⟨vZ m op.dst (.iL []),om⟩= .iL []:=by
   unfold Hy vZ;cases hd:op.dst with
   |none=>rw[hd]at hds;cases hds
   |some d=>
    rw[hd]at hds;have hdl:d<m.length:=by simpa using hds
    dsimp only;rw[mA,mN hdl];rfl
  rw[this];exact ha
def go_barC{z:List Nat}{s1:AS}(hr:zV l i=true)(hz:wJ l i=z)(hk:K s1)(ha:EN (λz=>Bu P l (λs'=>s'=s1) (left ((range l.length).map (jz i z))) ((range l.length).map (jz i z)) ⟨kQ (jz i z) 0 l vs t,vB (jz i z) false fl (oJ (jz i z) b h)⟩) [] z:=by
  repeat' (first|refine st ?_|(refine nx ?_;refine so ?_)|refine sx ?_ ?_|refine sy ?_ ?_|fail)
  all_goals rfl):pX P l t b fl K i (op::r) vs h:=FO hr hz ha hk
def go_float{q:Nat×Nat×List AV}{T:TypeId}{vs':List AV}(hq:fl.find? (λq=>q.1 == i)=some q)(hg:op.guard=none)(hT:op.op= .alloc T)(hz:sS P T=some q.2.2)(hlt:((pre op).all λe=>decide (e<i))=true)(hv:vs++[.ptr q.2.1 1 0 0]=vs')(hd:pX P l t b fl K (i+1) r vs' h):pX P l t b fl K i (op::r) vs h:=by subst hv;exact iy hq hg hT hz hlt hd
def go_next{vs':List AV}{h':List (Nat×List aI)}{c:Prop}(hc:c)(hv:vs=vs')(hh:h=h')(hd:pX P l t b fl K i r vs' h'):c/\pX P l t b fl K i r vs h:=by subst hv;subst hh;exact⟨hc,hd⟩
def kB{F:List Nat->Prop}{acc:List Nat}(h:EN F acc []):EN F acc []:=h
def kE{n:Nat}{d:List Bool}{s:AS}(h:Bu P l K n d s):Bu P l K n d s:=h
def kF{n:Nat}{d:List Bool}{s:AS}{j:Nat}(h:yE P l K n d s [j]):yE P l K n d s [j]:=h
def kD(hd:pX P l t b fl K i r vs h):pX P l t b fl K i r vs h:=hd
def kN{c:Prop}(hd:c/\pX P l t b fl K i r vs h):c/\pX P l t b fl K i r vs h:=hd
end
attribute [irreducible] Nx
def kL{P:Program}[aG P]{all l:List Oper}{s:AS}{K:AS->Prop}(h:mH P all l s K):mH P all l s K:=h
def kA{P:Program}[aG P]{c:Code}{s:AS}{Q:Exit->AS->Prop}(h:qA P c s Q):qA P c s Q:=h
def kT{K:AS->Prop}{Q:Exit->AS->Prop}{e:Exit}{s:AS}(h:zA K Q e s):zA K Q e s:=h
def kI{id:Nat}{Q:Exit->AS->Prop}{e:Exit}{s:AS}(h:D9 id Q e s):D9 id Q e s:=h
structure Hid(q:Prop): Prop where
  out:q
def st{p q:Prop}(h:q)(e:Hid q->p:=by
 intro h
 (first
  |(refine kL ?_;first
    |refine bg ?_
    |refine go_cons rfl ?_
    |(refine go_take rfl ?_ ?_;(focus (simp[qN,W];done)))
    |(refine go_skip rfl ?_ ?_;(focus (simp[qN,W];done))))
  |(refine kA ?_;first
    |refine go_seq ?_|refine SY ?_|refine aAo ?_|refine WS ?_|refine bn ?_|refine bq ?_|refine go_drawn (by simp;rfl) (by simp;rfl) (by decide+kernel) (by decide) (by first|rfl|(simp[iq];done)) (by simp) (by simp) ?_)
  |(refine kT ?_;first|refine go_then ?_|refine Me ?_|refine JH ?_)
  |(refine kI ?_;first|refine JI ?_|refine Tc ?_|refine WT ?_|refine WU (by decide) ?_)
  |(refine kN ?_;refine go_next (by simp;done) (by simp;rfl) (by simp;rfl) ?_)
  |(refine kD ?_;first
    |refine Xi (by simp;rfl) (by simp;rfl) ?_
    |refine go_float rfl rfl rfl (by simp;done) (by first|rfl|(simp[Region.binds];done)) (by simp;rfl) ?_
    |(refine go_draw rfl (by first|rfl|(simp;done)) (by simp[Region.binds];rfl) (by decide) (by simp[Region.binds];rfl) (by simp;rfl) ?_ ?_;(focus (first|rfl|(simp[qO];done))))
    |(refine go_drawT rfl (by first|rfl|(simp;done)) (by simp[Region.binds];rfl) (by decide) (by simp[Region.binds];rfl) (by simp;rfl) ?_ ?_ ?_;(focus (first|rfl|(simp[qO];done)));(focus (simp[qN,W];done)))
    |(refine go_drawS rfl (by first|rfl|(simp;done)) (by simp[Region.binds];rfl) (by decide) (by simp[Region.binds];rfl) (by simp;rfl) ?_ ?_ ?_ ?_;(focus (first|rfl|(simp;done)));(focus (first|rfl|(simp[qO];done)));(focus (simp[qN,W];done)))
    |refine Xj (by decide+kernel) (by simp;rfl) (by simp;rfl) ?_
    |refine go_barC (by decide+kernel) (by simp[wJ,reach,pW,Region.binds,GS];rfl) ?_
    |refine Ou (by decide+kernel) (by simp[wJ,reach,pW,Region.binds,GS];rfl) ?_)
  |(refine kB ?_;refine go_sub (by simp;rfl) (by simp;rfl) (by simp;rfl) (by simp;rfl) ?_)
  |(refine kE ?_;first|refine go_end ?_|refine go_all (by simp[Region.binds];rfl) ?_)
  |(refine kF ?_;refine go_one rfl (by simp only[cH,cQ];rfl) ?_))
 repeat (first
  |(refine kL ?_;first
    |refine bg ?_
    |refine go_cons rfl ?_
    |(refine go_take rfl ?_ ?_;(focus (simp[qN,W];done)))
    |(refine go_skip rfl ?_ ?_;(focus (simp[qN,W];done))))
  |(refine kA ?_;first
    |refine go_seq ?_|refine SY ?_|refine aAo ?_|refine WS ?_|refine bn ?_|refine bq ?_|refine go_drawn (by simp;rfl) (by simp;rfl) (by decide+kernel) (by decide) (by first|rfl|(simp[iq];done)) (by simp) (by simp) ?_)
  |(refine kT ?_;first|refine go_then ?_|refine Me ?_|refine JH ?_)
  |(refine kI ?_;first|refine JI ?_|refine Tc ?_|refine WT ?_|refine WU (by decide) ?_)
  |(refine kN ?_;refine go_next (by simp;done) (by simp;rfl) (by simp;rfl) ?_)
  |(refine kD ?_;first
    |refine Xi (by simp;rfl) (by simp;rfl) ?_
    |refine go_float rfl rfl rfl (by simp;done) (by first|rfl|(simp[Region.binds];done)) (by simp;rfl) ?_
    |(refine go_draw rfl (by first|rfl|(simp;done)) (by simp[Region.binds];rfl) (by decide) (by simp[Region.binds];rfl) (by simp;rfl) ?_ ?_;(focus (first|rfl|(simp[qO];done))))
    |(refine go_drawT rfl (by first|rfl|(simp;done)) (by simp[Region.binds];rfl) (by decide) (by simp[Region.binds];rfl) (by simp;rfl) ?_ ?_ ?_;(focus (first|rfl|(simp[qO];done)));(focus (simp[qN,W];done)))
    |(refine go_drawS rfl (by first|rfl|(simp;done)) (by simp[Region.binds];rfl) (by decide) (by simp[Region.binds];rfl) (by simp;rfl) ?_ ?_ ?_ ?_;(focus (first|rfl|(simp;done)));(focus (first|rfl|(simp[qO];done)));(focus (simp[qN,W];done)))
    |refine Xj (by decide+kernel) (by simp;rfl) (by simp;rfl) ?_
    |refine go_barC (by decide+kernel) (by simp[wJ,reach,pW,Region.binds,GS];rfl) ?_
    |refine Ou (by decide+kernel) (by simp[wJ,reach,pW,Region.binds,GS];rfl) ?_)
  |(refine kB ?_;refine go_sub (by simp;rfl) (by simp;rfl) (by simp;rfl) (by simp;rfl) ?_)
  |(refine kE ?_;first|refine go_end ?_|refine go_all (by simp[Region.binds];rfl) ?_)
  |(refine kF ?_;refine go_one rfl (by simp only[cH,cQ];rfl) ?_))
 exact h.out):p:=e ⟨h⟩
def so{P:Program}[aG P]{o:Oper}{s s':AS}{X:AS -> Prop}{m:Nat}(h:X s')(e:∀ K:AS -> Prop, K s' -> uA P o s K := by
  intro K hK;first
    | (simp[-Bool.exists_bool, uA, W]
       (try simp (disch := omega) only[wrap64])
       first
         | exact hK
         | (refine⟨_, by assumption, ?_⟩; (try simp only[aU, aN, gT, dM, gN, dI, gW, dL, eE, eA, cW, eL, fL, sE, lR, Nat.reduceAdd]); exact hK)
         | (refine⟨?_, hK⟩; omega)
         | (refine⟨?_, ?_, hK⟩ <;> omega)
         | (refine⟨?_, ?_, ?_, hK⟩ <;> omega))
    | (simp[-Bool.exists_bool, uA, V]
       (try simp (disch := omega) only[wrap64])
       first
         | exact hK
         | (refine⟨_, by assumption, ?_⟩; (try simp only[aU, aN, gT, dM, gN, dI, gW, dL, eE, eA, cW, eL, fL, sE, lR, Nat.reduceAdd]); exact hK)
         | (refine⟨?_, hK⟩; omega)
         | (refine⟨?_, ?_, hK⟩ <;> omega)
         | (refine⟨?_, ?_, ?_, hK⟩ <;> omega))): Nx m P o s X := by
  unfold Nx; exact .inl (e X h)
def sk{P:Program}[aG P]{o:Oper}{s s':AS}{X:AS->Prop}{m:Nat}{H:Prop}(e:∀K:AS->Prop,H->K s'->uA P o s K:=by
 intro K hc hK;first
  |(simp[-Bool.exists_bool,uA,W];refine⟨_,hc,?_⟩;(try simp only[aU,aN,gT,dM,gN,dI,gW,dL,eE,eA,cW,eL,fL,sE,lR,Nat.reduceAdd]);exact hK)
  |(simp[-Bool.exists_bool,uA,V];refine⟨_,hc,?_⟩;(try simp only[aU,aN,gT,dM,gN,dI,gW,dL,eE,eA,cW,eL,fL,sE,lR,Nat.reduceAdd]);exact hK))(hc:H)(h:X s'):Nx m P o s X:=by
 unfold Nx;exact .inl (e X hc h)
def sg{P:Program}[aG P]{o:Oper}{s s':AS}{X:AS->Prop}{H:Prop}(e:∀K:AS->Prop,H->K s'->Jt P o s K:=by
 intro K hc hK;refine aPy ?_;simp[-Bool.exists_bool,bf,W];refine⟨_,_,hc,?_⟩;simp[-Bool.exists_bool,takes,handed,aK8,WH,rowOf,mG,mX,SF,SG,kV,pI,res,vH,AV.gB,AS.given,Ku,Ew,Gp,aI.aAl,aI.forget,rt,tJ,lW,lV,AV.kept,W];exact hK)(hc:H)(h:X s'):Nx 1 P o s X:=by
 unfold Nx;exact .inr (.inl ⟨rfl,.inl (e X hc h)⟩)
def sz{P:Program}[aG P]{o:Oper}{s s':AS}{X:AS->Prop}(h:X s')(e:∀K:AS->Prop,K s'->Jt P o s K:=by
 intro K hK;refine aPz ?_;simp[-Bool.exists_bool,aPt,uA,lW,tJ,rt,aI.kill,W];exact hK):Nx 1 P o s X:=by
 unfold Nx;exact .inr (.inl ⟨rfl,.inl (e X h)⟩)
def sw{P:Program}[aG P]{o:Oper}{s s1:AS}{X:AS->Prop}(hw:mZ s s1)(h:Nx 1 P o s1 X):Nx 1 P o s X:=by
 unfold Nx at h⊢;rcases h with h|h
 .exact .inr (.inl ⟨rfl,.inl (aFy hw (.inl h))⟩)
 .rcases h with h|h
  .rcases h.2 with h2|⟨s2,hw2,h2⟩
   .exact .inr (.inl ⟨rfl,.inl (aFy hw (.inr h2))⟩)
   .exact .inr (.inl ⟨rfl,.inr ⟨s2,hw.trans hw2,h2⟩⟩)
  .exact absurd h.1 (by decide)
def sb{P:Program}[aG P]{o:Oper}{s s':AS}{X:AS->Prop}(h:X s')(e:∀K:AS->Prop,K s'->Jt P o s K:=by
 intro K hK;refine aPx ?_;simp[-Bool.exists_bool,PH,AS.made,W];first
  |exact hK
  |(refine⟨?_,hK⟩;omega)):Nx 1 P o s X:=by
 unfold Nx;exact .inr (.inl ⟨rfl,.inl (e X h)⟩)
def se{P:Program}[aG P]{o:Oper}{s s':AS}{X:AS->Prop}(h:X s')(e:∀K:AS->Prop,K s'->VH P o s K:=by
 intro K hK;simp[VH];exact hK):Nx 2 P o s X:=by
 unfold Nx;exact .inr (.inr ⟨rfl,e X h⟩)
def sc{P:Program}[aG P]{c:Operand}{x y:Code}{s:AS}{Q:Exit->AS->Prop}{b:Bool}{p1 p2:Prop}(h1:p1->qA P x s Q)(h2:p2->qA P y s Q)(hc:s.ev c= .bool b:=by rfl)
  (e1:b=true->p1:=by
   intro h;first|(refine(?_:False);simp at h;done)|(refine(?_:False);(try simp at h);omega;done)|(simp at h;exact h)|exact h)
  (e2:b=false->p2:=by
   intro h;first|(refine(?_:False);simp at h;done)|(refine(?_:False);(try simp at h);omega;done)|(simp at h;exact h)|exact h):qA P (.cond c x y) s Q:=
 Ta hc (λh=>h1 (e1 h)) (λh=>h2 (e2 h))
def sp{P:Program}[aG P]{all r:List Oper}{o:Oper}{s:AS}{K:AS->Prop}{j d:Nat}{want b:Bool}{s1 s2:AS}{p1 p2:Prop}(h1:p1->mH P all (o::r) s1 K)(h2:p2->mH P all (o::r) s2 K)(hg:o.guard=some (j,want):=by rfl)(hd:(all[j]?).bind (·.dst)=some d:=by rfl)(hb:s.t[d]? =some (.bool b):=by rfl)(hx:(b=true)=(b=true):=by(fail_if_success (with_reducible refine Eq.refl (true=true)));(fail_if_success (with_reducible refine Eq.refl (false=true)));rfl)
  (e1:∀K':AS->Prop,K' s1->K' ⟨s.t.set d (.bool true),s.o⟩:=by intro K' hK';(try simp only[cH,cQ]);exact hK')
  (e2:∀K':AS->Prop,K' s2->K' ⟨s.t.set d (.bool false),s.o⟩:=by intro K' hK';(try simp only[cH,cQ]);exact hK')
  (e3:b=true->p1:=by
   intro h;first|(refine(?_:False);simp at h;done)|(refine(?_:False);(try simp at h);omega;done)|(simp at h;exact h)|exact h)
  (e4:b=false->p2:=by
   intro h;first|(refine(?_:False);simp at h;done)|(refine(?_:False);(try simp at h);omega;done)|(simp at h;exact h)|exact h):mH P all (o::r) s K:=
 H7 hg hd hb (λh=>e1 (λs=>mH P all (o::r) s K) (h1 (e3 h))) (λh=>e2 (λs=>mH P all (o::r) s K) (h2 (e4 h)))
def nx{m:Nat}{P:Program}[aG P]{o:Oper}{s:AS}{X:AS->Prop}(h:Nx m P o s X):Nx m P o s X:=h
def cx{P:Program}[aG P]{c:Operand}{x y:Code}{s:AS}{Q:Exit->AS->Prop}(h:qA P (.cond c x y) s Q):qA P (.cond c x y) s Q:=h
def lx{P:Program}[aG P]{all r:List Oper}{o:Oper}{s:AS}{K:AS->Prop}(h:mH P all (o::r) s K):mH P all (o::r) s K:=h
def dN{P:Program}[aG P](hm:P.follows .mixedOrders=true){f:FuncId}{fn:Func}{c:Code}(hf:P.funcs[f]? =some fn){n:Nat}(hn:fn.ntmps=n){args t:List AV}{rr:AV}
  (h:qA P c ⟨t,[]⟩ (λe s=>(e= .normal\/e= .ret)/\bB P fn s rr)) (hb:fn.body=some c:=by rfl)
  (ht:args++replicate (n-args.length) .aB=t:=by
   simp only[eL,fL,Nat.reduceSub,Nat.reduceAdd,oX,tG,cW,eA];rfl):Ok P f args rr:=by
 subst ht;subst hn;exact WR hm hf hb h
attribute [simp] bytesOf
def sT{P:Program}[aG P]{c:Operand}{x y:Code}{s:AS}{Q:Exit->AS->Prop}{b:Bool}(h1:qA P x s Q)(hc:s.ev c= .bool b:=by rfl)
  (e2:b=false->False:=by intro h;first|(simp at h;done)|((try simp at h);omega;done)):qA P (.cond c x y) s Q:=
 Ta hc (λ_=>h1) (λh=>(e2 h).elim)
def sF{P:Program}[aG P]{c:Operand}{x y:Code}{s:AS}{Q:Exit->AS->Prop}{b:Bool}(h2:qA P y s Q)(hc:s.ev c= .bool b:=by rfl)
  (e1:b=true->False:=by intro h;first|(simp at h;done)|((try simp at h);omega;done)):qA P (.cond c x y) s Q:=
 Ta hc (λh=>(e1 h).elim) (λ_=>h2)
def wl{p q:Prop}(h:q)(e:Hid q->p:=by
 intro h;first|refine st ?_|(refine nx ?_;refine so ?_)|(refine cx ?_;first|refine sT ?_|refine sF ?_|(refine sc (λhc=> ?_) (λhc=> ?_)<;>try exact hc.elim))|(refine lx ?_;refine sp (λhc=> ?_) (λhc=> ?_)<;>try exact hc.elim)|refine sx ?_ ?_|refine sy ?_ ?_|fail
 repeat' first|refine st ?_|(refine nx ?_;refine so ?_)|(refine cx ?_;first|refine sT ?_|refine sF ?_|(refine sc (λhc=> ?_) (λhc=> ?_)<;>try exact hc.elim))|(refine lx ?_;refine sp (λhc=> ?_) (λhc=> ?_)<;>try exact hc.elim)|refine sx ?_ ?_|refine sy ?_ ?_|fail
 all_goals exact h.out):p:=e ⟨h⟩
def we{p q:Prop}(h:q)(e:Hid q->p:=by
 intro h;first|refine st ?_|(refine nx ?_;first|refine se ?_|refine so ?_)|(refine cx ?_;first|refine sT ?_|refine sF ?_|(refine sc (λhc=> ?_) (λhc=> ?_)<;>try exact hc.elim))|(refine lx ?_;refine sp (λhc=> ?_) (λhc=> ?_)<;>try exact hc.elim)|refine sx ?_ ?_|refine sy ?_ ?_|fail
 repeat' first|refine st ?_|(refine nx ?_;first|refine se ?_|refine so ?_)|(refine cx ?_;first|refine sT ?_|refine sF ?_|(refine sc (λhc=> ?_) (λhc=> ?_)<;>try exact hc.elim))|(refine lx ?_;refine sp (λhc=> ?_) (λhc=> ?_)<;>try exact hc.elim)|refine sx ?_ ?_|refine sy ?_ ?_|fail
 all_goals exact h.out):p:=e ⟨h⟩
def sq{p p1 p2 q1 q2:Prop}(h1:p1->q1)(h2:p2->q2)(e:Hid (p1->q1)->Hid (p2->q2)->p:=by
 intro h1 h2;first
  |(refine cx ?_;refine sc h1.out h2.out)
  |(refine lx ?_;refine sp h1.out h2.out)
  |refine sx (h1.out trivial) (h2.out trivial)
  |refine sy (h1.out trivial) (h2.out trivial)
  |fail):p:=e ⟨h1⟩ ⟨h2⟩
def wg{p q:Prop}(h:q)(e:Hid q->p:=by
 intro h;first|refine st ?_|(refine nx ?_;refine so ?_)|(refine cx ?_;first|refine sT ?_|refine sF ?_)|fail
 repeat first|refine st ?_|(refine nx ?_;refine so ?_)|(refine cx ?_;first|refine sT ?_|refine sF ?_)|fail
 exact h.out):p:=e ⟨h⟩
def wf{p q:Prop}(h:q)(e:Hid q->p:=by
 intro h;first|refine st ?_|(refine nx ?_;first|refine se ?_|refine so ?_)|(refine cx ?_;first|refine sT ?_|refine sF ?_)|fail
 repeat first|refine st ?_|(refine nx ?_;first|refine se ?_|refine so ?_)|(refine cx ?_;first|refine sT ?_|refine sF ?_)|fail
 exact h.out):p:=e ⟨h⟩
def bZ{p q:Prop}(h:q)(e:Hid q->True->p:=by
 intro h W;first|refine st ?_|(refine nx ?_;refine so ?_)|(refine cx ?_;first|refine sT ?_|refine sF ?_|(refine sc (λhc=> ?_) (λhc=> ?_)<;>try exact hc.elim))|(refine lx ?_;refine sp (λhc=> ?_) (λhc=> ?_)<;>try exact hc.elim)|refine sx ?_ ?_|refine sy ?_ ?_|fail
 repeat' first|refine st ?_|(refine nx ?_;refine so ?_)|(refine cx ?_;first|refine sT ?_|refine sF ?_|(refine sc (λhc=> ?_) (λhc=> ?_)<;>try exact hc.elim))|(refine lx ?_;refine sp (λhc=> ?_) (λhc=> ?_)<;>try exact hc.elim)|refine sx ?_ ?_|refine sy ?_ ?_|fail
 all_goals exact h.out):p:=e ⟨h⟩ trivial
def bK{p q:Prop}(h:q)(e:Hid q->True->p:=by
 intro h W;first|refine st ?_|(refine nx ?_;first|refine se ?_|refine so ?_)|(refine cx ?_;first|refine sT ?_|refine sF ?_|(refine sc (λhc=> ?_) (λhc=> ?_)<;>try exact hc.elim))|(refine lx ?_;refine sp (λhc=> ?_) (λhc=> ?_)<;>try exact hc.elim)|refine sx ?_ ?_|refine sy ?_ ?_|fail
 repeat' first|refine st ?_|(refine nx ?_;first|refine se ?_|refine so ?_)|(refine cx ?_;first|refine sT ?_|refine sF ?_|(refine sc (λhc=> ?_) (λhc=> ?_)<;>try exact hc.elim))|(refine lx ?_;refine sp (λhc=> ?_) (λhc=> ?_)<;>try exact hc.elim)|refine sx ?_ ?_|refine sy ?_ ?_|fail
 all_goals exact h.out):p:=e ⟨h⟩ trivial
def bA{q:Prop}(h:q):(Exit.ret= .normal\/Exit.ret= .ret)/\q:=⟨.inr rfl,h⟩
def aO{P:Program}{fn:Func}{s:AS}{r:AV}{x:Array ResultVar}(hr:fn.results=x)(e:fn.results=x->bB P fn s r:=by intro hr;simp[bB,hr]):(Exit.ret= .normal\/Exit.ret= .ret)/\bB P fn s r:=⟨.inr rfl,e hr⟩
section
variable{P:Program}{p q:List Nat}{l:List Oper}{Q:Exit -> Act -> World -> Prop}
end
def K4{P:Program}[aG P]{ops:Array Oper}{s:AS}{K1 K2:AS->Prop}(hk:∀s,K1 s->K2 s)(h:SV P ops s K1):SV P ops s K2:=
 λB a w Q hr hq=>h B a w Q hr λa' w' s' h1 h2=>hq a' w' s' (hk _ h1) h2
def DN{P:Program}[aG P]:∀(c:Code) (s:AS) (Q1 Q2:Exit->AS->Prop),(∀e s,Q1 e s->Q2 e s)->qA P c s Q1->qA P c s Q2
 | .skip,s,_,_,hq,h=>by simp only[qA]at h⊢;exact hq _ _ h
 | .region id ops false,s,_,_,hq,h=>by simp only[qA]at h⊢;exact h.elim λs2 h=>⟨s2,h.1,zW (hq _) _ _ h.2⟩
 | .region id ops true,s,_,_,hq,h=>by simp only[qA]at h⊢;exact K4 (hq _) h
 | .seq x y,s,Q1,Q2,hq,h=>by simp only[qA]at h⊢;refine DN x s _ _ (λe s' he=> ?_) h;cases e<;>simp only[zA]at he⊢ <;>first|exact DN y s' _ _ hq he|exact hq _ _ he
 | .cond c x y,s,_,_,hq,h=>by
  simp only[qA]at h⊢;split at h
  .exact ⟨λe=>DN x s _ _ hq (h.1 e),λe=>DN y s _ _ hq (h.2 e)⟩
  .exact h.elim
 | .block id c,s,Q1,Q2,hq,h=>by
  simp only[qA]at h⊢;refine DN c s _ _ (λe s' he=> ?_) h;cases e with
  |exit id'=>
   simp only[D9]at he⊢;split<;>rename_i hid
   .rw [eM hid]at he;exact hq _ _ he
   .rw [eC hid]at he;exact hq _ _ he
  |_=>simp only[D9]at he⊢;exact hq _ _ he
 | .loop c,s,_,_,hq,h=>by simp only[qA]at h⊢;obtain⟨ι,inv,μ,i,h0,hr⟩:=h;refine⟨ι,inv,μ,i,h0,λi=>DN c _ _ _ (λe s' he=> ?_) (hr i)⟩;cases e<;>simp only[zA]at he⊢ <;>first|exact he|exact hq _ _ he
 | .exit id,s,_,_,hq,h=>by simp only[qA]at h⊢;exact hq _ _ h
 | .ret,s,_,_,hq,h=>by simp only[qA]at h⊢;exact hq _ _ h
 | .rangeFunc _ _ _ _,_,_,_,_,h=>by simp[qA]at h
 | .scope _,_,_,_,_,h=>by simp[qA]at h
 | .label _,_,_,_,_,h=>by simp[qA]at h
 | .goto _,_,_,_,_,h=>by simp[qA]at h
 | .refuse _,_,_,_,_,h=>by simp[qA]at h
def aJi{t:List AV}{o:List aI}{s':AS}(i bY:Nat){ob:aI}(wF:AV.gB o i bY=some ob)(hbx:ob.box=false)(e:(⟨t,o⟩:AS).frozen i bY ob=s'):mZ ⟨t,o⟩ s':=by rw[<-e];exact λ_ _ B a w r=>Yv wF hbx r
def aDw{t t':List AV}{o o':List aI}(i bY m:Nat){ob:aI}(wF:AV.gB o i bY=some ob)(hbx:ob.box=false)(ho:(uZ i bY (.sl .view ob.n (lW (λ_=>some .view) false ob.fM)) 0 o).take m=o')
  (h:wk (vK i bY (.sl .view ob.n (lW (λ_=>some .view) false ob.fM)) t) t') (hc:iK m t'=true) (hb:eU m o'=true):mZ ⟨t,o⟩ ⟨t',o'⟩:=
 mZ.trans (aJi i bY wF hbx rfl) (aQ m ho h hc hb)
section
variable{P:Program}[aG P]{l:List Oper}{K:AS -> Prop}{n:Nat}{d d':List Bool}{s s':AS}{dst:Option Tmp}{ty:TypeId}{pos:String}{after:Array Edge}{x y:Operand}
end
def AS.Cc(P:Program)(s:AS):List ResultVar->Option (Nat×List AV)
 | .cell t ty::xs=>match s.t.getD t .aB with
  | .ptr i bY idx off=>match s.at i bY idx with
   |some (ob,e)=>match nH P ty with
    |some n=>if ob.box=true/\off+n<=e.length then(match s.Az P xs with
     |some ys=>some (i,.agg ((e.drop off).take n)::ys)
     |none=>none)else none
    |none=>none
   |none=>none
  |_=>none
 |_=>none
def AS.rvC(P:Program)(s:AS):List ResultVar->Option (Nat×List AV)
 |x::xs=>match s.Az P [x],s.Cc P xs with
  |some [y],some (i,ys)=>some (i,y::ys)
  |_,_=>none
 |[]=>none
def TF(P:Program)(fn:Func)(s:AS)(r:AV):Prop:=
 ∃i ys,(s.Cc P fn.results.toList=some (i,ys)\/s.rvC P fn.results.toList=some (i,ys))/\kV s.o (bX ys)=true/\(mG (bX ys)).Nodup/\i∉mG (bX ys)/\res s.o (bX ys)=r/\clean r=true
def iZ{P:Program}{fn:Func}{s:AS}{r:AV}(h:match s.Cc P fn.results.toList with
  |some p=>kV s.o (bX p.2)=true/\(mG (bX p.2)).Nodup/\p.1∉mG (bX p.2)/\res s.o (bX p.2)=r/\clean r=true
  |none=>False):TF P fn s r:=by
 split at h
 .rename_i p hp;exact⟨p.1,p.2,.inl hp,h⟩
 .exact h.elim
def Xu{P:Program}[aG P]{B:gL P}{s:AS}{G:List CO}{a:Act}{w:World}(r:fZ B s G a w){t:Tmp}{ty:TypeId}{i bY idx off n:Nat}{ob:aI}{e:List AV}
  (hx:s.t.getD t .aB= .ptr i bY idx off) (ha:s.at i bY idx=some (ob,e)) (xL:ob.box=true) (hn:nH P ty=some n) (hfit:off+n<=e.length):
  ∃v fp g,look s.o G i ob g/\ob.fT=true/\(Gq a (.cell t ty)).run P w= .ok v w/\R w (env B s.o G w) (.agg ((e.drop off).take n)) v fp/\fp.Nodup/\∀b∈fp,g.F b:=by
 obtain⟨ho,he⟩:=BU ha;obtain⟨g,b,f,hl,aY,hga,hv⟩:=r.ptr (x:= .tmp t) hx ho;obtain⟨Vx,⟨_,eQ⟩,hnd,hF⟩:=r.ok i ob g hl aY;simp only[xL,Env.of,eS]at eQ;rcases eQ with⟨h5,_⟩|⟨b',f',C,tyc,fz,sH,yM,hbk,hz,k1,k2,k3,rfl,hr⟩
 .rw [h5]at he;simp at he
 rw[hga]at yM;simp only[eI,oS,pS]at yM;obtain⟨rfl,rfl⟩:=yM;obtain⟨f1,f2,f3,cs,rfl,hcn,hc,hone,wK,_,_⟩:=Cy hr he;have hle:=iY wK;simp only[Act.eval]at hv;obtain⟨g1,g2,rfl,_,LH⟩:=vV off wK;obtain⟨g3,g4,rfl,hc3,_⟩:=vV n LH;have hsub:∀x∈g3,x∈f1++(g1++(g3++g4))++f3:=λx hx=>by simp[hx]
 refine⟨.agg ((cs.drop off).take n).toArray,g3,g,hl,aY,?_,by simp only[R];exact⟨_,rfl,IQ hone,hc3⟩,?_,λx hx=>hF x (Cd _ (hsub x hx))⟩
 .have:=wL (P:=P) (t:=ty) (k:=off) (n:=n) (cs:=cs) hn (by omega) hc;simp only[Instr.loadAt,Instr.sureAddr,pure_bind]at this;simp[Gq,hv,asAddr,<-pH,this]
 .simp only[nF]at hnd;have h1:=(lE.1 hnd.2).1;have h2:=(lE.1 h1).2.1;have h3:=(lE.1 h2).2.1;exact(lE.1 h3).1
def kr{P:Program}{s:AS}{l:List ResultVar}{i:Nat}{ys:List AV}(h:s.Cc P l=some (i,ys)):
  ∃t ty xs bY idx off ob e n zs,l= .cell t ty::xs/\s.t.getD t .aB= .ptr i bY idx off/\s.at i bY idx=some (ob,e)/\nH P ty=some n/\ob.box=true/\off+n<=e.length/\s.Az P xs=some zs/\ys= .agg ((e.drop off).take n)::zs:=by
 unfold AS.Cc at h;split at h
 .split at h
  .rename_i i' bY idx off hx;split at h
   .rename_i ob e ha;split at h
    .rename_i n hn;split at h
     .rename_i hc;split at h
      .rename_i zs hzs;simp only[eI,oT]at h;obtain⟨rfl,rfl⟩:=h;exact⟨_,_,_,_,_,_,_,_,_,_,rfl,hx,ha,hn,hc.1,hc.2,hzs,rfl⟩
      .cases h
     .cases h
    .cases h
   .cases h
  .cases h
 .cases h
def Ce{P:Program}[aG P]{B:gL P}{s:AS}{G:List CO}{a:Act}{w:World}(r:fZ B s G a w){fn:Func}{i:Nat}{ys:List AV}(h:s.Cc P fn.results.toList=some (i,ys)):
  ∃v fp ob g,look s.o G i ob g/\ob.fT=true/\(results fn a.tmps).run P w= .ok v w/\R w (env B s.o G w) (bX ys) v fp/\fp.Nodup/\∀b∈fp,g.F b:=by
 obtain⟨t,ty,xs,bY,idx,off,ob,e,n,zs,lI,hx,ha,hn,xL,hfit,hzs,rfl⟩:=kr h;obtain⟨v0,fp,g,hl,aY,ZP,hR0,hnd,hF⟩:=Xu r hx ha xL hn hfit;obtain⟨vs,h1,h2⟩:=Mc r hzs;have hl2:=iY h2;have hm:(fn.results.mapM (m:=Sem) (Gq a)).run P w= .ok (v0::vs).toArray w:=by rw[DS,lI];simp only[Sem.run_map,mapM_cons,pB];rw[ZP];simp only[mT];rw[h1];simp
 rw[KD];simp only[pB];rw[hm];simp only[mT,tR];match zs,vs,hl2,h2 with
 |[],[],_,h2=>exact⟨v0,fp,ob,g,hl,aY,by simp,hR0,hnd,hF⟩
 |z::zs,v1::vs,_,h2=>exact⟨.tuple (v0::v1::vs).toArray,fp,ob,g,hl,aY,by simp,by simp only[bX];rw[R];exact⟨_,rfl,by rw[Rc];exact⟨fp,[],hR0,h2,by simp⟩⟩,hnd,hF⟩
def YN{P:Program}[aG P]{B:gL P}{s:AS}{G:List CO}{a:Act}{w:World}(r:fZ B s G a w){fn:Func}{i:Nat}{ys:List AV}(h:s.rvC P fn.results.toList=some (i,ys)):
  ∃v fp ob g,look s.o G i ob g/\ob.fT=true/\(results fn a.tmps).run P w= .ok v w/\R w (env B s.o G w) (bX ys) v fp/\fp.Nodup/\∀b∈fp,g.F b:=by
 unfold AS.rvC at h;split at h
 .rename_i x xs heq;split at h
  .rename_i y i' ys' hy hB;simp only[eI,oT]at h;obtain⟨rfl,rfl⟩:=h;obtain⟨t,ty,xs',bY,idx,off,ob,e,n,zs,rfl,hx,ha,hn,xL,hfit,hzs,rfl⟩:=kr hB;obtain⟨v0,fp,g,hl,aY,ZP,hR0,hnd,hF⟩:=Xu r hx ha xL hn hfit;obtain⟨vs,h1,h2⟩:=Mc r hzs;obtain⟨vy,h3,h4⟩:=Mc r hy;match vy,h4 with
   |[v],h4=>
    simp only[mapM_cons,mapM_nil,pB]at h3;have h5:(Gq a x).run P w= .ok v w:=by
     cases hq:(Gq a x).run P w with
     |ok v' w'=>rw[hq]at h3;simp at h3;rw[h3.1,h3.2]
     |_=>rw[hq]at h3;simp at h3
    have hm:(fn.results.mapM (m:=Sem) (Gq a)).run P w= .ok (v::v0::vs).toArray w:=by rw[DS,heq];simp only[Sem.run_map,mapM_cons,pB];rw[h5];simp only[mT];rw[ZP];simp only[mT];rw[h1];simp
    rw[KD];simp only[pB];rw[hm];simp only[mT,tR];simp only[Rc]at h4;obtain⟨f1,f2,h6,⟨_,rfl⟩,h8⟩:=h4;obtain rfl:f1=[]:=by simpa using h8.symm
    exact⟨.tuple (v::v0::vs).toArray,fp,ob,g,hl,aY,by simp,by simp only[bX];rw[R];exact⟨_,rfl,by rw[Rc];exact⟨[],fp,h6,by rw[Rc];exact⟨fp,[],hR0,h2,by simp⟩,by simp⟩⟩,hnd,hF⟩
   |[],h4=>simp[Rc]at h4
   |_::_::_,h4=>simp[Rc]at h4
  .cases h
 .cases h
def K9{P:Program}[aG P](hm:P.follows .mixedOrders=true){f:FuncId}{fn:Func}{c:Code}(hf:P.funcs[f]? =some fn)(hb:fn.body=some c){args:List AV}{rr:AV}
  (h:qA P c ⟨args++replicate (fn.ntmps-args.length) .aB,[]⟩ (λe s=>(e= .normal\/e= .ret)/\(bB P fn s rr\/TF P fn s rr))):Ok P f args rr:=by
 intro w vs hg hargs;have hl:=iY hargs;have r0:fZ ⟨w,λb=>b<w.heap.size,λ_=>False,λ_=>none,λ_=>none,hg,λ_ h=>h.elim,λ_ h=>h.elim⟩ ⟨args++replicate (fn.ntmps-args.length) .aB,[]⟩ [] {tmps:=vs.toArray++Array.replicate (fn.ntmps-vs.toArray.size) Go.undef,defers:=[]} w:=by
  refine⟨rfl,rfl,λi ob g hl=>by simp[look]at hl,λi j oi oj gi gj b hl=>by simp[look]at hl,λi ob g b hl=>by simp[look]at hl,?_,eJ _,λ_ _ _=>rfl,λb hb=>hb,nZ.rfl⟩;have h1:Rc w (env ⟨w,λb=>b<w.heap.size,λ_=>False,λ_=>none,λ_=>none,hg,λ_ h=>h.elim,λ_ h=>h.elim⟩ [] [] w) args vs []:=gQ (w:=w) (w':=w) (E:=qM w) (E':=env ⟨w,λb=>b<w.heap.size,λ_=>False,λ_=>none,λ_=>none,hg,λ_ h=>h.elim,λ_ h=>h.elim⟩ [] [] w) ⟨λb hb=>⟨⟨.inl hb,λi ob g hl=>by simp[look]at hl⟩,rfl⟩,λ_ _=>trivial,λ_ _ _ h=>h.elim,λ_ _ _ h=>h.elim,λ_ _ _ _ _ h=>h.elim⟩ _ _ _ (by simp) hargs;have h2:∀n,Rc w (env ⟨w,λb=>b<w.heap.size,λ_=>False,λ_=>none,λ_=>none,hg,λ_ h=>h.elim,λ_ h=>h.elim⟩ [] [] w) (replicate n .aB) (replicate n Go.undef) []:=by
   intro n;induction n with
   |zero=>simp[Rc]
   |succ n ih=>simp only[oX,Rc];exact⟨[],[],by simp[R],ih,rfl⟩
  have:=mJ h1 (h2 (fn.ntmps-args.length));simpa [hl]using this
 refine Ge hf hb (Hj (rG hm c _ _ h _ _ ⟨_,r0⟩) λe a w' he=> ?_);obtain⟨s,⟨he,KO⟩,G,r⟩:=he;have key:∃(E:Env) (v:Value) (fp:List Nat),(results fn a.tmps).run P w'= .ok v w'/\R w' E.plain rr v fp/\fp.Nodup/\clean rr=true/\∀b∈fp,∃j ob g,look s.o G j ob g/\ob.fT=true/\g.F b:=by
  rcases KO with⟨ys,Md,rP,hu,lI,IU⟩|⟨i,ys,Md,rP,hu,hi,lI,IU⟩
  .obtain ⟨v,hrun,hR⟩:=wU r Md;obtain⟨fp,h1,h2,h3⟩:=GU r _ v rP hu hR;rw[lI]at h1;exact⟨_,v,fp,hrun,h1,h2,IU,λb hb=>by obtain⟨i,ob,g,_,h⟩:=h3 b hb;exact⟨i,ob,g,h⟩⟩
  .obtain ⟨v,Vx,ob,g,hlk,aY,hrun,hR,hnd,hF⟩:=Md.elim (Ce r) (YN r);obtain⟨fp,h1,h2,h3⟩:=SH r hlk aY _ v Vx rP hu hi hnd hF hR;rw[lI]at h1;refine⟨_,v,fp,hrun,h1,h2,IU,λb hb=> ?_⟩;rcases h3 b hb with h|⟨j,ob',g',_,h⟩
   .exact ⟨i,ob,g,hlk,aY,hF b h⟩
   .exact ⟨j,ob',g',h⟩
 obtain⟨E,v,fp,hrun,h1,h2,IU,h3⟩:=key;have hfin:∃v' fp,Ending.returned v= .returned v'/\R w' (CB w.heap.size w' fp) rr v' fp/\fp.Nodup/\(∀b∈fp,w.heap.size<=b/\b<w'.heap.size)/\w.heap.size<=w'.heap.size/\(∀b,b<w.heap.size->w'.heap[b]? =w.heap[b]?)/\nZ w w':=by refine⟨v,fp,rfl,aN1 <| Rs (E:=E.plain) (λ_ _=>trivial) rfl rfl rfl _ _ _ IU h1,h2,λb hb=> ?_,r.size,λb hb=>r.frame b hb (λh=>h),r.same⟩;obtain⟨i,ob,g,hl,aY,hF⟩:=h3 b hb;have:=r.eB _ _ _ b hl aY hF;exact⟨this.1.resolve_left (λh=>h),this.2⟩
 rcases he with rfl|rfl
 .exact ⟨r.defs,v,hrun,hfin⟩
 .exact ⟨r.defs,v,hrun,hfin⟩
def Ia{P:Program}[aG P](hm:P.follows .mixedOrders=true){f:FuncId}{fn:Func}{c:Code}(hf:P.funcs[f]? =some fn){n:Nat}(hn:fn.ntmps=n){args t:List AV}{rr:AV}
  (h:qA P c ⟨t,[]⟩ (λe s=>(e= .normal\/e= .ret)/\(bB P fn s rr\/TF P fn s rr))) (hb:fn.body=some c:=by rfl)
  (ht:args++replicate (n-args.length) .aB=t:=by
   simp only[eL,fL,Nat.reduceSub,Nat.reduceAdd,oX,tG,cW,eA];rfl):Ok P f args rr:=by
 subst ht;subst hn;exact K9 hm hf hb h
def ku{P:Program}{fn:Func}{s:AS}{r:AV}{x:Array ResultVar}(hr:fn.results=x)(e:fn.results=x->bB P fn s r\/TF P fn s r:=by intro hr;first|(refine .inl ?_;simp[bB,hr];done)|(refine .inr (iZ ?_);simp[AS.Cc,AS.Az,AS.rv,hr];done)):(Exit.ret= .normal\/Exit.ret= .ret)/\(bB P fn s r\/TF P fn s r):=⟨.inr rfl,e hr⟩
end Go.Aw
