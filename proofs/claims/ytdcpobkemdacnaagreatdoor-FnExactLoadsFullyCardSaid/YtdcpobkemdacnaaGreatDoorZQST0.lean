/- Proved here: steps towards the statement of this claim. No condition. -/
import Derived.Test.YtdcpobkemdacnaaGreatDoorZQRCB
import Derived.Test.YtdcpobkemdacnaaGreatDoorZQZ8
set_option linter.all false
set_option maxRecDepth 8000
set_option maxHeartbeats 8000000
namespace Go.Proofs.YtdcpobkemdacnaaGreatDoor
open Go.Aw Proofs.Tryz List IntKind
def yJ (p:aG):Bool:=p.ended&&decide (p.queue.length=0)&&decide (p.block=0)&&decide (p.inline=0)
theorem Pd [aC prog] (p:aG):Ok prog 107 [.agg (aI .view p)] (.bool (yJ p)):=by
 refine bO aD func107 ntmps107 ?_;have W:=trivial;repeat' first|refine wf ?_|(refine sq ?_ ?_<;>intro hc<;>try exact hc.elim)|fail
 all_goals try(refine aV ?_;simp [aH,results107])
 all_goals (simp_all [yJ]<;>rfl)
theorem Pe [aC prog] (p:aG):Ok prog 142 [.agg (aI .view p)] (.bool (yJ p)):=by
 refine bO aD func142 ntmps142 ?_;have W:=trivial;repeat' first|refine wf ?_|(refine sq ?_ ?_<;>intro hc<;>try exact hc.elim)|fail
 all_goals try(refine aV ?_;simp [aH,results142])
 all_goals (simp_all [yJ]<;>rfl)
def zD (p:aG) (b:aK):bB:=match p.aM.find? (kQ b) with
 |some m=>m.body
 |none=>[]
def rC (q:aG) (b:aK):aG:=if q.tH.any (iV b)=true then q else lM {q with tH:=q.tH++[b]} (bJ (zD q b) b.host).2.1 false
def jJ (p:aG) (L:List aK) (k:Nat):aG:=(L.take k).foldl rC p
theorem AR (p:aG) (L:List aK) (k:Nat) (h:k < L.length):jJ p L (k+1)=rC (jJ p L k) L[k]:=by unfold jJ;rw [eK h,DS];rfl
def Su:bB:=[102,97,105,108,32]
def oC (p:aG) (a:aK):aG:=if tQ p a=true then {p with log:=kC p.log (Su++lZ a)} else jJ p (dZ p a) (dZ p a).length
theorem CL (body base:bB):(bJ body base).2.1.length<=6/\∀x∈(bJ body base).2.1,x.text.length<=60:=by
 unfold bJ;split
 .simp
 .rename_i l r _;obtain ⟨b1,b2⟩:=zL (Lib.join r [59]);split
  .exact ⟨b1,b2⟩
  .simp
def JC (q:aG):Nat:=aJ q+91 * (40 - q.log.length)+62 * (40 - q.builder.nodes.length)
theorem Sv (l ss:List bB) (h:∀s∈ss,s.length<=90):bT gM (nD l ss)+91 * (40 - (nD l ss).length)<=bT gM l+91 * (40 - l.length):=by
 induction ss generalizing l with
 |nil=>exact eE _
 |cons s ss ih=>
  have e:nD l (s::ss)=nD (kC l s) ss:=rfl;rw [e];refine hM (ih (kC l s) (λx hx=>h x (by simp [hx]))) ?_;have hs:=h s (by simp);unfold kC;split
  .simp only [bT,eR,eN,eW,jD,bH,gM];omega
  .exact eE _
theorem bq (b:bF) (ss:List gW) (x:jW) (hx:x.text.length<=60):aS (bW b ss x).1+62 * (40 - (bW b ss x).1.nodes.length)<=aS b+62 * (40 - b.nodes.length):=by
 unfold bW;split
 .exact eE _
 .split
  .split
   .simp only [aS,bT,eR,jD,bH,rU,eN,eW];omega
   .exact eE _
  .split
   .exact eE _
   .split
    .exact eE _
    .split<;>exact eE _
theorem UD (b:bF) (ss:List gW) (l:List jW) (hx:∀x∈l,x.text.length<=60) (wP:∀n,0<=bK ss n/\bK ss n<=999) (hb:aS b+62 * 40<=68719476736):
  aS (eH b ss l).1+62 * (40 - (eH b ss l).1.nodes.length)<=aS b+62 * (40 - b.nodes.length)/\∀s∈(eH b ss l).2.2,s.length<=90:=by
 have key:∀(l:List jW) (st0:bF×bB×List bB),(∀x∈l,x.text.length<=60)->aS st0.1+62 * (40 - st0.1.nodes.length)<=aS b+62 * (40 - b.nodes.length)->(∀s∈st0.2.2,s.length<=90)->
   aS (l.foldl (tK ss) st0).1+62 * (40 - (l.foldl (tK ss) st0).1.nodes.length)<=aS b+62 * (40 - b.nodes.length)/\∀s∈(l.foldl (tK ss) st0).2.2,s.length<=90:=by
  intro l;induction l with
  |nil=>intro st0 _ h1 h2;exact ⟨h1,h2⟩
  |cons x l ih=>
   intro st0 hx h1 h2;have hxl:=hx x (by simp);have hn:st0.1.nodes.length<=274877906944:=by simp only [aS,bT] at h1 hb;omega
   obtain ⟨z1,z2,z3⟩:=Sb st0.1 ss x (by omega) wP hn;refine ih (tK ss st0 x) (λy hy=>hx y (by simp [hy])) ?_ ?_
   .exact hM (bq st0.1 ss x hxl) h1
   .intro s hs;simp only [tK] at hs;split at hs
    .exact h2 s hs
    .rcases fL.1 hs with hs|hs
     .exact h2 s hs
     .simp only [pZ] at hs;subst hs;omega
 exact key l (b,[],[]) hx (eE _) (by simp)
theorem Lr (q:aG) (l:List jW) (hs:aJ q<=536870912) (hx:∀x∈l,x.text.length<=60):JC (lM q l false)<=JC q:=by
 have hsb:aS q.builder<=536870912:=by simp only [aJ] at hs;omega
 obtain ⟨z1,z2⟩:=UD q.builder (dI q) l hx (xI q) (by omega);have z3:=Sv q.log (eH q.builder (dI q) l).2.2 z2;unfold lM;generalize eH q.builder (dI q) l=g at *;obtain ⟨b,w,lg⟩:=g;simp only [eS,hH] at *;generalize nD q.log lg=lg2 at *;simp only [JC,aJ] at *;omega
theorem bu (q:aG) (b:aK):(rC q b).aM=q.aM/\(rC q b).aB=q.aB:=by unfold rC lM;split<;>exact ⟨rfl,rfl⟩
theorem uu (q:aG) (b:aK) (hs:aJ q+1+aQ b<=536870912):JC (rC q b)<=JC q+1+aQ b:=by
 unfold rC;split
 .omega
 .have h1:aJ {q with tH:=q.tH++[b]}=aJ q+1+aQ b:=by simp only [aJ,bT,eR,eN,eW,jD,bH];omega
  have h2:=Lr {q with tH:=q.tH++[b]} (bJ (zD q b) b.host).2.1 (by omega) (CL _ _).2;refine hM h2 ?_;simp only [JC] at *;omega
theorem BP (q:aG):aJ q<=JC q/\JC q<=aJ q+6120:=by unfold JC;omega
theorem wM (p:aG) (L:List aK) (hL:aJ p+6120+bT aQ L<=536870912):∀k,k<=L.length->JC (jJ p L k)<=JC p+bT aQ (L.take k)/\(jJ p L k).aM=p.aM/\(jJ p L k).aB=p.aB
 |0,_=>⟨by simp [jJ,bT,bH],rfl,rfl⟩
 |k+1,h=>by
  obtain ⟨h1,h2,h3⟩:=wM p L hL k (by omega);have hp:=(BP p).2;have hq:=(BP (jJ p L k)).1;have e1:bT aQ (L.take (k+1))=bT aQ (L.take k)+1+aQ L[k]:=by rw [eK (show k < L.length by omega)];simp only [bT,eR,eN,eW,jD,bH];omega
  have e2:bT aQ (L.take (k+1))<=bT aQ L:=by have:=zB aQ L (k+1);simp only [bT,oR];omega
  rw [AR p L k (by omega)];have h4:=uu (jJ p L k) L[k] (by omega);obtain ⟨h5,h6⟩:=bu (jJ p L k) L[k];exact ⟨by omega,h5.trans h2,h6.trans h3⟩
theorem Sw {p:aG} {x:aK} (h:lF p x=true):x∈p.aM.map (·.to):=by
 unfold lF at h;split at h
 .rename_i m hm;have h1:=oY hm;have h2:=DG hm;simp only [kQ,fR] at h2;exact AH.2 ⟨m,h1,h2⟩
 .cases h
theorem aLz (l:List dY):bT aQ (l.map (·.to))<=bT bL l:=by
 induction l with
 |nil=>exact eE _
 |cons m l ih=>simp only [bT,mA,eN,bH,bL] at *;omega
theorem Gq (p:aG) (a:aK) (h:bT bL p.aM+aQ a<=16777216) (hf:tQ p a=false):(dZ p a).length<=16777216/\bT aQ (dZ p a)<=bT bL p.aM/\∀x∈dZ p a,lF p x=true:=by
 have hall:∀x∈dZ p a,lF p x=true:=by
  unfold tQ at hf;have:(dZ p a).all (lF p)=true:=by simpa using hf
  exact fW.1 this
 obtain ⟨hb,h1,h2⟩:=Gp p a h;have hs:=(EF hb.im (rA p []+1) a ([],[]) (by simp) ⟨by simp,by simp,by simp,by simp⟩).1;obtain ⟨h3,h4⟩:=DL aQ (dZ p a) (p.aM.map (·.to)) hs.ond (λx hx=>Sw (hall x hx));have h5:=aLz p.aM;rw [oX] at h4;refine ⟨?_,?_,hall⟩
 .simp only [bT] at h;omega
 .simp only [bT,oX] at h5⊢;omega
def Sy:bB:=[108,111,97,100]
def Ls (p:aG) (s:oZ):aG×Bool:=if s.done=true/\p.aB.all nZ=true then ({(if s.code=1 then lQ p s.body false else p) with deferred:=p.deferred+1},true) else (p,false)
def Lt (p:aG) (a:aK):aG×Bool:=if xD p a=true/\p.aB.all nZ=true then ({oC p a with iE:=p.iE+1},true) else (p,false)
def Lu (p:aG):aG×Bool:=if (places rH 0 p.aB).length=0/\(places rJ 0 p.aM).length=0 then ({p with log:=kC p.log Sy,lY:=true},true) else (p,false)
def nR (p:aG):aG×Bool:=
 if yJ p=true/\p.lY=false/\0<=p.deferred/\0<=p.iE then
  match (places jS 0 p.aB)[p.deferred.toNat]? with
  |some d=>match p.aB[d.toNat]? with
   |some s=>Ls p s
   |none=>(p,false)
  |none=>match p.entries[p.iE.toNat]? with
   |some a=>Lt p a
   |none=>Lu p
 else (p,false)
theorem Ni {α:Type} (f:α->Bool):∀(l:List α) (i:Nat) (d:Int),d∈places f i l->∃k:Nat,d=(k:Int)/\i<=k/\k < i+l.length
 |[],i,d,h=>by simp [places] at h
 |x::l,i,d,h=>by
  simp only [places] at h;have hr:d∈places f (i+1) l->∃k:Nat,d=(k:Int)/\i<=k/\k < i+(x::l).length:=λh=>by obtain ⟨k,h1,h2,h3⟩:=Ni f l (i+1) d h;exact ⟨k,h1,by omega,by simp only [eN];omega⟩
  split at h
  .rcases lE.1 h with h|h
   .exact ⟨i,h,eE _,by simp only [eN];omega⟩
   .exact hr h
  .exact hr h
theorem Iy (p:aG) (c:bB) (w:Bool):(lQ p c w).deferred=p.deferred/\(lQ p c w).iE=p.iE/\(lQ p c w).aB=p.aB/\(lQ p c w).aM=p.aM:=by unfold lQ lM;split<;>exact ⟨rfl,rfl,rfl,rfl⟩
theorem uw (q:aG) (b:aK):(rC q b).iE=q.iE:=by unfold rC lM;split<;>rfl
theorem Ws (p:aG) (a:aK):(oC p a).iE=p.iE:=by
 unfold oC;split
 .rfl
 .unfold jJ;have:∀(l:List aK) (q:aG),(l.foldl rC q).iE=q.iE:=by
   intro l;induction l with
   |nil=>intro q;rfl
   |cons b l ih=>intro q;rw [foldl_cons,ih,uw]
  exact this _ _
def wQ (p:aG):aG×Bool:=if (jG p).2=true then jG p else nR p
def pQ:Nat->aG->aG
 |0,p=>p
 |n+1,p=>if (wQ p).2=true then pQ n (wQ p).1 else p
def advance (p:aG):aG:=pQ 2000 p
theorem zz (s b:bB):aQ (bY s b).1<=16:=by
 unfold bY;split
 .rename_i h;simp only [oP,dB,eJ,fR] at h;simp only [aQ];omega
 .simp [aQ,wV]
def kY (p:aG):Prop:=(∀nd∈p.builder.nodes,bH oO nd.attrs<=1048576)/\∀t∈p.queue,bH oO t.attrs<=1048576
def sM (r:List aK) (m:dY):Nat:=if r.any (iV m.to)=true then 0 else 1+aQ m.to
def tT (p:aG):Nat:=bH (sM p.tH) p.aM
def nS (p:aG):Nat:=JC p+tT p+1048593 * (20 - p.aB.length)+51 * (20 - p.entries.length)
def BQ (p:aG):Nat:=bT bL p.aM+bT aQ p.entries+34 * (20 - p.entries.length)
def keeps (p q:aG):Prop:=kY q/\nS q<=nS p/\BQ q<=BQ p/\q.aB.length<=max p.aB.length 20
def CP (p q:aG):Prop:=kY q/\nS q<=nS p+721/\BQ q<=BQ p/\q.aB.length<=max p.aB.length 20
theorem Wt {p:aG} (h:kY p):keeps p p:=⟨h,eE _,eE _,by omega⟩
theorem pJ {p:aG} (h:kY p):CP p p:=⟨h,by omega,by omega,by omega⟩
theorem zN (p:aG) (md:Int) (tx dg:bB) (nd:Int) (hd:dg.length<=1048576):nS (gU p md tx dg nd).1<=nS p/\BQ (gU p md tx dg nd).1=BQ p/\(gU p md tx dg nd).1.aB.length<=max p.aB.length 20/\(gU p md tx dg nd).1.builder=p.builder/\(gU p md tx dg nd).1.queue=p.queue:=by
 have h16:=zz tx p.addr.host;unfold gU;split
 .exact ⟨eE _,rfl,by simp only;omega,rfl,rfl⟩
 .rename_i h;have hn:p.aB.length < 20:=by
   by_cases h2:20<=p.aB.length
   .exact (h (.inl h2)).elim
   .omega
  split
  .refine ⟨?_,rfl,by simp only [eR,eN,eW];omega,rfl,rfl⟩;simp only [nS,JC,tT,aJ,bT,eR,jD,bH,lD,eN,eW];omega
  .refine ⟨?_,rfl,by simp only [eR,eN,eW];omega,rfl,rfl⟩;simp only [nS,JC,tT,aJ,bT,eR,jD,bH,lD,eN,eW];omega
theorem X0 (p:aG) (a:aK):(BH p a).to=a/\bL (BH p a)=aQ a:=by unfold BH;split<;>exact ⟨rfl,by simp [bL]⟩
theorem bz (p:aG) (a:aK):∃X,eU p a={p with aM:=X}/\bT bL X<=bT bL p.aM+1+aQ a/\bH (sM p.tH) X<=bH (sM p.tH) p.aM+1+aQ a:=by
 obtain ⟨h1,h2⟩:=X0 p a;have h3:sM p.tH (BH p a)<=1+aQ a:=by unfold sM;rw [h1];split<;>omega
 have key:∀k,bT bL (vY p a k)<=bT bL p.aM+1+aQ a/\bH (sM p.tH) (vY p a k)<=bH (sM p.tH) p.aM+1+aQ a:=by
  intro k;have e1:bH bL (p.aM.take k)+bH bL (p.aM.drop k)=bH bL p.aM:=by rw [<-jD,nF]
  have e2:bH (sM p.tH) (p.aM.take k)+bH (sM p.tH) (p.aM.drop k)=bH (sM p.tH) p.aM:=by rw [<-jD,nF]
  have e3:(p.aM.take k).length+(p.aM.drop k).length=p.aM.length:=by rw [<-eR,nF]
  unfold vY;simp only [bT,eR,eN,jD,bH];omega
 unfold eU;split
 .split
  .exact ⟨p.aM,rfl,by omega,by omega⟩
  .exact ⟨_,rfl,(key _).1,(key _).2⟩
 .exact ⟨_,rfl,(key _).1,(key _).2⟩
theorem Sz (p:aG) (tx:bB):nS (addEntry p tx)<=nS p/\BQ (addEntry p tx)<=BQ p/\(addEntry p tx).aB=p.aB/\(addEntry p tx).builder=p.builder/\(addEntry p tx).queue=p.queue:=by
 have h16:=zz tx p.addr.host;obtain ⟨X,hX,x1,x2⟩:=bz p (bY tx p.addr.host).1;unfold addEntry;split
 .exact ⟨eE _,eE _,rfl,rfl,rfl⟩
 .rename_i h;have hn:p.entries.length < 20:=by
   by_cases h2:20<=p.entries.length
   .exact (h (.inr h2)).elim
   .omega
  rw [hX];generalize (bY tx p.addr.host).1=a at *;refine ⟨?_,?_,rfl,rfl,rfl⟩
  .simp only [bT] at x1;simp only [nS,JC,tT,aJ,bT,eR,jD,bH,eN,eW];omega
  .simp only [bT] at x1;simp only [BQ,bT,eR,jD,bH,eN,eW];omega
theorem zF {p q:aG} (h:kY p) (h1:q.builder=p.builder) (h2:q.queue=p.queue):kY q:=by unfold kY at *;rw [h1,h2];exact h
theorem cu (p:aG) (t:bV) (n:Int) (h:kY p) (ht:bH oO t.attrs<=1048576):keeps p (Aj p t n):=by
 have z1:=mK t.attrs dU;obtain ⟨a1,a2,a3,a4,a5⟩:=zN p 2 (aW t.attrs Av).1 (aW t.attrs dU).1 n (by omega);obtain ⟨b1,b2,b3,b4,b5⟩:=zN p 1 (aW t.attrs oN).1 (aW t.attrs dU).1 n (by omega);unfold Aj;split
 .exact ⟨zF h a4 a5,by omega,by omega,a3⟩
 .split
  .exact ⟨zF h b4 b5,by omega,by omega,b3⟩
  .exact Wt h
theorem SA (p:aG) (k:Nat) (l:List oL) (h:kY p) (hl:bH oO l<=1048576):keeps p (sI p k l):=by
 have z1:=mK l dU;obtain ⟨a1,a2,a3,a4,a5⟩:=zN p 4 (aW l oN).1 (aW l dU).1 ((k:Nat):Int) (by omega);obtain ⟨b1,b2,b3,b4,b5⟩:=zN p 3 (aW l oN).1 (aW l dU).1 ((k:Nat):Int) (by omega);obtain ⟨e1,e2,e3,e4,e5⟩:=Sz p (aW l oN).1;unfold sI;split
 .split
  .exact ⟨h,by show nS p<=_;omega,by show BQ p<=_;omega,by show p.aB.length<=_;omega⟩
  .exact Wt h
 .split
  .exact ⟨zF h a4 a5,by omega,by omega,a3⟩
  .split
   .exact ⟨zF h e4 e5,by omega,e2,by rw [e3];omega⟩
   .refine ⟨zF h b4 b5,?_,?_,b3⟩
    .show nS (gU p 3 (aW l oN).1 (aW l dU).1 ((k:Nat):Int)).1<=_;omega
    .show BQ (gU p 3 (aW l oN).1 (aW l dU).1 ((k:Nat):Int)).1<=_;omega
theorem SB (b:bF) (t:bV):(addToken b t).1.nodes=b.nodes\/(addToken b t).1.nodes=b.nodes++[tL b t]:=by
 unfold addToken;split
 .exact .inl rfl
 .split
  .exact .inl rfl
  .split
   .exact .inl rfl
   .exact .inr rfl
theorem cz {p:aG} {t:bV} {q:List bV} (hq:p.queue=t::q) (h:kY p):CP p {p with queue:=q,builder:=(addToken p.builder t).1}/\nS {p with queue:=q,builder:=(addToken p.builder t).1}<=nS p+2:=by
 have h1:=uD hq;have ht:bH oO t.attrs<=1048576:=h.2 t (by rw [hq];simp);have hn:=SB p.builder t;have hg:nS {p with queue:=q,builder:=(addToken p.builder t).1}<=nS p+2:=by
  have hl:p.builder.nodes.length<=(addToken p.builder t).1.nodes.length:=by
   rcases hn with hn|hn<;>rw [hn]
   .exact eE _
   .simp
  simp only [nS,JC,tT] at *;omega
 refine ⟨⟨⟨?_,λx hx=>h.2 x (by rw [hq];simp [show x∈q from hx])⟩,by omega,eE _,by simp only;omega⟩,hg⟩;intro nd hnd;rcases hn with hn|hn
 .exact h.1 nd (by rw [<-hn];exact hnd)
 .have WO:nd∈p.builder.nodes++[tL p.builder t]:=by rw [<-hn];exact hnd
  rcases fL.1 WO with h2|h2
  .exact h.1 nd h2
  .simp only [pZ] at h2;subst h2;unfold tL;split
   .exact ht
   .simp [bH]
theorem SC {p q r:aG} (h1:nS q<=nS p+2/\BQ q<=BQ p/\q.aB.length<=max p.aB.length 20) (hr:kY r) (h2:nS r<=nS q) (h3:BQ r<=BQ q) (h4:r.aB.length<=max q.aB.length 20):CP p r:=⟨hr,by omega,by omega,by omega⟩
theorem Pf (p:aG) (h:kY p):CP p (iN p).1:=by
 unfold iN;split
 .exact pJ h
 .rename_i t q hq;split
  .obtain ⟨⟨g1,g2,g3,g4⟩,g5⟩:=cz hq h;have ht:bH oO t.attrs<=1048576:=h.2 t (by rw [hq];simp);simp only;unfold jP;generalize hp1:({p with queue:=q,builder:=(addToken p.builder t).1}:aG)=p1 at *;split
   .rename_i k hk;have hl:bH oO ((p.builder.nodes[k]?).elim [] (·.attrs))<=1048576:=by
     cases hg:p.builder.nodes[k]? with
     |none=>simp [bH]
     |some nd=>exact h.1 nd (mS hg)
    obtain ⟨e1,e2,e3,e4⟩:=SA p1 k ((p.builder.nodes[k]?).elim [] (·.attrs)) g1 hl;exact SC ⟨g5,g3,g4⟩ e1 e2 e3 e4
   .split
    .obtain ⟨e1,e2,e3,e4⟩:=cu p1 t (addToken p.builder t).2 g1 ht;exact SC ⟨g5,g3,g4⟩ e1 e2 e3 e4
    .exact ⟨g1,g2,g3,g4⟩
  .exact pJ h
theorem Pg (b:bF) (ss:List gW) (l:List jW):∀nd∈(eH b ss l).1.nodes,nd∈b.nodes\/nd.attrs=[]:=by
 have one:∀(c:bF) (x:jW),∀nd∈(bW c ss x).1.nodes,nd∈c.nodes\/nd.attrs=[]:=by
  intro c x nd h;unfold bW at h;split at h
  .exact .inl h
  .split at h
   .split at h
    .rcases fL.1 h with h|h
     .exact .inl h
     .simp only [pZ] at h;subst h;exact .inr rfl
    .exact .inl h
   .split at h
    .exact .inl h
    .split at h
     .exact .inl h
     .split at h<;>exact .inl h
 have key:∀(l:List jW) (s:bF×bB×List bB),(∀nd∈s.1.nodes,nd∈b.nodes\/nd.attrs=[])->∀nd∈(l.foldl (tK ss) s).1.nodes,nd∈b.nodes\/nd.attrs=[]:=by
  intro l;induction l with
  |nil=>intro s h;exact h
  |cons x l ih=>
   intro s h;refine ih (tK ss s x) (λnd hn=> ?_);rcases one s.1 x nd hn with h2|h2
   .exact h nd h2
   .exact .inr h2
 exact key l (b,[],[]) (λnd h=> .inl h)
theorem Iz (p:aG) (l:List jW) (wr:Bool) (hs:aJ p<=536870912) (h6:l.length<=6) (hx:∀x∈l,x.text.length<=60) (h:kY p):kY (lM p l wr)/\JC (lM p l wr)<=JC p+(if wr=true then 721 else 0):=by
 have hsb:aS p.builder<=536870912:=by simp only [aJ] at hs;omega
 obtain ⟨z1,z2,z3,z4⟩:=Bw 60 p.builder (dI p) l (by omega) h6 hx (xI p) (by omega) l.length (eE _);have hend:sH p.builder (dI p) l l.length=eH p.builder (dI p) l:=by simp [sH]
 rw [hend] at z2;have hnd:=Pg p.builder (dI p) l;obtain ⟨y1,y2⟩:=Gc (eH p.builder (dI p) l).2.1;have hp:=Lr p l hs hx;unfold lM at hp⊢;generalize eH p.builder (dI p) l=g at *;obtain ⟨b,w,lg⟩:=g;simp only [eS,hH] at *;generalize hk:vI w=tk at *;refine ⟨⟨?_,?_⟩,?_⟩
 .intro nd hn;rcases hnd nd hn with h2|h2
  .exact h.1 nd h2
  .rw [h2];simp [bH]
 .intro t ht;simp only at ht;have h1:t∈tk\/t∈p.queue:=by
   split at ht
   .exact fL.1 ht
   .exact .inr ht
  rcases h1 with h1|h1
  .have h2:=bU bX h1;have h3:bH oO t.attrs<=bX t:=by simp only [bX,bT];omega
   omega
  .exact h.2 t h1
 .cases wr
  .simpa using hp
  .simp only [JC,aJ,bT,gO,eR,jD] at hp⊢;omega
theorem JD (l:List bB) (s:bB) (h:s.length<=90):bT gM (kC l s)+91 * (40 - (kC l s).length)<=bT gM l+91 * (40 - l.length):=Sv l [s] (by simpa using h)
theorem CZ (p:aG) (c:bB) (wr:Bool) (hs:aJ p<=536870912) (h:kY p):CP p (lQ p c wr):=by
 obtain ⟨b1,b2⟩:=zL c;unfold lQ;split
 .obtain ⟨h1,h2⟩:=Iz p (gG c).1 wr hs b1 b2 h;refine ⟨h1,?_,eE _,by show p.aB.length<=_;omega⟩;have e:tT (lM p (gG c).1 wr)=tT p:=rfl;have e2:(lM p (gG c).1 wr).aB=p.aB:=rfl;have e3:(lM p (gG c).1 wr).entries=p.entries:=rfl;have h3:(if wr=true then 721 else 0)<=721:=by split<;>omega
  simp only [nS,e,e2,e3];omega
 .have h1:=JD p.log MZ (by simp [MZ]);refine ⟨h,?_,eE _,by show p.aB.length<=_;omega⟩;simp only [nS,JC,tT,aJ] at *;omega
theorem df (r:List aK) (b:aK) (m:dY):sM (r++[b]) m<=sM r m:=by unfold sM;rw [any_append];cases r.any (iV m.to)<;>simp;split<;>omega
theorem Wu (r:List aK) (b:aK):∀l:List dY,bH (sM (r++[b])) l<=bH (sM r) l
 |[]=>eE _
 |m::l=>by have:=df r b m;have:=Wu r b l;simp only [bH];omega
theorem Wv (r:List aK) (b:aK) (hr:r.any (iV b)=false):∀l:List dY,b∈l.map (·.to)->bH (sM (r++[b])) l+1+aQ b<=bH (sM r) l
 |[],h=>by simp at h
 |m::l,h=>by
  simp only [mA,lE] at h;by_cases hb:b=m.to
  .have h1:=Wu r b l;have e1:sM r m=1+aQ b:=by unfold sM;rw [<-hb,hr];simp
   have e2:sM (r++[b]) m=0:=by unfold sM;rw [<-hb,any_append];simp [iV]
   simp only [bH];omega
  .have h1:=Wv r b hr l (by rcases h with h|h;exact (hb h).elim;exact h);have h2:=df r b m;simp only [bH];omega
theorem dh (q:aG) (b:aK) (hs:aJ q+1+aQ b<=536870912) (hm:b∈q.aM.map (·.to)) (h:kY q):kY (rC q b)/\JC (rC q b)+tT (rC q b)<=JC q+tT q:=by
 unfold rC;split
 .exact ⟨h,eE _⟩
 .rename_i hr;obtain ⟨b1,b2⟩:=CL (zD q b) b.host;have hr2:q.tH.any (iV b)=false:=by simpa using hr
  have h3:=Wv q.tH b hr2 q.aM hm;have hz:aJ {q with tH:=q.tH++[b]}=aJ q+1+aQ b:=by simp only [aJ,bT,eR,jD,bH,eN,eW];omega
  obtain ⟨k1,k2⟩:=Iz {q with tH:=q.tH++[b]} (bJ (zD q b) b.host).2.1 false (by omega) b1 b2 h;refine ⟨k1,?_⟩;have e:tT (lM {q with tH:=q.tH++[b]} (bJ (zD q b) b.host).2.1 false)=bH (sM (q.tH++[b])) q.aM:=rfl;have e2:JC {q with tH:=q.tH++[b]}=JC q+1+aQ b:=by simp only [JC,hz];omega
  have e3:tT q=bH (sM q.tH) q.aM:=rfl;rw [e,e3];rw [e2] at k2;simp only [eS,hH] at k2;omega
theorem Lv (p:aG) (L:List aK) (hL:aJ p+6120+bT aQ L<=536870912) (hm:∀b∈L,b∈p.aM.map (·.to)) (h:kY p):∀k,k<=L.length->kY (jJ p L k)/\JC (jJ p L k)+tT (jJ p L k)<=JC p+tT p/\(jJ p L k).entries=p.entries
 |0,_=>⟨h,eE _,rfl⟩
 |k+1,hk=>by
  obtain ⟨h1,h2,h3⟩:=Lv p L hL hm h k (by omega);obtain ⟨f1,f2,f3⟩:=wM p L hL k (by omega);have hp:=(BP p).2;have hq:=(BP (jJ p L k)).1;have hb:=hm L[k] (fN (by omega));have e1:bT aQ (L.take (k+1))=bT aQ (L.take k)+1+aQ L[k]:=by rw [eK (show k < L.length by omega)];simp only [bT,eR,eN,eW,jD,bH];omega
  have e2:bT aQ (L.take (k+1))<=bT aQ L:=by have:=zB aQ L (k+1);simp only [bT,oR];omega
  obtain ⟨k1,k2⟩:=dh (jJ p L k) L[k] (by omega) (by rw [f2];exact hb) h1;rw [AR p L k (by omega)];refine ⟨k1,by omega,?_⟩;rw [<-h3];unfold rC lM;split<;>rfl
theorem di (p:aG) (a:aK) (hs:aJ p<=500000000) (hm:bT bL p.aM+aQ a<=16777216) (h:kY p):keeps p (oC p a):=by
 unfold oC;split
 .have hf:=BL a;have h1:=JD p.log (Su++lZ a) (by simp only [Su,eR,eN,eW];omega);refine ⟨h,?_,eE _,by show p.aB.length<=_;omega⟩;simp only [nS,JC,tT,aJ] at *;omega
 .rename_i hf;obtain ⟨r1,r2,r3⟩:=Gq p a hm (by simpa using hf);obtain ⟨k1,k2,k3⟩:=Lv p (dZ p a) (by omega) (λb hb=>Sw (r3 b hb)) h _ (eE _);obtain ⟨f1,f2,f3⟩:=wM p (dZ p a) (by omega) _ (eE _);generalize jJ p (dZ p a) (dZ p a).length=q at *;refine ⟨k1,?_,?_,by rw [f3];omega⟩
  .simp only [nS,f3,k3];omega
  .simp only [BQ,f2,k3];omega
theorem Ph (p:aG) (k:Int) (hs:aJ p<=536870912) (h:kY p):CP p (Be p k).1:=by
 have hb:∀q:aG,CP p q->CP p {q with block:=0}:=λq hq=>hq
 unfold Be;split
 .split
  .rename_i s _;split
   .simp only;split
    .exact hb _ (CZ p s.body true hs h)
    .exact hb _ (pJ h)
   .exact pJ h
  .exact hb _ (pJ h)
 .exact hb _ (pJ h)
theorem Nj (p:aG) (hs:aJ p<=536870912) (h:kY p):CP p (jG p).1:=by
 unfold jG;split
 .split
  .exact (show CP p {lQ p (BK p.builder p.inline) true with inline:=0} from CZ p _ true hs h)
  .exact pJ h
 .split
  .exact Ph p _ hs h
  .exact Pf p h
theorem SE (p:aG) (hs:aJ p<=500000000) (hme:bT bL p.aM+bT aQ p.entries<=16777216) (h:kY p):CP p (nR p).1:=by
 unfold nR;split
 .split
  .split
   .rename_i s _;unfold Ls;split
    .simp only;split
     .exact (show CP p {lQ p s.body false with deferred:=p.deferred+1} from CZ p s.body false (by omega) h)
     .exact (show CP p {p with deferred:=p.deferred+1} from pJ h)
    .exact pJ h
   .exact pJ h
  .split
   .rename_i a hg;have h1:=bU aQ (mS hg);have h2:bH aQ p.entries<=bT aQ p.entries:=by simp only [bT];omega
    obtain ⟨k1,k2,k3,k4⟩:=di p a hs (by omega) h;unfold Lt;split
    .refine ⟨k1,?_,k3,k4⟩;show nS (oC p a)<=_;omega
    .exact pJ h
   .unfold Lu;split
    .have h1:=JD p.log Sy (by simp [Sy]);refine ⟨h,?_,eE _,by show p.aB.length<=_;omega⟩;simp only [nS,JC,tT,aJ] at *;omega
    .exact pJ h
 .exact pJ h
structure aJh (k : Nat) (q : aG) : Prop where
  at_ : kY q
  ga : nS q <= 25000000 + 721 * k
  en : BQ q <= 2000000
  sl : q.aB.length <= 1048576
theorem aJh.sz {k:Nat} {q:aG} (h:aJh k q) (hk:k<=2000):aJ q<=27000000/\bT bL q.aM+bT aQ q.entries<=16777216:=by have h1:=h.ga;have h2:=h.en;have h3:=(BP q).1;simp only [nS,BQ] at h1 h2;omega
theorem aEo {k:Nat} {q:aG} {r:aG} (hk:k < 2000) (h:pQ (2000 - k) q=r):((wQ q).2=true->pQ (2000 - (k+1)) (wQ q).1=r)/\((wQ q).2=false->q=r):=by
 obtain ⟨n,hn⟩:∃n,2000 - k=n+1:=⟨1999 - k,by omega⟩;rw [hn] at h;have e:2000 - (k+1)=n:=by omega
 rw [e];unfold pQ at h;constructor
 .intro h2;rw [eI h2] at h;exact h
 .intro h2;rw [h2] at h;simpa using h
theorem eu (p:aG) (a:aK) (x:bA):(lS p a x).aB.length=p.aB.length:=(yK p a x _).1
theorem vk (p:aG) (a:aK) (x:bA):aJ (lS p a x)<=aJ p+p.aB.length * 400:=(yK p a x _).2.2
theorem aEr (s b:bB):aQ (bY s b).1<=16:=by
 unfold bY;split
 .rename_i h;simp only [oP,dB,eJ,fR] at h;simp only [aQ];omega
 .simp [aQ,wV]
theorem fu (base:bB):∀(ps:List bB) (l:List aK) (r:List bB),oH base ps=some (l,r)->∀b∈l,aQ b<=16
 |[],l,r,h=>by simp only [oH,eC,oE] at h;obtain ⟨rfl,_⟩:=h;simp
 |p::ps,l,r,h=>by
  simp only [oH] at h;split at h
  .split at h
   .cases hq:oH base ps with
    |none=>rw [hq] at h;simp at h
    |some q=>
     rw [hq] at h;simp only [mC,eC,oE] at h;obtain ⟨rfl,_⟩:=h;intro b hb;rcases lE.1 hb with rfl|hb
     .exact aEr _ _
     .exact fu base ps q.1 q.2 (by rw [hq]) b hb
   .cases h
  .simp only [eC,oE] at h;obtain ⟨rfl,_⟩:=h;simp
theorem aEs (s b:bB):∀a∈(bJ s b).1,aQ a<=16:=by
 unfold bJ;split
 .simp
 .rename_i l r h;split
  .exact fu b _ l r h
  .simp
theorem aEt (q:aG) (a:aK):∀b∈iO q a,aQ b<=16:=by
 unfold iO;split
 .split
  .exact aEs _ _
  .simp
 .simp
def qG:List (Nat×Nat):=[(4,20),(5,21),(6,22),(7,23),(8,24),(9,25),(10,26),(11,27),(12,28),(13,29),(14,30)]
theorem vo {t t':List AV} {o o':List aN} {o0 o1 o2 o3 m0 m1 m2 e0:aN} {q0 q:aG} (ho:o=[o0,o1,o2,o3]++lN q0++[⟨true,true,22,0,[jI 20 q]⟩,m0,m1,m2,e0]++lN q) (ho':o'=[o0,o1,o2,o3]++lN q++[⟨true,true,22,0,[jI 4 q]⟩,m0,m1,m2])
  (ht:∀z∈qG,wk (qP z.1 z.2 t') t') (hf:∀z∈qG,o0.lK z.1 z.2=o0/\o1.lK z.1 z.2=o1/\o2.lK z.1 z.2=o2/\o3.lK z.1 z.2=o3/\m0.lK z.1 z.2=m0/\m1.lK z.1 z.2=m1/\m2.lK z.1 z.2=m2) (hw:wk t t') (hc:eX 19 t'=true) (hc0:dE 19 [o0,o1,o2,o3,m0,m1,m2]=true):mX ⟨t,o⟩ ⟨t',o'⟩:=by
 subst ho;subst ho';have e:=λi j (h:(i,j)∈qG)=>hf (i,j) h
 have h:=λi j (h:(i,j)∈qG)=>ht (i,j) h
 simp only [lN,jI,eA,eM];refine (wT hw).trans ?_;refine (aR 4 20 rfl rfl ⟨rfl,rfl⟩ (by simp [(e 4 20 (by decide))];rfl) (h 4 20 (by decide))).trans ?_;refine (aR 5 21 rfl rfl ⟨rfl,rfl⟩ (by simp [(e 5 21 (by decide))];rfl) (h 5 21 (by decide))).trans ?_;refine (aR 6 22 rfl rfl ⟨rfl,rfl⟩ (by simp [(e 6 22 (by decide))];rfl) (h 6 22 (by decide))).trans ?_;refine (aR 7 23 rfl rfl ⟨rfl,rfl⟩ (by simp [(e 7 23 (by decide))];rfl) (h 7 23 (by decide))).trans ?_;refine (aR 8 24 rfl rfl ⟨rfl,rfl⟩ (by simp [(e 8 24 (by decide))];rfl) (h 8 24 (by decide))).trans ?_;refine (aR 9 25 rfl rfl ⟨rfl,rfl⟩ (by simp [(e 9 25 (by decide))];rfl) (h 9 25 (by decide))).trans ?_;refine (aR 10 26 rfl rfl ⟨rfl,rfl⟩ (by simp [(e 10 26 (by decide))];rfl) (h 10 26 (by decide))).trans ?_;refine (aR 11 27 rfl rfl ⟨rfl,rfl⟩ (by simp [(e 11 27 (by decide))];rfl) (h 11 27 (by decide))).trans ?_;refine (aR 12 28 rfl rfl ⟨rfl,rfl⟩ (by simp [(e 12 28 (by decide))];rfl) (h 12 28 (by decide))).trans ?_;refine (aR 13 29 rfl rfl ⟨rfl,rfl⟩ (by simp [(e 13 29 (by decide))];rfl) (h 13 29 (by decide))).trans ?_;refine (aR 14 30 rfl rfl ⟨rfl,rfl⟩ (by simp [(e 14 30 (by decide))];rfl) (h 14 30 (by decide))).trans ?_;refine aX 19 (by simp) (mD _) hc ?_;simpa [dE,eX,closed] using hc0
theorem JJ {q:aG} {a:aK} {m:dY} (hf:q.aM.find? (kQ a)=some m):iO q a=if m.done=true/\m.code=1 then (bJ m.body a.host).1 else []:=by unfold iO;rw [hf]
theorem Ow {q:aG} {a:aK} {m:dY} (hf:q.aM.find? (kQ a)=some m) (hb:m.body.length<=400):(iO q a).length<=57/\∀b∈iO q a,aQ b<=16:=by
 refine ⟨?_,aEt q a⟩;rw [JJ hf];split
 .obtain ⟨h1,_,h3⟩:=yI m.body a.host;omega
 .simp
theorem Ox {q:aG} {l:List aK} (h0:aJ q<=536871424) (h1:l.length<=57) (h2:∀b∈l,aQ b<=16) (i:Nat):aJ (kV q (l.take i))<=536872448:=by
 have h:=SN 16 (l.take i) q (λx hx=>h2 x (tB hx));have h3:(l.take i).length<=57:=by rw [oR];omega
 have h4:=hY (16+1) h3;omega
theorem LA [aC prog] [bR prog] [dK prog] (p:aG) (a:aK) (x:bA) (hs:aJ p<=536870912/\aQ a<=536870912) (hx:bI x<=1048576):Ok prog 153 [.agg (aI .view p),.agg (aL a),.agg (bG x)] (.agg (aI .own (jT p a x))):=by
 have hs1:=hs.1;have hml:p.aM.length<=536870912:=by simp only [aJ,bT] at hs1;omega
 have Gh:eO p.bD<=274877906944:=by simp only [aJ] at hs1;omega
 have c1:=iK p (by omega);have c2:=yH p a (by omega);rcases lI (kQ a) p.aM with ⟨hi,hf⟩|⟨k,hk,hi,hf⟩
 .rw [EH hi];rw [hi] at c2;simp only [aI,aL] at c1 c2;refine bO aD func153 ntmps153 ?_;refine aZ ?_;exact aF results153
 .have hg:=aE hk;rw [hi] at c2;have hk0:¬((k:Nat):Int) < 0:=by omega
  cases hd:p.aM[k].done
  .rw [Hg hi hg hd];have cR:=uO p k (by omega) (by omega) (by omega);have e:oU p (k:Int)=eP p p.aM[k]:=by simp [oU,hg]
   rw [e] at cR;have hrq:jM (eP p p.aM[k])<=1073741824:=by have hm:=bU bL (fN hk);simp only [bL] at hm;simp only [jM,eP,eW];simp only [aJ,bT,aQ] at hs1 hm⊢;omega
   have c3:=vN p.bD (eP p p.aM[k]) x Gh (by omega) hx;have c4:=CR p.bD (eP p p.aM[k]) x Gh (by omega) hx;simp only [aI,dF] at cR;simp only [bP,dF,bG] at c3 c4;simp only [aI,aL] at c1 c2;clear e;have Fp:=Gr (x:=x) hi hk hf;have hqs:=XR p k hk x;have hub:=DN p.bD (eP p p.aM[k]) x;have hset:(p.aM.map eZ).set k [.str p.aM[k].to.host,.str p.aM[k].to.path,.bool true,.int .i64 (dV p.bD (eP p p.aM[k]) x),.str (jH p.bD (eP p p.aM[k]) x)]=(p.aM.set k (jA p p.aM[k] x)).map eZ:=by rw [map_set];rfl
   have hg3:(p.aM.set k (jA p p.aM[k] x))[k]? =some (jA p p.aM[k] x):=by rw [nB hk]
   unfold Lx;have hfm:(jA p p.aM[k] x).done=true/\(jA p p.aM[k] x).code=dV p.bD (eP p p.aM[k]) x/\(jA p p.aM[k] x).body=jH p.bD (eP p p.aM[k]) x:=⟨rfl,rfl,rfl⟩;have F8:(p.aM.set k (jA p p.aM[k] x)).length=p.aM.length:=by simp
   generalize dV p.bD (eP p p.aM[k]) x=c at *;generalize jH p.bD (eP p p.aM[k]) x=y at *;generalize eP p p.aM[k]=rq at *;generalize jA p p.aM[k] x=m3 at *;generalize p.aM.set k m3=L3 at *;obtain ⟨f1,f2,f3⟩:=hfm;have aId:k < L3.length:=by omega
   have e3:∀h,(L3[k]'h)=m3:=λh=>by rw [aE h] at hg3;exact cQ hg3
   obtain ⟨b1,b2⟩:=Ow (q:={p with aM:=L3}) Fp (by rw [f3];exact hub);have hv:=JJ (q:={p with aM:=L3}) Fp;generalize iO {p with aM:=L3} a=L at *;by_cases hc1:c=1
   .rw [eI ⟨f1,by rw [f2];exact hc1⟩,f3] at hv;have cP:=tO y a.host (by omega) (by simp only [aQ] at hs;omega);generalize bJ y a.host=u at *;obtain ⟨u1,u2,u3⟩:=u;simp only at hv cP;subst hv;subst hc1;refine bO aD func153 ntmps153 ?_;have W:=aA hk0 (aA hg (aA hd (aA hk (aA hset (aA aId (aA e3 (aA f1 (aA f2 f3))))))));refine we ?_;have hq0:aJ {p with aM:=L3}<=536871424:=by omega
    have hts:=Ox hq0 b1 b2;have ML:=λi (h:i < L.length)=>show kV {p with aM:=L3} (L.take (i+1))=eU (kV {p with aM:=L3} (L.take i)) L[i] by rw [eK h,Ov]
    have h00:kV {p with aM:=L3} (L.take 0)={p with aM:=L3}:=by simp [kV]
    have hall:L.length<=1099511627776:=by omega
    refine aP (ι:={k:Nat // k<=L.length}) (λt o i=>⟨bE t [(84,.int .i64 i.1),(14,.undef),(16,.undef),(35,.undef),(37,.undef),(38,.undef),(40,.undef),(47,.undef),(48,.undef),(51,.undef),(60,.undef),(61,.undef),(63,.undef),(65,.undef),(66,.undef),(71,.undef),(73,.undef),(74,.undef)],o.take 4++lN (kV {p with aM:=L3} (L.take i.1))++[⟨true,true,22,0,[jI 4 (kV {p with aM:=L3} (L.take i.1))]⟩]++o.drop 16⟩)
     (λi=>L.length - i.1) ⟨0,by simp⟩ (aO (by simp only [h00];simp [lN,jI]) (by simp)) ?_
    rintro ⟨i,hi2⟩ K1 hK1;have hi1:i64.wrap ((i:Int)+1)=((i+1:Nat):Int):=by rw [wrap64]<;>omega
    by_cases hlt:i < L.length
    .have hgi:=aE hlt;have cA:=DJ (kV {p with aM:=L3} (L.take i)) L[i] (by have:=hts i;omega) (by have:=b2 _ (fN hlt);omega);have hnext:=ML i hlt;rw [<-hnext] at cA;have hK2:=hK1;simp only [bE,cW,cU,eL,fS,eA,eM,pB,AF,lN,jI] at hK1⊢;clear ML h00 hnext hts;generalize hq1:kV {p with aM:=L3} (L.take i)=q at *;generalize hq2:kV {p with aM:=L3} (L.take (i+1))=q' at *;simp only [aI,aL] at cA;have W:=aA hi1 (aA hgi hlt);refine we ?_;refine hK2 _ ⟨i+1,by omega⟩ ?_ (by simp only;omega);simp only [hq2];exact vo (q0:=q) (q:=q') rfl (by simp [lN,jI]) (by simp [qG]) (by simp [qG]) (by simp) (by simp) (by simp)
    .have htk:L.take i=L:=cY (by omega);have hK2:=hK1;simp only [bE,cW,cU,eL,fS,eA,eM,pB,AF,lN,jI,htk] at hK1⊢;clear ML h00 hts hK2 hK1;generalize kV {p with aM:=L3} L=q at *;have W:=aA hi1 hlt;refine we ?_;exact aF results153
   .rw [cX (λh=>hc1 (by rw [<-f2];exact h.2))] at hv
    subst hv;have hnil:kV {p with aM:=L3} []={p with aM:=L3}:=rfl;rw [hnil];refine bO aD func153 ntmps153 ?_;have W:=aA hk0 (aA hg (aA hd (aA hk (aA hset (aA aId (aA e3 (aA f1 (aA f2 (aA f3 hc1)))))))));refine we ?_;exact aF results153
  .rw [EI hi hg hd];simp only [aI,aL] at c1 c2;refine bO aD func153 ntmps153 ?_;have W:=aA hk0 (aA hg (aA hd hk));refine we ?_;exact aF results153
theorem A8 (p:aG) (a:aK):(eU p a).bD=p.bD/\(eU p a).addr=p.addr/\(eU p a).aB=p.aB:=by rcases ask_cases p a with ⟨e,_⟩|⟨e,_⟩<;>rw [e]<;>exact ⟨rfl,rfl,rfl⟩
end Go.Proofs.YtdcpobkemdacnaaGreatDoor
