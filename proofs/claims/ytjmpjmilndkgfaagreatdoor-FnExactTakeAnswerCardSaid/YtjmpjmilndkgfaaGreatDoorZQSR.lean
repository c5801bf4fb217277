/- Proved here: steps towards the statement of this claim. No condition. -/
import Derived.Test.YtjmpjmilndkgfaaGreatDoorZQQ2
import Derived.Test.YtjmpjmilndkgfaaGreatDoorZQRLic
set_option linter.all false
set_option maxRecDepth 4000
set_option maxHeartbeats 4000000
namespace Go.Proofs.YtjmpjmilndkgfaaGreatDoor
open Go.Aw Proofs.Tryz List IntKind
def nO (s:kJ):Bool:= !(decide (s.mode=2)&& !s.done)
theorem BA [aC prog] (p:aI) (hl:p.aB.length<=1099511627776):Ok prog 107 [.agg (aJ .view p)] (.bool (p.aB.all nO)):=by
 refine bR aD func107 ntmps107 ?_;refine gJ ?_;refine aL (ι:={k:Nat // k<=p.aB.length/\∀x∈p.aB.take k,nO x=true}) (λt o i=>⟨bD t [(3,.int .i64 i.1)],o⟩)
  (λi=>p.aB.length - i.1) ⟨0,by simp⟩ aH ?_
 rintro ⟨k,hk,hpre⟩ K1 hK1;simp only [bD,cW,cU] at hK1⊢;have hk1:=oW (k:=k);by_cases hlt:k < p.aB.length
 .have hg:=aE hlt;have W:=aA hk1 (aA hg hlt);repeat' first|refine wg ?_|(refine sq ?_ ?_<;>intro hc<;>try exact hc.elim)|fail
  all_goals first
   |(refine hK1 _ ⟨k+1,by omega,dV hlt hpre (by simp_all [nO])⟩ aH (by simp only;omega);done)
   |skip
  all_goals try(refine aR ?_;simp [aG,results107])
  exact ⟨_,fR hlt,by simp_all [nO]⟩
 .have W:=hk1;refine wl ?_;all_goals try(refine aR ?_;simp [aG,results107])
  exact mQ (by omega) hpre
theorem BB [aC prog] (p:aI) (hl:p.aB.length<=1099511627776):Ok prog 131 [.agg (aJ .view p)] (.bool (p.aB.all nO)):=by
 refine bR aD func131 ntmps131 ?_;refine gJ ?_;refine aL (ι:={k:Nat // k<=p.aB.length/\∀x∈p.aB.take k,nO x=true}) (λt o i=>⟨bD t [(8,.int .i64 i.1)],o⟩)
  (λi=>p.aB.length - i.1) ⟨0,by simp⟩ aH ?_
 rintro ⟨k,hk,hpre⟩ K1 hK1;simp only [bD,cW,cU] at hK1⊢;have hk1:=oW (k:=k);by_cases hlt:k < p.aB.length
 .have hg:=aE hlt;have W:=aA hk1 (aA hg hlt);repeat' first|refine wg ?_|(refine sq ?_ ?_<;>intro hc<;>try exact hc.elim)|fail
  all_goals first
   |(refine hK1 _ ⟨k+1,by omega,dV hlt hpre (by simp_all [nO])⟩ (aW 1 rfl (by simp) (by simp) (by simp)) (by simp only;omega);done)
   |skip
  all_goals try(refine aR ?_;simp [aG,results131])
  exact ⟨_,fR hlt,by simp_all [nO]⟩
 .have W:=hk1;refine wl ?_;all_goals try(refine aR ?_;simp [aG,results131])
  exact mQ (by omega) hpre
def Em (n:Int) (s:bF) (x:gF):bF:=if x.parent=n/\x.name=[] then s++x.text else s
def BC (b:bC) (n:Int):bF:=b.nodes.foldl (Em n) []
def Kl (b:bC) (n:Int) (k:Nat):bF:=(b.nodes.take k).foldl (Em n) []
theorem VH (b:bC) (n:Int) (k:Nat) (h:k < b.nodes.length):Kl b n (k+1)=Em n (Kl b n k) b.nodes[k]:=by unfold Kl;rw [eA h,DQ];rfl
theorem ql (n:Int) (s:bF) (x:gF):(Em n s x).length<=s.length+iF x:=by
 unfold Em iF;split
 .simp only [eR];omega
 .omega
theorem aD7 (n:Int):∀(l:List gF) (s:bF),(l.foldl (Em n) s).length<=s.length+aQ iF l
 |[],s=>by simp [aQ]
 |x::l,s=>by have h1:=aD7 n l (Em n s x);have h2:=ql n s x;simp only [foldl_cons,aQ];omega
theorem yK {α:Type} (f:α->Nat):∀(l:List α) (k:Nat),aQ f (l.take k)<=aQ f l
 |[],k=>by simp [aQ]
 |x::l,0=>by simp [aQ]
 |x::l,k+1=>by have:=yK f l k;simp only [eM,aQ];omega
theorem Rl (b:bC) (n:Int) (k:Nat):(Kl b n k).length<=aP b:=by have h1:=aD7 n (b.nodes.take k) [];have h2:=yK iF b.nodes k;unfold Kl;simp only [aP,bV,eW] at *;omega
theorem Rm (b:bC) (n:Int):(BC b n).length<=aP b:=by
 have:=Rl b n b.nodes.length;unfold Kl at this
 rwa [rN] at this
theorem TY [aC prog] (b:bC) (n:Int) (hs:aP b<=1099511627776):Ok prog 133 [.agg (aS .view b),.int .i64 n] (.str (BC b n)):=by
 have hN:b.nodes.length<=1099511627776:=by simp only [aP,bV] at hs;omega
 have hend:Kl b n b.nodes.length=BC b n:=by unfold Kl BC;rw [rN]
 rw [<-hend];have hz:Kl b n 0=[]:=rfl;have qg:=λk=>Rl b n k
 have hsu:=VH b n;generalize Kl b n=T at *;clear hend;refine bR aD func133 ntmps133 ?_;refine gJ ?_;refine aL (ι:={k:Nat // k<=b.nodes.length}) (λt o i=>⟨bD t [(11,.int .i64 i.1),(5,.str (T i.1))],o⟩)
  (λi=>b.nodes.length - i.1) ⟨0,by simp⟩ (aH (by simp) (by simp [hz])) ?_
 rintro ⟨k,hk⟩ K1 hK1;simp only [bD,cW,cU] at hK1⊢;have hk1:=oW (k:=k);by_cases hlt:k < b.nodes.length
 .have hg:=aE hlt;have hnext:=hsu k hlt;have hl1:=qg (k+1);have hl0:=qg k;rw [hnext] at hl1;unfold Em at hnext hl1;clear hsu qg hz;generalize hT:T k=s at *;by_cases hp:b.nodes[k].parent=n
  .by_cases hn:b.nodes[k].name=[]
   .rw [eK ⟨hp,hn⟩] at hnext hl1;rw [eR] at hl1;have aLk:s.length+b.nodes[k].text.length<=1099511627776:=by omega
    have W:=aA hk1 (aA hg (aA hlt (aA hp (aA hn aLk))));refine wl ?_;all_goals refine hK1 _ ⟨k+1,by omega⟩ (aW 1 rfl (by simp [hnext]) (by simp) (by simp)) (by simp only;omega)
   .rw [cY (by simp [hn])] at hnext hl1;have hne:b.nodes[k].name.isEmpty=false:=by cases hc:b.nodes[k].name with|nil=>exact absurd hc hn|cons _ _=>rfl
    have W:=aA hk1 (aA hg (aA hlt (aA hp (aA hn hne))));refine wl ?_;all_goals refine hK1 _ ⟨k+1,by omega⟩ (aW 1 rfl (by simp [hnext]) (by simp) (by simp)) (by simp only;omega)
  .rw [cY (by simp [hp])] at hnext hl1;have W:=aA hk1 (aA hg (aA hlt hp));refine wl ?_;all_goals refine hK1 _ ⟨k+1,by omega⟩ (aW 1 rfl (by simp [hnext]) (by simp) (by simp)) (by simp only;omega)
 .have hkl:k=b.nodes.length:=by omega
  subst hkl;have W:=hk1;refine wl ?_;exact aK results133
theorem TZ [aC prog] (b:bC) (n:Int) (hs:aP b<=1099511627776):Ok prog 109 [.agg (aS .view b),.int .i64 n] (.str (BC b n)):=by
 have hN:b.nodes.length<=1099511627776:=by simp only [aP,bV] at hs;omega
 have hend:Kl b n b.nodes.length=BC b n:=by unfold Kl BC;rw [rN]
 rw [<-hend];have hz:Kl b n 0=[]:=rfl;have qg:=λk=>Rl b n k
 have hsu:=VH b n;generalize Kl b n=T at *;clear hend;refine bR aD func109 ntmps109 ?_;refine gJ ?_;refine aL (ι:={k:Nat // k<=b.nodes.length}) (λt o i=>⟨bD t [(6,.int .i64 i.1),(5,.str (T i.1))],o⟩)
  (λi=>b.nodes.length - i.1) ⟨0,by simp⟩ (aH (by simp) (by simp [hz])) ?_
 rintro ⟨k,hk⟩ K1 hK1;simp only [bD,cW,cU] at hK1⊢;have hk1:=oW (k:=k);by_cases hlt:k < b.nodes.length
 .have hg:=aE hlt;have hnext:=hsu k hlt;have hl1:=qg (k+1);have hl0:=qg k;rw [hnext] at hl1;unfold Em at hnext hl1;clear hsu qg hz;generalize hT:T k=s at *;by_cases hp:b.nodes[k].parent=n
  .by_cases hn:b.nodes[k].name=[]
   .rw [eK ⟨hp,hn⟩] at hnext hl1;rw [eR] at hl1;have aLk:s.length+b.nodes[k].text.length<=1099511627776:=by omega
    have W:=aA hk1 (aA hg (aA hlt (aA hp (aA hn aLk))));refine wl ?_;all_goals refine hK1 _ ⟨k+1,by omega⟩ (aH (by simp) (by simp [hnext])) (by simp only;omega)
   .rw [cY (by simp [hn])] at hnext hl1;have hne:b.nodes[k].name.isEmpty=false:=by cases hc:b.nodes[k].name with|nil=>exact absurd hc hn|cons _ _=>rfl
    have W:=aA hk1 (aA hg (aA hlt (aA hp (aA hn hne))));refine wl ?_;all_goals refine hK1 _ ⟨k+1,by omega⟩ (aH (by simp) (by simp [hnext])) (by simp only;omega)
  .rw [cY (by simp [hp])] at hnext hl1;have W:=aA hk1 (aA hg (aA hlt hp));refine wl ?_;all_goals refine hK1 _ ⟨k+1,by omega⟩ (aH (by simp) (by simp [hnext])) (by simp only;omega)
 .have hkl:k=b.nodes.length:=by omega
  subst hkl;have W:=hk1;refine wl ?_;exact aK results109
def iN (p:aI) (a:aT):List aT:=
 match p.aN.find? (kX a) with
 |some m=>if m.done=true/\m.code=1 then (bI m.body a.host).1 else []
 |none=>[]
def sZ (p:aI):List aT:=p.aN.flatMap λm=>(bI m.body m.to.host).1
def gH (p:aI):Nat->aT->List aT->List aT->List aT×List aT
 |0,_,seen,out=>(seen,out)
 |n+1,a,seen,out=>if seen.any (iT a)=true then (seen,out) else
   (((iN p a).foldl (λs b=>gH p n b s.1 s.2) (seen++[a],out)).1,((iN p a).foldl (λs b=>gH p n b s.1 s.2) (seen++[a],out)).2++[a])
def qD (p:aI) (seen:List aT):Nat:=(p.aN.filter λm=> !seen.any (iT m.to)).length
def eD (p:aI) (n:Nat) (l:List aT) (s:List aT×List aT):List aT×List aT:=l.foldl (λs b=>gH p n b s.1 s.2) s
theorem FJ (p:aI) (n:Nat) (l:List aT) (b:aT) (s:List aT×List aT):eD p n (l++[b]) s=gH p n b (eD p n l s).1 (eD p n l s).2:=by simp [eD]
theorem xK {l:List aT} {a:aT}:l.any (iT a)=true↔a∈l:=by simp [iT]
theorem IK (p:aI) (a:aT):∀b∈iN p a,b∈sZ p:=by
 intro b hb;unfold iN at hb;split at hb
 .rename_i m hm;split at hb
  .have h1:=DG hm;have h2:=qS hm;simp only [kX,fN] at h1;subst h1;exact Fl.2 ⟨m,h2,hb⟩
  .cases hb
 .cases hb
theorem qo {p:aI} {a:aT} (h:iN p a≠[]):∃m∈p.aN,m.to=a:=by
 unfold iN at h;split at h
 .rename_i m hm;have h1:=DG hm;simp only [kX,fN] at h1;exact ⟨m,qS hm,h1⟩
 .exact absurd rfl h
structure Seen (U : List aT) (s : List aT × List aT) : Prop where
  nd : s.1.Nodup
  sub : ∀ x ∈ s.1, x ∈ U
  ond : s.2.Nodup
  ZK : ∀ x ∈ s.2, x ∈ s.1
theorem Np {p:aI} {s s':List aT} (h:∀x∈s,x∈s'):qD p s'<=qD p s:=by
 unfold qD;have:∀l:List dB,(l.filter λm=> !s'.any (iT m.to)).length<=(l.filter λm=> !s.any (iT m.to)).length:=by
  intro l;induction l with
  |nil=>simp
  |cons m l ih=>
   simp only [filter_cons];by_cases h1:s.any (iT m.to)=true
   .have h2:s'.any (iT m.to)=true:=xK.2 (h _ (xK.1 h1));simp [h1,h2,ih]
   .simp only [wA] at h1;simp only [h1];split<;>simp<;>omega
 exact this p.aN
theorem VI {p:aI} {s:List aT} {a:aT} (h:¬s.any (iT a)=true) (hm:∃m∈p.aN,m.to=a):qD p (s++[a]) < qD p s:=by
 obtain ⟨m,hm,rfl⟩:=hm;unfold qD;have key:∀l:List dB,(l.filter λx=> !(s++[m.to]).any (iT x.to)).length<=(l.filter λx=> !s.any (iT x.to)).length/\(m∈l->(l.filter λx=> !(s++[m.to]).any (iT x.to)).length < (l.filter λx=> !s.any (iT x.to)).length):=by
  intro l;induction l with
  |nil=>simp
  |cons x l ih=>
   simp only [filter_cons];by_cases h1:s.any (iT x.to)=true
   .have h2:(s++[m.to]).any (iT x.to)=true:=xK.2 (nB _ (xK.1 h1));simp only [h1,h2,Fi,eS,gS];refine ⟨ih.1,λhmem=> ?_⟩;rcases lB.1 hmem with rfl|hmem
    .exact absurd h1 h
    .exact ih.2 hmem
   .by_cases h2:(s++[m.to]).any (iT x.to)=true
    .simp only [wA] at h1;simp only [h1,h2,Fi,eS,gS,Fm,gE,eL];exact ⟨by omega,λ_=>by omega⟩
    .have h2':=h2;simp only [wA] at h1 h2;simp only [h1,h2,Fm,gE,eL];refine ⟨by omega,λhmem=> ?_⟩;rcases lB.1 hmem with rfl|hmem
     .exact absurd (xK.2 (by simp)) h2'
     .have:=ih.2 hmem;omega
 exact (key p.aN).2 hm
theorem En {p:aI} {U:List aT} (hU:∀x∈sZ p,x∈U):∀(n:Nat) (a:aT) (s:List aT×List aT),a∈U->Seen U s->Seen U (gH p n a s.1 s.2)/\(∀x∈s.1,x∈(gH p n a s.1 s.2).1)
 |0,a,s,_,hs=>by simp only [gH];exact ⟨hs,λ_ h=>h⟩
 |n+1,a,s,ha,hs=>by
  simp only [gH];split
  .exact ⟨hs,λ_ h=>h⟩
  .rename_i hn;have hna:a∉s.1:=λh=>hn (xK.2 h)
   have key:∀(l:List aT) (q:List aT×List aT),(∀x∈l,x∈U)->Seen U q->(a∈q.1/\a∉q.2)->Seen U (l.foldl (λs b=>gH p n b s.1 s.2) q)/\(∀x∈q.1,x∈(l.foldl (λs b=>gH p n b s.1 s.2) q).1)/\a∉(l.foldl (λs b=>gH p n b s.1 s.2) q).2:=by
    intro l;induction l with
    |nil=>intro q _ hq ha;exact ⟨hq,λ_ h=>h,ha.2⟩
    |cons b l ih=>intro q hl hq haq;obtain ⟨h1,h2⟩:=En hU n b q (hl b (by simp)) hq;have h3:a∉(gH p n b q.1 q.2).2:=VJ n b q haq.1 haq.2;obtain ⟨h4,h5,h6⟩:=ih (gH p n b q.1 q.2) (λx hx=>hl x (by simp [hx])) h1 ⟨h2 a haq.1,h3⟩;exact ⟨h4,λx hx=>h5 x (h2 x hx),h6⟩
   have hs1:Seen U (s.1++[a],s.2):=⟨gC.2 ⟨hs.nd,by simp,λx hx y hy e=>hna (by simp at hy;subst hy;subst e;exact hx)⟩,λx hx=>by
    rcases fL.1 hx with h|h
    .exact hs.sub x h
    .simp at h;subst h;exact ha,hs.ond,λx hx=>nB _ (hs.ZK x hx)⟩
   obtain ⟨h1,h2,h3⟩:=key (iN p a) (s.1++[a],s.2) (λx hx=>hU x (IK p a x hx)) hs1 ⟨by simp,λh=>hna (hs.ZK a h)⟩;refine ⟨⟨h1.nd,h1.sub,?_,?_⟩,λx hx=>h2 x (nB _ hx)⟩
   .exact gC.2 ⟨h1.ond,by simp,λx hx y hy e=>h3 (by simp at hy;subst hy;subst e;exact hx)⟩
   .intro x hx;rcases fL.1 hx with h|h
    .exact h1.ZK x h
    .simp at h;subst h;exact h2 x (by simp)
where
 VJ {p:aI} {a:aT}:∀(n:Nat) (b:aT) (q:List aT×List aT),a∈q.1->a∉q.2->a∉(gH p n b q.1 q.2).2
  |0,b,q,h1,h2=>by simpa only [gH] using h2
  |n+1,b,q,h1,h2=>by
   simp only [gH];split
   .exact h2
   .rename_i hn;have hne:a≠b:=λe=>hn (xK.2 (e▸h1))
    have key:∀(l:List aT) (q:List aT×List aT),a∈q.1->a∉q.2->a∉(l.foldl (λs b=>gH p n b s.1 s.2) q).2:=by
     intro l;induction l with
     |nil=>intro q _ h;exact h
     |cons c l ih=>intro q h1 h2;exact ih _ (ZL n c q h1) (VJ n c q h1 h2)
    intro hm;rcases fL.1 hm with h|h
    .exact key (iN p b) (q.1++[b],q.2) (nB _ h1) h2 h
    .simp at h;exact hne h
 ZL {p:aI} {a:aT}:∀(n:Nat) (b:aT) (q:List aT×List aT),a∈q.1->a∈(gH p n b q.1 q.2).1
  |0,b,q,h1=>by simpa only [gH] using h1
  |n+1,b,q,h1=>by
   simp only [gH];split
   .exact h1
   .have key:∀(l:List aT) (q:List aT×List aT),a∈q.1->a∈(l.foldl (λs b=>gH p n b s.1 s.2) q).1:=by
     intro l;induction l with
     |nil=>intro q h;exact h
     |cons c l ih=>intro q h1;exact ih _ (ZL n c q h1)
    exact key (iN p b) (q.1++[b],q.2) (nB _ h1)
theorem Dq {α:Type} (f:α->Nat):∀(l U:List α),l.Nodup->(∀x∈l,x∈U)->aQ f l<=aQ f U/\l.length<=U.length
 |[],U,_,_=>by simp [aQ]
 |x::l,U,hn,hs=>by
  simp only [mA] at hn;obtain ⟨U1,U2,rfl⟩:=append_of_mem (hs x (by simp));have ih:=Dq f l (U1++U2) hn.2 (λy hy=>by
   have:=hs y (by simp [hy]);simp only [fL,lB] at this⊢;rcases this with h|h|h
   .exact .inl h
   .subst h;exact absurd hy hn.1
   .exact .inr h)
  have e:∀(A B:List α),aQ f (A++B)=aQ f A+aQ f B:=by
   intro A B;induction A with
   |nil=>simp [aQ]
   |cons a A ih=>simp only [eI,aQ,ih];omega
  simp only [e,aQ,eR,eL] at ih⊢;omega
theorem aJi (v:Int):(0<=v/\v.tmod 2147483647=v % 2147483647)\/(v < 0/\∃r,v.tmod 2147483647= -r/\0<=r/\r < 2147483647/\(r=0->v % 2147483647=0)/\(r≠0->v % 2147483647=2147483647 - r)):=by
 by_cases h:0<=v
 .exact .inl ⟨h,tE h⟩
 .right;obtain ⟨u,hu⟩:∃u:Nat,v= -(u:Int):=⟨v.natAbs,by omega⟩;subst hu;refine ⟨by omega,((u % 2147483647:Nat):Int),by rw [Int.neg_tmod];rfl,by omega,by omega,by omega,by omega⟩
theorem tq [aC prog] (v:Int) (h:TN v):Ok prog 265 [.int .i64 v,.int .i64 2147483647] (.int .i64 (v % 2147483647)):=by
 have c1:=gM 2147483647 1 1000000000000;rw [show (decide ((1:Int)<=2147483647)&&decide ((2147483647:Int)<=1000000000000))=true by decide] at c1;obtain ⟨h1,h2⟩:=h;rcases aJi v with ⟨h0,hm⟩|⟨h0,r,hm,hr0,hr1,hz,hnz⟩
 .have hm2:(v % 2147483647+2147483647).tmod 2147483647=v % 2147483647:=by rw [tE (by omega)];omega
  have hb1:0<=v % 2147483647:=by omega
  have hb2:v % 2147483647 < 2147483647:=by omega
  generalize v % 2147483647=m at *;refine bR aD func265 ntmps265 ?_;have W:=aA hm hm2;refine wl ?_;exact aK results265
 .have hm2:(-r+2147483647).tmod 2147483647=v % 2147483647:=by
   rw [tE (by omega)];by_cases e:r=0
   .rw [hz e,e];rfl
   .rw [hnz e];omega
  generalize v % 2147483647=m at *;refine bR aD func265 ntmps265 ?_;have W:=aA hm hm2;refine wl ?_;exact aK results265
theorem uf [aC prog] (v:Int) (h:TN v):Ok prog 277 [.int .i64 v,.int .i64 2147483647] (.int .i64 (v % 2147483647)):=by
 have c1:=jT 2147483647 1 1000000000000;rw [show (decide ((1:Int)<=2147483647)&&decide ((2147483647:Int)<=1000000000000))=true by decide] at c1;obtain ⟨h1,h2⟩:=h;rcases aJi v with ⟨h0,hm⟩|⟨h0,r,hm,hr0,hr1,hz,hnz⟩
 .have hb1:0<=v % 2147483647:=by omega
  have hb2:v % 2147483647 < 2147483647:=by omega
  generalize v % 2147483647=m at *;refine bR aD func277 ntmps277 ?_;have W:=hm;refine wl ?_;exact aK results277
 .by_cases e:r=0
  .have hz:=hz e;subst e;rw [hz];refine bR aD func277 ntmps277 ?_;have W:=hm;refine wl ?_;all_goals try(refine aR ?_;simp [aG,results277])
   all_goals rfl
  .have hnz:=hnz e;rw [hnz];have aW7: -r < 0:=by omega
   refine bR aD func277 ntmps277 ?_;have W:=hm;refine wl ?_;all_goals try(refine aR ?_;simp [aG,results277])
   all_goals omega
def zS (acc v:Int):Int:=(acc * 1000003+v % 2147483647+13) % 2147483647
def uD (l:List Int):Int:=l.foldl zS 11
theorem Ns:∀(l:List Int),0<=uD l/\uD l < 2147483647:=by
 have:∀(l:List Int) (a:Int),0<=a/\a < 2147483647->0<=l.foldl zS a/\l.foldl zS a < 2147483647:=by
  intro l;induction l with
  |nil=>intro a h;exact h
  |cons x l ih=>intro a h;exact ih _ (by unfold zS;omega)
 intro l;exact this l 11 (by omega)
theorem RO (l:List Int) (k:Nat) (h:k < l.length):uD (l.take (k+1))=zS (uD (l.take k)) l[k]:=by unfold uD;rw [eA h,DQ];rfl
theorem ag [aC prog] (l:List Int) (hl:l.length<=1099511627776) (hr:∀y∈l,TN y):Ok prog 227 [.sl .view 1 (l.map jE)] (.int .i64 (uD l)):=by
 refine bR aD func227 ntmps227 ?_;refine gJ ?_;refine aL (ι:={k:Nat // k<=l.length}) (λt o i=>⟨bD t [(4,.int .i64 i.1),(3,.int .i64 (uD (l.take i.1)))],o⟩)
  (λi=>l.length - i.1) ⟨0,by simp⟩ (aH (by simp) (by simp [uD])) ?_
 rintro ⟨k,hk⟩ K1 hK1;simp only [bD,cW,cU] at hK1⊢;have hk1:=oW (k:=k);by_cases hlt:k < l.length
 .have hg:=aE hlt;have hs:=RO l k hlt;have hb:=Ns (l.take k);have c1:=tq l[k] (hr _ (fR hlt));have hm:(uD (l.take k) * 1000003+l[k] % 2147483647+13).tmod 2147483647=uD (l.take (k+1)):=by rw [hs,tE (by omega)];rfl
  have hb1:0<=l[k] % 2147483647:=by omega
  have hb2:l[k] % 2147483647 < 2147483647:=by omega
  clear hs;generalize vK:uD (l.take (k+1))=a' at *;generalize uD (l.take k)=a at *;generalize l[k] % 2147483647=m at *;have W:=aA hk1 (aA hg (aA hlt hm));refine wl ?_;all_goals exact hK1 _ ⟨k+1,by omega⟩ (aH (by simp) (by simp [vK])) (by simp only;omega)
 .have htk:l.take k=l:=cX (by omega);rw [htk];have W:=hk1;refine wl ?_;exact aK results227
theorem ah [aC prog] (l:List Int) (hl:l.length<=1099511627776) (hr:∀y∈l,TN y):Ok prog 245 [.sl .view 1 (l.map jE)] (.int .i64 (uD l)):=by
 refine bR aD func245 ntmps245 ?_;refine gJ ?_;refine aL (ι:={k:Nat // k<=l.length}) (λt o i=>⟨bD t [(8,.int .i64 i.1),(3,.int .i64 (uD (l.take i.1))),(5,.undef)],o⟩)
  (λi=>l.length - i.1) ⟨0,by simp⟩ (aH (by simp) (by simp [uD])) ?_
 rintro ⟨k,hk⟩ K1 hK1;simp only [bD,cW,cU] at hK1⊢;have hk1:=oW (k:=k);by_cases hlt:k < l.length
 .have hg:=aE hlt;have hs:=RO l k hlt;have hb:=Ns (l.take k);have c1:=uf l[k] (hr _ (fR hlt));have hm:(uD (l.take k) * 1000003+l[k] % 2147483647+13).tmod 2147483647=uD (l.take (k+1)):=by rw [hs,tE (by omega)];rfl
  have hb1:0<=l[k] % 2147483647:=by omega
  have hb2:l[k] % 2147483647 < 2147483647:=by omega
  clear hs;generalize vK:uD (l.take (k+1))=a' at *;generalize uD (l.take k)=a at *;generalize l[k] % 2147483647=m at *;have W:=aA hk1 (aA hg (aA hlt hm));refine wl ?_;all_goals exact hK1 _ ⟨k+1,by omega⟩ (aH (by simp) (by simp [vK])) (by simp only;omega)
 .have htk:l.take k=l:=cX (by omega);rw [htk];have W:=hk1;refine wl ?_;exact aK results245
def toInts (s:bF):List Int:=TF (λc:UInt8=>(c.toNat:Int)) s
def mH (s:bF):List Int:=(s.length:Int)::toInts s
theorem Hg (s:bF) (k:Nat) (h:k < s.length):(dP s)[k]? =some [.int .u8 s[k].toNat]:=by simp [dP,h]
theorem IW [aC prog] (s:bF) (hl:s.length<=1099511627776):Ok prog 228 [.sl .view 1 (dP s)] (.sl .own 1 ((mH s).map jE)):=by
 have hbl:=mX s;refine bR aD func228 ntmps228 ?_;have W:=hbl;refine wl ?_;refine aL (ι:={q:Nat×Nat // q.1<=s.length/\1<=q.2}) (λt o i=>⟨bD t [(3,.obj 0 i.1.2),(4,.int .i64 i.1.1)],o.take 0++[⟨true,false,1,i.1.2,((s.length:Int)::toInts (s.take i.1.1)).map jE⟩]⟩)
  (λi=>s.length - i.1.1) ⟨(0,1),by simp,by first|(simp;done)|(simp only;omega)⟩ (aH (by simp [toInts]) (by simp)) ?_
 rintro ⟨⟨k,v⟩,hk,hv⟩ K1 hK1;simp only at hk hv;simp only [bD,cW,cU,eM,gR,eI,eN] at hK1⊢;have hk1:=oW (k:=k);by_cases hlt:k < s.length
 .have hg:=Hg s k hlt;have hps:=UU (λc:UInt8=>(c.toNat:Int)) s k hlt;have hpl:=MP (λc:UInt8=>(c.toNat:Int)) (s.take k);have htl:(s.take k).length=k:=by simp;omega
  have hu:s[k].toNat < 256:=CA s[k];have hlb:k < (dP s).length:=by omega
  simp only [toInts] at hK1⊢;generalize TF (λc:UInt8=>(c.toNat:Int)) (s.take k)=g at *;have W:=aA hk1 (aA hg hbl);have V:=aA hk1 (aA hlt hbl);refine wl ?_;all_goals refine hK1 _ ⟨(k+1,v+1),by simp only;omega,by simp only;omega⟩ (aW 1 (by simp [hps])) (by simp only;omega)
 .have htk:s.take k=s:=cX (by omega);rw [htk];have W:=aA hk1 hbl;refine wl ?_;all_goals try(refine aR ?_;simp [aG,results228,mH])
theorem IX [aC prog] (s:bF) (hl:s.length<=1099511627776):Ok prog 246 [.sl .view 1 (dP s)] (.sl .own 1 ((mH s).map jE)):=by
 have hbl:=mX s;refine bR aD func246 ntmps246 ?_;have W:=hbl;refine wl ?_;refine aL (ι:={q:Nat×Nat // q.1<=s.length/\1<=q.2}) (λt o i=>⟨bD t [(3,.obj 0 i.1.2),(11,.int .i64 i.1.1),(5,.undef)],o.take 0++[⟨true,false,1,i.1.2,((s.length:Int)::toInts (s.take i.1.1)).map jE⟩]⟩)
  (λi=>s.length - i.1.1) ⟨(0,1),by simp,by first|(simp;done)|(simp only;omega)⟩ (aH (by simp [toInts]) (by simp)) ?_
 rintro ⟨⟨k,v⟩,hk,hv⟩ K1 hK1;simp only at hk hv;simp only [bD,cW,cU,eM,gR,eI,eN] at hK1⊢;have hk1:=oW (k:=k);by_cases hlt:k < s.length
 .have hg:=Hg s k hlt;have hps:=UU (λc:UInt8=>(c.toNat:Int)) s k hlt;have hpl:=MP (λc:UInt8=>(c.toNat:Int)) (s.take k);have htl:(s.take k).length=k:=by simp;omega
  have hu:s[k].toNat < 256:=CA s[k];have hlb:k < (dP s).length:=by omega
  simp only [toInts] at hK1⊢;generalize TF (λc:UInt8=>(c.toNat:Int)) (s.take k)=g at *;have W:=aA hk1 (aA hg hbl);have V:=aA hk1 (aA hlt hbl);refine wl ?_;all_goals refine hK1 _ ⟨(k+1,v+1),by simp only;omega,by simp only;omega⟩ (aW 1 (by simp [hps])) (by simp only;omega)
 .have htk:s.take k=s:=cX (by omega);rw [htk];have W:=aA hk1 hbl;refine wl ?_;all_goals try(refine aR ?_;simp [aG,results246,mH])
end Go.Proofs.YtjmpjmilndkgfaaGreatDoor
