/- Proved here: steps towards the statement of this claim. No condition. -/
import Derived.Test.YthddijamfbfibaaGreatDoorZQRCA
set_option linter.all false
set_option maxRecDepth 8000
set_option maxHeartbeats 8000000
namespace Go.Proofs.YthddijamfbfibaaGreatDoor
open Go.Aw Proofs.Tryz List IntKind
def Us:bB:=[108,111,97,100]
def MJ(p:aI)(s:pR):aI×Bool:=if s.done=true/\p.aC.all oK=true then({(if s.code=1 then lZ p s.body false else p)with deferred:=p.deferred+1},true)else(p,false)
def MK(p:aI)(a:aD):aI×Bool:=if xN p a=true/\p.aC.all oK=true then({oL p a with iC:=p.iC+1},true)else(p,false)
def ML(p:aI):aI×Bool:=if (places sJ 0 p.aC).length=0/\(places sK 0 p.aO).length=0 then({p with log:=kC p.log Us,pF:=true},true)else(p,false)
def nZ(p:aI):aI×Bool:=
 if yZ p=true/\p.pF=false/\0<=p.deferred/\0<=p.iC then
  match (places jU 0 p.aC)[p.deferred.toNat]? with
  |some d=>match p.aC[d.toNat]? with
   |some s=>MJ p s
   |none=>(p,false)
  |none=>match p.entries[p.iC.toNat]? with
   |some a=>MK p a
   |none=>ML p
 else(p,false)
theorem OA{α:Type}(f:α->Bool):∀(l:List α) (i:Nat) (d:Int),d∈places f i l->∃k:Nat,d=(k:Int)/\i<=k/\k<i+l.length
 |[],i,d,h=>by simp[places]at h
 |x::l,i,d,h=>by
  simp only[places]at h;have hr:d∈places f (i+1) l->∃k:Nat,d=(k:Int)/\i<=k/\k<i+(x::l).length:=λh=>by obtain⟨k,h1,h2,h3⟩:=OA f l (i+1) d h;exact⟨k,h1,by omega,by simp only[eN];omega⟩
  split at h
  .rcases gS.1 h with h|h
   .exact ⟨i,h,eC _,by simp only[eN];omega⟩
   .exact hr h
  .exact hr h
theorem Jz(p:aI)(c:bB)(w:Bool):(lZ p c w).deferred=p.deferred/\(lZ p c w).iC=p.iC/\(lZ p c w).aC=p.aC/\(lZ p c w).aO=p.aO:=by unfold lZ lX;split<;>exact⟨rfl,rfl,rfl,rfl⟩
theorem O5(q:aI)(b:aD):(sG q b).iC=q.iC:=by unfold sG lX;split<;>rfl
theorem Yg(p:aI)(a:aD):(oL p a).iC=p.iC:=by
 unfold oL;split
 .rfl
 .unfold jM;have:∀(l:List aD) (q:aI),(l.foldl sG q).iC=q.iC:=by
   intro l;induction l with
   |nil=>intro q;rfl
   |cons b l ih=>intro q;rw[foldl_cons,ih,O5]
  exact this _ _
theorem aNq(v:Int):(0<=v/\v.tmod 2147483647=v%2147483647)\/(v<0/\∃r,v.tmod 2147483647= -r/\0<=r/\r<2147483647/\(r=0->v%2147483647=0)/\(r≠0->v%2147483647=2147483647-r)):=by
 by_cases h:0<=v
 .exact .inl ⟨h,tW h⟩
 .right;obtain⟨u,hu⟩:∃u:Nat,v= -(u:Int):=⟨v.natAbs,by omega⟩;subst hu;refine⟨by omega,((u%2147483647:Nat):Int),by rw[Int.neg_tmod];rfl,by omega,by omega,by omega,by omega⟩
theorem O7[aB prog](v:Int)(h:rgI v):Ok prog 321 [.int .i64 v,.int .i64 2147483647] (.int .i64 (v%2147483647)):=by
 have c1:=gH 2147483647 1 1000000000000;rw[show(decide ((1:Int)<=2147483647)&&decide ((2147483647:Int)<=1000000000000))=true by decide]at c1;obtain⟨h1,h2⟩:=h;rcases aNq v with⟨h0,hm⟩|⟨h0,r,hm,hr0,hr1,hz,hnz⟩
 .have hm2:(v%2147483647+2147483647).tmod 2147483647=v%2147483647:=by rw[tW (by omega)];omega
  have hb1:0<=v%2147483647:=by omega
  have hb2:v%2147483647<2147483647:=by omega
  generalize v%2147483647=m at*;refine bM aG func321 ntmps321 ?_;have W:=aA hm hm2;refine wl ?_;exact aF results321
 .have hm2:(-r+2147483647).tmod 2147483647=v%2147483647:=by
   rw[tW (by omega)];by_cases e:r=0
   .rw [hz e,e];rfl
   .rw [hnz e];omega
  generalize v%2147483647=m at*;refine bM aG func321 ntmps321 ?_;have W:=aA hm hm2;refine wl ?_;exact aF results321
theorem O8[aB prog](v:Int)(h:rgI v):Ok prog 344 [.int .i64 v,.int .i64 2147483647] (.int .i64 (v%2147483647)):=by
 have c1:=jR 2147483647 1 1000000000000;rw[show(decide ((1:Int)<=2147483647)&&decide ((2147483647:Int)<=1000000000000))=true by decide]at c1;obtain⟨h1,h2⟩:=h;rcases aNq v with⟨h0,hm⟩|⟨h0,r,hm,hr0,hr1,hz,hnz⟩
 .have hb1:0<=v%2147483647:=by omega
  have hb2:v%2147483647<2147483647:=by omega
  generalize v%2147483647=m at*;refine bM aG func344 ntmps344 ?_;have W:=hm;refine wl ?_;exact aF results344
 .by_cases e:r=0
  .have hz:=hz e;subst e;rw[hz];refine bM aG func344 ntmps344 ?_;have W:=hm;refine wl ?_;all_goals try(refine aR ?_;simp[aP,results344])
   all_goals rfl
  .have hnz:=hnz e;rw[hnz];have aZ8: -r<0:=by omega
   refine bM aG func344 ntmps344 ?_;have W:=hm;refine wl ?_;all_goals try(refine aR ?_;simp[aP,results344])
   all_goals omega
def AP(acc v:Int):Int:=(acc*1000003+v%2147483647+13)%2147483647
def vT(l:List Int):Int:=l.foldl AP 11
theorem PV:∀(l:List Int),0<=vT l/\vT l<2147483647:=by
 have:∀(l:List Int) (a:Int),0<=a/\a<2147483647->0<=l.foldl AP a/\l.foldl AP a<2147483647:=by
  intro l;induction l with
  |nil=>intro a h;exact h
  |cons x l ih=>intro a h;exact ih _ (by unfold AP;omega)
 intro l;exact this l 11 (by omega)
theorem Uy(l:List Int)(k:Nat)(h:k<l.length):vT (l.take (k+1))=AP (vT (l.take k)) l[k]:=by unfold vT;rw[eJ h,GB];rfl
theorem uj[aB prog](l:List Int)(hl:l.length<=1099511627776)(hr:∀y∈l,rgI y):Ok prog 300 [.sl .view 1 (l.map mM)] (.int .i64 (vT l)):=by
 refine bM aG func300 ntmps300 ?_;refine gV ?_;refine aM (ι:={k:Nat // k<=l.length}) (λt o i=>⟨bC t [(4,.int .i64 i.1),(3,.int .i64 (vT (l.take i.1)))],o⟩)
  (λi=>l.length-i.1) ⟨0,by simp⟩ (aK (by simp) (by simp[vT])) ?_
 rintro⟨k,hk⟩ K1 hK1;simp only[bC,cW,cU]at hK1⊢;have hk1:=oQ (k:=k);by_cases hlt:k<l.length
 .have hg:=aE hlt;have hs:=Uy l k hlt;have hb:=PV (l.take k);have c1:=O7 l[k] (hr _ (fS hlt));have hm:(vT (l.take k)*1000003+l[k]%2147483647+13).tmod 2147483647=vT (l.take (k+1)):=by rw[hs,tW (by omega)];rfl
  have hb1:0<=l[k]%2147483647:=by omega
  have hb2:l[k]%2147483647<2147483647:=by omega
  clear hs;generalize wW:vT (l.take (k+1))=a' at*;generalize vT (l.take k)=a at*;generalize l[k]%2147483647=m at*;have W:=aA hk1 (aA hg (aA hlt hm));refine wl ?_;all_goals exact hK1 _ ⟨k+1,by omega⟩ (aK (by simp) (by simp[wW])) (by simp only;omega)
 .have htk:l.take k=l:=cX (by omega);rw[htk];have W:=hk1;refine wl ?_;exact aF results300
theorem uk[aB prog](l:List Int)(hl:l.length<=1099511627776)(hr:∀y∈l,rgI y):Ok prog 335 [.sl .view 1 (l.map mM)] (.int .i64 (vT l)):=by
 refine bM aG func335 ntmps335 ?_;refine gV ?_;refine aM (ι:={k:Nat // k<=l.length}) (λt o i=>⟨bC t [(8,.int .i64 i.1),(3,.int .i64 (vT (l.take i.1))),(5,.undef)],o⟩)
  (λi=>l.length-i.1) ⟨0,by simp⟩ (aK (by simp) (by simp[vT])) ?_
 rintro⟨k,hk⟩ K1 hK1;simp only[bC,cW,cU]at hK1⊢;have hk1:=oQ (k:=k);by_cases hlt:k<l.length
 .have hg:=aE hlt;have hs:=Uy l k hlt;have hb:=PV (l.take k);have c1:=O8 l[k] (hr _ (fS hlt));have hm:(vT (l.take k)*1000003+l[k]%2147483647+13).tmod 2147483647=vT (l.take (k+1)):=by rw[hs,tW (by omega)];rfl
  have hb1:0<=l[k]%2147483647:=by omega
  have hb2:l[k]%2147483647<2147483647:=by omega
  clear hs;generalize wW:vT (l.take (k+1))=a' at*;generalize vT (l.take k)=a at*;generalize l[k]%2147483647=m at*;have W:=aA hk1 (aA hg (aA hlt hm));refine wl ?_;all_goals exact hK1 _ ⟨k+1,by omega⟩ (aK (by simp) (by simp[wW])) (by simp only;omega)
 .have htk:l.take k=l:=cX (by omega);rw[htk];have W:=hk1;refine wl ?_;exact aF results335
def toInts(s:bB):List Int:=zF (λc:UInt8=>(c.toNat:Int)) s
def mZ(s:bB):List Int:=(s.length:Int)::toInts s
theorem JB(s:bB)(k:Nat)(h:k<s.length):(dK s)[k]? =some [.int .u8 s[k].toNat]:=by simp[dK,h]
theorem KI[aB prog](s:bB)(hl:s.length<=1099511627776):Ok prog 301 [.sl .view 1 (dK s)] (.sl .own 1 ((mZ s).map mM)):=by
 have hbl:=nL s;refine bM aG func301 ntmps301 ?_;have W:=hbl;refine wl ?_;refine aM (ι:={q:Nat×Nat // q.1<=s.length/\1<=q.2}) (λt o i=>⟨bC t [(3,.obj 0 i.1.2),(4,.int .i64 i.1.1)],o.take 0++[⟨true,false,1,i.1.2,((s.length:Int)::toInts (s.take i.1.1)).map mM⟩]⟩)
  (λi=>s.length-i.1.1) ⟨(0,1),by simp,by first|(simp;done)|(simp only;omega)⟩ (aK (by simp[toInts]) (by simp)) ?_
 rintro⟨⟨k,v⟩,hk,hv⟩ K1 hK1;simp only at hk hv;simp only[bC,cW,cU,eL,fW,eA,eM]at hK1⊢;have hk1:=oQ (k:=k);by_cases hlt:k<s.length
 .have hg:=JB s k hlt;have hps:=zM (λc:UInt8=>(c.toNat:Int)) s k hlt;have hpl:=rJ (λc:UInt8=>(c.toNat:Int)) (s.take k);have htl:(s.take k).length=k:=by simp;omega
  have hu:s[k].toNat<256:=Ds s[k];have hlb:k<(dK s).length:=by omega
  simp only[toInts]at hK1⊢;generalize zF (λc:UInt8=>(c.toNat:Int)) (s.take k)=g at*;have W:=aA hk1 (aA hg hbl);have V:=aA hk1 (aA hlt hbl);refine wl ?_;all_goals refine hK1 _ ⟨(k+1,v+1),by simp only;omega,by simp only;omega⟩ (aT 1 (by simp[hps])) (by simp only;omega)
 .have htk:s.take k=s:=cX (by omega);rw[htk];have W:=aA hk1 hbl;refine wl ?_;all_goals try(refine aR ?_;simp[aP,results301,mZ])
theorem KJ[aB prog](s:bB)(hl:s.length<=1099511627776):Ok prog 336 [.sl .view 1 (dK s)] (.sl .own 1 ((mZ s).map mM)):=by
 have hbl:=nL s;refine bM aG func336 ntmps336 ?_;have W:=hbl;refine wl ?_;refine aM (ι:={q:Nat×Nat // q.1<=s.length/\1<=q.2}) (λt o i=>⟨bC t [(3,.obj 0 i.1.2),(11,.int .i64 i.1.1),(5,.undef)],o.take 0++[⟨true,false,1,i.1.2,((s.length:Int)::toInts (s.take i.1.1)).map mM⟩]⟩)
  (λi=>s.length-i.1.1) ⟨(0,1),by simp,by first|(simp;done)|(simp only;omega)⟩ (aK (by simp[toInts]) (by simp)) ?_
 rintro⟨⟨k,v⟩,hk,hv⟩ K1 hK1;simp only at hk hv;simp only[bC,cW,cU,eL,fW,eA,eM]at hK1⊢;have hk1:=oQ (k:=k);by_cases hlt:k<s.length
 .have hg:=JB s k hlt;have hps:=zM (λc:UInt8=>(c.toNat:Int)) s k hlt;have hpl:=rJ (λc:UInt8=>(c.toNat:Int)) (s.take k);have htl:(s.take k).length=k:=by simp;omega
  have hu:s[k].toNat<256:=Ds s[k];have hlb:k<(dK s).length:=by omega
  simp only[toInts]at hK1⊢;generalize zF (λc:UInt8=>(c.toNat:Int)) (s.take k)=g at*;have W:=aA hk1 (aA hg hbl);have V:=aA hk1 (aA hlt hbl);refine wl ?_;all_goals refine hK1 _ ⟨(k+1,v+1),by simp only;omega,by simp only;omega⟩ (aT 1 (by simp[hps])) (by simp only;omega)
 .have htk:s.take k=s:=cX (by omega);rw[htk];have W:=aA hk1 hbl;refine wl ?_;all_goals try(refine aR ?_;simp[aP,results336,mZ])
def dL(p:aI)(s:bB):aI:=if p.ended=true then p else {p with queue:=p.queue++(feed (p.tok.rest++s)).1,tok:=⟨(feed (p.tok.rest++s)).2⟩}
theorem MQ[aB prog][bQ prog](a:aI)(s:bB)(hs:aL a<=274877906)(hl:s.length<=274877906):Ok prog 52 [.agg (aJ .view a),.str s] (.agg (aJ .own (dL a s))):=by
 have c1:=iI a (by omega);simp only[aL,bP,lQ]at hs;have c2:=FV a.tok s (by omega);obtain⟨h1,h2⟩:=Dp (a.tok.rest++s).length (a.tok.rest++s) (eC _);simp only[dP]at c2;simp only[aJ]at c1;unfold dL;simp only[eR]at h1 h2;generalize feed (a.tok.rest++s)=g at*;obtain⟨l,x⟩:=g;simp only at c2 h1 h2⊢;have hb1:(a.queue.length+l.length)*64<=140737488355328:=by omega
 by_cases he:a.ended=true
 .rw [eK he];simp only[he]at c1;refine bM aG func52 ntmps52 ?_;have W:=he;repeat' first|refine st ?_|(refine nx ?_;first|refine se ?_|refine so ?_)|(refine cx ?_;refine sc (λhc=>?_) (λhc=>?_)<;>try exact hc.elim)|(refine lx ?_;refine sp (λhc=>?_) (λhc=>?_)<;>try exact hc.elim)|refine sx ?_ ?_|refine sy ?_ ?_|fail
  all_goals try(refine aR ?_;simp[aP,results52])
  all_goals exact he
 .rw [cY he];replace he:a.ended=false:=by simpa using he
  simp only[he]at c1;refine bM aG func52 ntmps52 ?_;have W:=aA he hb1;repeat' first|refine st ?_|(refine nx ?_;first|refine se ?_|refine so ?_)|(refine cx ?_;refine sc (λhc=>?_) (λhc=>?_)<;>try exact hc.elim)|(refine lx ?_;refine sp (λhc=>?_) (λhc=>?_)<;>try exact hc.elim)|refine sx ?_ ?_|refine sy ?_ ?_|fail
  all_goals try(refine aR ?_;simp[aP,results52])
  all_goals (rw[<-oY];first|exact mO _|exact⟨he,mO _⟩)
theorem MR[aB prog][bQ prog](a:aI)(s:bB)(hs:aL a<=274877906)(hl:s.length<=274877906):Ok prog 41 [.agg (aJ .view a),.str s] (.agg (aJ .own (dL a s))):=by
 have c1:=gK a (by omega);simp only[aL,bP,lQ]at hs;have c2:=FU a.tok s (by omega);obtain⟨h1,h2⟩:=Dp (a.tok.rest++s).length (a.tok.rest++s) (eC _);simp only[dP]at c2;simp only[aJ]at c1;unfold dL;simp only[eR]at h1 h2;generalize feed (a.tok.rest++s)=g at*;obtain⟨l,x⟩:=g;simp only at c2 h1 h2⊢;have hb1:(a.queue.length+l.length)*64<=140737488355328:=by omega
 by_cases he:a.ended=true
 .rw [eK he];simp only[he]at c1;refine bM aG func41 ntmps41 ?_;have W:=he;repeat' first|refine st ?_|(refine nx ?_;first|refine se ?_|refine so ?_)|(refine cx ?_;refine sc (λhc=>?_) (λhc=>?_)<;>try exact hc.elim)|(refine lx ?_;refine sp (λhc=>?_) (λhc=>?_)<;>try exact hc.elim)|refine sx ?_ ?_|refine sy ?_ ?_|fail
  all_goals try(refine aR ?_;simp[aP,results41])
  all_goals exact he
 .rw [cY he];replace he:a.ended=false:=by simpa using he
  simp only[he]at c1;refine bM aG func41 ntmps41 ?_;have W:=aA he hb1;repeat' first|refine st ?_|(refine nx ?_;first|refine se ?_|refine so ?_)|(refine cx ?_;refine sc (λhc=>?_) (λhc=>?_)<;>try exact hc.elim)|(refine lx ?_;refine sp (λhc=>?_) (λhc=>?_)<;>try exact hc.elim)|refine sx ?_ ?_|refine sy ?_ ?_|fail
  all_goals try(refine aR ?_;simp[aP,results41])
  all_goals (rw[<-oY];first|exact mO _|exact⟨he,mO _⟩)
end Go.Proofs.YthddijamfbfibaaGreatDoor
