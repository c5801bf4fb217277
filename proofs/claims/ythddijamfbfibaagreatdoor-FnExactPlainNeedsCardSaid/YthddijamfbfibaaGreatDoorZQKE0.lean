/- Proved here: steps towards the statement of this claim. No condition. -/
import Derived.Test.YthddijamfbfibaaGreatDoorZQB4
import Derived.Test.YthddijamfbfibaaGreatDoorZQJ5
import Derived.Test.YthddijamfbfibaaGreatDoorZQRC6
set_option linter.all false
set_option maxRecDepth 8000
set_option maxHeartbeats 8000000
namespace Go.Proofs.YthddijamfbfibaaGreatDoor
open Go.Aw Proofs.Tryz List IntKind
def qU(top:bB)(a:aD)(e:fH):Bool:=e.top == top&&decide (e.to=a)
def Cc(l:List fH)(k:Nat)(e:fH):Bool:=cZ e.top&&(pG e.to&&(fQ e.response&&(decide (e.response.status=200)&&decide (qO (qU e.top e.to) l=(k:Int)))))
def TC(l:List fH):Bool:=(range l.length).all λk=>match l[k]? with
 |some e=>Cc l k e
 |none=>true
def oI(l:List fH):Bool:=TC l&&decide (l.length<=100)
theorem XL{l:List fH}(h:TC l=true){k:Nat}(hk:k<l.length):Cc l k l[k]=true:=by have h2:=(fR.1 h) k (by simpa using hk);simpa [aE hk]using h2
theorem XM{l:List fH}{k:Nat}(hk:k<l.length)(ho:Cc l k l[k]=false):oI l=false:=by
 cases h:TC l with
 |false=>simp[oI,h]
 |true=>rw[XL h hk]at ho;cases ho
theorem TD{l:List fH}(h:∀k (hk:k<l.length),Cc l k l[k]=true):oI l=decide (l.length<=100):=by
 have:TC l=true:=by
  unfold TC;rw[fR];intro k hk;have hk2:k<l.length:=by simpa using hk
  simp only[aE hk2];exact h k hk2
 simp[oI,this]
def vK(top:bB)(a:aD)(x:bA)(now:Int):fH:=⟨top,a,x,i64.wrap (now+x.Gw)⟩
def vL(l:List fH)(top:bB)(a:aD)(e:fH):List fH:=if qO (qU top a) l<0 then l++[e]else l.set (qO (qU top a) l).toNat e
def vM(l:List fH)(top:bB)(a:aD)(x:bA)(now:Int):List fH:=
 if x.Gw=0\/¬(0<=now/\now<=999999999000)\/oI l=false\/oI (vL l top a (vK top a x now))=false then l else vL l top a (vK top a x now)
theorem aG0{l:List fH}{top:bB}{a:aD}{e:fH}(h:oI (vL l top a e)=true):fQ e.response=true:=by
 simp only[oI,eI]at h;have hin:∃k,∃hk:k<(vL l top a e).length,(vL l top a e)[k]=e:=by
  unfold vL;rcases lT (qU top a) l with⟨h1,_⟩|⟨k,hk,h1,_⟩
  .rw [h1,eK (by decide)];exact⟨l.length,by simp,by simp⟩
  .rw [h1,cY (by omega)];exact⟨k,by simpa using hk,by simp⟩
 obtain⟨k,hk,he⟩:=hin;have h2:=XL h.1 hk;rw[he]at h2;simp only[Cc,eI]at h2;exact h2.2.2.1
def Ac(n:kU)(top:bB)(a:aD)(x:bA):kU:=
 if fQ x=true/\x.status=200/\(xE n.cache top a n.now).2=false then {n with cache:=⟨vM n.cache.entries top a x n.now⟩}else n
def xH(n:kU)(top:bB)(a:aD):kU:=if n.log.length<400 then {n with log:=n.log++[⟨top,a,false⟩]}else n
def iM(n:kU)(top:bB)(a:aD):kU:=
 if pG a=false then n else if (xE n.cache top a n.now).2=true then n else Ac (xH n top a) top a (sW n.gD a)
theorem XN{α:Type}(f:α->Nat)(x:α):∀(l:List α) (k:Nat),aY f (l.set k x)<=aY f l+f x
 |[],_=>by simp[aY]
 |y::l,0=>by simp[aY];omega
 |y::l,k+1=>by have:=XN f x l k;simp[aY];omega
theorem Ei{α:Type}(f:α->Nat):∀a b:List α,aY f (a++b)=aY f a+aY f b
 |[],b=>by simp[aY]
 |x::a,b=>by simp only[eA,aY];rw[Ei f a b];omega
theorem H5(l:List fH)(top:bB)(a:aD)(e:fH):bP gP (vL l top a e)<=bP gP l+1+gP e:=by
 unfold vL;split
 .simp only[bP,eR,eN,eV];rw[Ei];simp[aY];omega
 .have:=XN gP e l (qO (qU top a) l).toNat;simp only[bP,length_set];omega
theorem aCl{l:List fH}{top:bB}{a:aD}{x:bA}{now:Int}{e:fH}(h:e∈vM l top a x now):e∈l\/e.response=x:=by
 unfold vM at h;split at h
 .exact .inl h
 .unfold vL at h;split at h
  .rcases eW.1 h with h|h
   .exact .inl h
   .rw [rS.1 h];exact .inr rfl
  .rcases CM h with h|h
   .exact .inl h
   .rw [h];exact .inr rfl
theorem aG1(l:List fH)(top:bB)(a:aD)(x:bA)(now:Int):bP gP (vM l top a x now)<=bP gP l+1+top.length+aQ a+bG x:=by
 unfold vM;split
 .omega
 .have:=H5 l top a (vK top a x now);have h2:gP (vK top a x now)=top.length+aQ a+bG x:=rfl;omega
theorem Bz(l:List fU)(a:aD):bG (sW l a)<=bP eZ l:=by
 unfold sW;split
 .rename_i s hs;split
  .rename_i f hf;have h1:=bS eZ (pB hs);have h2:=bS tZ (pB hf);simp only[bP,eZ,tZ]at*;omega
  .simp [bG,notFound]
 .simp [bG,notFound]
structure Od(N:Nat)(n:kU): Prop where
  srv:bP eZ n.gD <= 1048576
  ca:∀ e ∈ n.cache.entries, bG e.response <= 1048576
  sz:kV n <= N
theorem Od.up{N M:Nat}{n:kU}(h:Od N n)(hm:N<=M):Od M n:=⟨h.srv,h.ca,lB h.sz hm⟩
theorem Ri(n:kU)(h:kV n<=1048576):Od 1048576 n:=by refine⟨by simp only[kV]at h;omega,λe he=> ?_,h⟩;have h1:=bS gP he;simp only[kV,nS,bP,gP]at h h1;omega
theorem AA{N:Nat}{n:kU}(h:Od N n)(top:bB)(a:aD):bG (eG n top a)<=1048576:=by
 have h0:bG notFound=0:=rfl;unfold eG;split
 .omega
 .split
  .unfold xE;split
   .rename_i e he;exact h.ca e (pB he)
   .simp only;omega
  .exact lB (Bz _ _) h.srv
theorem Oe{N:Nat}{n:kU}(h:Od N n)(top:bB)(a:aD):Od (N+2*top.length+2*aQ a+1048580) (iM n top a):=by
 unfold iM;split
 .exact h.up (by omega)
 .split
  .exact h.up (by omega)
  .have hx:=lB (Bz n.gD a) h.srv;generalize sW n.gD a=x at*;have h2:Od (N+1+top.length+aQ a) (xH n top a)/\(xH n top a).cache=n.cache/\(xH n top a).gD=n.gD:=by
    have hs:=h.sz;unfold xH;split
    .refine ⟨⟨h.srv,h.ca,?_⟩,rfl,rfl⟩;simp only[kV,bP,eR,eN,eV]at hs⊢;rw[Ei];simp only[aY,qE];omega
    .exact ⟨h.up (by omega),rfl,rfl⟩
   obtain⟨h2,h3,h4⟩:=h2;generalize xH n top a=m at*;unfold Ac;split
   .have hs:=h2.sz;have h5:=aG1 m.cache.entries top a x m.now;refine⟨h2.srv,λe he=> ?_,?_⟩
    .rcases aCl he with he|he
     .exact h2.ca e he
     .rw [he];exact hx
    .simp only[kV,nS]at hs⊢;omega
   .exact h2.up (by omega)
def zF{α β:Type}(f:α->β)(l:List α):List β:=l.map f
@[simp] theorem aF1{α β:Type}(f:α->β):zF f []=[]:=rfl
theorem zM{α β:Type}(f:α->β)(l:List α)(k:Nat)(h:k<l.length):zF f (l.take (k+1))=zF f (l.take k)++[f l[k]]:=by simp only[zF];rw[eJ h,oY];rfl
theorem rJ{α β:Type}(f:α->β)(l:List α):(zF f l).length=l.length:=mL _
theorem Q9[aB prog][bQ prog](e:fH)(top:bB)(a:aD):Ok prog 257 [.agg (fP e),.eU .view [.str top] 0,.eU .view (aH a) 0] (.bool (qU top a e)):=by
 unfold qU;refine bM aG func257 ntmps257 ?_;have W:=trivial;have c0:=oG e.to a;repeat' first|refine wf ?_|(refine sq ?_ ?_<;>intro hc<;>try exact hc.elim)|fail
 all_goals try(refine aR ?_;simp[aP,results257])
 all_goals simp_all
theorem wy[aB prog][bQ prog](l:List fH)(top:bB)(a:aD)(hl:l.length<=1099511627776):Ok prog 144 [.sl .view 10 (l.map fP),.fn 257 [.eU .view [.str top] 0,.eU .view (aH a) 0]] (.int .i64 (qO (qU top a) l)):=by
 refine bM aG func144 ntmps144 ?_;refine aZ ?_;refine aM (ι:={k:Nat // k<=l.length/\∀x∈l.take k,(qU top a) x=false}) (λt o i=>⟨bC t [(8,.int .i64 i.1),(5,.undef)],o⟩)
  (λi=>l.length-i.1) ⟨0,by simp⟩ aK ?_
 rintro⟨k,hk,hpre⟩ K1 hK1;simp only[bC,cW,cU]at hK1⊢;have hk1:=oQ (k:=k);by_cases hlt:k<l.length
 .have hg:=aE hlt;have c1:=Q9 l[k] top a;generalize hb:(qU top a) l[k]=b at*;have W:=aA hk1 (aA hg hlt);repeat' first|refine wf ?_|(refine sq ?_ ?_<;>intro hc<;>try exact hc.elim)|fail
  .all_goals try(refine aR ?_;simp[aP,results144])
   rw[uY hlt (by rw[hb];simpa using hc) hpre]
  .exact hK1 _ ⟨k+1,by omega,bZ hlt hpre (by rw[hb];simpa using hc)⟩ aK (by simp only;omega)
 .have W:=hk1;refine we ?_;all_goals try(refine aR ?_;simp[aP,results144])
  rw[nN (iW (by omega) hpre)]
theorem Ia[aB prog][bQ prog](l:List fH)(top:bB)(a:aD)(hl:l.length<=1099511627776):Ok prog 203 [.agg (gU .view ⟨l⟩),.str top,.agg (aH a)] (.int .i64 (qO (qU top a) l)):=by have c1:=wy l top a hl;simp only[aH]at c1;refine bM aG func203 ntmps203 ?_;refine aZ ?_;exact aF results203
theorem JD[aB prog][bQ prog](l:List fH)(top:bB)(a:aD)(hl:l.length<=1099511627776):Ok prog 179 [.agg (gU .view ⟨l⟩),.str top,.agg (aH a)] (.int .i64 (qO (qU top a) l)):=by
 refine bM aG func179 ntmps179 ?_;refine aZ ?_;refine aM (ι:={k:Nat // k<=l.length/\∀x∈l.take k,qU top a x=false}) (λt o i=>⟨bC t [(7,.int .i64 i.1)],o⟩)
  (λi=>l.length-i.1) ⟨0,by simp,by simp⟩ aK ?_
 rintro⟨k,hk,hi⟩ K1 hK1;simp only[bC,cW,cU]at hK1⊢;have hk1:=oQ (k:=k);by_cases hlt:k<l.length
 .have hg:=aE hlt;have hnx:qU top a l[k]=false->∀x∈l.take (k+1),qU top a x=false:=λh=>bZ hlt hi h
  by_cases h1:l[k].top=top
  .have KV:(l[k].top == top)=true:=by simp[h1]
   by_cases h2:l[k].to=a
   .rw [uY hlt (by simp[qU,h1,h2]) hi];have W:=aA hk1 (aA hg (aA hlt (aA KV h2)));have c0:=oG a a;refine we ?_;exact aF results179
   .have hnx:=hnx (by simp[qU,h2]);have W:=aA hk1 (aA hg (aA hlt (aA KV h2)));have c0:=oG l[k].to a;refine we ?_;exact hK1 _ ⟨k+1,by omega,hnx⟩ aK (by simp only;omega)
  .have KV:(l[k].top == top)=false:=by simp[h1]
   have hnx:=hnx (by simp[qU,KV]);have W:=aA hk1 (aA hg (aA hlt KV));refine we ?_;exact hK1 _ ⟨k+1,by omega,hnx⟩ aK (by simp only;omega)
 .rw [nN (iW (by omega) hi)];have W:=hk1;refine we ?_;exact aF results179
theorem Ib[aB prog][bQ prog](l:List fH)(hs:bP gP l<=549755813888)(hr:∀e∈l,bG e.response<=1073741824):Ok prog 204 [.agg (gU .view ⟨l⟩)] (.bool (oI l)):=by
 simp only[bP]at hs;refine bM aG func204 ntmps204 ?_;refine aZ ?_;refine aM (ι:={k:Nat // k<=l.length/\∀j (hj:j<l.length),j<k->Cc l j l[j]=true}) (λt o i=>⟨bC t [(8,.int .i64 i.1),(3,.undef),(4,.undef)],o⟩)
  (λi=>l.length-i.1) ⟨0,by simp,by simp⟩ aK ?_
 rintro⟨k,hk,hi⟩ K1 hK1;simp only[bC,cW,cU]at hK1⊢;have hk1:=oQ (k:=k);by_cases hlt:k<l.length
 .have hg:=aE hlt;have hz:=dI gP l k hlt;simp only[gP]at hz;have cN:=gL l[k].top (by omega);have cA:=rX l[k].to (by omega);have cR:=uZ l[k].response (hr _ (fS hlt));have cE:=Ia l l[k].top l[k].to (by omega);simp only[aH]at cA cE;simp only[bF]at cR;simp only[gU]at cE;have DT:=λh=>XM (l:=l) hlt h
  unfold Cc at DT;have Ic:Cc l k l[k]=true->∀j (hj:j<l.length),j<k+1->Cc l j l[j]=true:=λh j hj hjk=>by
   rcases tD j k with hl|hl
   .exact hi j hj hl
   .obtain rfl:j=k:=by omega
    exact h
  unfold Cc at Ic;generalize cZ l[k].top=b1 at*;generalize pG l[k].to=b2 at*;generalize fQ l[k].response=b3 at*;generalize qO (qU l[k].top l[k].to) l=q at*;cases b1
  .rw [DT (by simp)];have W:=aA hk1 (aA hg hlt);refine we ?_;exact aF results204
  .cases b2
   .rw [DT (by simp)];have W:=aA hk1 (aA hg hlt);refine we ?_;exact aF results204
   .cases b3
    .rw [DT (by simp)];have W:=aA hk1 (aA hg hlt);refine we ?_;exact aF results204
    .by_cases h4:l[k].response.status=200
     .rw [h4]at cR;by_cases h5:q=(k:Int)
      .have W:=aA hk1 (aA hg (aA hlt (aA h4 h5)));refine we ?_;exact hK1 _ ⟨k+1,by omega,Ic (by simp[h4,h5])⟩ (aT 1) (by simp only;omega)
      .rw [DT (by simp[h5])];have W:=aA hk1 (aA hg (aA hlt (aA h4 h5)));refine we ?_;exact aF results204
     .rw [DT (by simp[h4])];have W:=aA hk1 (aA hg (aA hlt h4));refine we ?_;exact aF results204
 .rw [TD (λj hj=>hi j hj (by omega))]
  have e:decide (l.length<=100)=decide ((l.length:Int)<=100):=by simp only[sR];omega
  rw[e];have W:=hk1;refine we ?_;exact aF results204
theorem Ie[aB prog][bQ prog](l:List fH)(hs:bP gP l<=549755813888)(hr:∀e∈l,bG e.response<=1073741824):Ok prog 178 [.agg (gU .view ⟨l⟩)] (.bool (oI l)):=by
 simp only[bP]at hs;refine bM aG func178 ntmps178 ?_;refine aZ ?_;refine aM (ι:={k:Nat // k<=l.length/\∀j (hj:j<l.length),j<k->Cc l j l[j]=true}) (λt o i=>⟨bC t [(3,.int .i64 i.1),(4,.undef)],o⟩)
  (λi=>l.length-i.1) ⟨0,by simp,by simp⟩ aK ?_
 rintro⟨k,hk,hi⟩ K1 hK1;simp only[bC,cW,cU]at hK1⊢;have hk1:=oQ (k:=k);by_cases hlt:k<l.length
 .have hg:=aE hlt;have hz:=dI gP l k hlt;simp only[gP]at hz;have cN:=fD l[k].top (by omega);have cA:=rW l[k].to (by omega);have cR:=rM l[k].response (hr _ (fS hlt));have cE:=JD l l[k].top l[k].to (by omega);simp only[aH]at cA cE;simp only[bF]at cR;simp only[gU]at cE;have DT:=λh=>XM (l:=l) hlt h
  unfold Cc at DT;have Ic:Cc l k l[k]=true->∀j (hj:j<l.length),j<k+1->Cc l j l[j]=true:=λh j hj hjk=>by
   rcases tD j k with hl|hl
   .exact hi j hj hl
   .obtain rfl:j=k:=by omega
    exact h
  unfold Cc at Ic;generalize cZ l[k].top=b1 at*;generalize pG l[k].to=b2 at*;generalize fQ l[k].response=b3 at*;generalize qO (qU l[k].top l[k].to) l=q at*;cases b1
  .rw [DT (by simp)];have W:=aA hk1 (aA hg hlt);refine we ?_;exact aF results178
  .cases b2
   .rw [DT (by simp)];have W:=aA hk1 (aA hg hlt);refine we ?_;exact aF results178
   .cases b3
    .rw [DT (by simp)];have W:=aA hk1 (aA hg hlt);refine we ?_;exact aF results178
    .by_cases h4:l[k].response.status=200
     .rw [h4]at cR;by_cases h5:q=(k:Int)
      .have W:=aA hk1 (aA hg (aA hlt (aA h4 h5)));refine we ?_;exact hK1 _ ⟨k+1,by omega,Ic (by simp[h4,h5])⟩ (aT 1) (by simp only;omega)
      .rw [DT (by simp[h5])];have W:=aA hk1 (aA hg (aA hlt (aA h4 h5)));refine we ?_;exact aF results178
     .rw [DT (by simp[h4])];have W:=aA hk1 (aA hg (aA hlt h4));refine we ?_;exact aF results178
 .rw [TD (λj hj=>hi j hj (by omega))]
  have e:decide (l.length<=100)=decide ((l.length:Int)<=100):=by simp only[sR];omega
  rw[e];have W:=hk1;refine we ?_;exact aF results178
theorem aA7{l:List fH}{top:bB}{a:aD}{x:bA}{now:Int}{e:fH}(h:e∈vL l top a (vK top a x now)):e∈l\/e.response=x:=by
 unfold vL at h;split at h
 .rcases eW.1 h with h|h
  .exact .inl h
  .rw [rS.1 h];exact .inr rfl
 .rcases CM h with h|h
  .exact .inl h
  .rw [h];exact .inr rfl
theorem wz(l P:List fH)(x:bA)(now:Int):(if x.Gw=0\/¬(0<=now/\now<=999999999000)\/oI l=false\/oI P=false then l else P)=if x.Gw=0 then l else if (decide (0<=now)&&decide (now<=999999999000))=false then l else if oI l=false then l else if oI P=false then l else P:=by
 by_cases h1:x.Gw=0
 .simp [h1]
 .by_cases h2:0<=now/\now<=999999999000
  .have h3:(decide (0<=now)&&decide (now<=999999999000))=true:=by simp[h2.1,h2.2]
   rw[h3];cases oI l<;>cases oI P<;>simp[h1,h2.1,h2.2]
  .have h3:(decide (0<=now)&&decide (now<=999999999000))=false:=by simp only[sC,pA];omega
   rw[h3,eK (.inr (.inl h2))];simp[h1]
theorem MW[aB prog][bQ prog](l:List fH)(top:bB)(a:aD)(x:bA)(now:Int)(hs:bP gP l<=274877906944)(hr:∀e∈l,bG e.response<=1048576)(hx:bG x<=1048576)(ht:top.length+aQ a<=137438953472):
  Ok prog 148 [.agg (gU .view ⟨l⟩),.str top,.agg (aH a),.agg (bF x),.int .i64 now] (.agg (gU .own ⟨vM l top a x now⟩)):=by
 have hll:l.length<=274877906944:=by simp only[bP]at hs;omega
 have c1:=LF ⟨l⟩ (by simp only[nS];omega);have c2:=Ia l top a (by omega);have c3:=jR now 0 999999999000;have c4:=Ib l (by omega) (λe he=>by have:=hr e he;omega);have hps:=H5 l top a (vK top a x now);have hne:gP (vK top a x now)=top.length+aQ a+bG x:=rfl;have c5:=Ib (vL l top a (vK top a x now)) (by omega) (λe he=>by
  rcases aA7 he with h|h
  .have:=hr e h;omega
  .rw [h];omega)
 unfold vM;rw[wz];have hcl:=Bv l;have hrow:fP (vK top a x now)=[AV.str top,AV.str a.host,AV.str a.path,AV.int .i64 x.status,AV.int .i64 x.kind,AV.str x.body,AV.int .i64 x.Gw,AV.bool x.shares,AV.str x.bD,AV.int .i64 (i64.wrap (now+x.Gw))]:=rfl;obtain⟨P,hP⟩:∃P,P=vL l top a (vK top a x now):=⟨_,rfl⟩;rw[<-hP]at c5⊢;have hcp:=Bv P;unfold vL at hP;simp only[gU]at c1 c2 c4 c5;simp only[aH]at c2;generalize (decide (0<=now)&&decide (now<=999999999000))=b3 at*;generalize oI l=b4 at*;generalize oI P=b5 at*;rcases lT (qU top a) l with⟨h1,_⟩|⟨k,hk,h1,_⟩
 .rw [h1]at c2 hP;rw[eK (by decide)]at hP;have hap:l.map fP++[[AV.str top,AV.str a.host,AV.str a.path,AV.int .i64 x.status,AV.int .i64 x.kind,AV.str x.body,AV.int .i64 x.Gw,AV.bool x.shares,AV.str x.bD,AV.int .i64 (i64.wrap (now+x.Gw))]]=P.map fP:=by rw[hP,<-hrow];simp
  clear hP hrow hps hne;refine uP aG [7] func148 ntmps148 ?_;have W:=hap;refine we ?_;refine go_weak (lC.refl _) ?_;by_cases ha:x.Gw=0
  .rw [eK ha];have W:=ha;refine we ?_;exact aF results148
  .rw [cY ha];cases b3
   .rw [eK rfl];have W:=ha;refine we ?_;exact aF results148
   .rw [cY (by simp)];cases b4
    .rw [eK rfl];have W:=ha;refine we ?_;exact aF results148
    .rw [cY (by simp)];cases b5
     .rw [eK rfl];have W:=ha;refine we ?_;exact aF results148
     .rw [cY (by simp)];have W:=ha;refine we ?_;exact aF results148
 .rw [h1]at c2 hP;rw[cY (by omega)]at hP;simp only[mA]at hP;have hset:(l.map fP).set k [AV.str top,AV.str a.host,AV.str a.path,AV.int .i64 x.status,AV.int .i64 x.kind,AV.str x.body,AV.int .i64 x.Gw,AV.bool x.shares,AV.str x.bD,AV.int .i64 (i64.wrap (now+x.Gw))]=P.map fP:=by rw[hP,<-hrow,map_set]
  have hkl:k<(l.map fP).length:=by simpa using hk
  clear hP hrow hps hne;refine uP aG [7] func148 ntmps148 ?_;have W:=hset;have V:=hk;refine we ?_;refine go_weak (lC.refl _) ?_;rw[hset];by_cases ha:x.Gw=0
  .rw [eK ha];have W:=ha;refine we ?_;exact aF results148
  .rw [cY ha];cases b3
   .rw [eK rfl];have W:=ha;refine we ?_;exact aF results148
   .rw [cY (by simp)];cases b4
    .rw [eK rfl];have W:=ha;refine we ?_;exact aF results148
    .rw [cY (by simp)];cases b5
     .rw [eK rfl];have W:=ha;refine we ?_;exact aF results148
     .rw [cY (by simp)];have W:=ha;refine we ?_;exact aF results148
theorem MX[aB prog][bQ prog](l:List fH)(top:bB)(a:aD)(x:bA)(now:Int)(hs:bP gP l<=274877906944)(hr:∀e∈l,bG e.response<=1048576)(hx:bG x<=1048576)(ht:top.length+aQ a<=137438953472):
  Ok prog 114 [.agg (gU .view ⟨l⟩),.str top,.agg (aH a),.agg (bF x),.int .i64 now] (.agg (gU .own ⟨vM l top a x now⟩)):=by
 have hll:l.length<=274877906944:=by simp only[bP]at hs;omega
 have c1:=Tj ⟨l⟩ (by simp only[nS];omega);have c2:=JD l top a (by omega);have c3:=gH now 0 999999999000;have c4:=Ie l (by omega) (λe he=>by have:=hr e he;omega);have hps:=H5 l top a (vK top a x now);have hne:gP (vK top a x now)=top.length+aQ a+bG x:=rfl;have c5:=Ie (vL l top a (vK top a x now)) (by omega) (λe he=>by
  rcases aA7 he with h|h
  .have:=hr e h;omega
  .rw [h];omega)
 have c6:=rM x (by omega);have hpr:=λh=>aG0 (l:=l) (top:=top) (a:=a) (e:=vK top a x now) h
 rw[show(vK top a x now).response=x from rfl]at hpr;unfold vM;rw[wz];have hcl:=Bv l;have hrow:fP (vK top a x now)=[AV.str top,AV.str a.host,AV.str a.path,AV.int .i64 x.status,AV.int .i64 x.kind,AV.str x.body,AV.int .i64 x.Gw,AV.bool x.shares,AV.str x.bD,AV.int .i64 (i64.wrap (now+x.Gw))]:=rfl;obtain⟨P,hP⟩:∃P,P=vL l top a (vK top a x now):=⟨_,rfl⟩;rw[<-hP]at c5 hpr⊢;have hcp:=Bv P;unfold vL at hP;simp only[gU]at c1 c2 c4 c5;simp only[aH]at c2;simp only[bF]at c6;generalize fQ x=b6 at*;generalize (decide (0<=now)&&decide (now<=999999999000))=b3 at*;generalize oI l=b4 at*;generalize oI P=b5 at*;by_cases ha:x.Gw=0
 .rw [eK ha];refine bM aG func114 ntmps114 ?_;have W:=ha;refine we ?_;exact aF results114
 .rw [cY ha];cases b3
  .rw [eK rfl];refine bM aG func114 ntmps114 ?_;have W:=ha;refine we ?_;exact aF results114
  .rw [cY (by simp)];cases b6
   .have e6:(if b4=false then l else if b5=false then l else P)=l:=by
     cases b5 with
     |false=>simp
     |true=>exact absurd (hpr rfl) (by simp)
    rw[e6];refine bM aG func114 ntmps114 ?_;have W:=ha;refine we ?_;exact aF results114
   .cases b4
    .rw [eK rfl];refine bM aG func114 ntmps114 ?_;have W:=ha;refine we ?_;exact aF results114
    .rw [cY (by simp)];refine uP aG [9] func114 ntmps114 ?_;rcases lT (qU top a) l with⟨h1,_⟩|⟨k,hk,h1,_⟩
     .rw [h1]at c2 hP;rw[eK (by decide)]at hP;have hap:l.map fP++[[AV.str top,AV.str a.host,AV.str a.path,AV.int .i64 x.status,AV.int .i64 x.kind,AV.str x.body,AV.int .i64 x.Gw,AV.bool x.shares,AV.str x.bD,AV.int .i64 (i64.wrap (now+x.Gw))]]=P.map fP:=by rw[hP,<-hrow];simp
      clear hP hrow hps hne;have W:=aA ha hap;refine we ?_;refine go_weak (lC.refl _) ?_;cases b5
      .rw [eK rfl];refine aZ ?_;exact aF results114
      .rw [cY (by simp)];refine aZ ?_;exact aF results114
     .rw [h1]at c2 hP;rw[cY (by omega)]at hP;simp only[mA]at hP;have hset:(l.map fP).set k [AV.str top,AV.str a.host,AV.str a.path,AV.int .i64 x.status,AV.int .i64 x.kind,AV.str x.body,AV.int .i64 x.Gw,AV.bool x.shares,AV.str x.bD,AV.int .i64 (i64.wrap (now+x.Gw))]=P.map fP:=by rw[hP,<-hrow,map_set]
      clear hP hrow hps hne;have W:=aA ha hset;have V:=hk;refine we ?_;refine go_weak (lC.refl _) ?_;rw[hset];cases b5
      .rw [eK rfl];refine aZ ?_;exact aF results114
      .rw [cY (by simp)];refine aZ ?_;exact aF results114
theorem aA8{N:Nat}{n:kU}(h:Od N n)(top:bB)(a:aD):Od (N+1+top.length+aQ a) (xH n top a):=by
 have hs:=h.sz;unfold xH;split
 .refine ⟨h.srv,h.ca,?_⟩;simp only[kV,bP,eR,eN,eV]at hs⊢;rw[Ei];simp only[aY,qE];omega
 .exact h.up (by omega)
theorem MZ[aB prog][bQ prog](n:kU)(top:bB)(a:aD)(x:bA)(hs:kV n<=274877906944)(hr:∀e∈n.cache.entries,bG e.response<=1048576)(hx:bG x<=1048576)(ht:top.length+aQ a<=137438953472):
  Ok prog 91 [.agg (nA .view n),.str top,.agg (aH a),.agg (bF x)] (.agg (nA .own (Ac n top a x))):=by
 have c1:=Tk n hs;simp only[kV,nS,bP]at hs;have c2:=Jo n.cache top a n.now (by omega);have c3:=uZ x (by omega);have c4:=MW n.cache.entries top a x n.now (by simp only[bP];omega) hr hx ht;simp only[nA]at c1;simp only[aH]at c2 c4;simp only[bF]at c2 c3 c4;simp only[gU]at c2 c4;unfold Ac;generalize fQ x=b at*;generalize xE n.cache top a n.now=q at*;generalize vM n.cache.entries top a x n.now=m at*;obtain⟨y,ok⟩:=q;simp only at c2;cases b
 .rw [cY (by simp)];refine bM aG func91 ntmps91 ?_;refine aZ ?_;exact aF results91
 .by_cases h4:x.status=200
  .rw [h4]at c3 c4;cases ok
   .rw [eK ⟨rfl,h4,rfl⟩];refine bM aG func91 ntmps91 ?_;have W:=h4;refine we ?_;exact aF results91
   .rw [cY (by simp)];refine bM aG func91 ntmps91 ?_;have W:=h4;refine we ?_;exact aF results91
  .rw [cY (λh=>h4 h.2.1)]
   cases ok
   .refine bM aG func91 ntmps91 ?_;have W:=h4;refine we ?_;exact aF results91
   .refine bM aG func91 ntmps91 ?_;have W:=h4;refine we ?_;exact aF results91
theorem Na[aB prog][bQ prog](n:kU)(top:bB)(a:aD)(x:bA)(hs:kV n<=274877906944)(hr:∀e∈n.cache.entries,bG e.response<=1048576)(hx:bG x<=1048576)(ht:top.length+aQ a<=137438953472):
  Ok prog 67 [.agg (nA .view n),.str top,.agg (aH a),.agg (bF x)] (.agg (nA .own (Ac n top a x))):=by
 have c1:=Tm n hs;simp only[kV,nS,bP]at hs;have c2:=Jq n.cache top a n.now (by omega);have c3:=rM x (by omega);have c4:=MX n.cache.entries top a x n.now (by simp only[bP];omega) hr hx ht;simp only[nA]at c1;simp only[aH]at c2 c4;simp only[bF]at c2 c3 c4;simp only[gU]at c2 c4;unfold Ac;generalize fQ x=b at*;generalize xE n.cache top a n.now=q at*;generalize vM n.cache.entries top a x n.now=m at*;obtain⟨y,ok⟩:=q;simp only at c2;cases b
 .rw [cY (by simp)];refine bM aG func67 ntmps67 ?_;have W:=trivial;repeat' first|refine wf ?_|(refine sq ?_ ?_<;>intro hc<;>try exact hc.elim)|fail
  all_goals (try exact aF results67)
 .by_cases h4:x.status=200
  .rw [h4]at c3 c4;cases ok
   .rw [eK ⟨rfl,h4,rfl⟩];refine bM aG func67 ntmps67 ?_;have W:=h4;refine we ?_;exact aF results67
   .rw [cY (by simp)];refine bM aG func67 ntmps67 ?_;have W:=h4;refine we ?_;exact aF results67
  .rw [cY (λh=>h4 h.2.1)]
   cases ok
   .refine bM aG func67 ntmps67 ?_;have W:=h4;refine we ?_;exact aF results67
   .refine bM aG func67 ntmps67 ?_;have W:=h4;refine we ?_;exact aF results67
theorem JE[aB prog][bQ prog]{N:Nat}(n:kU)(top:bB)(a:aD)(hn:Od N n)(hN:N<=206158430208)(ht:top.length+aQ a<=17179869184):Ok prog 48 [.agg (nA .view n),.str top,.agg (aH a),.bool false] (.gM [.agg (nA .own (iM n top a)),.agg (bF (eG n top a))]):=by
 have hs:=hn.sz;have c1:=Tk n (by omega);have c2:=rX a (by omega);have c3:=Bb;have hk:=aA8 hn top a;have hx:=lB (Bz n.gD a) hn.srv;have c6:=MZ (xH n top a) top a (sW n.gD a) (by have:=hk.sz;omega) hk.ca hx (by omega);simp only[kV,nS,bP]at hs;have c4:=Jo n.cache top a n.now (by omega);have c5:=Qm n.gD a (by simp only[bP];omega);unfold iM eG;generalize hm:xH n top a=m at*;simp only[nA]at c1 c6;simp only[aH]at c2 c4 c5 c6;simp only[bF]at c3 c4 c5 c6;simp only[gU]at c4;generalize pG a=b at*;generalize xE n.cache top a n.now=q at*;generalize sW n.gD a=y at*;generalize Ac m top a y=z at*;obtain⟨x,ok⟩:=q;simp only at c4;clear hk hx hn;cases b
 .refine xZ aG func48 ntmps48 ?_;refine aZ ?_;all_goals (try first|(refine aR (.inl ?_);simp[aP,results48,notFound];done)|(refine aR (.inr (dN ?_));simp[AS.yO,AS.wY,AS.rv,results48,notFound]))
 .cases ok
  .unfold xH at hm;by_cases h4:n.log.length<400
   .have h4':(n.log.length:Int)<400:=by omega
    rw[eK h4]at hm;obtain⟨l0,hl0⟩:∃l:List tT,l=n.log++[⟨top,a,false⟩]:=⟨_,rfl⟩;have hap:n.log.map jL++[[.str top,.str a.host,.str a.path,.bool false]]=l0.map jL:=by rw[hl0];simp
    rw[<-hl0]at hm;clear hl0;subst hm;simp only at c6;refine xZ aG func48 ntmps48 ?_;have W:=aA h4 (aA h4' hap);refine we ?_;all_goals (try exact GJ results48)
   .have h4':¬(n.log.length:Int)<400:=by omega
    rw[cY h4]at hm;subst hm;refine xZ aG func48 ntmps48 ?_;have W:=aA h4 h4';refine we ?_;all_goals (try exact GJ results48)
  .refine xZ aG func48 ntmps48 ?_;refine aZ ?_;all_goals (try exact GJ results48)
theorem JF[aB prog][bQ prog]{N:Nat}(n:kU)(top:bB)(a:aD)(hn:Od N n)(hN:N<=206158430208)(ht:top.length+aQ a<=17179869184):Ok prog 37 [.agg (nA .view n),.str top,.agg (aH a),.bool false] (.gM [.agg (nA .own (iM n top a)),.agg (bF (eG n top a))]):=by
 have hs:=hn.sz;have c1:=Tm n (by omega);have c2:=rW a (by omega);have c3:=Bc;have hk:=aA8 hn top a;have hx:=lB (Bz n.gD a) hn.srv;have c6:=Na (xH n top a) top a (sW n.gD a) (by have:=hk.sz;omega) hk.ca hx (by omega);simp only[kV,nS,bP]at hs;have c4:=Jq n.cache top a n.now (by omega);have c5:=Ql n.gD a (by simp only[bP];omega);unfold iM eG;generalize hm:xH n top a=m at*;simp only[nA]at c1 c6;simp only[aH]at c2 c4 c5 c6;simp only[bF]at c3 c4 c5 c6;simp only[gU]at c4;generalize pG a=b at*;generalize xE n.cache top a n.now=q at*;generalize sW n.gD a=y at*;generalize Ac m top a y=z at*;obtain⟨x,ok⟩:=q;simp only at c4;clear hk hx hn;cases b
 .refine xZ aG func37 ntmps37 ?_;refine aZ ?_;all_goals (try first|(refine aR (.inl ?_);simp[aP,results37,notFound];done)|(refine aR (.inr (dN ?_));simp[AS.yO,AS.wY,AS.rv,results37,notFound]))
 .cases ok
  .unfold xH at hm;by_cases h4:n.log.length<400
   .have h4':(n.log.length:Int)<400:=by omega
    rw[eK h4]at hm;obtain⟨l0,hl0⟩:∃l:List tT,l=n.log++[⟨top,a,false⟩]:=⟨_,rfl⟩;have hap:n.log.map jL++[[.str top,.str a.host,.str a.path,.bool false]]=l0.map jL:=by rw[hl0];simp
    rw[<-hl0]at hm;clear hl0;subst hm;simp only at c6;refine xZ aG func37 ntmps37 ?_;have W:=aA h4 (aA h4' hap);refine we ?_;all_goals (try exact GJ results37)
   .have h4':¬(n.log.length:Int)<400:=by omega
    rw[cY h4]at hm;subst hm;refine xZ aG func37 ntmps37 ?_;have W:=aA h4 h4';refine we ?_;all_goals (try exact GJ results37)
  .refine xZ aG func37 ntmps37 ?_;refine aZ ?_;all_goals (try exact GJ results37)
def xW:List (Nat×Nat):=[(3,24),(4,25),(5,26),(6,27),(7,28),(8,29),(9,30),(10,31),(11,32),(12,33),(13,34)]
theorem aDb{t t':List AV}{o o':List aN}{l1 l2 l3 l4 l5 l6 l7 l8 l9 l10 l11:Bool}{u n1 v1 n2 v2 n3 v3 n4 v4 n5 v5 n6 v6 n7 v7 n8 v8 n9 v9 n10 v10 n11 v11:Nat}{e1 e2 e3 e4 e5 e6 e7 e8 e9 xh e11:List (List AV)}{o0 o1 o2 m0 m1 m2 m3 m4 m5 m6 m7 m8:aN}{q:aI}(ho:o=[o0,o1,o2,⟨l1,false,n1,v1,e1⟩,⟨l2,false,n2,v2,e2⟩,⟨l3,false,n3,v3,e3⟩,⟨l4,false,n4,v4,e4⟩,⟨l5,false,n5,v5,e5⟩,⟨l6,false,n6,v6,e6⟩,⟨l7,false,n7,v7,e7⟩,⟨l8,false,n8,v8,e8⟩,⟨l9,false,n9,v9,e9⟩,⟨l10,false,n10,v10,xh⟩,⟨l11,false,n11,v11,e11⟩,⟨true,true,22,u,[zK 24 q]⟩,m0,m1,m2,m3,m4,m5,m6,m7,m8]++zJ q)
  (ho':o'=[o0,o1,o2]++zJ q++[⟨true,true,22,u,[zK 3 q]⟩,m0,m1,m2,m3,m4,m5,m6,m7,m8]) (ht:∀z∈xW,wk (rP z.1 z.2 t') t') (hf:∀z∈xW,o0.lV z.1 z.2=o0/\o1.lV z.1 z.2=o1/\o2.lV z.1 z.2=o2/\m0.lV z.1 z.2=m0/\m1.lV z.1 z.2=m1/\m2.lV z.1 z.2=m2/\m3.lV z.1 z.2=m3/\m4.lV z.1 z.2=m4/\m5.lV z.1 z.2=m5/\m6.lV z.1 z.2=m6/\m7.lV z.1 z.2=m7/\m8.lV z.1 z.2=m8) (hw:wk t t') (hc:eP 24 t'=true) (hc0:dB 24 [o0,o1,o2,m0,m1,m2,m3,m4,m5,m6,m7,m8]=true):lC ⟨t,o⟩ ⟨t',o'⟩:=by
 subst ho;subst ho';have e:=λi j (h:(i,j)∈xW)=>hf (i,j) h
 have h:=λi j (h:(i,j)∈xW)=>ht (i,j) h
 simp only[zJ,zK,eA,eM];refine(wN hw).trans ?_;refine(aS 3 24 rfl rfl ⟨rfl,rfl⟩ (by simp[(e 3 24 (by decide))];rfl) (h 3 24 (by decide))).trans ?_;refine(aS 4 25 rfl rfl ⟨rfl,rfl⟩ (by simp[(e 4 25 (by decide))];rfl) (h 4 25 (by decide))).trans ?_;refine(aS 5 26 rfl rfl ⟨rfl,rfl⟩ (by simp[(e 5 26 (by decide))];rfl) (h 5 26 (by decide))).trans ?_;refine(aS 6 27 rfl rfl ⟨rfl,rfl⟩ (by simp[(e 6 27 (by decide))];rfl) (h 6 27 (by decide))).trans ?_;refine(aS 7 28 rfl rfl ⟨rfl,rfl⟩ (by simp[(e 7 28 (by decide))];rfl) (h 7 28 (by decide))).trans ?_;refine(aS 8 29 rfl rfl ⟨rfl,rfl⟩ (by simp[(e 8 29 (by decide))];rfl) (h 8 29 (by decide))).trans ?_;refine(aS 9 30 rfl rfl ⟨rfl,rfl⟩ (by simp[(e 9 30 (by decide))];rfl) (h 9 30 (by decide))).trans ?_;refine(aS 10 31 rfl rfl ⟨rfl,rfl⟩ (by simp[(e 10 31 (by decide))];rfl) (h 10 31 (by decide))).trans ?_;refine(aS 11 32 rfl rfl ⟨rfl,rfl⟩ (by simp[(e 11 32 (by decide))];rfl) (h 11 32 (by decide))).trans ?_;refine(aS 12 33 rfl rfl ⟨rfl,rfl⟩ (by simp[(e 12 33 (by decide))];rfl) (h 12 33 (by decide))).trans ?_;refine(aS 13 34 rfl rfl ⟨rfl,rfl⟩ (by simp[(e 13 34 (by decide))];rfl) (h 13 34 (by decide))).trans ?_;refine aT 24 (by simp) (lK _) hc ?_;simpa [dB,eP,closed,GF]using hc0
theorem aIw{t t':List AV}{o o' o1 o2:List aN}{a b c d e:aN}(i1 j1 i2 j2 x:Nat)(h5:o[i1]? =some a)(h14:o[j1]? =some b)(hb:a.box=false/\b.box=false)(e1:((o.set i1 b).set j1 a).map (aN.lV i1 j1)=o1)(h6:o1[i2]? =some c)(h15:o1[j2]? =some d)(hd:c.box=false/\d.box=false)(e2:((o1.set i2 d).set j2 c).map (aN.lV i2 j2)=o2)(h12:o2[x]? =some e)(e3:o2.set x ⟨false,false,0,e.bU,[]⟩=o')(w1:wk (rP i1 j1 t) t')(w2:wk (rP i2 j2 t') t'):lC ⟨t,o⟩ ⟨t',o'⟩:=
 (aS i1 j1 h5 h14 hb e1 w1).trans ((aS i2 j2 h6 h15 hd e2 w2).trans (XY x h12 e3 (lK _)))
end Go.Proofs.YthddijamfbfibaaGreatDoor
