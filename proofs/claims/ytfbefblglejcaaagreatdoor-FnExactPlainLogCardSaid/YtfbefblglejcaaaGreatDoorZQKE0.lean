/- Proved here: steps towards the statement of this claim. No condition. -/
import Derived.Test.YtfbefblglejcaaaGreatDoorZB6
import Derived.Test.YtfbefblglejcaaaGreatDoorZQJ3
set_option linter.all false
set_option maxRecDepth 4000
set_option maxHeartbeats 4000000
namespace Go.Proofs.YtfbefblglejcaaaGreatDoor
open Go.Aw Proofs.Tryz List IntKind
def qJ(top:bB)(a:aK)(e:fH):Bool:=e.top == top&&decide (e.to=a)
def BO(l:List fH)(k:Nat)(e:fH):Bool:=dA e.top&&(oZ e.to&&(fQ e.response&&(decide (e.response.status=200)&&decide (qF (qJ e.top e.to) l=(k:Int)))))
def SK(l:List fH):Bool:=(range l.length).all λk=>match l[k]? with
 |some e=>BO l k e
 |none=>true
def oF(l:List fH):Bool:=SK l&&decide (l.length<=100)
theorem Ww{l:List fH}(h:SK l=true){k:Nat}(hk:k<l.length):BO l k l[k]=true:=by have h2:=(fN.1 h) k (by simpa using hk);simpa [aE hk]using h2
theorem Wx{l:List fH}{k:Nat}(hk:k<l.length)(ho:BO l k l[k]=false):oF l=false:=by
 cases h:SK l with
 |false=>simp[oF,h]
 |true=>rw[Ww h hk]at ho;cases ho
theorem SN{l:List fH}(h:∀k (hk:k<l.length),BO l k l[k]=true):oF l=decide (l.length<=100):=by
 have:SK l=true:=by
  unfold SK;rw[fN];intro k hk;have hk2:k<l.length:=by simpa using hk
  simp only[aE hk2];exact h k hk2
 simp[oF,this]
def vF(top:bB)(a:aK)(x:aZ)(now:Int):fH:=⟨top,a,x,i64.wrap (now+x.Gc)⟩
def vG(l:List fH)(top:bB)(a:aK)(e:fH):List fH:=if qF (qJ top a) l<0 then l++[e]else l.set (qF (qJ top a) l).toNat e
def vH(l:List fH)(top:bB)(a:aK)(x:aZ)(now:Int):List fH:=
 if x.Gc=0\/¬(0<=now/\now<=999999999000)\/oF l=false\/oF (vG l top a (vF top a x now))=false then l else vG l top a (vF top a x now)
theorem aFg{l:List fH}{top:bB}{a:aK}{e:fH}(h:oF (vG l top a e)=true):fQ e.response=true:=by
 simp only[oF,eJ]at h;have hin:∃k,∃hk:k<(vG l top a e).length,(vG l top a e)[k]=e:=by
  unfold vG;rcases lJ (qJ top a) l with⟨h1,_⟩|⟨k,hk,h1,_⟩
  .rw [h1,eK (by decide)];exact⟨l.length,by simp,by simp⟩
  .rw [h1,cX (by omega)];exact⟨k,by simpa using hk,by simp⟩
 obtain⟨k,hk,he⟩:=hin;have h2:=Ww h.1 hk;rw[he]at h2;simp only[BO,eJ]at h2;exact h2.2.2.1
def CW(n:lW)(top:bB)(a:aK)(x:aZ):lW:=
 if fQ x=true/\x.status=200/\(xA n.cache top a n.now).2=false then {n with cache:=⟨vH n.cache.entries top a x n.now⟩}else n
def yM(n:lW)(top:bB)(a:aK):lW:=if n.log.length<400 then {n with log:=n.log++[⟨top,a,false⟩]}else n
def jW(n:lW)(top:bB)(a:aK):lW:=
 if oZ a=false then n else if (xA n.cache top a n.now).2=true then n else CW (yM n top a) top a (sO n.gD a)
theorem Wy{α:Type}(f:α->Nat)(x:α):∀(l:List α) (k:Nat),bA f (l.set k x)<=bA f l+f x
 |[],_=>by simp[bA]
 |y::l,0=>by simp[bA];omega
 |y::l,k+1=>by have:=Wy f x l k;simp[bA];omega
theorem Ic{α:Type}(f:α->Nat):∀a b:List α,bA f (a++b)=bA f a+bA f b
 |[],b=>by simp[bA]
 |x::a,b=>by simp only[eA,bA];rw[Ic f a b];omega
theorem yt(l:List fH)(top:bB)(a:aK)(e:fH):bQ gN (vG l top a e)<=bQ gN l+1+gN e:=by
 unfold vG;split
 .simp only[bQ,eR,eN,eV];rw[Ic];simp[bA];omega
 .have:=Wy gN e l (qF (qJ top a) l).toNat;simp only[bQ,length_set];omega
theorem aA5{l:List fH}{top:bB}{a:aK}{x:aZ}{now:Int}{e:fH}(h:e∈vH l top a x now):e∈l\/e.response=x:=by
 unfold vH at h;split at h
 .exact .inl h
 .unfold vG at h;split at h
  .rcases fL.1 h with h|h
   .exact .inl h
   .rw [rI.1 h];exact .inr rfl
  .rcases CA h with h|h
   .exact .inl h
   .rw [h];exact .inr rfl
theorem aFh(l:List fH)(top:bB)(a:aK)(x:aZ)(now:Int):bQ gN (vH l top a x now)<=bQ gN l+1+top.length+aR a+bG x:=by
 unfold vH;split
 .omega
 .have:=yt l top a (vF top a x now);have h2:gN (vF top a x now)=top.length+aR a+bG x:=rfl;omega
theorem Bl(l:List fU)(a:aK):bG (sO l a)<=bQ eY l:=by
 unfold sO;split
 .rename_i s hs;split
  .rename_i f hf;have h1:=bS eY (pA hs);have h2:=bS tT (pA hf);simp only[bQ,eY,tT]at*;omega
  .simp [bG,notFound]
 .simp [bG,notFound]
structure NG(N:Nat)(n:lW): Prop where
  srv:bQ eY n.gD <= 1048576
  ca:∀ e ∈ n.cache.entries, bG e.response <= 1048576
  sz:lX n <= N
theorem NG.up{N M:Nat}{n:lW}(h:NG N n)(hm:N<=M):NG M n:=⟨h.srv,h.ca,kO h.sz hm⟩
theorem QI(n:lW)(h:lX n<=1048576):NG 1048576 n:=by refine⟨by simp only[lX]at h;omega,λe he=> ?_,h⟩;have h1:=bS gN he;simp only[lX,nP,bQ,gN]at h h1;omega
theorem Am{N:Nat}{n:lW}(h:NG N n)(top:bB)(a:aK):bG (eZ n top a)<=1048576:=by
 have h0:bG notFound=0:=rfl;unfold eZ;split
 .omega
 .split
  .unfold xA;split
   .rename_i e he;exact h.ca e (pA he)
   .simp only;omega
  .exact kO (Bl _ _) h.srv
theorem NH{N:Nat}{n:lW}(h:NG N n)(top:bB)(a:aK):NG (N+2*top.length+2*aR a+1048580) (jW n top a):=by
 unfold jW;split
 .exact h.up (by omega)
 .split
  .exact h.up (by omega)
  .have hx:=kO (Bl n.gD a) h.srv;generalize sO n.gD a=x at*;have h2:NG (N+1+top.length+aR a) (yM n top a)/\(yM n top a).cache=n.cache/\(yM n top a).gD=n.gD:=by
    have hs:=h.sz;unfold yM;split
    .refine ⟨⟨h.srv,h.ca,?_⟩,rfl,rfl⟩;simp only[lX,bQ,eR,eN,eV]at hs⊢;rw[Ic];simp only[bA,tV];omega
    .exact ⟨h.up (by omega),rfl,rfl⟩
   obtain⟨h2,h3,h4⟩:=h2;generalize yM n top a=m at*;unfold CW;split
   .have hs:=h2.sz;have h5:=aFh m.cache.entries top a x m.now;refine⟨h2.srv,λe he=> ?_,?_⟩
    .rcases aA5 he with he|he
     .exact h2.ca e he
     .rw [he];exact hx
    .simp only[lX,nP]at hs⊢;omega
   .exact h2.up (by omega)
def yZ{α β:Type}(f:α->β)(l:List α):List β:=l.map f
@[simp] theorem aEk{α β:Type}(f:α->β):yZ f []=[]:=rfl
theorem zH{α β:Type}(f:α->β)(l:List α)(k:Nat)(h:k<l.length):yZ f (l.take (k+1))=yZ f (l.take k)++[f l[k]]:=by simp only[yZ];rw[eI h,oT];rfl
theorem qZ{α β:Type}(f:α->β)(l:List α):(yZ f l).length=l.length:=oY _
def dJ(p:aG)(s:bB):aG:=if p.ended=true then p else {p with queue:=p.queue++(feed (p.tok.rest++s)).1,tok:=⟨(feed (p.tok.rest++s)).2⟩}
theorem MC[aC prog][bP prog](a:aG)(s:bB)(hs:aI a<=274877906)(hl:s.length<=274877906):Ok prog 47 [.agg (aH .view a),.str s] (.agg (aH .own (dJ a s))):=by
 have c1:=iG a (by omega);simp only[aI,bQ,lH]at hs;have c2:=FE a.tok s (by omega);obtain⟨h1,h2⟩:=Da (a.tok.rest++s).length (a.tok.rest++s) (eE _);simp only[dO]at c2;simp only[aH]at c1;unfold dJ;simp only[eR]at h1 h2;generalize feed (a.tok.rest++s)=g at*;obtain⟨l,x⟩:=g;simp only at c2 h1 h2⊢;have hb1:(a.queue.length+l.length)*64<=140737488355328:=by omega
 by_cases he:a.ended=true
 .rw [eK he];simp only[he]at c1;refine bM aF func47 ntmps47 ?_;have W:=he;repeat' first|refine st ?_|(refine nx ?_;first|refine se ?_|refine so ?_)|(refine cx ?_;refine sc (λhc=>?_) (λhc=>?_)<;>try exact hc.elim)|(refine lx ?_;refine sp (λhc=>?_) (λhc=>?_)<;>try exact hc.elim)|refine sx ?_ ?_|refine sy ?_ ?_|fail
  all_goals try(refine aQ ?_;simp[aP,results47])
  all_goals exact he
 .rw [cX he];replace he:a.ended=false:=by simpa using he
  simp only[he]at c1;refine bM aF func47 ntmps47 ?_;have W:=aA he hb1;repeat' first|refine st ?_|(refine nx ?_;first|refine se ?_|refine so ?_)|(refine cx ?_;refine sc (λhc=>?_) (λhc=>?_)<;>try exact hc.elim)|(refine lx ?_;refine sp (λhc=>?_) (λhc=>?_)<;>try exact hc.elim)|refine sx ?_ ?_|refine sy ?_ ?_|fail
  all_goals try(refine aQ ?_;simp[aP,results47])
  all_goals (rw[<-oT];first|exact mH _|exact⟨he,mH _⟩)
theorem ME[aC prog][bP prog](a:aG)(s:bB)(hs:aI a<=274877906)(hl:s.length<=274877906):Ok prog 37 [.agg (aH .view a),.str s] (.agg (aH .own (dJ a s))):=by
 have c1:=gK a (by omega);simp only[aI,bQ,lH]at hs;have c2:=FD a.tok s (by omega);obtain⟨h1,h2⟩:=Da (a.tok.rest++s).length (a.tok.rest++s) (eE _);simp only[dO]at c2;simp only[aH]at c1;unfold dJ;simp only[eR]at h1 h2;generalize feed (a.tok.rest++s)=g at*;obtain⟨l,x⟩:=g;simp only at c2 h1 h2⊢;have hb1:(a.queue.length+l.length)*64<=140737488355328:=by omega
 by_cases he:a.ended=true
 .rw [eK he];simp only[he]at c1;refine bM aF func37 ntmps37 ?_;have W:=he;repeat' first|refine st ?_|(refine nx ?_;first|refine se ?_|refine so ?_)|(refine cx ?_;refine sc (λhc=>?_) (λhc=>?_)<;>try exact hc.elim)|(refine lx ?_;refine sp (λhc=>?_) (λhc=>?_)<;>try exact hc.elim)|refine sx ?_ ?_|refine sy ?_ ?_|fail
  all_goals try(refine aQ ?_;simp[aP,results37])
  all_goals exact he
 .rw [cX he];replace he:a.ended=false:=by simpa using he
  simp only[he]at c1;refine bM aF func37 ntmps37 ?_;have W:=aA he hb1;repeat' first|refine st ?_|(refine nx ?_;first|refine se ?_|refine so ?_)|(refine cx ?_;refine sc (λhc=>?_) (λhc=>?_)<;>try exact hc.elim)|(refine lx ?_;refine sp (λhc=>?_) (λhc=>?_)<;>try exact hc.elim)|refine sx ?_ ?_|refine sy ?_ ?_|fail
  all_goals try(refine aQ ?_;simp[aP,results37])
  all_goals (rw[<-oT];first|exact mH _|exact⟨he,mH _⟩)
theorem F4[aC prog][bP prog](e:fH)(top:bB)(a:aK):Ok prog 236 [.agg (fP e),.eQ .view [.str top] 0,.eQ .view (aL a) 0] (.bool (qJ top a e)):=by
 unfold qJ;refine bM aF func236 ntmps236 ?_;have W:=trivial;have c0:=oC e.to a;repeat' first|refine wf ?_|(refine sq ?_ ?_<;>intro hc<;>try exact hc.elim)|fail
 all_goals try(refine aQ ?_;simp[aP,results236])
 all_goals simp_all
theorem nu[aC prog][bP prog](l:List fH)(top:bB)(a:aK)(hl:l.length<=1099511627776):Ok prog 134 [.sl .view 10 (l.map fP),.fn 236 [.eQ .view [.str top] 0,.eQ .view (aL a) 0]] (.int .i64 (qF (qJ top a) l)):=by
 refine bM aF func134 ntmps134 ?_;refine aY ?_;refine aO (ι:={k:Nat // k<=l.length/\∀x∈l.take k,(qJ top a) x=false}) (λt o i=>⟨bC t [(8,.int .i64 i.1),(5,.undef)],o⟩)
  (λi=>l.length-i.1) ⟨0,by simp⟩ aJ ?_
 rintro⟨k,hk,hpre⟩ K1 hK1;simp only[bC,cW,cU]at hK1⊢;have hk1:=oQ (k:=k);by_cases hlt:k<l.length
 .have hg:=aE hlt;have c1:=F4 l[k] top a;generalize hb:(qJ top a) l[k]=b at*;have W:=aA hk1 (aA hg hlt);repeat' first|refine wf ?_|(refine sq ?_ ?_<;>intro hc<;>try exact hc.elim)|fail
  .all_goals try(refine aQ ?_;simp[aP,results134])
   rw[uS hlt (by rw[hb];simpa using hc) hpre]
  .exact hK1 _ ⟨k+1,by omega,cB hlt hpre (by rw[hb];simpa using hc)⟩ aJ (by simp only;omega)
 .have W:=hk1;refine we ?_;all_goals try(refine aQ ?_;simp[aP,results134])
  rw[nJ (iR (by omega) hpre)]
theorem Hd[aC prog][bP prog](l:List fH)(top:bB)(a:aK)(hl:l.length<=1099511627776):Ok prog 192 [.agg (gU .view ⟨l⟩),.str top,.agg (aL a)] (.int .i64 (qF (qJ top a) l)):=by have c1:=nu l top a hl;simp only[aL]at c1;refine bM aF func192 ntmps192 ?_;refine aY ?_;exact aD results192
theorem Jo[aC prog][bP prog](l:List fH)(top:bB)(a:aK)(hl:l.length<=1099511627776):Ok prog 166 [.agg (gU .view ⟨l⟩),.str top,.agg (aL a)] (.int .i64 (qF (qJ top a) l)):=by
 refine bM aF func166 ntmps166 ?_;refine aY ?_;refine aO (ι:={k:Nat // k<=l.length/\∀x∈l.take k,qJ top a x=false}) (λt o i=>⟨bC t [(7,.int .i64 i.1)],o⟩)
  (λi=>l.length-i.1) ⟨0,by simp,by simp⟩ aJ ?_
 rintro⟨k,hk,hi⟩ K1 hK1;simp only[bC,cW,cU]at hK1⊢;have hk1:=oQ (k:=k);by_cases hlt:k<l.length
 .have hg:=aE hlt;have hnx:qJ top a l[k]=false->∀x∈l.take (k+1),qJ top a x=false:=λh=>cB hlt hi h
  by_cases h1:l[k].top=top
  .have KG:(l[k].top == top)=true:=by simp[h1]
   by_cases h2:l[k].to=a
   .rw [uS hlt (by simp[qJ,h1,h2]) hi];have W:=aA hk1 (aA hg (aA hlt (aA KG h2)));have c0:=oC a a;refine we ?_;exact aD results166
   .have hnx:=hnx (by simp[qJ,h2]);have W:=aA hk1 (aA hg (aA hlt (aA KG h2)));have c0:=oC l[k].to a;refine we ?_;exact hK1 _ ⟨k+1,by omega,hnx⟩ aJ (by simp only;omega)
  .have KG:(l[k].top == top)=false:=by simp[h1]
   have hnx:=hnx (by simp[qJ,KG]);have W:=aA hk1 (aA hg (aA hlt KG));refine we ?_;exact hK1 _ ⟨k+1,by omega,hnx⟩ aJ (by simp only;omega)
 .rw [nJ (iR (by omega) hi)];have W:=hk1;refine we ?_;exact aD results166
theorem He[aC prog][bP prog](l:List fH)(hs:bQ gN l<=549755813888)(hr:∀e∈l,bG e.response<=1073741824):Ok prog 193 [.agg (gU .view ⟨l⟩)] (.bool (oF l)):=by
 simp only[bQ]at hs;refine bM aF func193 ntmps193 ?_;refine aY ?_;refine aO (ι:={k:Nat // k<=l.length/\∀j (hj:j<l.length),j<k->BO l j l[j]=true}) (λt o i=>⟨bC t [(8,.int .i64 i.1),(3,.undef),(4,.undef)],o⟩)
  (λi=>l.length-i.1) ⟨0,by simp,by simp⟩ aJ ?_
 rintro⟨k,hk,hi⟩ K1 hK1;simp only[bC,cW,cU]at hK1⊢;have hk1:=oQ (k:=k);by_cases hlt:k<l.length
 .have hg:=aE hlt;have hz:=dK gN l k hlt;simp only[gN]at hz;have cN:=gL l[k].top (by omega);have cA:=rQ l[k].to (by omega);have cR:=uT l[k].response (hr _ (fS hlt));have cE:=Hd l l[k].top l[k].to (by omega);simp only[aL]at cA cE;simp only[bF]at cR;simp only[gU]at cE;have Dx:=λh=>Wx (l:=l) hlt h
  unfold BO at Dx;have Hf:BO l k l[k]=true->∀j (hj:j<l.length),j<k+1->BO l j l[j]=true:=λh j hj hjk=>by
   rcases sL j k with hl|hl
   .exact hi j hj hl
   .obtain rfl:j=k:=by omega
    exact h
  unfold BO at Hf;generalize dA l[k].top=b1 at*;generalize oZ l[k].to=b2 at*;generalize fQ l[k].response=b3 at*;generalize qF (qJ l[k].top l[k].to) l=q at*;cases b1
  .rw [Dx (by simp)];have W:=aA hk1 (aA hg hlt);refine we ?_;exact aD results193
  .cases b2
   .rw [Dx (by simp)];have W:=aA hk1 (aA hg hlt);refine we ?_;exact aD results193
   .cases b3
    .rw [Dx (by simp)];have W:=aA hk1 (aA hg hlt);refine we ?_;exact aD results193
    .by_cases h4:l[k].response.status=200
     .rw [h4]at cR;by_cases h5:q=(k:Int)
      .have W:=aA hk1 (aA hg (aA hlt (aA h4 h5)));refine we ?_;exact hK1 _ ⟨k+1,by omega,Hf (by simp[h4,h5])⟩ (aV 1) (by simp only;omega)
      .rw [Dx (by simp[h5])];have W:=aA hk1 (aA hg (aA hlt (aA h4 h5)));refine we ?_;exact aD results193
     .rw [Dx (by simp[h4])];have W:=aA hk1 (aA hg (aA hlt h4));refine we ?_;exact aD results193
 .rw [SN (λj hj=>hi j hj (by omega))]
  have e:decide (l.length<=100)=decide ((l.length:Int)<=100):=by simp only[rS];omega
  rw[e];have W:=hk1;refine we ?_;exact aD results193
theorem Hg[aC prog][bP prog](l:List fH)(hs:bQ gN l<=549755813888)(hr:∀e∈l,bG e.response<=1073741824):Ok prog 165 [.agg (gU .view ⟨l⟩)] (.bool (oF l)):=by
 simp only[bQ]at hs;refine bM aF func165 ntmps165 ?_;refine aY ?_;refine aO (ι:={k:Nat // k<=l.length/\∀j (hj:j<l.length),j<k->BO l j l[j]=true}) (λt o i=>⟨bC t [(3,.int .i64 i.1),(4,.undef)],o⟩)
  (λi=>l.length-i.1) ⟨0,by simp,by simp⟩ aJ ?_
 rintro⟨k,hk,hi⟩ K1 hK1;simp only[bC,cW,cU]at hK1⊢;have hk1:=oQ (k:=k);by_cases hlt:k<l.length
 .have hg:=aE hlt;have hz:=dK gN l k hlt;simp only[gN]at hz;have cN:=fD l[k].top (by omega);have cA:=rP l[k].to (by omega);have cR:=rA l[k].response (hr _ (fS hlt));have cE:=Jo l l[k].top l[k].to (by omega);simp only[aL]at cA cE;simp only[bF]at cR;simp only[gU]at cE;have Dx:=λh=>Wx (l:=l) hlt h
  unfold BO at Dx;have Hf:BO l k l[k]=true->∀j (hj:j<l.length),j<k+1->BO l j l[j]=true:=λh j hj hjk=>by
   rcases sL j k with hl|hl
   .exact hi j hj hl
   .obtain rfl:j=k:=by omega
    exact h
  unfold BO at Hf;generalize dA l[k].top=b1 at*;generalize oZ l[k].to=b2 at*;generalize fQ l[k].response=b3 at*;generalize qF (qJ l[k].top l[k].to) l=q at*;cases b1
  .rw [Dx (by simp)];have W:=aA hk1 (aA hg hlt);refine we ?_;exact aD results165
  .cases b2
   .rw [Dx (by simp)];have W:=aA hk1 (aA hg hlt);refine we ?_;exact aD results165
   .cases b3
    .rw [Dx (by simp)];have W:=aA hk1 (aA hg hlt);refine we ?_;exact aD results165
    .by_cases h4:l[k].response.status=200
     .rw [h4]at cR;by_cases h5:q=(k:Int)
      .have W:=aA hk1 (aA hg (aA hlt (aA h4 h5)));refine we ?_;exact hK1 _ ⟨k+1,by omega,Hf (by simp[h4,h5])⟩ (aV 1) (by simp only;omega)
      .rw [Dx (by simp[h5])];have W:=aA hk1 (aA hg (aA hlt (aA h4 h5)));refine we ?_;exact aD results165
     .rw [Dx (by simp[h4])];have W:=aA hk1 (aA hg (aA hlt h4));refine we ?_;exact aD results165
 .rw [SN (λj hj=>hi j hj (by omega))]
  have e:decide (l.length<=100)=decide ((l.length:Int)<=100):=by simp only[rS];omega
  rw[e];have W:=hk1;refine we ?_;exact aD results165
end Go.Proofs.YtfbefblglejcaaaGreatDoor
