/- Steps. No condition. -/
import Derived.Test.YtanobkmhbpjnpaaGreatDoorZQU1
import Derived.Test.YtanobkmhbpjnpaaGreatDoorZQD1
set_option linter.all false
set_option maxRecDepth 4000
set_option maxHeartbeats 4000000
namespace Go.Proofs.YtanobkmhbpjnpaaGreatDoor
open Go.Aw Proofs.Tryz List IntKind
def jG[aG prog](a b c:Int):Ok prog 66 [.int .i64 a,.int .i64 b,.int .i64 c] (.bool (decide (b<=a)&&decide (a<=c))):=by
 refine dN aK func66 ntmps66 ?_;have W:=trivial;repeat' first|refine wg ?_|(refine sq ?_ ?_<;>intro hc<;>try exact hc.elim)|fail
 all_goals try(refine bA ?_;simp[bB,results66])
 all_goals (first|(simp_all;done)|(simp_all;omega))
def mM[aG prog](a b c:Int):Ok prog 205 [.int .i64 a,.int .i64 b,.int .i64 c] (.bool (decide (b<=a)&&decide (a<=c))):=by
 refine dN aK func205 ntmps205 ?_;have W:=trivial;repeat' first|refine wg ?_|(refine sq ?_ ?_<;>intro hc<;>try exact hc.elim)|fail
 all_goals try(refine bA ?_;simp[bB,results205])
 all_goals (first|(simp_all;done)|(simp_all;omega))
def aA9{s:bE}{k:Nat}(h:k<s.length)(hc:lowerB s[k]=false):dW s=false:=by
 have:s.all lowerB=false:=by rw[all_eq_false];exact⟨s[k],gR h,by simp[hc]⟩
 simp[dW,this]
def aBa{s:bE}{k:Nat}(h:k<s.length)(hc:(s[k].toNat:Int)<97):dW s=false:=aA9 h (by simp[lowerB];omega)
def aBb{s:bE}{k:Nat}(h:k<s.length)(hc:122<(s[k].toNat:Int)):dW s=false:=aA9 h (by simp[lowerB];omega)
def Xp{c:UInt8}(h:97<=(c.toNat:Int))(hc:(c.toNat:Int)<=122):lowerB c=true:=by simp[lowerB];omega
def jq{s:bE}(h:∀x∈s,lowerB x=true):dW s=(decide ((1:Int)<=s.length)&&decide ((s.length:Int)<=8)):=by
 have:s.all lowerB=true:=fW.2 h;have h1:decide ((1:Int)<=s.length)=decide (1<=s.length):=by simp only[sC];omega
 have h2:decide ((s.length:Int)<=8)=decide (s.length<=8):=by simp only[sC];omega
 rw[dW,this,h1,h2,AK]
def gY[aG prog](s:bE)(hl:s.length<=1099511627776):Ok prog 219 [.str s] (.bool (dW s)):=by
 have h1:=jG s.length 1 8;refine dN aK func219 ntmps219 ?_;refine bZ ?_;refine aT (ι:={k:Nat // k<=s.length/\∀x∈s.take k,lowerB x=true}) (λt o i=>⟨bP t [(3,.int .i64 i.1)],o⟩)
  (λi=>s.length-i.1) ⟨0,by simp,by simp⟩ aP ?_
 rintro⟨k,hk,hi⟩ K1 hK1;simp only[bP,cH,cQ]at hK1⊢;have hk1:=tQ (k:=k);by_cases hlt:k<s.length
 .have hg:=aE hlt;have W:=aA hk1 (aA hg hlt);repeat' first|refine wg ?_|(refine sq ?_ ?_<;>intro hc<;>try exact hc.elim)|fail
  .skip
   all_goals try(refine bA ?_;simp[bB,results219])
   rw[aBa hlt (by assumption)]
  .skip
   all_goals try(refine bA ?_;simp[bB,results219])
   rw[aBb hlt (by assumption)]
  .skip
   exact hK1 _ ⟨k+1,by omega,fB hlt hi (Xp (by assumption) (by assumption))⟩ aP (by simp only;omega)
 .have W:=hk1;refine wl ?_;all_goals try(refine bA ?_;simp[bB,results219])
  rw[jq (nS (by omega) hi)]
def jS[aG prog](s:bE)(hl:s.length<=1099511627776):Ok prog 183 [.str s] (.bool (dW s)):=by
 have h1:=mM s.length 1 8;refine dN aK func183 ntmps183 ?_;refine bZ ?_;refine aT (ι:={k:Nat // k<=s.length/\∀x∈s.take k,lowerB x=true}) (λt o i=>⟨bP t [(3,.int .i64 i.1)],o⟩)
  (λi=>s.length-i.1) ⟨0,by simp,by simp⟩ aP ?_
 rintro⟨k,hk,hi⟩ K1 hK1;simp only[bP,cH,cQ]at hK1⊢;have hk1:=tQ (k:=k);by_cases hlt:k<s.length
 .have hg:=aE hlt;have W:=aA hk1 (aA hg hlt);repeat' first|refine wg ?_|(refine sq ?_ ?_<;>intro hc<;>try exact hc.elim)|fail
  .skip
   all_goals try(refine bA ?_;simp[bB,results183])
   rw[aBa hlt (by assumption)]
  .skip
   all_goals try(refine bA ?_;simp[bB,results183])
   rw[aBb hlt (by assumption)]
  .skip
   exact hK1 _ ⟨k+1,by omega,fB hlt hi (Xp (by assumption) (by assumption))⟩ aP (by simp only;omega)
 .have W:=hk1;refine wl ?_;all_goals try(refine bA ?_;simp[bB,results183])
  rw[jq (nS (by omega) hi)]
def yF[aG prog](a:aR)(hl:aW a<=1099511627776):Ok prog 176 [.agg (aS a)] (.bool (xV a)):=by
 simp only[aW]at hl;have h1:=gY a.bN (by omega);have h2:=gY a.iD (by omega);refine dN aK func176 ntmps176 ?_;have W:=trivial;repeat' first|refine wg ?_|(refine sq ?_ ?_<;>intro hc<;>try exact hc.elim)|fail
 all_goals try(refine bA ?_;simp[bB,results176])
 all_goals simp_all[xV]
def Bg[aG prog](a:aR)(hl:aW a<=1099511627776):Ok prog 132 [.agg (aS a)] (.bool (xV a)):=by
 simp only[aW]at hl;have h1:=jS a.bN (by omega);have h2:=jS a.iD (by omega);refine dN aK func132 ntmps132 ?_;have W:=trivial;repeat' first|refine wg ?_|(refine sq ?_ ?_<;>intro hc<;>try exact hc.elim)|fail
 all_goals try(refine bA ?_;simp[bB,results132])
 all_goals simp_all[xV]
def nJ[aG prog](l:List pV)(n:bE)(hl:l.length<=1099511627776):Ok prog 171 [.sl .view 2 (l.map uB),.str n] (.iL [.str (aX l n).1,.bool (aX l n).2]):=by
 refine dN aK func171 ntmps171 ?_;refine bZ ?_;refine aT (ι:={k:Nat // k<=l.length/\∀x∈l.take k,rT n x=false}) (λt o i=>⟨bP t [(6,.int .i64 i.1)],o⟩)
  (λi=>l.length-i.1) ⟨0,by simp,by simp⟩ aP ?_
 rintro⟨k,hk,hi⟩ K1 hK1;simp only[bP,cH,cQ]at hK1⊢;have hk1:=tQ (k:=k);by_cases hlt:k<l.length
 .have hg:=aE hlt;have W:=aA hk1 (aA hg hlt);repeat' first|refine wg ?_|(refine sq ?_ ?_<;>intro hc<;>try exact hc.elim)|fail
  .all_goals try(refine bA ?_;simp[bB,results171])
   rw[PO hlt (by simpa [rT]using hc) hi];simp
  .exact hK1 _ ⟨k+1,by omega,fB hlt hi (by simpa [rT]using hc)⟩ aP (by simp only;omega)
 .have W:=hk1;refine wl ?_;all_goals try(refine bA ?_;simp[bB,results171])
  rw[JM (nS (by omega) hi)];simp
def aHj[aG prog](g:pV)(n:bE):Ok prog 217 [.agg (uB g),.iW .view [.str n] 0] (.bool (rT n g)):=by
 refine dN aK func217 ntmps217 ?_;refine bZ ?_;all_goals try(refine bA ?_;simp[bB,results217])
 rw[Hi];simp[rT]
def YM[aG prog](l:List pV)(n:bE)(hl:l.length<=1099511627776):Ok prog 216 [.sl .view 2 (l.map uB),.fn 217 [.iW .view [.str n] 0]] (.int .i64 (wR (rT n) l)):=by
 refine dN aK func216 ntmps216 ?_;refine bZ ?_;refine aT (ι:={k:Nat // k<=l.length/\∀x∈l.take k,rT n x=false}) (λt o i=>⟨bP t [(8,.int .i64 i.1),(5,.aB)],o⟩)
  (λi=>l.length-i.1) ⟨0,by simp,by simp⟩ aP ?_
 rintro⟨k,hk,hi⟩ K1 hK1;simp only[bP,cH,cQ]at hK1⊢;have hk1:=tQ (k:=k);by_cases hlt:k<l.length
 .have hg:=aE hlt;have W:=aA hk1 (aA hg hlt);have c0:=aHj l[k] n;repeat' first|refine wg ?_|(refine sq ?_ ?_<;>intro hc<;>try exact hc.elim)|fail
  .all_goals try(refine bA ?_;simp[bB,results216])
   rw[Cb hlt (by simpa using hc) hi]
  .exact hK1 _ ⟨k+1,by omega,fB hlt hi (by simpa using hc)⟩ aP (by simp only;omega)
 .have W:=hk1;refine wl ?_;all_goals try(refine bA ?_;simp[bB,results216])
  rw[wI (nS (by omega) hi)]
def aMc{α:Type}(f:α->Bool)(l:List α)(h:l.findIdx f<l.length):wR f l=(l.findIdx f:Nat):=by unfold wR;rw[eM];exact any_eq_true.2 ⟨_,gR h,findIdx_getElem (w:=h)⟩
def aMd{α:Type}(f:α->Bool)(l:List α)(h:¬l.findIdx f<l.length):wR f l= -1:=by
 refine wI λx hx=> ?_
 have he:l.findIdx f=l.length:=by have:=findIdx_le_length (p:=f) (xs:=l);omega
 have:=findIdx_eq_length.1 he x hx;simpa using this
def jw(l:List pV)(n:bE)(h:l.findIdx (rT n)<l.length):aX l n=(l[l.findIdx (rT n)].value,true):=by
 refine PO h (findIdx_getElem (w:=h)) ?_;intro x hx;obtain⟨i,hi,rfl⟩:=getElem_of_mem hx;have hi':i<l.findIdx (rT n):=by have:=hi;simp at this;omega
 rw[getElem_take];have:=not_of_lt_findIdx (p:=(rT n)) (xs:=l) hi';simpa using this
def jy(l:List pV)(n:bE)(h:¬l.findIdx (rT n)<l.length):aX l n=([],false):=by
 refine JM λx hx=> ?_
 have he:l.findIdx (rT n)=l.length:=by have:=findIdx_le_length (p:=rT n) (xs:=l);omega
 have:=findIdx_eq_length.1 he x hx;simpa using this
def oP[aG prog](l:List pV)(n:bE)(hl:l.length<=1099511627776):Ok prog 159 [.sl .view 2 (l.map uB),.str n] (.iL [.str (aX l n).1,.bool (aX l n).2]):=by
 have hF:=YM l n hl;by_cases h:l.findIdx (rT n)<l.length
 .rw [aMc _ _ h]at hF;rw[jw _ _ h];generalize hk:l.findIdx (rT n)=k at*;have hg:=aE h;refine dN aK func159 ntmps159 ?_;have W:=hg;have V:=h;have c0:=hF;refine wl ?_;all_goals try(refine bA ?_;simp[bB,results159])
  all_goals simp
 .rw [aMd _ _ h]at hF;rw[jy _ _ h];refine dN aK func159 ntmps159 ?_;have c0:=hF;refine bZ ?_;all_goals try(refine bA ?_;simp[bB,results159])
  all_goals simp
def KL[aG prog](s:bE)(c:UInt8):OkN prog 280 [.str s,.int .u8 c.toNat] (.int .i64 (dx c s)):=
 VM (fn:=f280) (by kernel_rfl) (by decide+kernel) rfl (by decide+kernel) (by rfl) s c
def BS[aG prog](s:bE)(c:UInt8):Ok prog 261 [.str s,.int .u8 c.toNat] (.int .i64 (dx c s)):=by have h1:=KL s c;refine dN aK func261 ntmps261 ?_;refine bZ ?_;exact aO results261
def QJ[aG prog](s:bE)(c:UInt8):Ok prog 257 [.str s,.str [c]] (.int .i64 (dx c s)):=by
 have h1:=BS s c;refine dN aK func257 ntmps257 ?_;have W:=trivial;repeat' first|refine wg ?_|(refine sq ?_ ?_<;>intro hc<;>try exact hc.elim)|fail
 all_goals try(refine bA ?_;simp[bB,results257])
 all_goals (subst hc;simp[dx,yD])
def K8[aG prog](s:bE)(c:UInt8)(hl:s.length<=1099511627776):Ok prog 228 [.str s,.str [c]] (.iL [.str (s.take (jQ c s)),.str (s.drop (jQ c s+1)),.bool (decide (jQ c s<s.length))]):=by
 have h1:=QJ s c;have hle:=vL c s;by_cases h:jQ c s<s.length
 .have e:dx c s=jQ c s:=eM h;rw[e]at h1;generalize jQ c s=k at*;refine dN aK func228 ntmps228 ?_;have W:=h;refine wl ?_;all_goals try(refine bA ?_;simp[bB,results228])
  all_goals simp_all
 .have e:dx c s= -1:=eC h;rw[e]at h1;have e2:jQ c s=s.length:=by omega
  rw[e2];refine dN aK func228 ntmps228 ?_;refine bZ ?_;all_goals try(refine bA ?_;simp[bB,results228])
  all_goals simp
def Bh[aG prog](s:bE)(c:UInt8)(hl:s.length<=1099511627776):Ok prog 181 [.str s,.str [c]] (.iL [.str (s.take (jQ c s)),.str (s.drop (jQ c s+1)),.bool (decide (jQ c s<s.length))]):=by have h1:=K8 s c hl;refine dN aK func181 ntmps181 ?_;refine bZ ?_;exact aO results181
def aMe{c:UInt8}{n:Nat}(hn:n<256)(h:(c.toNat:Int)=n):c=UInt8.ofNat n:=by
 have:c.toNat=n:=by omega
 rw[<-this];simp
def aMf{c:UInt8}{n:Nat}(hn:n<256)(h:¬(c.toNat:Int)=n):c≠UInt8.ofNat n:=by rintro rfl;apply h;simp;omega
def TC{s b:bE}{k:Nat}(h:jQ 47 s=k)(hk:k<s.length):addrOf s b=⟨s.take k,s.drop (k+1)⟩:=by subst h;exact eM hk
def PV{s b:bE}(h:jQ 47 s=s.length):addrOf s b=⟨b,s⟩:=eC (by omega)
def AL[aG prog](s b:bE)(hl:s.length+b.length<=1099511627776):Ok prog 178 [.str s,.str b] (.iL [.agg (aS (dR s b).1),.bool (dR s b).2]):=by
 simp only[dR];refine dN aK func178 ntmps178 ?_;refine bZ ?_;refine aT (ι:={k:Nat // k<=s.length/\∀x∈s.take k,x≠47}) (λt o i=>⟨bP t [(7,.int .i64 i.1)],o⟩)
  (λi=>s.length-i.1) ⟨0,by simp,by simp⟩ aP ?_
 rintro⟨k,hk,hi⟩ K1 hK1;simp only[bP,cH,cQ]at hK1⊢;have hk1:=tQ (k:=k);by_cases hlt:k<s.length
 .have hg:=aE hlt;have W:=aA hk1 (aA hg hlt);repeat' first|refine wg ?_|(refine sq ?_ ?_<;>intro hc<;>try exact hc.elim)|fail
  .have e:=TC (b:=b) (F6 hlt (aMe (by decide) hc) hi) hlt;have h1:=yF ⟨s.take k,s.drop (k+1)⟩ (by simp[aW];omega);rw[e];simp only[aS]at h1;have W:=trivial;repeat' first|refine wg ?_|(refine sq ?_ ?_<;>intro hc<;>try exact hc.elim)|fail
   all_goals try(refine bA ?_;simp[bB,results178,yR])
   all_goals simp_all[yR]
  .exact hK1 _ ⟨k+1,by omega,fB hlt hi (aMf (by decide) hc)⟩ aP (by simp only;omega)
 .have e:=PV (b:=b) (Tf (nS (by omega) hi));have h1:=yF ⟨b,s⟩ (by simp[aW];omega);rw[e];simp only[aS]at h1;have W:=hk1;repeat' first|refine wg ?_|(refine sq ?_ ?_<;>intro hc<;>try exact hc.elim)|fail
  all_goals try(refine bA ?_;simp[bB,results178,yR])
  all_goals simp_all[yR]
def AO[aG prog](s b:bE)(hl:s.length+b.length<=1099511627776):Ok prog 135 [.str s,.str b] (.iL [.agg (aS (dR s b).1),.bool (dR s b).2]):=by
 have hC:=Bh s 47 (by omega);have hle:=vL 47 s;simp only[dR];by_cases h:jQ 47 s<s.length
 .rw [TC rfl h];rw[tI h]at hC;generalize jQ 47 s=k at*;have h1:=Bg ⟨s.take k,s.drop (k+1)⟩ (by simp[aW];omega);simp only[aS]at h1;refine dN aK func135 ntmps135 ?_;have W:=trivial;repeat' first|refine wg ?_|(refine sq ?_ ?_<;>intro hc<;>try exact hc.elim)|fail
  all_goals try(refine bA ?_;simp[bB,results135,yR])
  all_goals simp_all[yR]
 .have e2:jQ 47 s=s.length:=by omega
  rw[PV e2];rw[Bm h]at hC;have h1:=Bg ⟨b,s⟩ (by simp[aW];omega);simp only[aS]at h1;refine dN aK func135 ntmps135 ?_;have W:=trivial;repeat' first|refine wg ?_|(refine sq ?_ ?_<;>intro hc<;>try exact hc.elim)|fail
  all_goals try(refine bA ?_;simp[bB,results135,yR])
  all_goals simp_all[yR]
def aCx{c:UInt8}{s:bE}{f i:Nat}(hf:f<=i)(hi:i<s.length)(hc:s[i]=c)(hn:∀x∈(s.take i).drop f,x≠c):dQ c (s.drop f)=(s.take i).drop f::dQ c (s.drop (i+1)):=by
 have e:s.drop f=(s.take i).drop f++c::s.drop (i+1):=by
  have h1:s=s.take i++s[i]::s.drop (i+1):=by simp
  conv=>lhs;rw[h1]
  rw[CM (by simp;omega),hc]
 rw[e,EM c _ _ hn]
def aCy{c:UInt8}{s:bE}{f:Nat}(hn:∀x∈(s.take s.length).drop f,x≠c):dQ c (s.drop f)=[(s.take s.length).drop f]:=by rw[DM]at hn⊢;exact CG c _ hn
def aCz{c:UInt8}{s:bE}{f i:Nat}(hf:f<=i)(hi:i<s.length)(hc:s[i]≠c)(hn:∀x∈(s.take i).drop f,x≠c):∀x∈(s.take (i+1)).drop f,x≠c:=by
 rw[fN hi,CM (by simp;omega)];intro x hx;rcases fR.1 hx with h|h
 .exact hn x h
 .rw [mS.1 h];exact hc
def yS[aG prog](s:bE)(c:UInt8)(hl:s.length<=1099511627776):Ok prog 163 [.str s,.int .u8 c.toNat] (.sl .own 1 ((dQ c s).map eD)):=by
 refine dN aK func163 ntmps163 ?_;refine bZ ?_;refine aT (ι:={q:Nat×Nat×List bE×Nat // q.1<=s.length+1/\q.2.1<=q.1/\q.2.2.1.length<=q.1/\1<=q.2.2.2/\(q.1<=s.length->dQ c s=q.2.2.1++dQ c (s.drop q.2.1)/\∀x∈(s.take q.1).drop q.2.1,x≠c)/\(q.1=s.length+1->q.2.2.1=dQ c s)})
  (λt o i=>⟨bP t [(7,.int .i64 i.1.1),(6,.int .i64 i.1.2.1),(5,.obj 0 i.1.2.2.2)],[⟨true,false,1,i.1.2.2.2,i.1.2.2.1.map eD⟩]⟩)
  (λi=>s.length+1-i.1.1) ⟨(0,0,[],1),by simp,by simp,by simp,by simp,by simp,by simp⟩ aP ?_
 rintro⟨⟨k,f,out,v⟩,hk,hf,ho,hv,hin,EG⟩ K1 hK1;simp only at hk hf ho hv hin EG;simp only[bP,cH,cQ]at hK1⊢;have hk1:=tQ (k:=k);by_cases h1:k=s.length+1
 .have e:=EG h1;subst e;subst h1;have W:=hk1;refine wl ?_;exact aO results163
 .have hle:k<=s.length:=by omega
  obtain⟨g1,g2⟩:=hin hle;by_cases h2:k=s.length
  .subst h2;have e:=aCy g2;rw[e,DM]at g1;have W:=hk1;refine wl ?_;exact hK1 _ ⟨(s.length+1,s.length+1,out++[s.drop f],v+1),by simp only;omega,by simp only;omega,by simp;omega,by simp only;omega,λh=>by simp only at h;omega,λ_=>g1.symm⟩ (aQ 1) (by simp only;omega)
  .have hlt:k<s.length:=by omega
   have hg:=aE hlt;have W:=aA hk1 (aA hg hlt);repeat' first|refine wg ?_|(refine sq ?_ ?_<;>intro hc<;>try exact hc.elim)|fail
   .have Vy:s[k]=c:=DA.1 (by omega);rw[aCx hf hlt Vy g2]at g1;exact hK1 _ ⟨(k+1,k+1,out++[(s.take k).drop f],v+1),by simp only;omega,by simp only;omega,by simp;omega,by simp only;omega,λ_=>⟨by rw[g1];simp,by simp⟩,λh=>by simp only at h;omega⟩ (aQ 1) (by simp only;omega)
   .have Vy:s[k]≠c:=λh=>hc (by rw[h])
    exact hK1 _ ⟨(k+1,f,out,v),by simp only;omega,by simp only;omega,by simp only;omega,by simp only;omega,λ_=>⟨g1,aCz hf hlt Vy g2⟩,λh=>by simp only at h;omega⟩ (aQ 1) (by simp only;omega)
end Go.Proofs.YtanobkmhbpjnpaaGreatDoor
