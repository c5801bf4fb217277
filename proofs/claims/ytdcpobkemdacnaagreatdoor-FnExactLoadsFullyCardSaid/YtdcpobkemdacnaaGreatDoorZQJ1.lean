/- Proved here: steps towards the statement of this claim. No condition. -/
import Derived.Test.YtdcpobkemdacnaaGreatDoorZQ1
import Derived.Test.YtdcpobkemdacnaaGreatDoorZQU5
set_option linter.all false
set_option maxRecDepth 4000
set_option maxHeartbeats 4000000
namespace Go.Proofs.YtdcpobkemdacnaaGreatDoor
open Go.Aw Proofs.Tryz List IntKind
def lJ (l:List bB):Bool:=l.all dB&&decide (l.length<=4)
def nP (p:eY):Bool:=
 if p.isSet=true then lJ p.fF&&lJ p.iB&&lJ p.iC&&(p.sP == [] || isValue p.sP)
 else p.fF == []&&p.iB == []&&p.iC == []&&p.sP == []
def vU:bB:=[115,99,114,105,112,116]
def yU:bB:=[115,116,121,108,101]
def Kz:bB:=[105,109,103]
def oQ:bB:=[110,111,110,99,101,32]
def words (w:bB) (l:List bB):bB:=Lib.join (w::l) [32]
def Xp (n:bB):bB:=if n=[] then [] else 59::(oQ++n)
def iY (p:eY):bB:=
 if nP p=true/\p.isSet=true then words vU p.fF++59::(words yU p.iB++59::(words Kz p.iC++Xp p.sP)) else []
def oM:eY:=⟨false,[],[],[],[]⟩
def rF (f:bB->bB) (s:bB):eY:=
 ⟨true,(dG 32 ((dG 59 s).getD 0 [])).tail,(dG 32 ((dG 59 s).getD 1 [])).tail,(dG 32 ((dG 59 s).getD 2 [])).tail,match (dG 59 s)[3]? with|some x=>f x|none=>[]⟩
def uY (f:bB->bB) (s:bB):eY×Bool:=
 if s=[] then (oM,true) else if (dG 59 s).length < 3 then (oM,false) else if iY (rF f s)=s then (rF f s,true) else (oM,false)
def qY (x:bB):bB:=if oQ.isPrefixOf x then x.drop 6 else x
def pX (x:bB):bB:=if 6 < x.length then x.drop 6 else []
theorem Xq (c:UInt8) (hc:c.toNat < 97):∀(s:bB),dB s=true->∀x∈s,x≠c:=by intro s h x hx e;subst e;simp only [dB,eJ,fW] at h;have:=h.1 x hx;simp [lowerB] at this;omega
theorem oo:∀(s:bB),isValue s=true->∀x∈s,x≠59:=by intro s h x hx e;subst e;simp only [isValue,eJ,fW] at h;have:=h.1 _ hx;simp [wU] at this
theorem KA (w:bB) (hw:∀x∈w,x≠59):∀(l:List bB),l.all dB=true->∀x∈words w l,x≠59:=by
 intro l hl x hx;have key:∀(l:List bB),(∀s∈l,∀x∈s,x≠(59:UInt8))->∀x∈Lib.join l [32],x≠(59:UInt8):=by
  intro l;unfold Lib.join;induction l with
  |nil=>intro _ x hx;simp at hx
  |cons a l ih=>
   intro h x hx;cases l with
   |nil=>simp at hx;exact h a (by simp) x hx
   |cons b l=>
    rw [intercalate_cons_cons] at hx;simp only [fL] at hx;rcases hx with (hx|hx)|hx
    .exact h a (by simp) x hx
    .simp at hx;subst hx;decide
    .exact ih (λs hs=>h s (by simp [hs])) x hx
 refine key (w::l) (λs hs=> ?_) x hx;rcases lE.1 hs with rfl|hs
 .exact hw
 .exact Xq 59 (by decide) s (fW.1 hl s hs)
theorem aC3 (p:eY) (h:nP p=true) (hs:p.isSet=true):
  dG 59 (iY p)=words vU p.fF::words yU p.iB::words Kz p.iC::(if p.sP=[] then [] else [oQ++p.sP]):=by
 simp only [nP,hs,gO,lJ,eJ] at h;obtain ⟨⟨⟨h1,h2⟩,h3⟩,h4⟩:=h;have hp:nP p=true:=by simp only [nP,hs,gO,lJ,eJ];exact ⟨⟨⟨h1,h2⟩,h3⟩,h4⟩
 unfold iY;rw [eI ⟨hp,hs⟩,Dn _ _ _ (KA vU (by decide) _ h1.1),Dn _ _ _ (KA yU (by decide) _ h2.1)];unfold Xp;by_cases hn:p.sP=[]
 .rw [eI hn,eI hn,fY,Bl _ _ (KA Kz (by decide) _ h3.1)]
 .rw [cX hn,cX hn,Dn _ _ _ (KA Kz (by decide) _ h3.1),Bl];intro x hx;rcases fL.1 hx with hx|hx
  .exact (by decide:∀x∈oQ,x≠59) x hx
  .have hv:isValue p.sP=true:=by simp only [tD,Bs] at h4;exact h4.resolve_left hn
   exact oo _ hv x hx
theorem aK6 {p:eY} {s:bB} (hs:s≠[]) (h:iY p=s):nP p=true/\p.isSet=true:=by
 unfold iY at h;by_cases hc:nP p=true/\p.isSet=true
 .exact hc
 .rw [cX hc] at h;exact absurd h.symm hs
theorem Rl {f g:bB->bB} (hf:∀n,n≠[]->f (oQ++n)=n) (hg:∀n,n≠[]->g (oQ++n)=n) {s:bB} (hs:s≠[]) (h:iY (rF f s)=s):rF f s=rF g s:=by
 obtain ⟨h1,h2⟩:=aK6 hs h;have h3:=aC3 _ h1 h2;rw [h] at h3;unfold rF;congr 1;cases hx:(dG 59 s)[3]? with
 |none=>rfl
 |some x=>
  dsimp only;rw [h3] at hx;by_cases hn:(rF f s).sP=[]
  .rw [eI hn] at hx;simp at hx
  .rw [cX hn] at hx;simp only [tU,sC,eC] at hx;rw [<-hx,hf _ hn,hg _ hn]
theorem VK (n:bB) (h:n≠[]):qY (oQ++n)=n:=by unfold qY;rw [eI (by simp [isPrefixOf_iff_prefix])];simp [oQ]
theorem VL (n:bB) (h:n≠[]):pX (oQ++n)=n:=by unfold pX;have:0 < n.length:=Cl.2 h;rw [eI (by simp [oQ];omega)];simp [oQ]
theorem ou (s:bB):uY qY s=uY pX s:=by
 unfold uY;by_cases hs:s=[]
 .rw [eI hs,eI hs]
 rw [cX hs,cX hs];by_cases hl:(dG 59 s).length < 3
 .rw [eI hl,eI hl]
 rw [cX hl,cX hl];by_cases h1:iY (rF qY s)=s
 .have e:=Rl VK VL hs h1;rw [eI h1,eI (by rw [<-e];exact h1),e]
 .by_cases h2:iY (rF pX s)=s
  .have e:=Rl VL VK hs h2;exact absurd (by rw [<-e];exact h2) h1
  .rw [cX h1,cX h2]
def fV (s:bB):eY×Bool:=uY pX s
theorem aDd {l:List bB} {k:Nat} (h:k < l.length) (hc:dB l[k]=false):lJ l=false:=by
 have:l.all dB=false:=by rw [all_eq_false];exact ⟨l[k],fN h,by simp [hc]⟩
 simp [lJ,this]
theorem O1 {l:List bB} (h:∀x∈l,dB x=true):lJ l=decide ((l.length:Int)<=4):=by
 have:l.all dB=true:=fW.2 h;have h1:decide ((l.length:Int)<=4)=decide (l.length<=4):=by simp only [rI];omega
 rw [lJ,this,h1,BT]
theorem Eo [aC prog] (l:List bB) (hs:bT gM l<=1099511627776):Ok prog 212 [.sl .view 1 (l.map dD)] (.bool (lJ l)):=by
 simp only [bT] at hs;refine bO aD func212 ntmps212 ?_;refine aZ ?_;refine aP (ι:={k:Nat // k<=l.length/\∀x∈l.take k,dB x=true}) (λt o i=>⟨bE t [(3,.int .i64 i.1)],o⟩)
  (λi=>l.length - i.1) ⟨0,by simp,by simp⟩ aO ?_
 rintro ⟨k,hk,hi⟩ K1 hK1;simp only [bE,cW,cU] at hK1⊢;have hk1:=oW (k:=k);by_cases hlt:k < l.length
 .have hg:=aE hlt;have hel:=dO gM l k hlt;simp only [gM] at hel;have c1:=fG l[k] (by omega);generalize hb:dB l[k]=b at *;cases b
  .have W:=aA hk1 (aA hg hlt);refine we ?_;rw [aDd hlt hb];all_goals try(refine aV ?_;simp [aH,results212])
  .have W:=aA hk1 (aA hg hlt);refine we ?_;exact hK1 _ ⟨k+1,by omega,bZ hlt hi hb⟩ aO (by simp only;omega)
 .have W:=hk1;refine we ?_;rw [O1 (iX (by omega) hi)];all_goals try(refine aV ?_;simp [aH,results212])
theorem OO [aC prog] (p:eY) (hs:eO p<=1099511627776):Ok prog 159 [.agg (bP .view p)] (.bool (nP p)):=by
 simp only [eO] at hs;have c1:=Eo p.fF (by omega);have c2:=Eo p.iB (by omega);have c3:=Eo p.iC (by omega);have c4:=xX p.sP (by omega);have l1:(p.fF == [])=decide ((p.fF.length:Int)=0):=by cases p.fF<;>simp<;>omega
 have l2:(p.iB == [])=decide ((p.iB.length:Int)=0):=by cases p.iB<;>simp<;>omega
 have l3:(p.iC == [])=decide ((p.iC.length:Int)=0):=by cases p.iC<;>simp<;>omega
 unfold nP;rw [l1,l2,l3];generalize lJ p.fF=b1 at *;generalize lJ p.iB=b2 at *;generalize lJ p.iC=b3 at *;generalize isValue p.sP=b4 at *;generalize hb:p.isSet=b at *;cases b
 .refine bO aD func159 ntmps159 ?_;have W:=hb;repeat' first|refine wf ?_|(refine sq ?_ ?_<;>intro hc<;>try exact hc.elim)|fail
  all_goals try(refine aV ?_;simp [aH,results159,hb])
  all_goals simp_all
 .refine bO aD func159 ntmps159 ?_;have W:=hb;repeat' first|refine wf ?_|(refine sq ?_ ?_<;>intro hc<;>try exact hc.elim)|fail
  all_goals try(refine aV ?_;simp [aH,results159,hb])
  all_goals simp_all
theorem qb (w:bB) (l:List bB) (x:bB):words w (l++[x])=words w l++32::x:=by unfold words;rw [Lib.join_cons,Lib.join_cons];simp [Lib.joinTail]
theorem O3 (w:bB):words w []=w:=by simp [words,Lib.join_one]
theorem GU (w:bB) (l:List bB):(words w l).length=w.length+l.length+bH gM l:=by
 unfold words;rw [Lib.join_cons];unfold Lib.joinTail;have:∀l:List bB,((l.map (([32]:bB)++ ·)).flatten).length=l.length+bH gM l:=by
  intro l;induction l with
  |nil=>simp [bH]
  |cons x l ih=>simp only [mA,pL,eR,ih,bH,gM,eN,eW];omega
 rw [eR,this];omega
theorem Jm [aC prog] (w:bB) (l:List bB) (hs:w.length+bT gM l<=1099511627776):Ok prog 160 [.str w,.sl .view 1 (l.map dD)] (.str (words w l)):=by
 simp only [bT] at hs;refine bO aD func160 ntmps160 ?_;refine aZ ?_;refine aP (ι:={k:Nat // k<=l.length}) (λt o i=>⟨bE t [(5,.int .i64 i.1),(0,.str (words w (l.take i.1)))],o⟩)
  (λi=>l.length - i.1) ⟨0,by simp⟩ (aO (by simp) (by simp [O3])) ?_
 rintro ⟨k,hk⟩ K1 hK1;simp only [bE,cW,cU] at hK1⊢;have hk1:=oW (k:=k);by_cases hlt:k < l.length
 .have hg:=aE hlt;have hel:=dO gM l k hlt;simp only [gM] at hel;have hw:=GU w (l.take k);have hts:=sZ gM l k;have htl:(l.take k).length<=l.length:=by simp;omega
  have e:l.take (k+1)=l.take k++[l[k]]:=by rw [take_add_one,hg];rfl
  have e2:=qb w (l.take k) l[k];rw [<-e] at e2;generalize words w (l.take k)=q at *;have W:=aA hk1 (aA hg hlt);refine we ?_;exact hK1 _ ⟨k+1,by omega⟩ (aO (by simp) (by simp [e2])) (by simp only;omega)
 .have htk:l.take k=l:=cY (by omega);rw [htk];have W:=hk1;refine we ?_;exact aF results160
theorem Bb {l:List bB} (h:lJ l=true):l.length<=4/\bH gM l<=32:=by
 simp only [lJ,eJ,fR,fW] at h;have key:∀l:List bB,(∀x∈l,dB x=true)->bH gM l<=8 * l.length:=by
  intro l;induction l with
  |nil=>intro _;simp [bH]
  |cons x l ih=>
   intro hl;have h1:=hl x (by simp);simp only [dB,eJ,fR] at h1;have:=ih λy hy=>hl y (by simp [hy])
   simp only [bH,gM,eN];omega
 have:=key l h.1;exact ⟨h.2,by omega⟩
theorem O4 {s:bB} (h:(s == [])=true\/isValue s=true):s.length<=20:=by
 rcases h with h|h
 .simp only [Bs] at h;simp [h]
 .simp only [isValue,eJ,fR] at h;exact h.2.2
theorem Ro {p:eY} (h:nP p=true) (hs:p.isSet=true):(words vU p.fF).length<=42/\(words yU p.iB).length<=41/\(words Kz p.iC).length<=39/\p.sP.length<=20:=by simp only [nP,hs,gO,eJ,tD] at h;obtain ⟨⟨⟨h1,h2⟩,h3⟩,h4⟩:=h;have k1:=Bb h1;have k2:=Bb h2;have k3:=Bb h3;refine ⟨by rw [GU];simp [vU];omega,by rw [GU];simp [yU];omega,by rw [GU];simp [Kz];omega,O4 h4⟩
theorem Ho [aC prog] (p:eY) (hs:eO p<=274877906944):Ok prog 98 [.agg (bP .view p)] (.str (iY p)):=by
 have c0:=OO p (by omega);simp only [bP] at c0;have hq:= @Ro p;simp only [eO] at hs;have c1:Ok prog 160 [.str [115,99,114,105,112,116],.sl .view 1 (p.fF.map dD)] (.str (words vU p.fF)):=Jm vU p.fF (by simp [vU];omega);have c2:Ok prog 160 [.str [115,116,121,108,101],.sl .view 1 (p.iB.map dD)] (.str (words yU p.iB)):=Jm yU p.iB (by simp [yU];omega);have c3:Ok prog 160 [.str [105,109,103],.sl .view 1 (p.iC.map dD)] (.str (words Kz p.iC)):=Jm Kz p.iC (by simp [Kz];omega);unfold iY;by_cases h1:nP p=true
 .by_cases h2:p.isSet=true
  .obtain ⟨k1,k2,k3,k4⟩:=hq h1 h2;rw [eI ⟨h1,h2⟩];unfold Xp;rw [h1,h2] at c0;generalize words vU p.fF=q1 at *;generalize words yU p.iB=q2 at *;generalize words Kz p.iC=q3 at *;by_cases hn:p.sP=[]
   .rw [eI hn];rw [hn] at c0;refine bO aD func98 ntmps98 ?_;have W:=aA h2 hn;have V:=aA h2 hn;refine we ?_;all_goals try(refine aV ?_;simp [aH,results98,h2,hn])
   .rw [cX hn];refine bO aD func98 ntmps98 ?_;have W:=aA h2 hn;have V:=aA h2 hn;repeat' first|refine wf ?_|(refine sq ?_ ?_<;>intro hc<;>try exact hc.elim)|fail
    all_goals try(refine aV ?_;simp [aH,results98,h2,hn,oQ])
    all_goals (exact absurd (by assumption) hn)
  .rw [cX (λh=>h2 h.2)]
   simp only [wA] at h2;rw [h1,h2] at c0;refine bO aD func98 ntmps98 ?_;have W:=h2;have V:=h2;refine we ?_;exact aF results98
 .rw [cX (λh=>h1 h.1)]
  simp only [wA] at h1;rw [h1] at c0;refine bO aD func98 ntmps98 ?_;refine aZ ?_;exact aF results98
theorem Rs [aC prog] (l:List bB) (sep:bB) (hl:l.length<=140737488355328) (hs:(Lib.join l sep).length<=140737488355328):
  Ok prog 189 [.sl .view 1 (l.map dD),.str sep] (.str (Lib.join l sep)):=yl Tryz.lays156 Tryz.Builder_Extra_156 l sep hl hs
def Ct (s:bB):Bool:= !dB s
theorem Xx [aC prog] (s:bB) (hl:s.length<=1099511627776):Ok prog 273 [.str s] (.bool (Ct s)):=by have c1:=gQ s hl;unfold Ct;generalize dB s=b at *;refine bO aD func273 ntmps273 ?_;refine aZ ?_;exact aF results273
theorem Us [aC prog] (l:List bB) (hs:bT gM l<=1099511627776):Ok prog 292 [.sl .view 1 (l.map dD),.fn 273 []] (.int .i64 (pW Ct l)):=by
 simp only [bT] at hs;refine bO aD func292 ntmps292 ?_;refine aZ ?_;refine aP (ι:={k:Nat // k<=l.length/\∀x∈l.take k,Ct x=false}) (λt o i=>⟨bE t [(8,.int .i64 i.1),(5,.undef)],o⟩)
  (λi=>l.length - i.1) ⟨0,by simp⟩ aO ?_
 rintro ⟨k,hk,hpre⟩ K1 hK1;simp only [bE,cW,cU] at hK1⊢;have hk1:=oW (k:=k);by_cases hlt:k < l.length
 .have hg:=aE hlt;have hel:=dO gM l k hlt;simp only [gM] at hel;have c1:=Xx l[k] (by omega);generalize hb:Ct l[k]=b at *;have W:=aA hk1 (aA hg hlt);repeat' first|refine wf ?_|(refine sq ?_ ?_<;>intro hc<;>try exact hc.elim)|fail
  .all_goals try(refine aV ?_;simp [aH,results292])
   rw [uM hlt (by simpa [hb] using hc) hpre]
  .exact hK1 _ ⟨k+1,by omega,bZ hlt hpre (by simpa [hb] using hc)⟩ aO (by simp only;omega)
 .have W:=hk1;refine we ?_;all_goals try(refine aV ?_;simp [aH,results292])
  rw [nA (iX (by omega) hpre)]
theorem MM [aC prog] (l:List bB) (hs:bT gM l<=1099511627776):Ok prog 272 [.sl .view 1 (l.map dD),.fn 273 []] (.bool (l.any Ct)):=by
 have c1:=Us l hs;refine bO aD func272 ntmps272 ?_;refine aZ ?_;all_goals try(refine aV ?_;simp [aH,results272])
 exact FN _ _
theorem FR [aC prog] (l:List bB) (hs:bT gM l<=1099511627776):Ok prog 233 [.sl .view 1 (l.map dD)] (.bool (lJ l)):=by
 have c1:=MM l hs;simp only [bT] at hs;have e:l.any Ct= !l.all dB:=by rw [any_eq_not_all_not];simp [Ct]
 have e2:decide (l.length<=4)=decide ((l.length:Int)<=4):=by simp only [rI];omega
 rw [e] at c1;unfold lJ;rw [e2];generalize l.all dB=b at *;refine bO aD func233 ntmps233 ?_;have W:=trivial;repeat' first|refine wf ?_|(refine sq ?_ ?_<;>intro hc<;>try exact hc.elim)|fail
 all_goals try(refine aV ?_;simp [aH,results233])
 all_goals simp_all
theorem OQ [aC prog] (p:eY) (hs:eO p<=1099511627776):Ok prog 188 [.agg (bP .view p)] (.bool (nP p)):=by
 simp only [eO] at hs;have c1:=FR p.fF (by omega);have c2:=FR p.iB (by omega);have c3:=FR p.iC (by omega);have c4:=Bn p.sP (by omega);have l1:(p.fF == [])=decide ((p.fF.length:Int)=0):=by cases p.fF<;>simp<;>omega
 have l2:(p.iB == [])=decide ((p.iB.length:Int)=0):=by cases p.iB<;>simp<;>omega
 have l3:(p.iC == [])=decide ((p.iC.length:Int)=0):=by cases p.iC<;>simp<;>omega
 unfold nP;rw [l1,l2,l3];generalize lJ p.fF=b1 at *;generalize lJ p.iB=b2 at *;generalize lJ p.iC=b3 at *;generalize isValue p.sP=b4 at *;generalize hb:p.isSet=b at *;cases b
 .refine bO aD func188 ntmps188 ?_;have W:=hb;repeat' first|refine wf ?_|(refine sq ?_ ?_<;>intro hc<;>try exact hc.elim)|fail
  all_goals try(refine aV ?_;simp [aH,results188,hb])
  all_goals simp_all
 .refine bO aD func188 ntmps188 ?_;have W:=hb;repeat' first|refine wf ?_|(refine sq ?_ ?_<;>intro hc<;>try exact hc.elim)|fail
  all_goals try(refine aV ?_;simp [aH,results188,hb])
  all_goals simp_all
theorem Hq [aC prog] (p:eY) (hs:eO p<=274877906944):Ok prog 134 [.agg (bP .view p)] (.str (iY p)):=by
 have c0:=OQ p (by omega);simp only [bP] at c0;have hq:= @Ro p;have hn':nP p=true->p.isSet=true->p.fF.length<=4/\p.iB.length<=4/\p.iC.length<=4:=by intro h hs;simp only [nP,hs,gO,eJ] at h;exact ⟨(Bb h.1.1.1).1,(Bb h.1.1.2).1,(Bb h.1.2).1⟩
 have hs0:=hs;simp only [eO,bT] at hs;unfold iY;by_cases h1:nP p=true
 .by_cases h2:p.isSet=true
  .obtain ⟨k1,k2,k3,k4⟩:=hq h1 h2;obtain ⟨n1,n2,n3⟩:=hn' h1 h2;have j1:Ok prog 189 [.sl .view 1 ([.str [115,99,114,105,112,116]]::p.fF.map dD),.str [32]] (.str (words vU p.fF)):=Rs (vU::p.fF) [32] (by simp;omega) (by change (words vU p.fF).length<=_;omega);have j2:Ok prog 189 [.sl .view 1 ([.str [115,116,121,108,101]]::p.iB.map dD),.str [32]] (.str (words yU p.iB)):=Rs (yU::p.iB) [32] (by simp;omega) (by change (words yU p.iB).length<=_;omega);have j3:Ok prog 189 [.sl .view 1 ([.str [105,109,103]]::p.iC.map dD),.str [32]] (.str (words Kz p.iC)):=Rs (Kz::p.iC) [32] (by simp;omega) (by change (words Kz p.iC).length<=_;omega);rw [eI ⟨h1,h2⟩];unfold Xp;rw [h1,h2] at c0;generalize words vU p.fF=q1 at *;generalize words yU p.iB=q2 at *;generalize words Kz p.iC=q3 at *;by_cases hn:p.sP=[]
   .rw [eI hn];rw [hn] at c0;refine uB aD [3] func134 ntmps134 ?_;have W:=aA h2 hn;have V:=aA h2 hn;refine we ?_;refine go_drawn3 [⟨1,1,[(3,⟨true,false,1,2,[.str [115,99,114,105,112,116]]::p.fF.map dD⟩),(0,⟨true,false,1,1,[[.str [115,99,114,105,112,116]]]⟩)]⟩,⟨2,1,[(9,⟨true,false,1,2,[.str [115,116,121,108,101]]::p.iB.map dD⟩),(6,⟨true,false,1,1,[[.str [115,116,121,108,101]]]⟩)]⟩,⟨3,1,[(16,⟨true,false,1,2,[.str [105,109,103]]::p.iC.map dD⟩),(13,⟨true,false,1,1,[[.str [105,109,103]]]⟩)]⟩] (by simp;rfl) (by decide+kernel) (by decide+kernel) (by simp [mQ,pre,Region.binds]) (by simp) ?_
    repeat' first|refine Xw (by simp;rfl) (by simp;rfl) ?_|(refine PT ?_ (by simp;rfl) ?_;(focus (simp;done)))|(refine nX (j:=3) (v:= .obj 1 2) ⟨1,1,[(3,⟨true,false,1,2,[.str [115,99,114,105,112,116]]::p.fF.map dD⟩),(0,⟨true,false,1,1,[[.str [115,99,114,105,112,116]]]⟩)]⟩ [] [(0,⟨true,false,1,1,[[.str [115,99,114,105,112,116]]]⟩)] rfl (by simp) rfl (by simp [Region.binds];rfl) (by decide) (by simp [Region.binds];rfl) (by simp;rfl) rfl ?_ ?_;(focus (refine yY (by first|(simp;rfl)|(simp;done)|rfl) rfl (by first|(simp;rfl)|(simp;done)|rfl) (by first|(simp;rfl)|(simp;done)|rfl) (by first|(simp;rfl)|(simp;done)|rfl) (by simp;exact ⟨rfl,rfl⟩) (by simp) (by simp) (by simp;omega) (by simp;omega))))|(refine nX (j:=0) (v:= .obj 1 1) ⟨1,1,[(3,⟨true,false,1,2,[.str [115,99,114,105,112,116]]::p.fF.map dD⟩),(0,⟨true,false,1,1,[[.str [115,99,114,105,112,116]]]⟩)]⟩ [(3,⟨true,false,1,2,[.str [115,99,114,105,112,116]]::p.fF.map dD⟩)] [] rfl (by simp) rfl (by simp [Region.binds];rfl) (by decide) (by simp [Region.binds];rfl) (by simp;rfl) rfl ?_ ?_;(focus (refine Cs (by simp;exact ⟨rfl,rfl⟩) (by simp) rfl rfl (by decide) (by decide) (by first|(simp;rfl)|rfl) (by simp [AV.iG]) (by simp [AV.xO,AV.cells]) (by simp) (by simp [AV.cells]))))|(refine nX (j:=9) (v:= .obj 2 2) ⟨2,1,[(9,⟨true,false,1,2,[.str [115,116,121,108,101]]::p.iB.map dD⟩),(6,⟨true,false,1,1,[[.str [115,116,121,108,101]]]⟩)]⟩ [] [(6,⟨true,false,1,1,[[.str [115,116,121,108,101]]]⟩)] rfl (by simp) rfl (by simp [Region.binds];rfl) (by decide) (by simp [Region.binds];rfl) (by simp;rfl) rfl ?_ ?_;(focus (refine yY (by first|(simp;rfl)|(simp;done)|rfl) rfl (by first|(simp;rfl)|(simp;done)|rfl) (by first|(simp;rfl)|(simp;done)|rfl) (by first|(simp;rfl)|(simp;done)|rfl) (by simp;exact ⟨rfl,rfl⟩) (by simp) (by simp) (by simp;omega) (by simp;omega))))|(refine nX (j:=6) (v:= .obj 2 1) ⟨2,1,[(9,⟨true,false,1,2,[.str [115,116,121,108,101]]::p.iB.map dD⟩),(6,⟨true,false,1,1,[[.str [115,116,121,108,101]]]⟩)]⟩ [(9,⟨true,false,1,2,[.str [115,116,121,108,101]]::p.iB.map dD⟩)] [] rfl (by simp) rfl (by simp [Region.binds];rfl) (by decide) (by simp [Region.binds];rfl) (by simp;rfl) rfl ?_ ?_;(focus (refine Cs (by simp;exact ⟨rfl,rfl⟩) (by simp) rfl rfl (by decide) (by decide) (by first|(simp;rfl)|rfl) (by simp [AV.iG]) (by simp [AV.xO,AV.cells]) (by simp) (by simp [AV.cells]))))|(refine nX (j:=16) (v:= .obj 3 2) ⟨3,1,[(16,⟨true,false,1,2,[.str [105,109,103]]::p.iC.map dD⟩),(13,⟨true,false,1,1,[[.str [105,109,103]]]⟩)]⟩ [] [(13,⟨true,false,1,1,[[.str [105,109,103]]]⟩)] rfl (by simp) rfl (by simp [Region.binds];rfl) (by decide) (by simp [Region.binds];rfl) (by simp;rfl) rfl ?_ ?_;(focus (refine yY (by first|(simp;rfl)|(simp;done)|rfl) rfl (by first|(simp;rfl)|(simp;done)|rfl) (by first|(simp;rfl)|(simp;done)|rfl) (by first|(simp;rfl)|(simp;done)|rfl) (by simp;exact ⟨rfl,rfl⟩) (by simp) (by simp) (by simp;omega) (by simp;omega))))|(refine nX (j:=13) (v:= .obj 3 1) ⟨3,1,[(16,⟨true,false,1,2,[.str [105,109,103]]::p.iC.map dD⟩),(13,⟨true,false,1,1,[[.str [105,109,103]]]⟩)]⟩ [(16,⟨true,false,1,2,[.str [105,109,103]]::p.iC.map dD⟩)] [] rfl (by simp) rfl (by simp [Region.binds];rfl) (by decide) (by simp [Region.binds];rfl) (by simp;rfl) rfl ?_ ?_;(focus (refine Cs (by simp;exact ⟨rfl,rfl⟩) (by simp) rfl rfl (by decide) (by decide) (by first|(simp;rfl)|rfl) (by simp [AV.iG]) (by simp [AV.xO,AV.cells]) (by simp) (by simp [AV.cells]))))|(refine PU rfl ?_ (by simp [Region.binds];rfl) (by decide) (by simp [Region.binds];rfl) (by simp;rfl) ?_ rfl (by first|rfl|(simp;done)) ?_;(focus (first|rfl|(simp;done)));(focus (first|rfl|(simp [nM];done))))|(refine nx ?_;refine so ?_)|fail
    have W:=aA h2 hn;have V:=aA h2 hn;refine we ?_;all_goals try(refine aV ?_;simp [aH,results134,h2,hn])
   .rw [cX hn];refine uB aD [3] func134 ntmps134 ?_;have W:=aA h2 hn;have V:=aA h2 hn;refine we ?_;refine go_drawn3 [⟨1,1,[(3,⟨true,false,1,2,[.str [115,99,114,105,112,116]]::p.fF.map dD⟩),(0,⟨true,false,1,1,[[.str [115,99,114,105,112,116]]]⟩)]⟩,⟨2,1,[(9,⟨true,false,1,2,[.str [115,116,121,108,101]]::p.iB.map dD⟩),(6,⟨true,false,1,1,[[.str [115,116,121,108,101]]]⟩)]⟩,⟨3,1,[(16,⟨true,false,1,2,[.str [105,109,103]]::p.iC.map dD⟩),(13,⟨true,false,1,1,[[.str [105,109,103]]]⟩)]⟩] (by simp;rfl) (by decide+kernel) (by decide+kernel) (by simp [mQ,pre,Region.binds]) (by simp) ?_
    repeat' first|refine Xw (by simp;rfl) (by simp;rfl) ?_|(refine PT ?_ (by simp;rfl) ?_;(focus (simp;done)))|(refine nX (j:=3) (v:= .obj 1 2) ⟨1,1,[(3,⟨true,false,1,2,[.str [115,99,114,105,112,116]]::p.fF.map dD⟩),(0,⟨true,false,1,1,[[.str [115,99,114,105,112,116]]]⟩)]⟩ [] [(0,⟨true,false,1,1,[[.str [115,99,114,105,112,116]]]⟩)] rfl (by simp) rfl (by simp [Region.binds];rfl) (by decide) (by simp [Region.binds];rfl) (by simp;rfl) rfl ?_ ?_;(focus (refine yY (by first|(simp;rfl)|(simp;done)|rfl) rfl (by first|(simp;rfl)|(simp;done)|rfl) (by first|(simp;rfl)|(simp;done)|rfl) (by first|(simp;rfl)|(simp;done)|rfl) (by simp;exact ⟨rfl,rfl⟩) (by simp) (by simp) (by simp;omega) (by simp;omega))))|(refine nX (j:=0) (v:= .obj 1 1) ⟨1,1,[(3,⟨true,false,1,2,[.str [115,99,114,105,112,116]]::p.fF.map dD⟩),(0,⟨true,false,1,1,[[.str [115,99,114,105,112,116]]]⟩)]⟩ [(3,⟨true,false,1,2,[.str [115,99,114,105,112,116]]::p.fF.map dD⟩)] [] rfl (by simp) rfl (by simp [Region.binds];rfl) (by decide) (by simp [Region.binds];rfl) (by simp;rfl) rfl ?_ ?_;(focus (refine Cs (by simp;exact ⟨rfl,rfl⟩) (by simp) rfl rfl (by decide) (by decide) (by first|(simp;rfl)|rfl) (by simp [AV.iG]) (by simp [AV.xO,AV.cells]) (by simp) (by simp [AV.cells]))))|(refine nX (j:=9) (v:= .obj 2 2) ⟨2,1,[(9,⟨true,false,1,2,[.str [115,116,121,108,101]]::p.iB.map dD⟩),(6,⟨true,false,1,1,[[.str [115,116,121,108,101]]]⟩)]⟩ [] [(6,⟨true,false,1,1,[[.str [115,116,121,108,101]]]⟩)] rfl (by simp) rfl (by simp [Region.binds];rfl) (by decide) (by simp [Region.binds];rfl) (by simp;rfl) rfl ?_ ?_;(focus (refine yY (by first|(simp;rfl)|(simp;done)|rfl) rfl (by first|(simp;rfl)|(simp;done)|rfl) (by first|(simp;rfl)|(simp;done)|rfl) (by first|(simp;rfl)|(simp;done)|rfl) (by simp;exact ⟨rfl,rfl⟩) (by simp) (by simp) (by simp;omega) (by simp;omega))))|(refine nX (j:=6) (v:= .obj 2 1) ⟨2,1,[(9,⟨true,false,1,2,[.str [115,116,121,108,101]]::p.iB.map dD⟩),(6,⟨true,false,1,1,[[.str [115,116,121,108,101]]]⟩)]⟩ [(9,⟨true,false,1,2,[.str [115,116,121,108,101]]::p.iB.map dD⟩)] [] rfl (by simp) rfl (by simp [Region.binds];rfl) (by decide) (by simp [Region.binds];rfl) (by simp;rfl) rfl ?_ ?_;(focus (refine Cs (by simp;exact ⟨rfl,rfl⟩) (by simp) rfl rfl (by decide) (by decide) (by first|(simp;rfl)|rfl) (by simp [AV.iG]) (by simp [AV.xO,AV.cells]) (by simp) (by simp [AV.cells]))))|(refine nX (j:=16) (v:= .obj 3 2) ⟨3,1,[(16,⟨true,false,1,2,[.str [105,109,103]]::p.iC.map dD⟩),(13,⟨true,false,1,1,[[.str [105,109,103]]]⟩)]⟩ [] [(13,⟨true,false,1,1,[[.str [105,109,103]]]⟩)] rfl (by simp) rfl (by simp [Region.binds];rfl) (by decide) (by simp [Region.binds];rfl) (by simp;rfl) rfl ?_ ?_;(focus (refine yY (by first|(simp;rfl)|(simp;done)|rfl) rfl (by first|(simp;rfl)|(simp;done)|rfl) (by first|(simp;rfl)|(simp;done)|rfl) (by first|(simp;rfl)|(simp;done)|rfl) (by simp;exact ⟨rfl,rfl⟩) (by simp) (by simp) (by simp;omega) (by simp;omega))))|(refine nX (j:=13) (v:= .obj 3 1) ⟨3,1,[(16,⟨true,false,1,2,[.str [105,109,103]]::p.iC.map dD⟩),(13,⟨true,false,1,1,[[.str [105,109,103]]]⟩)]⟩ [(16,⟨true,false,1,2,[.str [105,109,103]]::p.iC.map dD⟩)] [] rfl (by simp) rfl (by simp [Region.binds];rfl) (by decide) (by simp [Region.binds];rfl) (by simp;rfl) rfl ?_ ?_;(focus (refine Cs (by simp;exact ⟨rfl,rfl⟩) (by simp) rfl rfl (by decide) (by decide) (by first|(simp;rfl)|rfl) (by simp [AV.iG]) (by simp [AV.xO,AV.cells]) (by simp) (by simp [AV.cells]))))|(refine PU rfl ?_ (by simp [Region.binds];rfl) (by decide) (by simp [Region.binds];rfl) (by simp;rfl) ?_ rfl (by first|rfl|(simp;done)) ?_;(focus (first|rfl|(simp;done)));(focus (first|rfl|(simp [nM];done))))|(refine nx ?_;refine so ?_)|fail
    have W:=aA h2 hn;have V:=aA h2 hn;repeat' first|refine wf ?_|(refine sq ?_ ?_<;>intro hc<;>try exact hc.elim)|fail
    all_goals try(refine aV ?_;simp [aH,results134,h2,hn,oQ])
    all_goals (exact absurd (by assumption) hn)
  .rw [cX (λh=>h2 h.2)]
   simp only [wA] at h2;rw [h1,h2] at c0;refine bO aD func134 ntmps134 ?_;have W:=h2;have V:=h2;refine we ?_;exact aF results134
 .rw [cX (λh=>h1 h.1)]
  simp only [wA] at h1;rw [h1] at c0;refine bO aD func134 ntmps134 ?_;refine aZ ?_;exact aF results134
theorem FX [aC prog] (t:mY) (hs:t.rest.length<=274877906):Ok prog 82 [.agg (dR t)] (.sl .own 4 ((kK t).map (cB .own))):=by
 obtain ⟨s⟩:=t;simp only at hs;cases s with
 |nil=>simp only [kK,true_or,gO,Dg];refine bO aD func82 ntmps82 ?_;refine aZ ?_;exact aF results82
 |cons c r=>
  by_cases hc:c=60
  .subst hc;have he:kK ⟨60::r⟩=[]:=by simp [kK]
   rw [he];refine bO aD func82 ntmps82 ?_;refine aZ ?_;exact aF results82
  .have he:kK ⟨c::r⟩=[⟨3,[],[],c::r⟩]:=by simp [kK,hc]
   rw [he];have hn:¬((c.toNat:Int)=60):=λh=>hc (BE.1 (by simp;omega))
   refine bO aD func82 ntmps82 ?_;have W:=hn;refine we ?_;exact aF results82
theorem FY [aC prog] (t:mY) (hs:t.rest.length<=274877906):Ok prog 60 [.agg (dR t)] (.sl .own 4 ((kK t).map (cB .own))):=by
 obtain ⟨s⟩:=t;simp only at hs;cases s with
 |nil=>simp only [kK,true_or,gO,Dg];refine bO aD func60 ntmps60 ?_;refine aZ ?_;exact aF results60
 |cons c r=>
  by_cases hc:c=60
  .subst hc;have he:kK ⟨60::r⟩=[]:=by simp [kK]
   rw [he];refine bO aD func60 ntmps60 ?_;refine aZ ?_;exact aF results60
  .have he:kK ⟨c::r⟩=[⟨3,[],[],c::r⟩]:=by simp [kK,hc]
   rw [he];have hn:¬((c.toNat:Int)=60):=λh=>hc (BE.1 (by simp;omega))
   refine bO aD func60 ntmps60 ?_;have W:=hn;refine we ?_;exact aF results60
def kZ (p:aG):aG:=if p.ended=true then p else {p with queue:=p.queue++kK p.tok,tok:=⟨[]⟩,ended:=true}
theorem OC (t:mY):(kK t).length<=1:=by unfold kK;split<;>simp
theorem Ta [aC prog] (a:aG) (hs:aJ a<=274877906):Ok prog 40 [.agg (aI .view a)] (.agg (aI .own (kZ a))):=by
 have c1:=iK a (by omega);simp only [aJ,bT,mI] at hs;have c2:=FX a.tok (by omega);simp only [dR] at c2;have hE:=OC a.tok;simp only [aI] at c1;unfold kZ;generalize kK a.tok=g at *;by_cases he:a.ended=true
 .rw [eI he];simp only [he] at c1;refine bO aD func40 ntmps40 ?_;have W:=he;refine we ?_;all_goals try(refine aV ?_;simp [aH,results40])
  all_goals exact he
 .rw [cX he];replace he:a.ended=false:=by simpa using he
  simp only [he] at c1;refine bO aD func40 ntmps40 ?_;have W:=he;refine we ?_;all_goals try(refine aV ?_;simp [aH,results40])
  all_goals (rw [<-oS];exact lX _)
theorem Tc [aC prog] (a:aG) (hs:aJ a<=274877906):Ok prog 30 [.agg (aI .view a)] (.agg (aI .own (kZ a))):=by
 have c1:=gP a (by omega);simp only [aJ,bT,mI] at hs;have c2:=FY a.tok (by omega);simp only [dR] at c2;have hE:=OC a.tok;simp only [aI] at c1;unfold kZ;generalize kK a.tok=g at *;by_cases he:a.ended=true
 .rw [eI he];simp only [he] at c1;refine bO aD func30 ntmps30 ?_;have W:=he;refine we ?_;all_goals try(refine aV ?_;simp [aH,results30])
  all_goals exact he
 .rw [cX he];replace he:a.ended=false:=by simpa using he
  simp only [he] at c1;refine bO aD func30 ntmps30 ?_;have W:=he;refine we ?_;all_goals try(refine aV ?_;simp [aH,results30])
  all_goals (rw [<-oS];exact lX _)
end Go.Proofs.YtdcpobkemdacnaaGreatDoor
