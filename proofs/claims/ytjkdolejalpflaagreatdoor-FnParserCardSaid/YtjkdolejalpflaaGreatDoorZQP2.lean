/- Proved here: steps towards the statement of this claim. No condition. -/
import Derived.Test.YtjkdolejalpflaaGreatDoorZQMK5
set_option linter.all false
set_option maxRecDepth 4000
set_option maxHeartbeats 4000000
namespace Go.Proofs.YtjkdolejalpflaaGreatDoor
open Go.Aw Proofs.Tryz List IntKind
def wd:Nat->aX
 |1=>[119,114,105,116,101]
 |2=>[97,100,100]
 |3=>[99,111,117,110,116]
 |4=>[108,111,111,107]
 |5=>[115,97,121]
 |_=>[]
def Bd(op:Nat):Bool:=op == 1 || op == 5
def fF(op:Nat)(x:aX):Bool:=if Bd op=true then decide (x.length<=60)else bP x
def iY(s:aX)(op:Nat):Option (iA×Bool):=
 if (wd op).length+1<=s.length/\s.take ((wd op).length+1)=wd op++[32]then some (⟨op,s.drop ((wd op).length+1)⟩,fF op (s.drop ((wd op).length+1)))else none
def bL(s:aX):iA×Bool:=((((iY s 1).or (iY s 2)).or (iY s 3)).or (iY s 4)).or (iY s 5) |>.getD (⟨0,[]⟩,false)
theorem VH[aB prog]:Ok prog 111 [] (.sl .own 1 [[.str []],[.str [119,114,105,116,101,32]],[.str [97,100,100,32]],[.str [99,111,117,110,116,32]],[.str [108,111,111,107,32]],[.str [115,97,121,32]]]):=by refine dA aJ func111 ntmps111 ?_;refine bI ?_;exact aO results111
theorem mK{s:aX}{op:Nat}(h:¬((((wd op).length+1:Nat):Int)<=(s.length:Int)/\s.take ((wd op).length+1)=wd op++[32])):iY s op=none:=by unfold iY;rw[cU];rintro⟨h1,h2⟩;exact h ⟨by omega,h2⟩
theorem uP{s:aX}{op:Nat}(h1:(((wd op).length+1:Nat):Int)<=(s.length:Int))(h2:s.take ((wd op).length+1)=wd op++[32]):iY s op=some (⟨op,s.drop ((wd op).length+1)⟩,fF op (s.drop ((wd op).length+1))):=by unfold iY;exact eA ⟨by omega,h2⟩
theorem kG{s:aX}{k:Nat}(hn:∀j,1<=j->j<k->iY s j=none)(h:iY s k=none):∀j,1<=j->j<k+1->iY s j=none:=by
 intro j h1 h2;rcases At j k with h3|h3
 .exact hn j h1 h3
 .obtain rfl:j=k:=by omega
  exact h
theorem Yu[aB prog](s:aX)(hl:s.length<=1099511627776):Ok prog 74 [.str s] (.fH [.agg (jO (bL s).1),.bool (bL s).2]):=by
 have c0:=VH;refine dA aJ func74 ntmps74 ?_;refine bI ?_;refine aY (ι:={i:Nat // (1<=i/\i<=6)/\∀j,1<=j->j<i->iY s j=none}) (λt o i=>⟨bN t [(5,.int .i64 i.1)],o⟩) (λi=>6-i.1) ⟨1,by simp,λj h1 h2=>by omega⟩ aC ?_;rintro⟨k,⟨hk,hk6⟩,hn⟩ K1 hK1;try simp only at hk hk6 hn
 simp only[bN,cH,cG]at hK1⊢;obtain rfl|rfl|rfl|rfl|rfl|rfl:k=1\/k=2\/k=3\/k=4\/k=5\/k=6:=by omega
 .by_cases h1:(6:Int)<=(s.length:Int)
  .have JC:((6:Nat):Int)<=(s.length:Int):=by omega
   by_cases h2:s.take 6=[119,114,105,116,101,32]
   .have ht:iY s 1=some (⟨1,s.drop 6⟩,fF 1 (s.drop 6)):=uP (op:=1) JC h2;have hr:bL s=(⟨1,s.drop 6⟩,fF 1 (s.drop 6)):=by simp[bL,ht]
    rw[hr];clear hr ht hn JC;by_cases h3:((s.length-6:Nat):Int)<=60
    .have hg:fF 1 (s.drop 6)=true:=by simp[fF,Bd];omega
     rw[hg];have W:=aA h1 (aA h2 h3);refine we ?_;exact aO results74
    .have hg:fF 1 (s.drop 6)=false:=by simp[fF,Bd];omega
     rw[hg];have W:=aA h1 (aA h2 h3);refine we ?_;exact aO results74
   .have ht:iY s 1=none:=mK (op:=1) (λh=>h2 h.2)
    have hb:(s.take 6 == ([119,114,105,116,101,32]:aX))=false:=by simpa using h2
    have W:=aA h1 (aA h2 hb);refine we ?_;exact hK1 _ ⟨2,by omega,kG hn ht⟩ aC (by simp only;omega)
  .have ht:iY s 1=none:=mK (op:=1) (λh=>h1 (by have:=h.1;simp only[wd,eE,eR]at this;omega))
   have W:=h1;refine we ?_;exact hK1 _ ⟨2,by omega,kG hn ht⟩ aC (by simp only;omega)
 .by_cases h1:(4:Int)<=(s.length:Int)
  .have JC:((4:Nat):Int)<=(s.length:Int):=by omega
   by_cases h2:s.take 4=[97,100,100,32]
   .have ht:iY s 2=some (⟨2,s.drop 4⟩,fF 2 (s.drop 4)):=uP (op:=2) JC h2;have hr:bL s=(⟨2,s.drop 4⟩,fF 2 (s.drop 4)):=by simp[bL,hn 1 (by omega) (by omega),ht]
    rw[hr];clear hr ht hn JC;have c1:=dX (s.drop 4) (by simp;omega);have hg:fF 2 (s.drop 4)=bP (s.drop 4):=rfl;rw[hg];generalize bP (s.drop 4)=b at*;have W:=aA h1 h2;refine we ?_;exact aO results74
   .have ht:iY s 2=none:=mK (op:=2) (λh=>h2 h.2)
    have hb:(s.take 4 == ([97,100,100,32]:aX))=false:=by simpa using h2
    have W:=aA h1 (aA h2 hb);refine we ?_;exact hK1 _ ⟨3,by omega,kG hn ht⟩ aC (by simp only;omega)
  .have ht:iY s 2=none:=mK (op:=2) (λh=>h1 (by have:=h.1;simp only[wd,eE,eR]at this;omega))
   have W:=h1;refine we ?_;exact hK1 _ ⟨3,by omega,kG hn ht⟩ aC (by simp only;omega)
 .by_cases h1:(6:Int)<=(s.length:Int)
  .have JC:((6:Nat):Int)<=(s.length:Int):=by omega
   by_cases h2:s.take 6=[99,111,117,110,116,32]
   .have ht:iY s 3=some (⟨3,s.drop 6⟩,fF 3 (s.drop 6)):=uP (op:=3) JC h2;have hr:bL s=(⟨3,s.drop 6⟩,fF 3 (s.drop 6)):=by simp[bL,hn 1 (by omega) (by omega),hn 2 (by omega) (by omega),ht]
    rw[hr];clear hr ht hn JC;have c1:=dX (s.drop 6) (by simp;omega);have hg:fF 3 (s.drop 6)=bP (s.drop 6):=rfl;rw[hg];generalize bP (s.drop 6)=b at*;have W:=aA h1 h2;refine we ?_;exact aO results74
   .have ht:iY s 3=none:=mK (op:=3) (λh=>h2 h.2)
    have hb:(s.take 6 == ([99,111,117,110,116,32]:aX))=false:=by simpa using h2
    have W:=aA h1 (aA h2 hb);refine we ?_;exact hK1 _ ⟨4,by omega,kG hn ht⟩ aC (by simp only;omega)
  .have ht:iY s 3=none:=mK (op:=3) (λh=>h1 (by have:=h.1;simp only[wd,eE,eR]at this;omega))
   have W:=h1;refine we ?_;exact hK1 _ ⟨4,by omega,kG hn ht⟩ aC (by simp only;omega)
 .by_cases h1:(5:Int)<=(s.length:Int)
  .have JC:((5:Nat):Int)<=(s.length:Int):=by omega
   by_cases h2:s.take 5=[108,111,111,107,32]
   .have ht:iY s 4=some (⟨4,s.drop 5⟩,fF 4 (s.drop 5)):=uP (op:=4) JC h2;have hr:bL s=(⟨4,s.drop 5⟩,fF 4 (s.drop 5)):=by simp[bL,hn 1 (by omega) (by omega),hn 2 (by omega) (by omega),hn 3 (by omega) (by omega),ht]
    rw[hr];clear hr ht hn JC;have c1:=dX (s.drop 5) (by simp;omega);have hg:fF 4 (s.drop 5)=bP (s.drop 5):=rfl;rw[hg];generalize bP (s.drop 5)=b at*;have W:=aA h1 h2;refine we ?_;exact aO results74
   .have ht:iY s 4=none:=mK (op:=4) (λh=>h2 h.2)
    have hb:(s.take 5 == ([108,111,111,107,32]:aX))=false:=by simpa using h2
    have W:=aA h1 (aA h2 hb);refine we ?_;exact hK1 _ ⟨5,by omega,kG hn ht⟩ aC (by simp only;omega)
  .have ht:iY s 4=none:=mK (op:=4) (λh=>h1 (by have:=h.1;simp only[wd,eE,eR]at this;omega))
   have W:=h1;refine we ?_;exact hK1 _ ⟨5,by omega,kG hn ht⟩ aC (by simp only;omega)
 .by_cases h1:(4:Int)<=(s.length:Int)
  .have JC:((4:Nat):Int)<=(s.length:Int):=by omega
   by_cases h2:s.take 4=[115,97,121,32]
   .have ht:iY s 5=some (⟨5,s.drop 4⟩,fF 5 (s.drop 4)):=uP (op:=5) JC h2;have hr:bL s=(⟨5,s.drop 4⟩,fF 5 (s.drop 4)):=by simp[bL,hn 1 (by omega) (by omega),hn 2 (by omega) (by omega),hn 3 (by omega) (by omega),hn 4 (by omega) (by omega),ht]
    rw[hr];clear hr ht hn JC;by_cases h3:((s.length-4:Nat):Int)<=60
    .have hg:fF 5 (s.drop 4)=true:=by simp[fF,Bd];omega
     rw[hg];have W:=aA h1 (aA h2 h3);refine we ?_;exact aO results74
    .have hg:fF 5 (s.drop 4)=false:=by simp[fF,Bd];omega
     rw[hg];have W:=aA h1 (aA h2 h3);refine we ?_;exact aO results74
   .have ht:iY s 5=none:=mK (op:=5) (λh=>h2 h.2)
    have hb:(s.take 4 == ([115,97,121,32]:aX))=false:=by simpa using h2
    have W:=aA h1 (aA h2 hb);refine we ?_;exact hK1 _ ⟨6,by omega,kG hn ht⟩ aC (by simp only;omega)
  .have ht:iY s 5=none:=mK (op:=5) (λh=>h1 (by have:=h.1;simp only[wd,eE,eR]at this;omega))
   have W:=h1;refine we ?_;exact hK1 _ ⟨6,by omega,kG hn ht⟩ aC (by simp only;omega)
 .have hr:bL s=(⟨0,[]⟩,false):=by simp[bL,hn 1 (by omega) (by omega),hn 2 (by omega) (by omega),hn 3 (by omega) (by omega),hn 4 (by omega) (by omega),hn 5 (by omega) (by omega)]
  rw[hr];refine bI ?_;exact aO results74
theorem VI[aB prog]:Ok prog 105 [.int .i64 1] (.str [119,114,105,116,101]):=by have c0:=kC 1 1 5;simp only[Int.reduceLE,An,CT]at c0;refine dA aJ func105 ntmps105 ?_;refine bI ?_;exact aO results105
theorem VJ[aB prog]:Ok prog 105 [.int .i64 2] (.str [97,100,100]):=by have c0:=kC 2 1 5;simp only[Int.reduceLE,An,CT]at c0;refine dA aJ func105 ntmps105 ?_;refine bI ?_;exact aO results105
theorem VK[aB prog]:Ok prog 105 [.int .i64 3] (.str [99,111,117,110,116]):=by have c0:=kC 3 1 5;simp only[Int.reduceLE,An,CT]at c0;refine dA aJ func105 ntmps105 ?_;refine bI ?_;exact aO results105
theorem VL[aB prog]:Ok prog 105 [.int .i64 4] (.str [108,111,111,107]):=by have c0:=kC 4 1 5;simp only[Int.reduceLE,An,CT]at c0;refine dA aJ func105 ntmps105 ?_;refine bI ?_;exact aO results105
theorem VM[aB prog]:Ok prog 105 [.int .i64 5] (.str [115,97,121]):=by have c0:=kC 5 1 5;simp only[Int.reduceLE,An,CT]at c0;refine dA aJ func105 ntmps105 ?_;refine bI ?_;exact aO results105
theorem aEv(op:Nat):∀x∈wd op,x≠32:=by
 have h:(wd op).all (λx=>decide (x≠32))=true:=by unfold wd;split<;>decide
 intro x hx;simpa using gR.1 h x hx
theorem H7{s:aX}{op:Nat}(hk:gD 32 s<s.length)(hw:s.take (gD 32 s)=wd op):iY s op=some (⟨op,s.drop (gD 32 s+1)⟩,fF op (s.drop (gD 32 s+1))):=by
 have hL:(wd op).length=gD 32 s:=by rw[<-hw];simp;omega
 have h2:s.take ((wd op).length+1)=wd op++[32]:=by rw[hL,eN hk,hw,Xc hk]
 rw[uP (by omega) h2,hL]
theorem H8{s:aX}{op:Nat}(h:¬(gD 32 s<s.length/\s.take (gD 32 s)=wd op)):iY s op=none:=by
 refine mK λ⟨h1,h2⟩=>h ?_
 have hlt:(wd op).length<s.length:=by omega
 have ht:s.take (wd op).length=wd op:=by have:=CH (List.take (wd op).length) h2;simpa [take_take]using this
 have hg:s[(wd op).length]=32:=by have:=CH (λl=>l[(wd op).length]?) h2;simp only[hU (cX _),Bk,sL]at this;rw[By,eA (by omega),aE hlt]at this;exact cD this
 have hi:gD 32 s=(wd op).length:=Vl hlt hg (by rw[ht];exact aEv op);rw[hi];exact⟨hlt,ht⟩
theorem wT{s:aX}(h:∀j,1<=j->j<6->iY s j=none):bL s=(⟨0,[]⟩,false):=by simp[bL,h 1 (by omega) (by omega),h 2 (by omega) (by omega),h 3 (by omega) (by omega),h 4 (by omega) (by omega),h 5 (by omega) (by omega)]
def jK(p:iA×Bool):iA:=if p.2=true then p.1 else⟨0,[]⟩
theorem Qy[aB prog](s:aX)(hl:s.length<=1099511627776):Ok prog 69 [.str s] (.fH [.agg (jO (jK (bL s))),.bool (bL s).2]):=by
 have hC:=uZ s 32 (by omega);have hle:=uL 32 s;have c1:=VI;have c2:=VJ;have c3:=VK;have c4:=VL;have c5:=VM;have cN:=fQ (s.drop (gD 32 s+1)) (by simp;omega);have ht:∀op,gD 32 s<s.length->s.take (gD 32 s)=wd op->iY s op=some (⟨op,s.drop (gD 32 s+1)⟩,fF op (s.drop (gD 32 s+1))):=λop=>H7
 have hf:∀op,¬(gD 32 s<s.length/\s.take (gD 32 s)=wd op)->iY s op=none:=λop=>H8
 generalize gD 32 s=p at*;generalize aJo:s.take p=word at*;generalize aEw:s.drop (p+1)=text at*;have htl:text.length<=s.length:=by rw[<-aEw];simp
 refine dA aJ func69 ntmps69 ?_;refine bI ?_;refine aY (ι:={i:Nat // (1<=i/\i<=6)/\∀j,1<=j->j<i->iY s j=none}) (λt o i=>⟨bN t [(7,.int .i64 i.1),(8,.undef)],o⟩) (λi=>6-i.1) ⟨1,by simp,λj h1 h2=>by omega⟩ aC ?_;rintro⟨k,⟨hk,hk6⟩,hn⟩ K1 hK1;try simp only at hk hk6 hn
 simp only[bN,cH,cG]at hK1⊢;obtain rfl|rfl|rfl|rfl|rfl|rfl:k=1\/k=2\/k=3\/k=4\/k=5\/k=6:=by omega
 .by_cases hw:word=[119,114,105,116,101]
  .by_cases hp:p<s.length
   .have hr:bL s=(⟨1,text⟩,fF 1 text):=by simp[bL,ht 1 hp hw]
    rw[hr];rw[pP hp]at hC;clear hr hf ht hn;subst hw;by_cases h3:(text.length:Int)<=60
    .have hg:fF 1 text=true:=by simp[fF,Bd];omega
     have h4:¬(60:Int)<(text.length:Int):=by omega
     rw[hg];have W:=aA hp (aA h3 h4);refine we ?_;all_goals try(refine aP ?_;simp[aT,results69,jK])
    .have hg:fF 1 text=false:=by simp[fF,Bd];omega
     have h4:(60:Int)<(text.length:Int):=by omega
     rw[hg];have W:=aA hp (aA h3 h4);refine we ?_;all_goals try(refine aP ?_;simp[aT,results69,jK])
   .have hr:bL s=(⟨0,[]⟩,false):=wT λj _ _=>hf j λh=>hp h.1
    rw[hr];rw[sY hp]at hC;clear hr hf ht hn;subst hw;have hp2:s.length<=p:=by omega
    have W:=aA hp hp2;refine we ?_;all_goals try(refine aP ?_;simp[aT,results69,jK])
  .have hx:=hf 1 λh=>hw h.2
   have hb:(([119,114,105,116,101]:aX) == word)=false:=by simpa using λh=>hw h.symm
   have hw2:¬[119,114,105,116,101]=word:=λh=>hw h.symm
   clear hf ht;have W:=aA hw (aA hw2 hb);refine we ?_;exact hK1 _ ⟨2,by omega,kG hn hx⟩ aC (by simp only;omega)
 .by_cases hw:word=[97,100,100]
  .by_cases hp:p<s.length
   .have hr:bL s=(⟨2,text⟩,fF 2 text):=by simp[bL,hn 1 (by omega) (by omega),ht 2 hp hw]
    rw[hr];rw[pP hp]at hC;clear hr hf ht hn;subst hw;have hg:fF 2 text=bP text:=rfl;rw[hg];generalize bP text=b at*;cases b
    .have W:=hp;refine we ?_;all_goals try(refine aP ?_;simp[aT,results69,jK])
    .have W:=hp;refine we ?_;all_goals try(refine aP ?_;simp[aT,results69,jK])
   .have hr:bL s=(⟨0,[]⟩,false):=wT λj _ _=>hf j λh=>hp h.1
    rw[hr];rw[sY hp]at hC;clear hr hf ht hn;subst hw;have hp2:s.length<=p:=by omega
    have W:=aA hp hp2;refine we ?_;all_goals try(refine aP ?_;simp[aT,results69,jK])
  .have hx:=hf 2 λh=>hw h.2
   have hb:(([97,100,100]:aX) == word)=false:=by simpa using λh=>hw h.symm
   have hw2:¬[97,100,100]=word:=λh=>hw h.symm
   clear hf ht;have W:=aA hw (aA hw2 hb);refine we ?_;exact hK1 _ ⟨3,by omega,kG hn hx⟩ aC (by simp only;omega)
 .by_cases hw:word=[99,111,117,110,116]
  .by_cases hp:p<s.length
   .have hr:bL s=(⟨3,text⟩,fF 3 text):=by simp[bL,hn 1 (by omega) (by omega),hn 2 (by omega) (by omega),ht 3 hp hw]
    rw[hr];rw[pP hp]at hC;clear hr hf ht hn;subst hw;have hg:fF 3 text=bP text:=rfl;rw[hg];generalize bP text=b at*;cases b
    .have W:=hp;refine we ?_;all_goals try(refine aP ?_;simp[aT,results69,jK])
    .have W:=hp;refine we ?_;all_goals try(refine aP ?_;simp[aT,results69,jK])
   .have hr:bL s=(⟨0,[]⟩,false):=wT λj _ _=>hf j λh=>hp h.1
    rw[hr];rw[sY hp]at hC;clear hr hf ht hn;subst hw;have hp2:s.length<=p:=by omega
    have W:=aA hp hp2;refine we ?_;all_goals try(refine aP ?_;simp[aT,results69,jK])
  .have hx:=hf 3 λh=>hw h.2
   have hb:(([99,111,117,110,116]:aX) == word)=false:=by simpa using λh=>hw h.symm
   have hw2:¬[99,111,117,110,116]=word:=λh=>hw h.symm
   clear hf ht;have W:=aA hw (aA hw2 hb);refine we ?_;exact hK1 _ ⟨4,by omega,kG hn hx⟩ aC (by simp only;omega)
 .by_cases hw:word=[108,111,111,107]
  .by_cases hp:p<s.length
   .have hr:bL s=(⟨4,text⟩,fF 4 text):=by simp[bL,hn 1 (by omega) (by omega),hn 2 (by omega) (by omega),hn 3 (by omega) (by omega),ht 4 hp hw]
    rw[hr];rw[pP hp]at hC;clear hr hf ht hn;subst hw;have hg:fF 4 text=bP text:=rfl;rw[hg];generalize bP text=b at*;cases b
    .have W:=hp;refine we ?_;all_goals try(refine aP ?_;simp[aT,results69,jK])
    .have W:=hp;refine we ?_;all_goals try(refine aP ?_;simp[aT,results69,jK])
   .have hr:bL s=(⟨0,[]⟩,false):=wT λj _ _=>hf j λh=>hp h.1
    rw[hr];rw[sY hp]at hC;clear hr hf ht hn;subst hw;have hp2:s.length<=p:=by omega
    have W:=aA hp hp2;refine we ?_;all_goals try(refine aP ?_;simp[aT,results69,jK])
  .have hx:=hf 4 λh=>hw h.2
   have hb:(([108,111,111,107]:aX) == word)=false:=by simpa using λh=>hw h.symm
   have hw2:¬[108,111,111,107]=word:=λh=>hw h.symm
   clear hf ht;have W:=aA hw (aA hw2 hb);refine we ?_;exact hK1 _ ⟨5,by omega,kG hn hx⟩ aC (by simp only;omega)
 .by_cases hw:word=[115,97,121]
  .by_cases hp:p<s.length
   .have hr:bL s=(⟨5,text⟩,fF 5 text):=by simp[bL,hn 1 (by omega) (by omega),hn 2 (by omega) (by omega),hn 3 (by omega) (by omega),hn 4 (by omega) (by omega),ht 5 hp hw]
    rw[hr];rw[pP hp]at hC;clear hr hf ht hn;subst hw;by_cases h3:(text.length:Int)<=60
    .have hg:fF 5 text=true:=by simp[fF,Bd];omega
     have h4:¬(60:Int)<(text.length:Int):=by omega
     rw[hg];have W:=aA hp (aA h3 h4);refine we ?_;all_goals try(refine aP ?_;simp[aT,results69,jK])
    .have hg:fF 5 text=false:=by simp[fF,Bd];omega
     have h4:(60:Int)<(text.length:Int):=by omega
     rw[hg];have W:=aA hp (aA h3 h4);refine we ?_;all_goals try(refine aP ?_;simp[aT,results69,jK])
   .have hr:bL s=(⟨0,[]⟩,false):=wT λj _ _=>hf j λh=>hp h.1
    rw[hr];rw[sY hp]at hC;clear hr hf ht hn;subst hw;have hp2:s.length<=p:=by omega
    have W:=aA hp hp2;refine we ?_;all_goals try(refine aP ?_;simp[aT,results69,jK])
  .have hx:=hf 5 λh=>hw h.2
   have hb:(([115,97,121]:aX) == word)=false:=by simpa using λh=>hw h.symm
   have hw2:¬[115,97,121]=word:=λh=>hw h.symm
   clear hf ht;have W:=aA hw (aA hw2 hb);refine we ?_;exact hK1 _ ⟨6,by omega,kG hn hx⟩ aC (by simp only;omega)
 .have hr:bL s=(⟨0,[]⟩,false):=wT λj h1 h2=>hn j h1 h2
  rw[hr];clear hr hf ht hn;refine bI ?_;all_goals try(refine aP ?_;simp[aT,results69,jK])
theorem Qz(c:UInt8):∀s:aX,∀p∈dP c s,p.length<=s.length
 |[],p,h=>by simp only[dP,pB]at h;subst h;simp
 |x::s,p,h=>by
  have ih:=Qz c s;simp only[dP]at h;split at h
  .rcases lE.1 h with rfl|h
   .simp
   .have:=ih p h;simp;omega
  .split at h
   .rename_i h0;exact absurd h0 (tF c s)
   .rename_i q r h0;rw[h0]at ih;rcases lE.1 h with rfl|h
    .have:=ih q (by simp);simp;omega
    .have:=ih p (by simp[h]);simp;omega
def fZ(s:aX):List iA×Bool:=
 if s=[]then([],true)else if ((dP 59 s).all λp=>(bL p).2)=true/\(dP 59 s).length<=6 then((dP 59 s).map λp=>(bL p).1,true)else([],false)
theorem Mg{s:aX}{k:Nat}(h0:s≠[])(hk:k<(dP 59 s).length)(h:(bL (dP 59 s)[k]).2=false):fZ s=([],false):=by unfold fZ;rw[cU h0,cU];rintro⟨h1,_⟩;have:=gR.1 h1 _ (mL hk);rw[h]at this;cases this
theorem IY{s:aX}(h0:s≠[])(h:6<(dP 59 s).length):fZ s=([],false):=by unfold fZ;rw[cU h0,cU];rintro⟨_,h1⟩;omega
theorem IZ{s:aX}(h0:s≠[])(h1:∀p∈dP 59 s,(bL p).2=true)(h2:(dP 59 s).length<=6):fZ s=((dP 59 s).map λp=>(bL p).1,true):=by unfold fZ;rw[cU h0,eA ⟨gR.2 h1,h2⟩]
theorem Ph{l:List aX}{k:Nat}(hk:k<l.length)(h:∀p∈l.take k,(bL p).2=true)(h1:(bL l[k]).2=true):∀p∈l.take (k+1),(bL p).2=true:=by
 intro p hp;rw[eN hk]at hp;rcases fR.1 hp with hp|hp
 .exact h p hp
 .rw [pB.1 hp];exact h1
theorem TH{α β:Type}(f:α->β)(l:List α)(k:Nat)(h:k<l.length):(l.take (k+1)).map f=(l.take k).map f++[f l[k]]:=by rw[eN h,oT];rfl
def oo(p:aX):List AV:=jO (bL p).1
theorem Xt(l:List aX):(l.map λp=>(bL p).1).map jO=l.map oo:=by rw[map_map];rfl
theorem EL[aB prog][eZ prog](s:aX)(hl:s.length<=1073741824):Ok prog 41 [.str s] (.fH [.sl .own 2 ((fZ s).1.map jO),.bool (fZ s).2]):=by
 by_cases h0:s=[]
 .subst h0;have hr:fZ []=([],true):=rfl;rw[hr];refine dA aJ func41 ntmps41 ?_;refine bI ?_;exact aO results41
 .have cS:Ok prog 73 [.str s,.int .u8 59] (.sl .own 1 ((dP 59 s).map dR)):=sG s 59 (by omega);have hb0:(s == ([]:aX))=false:=by simp[h0]
  have hle:=Qz 59 s;have hn:=iI 59 s;have hcn:s.count 59<=s.length:=pC;have hb:=λk hk=>Mg (k:=k) h0 hk
  have Xq:=IY h0;have hgd:=IZ h0;have hne:=tF 59 s;generalize dP 59 s=l at*;have hll:l.length<=1073741825:=by omega
  have hl0:0<l.length:=zE.2 hne;generalize fZ s=g at*;refine dA aJ func41 ntmps41 ?_;have W:=aA h0 hb0;refine we ?_;refine aY (ι:={q:Nat×Nat // (q.1<=l.length/\1<=q.2)/\(∀p∈l.take q.1,(bL p).2=true)/\(0<q.1->l.length<=6)}) (λt o i=>⟨bN t [(6,.int .i64 i.1.1),(4,.obj 0 i.1.2),(7,.undef),(8,.undef)],[⟨true,false,2,i.1.2,(l.take i.1.1).map oo⟩]++o.drop 1⟩)
   (λi=>l.length-i.1.1) ⟨(0,1),by simp,by simp,by simp⟩ aC ?_
  rintro⟨⟨k,v⟩,⟨hk,hv⟩,pF,H9⟩ K1 hK1;simp only at hk hv pF H9;simp only[bN,cH,cG,AW,drop_zero,cM,cW]at hK1⊢;have hk1:=vJ (k:=k);by_cases hlt:k<l.length
  .have hg:=aE hlt;have c1:=Yu l[k] (by have:=hle _ (mL hlt);omega);have Gv:=TH oo l k hlt;have hx:oo l[k]=jO (bL l[k]).1:=rfl;have Ke:((l.take k).map oo).length=k:=by simp;omega
   have hbk:=hb k hlt;have Af:=Ph hlt pF;simp only[jO]at c1;generalize (l.take k).map oo=rows at*;generalize bL l[k]=x at*;obtain⟨x,ok⟩:=x;simp only[jO]at c1 hbk Af Gv hx;rw[hx]at Gv;cases ok with
   |false=>have hr:=hbk rfl;subst hr;have W:=aA hk1 (aA hg hlt);refine we ?_;exact aO results41
   |true=>
    by_cases h6:6<l.length
    .have hr:=Xq h6;subst hr;have h6i:(6:Int)<(l.length:Int):=by omega
     have W:=aA hk1 (aA hg (aA hlt h6i));refine we ?_;exact aO results41
    .have h6i:¬(6:Int)<(l.length:Int):=by omega
     have W:=aA hk1 (aA hg (aA hlt (aA Ke h6i)));refine we ?_;all_goals exact hK1 _ ⟨(k+1,v+1),⟨by simp only;omega,by simp only;omega⟩,Af rfl,λ_=>by omega⟩ (aS 2 (by simp[Gv])) (by simp only;omega)
  .have Dm:l.take k=l:=eL (by omega);rw[Dm]at pF⊢;have hr:=hgd pF (H9 (by omega));subst hr;simp only[Xt];have W:=hk1;refine we ?_;all_goals try(refine aP ?_;simp[aT,results41])
   all_goals exact dE _ (by intro x;rfl) l
theorem ou[aB prog][eZ prog](s:aX)(c:UInt8)(hs:s.length<4294967281):Ok prog 68 [.str s,.str [c]] (.sl .own 1 ((dP c s).map dR)):=SC Tryz.laysM146 (by kernel_rfl) s c hs
theorem EM[aB prog][eZ prog](s:aX)(hl:s.length<=1073741824):Ok prog 38 [.str s] (.fH [.sl .own 2 ((fZ s).1.map jO),.bool (fZ s).2]):=by
 by_cases h0:s=[]
 .subst h0;have hr:fZ []=([],true):=rfl;rw[hr];refine dA aJ func38 ntmps38 ?_;refine bI ?_;exact aO results38
 .have cS:=ou s 59 (by omega);have hb0:(s == ([]:aX))=false:=by simp[h0]
  have hle:=Qz 59 s;have hn:=iI 59 s;have hcn:s.count 59<=s.length:=pC;have hb:=λk hk=>Mg (k:=k) h0 hk
  have Xq:=IY h0;have hgd:=IZ h0;have hne:=tF 59 s;generalize dP 59 s=l at*;have hll:l.length<=1073741825:=by omega
  have hl0:0<l.length:=zE.2 hne;generalize fZ s=g at*;refine dA aJ func38 ntmps38 ?_;have W:=aA h0 hb0;refine we ?_;refine aY (ι:={q:Nat×Nat // (q.1<=l.length/\1<=q.2)/\(∀p∈l.take q.1,(bL p).2=true)/\q.1<=6}) (λt o i=>⟨bN t [(16,.int .i64 i.1.1),(4,.obj 0 i.1.2),(6,.undef),(7,.undef),(8,.undef)],[⟨true,false,2,i.1.2,(l.take i.1.1).map oo⟩]++o.drop 1⟩)
   (λi=>l.length-i.1.1) ⟨(0,1),by simp,by simp,by simp⟩ aC ?_
  rintro⟨⟨k,v⟩,⟨hk,hv⟩,pF,H9⟩ K1 hK1;simp only at hk hv pF H9;simp only[bN,cH,cG,AW,drop_zero,cM,cW]at hK1⊢;have hk1:=vJ (k:=k);by_cases hlt:k<l.length
  .have hg:=aE hlt;have c1:=Qy l[k] (by have:=hle _ (mL hlt);omega);have Gv:=TH oo l k hlt;have hx:oo l[k]=jO (bL l[k]).1:=rfl;have Ke:((l.take k).map oo).length=k:=by simp;omega
   have hbk:=hb k hlt;have Af:=Ph hlt pF;simp only[jO]at c1;generalize (l.take k).map oo=rows at*;generalize bL l[k]=x at*;obtain⟨x,ok⟩:=x;simp only[jO]at hbk Af Gv hx;rw[hx]at Gv;cases ok with
   |false=>have hr:=hbk rfl;subst hr;simp only[jK,jO,cJ,eK]at c1;have W:=aA hk1 (aA hg hlt);refine we ?_;exact aO results38
   |true=>
    simp only[jK,jO,eI]at c1;by_cases h6:k=6
    .have hr:=Xq (by omega);subst hr;have h6b:((k:Int) == 6)=true:=by simp;omega
     clear h6;have W:=aA hk1 (aA hg (aA hlt (aA Ke h6b)));refine we ?_;exact aO results38
    .have h6i:¬(k:Int)=6:=by omega
     have h6b:((k:Int) == 6)=false:=by simpa using h6i
     have W:=aA hk1 (aA hg (aA hlt (aA Ke (aA h6i h6b))));refine we ?_;all_goals exact hK1 _ ⟨(k+1,v+1),⟨by simp only;omega,by simp only;omega⟩,Af rfl,by simp only;omega⟩ (aS 2 (by simp[Gv])) (by simp only;omega)
  .have Dm:l.take k=l:=eL (by omega);rw[Dm]at pF⊢;have hr:=hgd pF (by omega);subst hr;simp only[Xt];have W:=hk1;refine we ?_;all_goals try(refine aP ?_;simp[aT,results38])
   all_goals exact dE _ (by intro x;rfl) l
end Go.Proofs.YtjkdolejalpflaaGreatDoor
