/- Proved here: steps towards the statement of this claim. No condition. -/
import Derived.Test.YtfbefblglejcaaaGreatDoorZQR4
set_option linter.all false
set_option maxRecDepth 4000
set_option maxHeartbeats 4000000
namespace Go.Proofs.YtfbefblglejcaaaGreatDoor
open Go.Aw Proofs.Tryz List IntKind
def wd:Nat->bB
 |1=>[119,114,105,116,101]
 |2=>[97,100,100]
 |3=>[99,111,117,110,116]
 |4=>[108,111,111,107]
 |5=>[115,97,121]
 |_=>[]
def EW(op:Nat):Bool:=op == 1 || op == 5
def iD(op:Nat)(x:bB):Bool:=if EW op=true then decide (x.length<=60)else dA x
def lM(s:bB)(op:Nat):Option (jT×Bool):=
 if (wd op).length+1<=s.length/\s.take ((wd op).length+1)=wd op++[32]then some (⟨op,s.drop ((wd op).length+1)⟩,iD op (s.drop ((wd op).length+1)))else none
def dB(s:bB):jT×Bool:=((((lM s 1).or (lM s 2)).or (lM s 3)).or (lM s 4)).or (lM s 5) |>.getD (⟨0,[]⟩,false)
theorem zi[aC prog]:Ok prog 268 [] (.sl .own 1 [[.str []],[.str [119,114,105,116,101,32]],[.str [97,100,100,32]],[.str [99,111,117,110,116,32]],[.str [108,111,111,107,32]],[.str [115,97,121,32]]]):=by refine bM aF func268 ntmps268 ?_;refine aY ?_;exact aD results268
theorem pY{s:bB}{op:Nat}(h:¬((((wd op).length+1:Nat):Int)<=(s.length:Int)/\s.take ((wd op).length+1)=wd op++[32])):lM s op=none:=by unfold lM;rw[cX];rintro⟨h1,h2⟩;exact h ⟨by omega,h2⟩
theorem zN{s:bB}{op:Nat}(h1:(((wd op).length+1:Nat):Int)<=(s.length:Int))(h2:s.take ((wd op).length+1)=wd op++[32]):lM s op=some (⟨op,s.drop ((wd op).length+1)⟩,iD op (s.drop ((wd op).length+1))):=by unfold lM;exact eK ⟨by omega,h2⟩
theorem nK{s:bB}{k:Nat}(hn:∀j,1<=j->j<k->lM s j=none)(h:lM s k=none):∀j,1<=j->j<k+1->lM s j=none:=by
 intro j h1 h2;rcases sL j k with h3|h3
 .exact hn j h1 h3
 .obtain rfl:j=k:=by omega
  exact h
theorem aBg[aC prog](s:bB)(hl:s.length<=1099511627776):Ok prog 221 [.str s] (.gT [.agg (lI (dB s).1),.bool (dB s).2]):=by
 have c0:=zi;refine bM aF func221 ntmps221 ?_;refine aY ?_;refine aO (ι:={i:Nat // (1<=i/\i<=6)/\∀j,1<=j->j<i->lM s j=none}) (λt o i=>⟨bC t [(5,.int .i64 i.1)],o⟩) (λi=>6-i.1) ⟨1,by simp,λj h1 h2=>by omega⟩ aJ ?_;rintro⟨k,⟨hk,hk6⟩,hn⟩ K1 hK1;try simp only at hk hk6 hn
 simp only[bC,cW,cU]at hK1⊢;obtain rfl|rfl|rfl|rfl|rfl|rfl:k=1\/k=2\/k=3\/k=4\/k=5\/k=6:=by omega
 .by_cases h1:(6:Int)<=(s.length:Int)
  .have PY:((6:Nat):Int)<=(s.length:Int):=by omega
   by_cases h2:s.take 6=[119,114,105,116,101,32]
   .have ht:lM s 1=some (⟨1,s.drop 6⟩,iD 1 (s.drop 6)):=zN (op:=1) PY h2;have hr:dB s=(⟨1,s.drop 6⟩,iD 1 (s.drop 6)):=by simp[dB,ht]
    rw[hr];clear hr ht hn PY;by_cases h3:((s.length-6:Nat):Int)<=60
    .have hg:iD 1 (s.drop 6)=true:=by simp[iD,EW];omega
     rw[hg];have W:=aA h1 (aA h2 h3);refine we ?_;exact aD results221
    .have hg:iD 1 (s.drop 6)=false:=by simp[iD,EW];omega
     rw[hg];have W:=aA h1 (aA h2 h3);refine we ?_;exact aD results221
   .have ht:lM s 1=none:=pY (op:=1) (λh=>h2 h.2)
    have hb:(s.take 6 == ([119,114,105,116,101,32]:bB))=false:=by simpa using h2
    have W:=aA h1 (aA h2 hb);refine we ?_;exact hK1 _ ⟨2,by omega,nK hn ht⟩ aJ (by simp only;omega)
  .have ht:lM s 1=none:=pY (op:=1) (λh=>h1 (by have:=h.1;simp only[wd,eN,eV]at this;omega))
   have W:=h1;refine we ?_;exact hK1 _ ⟨2,by omega,nK hn ht⟩ aJ (by simp only;omega)
 .by_cases h1:(4:Int)<=(s.length:Int)
  .have PY:((4:Nat):Int)<=(s.length:Int):=by omega
   by_cases h2:s.take 4=[97,100,100,32]
   .have ht:lM s 2=some (⟨2,s.drop 4⟩,iD 2 (s.drop 4)):=zN (op:=2) PY h2;have hr:dB s=(⟨2,s.drop 4⟩,iD 2 (s.drop 4)):=by simp[dB,hn 1 (by omega) (by omega),ht]
    rw[hr];clear hr ht hn PY;have c1:=fD (s.drop 4) (by simp;omega);have hg:iD 2 (s.drop 4)=dA (s.drop 4):=rfl;rw[hg];generalize dA (s.drop 4)=b at*;have W:=aA h1 h2;refine we ?_;exact aD results221
   .have ht:lM s 2=none:=pY (op:=2) (λh=>h2 h.2)
    have hb:(s.take 4 == ([97,100,100,32]:bB))=false:=by simpa using h2
    have W:=aA h1 (aA h2 hb);refine we ?_;exact hK1 _ ⟨3,by omega,nK hn ht⟩ aJ (by simp only;omega)
  .have ht:lM s 2=none:=pY (op:=2) (λh=>h1 (by have:=h.1;simp only[wd,eN,eV]at this;omega))
   have W:=h1;refine we ?_;exact hK1 _ ⟨3,by omega,nK hn ht⟩ aJ (by simp only;omega)
 .by_cases h1:(6:Int)<=(s.length:Int)
  .have PY:((6:Nat):Int)<=(s.length:Int):=by omega
   by_cases h2:s.take 6=[99,111,117,110,116,32]
   .have ht:lM s 3=some (⟨3,s.drop 6⟩,iD 3 (s.drop 6)):=zN (op:=3) PY h2;have hr:dB s=(⟨3,s.drop 6⟩,iD 3 (s.drop 6)):=by simp[dB,hn 1 (by omega) (by omega),hn 2 (by omega) (by omega),ht]
    rw[hr];clear hr ht hn PY;have c1:=fD (s.drop 6) (by simp;omega);have hg:iD 3 (s.drop 6)=dA (s.drop 6):=rfl;rw[hg];generalize dA (s.drop 6)=b at*;have W:=aA h1 h2;refine we ?_;exact aD results221
   .have ht:lM s 3=none:=pY (op:=3) (λh=>h2 h.2)
    have hb:(s.take 6 == ([99,111,117,110,116,32]:bB))=false:=by simpa using h2
    have W:=aA h1 (aA h2 hb);refine we ?_;exact hK1 _ ⟨4,by omega,nK hn ht⟩ aJ (by simp only;omega)
  .have ht:lM s 3=none:=pY (op:=3) (λh=>h1 (by have:=h.1;simp only[wd,eN,eV]at this;omega))
   have W:=h1;refine we ?_;exact hK1 _ ⟨4,by omega,nK hn ht⟩ aJ (by simp only;omega)
 .by_cases h1:(5:Int)<=(s.length:Int)
  .have PY:((5:Nat):Int)<=(s.length:Int):=by omega
   by_cases h2:s.take 5=[108,111,111,107,32]
   .have ht:lM s 4=some (⟨4,s.drop 5⟩,iD 4 (s.drop 5)):=zN (op:=4) PY h2;have hr:dB s=(⟨4,s.drop 5⟩,iD 4 (s.drop 5)):=by simp[dB,hn 1 (by omega) (by omega),hn 2 (by omega) (by omega),hn 3 (by omega) (by omega),ht]
    rw[hr];clear hr ht hn PY;have c1:=fD (s.drop 5) (by simp;omega);have hg:iD 4 (s.drop 5)=dA (s.drop 5):=rfl;rw[hg];generalize dA (s.drop 5)=b at*;have W:=aA h1 h2;refine we ?_;exact aD results221
   .have ht:lM s 4=none:=pY (op:=4) (λh=>h2 h.2)
    have hb:(s.take 5 == ([108,111,111,107,32]:bB))=false:=by simpa using h2
    have W:=aA h1 (aA h2 hb);refine we ?_;exact hK1 _ ⟨5,by omega,nK hn ht⟩ aJ (by simp only;omega)
  .have ht:lM s 4=none:=pY (op:=4) (λh=>h1 (by have:=h.1;simp only[wd,eN,eV]at this;omega))
   have W:=h1;refine we ?_;exact hK1 _ ⟨5,by omega,nK hn ht⟩ aJ (by simp only;omega)
 .by_cases h1:(4:Int)<=(s.length:Int)
  .have PY:((4:Nat):Int)<=(s.length:Int):=by omega
   by_cases h2:s.take 4=[115,97,121,32]
   .have ht:lM s 5=some (⟨5,s.drop 4⟩,iD 5 (s.drop 4)):=zN (op:=5) PY h2;have hr:dB s=(⟨5,s.drop 4⟩,iD 5 (s.drop 4)):=by simp[dB,hn 1 (by omega) (by omega),hn 2 (by omega) (by omega),hn 3 (by omega) (by omega),hn 4 (by omega) (by omega),ht]
    rw[hr];clear hr ht hn PY;by_cases h3:((s.length-4:Nat):Int)<=60
    .have hg:iD 5 (s.drop 4)=true:=by simp[iD,EW];omega
     rw[hg];have W:=aA h1 (aA h2 h3);refine we ?_;exact aD results221
    .have hg:iD 5 (s.drop 4)=false:=by simp[iD,EW];omega
     rw[hg];have W:=aA h1 (aA h2 h3);refine we ?_;exact aD results221
   .have ht:lM s 5=none:=pY (op:=5) (λh=>h2 h.2)
    have hb:(s.take 4 == ([115,97,121,32]:bB))=false:=by simpa using h2
    have W:=aA h1 (aA h2 hb);refine we ?_;exact hK1 _ ⟨6,by omega,nK hn ht⟩ aJ (by simp only;omega)
  .have ht:lM s 5=none:=pY (op:=5) (λh=>h1 (by have:=h.1;simp only[wd,eN,eV]at this;omega))
   have W:=h1;refine we ?_;exact hK1 _ ⟨6,by omega,nK hn ht⟩ aJ (by simp only;omega)
 .have hr:dB s=(⟨0,[]⟩,false):=by simp[dB,hn 1 (by omega) (by omega),hn 2 (by omega) (by omega),hn 3 (by omega) (by omega),hn 4 (by omega) (by omega),hn 5 (by omega) (by omega)]
  rw[hr];refine aY ?_;exact aD results221
theorem zk[aC prog]:Ok prog 284 [.int .i64 1] (.str [119,114,105,116,101]):=by have c0:=jM 1 1 5;simp only[Int.reduceLE,CD,Ft]at c0;refine bM aF func284 ntmps284 ?_;refine aY ?_;exact aD results284
theorem zl[aC prog]:Ok prog 284 [.int .i64 2] (.str [97,100,100]):=by have c0:=jM 2 1 5;simp only[Int.reduceLE,CD,Ft]at c0;refine bM aF func284 ntmps284 ?_;refine aY ?_;exact aD results284
theorem zm[aC prog]:Ok prog 284 [.int .i64 3] (.str [99,111,117,110,116]):=by have c0:=jM 3 1 5;simp only[Int.reduceLE,CD,Ft]at c0;refine bM aF func284 ntmps284 ?_;refine aY ?_;exact aD results284
theorem zn[aC prog]:Ok prog 284 [.int .i64 4] (.str [108,111,111,107]):=by have c0:=jM 4 1 5;simp only[Int.reduceLE,CD,Ft]at c0;refine bM aF func284 ntmps284 ?_;refine aY ?_;exact aD results284
theorem zo[aC prog]:Ok prog 284 [.int .i64 5] (.str [115,97,121]):=by have c0:=jM 5 1 5;simp only[Int.reduceLE,CD,Ft]at c0;refine bM aF func284 ntmps284 ?_;refine aY ?_;exact aD results284
theorem aRg(op:Nat):∀x∈wd op,x≠32:=by
 have h:(wd op).all (λx=>decide (x≠32))=true:=by unfold wd;split<;>decide
 intro x hx;simpa using fN.1 h x hx
theorem aJx{s:bB}{op:Nat}(hk:iH 32 s<s.length)(hw:s.take (iH 32 s)=wd op):lM s op=some (⟨op,s.drop (iH 32 s+1)⟩,iD op (s.drop (iH 32 s+1))):=by
 have hL:(wd op).length=iH 32 s:=by rw[<-hw];simp;omega
 have h2:s.take ((wd op).length+1)=wd op++[32]:=by rw[hL,eI hk,hw,L8 hk]
 rw[zN (by omega) h2,hL]
theorem aJy{s:bB}{op:Nat}(h:¬(iH 32 s<s.length/\s.take (iH 32 s)=wd op)):lM s op=none:=by
 refine pY λ⟨h1,h2⟩=>h ?_
 have hlt:(wd op).length<s.length:=by omega
 have ht:s.take (wd op).length=wd op:=by have:=As (List.take (wd op).length) h2;simpa [take_take]using this
 have hg:s[(wd op).length]=32:=by have:=As (λl=>l[(wd op).length]?) h2;simp only[hY (eE _),zE,sR]at this;rw[AW,eK (by omega),aE hlt]at this;exact cQ this
 have hi:iH 32 s=(wd op).length:=ve hlt hg (by rw[ht];exact aRg op);rw[hi];exact⟨hlt,ht⟩
theorem BA{s:bB}(h:∀j,1<=j->j<6->lM s j=none):dB s=(⟨0,[]⟩,false):=by simp[dB,h 1 (by omega) (by omega),h 2 (by omega) (by omega),h 3 (by omega) (by omega),h 4 (by omega) (by omega),h 5 (by omega) (by omega)]
def mP(p:jT×Bool):jT:=if p.2=true then p.1 else⟨0,[]⟩
theorem Yi[aC prog](s:bB)(hl:s.length<=1099511627776):Ok prog 245 [.str s] (.gT [.agg (lI (mP (dB s))),.bool (dB s).2]):=by
 have hC:=zW s 32 (by omega);have hle:=vD 32 s;have c1:=zk;have c2:=zl;have c3:=zm;have c4:=zn;have c5:=zo;have cN:=gL (s.drop (iH 32 s+1)) (by simp;omega);have ht:∀op,iH 32 s<s.length->s.take (iH 32 s)=wd op->lM s op=some (⟨op,s.drop (iH 32 s+1)⟩,iD op (s.drop (iH 32 s+1))):=λop=>aJx
 have hf:∀op,¬(iH 32 s<s.length/\s.take (iH 32 s)=wd op)->lM s op=none:=λop=>aJy
 generalize iH 32 s=p at*;generalize aWe:s.take p=word at*;generalize aRh:s.drop (p+1)=text at*;have htl:text.length<=s.length:=by rw[<-aRh];simp
 refine bM aF func245 ntmps245 ?_;refine aY ?_;refine aO (ι:={i:Nat // (1<=i/\i<=6)/\∀j,1<=j->j<i->lM s j=none}) (λt o i=>⟨bC t [(7,.int .i64 i.1),(8,.undef)],o⟩) (λi=>6-i.1) ⟨1,by simp,λj h1 h2=>by omega⟩ aJ ?_;rintro⟨k,⟨hk,hk6⟩,hn⟩ K1 hK1;try simp only at hk hk6 hn
 simp only[bC,cW,cU]at hK1⊢;obtain rfl|rfl|rfl|rfl|rfl|rfl:k=1\/k=2\/k=3\/k=4\/k=5\/k=6:=by omega
 .by_cases hw:word=[119,114,105,116,101]
  .by_cases hp:p<s.length
   .have hr:dB s=(⟨1,text⟩,iD 1 text):=by simp[dB,ht 1 hp hw]
    rw[hr];rw[sB hp]at hC;clear hr hf ht hn;subst hw;by_cases h3:(text.length:Int)<=60
    .have hg:iD 1 text=true:=by simp[iD,EW];omega
     have h4:¬(60:Int)<(text.length:Int):=by omega
     rw[hg];have W:=aA hp (aA h3 h4);refine we ?_;all_goals try(refine aQ ?_;simp[aP,results245,mP])
    .have hg:iD 1 text=false:=by simp[iD,EW];omega
     have h4:(60:Int)<(text.length:Int):=by omega
     rw[hg];have W:=aA hp (aA h3 h4);refine we ?_;all_goals try(refine aQ ?_;simp[aP,results245,mP])
   .have hr:dB s=(⟨0,[]⟩,false):=BA λj _ _=>hf j λh=>hp h.1
    rw[hr];rw[AF hp]at hC;clear hr hf ht hn;subst hw;have Ws:s.length<=p:=by omega
    have W:=aA hp Ws;refine we ?_;all_goals try(refine aQ ?_;simp[aP,results245,mP])
  .have hx:=hf 1 λh=>hw h.2
   have hb:(([119,114,105,116,101]:bB) == word)=false:=by simpa using λh=>hw h.symm
   have hw2:¬[119,114,105,116,101]=word:=λh=>hw h.symm
   clear hf ht;have W:=aA hw (aA hw2 hb);refine we ?_;exact hK1 _ ⟨2,by omega,nK hn hx⟩ aJ (by simp only;omega)
 .by_cases hw:word=[97,100,100]
  .by_cases hp:p<s.length
   .have hr:dB s=(⟨2,text⟩,iD 2 text):=by simp[dB,hn 1 (by omega) (by omega),ht 2 hp hw]
    rw[hr];rw[sB hp]at hC;clear hr hf ht hn;subst hw;have hg:iD 2 text=dA text:=rfl;rw[hg];generalize dA text=b at*;cases b
    .have W:=hp;refine we ?_;all_goals try(refine aQ ?_;simp[aP,results245,mP])
    .have W:=hp;refine we ?_;all_goals try(refine aQ ?_;simp[aP,results245,mP])
   .have hr:dB s=(⟨0,[]⟩,false):=BA λj _ _=>hf j λh=>hp h.1
    rw[hr];rw[AF hp]at hC;clear hr hf ht hn;subst hw;have Ws:s.length<=p:=by omega
    have W:=aA hp Ws;refine we ?_;all_goals try(refine aQ ?_;simp[aP,results245,mP])
  .have hx:=hf 2 λh=>hw h.2
   have hb:(([97,100,100]:bB) == word)=false:=by simpa using λh=>hw h.symm
   have hw2:¬[97,100,100]=word:=λh=>hw h.symm
   clear hf ht;have W:=aA hw (aA hw2 hb);refine we ?_;exact hK1 _ ⟨3,by omega,nK hn hx⟩ aJ (by simp only;omega)
 .by_cases hw:word=[99,111,117,110,116]
  .by_cases hp:p<s.length
   .have hr:dB s=(⟨3,text⟩,iD 3 text):=by simp[dB,hn 1 (by omega) (by omega),hn 2 (by omega) (by omega),ht 3 hp hw]
    rw[hr];rw[sB hp]at hC;clear hr hf ht hn;subst hw;have hg:iD 3 text=dA text:=rfl;rw[hg];generalize dA text=b at*;cases b
    .have W:=hp;refine we ?_;all_goals try(refine aQ ?_;simp[aP,results245,mP])
    .have W:=hp;refine we ?_;all_goals try(refine aQ ?_;simp[aP,results245,mP])
   .have hr:dB s=(⟨0,[]⟩,false):=BA λj _ _=>hf j λh=>hp h.1
    rw[hr];rw[AF hp]at hC;clear hr hf ht hn;subst hw;have Ws:s.length<=p:=by omega
    have W:=aA hp Ws;refine we ?_;all_goals try(refine aQ ?_;simp[aP,results245,mP])
  .have hx:=hf 3 λh=>hw h.2
   have hb:(([99,111,117,110,116]:bB) == word)=false:=by simpa using λh=>hw h.symm
   have hw2:¬[99,111,117,110,116]=word:=λh=>hw h.symm
   clear hf ht;have W:=aA hw (aA hw2 hb);refine we ?_;exact hK1 _ ⟨4,by omega,nK hn hx⟩ aJ (by simp only;omega)
 .by_cases hw:word=[108,111,111,107]
  .by_cases hp:p<s.length
   .have hr:dB s=(⟨4,text⟩,iD 4 text):=by simp[dB,hn 1 (by omega) (by omega),hn 2 (by omega) (by omega),hn 3 (by omega) (by omega),ht 4 hp hw]
    rw[hr];rw[sB hp]at hC;clear hr hf ht hn;subst hw;have hg:iD 4 text=dA text:=rfl;rw[hg];generalize dA text=b at*;cases b
    .have W:=hp;refine we ?_;all_goals try(refine aQ ?_;simp[aP,results245,mP])
    .have W:=hp;refine we ?_;all_goals try(refine aQ ?_;simp[aP,results245,mP])
   .have hr:dB s=(⟨0,[]⟩,false):=BA λj _ _=>hf j λh=>hp h.1
    rw[hr];rw[AF hp]at hC;clear hr hf ht hn;subst hw;have Ws:s.length<=p:=by omega
    have W:=aA hp Ws;refine we ?_;all_goals try(refine aQ ?_;simp[aP,results245,mP])
  .have hx:=hf 4 λh=>hw h.2
   have hb:(([108,111,111,107]:bB) == word)=false:=by simpa using λh=>hw h.symm
   have hw2:¬[108,111,111,107]=word:=λh=>hw h.symm
   clear hf ht;have W:=aA hw (aA hw2 hb);refine we ?_;exact hK1 _ ⟨5,by omega,nK hn hx⟩ aJ (by simp only;omega)
 .by_cases hw:word=[115,97,121]
  .by_cases hp:p<s.length
   .have hr:dB s=(⟨5,text⟩,iD 5 text):=by simp[dB,hn 1 (by omega) (by omega),hn 2 (by omega) (by omega),hn 3 (by omega) (by omega),hn 4 (by omega) (by omega),ht 5 hp hw]
    rw[hr];rw[sB hp]at hC;clear hr hf ht hn;subst hw;by_cases h3:(text.length:Int)<=60
    .have hg:iD 5 text=true:=by simp[iD,EW];omega
     have h4:¬(60:Int)<(text.length:Int):=by omega
     rw[hg];have W:=aA hp (aA h3 h4);refine we ?_;all_goals try(refine aQ ?_;simp[aP,results245,mP])
    .have hg:iD 5 text=false:=by simp[iD,EW];omega
     have h4:(60:Int)<(text.length:Int):=by omega
     rw[hg];have W:=aA hp (aA h3 h4);refine we ?_;all_goals try(refine aQ ?_;simp[aP,results245,mP])
   .have hr:dB s=(⟨0,[]⟩,false):=BA λj _ _=>hf j λh=>hp h.1
    rw[hr];rw[AF hp]at hC;clear hr hf ht hn;subst hw;have Ws:s.length<=p:=by omega
    have W:=aA hp Ws;refine we ?_;all_goals try(refine aQ ?_;simp[aP,results245,mP])
  .have hx:=hf 5 λh=>hw h.2
   have hb:(([115,97,121]:bB) == word)=false:=by simpa using λh=>hw h.symm
   have hw2:¬[115,97,121]=word:=λh=>hw h.symm
   clear hf ht;have W:=aA hw (aA hw2 hb);refine we ?_;exact hK1 _ ⟨6,by omega,nK hn hx⟩ aJ (by simp only;omega)
 .have hr:dB s=(⟨0,[]⟩,false):=BA λj h1 h2=>hn j h1 h2
  rw[hr];clear hr hf ht hn;refine aY ?_;all_goals try(refine aQ ?_;simp[aP,results245,mP])
theorem QL(c:UInt8):∀s:bB,∀p∈dE c s,p.length<=s.length
 |[],p,h=>by simp only[dE,rI]at h;subst h;simp
 |x::s,p,h=>by
  have ih:=QL c s;simp only[dE]at h;split at h
  .rcases lB.1 h with rfl|h
   .simp
   .have:=ih p h;simp;omega
  .split at h
   .rename_i h0;exact absurd h0 (qY c s)
   .rename_i q r h0;rw[h0]at ih;rcases lB.1 h with rfl|h
    .have:=ih q (by simp);simp;omega
    .have:=ih p (by simp[h]);simp;omega
def fZ(s:bB):List jT×Bool:=
 if s=[]then([],true)else if ((dE 59 s).all λp=>(dB p).2)=true/\(dE 59 s).length<=6 then((dE 59 s).map λp=>(dB p).1,true)else([],false)
theorem Tw{s:bB}{k:Nat}(h0:s≠[])(hk:k<(dE 59 s).length)(h:(dB (dE 59 s)[k]).2=false):fZ s=([],false):=by unfold fZ;rw[cX h0,cX];rintro⟨h1,_⟩;have:=fN.1 h1 _ (fS hk);rw[h]at this;cases this
theorem OX{s:bB}(h0:s≠[])(h:6<(dE 59 s).length):fZ s=([],false):=by unfold fZ;rw[cX h0,cX];rintro⟨_,h1⟩;omega
theorem OY{s:bB}(h0:s≠[])(h1:∀p∈dE 59 s,(dB p).2=true)(h2:(dE 59 s).length<=6):fZ s=((dE 59 s).map λp=>(dB p).1,true):=by unfold fZ;rw[cX h0,eK ⟨fN.2 h1,h2⟩]
theorem WK{l:List bB}{k:Nat}(hk:k<l.length)(h:∀p∈l.take k,(dB p).2=true)(h1:(dB l[k]).2=true):∀p∈l.take (k+1),(dB p).2=true:=by
 intro p hp;rw[eI hk]at hp;rcases fL.1 hp with hp|hp
 .exact h p hp
 .rw [rI.1 hp];exact h1
theorem iw{α β:Type}(f:α->β)(l:List α)(k:Nat)(h:k<l.length):(l.take (k+1)).map f=(l.take k).map f++[f l[k]]:=by rw[eI h,oT];rfl
def eSp(p:bB):List AV:=lI (dB p).1
theorem Q0(l:List bB):(l.map λp=>(dB p).1).map lI=l.map eSp:=by rw[map_map];rfl
theorem BR[aC prog][bP prog](s:bB)(hl:s.length<=1073741824):Ok prog 170 [.str s] (.gT [.sl .own 2 ((fZ s).1.map lI),.bool (fZ s).2]):=by
 by_cases h0:s=[]
 .subst h0;have hr:fZ []=([],true):=rfl;rw[hr];refine bM aF func170 ntmps170 ?_;refine aY ?_;exact aD results170
 .have cS:Ok prog 105 [.str s,.int .u8 59] (.sl .own 1 ((dE 59 s).map bW)):=xB s 59 (by omega);have hb0:(s == ([]:bB))=false:=by simp[h0]
  have hle:=QL 59 s;have hn:=iQ 59 s;have hcn:s.count 59<=s.length:=pH;have hb:=λk hk=>Tw (k:=k) h0 hk
  have qf:=OX h0;have hgd:=OY h0;have hne:=qY 59 s;generalize dE 59 s=l at*;have hll:l.length<=1073741825:=by omega
  have hl0:0<l.length:=CH.2 hne;generalize fZ s=g at*;refine bM aF func170 ntmps170 ?_;have W:=aA h0 hb0;refine we ?_;refine aO (ι:={q:Nat×Nat // (q.1<=l.length/\1<=q.2)/\(∀p∈l.take q.1,(dB p).2=true)/\(0<q.1->l.length<=6)}) (λt o i=>⟨bC t [(6,.int .i64 i.1.1),(4,.obj 0 i.1.2),(7,.undef),(8,.undef)],[⟨true,false,2,i.1.2,(l.take i.1.1).map eSp⟩]++o.drop 1⟩)
   (λi=>l.length-i.1.1) ⟨(0,1),by simp,by simp,by simp⟩ aJ ?_
  rintro⟨⟨k,v⟩,⟨hk,hv⟩,hgood,aJz⟩ K1 hK1;simp only at hk hv hgood aJz;simp only[bC,cW,cU,pC,AI,eA,eM]at hK1⊢;have hk1:=oQ (k:=k);by_cases hlt:k<l.length
  .have hg:=aE hlt;have c1:=aBg l[k] (by have:=hle _ (fS hlt);omega);have hps:=iw eSp l k hlt;have hx:eSp l[k]=lI (dB l[k]).1:=rfl;have KF:((l.take k).map eSp).length=k:=by simp;omega
   have hbk:=hb k hlt;have Ee:=WK hlt hgood;simp only[lI]at c1;generalize (l.take k).map eSp=rows at*;generalize dB l[k]=x at*;obtain⟨x,ok⟩:=x;simp only[lI]at c1 hbk Ee hps hx;rw[hx]at hps;cases ok with
   |false=>have hr:=hbk rfl;subst hr;have W:=aA hk1 (aA hg hlt);refine we ?_;exact aD results170
   |true=>
    by_cases h6:6<l.length
    .have hr:=qf h6;subst hr;have h6i:(6:Int)<(l.length:Int):=by omega
     have W:=aA hk1 (aA hg (aA hlt h6i));refine we ?_;exact aD results170
    .have h6i:¬(6:Int)<(l.length:Int):=by omega
     have W:=aA hk1 (aA hg (aA hlt (aA KF h6i)));refine we ?_;all_goals exact hK1 _ ⟨(k+1,v+1),⟨by simp only;omega,by simp only;omega⟩,Ee rfl,λ_=>by omega⟩ (aV 2 (by simp[hps])) (by simp only;omega)
  .have htk:l.take k=l:=cY (by omega);rw[htk]at hgood⊢;have hr:=hgd hgood (aJz (by omega));subst hr;simp only[Q0];have W:=hk1;refine we ?_;all_goals try(refine aQ ?_;simp[aP,results170])
   all_goals exact eH _ (by intro x;rfl) l
theorem iy[aC prog][bP prog](s:bB)(c:UInt8)(hs:s.length<4294967281):Ok prog 140 [.str s,.str [c]] (.sl .own 1 ((dE c s).map bW)):=RQ Tryz.laysM146 (by kernel_rfl) s c hs
theorem BS[aC prog][bP prog](s:bB)(hl:s.length<=1073741824):Ok prog 199 [.str s] (.gT [.sl .own 2 ((fZ s).1.map lI),.bool (fZ s).2]):=by
 by_cases h0:s=[]
 .subst h0;have hr:fZ []=([],true):=rfl;rw[hr];refine bM aF func199 ntmps199 ?_;refine aY ?_;exact aD results199
 .have cS:=iy s 59 (by omega);have hb0:(s == ([]:bB))=false:=by simp[h0]
  have hle:=QL 59 s;have hn:=iQ 59 s;have hcn:s.count 59<=s.length:=pH;have hb:=λk hk=>Tw (k:=k) h0 hk
  have qf:=OX h0;have hgd:=OY h0;have hne:=qY 59 s;generalize dE 59 s=l at*;have hll:l.length<=1073741825:=by omega
  have hl0:0<l.length:=CH.2 hne;generalize fZ s=g at*;refine bM aF func199 ntmps199 ?_;have W:=aA h0 hb0;refine we ?_;refine aO (ι:={q:Nat×Nat // (q.1<=l.length/\1<=q.2)/\(∀p∈l.take q.1,(dB p).2=true)/\q.1<=6}) (λt o i=>⟨bC t [(16,.int .i64 i.1.1),(4,.obj 0 i.1.2),(6,.undef),(7,.undef),(8,.undef)],[⟨true,false,2,i.1.2,(l.take i.1.1).map eSp⟩]++o.drop 1⟩)
   (λi=>l.length-i.1.1) ⟨(0,1),by simp,by simp,by simp⟩ aJ ?_
  rintro⟨⟨k,v⟩,⟨hk,hv⟩,hgood,aJz⟩ K1 hK1;simp only at hk hv hgood aJz;simp only[bC,cW,cU,pC,AI,eA,eM]at hK1⊢;have hk1:=oQ (k:=k);by_cases hlt:k<l.length
  .have hg:=aE hlt;have c1:=Yi l[k] (by have:=hle _ (fS hlt);omega);have hps:=iw eSp l k hlt;have hx:eSp l[k]=lI (dB l[k]).1:=rfl;have KF:((l.take k).map eSp).length=k:=by simp;omega
   have hbk:=hb k hlt;have Ee:=WK hlt hgood;simp only[lI]at c1;generalize (l.take k).map eSp=rows at*;generalize dB l[k]=x at*;obtain⟨x,ok⟩:=x;simp only[lI]at hbk Ee hps hx;rw[hx]at hps;cases ok with
   |false=>have hr:=hbk rfl;subst hr;simp only[mP,lI,eS,gS]at c1;have W:=aA hk1 (aA hg hlt);refine we ?_;exact aD results199
   |true=>
    simp only[mP,lI,gC]at c1;by_cases h6:k=6
    .have hr:=qf (by omega);subst hr;have h6b:((k:Int) == 6)=true:=by simp;omega
     clear h6;have W:=aA hk1 (aA hg (aA hlt (aA KF h6b)));refine we ?_;exact aD results199
    .have h6i:¬(k:Int)=6:=by omega
     have h6b:((k:Int) == 6)=false:=by simpa using h6i
     have W:=aA hk1 (aA hg (aA hlt (aA KF (aA h6i h6b))));refine we ?_;all_goals exact hK1 _ ⟨(k+1,v+1),⟨by simp only;omega,by simp only;omega⟩,Ee rfl,by simp only;omega⟩ (aV 2 (by simp[hps])) (by simp only;omega)
  .have htk:l.take k=l:=cY (by omega);rw[htk]at hgood⊢;have hr:=hgd hgood (by omega);subst hr;simp only[Q0];have W:=hk1;refine we ?_;all_goals try(refine aQ ?_;simp[aP,results199])
   all_goals exact eH _ (by intro x;rfl) l
end Go.Proofs.YtfbefblglejcaaaGreatDoor
