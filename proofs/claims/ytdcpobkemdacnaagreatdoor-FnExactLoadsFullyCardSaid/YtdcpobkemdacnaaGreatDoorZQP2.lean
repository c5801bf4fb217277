/- Proved here: steps towards the statement of this claim. No condition. -/
import Derived.Test.YtdcpobkemdacnaaGreatDoorZQU2
set_option linter.all false
set_option maxRecDepth 4000
set_option maxHeartbeats 4000000
namespace Go.Proofs.YtdcpobkemdacnaaGreatDoor
open Go.Aw Proofs.Tryz List IntKind
def wd:Nat->bB
 |1=>[119,114,105,116,101]
 |2=>[97,100,100]
 |3=>[99,111,117,110,116]
 |4=>[108,111,111,107]
 |5=>[115,97,121]
 |_=>[]
def EA (op:Nat):Bool:=op == 1 || op == 5
def iI (op:Nat) (x:bB):Bool:=if EA op=true then decide (x.length<=60) else dB x
def lL (s:bB) (op:Nat):Option (jW×Bool):=
 if (wd op).length+1<=s.length/\s.take ((wd op).length+1)=wd op++[32] then some (⟨op,s.drop ((wd op).length+1)⟩,iI op (s.drop ((wd op).length+1))) else none
def dC (s:bB):jW×Bool:=((((lL s 1).or (lL s 2)).or (lL s 3)).or (lL s 4)).or (lL s 5) |>.getD (⟨0,[]⟩,false)
theorem ry [aC prog]:Ok prog 260 [] (.sl .own 1 [[.str []],[.str [119,114,105,116,101,32]],[.str [97,100,100,32]],[.str [99,111,117,110,116,32]],[.str [108,111,111,107,32]],[.str [115,97,121,32]]]):=by refine bO aD func260 ntmps260 ?_;refine aZ ?_;exact aF results260
theorem pO {s:bB} {op:Nat} (h:¬((((wd op).length+1:Nat):Int)<=(s.length:Int)/\s.take ((wd op).length+1)=wd op++[32])):lL s op=none:=by unfold lL;rw [cX];rintro ⟨h1,h2⟩;exact h ⟨by omega,h2⟩
theorem zA {s:bB} {op:Nat} (h1:(((wd op).length+1:Nat):Int)<=(s.length:Int)) (h2:s.take ((wd op).length+1)=wd op++[32]):lL s op=some (⟨op,s.drop ((wd op).length+1)⟩,iI op (s.drop ((wd op).length+1))):=by unfold lL;exact eI ⟨by omega,h2⟩
theorem nC {s:bB} {k:Nat} (hn:∀j,1<=j->j < k->lL s j=none) (h:lL s k=none):∀j,1<=j->j < k+1->lL s j=none:=by
 intro j h1 h2;rcases sB j k with h3|h3
 .exact hn j h1 h3
 .obtain rfl:j=k:=by omega
  exact h
theorem U0 [aC prog] (s:bB) (hl:s.length<=1099511627776):Ok prog 213 [.str s] (.gZ [.agg (lH (dC s).1),.bool (dC s).2]):=by
 have c0:=ry;refine bO aD func213 ntmps213 ?_;refine aZ ?_;refine aP (ι:={i:Nat // (1<=i/\i<=6)/\∀j,1<=j->j < i->lL s j=none}) (λt o i=>⟨bE t [(5,.int .i64 i.1)],o⟩) (λi=>6 - i.1) ⟨1,by simp,λj h1 h2=>by omega⟩ aO ?_;rintro ⟨k,⟨hk,hk6⟩,hn⟩ K1 hK1;try simp only at hk hk6 hn
 simp only [bE,cW,cU] at hK1⊢;obtain rfl|rfl|rfl|rfl|rfl|rfl:k=1\/k=2\/k=3\/k=4\/k=5\/k=6:=by omega
 .by_cases h1:(6:Int)<=(s.length:Int)
  .have OY:((6:Nat):Int)<=(s.length:Int):=by omega
   by_cases h2:s.take 6=[119,114,105,116,101,32]
   .have ht:lL s 1=some (⟨1,s.drop 6⟩,iI 1 (s.drop 6)):=zA (op:=1) OY h2;have hr:dC s=(⟨1,s.drop 6⟩,iI 1 (s.drop 6)):=by simp [dC,ht]
    rw [hr];clear hr ht hn OY;by_cases h3:((s.length - 6:Nat):Int)<=60
    .have hg:iI 1 (s.drop 6)=true:=by simp [iI,EA];omega
     rw [hg];have W:=aA h1 (aA h2 h3);refine we ?_;exact aF results213
    .have hg:iI 1 (s.drop 6)=false:=by simp [iI,EA];omega
     rw [hg];have W:=aA h1 (aA h2 h3);refine we ?_;exact aF results213
   .have ht:lL s 1=none:=pO (op:=1) (λh=>h2 h.2)
    have hb:(s.take 6 == ([119,114,105,116,101,32]:bB))=false:=by simpa using h2
    have W:=aA h1 (aA h2 hb);refine we ?_;exact hK1 _ ⟨2,by omega,nC hn ht⟩ aO (by simp only;omega)
  .have ht:lL s 1=none:=pO (op:=1) (λh=>h1 (by have:=h.1;simp only [wd,eN,eW] at this;omega))
   have W:=h1;refine we ?_;exact hK1 _ ⟨2,by omega,nC hn ht⟩ aO (by simp only;omega)
 .by_cases h1:(4:Int)<=(s.length:Int)
  .have OY:((4:Nat):Int)<=(s.length:Int):=by omega
   by_cases h2:s.take 4=[97,100,100,32]
   .have ht:lL s 2=some (⟨2,s.drop 4⟩,iI 2 (s.drop 4)):=zA (op:=2) OY h2;have hr:dC s=(⟨2,s.drop 4⟩,iI 2 (s.drop 4)):=by simp [dC,hn 1 (by omega) (by omega),ht]
    rw [hr];clear hr ht hn OY;have c1:=fG (s.drop 4) (by simp;omega);have hg:iI 2 (s.drop 4)=dB (s.drop 4):=rfl;rw [hg];generalize dB (s.drop 4)=b at *;have W:=aA h1 h2;refine we ?_;exact aF results213
   .have ht:lL s 2=none:=pO (op:=2) (λh=>h2 h.2)
    have hb:(s.take 4 == ([97,100,100,32]:bB))=false:=by simpa using h2
    have W:=aA h1 (aA h2 hb);refine we ?_;exact hK1 _ ⟨3,by omega,nC hn ht⟩ aO (by simp only;omega)
  .have ht:lL s 2=none:=pO (op:=2) (λh=>h1 (by have:=h.1;simp only [wd,eN,eW] at this;omega))
   have W:=h1;refine we ?_;exact hK1 _ ⟨3,by omega,nC hn ht⟩ aO (by simp only;omega)
 .by_cases h1:(6:Int)<=(s.length:Int)
  .have OY:((6:Nat):Int)<=(s.length:Int):=by omega
   by_cases h2:s.take 6=[99,111,117,110,116,32]
   .have ht:lL s 3=some (⟨3,s.drop 6⟩,iI 3 (s.drop 6)):=zA (op:=3) OY h2;have hr:dC s=(⟨3,s.drop 6⟩,iI 3 (s.drop 6)):=by simp [dC,hn 1 (by omega) (by omega),hn 2 (by omega) (by omega),ht]
    rw [hr];clear hr ht hn OY;have c1:=fG (s.drop 6) (by simp;omega);have hg:iI 3 (s.drop 6)=dB (s.drop 6):=rfl;rw [hg];generalize dB (s.drop 6)=b at *;have W:=aA h1 h2;refine we ?_;exact aF results213
   .have ht:lL s 3=none:=pO (op:=3) (λh=>h2 h.2)
    have hb:(s.take 6 == ([99,111,117,110,116,32]:bB))=false:=by simpa using h2
    have W:=aA h1 (aA h2 hb);refine we ?_;exact hK1 _ ⟨4,by omega,nC hn ht⟩ aO (by simp only;omega)
  .have ht:lL s 3=none:=pO (op:=3) (λh=>h1 (by have:=h.1;simp only [wd,eN,eW] at this;omega))
   have W:=h1;refine we ?_;exact hK1 _ ⟨4,by omega,nC hn ht⟩ aO (by simp only;omega)
 .by_cases h1:(5:Int)<=(s.length:Int)
  .have OY:((5:Nat):Int)<=(s.length:Int):=by omega
   by_cases h2:s.take 5=[108,111,111,107,32]
   .have ht:lL s 4=some (⟨4,s.drop 5⟩,iI 4 (s.drop 5)):=zA (op:=4) OY h2;have hr:dC s=(⟨4,s.drop 5⟩,iI 4 (s.drop 5)):=by simp [dC,hn 1 (by omega) (by omega),hn 2 (by omega) (by omega),hn 3 (by omega) (by omega),ht]
    rw [hr];clear hr ht hn OY;have c1:=fG (s.drop 5) (by simp;omega);have hg:iI 4 (s.drop 5)=dB (s.drop 5):=rfl;rw [hg];generalize dB (s.drop 5)=b at *;have W:=aA h1 h2;refine we ?_;exact aF results213
   .have ht:lL s 4=none:=pO (op:=4) (λh=>h2 h.2)
    have hb:(s.take 5 == ([108,111,111,107,32]:bB))=false:=by simpa using h2
    have W:=aA h1 (aA h2 hb);refine we ?_;exact hK1 _ ⟨5,by omega,nC hn ht⟩ aO (by simp only;omega)
  .have ht:lL s 4=none:=pO (op:=4) (λh=>h1 (by have:=h.1;simp only [wd,eN,eW] at this;omega))
   have W:=h1;refine we ?_;exact hK1 _ ⟨5,by omega,nC hn ht⟩ aO (by simp only;omega)
 .by_cases h1:(4:Int)<=(s.length:Int)
  .have OY:((4:Nat):Int)<=(s.length:Int):=by omega
   by_cases h2:s.take 4=[115,97,121,32]
   .have ht:lL s 5=some (⟨5,s.drop 4⟩,iI 5 (s.drop 4)):=zA (op:=5) OY h2;have hr:dC s=(⟨5,s.drop 4⟩,iI 5 (s.drop 4)):=by simp [dC,hn 1 (by omega) (by omega),hn 2 (by omega) (by omega),hn 3 (by omega) (by omega),hn 4 (by omega) (by omega),ht]
    rw [hr];clear hr ht hn OY;by_cases h3:((s.length - 4:Nat):Int)<=60
    .have hg:iI 5 (s.drop 4)=true:=by simp [iI,EA];omega
     rw [hg];have W:=aA h1 (aA h2 h3);refine we ?_;exact aF results213
    .have hg:iI 5 (s.drop 4)=false:=by simp [iI,EA];omega
     rw [hg];have W:=aA h1 (aA h2 h3);refine we ?_;exact aF results213
   .have ht:lL s 5=none:=pO (op:=5) (λh=>h2 h.2)
    have hb:(s.take 4 == ([115,97,121,32]:bB))=false:=by simpa using h2
    have W:=aA h1 (aA h2 hb);refine we ?_;exact hK1 _ ⟨6,by omega,nC hn ht⟩ aO (by simp only;omega)
  .have ht:lL s 5=none:=pO (op:=5) (λh=>h1 (by have:=h.1;simp only [wd,eN,eW] at this;omega))
   have W:=h1;refine we ?_;exact hK1 _ ⟨6,by omega,nC hn ht⟩ aO (by simp only;omega)
 .have hr:dC s=(⟨0,[]⟩,false):=by simp [dC,hn 1 (by omega) (by omega),hn 2 (by omega) (by omega),hn 3 (by omega) (by omega),hn 4 (by omega) (by omega),hn 5 (by omega) (by omega)]
  rw [hr];refine aZ ?_;exact aF results213
theorem rz [aC prog]:Ok prog 276 [.int .i64 1] (.str [119,114,105,116,101]):=by have c0:=jN 1 1 5;simp only [Int.reduceLE,BY,Fi] at c0;refine bO aD func276 ntmps276 ?_;refine aZ ?_;exact aF results276
theorem si [aC prog]:Ok prog 276 [.int .i64 2] (.str [97,100,100]):=by have c0:=jN 2 1 5;simp only [Int.reduceLE,BY,Fi] at c0;refine bO aD func276 ntmps276 ?_;refine aZ ?_;exact aF results276
theorem sj [aC prog]:Ok prog 276 [.int .i64 3] (.str [99,111,117,110,116]):=by have c0:=jN 3 1 5;simp only [Int.reduceLE,BY,Fi] at c0;refine bO aD func276 ntmps276 ?_;refine aZ ?_;exact aF results276
theorem su [aC prog]:Ok prog 276 [.int .i64 4] (.str [108,111,111,107]):=by have c0:=jN 4 1 5;simp only [Int.reduceLE,BY,Fi] at c0;refine bO aD func276 ntmps276 ?_;refine aZ ?_;exact aF results276
theorem sw [aC prog]:Ok prog 276 [.int .i64 5] (.str [115,97,121]):=by have c0:=jN 5 1 5;simp only [Int.reduceLE,BY,Fi] at c0;refine bO aD func276 ntmps276 ?_;refine aZ ?_;exact aF results276
theorem aO9 (op:Nat):∀x∈wd op,x≠32:=by
 have h:(wd op).all (λx=>decide (x≠32))=true:=by unfold wd;split<;>decide
 intro x hx;simpa using fW.1 h x hx
theorem aHu {s:bB} {op:Nat} (hk:iL 32 s < s.length) (hw:s.take (iL 32 s)=wd op):lL s op=some (⟨op,s.drop (iL 32 s+1)⟩,iI op (s.drop (iL 32 s+1))):=by
 have hL:(wd op).length=iL 32 s:=by rw [<-hw];simp;omega
 have h2:s.take ((wd op).length+1)=wd op++[32]:=by rw [hL,eK hk,hw,yj hk]
 rw [zA (by omega) h2,hL]
theorem aHv {s:bB} {op:Nat} (h:¬(iL 32 s < s.length/\s.take (iL 32 s)=wd op)):lL s op=none:=by
 refine pO λ⟨h1,h2⟩=>h ?_
 have hlt:(wd op).length < s.length:=by omega
 have ht:s.take (wd op).length=wd op:=by have:=An (List.take (wd op).length) h2;simpa [take_take] using this
 have hg:s[(wd op).length]=32:=by have:=An (λl=>l[(wd op).length]?) h2;simp only [hS (eE _),yW,sC] at this;rw [AM,eI (by omega),aE hlt] at this;exact cQ this
 have hi:iL 32 s=(wd op).length:=ll hlt hg (by rw [ht];exact aO9 op);rw [hi];exact ⟨hlt,ht⟩
theorem Bd {s:bB} (h:∀j,1<=j->j < 6->lL s j=none):dC s=(⟨0,[]⟩,false):=by simp [dC,h 1 (by omega) (by omega),h 2 (by omega) (by omega),h 3 (by omega) (by omega),h 4 (by omega) (by omega),h 5 (by omega) (by omega)]
def mG (p:jW×Bool):jW:=if p.2=true then p.1 else ⟨0,[]⟩
theorem XK [aC prog] (s:bB) (hl:s.length<=1099511627776):Ok prog 237 [.str s] (.gZ [.agg (lH (mG (dC s))),.bool (dC s).2]):=by
 have hC:=zK s 32 (by omega);have hle:=uX 32 s;have c1:=rz;have c2:=si;have c3:=sj;have c4:=su;have c5:=sw;have cN:=gQ (s.drop (iL 32 s+1)) (by simp;omega);have ht:∀op,iL 32 s < s.length->s.take (iL 32 s)=wd op->lL s op=some (⟨op,s.drop (iL 32 s+1)⟩,iI op (s.drop (iL 32 s+1))):=λop=>aHu
 have hf:∀op,¬(iL 32 s < s.length/\s.take (iL 32 s)=wd op)->lL s op=none:=λop=>aHv
 generalize iL 32 s=p at *;generalize aT4:s.take p=word at *;generalize aPa:s.drop (p+1)=text at *;have htl:text.length<=s.length:=by rw [<-aPa];simp
 refine bO aD func237 ntmps237 ?_;refine aZ ?_;refine aP (ι:={i:Nat // (1<=i/\i<=6)/\∀j,1<=j->j < i->lL s j=none}) (λt o i=>⟨bE t [(7,.int .i64 i.1),(8,.undef)],o⟩) (λi=>6 - i.1) ⟨1,by simp,λj h1 h2=>by omega⟩ aO ?_;rintro ⟨k,⟨hk,hk6⟩,hn⟩ K1 hK1;try simp only at hk hk6 hn
 simp only [bE,cW,cU] at hK1⊢;obtain rfl|rfl|rfl|rfl|rfl|rfl:k=1\/k=2\/k=3\/k=4\/k=5\/k=6:=by omega
 .by_cases hw:word=[119,114,105,116,101]
  .by_cases hp:p < s.length
   .have hr:dC s=(⟨1,text⟩,iI 1 text):=by simp [dC,ht 1 hp hw]
    rw [hr];rw [rL hp] at hC;clear hr hf ht hn;subst hw;by_cases h3:(text.length:Int)<=60
    .have hg:iI 1 text=true:=by simp [iI,EA];omega
     have h4:¬(60:Int) < (text.length:Int):=by omega
     rw [hg];have W:=aA hp (aA h3 h4);refine we ?_;all_goals try(refine aV ?_;simp [aH,results237,mG])
    .have hg:iI 1 text=false:=by simp [iI,EA];omega
     have h4:(60:Int) < (text.length:Int):=by omega
     rw [hg];have W:=aA hp (aA h3 h4);refine we ?_;all_goals try(refine aV ?_;simp [aH,results237,mG])
   .have hr:dC s=(⟨0,[]⟩,false):=Bd λj _ _=>hf j λh=>hp h.1
    rw [hr];rw [Ax hp] at hC;clear hr hf ht hn;subst hw;have Ya:s.length<=p:=by omega
    have W:=aA hp Ya;refine we ?_;all_goals try(refine aV ?_;simp [aH,results237,mG])
  .have hx:=hf 1 λh=>hw h.2
   have hb:(([119,114,105,116,101]:bB) == word)=false:=by simpa using λh=>hw h.symm
   have hw2:¬[119,114,105,116,101]=word:=λh=>hw h.symm
   clear hf ht;have W:=aA hw (aA hw2 hb);refine we ?_;exact hK1 _ ⟨2,by omega,nC hn hx⟩ aO (by simp only;omega)
 .by_cases hw:word=[97,100,100]
  .by_cases hp:p < s.length
   .have hr:dC s=(⟨2,text⟩,iI 2 text):=by simp [dC,hn 1 (by omega) (by omega),ht 2 hp hw]
    rw [hr];rw [rL hp] at hC;clear hr hf ht hn;subst hw;have hg:iI 2 text=dB text:=rfl;rw [hg];generalize dB text=b at *;cases b
    .have W:=hp;refine we ?_;all_goals try(refine aV ?_;simp [aH,results237,mG])
    .have W:=hp;refine we ?_;all_goals try(refine aV ?_;simp [aH,results237,mG])
   .have hr:dC s=(⟨0,[]⟩,false):=Bd λj _ _=>hf j λh=>hp h.1
    rw [hr];rw [Ax hp] at hC;clear hr hf ht hn;subst hw;have Ya:s.length<=p:=by omega
    have W:=aA hp Ya;refine we ?_;all_goals try(refine aV ?_;simp [aH,results237,mG])
  .have hx:=hf 2 λh=>hw h.2
   have hb:(([97,100,100]:bB) == word)=false:=by simpa using λh=>hw h.symm
   have hw2:¬[97,100,100]=word:=λh=>hw h.symm
   clear hf ht;have W:=aA hw (aA hw2 hb);refine we ?_;exact hK1 _ ⟨3,by omega,nC hn hx⟩ aO (by simp only;omega)
 .by_cases hw:word=[99,111,117,110,116]
  .by_cases hp:p < s.length
   .have hr:dC s=(⟨3,text⟩,iI 3 text):=by simp [dC,hn 1 (by omega) (by omega),hn 2 (by omega) (by omega),ht 3 hp hw]
    rw [hr];rw [rL hp] at hC;clear hr hf ht hn;subst hw;have hg:iI 3 text=dB text:=rfl;rw [hg];generalize dB text=b at *;cases b
    .have W:=hp;refine we ?_;all_goals try(refine aV ?_;simp [aH,results237,mG])
    .have W:=hp;refine we ?_;all_goals try(refine aV ?_;simp [aH,results237,mG])
   .have hr:dC s=(⟨0,[]⟩,false):=Bd λj _ _=>hf j λh=>hp h.1
    rw [hr];rw [Ax hp] at hC;clear hr hf ht hn;subst hw;have Ya:s.length<=p:=by omega
    have W:=aA hp Ya;refine we ?_;all_goals try(refine aV ?_;simp [aH,results237,mG])
  .have hx:=hf 3 λh=>hw h.2
   have hb:(([99,111,117,110,116]:bB) == word)=false:=by simpa using λh=>hw h.symm
   have hw2:¬[99,111,117,110,116]=word:=λh=>hw h.symm
   clear hf ht;have W:=aA hw (aA hw2 hb);refine we ?_;exact hK1 _ ⟨4,by omega,nC hn hx⟩ aO (by simp only;omega)
 .by_cases hw:word=[108,111,111,107]
  .by_cases hp:p < s.length
   .have hr:dC s=(⟨4,text⟩,iI 4 text):=by simp [dC,hn 1 (by omega) (by omega),hn 2 (by omega) (by omega),hn 3 (by omega) (by omega),ht 4 hp hw]
    rw [hr];rw [rL hp] at hC;clear hr hf ht hn;subst hw;have hg:iI 4 text=dB text:=rfl;rw [hg];generalize dB text=b at *;cases b
    .have W:=hp;refine we ?_;all_goals try(refine aV ?_;simp [aH,results237,mG])
    .have W:=hp;refine we ?_;all_goals try(refine aV ?_;simp [aH,results237,mG])
   .have hr:dC s=(⟨0,[]⟩,false):=Bd λj _ _=>hf j λh=>hp h.1
    rw [hr];rw [Ax hp] at hC;clear hr hf ht hn;subst hw;have Ya:s.length<=p:=by omega
    have W:=aA hp Ya;refine we ?_;all_goals try(refine aV ?_;simp [aH,results237,mG])
  .have hx:=hf 4 λh=>hw h.2
   have hb:(([108,111,111,107]:bB) == word)=false:=by simpa using λh=>hw h.symm
   have hw2:¬[108,111,111,107]=word:=λh=>hw h.symm
   clear hf ht;have W:=aA hw (aA hw2 hb);refine we ?_;exact hK1 _ ⟨5,by omega,nC hn hx⟩ aO (by simp only;omega)
 .by_cases hw:word=[115,97,121]
  .by_cases hp:p < s.length
   .have hr:dC s=(⟨5,text⟩,iI 5 text):=by simp [dC,hn 1 (by omega) (by omega),hn 2 (by omega) (by omega),hn 3 (by omega) (by omega),hn 4 (by omega) (by omega),ht 5 hp hw]
    rw [hr];rw [rL hp] at hC;clear hr hf ht hn;subst hw;by_cases h3:(text.length:Int)<=60
    .have hg:iI 5 text=true:=by simp [iI,EA];omega
     have h4:¬(60:Int) < (text.length:Int):=by omega
     rw [hg];have W:=aA hp (aA h3 h4);refine we ?_;all_goals try(refine aV ?_;simp [aH,results237,mG])
    .have hg:iI 5 text=false:=by simp [iI,EA];omega
     have h4:(60:Int) < (text.length:Int):=by omega
     rw [hg];have W:=aA hp (aA h3 h4);refine we ?_;all_goals try(refine aV ?_;simp [aH,results237,mG])
   .have hr:dC s=(⟨0,[]⟩,false):=Bd λj _ _=>hf j λh=>hp h.1
    rw [hr];rw [Ax hp] at hC;clear hr hf ht hn;subst hw;have Ya:s.length<=p:=by omega
    have W:=aA hp Ya;refine we ?_;all_goals try(refine aV ?_;simp [aH,results237,mG])
  .have hx:=hf 5 λh=>hw h.2
   have hb:(([115,97,121]:bB) == word)=false:=by simpa using λh=>hw h.symm
   have hw2:¬[115,97,121]=word:=λh=>hw h.symm
   clear hf ht;have W:=aA hw (aA hw2 hb);refine we ?_;exact hK1 _ ⟨6,by omega,nC hn hx⟩ aO (by simp only;omega)
 .have hr:dC s=(⟨0,[]⟩,false):=Bd λj h1 h2=>hn j h1 h2
  rw [hr];clear hr hf ht hn;refine aZ ?_;all_goals try(refine aV ?_;simp [aH,results237,mG])
theorem PW (c:UInt8):∀s:bB,∀p∈dG c s,p.length<=s.length
 |[],p,h=>by simp only [dG,pZ] at h;subst h;simp
 |x::s,p,h=>by
  have ih:=PW c s;simp only [dG] at h;split at h
  .rcases lE.1 h with rfl|h
   .simp
   .have:=ih p h;simp;omega
  .split at h
   .rename_i h0;exact absurd h0 (qL c s)
   .rename_i q r h0;rw [h0] at ih;rcases lE.1 h with rfl|h
    .have:=ih q (by simp);simp;omega
    .have:=ih p (by simp [h]);simp;omega
def gG (s:bB):List jW×Bool:=
 if s=[] then ([],true) else if ((dG 59 s).all λp=>(dC p).2)=true/\(dG 59 s).length<=6 then ((dG 59 s).map λp=>(dC p).1,true) else ([],false)
theorem Sc {s:bB} {k:Nat} (h0:s≠[]) (hk:k < (dG 59 s).length) (h:(dC (dG 59 s)[k]).2=false):gG s=([],false):=by unfold gG;rw [cX h0,cX];rintro ⟨h1,_⟩;have:=fW.1 h1 _ (fN hk);rw [h] at this;cases this
theorem Oa {s:bB} (h0:s≠[]) (h:6 < (dG 59 s).length):gG s=([],false):=by unfold gG;rw [cX h0,cX];rintro ⟨_,h1⟩;omega
theorem Ob {s:bB} (h0:s≠[]) (h1:∀p∈dG 59 s,(dC p).2=true) (h2:(dG 59 s).length<=6):gG s=((dG 59 s).map λp=>(dC p).1,true):=by unfold gG;rw [cX h0,eI ⟨fW.2 h1,h2⟩]
theorem Wi {l:List bB} {k:Nat} (hk:k < l.length) (h:∀p∈l.take k,(dC p).2=true) (h1:(dC l[k]).2=true):∀p∈l.take (k+1),(dC p).2=true:=by
 intro p hp;rw [eK hk] at hp;rcases fL.1 hp with hp|hp
 .exact h p hp
 .rw [pZ.1 hp];exact h1
theorem ZW {α β:Type} (f:α->β) (l:List α) (k:Nat) (h:k < l.length):(l.take (k+1)).map f=(l.take k).map f++[f l[k]]:=by rw [eK h,oS];rfl
def eSp (p:bB):List AV:=lH (dC p).1
theorem zo (l:List bB):(l.map λp=>(dC p).1).map lH=l.map eSp:=by rw [map_map];rfl
theorem Bz [aC prog] [bR prog] (s:bB) (hl:s.length<=1073741824):Ok prog 162 [.str s] (.gZ [.sl .own 2 ((gG s).1.map lH),.bool (gG s).2]):=by
 by_cases h0:s=[]
 .subst h0;have hr:gG []=([],true):=rfl;rw [hr];refine bO aD func162 ntmps162 ?_;refine aZ ?_;exact aF results162
 .have cS:Ok prog 97 [.str s,.int .u8 59] (.sl .own 1 ((dG 59 s).map dD)):=wX s 59 (by omega);have hb0:(s == ([]:bB))=false:=by simp [h0]
  have hle:=PW 59 s;have hn:=iW 59 s;have hcn:s.count 59<=s.length:=pD;have hb:=λk hk=>Sc (k:=k) h0 hk
  have ib:=Oa h0;have hgd:=Ob h0;have hne:=qL 59 s;generalize dG 59 s=l at *;have hll:l.length<=1073741825:=by omega
  have hl0:0 < l.length:=Cl.2 hne;generalize gG s=g at *;refine bO aD func162 ntmps162 ?_;have W:=aA h0 hb0;refine we ?_;refine aP (ι:={q:Nat×Nat // (q.1<=l.length/\1<=q.2)/\(∀p∈l.take q.1,(dC p).2=true)/\(0 < q.1->l.length<=6)}) (λt o i=>⟨bE t [(6,.int .i64 i.1.1),(4,.obj 0 i.1.2),(7,.undef),(8,.undef)],[⟨true,false,2,i.1.2,(l.take i.1.1).map eSp⟩]++o.drop 1⟩)
   (λi=>l.length - i.1.1) ⟨(0,1),by simp,by simp,by simp⟩ aO ?_
  rintro ⟨⟨k,v⟩,⟨hk,hv⟩,hgood,aHw⟩ K1 hK1;simp only at hk hv hgood aHw;simp only [bE,cW,cU,pB,AF,eA,eM] at hK1⊢;have hk1:=oW (k:=k);by_cases hlt:k < l.length
  .have hg:=aE hlt;have c1:=U0 l[k] (by have:=hle _ (fN hlt);omega);have hps:=ZW eSp l k hlt;have hx:eSp l[k]=lH (dC l[k]).1:=rfl;have Mc:((l.take k).map eSp).length=k:=by simp;omega
   have hbk:=hb k hlt;have DD:=Wi hlt hgood;simp only [lH] at c1;generalize (l.take k).map eSp=rows at *;generalize dC l[k]=x at *;obtain ⟨x,ok⟩:=x;simp only [lH] at c1 hbk DD hps hx;rw [hx] at hps;cases ok with
   |false=>have hr:=hbk rfl;subst hr;have W:=aA hk1 (aA hg hlt);refine we ?_;exact aF results162
   |true=>
    by_cases h6:6 < l.length
    .have hr:=ib h6;subst hr;have h6i:(6:Int) < (l.length:Int):=by omega
     have W:=aA hk1 (aA hg (aA hlt h6i));refine we ?_;exact aF results162
    .have h6i:¬(6:Int) < (l.length:Int):=by omega
     have W:=aA hk1 (aA hg (aA hlt (aA Mc h6i)));refine we ?_;all_goals exact hK1 _ ⟨(k+1,v+1),⟨by simp only;omega,by simp only;omega⟩,DD rfl,λ_=>by omega⟩ (aX 2 (by simp [hps])) (by simp only;omega)
  .have htk:l.take k=l:=cY (by omega);rw [htk] at hgood⊢;have hr:=hgd hgood (aHw (by omega));subst hr;simp only [zo];have W:=hk1;refine we ?_;all_goals try(refine aV ?_;simp [aH,results162])
   all_goals exact eT _ (by intro x;rfl) l
theorem ZX [aC prog] [bR prog] (s:bB) (c:UInt8) (hs:s.length < 4294967281):Ok prog 132 [.str s,.str [c]] (.sl .own 1 ((dG c s).map dD)):=QP Tryz.laysM146 (by kernel_rfl) s c hs
theorem BA [aC prog] [bR prog] (s:bB) (hl:s.length<=1073741824):Ok prog 191 [.str s] (.gZ [.sl .own 2 ((gG s).1.map lH),.bool (gG s).2]):=by
 by_cases h0:s=[]
 .subst h0;have hr:gG []=([],true):=rfl;rw [hr];refine bO aD func191 ntmps191 ?_;refine aZ ?_;exact aF results191
 .have cS:=ZX s 59 (by omega);have hb0:(s == ([]:bB))=false:=by simp [h0]
  have hle:=PW 59 s;have hn:=iW 59 s;have hcn:s.count 59<=s.length:=pD;have hb:=λk hk=>Sc (k:=k) h0 hk
  have ib:=Oa h0;have hgd:=Ob h0;have hne:=qL 59 s;generalize dG 59 s=l at *;have hll:l.length<=1073741825:=by omega
  have hl0:0 < l.length:=Cl.2 hne;generalize gG s=g at *;refine bO aD func191 ntmps191 ?_;have W:=aA h0 hb0;refine we ?_;refine aP (ι:={q:Nat×Nat // (q.1<=l.length/\1<=q.2)/\(∀p∈l.take q.1,(dC p).2=true)/\q.1<=6}) (λt o i=>⟨bE t [(16,.int .i64 i.1.1),(4,.obj 0 i.1.2),(6,.undef),(7,.undef),(8,.undef)],[⟨true,false,2,i.1.2,(l.take i.1.1).map eSp⟩]++o.drop 1⟩)
   (λi=>l.length - i.1.1) ⟨(0,1),by simp,by simp,by simp⟩ aO ?_
  rintro ⟨⟨k,v⟩,⟨hk,hv⟩,hgood,aHw⟩ K1 hK1;simp only at hk hv hgood aHw;simp only [bE,cW,cU,pB,AF,eA,eM] at hK1⊢;have hk1:=oW (k:=k);by_cases hlt:k < l.length
  .have hg:=aE hlt;have c1:=XK l[k] (by have:=hle _ (fN hlt);omega);have hps:=ZW eSp l k hlt;have hx:eSp l[k]=lH (dC l[k]).1:=rfl;have Mc:((l.take k).map eSp).length=k:=by simp;omega
   have hbk:=hb k hlt;have DD:=Wi hlt hgood;simp only [lH] at c1;generalize (l.take k).map eSp=rows at *;generalize dC l[k]=x at *;obtain ⟨x,ok⟩:=x;simp only [lH] at hbk DD hps hx;rw [hx] at hps;cases ok with
   |false=>have hr:=hbk rfl;subst hr;simp only [mG,lH,eS,hH] at c1;have W:=aA hk1 (aA hg hlt);refine we ?_;exact aF results191
   |true=>
    simp only [mG,lH,gO] at c1;by_cases h6:k=6
    .have hr:=ib (by omega);subst hr;have h6b:((k:Int) == 6)=true:=by simp;omega
     clear h6;have W:=aA hk1 (aA hg (aA hlt (aA Mc h6b)));refine we ?_;exact aF results191
    .have h6i:¬(k:Int)=6:=by omega
     have h6b:((k:Int) == 6)=false:=by simpa using h6i
     have W:=aA hk1 (aA hg (aA hlt (aA Mc (aA h6i h6b))));refine we ?_;all_goals exact hK1 _ ⟨(k+1,v+1),⟨by simp only;omega,by simp only;omega⟩,DD rfl,by simp only;omega⟩ (aX 2 (by simp [hps])) (by simp only;omega)
  .have htk:l.take k=l:=cY (by omega);rw [htk] at hgood⊢;have hr:=hgd hgood (by omega);subst hr;simp only [zo];have W:=hk1;refine we ?_;all_goals try(refine aV ?_;simp [aH,results191])
   all_goals exact eT _ (by intro x;rfl) l
end Go.Proofs.YtdcpobkemdacnaaGreatDoor
