/- Proved here: steps towards the statement of this claim. No condition. -/
import Derived.Test.YthddijamfbfibaaGreatDoorZQR4
set_option linter.all false
set_option maxRecDepth 4000
set_option maxHeartbeats 4000000
namespace Go.Proofs.YthddijamfbfibaaGreatDoor
open Go.Aw Proofs.Tryz List IntKind
def wd:Nat->bB
 |1=>[119,114,105,116,101]
 |2=>[97,100,100]
 |3=>[99,111,117,110,116]
 |4=>[108,111,111,107]
 |5=>[115,97,121]
 |_=>[]
def Fs(op:Nat):Bool:=op == 1 || op == 5
def iG(op:Nat)(x:bB):Bool:=if Fs op=true then decide (x.length<=60)else cZ x
def lW(s:bB)(op:Nat):Option (jW×Bool):=
 if (wd op).length+1<=s.length/\s.take ((wd op).length+1)=wd op++[32]then some (⟨op,s.drop ((wd op).length+1)⟩,iG op (s.drop ((wd op).length+1)))else none
def dA(s:bB):jW×Bool:=((((lW s 1).or (lW s 2)).or (lW s 3)).or (lW s 4)).or (lW s 5) |>.getD (⟨0,[]⟩,false)
theorem L6[aB prog]:Ok prog 294 [] (.sl .own 1 [[.str []],[.str [119,114,105,116,101,32]],[.str [97,100,100,32]],[.str [99,111,117,110,116,32]],[.str [108,111,111,107,32]],[.str [115,97,121,32]]]):=by refine bM aG func294 ntmps294 ?_;refine aZ ?_;exact aF results294
theorem qH{s:bB}{op:Nat}(h:¬((((wd op).length+1:Nat):Int)<=(s.length:Int)/\s.take ((wd op).length+1)=wd op++[32])):lW s op=none:=by unfold lW;rw[cY];rintro⟨h1,h2⟩;exact h ⟨by omega,h2⟩
theorem zS{s:bB}{op:Nat}(h1:(((wd op).length+1:Nat):Int)<=(s.length:Int))(h2:s.take ((wd op).length+1)=wd op++[32]):lW s op=some (⟨op,s.drop ((wd op).length+1)⟩,iG op (s.drop ((wd op).length+1))):=by unfold lW;exact eK ⟨by omega,h2⟩
theorem nO{s:bB}{k:Nat}(hn:∀j,1<=j->j<k->lW s j=none)(h:lW s k=none):∀j,1<=j->j<k+1->lW s j=none:=by
 intro j h1 h2;rcases tD j k with h3|h3
 .exact hn j h1 h3
 .obtain rfl:j=k:=by omega
  exact h
theorem aCw[aB prog](s:bB)(hl:s.length<=1099511627776):Ok prog 243 [.str s] (.gM [.agg (lS (dA s).1),.bool (dA s).2]):=by
 have c0:=L6;refine bM aG func243 ntmps243 ?_;refine aZ ?_;refine aM (ι:={i:Nat // (1<=i/\i<=6)/\∀j,1<=j->j<i->lW s j=none}) (λt o i=>⟨bC t [(5,.int .i64 i.1)],o⟩) (λi=>6-i.1) ⟨1,by simp,λj h1 h2=>by omega⟩ aK ?_;rintro⟨k,⟨hk,hk6⟩,hn⟩ K1 hK1;try simp only at hk hk6 hn
 simp only[bC,cW,cU]at hK1⊢;obtain rfl|rfl|rfl|rfl|rfl|rfl:k=1\/k=2\/k=3\/k=4\/k=5\/k=6:=by omega
 .by_cases h1:(6:Int)<=(s.length:Int)
  .have Qw:((6:Nat):Int)<=(s.length:Int):=by omega
   by_cases h2:s.take 6=[119,114,105,116,101,32]
   .have ht:lW s 1=some (⟨1,s.drop 6⟩,iG 1 (s.drop 6)):=zS (op:=1) Qw h2;have hr:dA s=(⟨1,s.drop 6⟩,iG 1 (s.drop 6)):=by simp[dA,ht]
    rw[hr];clear hr ht hn Qw;by_cases h3:((s.length-6:Nat):Int)<=60
    .have hg:iG 1 (s.drop 6)=true:=by simp[iG,Fs];omega
     rw[hg];have W:=aA h1 (aA h2 h3);refine we ?_;exact aF results243
    .have hg:iG 1 (s.drop 6)=false:=by simp[iG,Fs];omega
     rw[hg];have W:=aA h1 (aA h2 h3);refine we ?_;exact aF results243
   .have ht:lW s 1=none:=qH (op:=1) (λh=>h2 h.2)
    have hb:(s.take 6 == ([119,114,105,116,101,32]:bB))=false:=by simpa using h2
    have W:=aA h1 (aA h2 hb);refine we ?_;exact hK1 _ ⟨2,by omega,nO hn ht⟩ aK (by simp only;omega)
  .have ht:lW s 1=none:=qH (op:=1) (λh=>h1 (by have:=h.1;simp only[wd,eN,eV]at this;omega))
   have W:=h1;refine we ?_;exact hK1 _ ⟨2,by omega,nO hn ht⟩ aK (by simp only;omega)
 .by_cases h1:(4:Int)<=(s.length:Int)
  .have Qw:((4:Nat):Int)<=(s.length:Int):=by omega
   by_cases h2:s.take 4=[97,100,100,32]
   .have ht:lW s 2=some (⟨2,s.drop 4⟩,iG 2 (s.drop 4)):=zS (op:=2) Qw h2;have hr:dA s=(⟨2,s.drop 4⟩,iG 2 (s.drop 4)):=by simp[dA,hn 1 (by omega) (by omega),ht]
    rw[hr];clear hr ht hn Qw;have c1:=fD (s.drop 4) (by simp;omega);have hg:iG 2 (s.drop 4)=cZ (s.drop 4):=rfl;rw[hg];generalize cZ (s.drop 4)=b at*;have W:=aA h1 h2;refine we ?_;exact aF results243
   .have ht:lW s 2=none:=qH (op:=2) (λh=>h2 h.2)
    have hb:(s.take 4 == ([97,100,100,32]:bB))=false:=by simpa using h2
    have W:=aA h1 (aA h2 hb);refine we ?_;exact hK1 _ ⟨3,by omega,nO hn ht⟩ aK (by simp only;omega)
  .have ht:lW s 2=none:=qH (op:=2) (λh=>h1 (by have:=h.1;simp only[wd,eN,eV]at this;omega))
   have W:=h1;refine we ?_;exact hK1 _ ⟨3,by omega,nO hn ht⟩ aK (by simp only;omega)
 .by_cases h1:(6:Int)<=(s.length:Int)
  .have Qw:((6:Nat):Int)<=(s.length:Int):=by omega
   by_cases h2:s.take 6=[99,111,117,110,116,32]
   .have ht:lW s 3=some (⟨3,s.drop 6⟩,iG 3 (s.drop 6)):=zS (op:=3) Qw h2;have hr:dA s=(⟨3,s.drop 6⟩,iG 3 (s.drop 6)):=by simp[dA,hn 1 (by omega) (by omega),hn 2 (by omega) (by omega),ht]
    rw[hr];clear hr ht hn Qw;have c1:=fD (s.drop 6) (by simp;omega);have hg:iG 3 (s.drop 6)=cZ (s.drop 6):=rfl;rw[hg];generalize cZ (s.drop 6)=b at*;have W:=aA h1 h2;refine we ?_;exact aF results243
   .have ht:lW s 3=none:=qH (op:=3) (λh=>h2 h.2)
    have hb:(s.take 6 == ([99,111,117,110,116,32]:bB))=false:=by simpa using h2
    have W:=aA h1 (aA h2 hb);refine we ?_;exact hK1 _ ⟨4,by omega,nO hn ht⟩ aK (by simp only;omega)
  .have ht:lW s 3=none:=qH (op:=3) (λh=>h1 (by have:=h.1;simp only[wd,eN,eV]at this;omega))
   have W:=h1;refine we ?_;exact hK1 _ ⟨4,by omega,nO hn ht⟩ aK (by simp only;omega)
 .by_cases h1:(5:Int)<=(s.length:Int)
  .have Qw:((5:Nat):Int)<=(s.length:Int):=by omega
   by_cases h2:s.take 5=[108,111,111,107,32]
   .have ht:lW s 4=some (⟨4,s.drop 5⟩,iG 4 (s.drop 5)):=zS (op:=4) Qw h2;have hr:dA s=(⟨4,s.drop 5⟩,iG 4 (s.drop 5)):=by simp[dA,hn 1 (by omega) (by omega),hn 2 (by omega) (by omega),hn 3 (by omega) (by omega),ht]
    rw[hr];clear hr ht hn Qw;have c1:=fD (s.drop 5) (by simp;omega);have hg:iG 4 (s.drop 5)=cZ (s.drop 5):=rfl;rw[hg];generalize cZ (s.drop 5)=b at*;have W:=aA h1 h2;refine we ?_;exact aF results243
   .have ht:lW s 4=none:=qH (op:=4) (λh=>h2 h.2)
    have hb:(s.take 5 == ([108,111,111,107,32]:bB))=false:=by simpa using h2
    have W:=aA h1 (aA h2 hb);refine we ?_;exact hK1 _ ⟨5,by omega,nO hn ht⟩ aK (by simp only;omega)
  .have ht:lW s 4=none:=qH (op:=4) (λh=>h1 (by have:=h.1;simp only[wd,eN,eV]at this;omega))
   have W:=h1;refine we ?_;exact hK1 _ ⟨5,by omega,nO hn ht⟩ aK (by simp only;omega)
 .by_cases h1:(4:Int)<=(s.length:Int)
  .have Qw:((4:Nat):Int)<=(s.length:Int):=by omega
   by_cases h2:s.take 4=[115,97,121,32]
   .have ht:lW s 5=some (⟨5,s.drop 4⟩,iG 5 (s.drop 4)):=zS (op:=5) Qw h2;have hr:dA s=(⟨5,s.drop 4⟩,iG 5 (s.drop 4)):=by simp[dA,hn 1 (by omega) (by omega),hn 2 (by omega) (by omega),hn 3 (by omega) (by omega),hn 4 (by omega) (by omega),ht]
    rw[hr];clear hr ht hn Qw;by_cases h3:((s.length-4:Nat):Int)<=60
    .have hg:iG 5 (s.drop 4)=true:=by simp[iG,Fs];omega
     rw[hg];have W:=aA h1 (aA h2 h3);refine we ?_;exact aF results243
    .have hg:iG 5 (s.drop 4)=false:=by simp[iG,Fs];omega
     rw[hg];have W:=aA h1 (aA h2 h3);refine we ?_;exact aF results243
   .have ht:lW s 5=none:=qH (op:=5) (λh=>h2 h.2)
    have hb:(s.take 4 == ([115,97,121,32]:bB))=false:=by simpa using h2
    have W:=aA h1 (aA h2 hb);refine we ?_;exact hK1 _ ⟨6,by omega,nO hn ht⟩ aK (by simp only;omega)
  .have ht:lW s 5=none:=qH (op:=5) (λh=>h1 (by have:=h.1;simp only[wd,eN,eV]at this;omega))
   have W:=h1;refine we ?_;exact hK1 _ ⟨6,by omega,nO hn ht⟩ aK (by simp only;omega)
 .have hr:dA s=(⟨0,[]⟩,false):=by simp[dA,hn 1 (by omega) (by omega),hn 2 (by omega) (by omega),hn 3 (by omega) (by omega),hn 4 (by omega) (by omega),hn 5 (by omega) (by omega)]
  rw[hr];refine aZ ?_;exact aF results243
end Go.Proofs.YthddijamfbfibaaGreatDoor
