/- Proved here: steps towards the statement of this claim. No condition. -/
import Derived.Test.YtjmpjmilndkgfaaGreatDoorZP1
set_option linter.all false
set_option maxRecDepth 4000
set_option maxHeartbeats 4000000
namespace Go.Proofs.YtjmpjmilndkgfaaGreatDoor
open Go.Aw Proofs.Tryz List IntKind
def wd:Nat->bF
 |1=>[119,114,105,116,101]
 |2=>[97,100,100]
 |3=>[99,111,117,110,116]
 |4=>[108,111,111,107]
 |5=>[115,97,121]
 |_=>[]
def Eh (op:Nat):Bool:=op == 1 || op == 5
def iG (op:Nat) (x:bF):Bool:=if Eh op=true then decide (x.length<=60) else dA x
def lK (s:bF) (op:Nat):Option (jP×Bool):=
 if (wd op).length+1<=s.length/\s.take ((wd op).length+1)=wd op++[32] then some (⟨op,s.drop ((wd op).length+1)⟩,iG op (s.drop ((wd op).length+1))) else none
def cZ (s:bF):jP×Bool:=((((lK s 1).or (lK s 2)).or (lK s 3)).or (lK s 4)).or (lK s 5) |>.getD (⟨0,[]⟩,false)
theorem ou [aC prog]:Ok prog 257 [] (.sl .own 1 [[.str []],[.str [119,114,105,116,101,32]],[.str [97,100,100,32]],[.str [99,111,117,110,116,32]],[.str [108,111,111,107,32]],[.str [115,97,121,32]]]):=by refine bR aD func257 ntmps257 ?_;refine bH ?_;exact aK results257
theorem oK {s:bF} {op:Nat} (h:¬((((wd op).length+1:Nat):Int)<=(s.length:Int)/\s.take ((wd op).length+1)=wd op++[32])):lK s op=none:=by unfold lK;rw [cY];rintro ⟨h1,h2⟩;exact h ⟨by omega,h2⟩
theorem yI {s:bF} {op:Nat} (h1:(((wd op).length+1:Nat):Int)<=(s.length:Int)) (h2:s.take ((wd op).length+1)=wd op++[32]):lK s op=some (⟨op,s.drop ((wd op).length+1)⟩,iG op (s.drop ((wd op).length+1))):=by unfold lK;exact eK ⟨by omega,h2⟩
theorem mY {s:bF} {k:Nat} (hn:∀j,1<=j->j < k->lK s j=none) (h:lK s k=none):∀j,1<=j->j < k+1->lK s j=none:=by
 intro j h1 h2;rcases yW j k with h3|h3
 .exact hn j h1 h3
 .obtain rfl:j=k:=by omega
  exact h
theorem O4 [aC prog] (s:bF) (hl:s.length<=1099511627776):Ok prog 210 [.str s] (.iJ [.agg (lJ (cZ s).1),.bool (cZ s).2]):=by
 have c0:=ou;refine bR aD func210 ntmps210 ?_;refine bH ?_;refine aL (ι:={i:Nat // (1<=i/\i<=6)/\∀j,1<=j->j < i->lK s j=none}) (λt o i=>⟨bD t [(5,.int .i64 i.1)],o⟩) (λi=>6 - i.1) ⟨1,by simp,λj h1 h2=>by omega⟩ aH ?_;rintro ⟨k,⟨hk,hk6⟩,hn⟩ K1 hK1;try simp only at hk hk6 hn
 simp only [bD,cW,cU] at hK1⊢;obtain rfl|rfl|rfl|rfl|rfl|rfl:k=1\/k=2\/k=3\/k=4\/k=5\/k=6:=by omega
 .by_cases h1:(6:Int)<=(s.length:Int)
  .have NQ:((6:Nat):Int)<=(s.length:Int):=by omega
   by_cases h2:s.take 6=[119,114,105,116,101,32]
   .have ht:lK s 1=some (⟨1,s.drop 6⟩,iG 1 (s.drop 6)):=yI (op:=1) NQ h2;have hr:cZ s=(⟨1,s.drop 6⟩,iG 1 (s.drop 6)):=by simp [cZ,ht]
    rw [hr];clear hr ht hn NQ;by_cases h3:((s.length - 6:Nat):Int)<=60
    .have hg:iG 1 (s.drop 6)=true:=by simp [iG,Eh];omega
     rw [hg];have W:=aA h1 (aA h2 h3);refine we ?_;exact aK results210
    .have hg:iG 1 (s.drop 6)=false:=by simp [iG,Eh];omega
     rw [hg];have W:=aA h1 (aA h2 h3);refine we ?_;exact aK results210
   .have ht:lK s 1=none:=oK (op:=1) (λh=>h2 h.2)
    have hb:(s.take 6 == ([119,114,105,116,101,32]:bF))=false:=by simpa using h2
    have W:=aA h1 (aA h2 hb);refine we ?_;exact hK1 _ ⟨2,by omega,mY hn ht⟩ aH (by simp only;omega)
  .have ht:lK s 1=none:=oK (op:=1) (λh=>h1 (by have:=h.1;simp only [wd,eL,eW] at this;omega))
   have W:=h1;refine we ?_;exact hK1 _ ⟨2,by omega,mY hn ht⟩ aH (by simp only;omega)
 .by_cases h1:(4:Int)<=(s.length:Int)
  .have NQ:((4:Nat):Int)<=(s.length:Int):=by omega
   by_cases h2:s.take 4=[97,100,100,32]
   .have ht:lK s 2=some (⟨2,s.drop 4⟩,iG 2 (s.drop 4)):=yI (op:=2) NQ h2;have hr:cZ s=(⟨2,s.drop 4⟩,iG 2 (s.drop 4)):=by simp [cZ,hn 1 (by omega) (by omega),ht]
    rw [hr];clear hr ht hn NQ;have c1:=fU (s.drop 4) (by simp;omega);have hg:iG 2 (s.drop 4)=dA (s.drop 4):=rfl;rw [hg];generalize dA (s.drop 4)=b at *;have W:=aA h1 h2;refine we ?_;exact aK results210
   .have ht:lK s 2=none:=oK (op:=2) (λh=>h2 h.2)
    have hb:(s.take 4 == ([97,100,100,32]:bF))=false:=by simpa using h2
    have W:=aA h1 (aA h2 hb);refine we ?_;exact hK1 _ ⟨3,by omega,mY hn ht⟩ aH (by simp only;omega)
  .have ht:lK s 2=none:=oK (op:=2) (λh=>h1 (by have:=h.1;simp only [wd,eL,eW] at this;omega))
   have W:=h1;refine we ?_;exact hK1 _ ⟨3,by omega,mY hn ht⟩ aH (by simp only;omega)
 .by_cases h1:(6:Int)<=(s.length:Int)
  .have NQ:((6:Nat):Int)<=(s.length:Int):=by omega
   by_cases h2:s.take 6=[99,111,117,110,116,32]
   .have ht:lK s 3=some (⟨3,s.drop 6⟩,iG 3 (s.drop 6)):=yI (op:=3) NQ h2;have hr:cZ s=(⟨3,s.drop 6⟩,iG 3 (s.drop 6)):=by simp [cZ,hn 1 (by omega) (by omega),hn 2 (by omega) (by omega),ht]
    rw [hr];clear hr ht hn NQ;have c1:=fU (s.drop 6) (by simp;omega);have hg:iG 3 (s.drop 6)=dA (s.drop 6):=rfl;rw [hg];generalize dA (s.drop 6)=b at *;have W:=aA h1 h2;refine we ?_;exact aK results210
   .have ht:lK s 3=none:=oK (op:=3) (λh=>h2 h.2)
    have hb:(s.take 6 == ([99,111,117,110,116,32]:bF))=false:=by simpa using h2
    have W:=aA h1 (aA h2 hb);refine we ?_;exact hK1 _ ⟨4,by omega,mY hn ht⟩ aH (by simp only;omega)
  .have ht:lK s 3=none:=oK (op:=3) (λh=>h1 (by have:=h.1;simp only [wd,eL,eW] at this;omega))
   have W:=h1;refine we ?_;exact hK1 _ ⟨4,by omega,mY hn ht⟩ aH (by simp only;omega)
 .by_cases h1:(5:Int)<=(s.length:Int)
  .have NQ:((5:Nat):Int)<=(s.length:Int):=by omega
   by_cases h2:s.take 5=[108,111,111,107,32]
   .have ht:lK s 4=some (⟨4,s.drop 5⟩,iG 4 (s.drop 5)):=yI (op:=4) NQ h2;have hr:cZ s=(⟨4,s.drop 5⟩,iG 4 (s.drop 5)):=by simp [cZ,hn 1 (by omega) (by omega),hn 2 (by omega) (by omega),hn 3 (by omega) (by omega),ht]
    rw [hr];clear hr ht hn NQ;have c1:=fU (s.drop 5) (by simp;omega);have hg:iG 4 (s.drop 5)=dA (s.drop 5):=rfl;rw [hg];generalize dA (s.drop 5)=b at *;have W:=aA h1 h2;refine we ?_;exact aK results210
   .have ht:lK s 4=none:=oK (op:=4) (λh=>h2 h.2)
    have hb:(s.take 5 == ([108,111,111,107,32]:bF))=false:=by simpa using h2
    have W:=aA h1 (aA h2 hb);refine we ?_;exact hK1 _ ⟨5,by omega,mY hn ht⟩ aH (by simp only;omega)
  .have ht:lK s 4=none:=oK (op:=4) (λh=>h1 (by have:=h.1;simp only [wd,eL,eW] at this;omega))
   have W:=h1;refine we ?_;exact hK1 _ ⟨5,by omega,mY hn ht⟩ aH (by simp only;omega)
 .by_cases h1:(4:Int)<=(s.length:Int)
  .have NQ:((4:Nat):Int)<=(s.length:Int):=by omega
   by_cases h2:s.take 4=[115,97,121,32]
   .have ht:lK s 5=some (⟨5,s.drop 4⟩,iG 5 (s.drop 4)):=yI (op:=5) NQ h2;have hr:cZ s=(⟨5,s.drop 4⟩,iG 5 (s.drop 4)):=by simp [cZ,hn 1 (by omega) (by omega),hn 2 (by omega) (by omega),hn 3 (by omega) (by omega),hn 4 (by omega) (by omega),ht]
    rw [hr];clear hr ht hn NQ;by_cases h3:((s.length - 4:Nat):Int)<=60
    .have hg:iG 5 (s.drop 4)=true:=by simp [iG,Eh];omega
     rw [hg];have W:=aA h1 (aA h2 h3);refine we ?_;exact aK results210
    .have hg:iG 5 (s.drop 4)=false:=by simp [iG,Eh];omega
     rw [hg];have W:=aA h1 (aA h2 h3);refine we ?_;exact aK results210
   .have ht:lK s 5=none:=oK (op:=5) (λh=>h2 h.2)
    have hb:(s.take 4 == ([115,97,121,32]:bF))=false:=by simpa using h2
    have W:=aA h1 (aA h2 hb);refine we ?_;exact hK1 _ ⟨6,by omega,mY hn ht⟩ aH (by simp only;omega)
  .have ht:lK s 5=none:=oK (op:=5) (λh=>h1 (by have:=h.1;simp only [wd,eL,eW] at this;omega))
   have W:=h1;refine we ?_;exact hK1 _ ⟨6,by omega,mY hn ht⟩ aH (by simp only;omega)
 .have hr:cZ s=(⟨0,[]⟩,false):=by simp [cZ,hn 1 (by omega) (by omega),hn 2 (by omega) (by omega),hn 3 (by omega) (by omega),hn 4 (by omega) (by omega),hn 5 (by omega) (by omega)]
  rw [hr];refine bH ?_;exact aK results210
end Go.Proofs.YtjmpjmilndkgfaaGreatDoor
