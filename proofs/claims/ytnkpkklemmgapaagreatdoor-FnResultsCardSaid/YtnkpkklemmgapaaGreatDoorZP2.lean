/- Proved here: steps towards the statement of this claim. No condition. -/
import Derived.Test.YtnkpkklemmgapaaGreatDoorZQMK5
set_option linter.all false
set_option maxRecDepth 4000
set_option maxHeartbeats 4000000
namespace Go.Proofs.YtnkpkklemmgapaaGreatDoor
open Go.Aw Proofs.Tryz List IntKind
def wd:Nat->aU
 |1=>[119,114,105,116,101]
 |2=>[97,100,100]
 |3=>[99,111,117,110,116]
 |4=>[108,111,111,107]
 |5=>[115,97,121]
 |_=>[]
def Qf(op:Nat):Bool:=op == 1 || op == 5
def mV(op:Nat)(x:aU):Bool:=if Qf op=true then decide (x.length<=60)else dJ x
def mE(s:aU)(op:Nat):Option (kZ×Bool):=
 if (wd op).length+1<=s.length/\s.take ((wd op).length+1)=wd op++[32]then some (⟨op,s.drop ((wd op).length+1)⟩,mV op (s.drop ((wd op).length+1)))else none
def fT(s:aU):kZ×Bool:=((((mE s 1).or (mE s 2)).or (mE s 3)).or (mE s 4)).or (mE s 5) |>.getD (⟨0,[]⟩,false)
theorem jo[aB prog]:Ok prog 245 [] (.sl .own 1 [[.str []],[.str [119,114,105,116,101,32]],[.str [97,100,100,32]],[.str [99,111,117,110,116,32]],[.str [108,111,111,107,32]],[.str [115,97,121,32]]]):=by refine dL aO func245 ntmps245 ?_;refine dH ?_;exact aR results245
theorem pV{s:aU}{op:Nat}(h:¬((((wd op).length+1:Nat):Int)<=(s.length:Int)/\s.take ((wd op).length+1)=wd op++[32])):mE s op=none:=by unfold mE;rw[eK];rintro⟨h1,h2⟩;exact h ⟨by omega,h2⟩
theorem Ak{s:aU}{op:Nat}(h1:(((wd op).length+1:Nat):Int)<=(s.length:Int))(h2:s.take ((wd op).length+1)=wd op++[32]):mE s op=some (⟨op,s.drop ((wd op).length+1)⟩,mV op (s.drop ((wd op).length+1))):=by unfold mE;exact eW ⟨by omega,h2⟩
theorem rY{s:aU}{k:Nat}(hn:∀j,1<=j->j<k->mE s j=none)(h:mE s k=none):∀j,1<=j->j<k+1->mE s j=none:=by
 intro j h1 h2;rcases tA j k with h3|h3
 .exact hn j h1 h3
 .obtain rfl:j=k:=by omega
  exact h
theorem K5[aB prog](s:aU)(hl:s.length<=1099511627776):Ok prog 224 [.str s] (.iP [.agg (tC (fT s).1),.bool (fT s).2]):=by
 have c0:=jo;refine dL aO func224 ntmps224 ?_;refine dH ?_;refine aI (ι:={i:Nat // (1<=i/\i<=6)/\∀j,1<=j->j<i->mE s j=none}) (λt o i=>⟨bH t [(5,.int .i64 i.1)],o⟩) (λi=>6-i.1) ⟨1,by simp,λj h1 h2=>by omega⟩ aG ?_;rintro⟨k,⟨hk,hk6⟩,hn⟩ K1 hK1;try simp only at hk hk6 hn
 simp only[bH,cH,cJ]at hK1⊢;obtain rfl|rfl|rfl|rfl|rfl|rfl:k=1\/k=2\/k=3\/k=4\/k=5\/k=6:=by omega
 .by_cases h1:(6:Int)<=(s.length:Int)
  .have xk:((6:Nat):Int)<=(s.length:Int):=by omega
   by_cases h2:s.take 6=[119,114,105,116,101,32]
   .have ht:mE s 1=some (⟨1,s.drop 6⟩,mV 1 (s.drop 6)):=Ak (op:=1) xk h2;have hr:fT s=(⟨1,s.drop 6⟩,mV 1 (s.drop 6)):=by simp[fT,ht]
    rw[hr];clear hr ht hn xk;by_cases h3:((s.length-6:Nat):Int)<=60
    .have hg:mV 1 (s.drop 6)=true:=by simp[mV,Qf];omega
     rw[hg];have W:=aA h1 (aA h2 h3);refine we ?_;exact aR results224
    .have hg:mV 1 (s.drop 6)=false:=by simp[mV,Qf];omega
     rw[hg];have W:=aA h1 (aA h2 h3);refine we ?_;exact aR results224
   .have ht:mE s 1=none:=pV (op:=1) (λh=>h2 h.2)
    have hb:(s.take 6 == ([119,114,105,116,101,32]:aU))=false:=by simpa using h2
    have W:=aA h1 (aA h2 hb);refine we ?_;exact hK1 _ ⟨2,by omega,rY hn ht⟩ aG (by simp only;omega)
  .have ht:mE s 1=none:=pV (op:=1) (λh=>h1 (by have:=h.1;simp only[wd,dT,eR]at this;omega))
   have W:=h1;refine we ?_;exact hK1 _ ⟨2,by omega,rY hn ht⟩ aG (by simp only;omega)
 .by_cases h1:(4:Int)<=(s.length:Int)
  .have xk:((4:Nat):Int)<=(s.length:Int):=by omega
   by_cases h2:s.take 4=[97,100,100,32]
   .have ht:mE s 2=some (⟨2,s.drop 4⟩,mV 2 (s.drop 4)):=Ak (op:=2) xk h2;have hr:fT s=(⟨2,s.drop 4⟩,mV 2 (s.drop 4)):=by simp[fT,hn 1 (by omega) (by omega),ht]
    rw[hr];clear hr ht hn xk;have c1:=dZ (s.drop 4) (by simp;omega);have hg:mV 2 (s.drop 4)=dJ (s.drop 4):=rfl;rw[hg];generalize dJ (s.drop 4)=b at*;have W:=aA h1 h2;refine we ?_;exact aR results224
   .have ht:mE s 2=none:=pV (op:=2) (λh=>h2 h.2)
    have hb:(s.take 4 == ([97,100,100,32]:aU))=false:=by simpa using h2
    have W:=aA h1 (aA h2 hb);refine we ?_;exact hK1 _ ⟨3,by omega,rY hn ht⟩ aG (by simp only;omega)
  .have ht:mE s 2=none:=pV (op:=2) (λh=>h1 (by have:=h.1;simp only[wd,dT,eR]at this;omega))
   have W:=h1;refine we ?_;exact hK1 _ ⟨3,by omega,rY hn ht⟩ aG (by simp only;omega)
 .by_cases h1:(6:Int)<=(s.length:Int)
  .have xk:((6:Nat):Int)<=(s.length:Int):=by omega
   by_cases h2:s.take 6=[99,111,117,110,116,32]
   .have ht:mE s 3=some (⟨3,s.drop 6⟩,mV 3 (s.drop 6)):=Ak (op:=3) xk h2;have hr:fT s=(⟨3,s.drop 6⟩,mV 3 (s.drop 6)):=by simp[fT,hn 1 (by omega) (by omega),hn 2 (by omega) (by omega),ht]
    rw[hr];clear hr ht hn xk;have c1:=dZ (s.drop 6) (by simp;omega);have hg:mV 3 (s.drop 6)=dJ (s.drop 6):=rfl;rw[hg];generalize dJ (s.drop 6)=b at*;have W:=aA h1 h2;refine we ?_;exact aR results224
   .have ht:mE s 3=none:=pV (op:=3) (λh=>h2 h.2)
    have hb:(s.take 6 == ([99,111,117,110,116,32]:aU))=false:=by simpa using h2
    have W:=aA h1 (aA h2 hb);refine we ?_;exact hK1 _ ⟨4,by omega,rY hn ht⟩ aG (by simp only;omega)
  .have ht:mE s 3=none:=pV (op:=3) (λh=>h1 (by have:=h.1;simp only[wd,dT,eR]at this;omega))
   have W:=h1;refine we ?_;exact hK1 _ ⟨4,by omega,rY hn ht⟩ aG (by simp only;omega)
 .by_cases h1:(5:Int)<=(s.length:Int)
  .have xk:((5:Nat):Int)<=(s.length:Int):=by omega
   by_cases h2:s.take 5=[108,111,111,107,32]
   .have ht:mE s 4=some (⟨4,s.drop 5⟩,mV 4 (s.drop 5)):=Ak (op:=4) xk h2;have hr:fT s=(⟨4,s.drop 5⟩,mV 4 (s.drop 5)):=by simp[fT,hn 1 (by omega) (by omega),hn 2 (by omega) (by omega),hn 3 (by omega) (by omega),ht]
    rw[hr];clear hr ht hn xk;have c1:=dZ (s.drop 5) (by simp;omega);have hg:mV 4 (s.drop 5)=dJ (s.drop 5):=rfl;rw[hg];generalize dJ (s.drop 5)=b at*;have W:=aA h1 h2;refine we ?_;exact aR results224
   .have ht:mE s 4=none:=pV (op:=4) (λh=>h2 h.2)
    have hb:(s.take 5 == ([108,111,111,107,32]:aU))=false:=by simpa using h2
    have W:=aA h1 (aA h2 hb);refine we ?_;exact hK1 _ ⟨5,by omega,rY hn ht⟩ aG (by simp only;omega)
  .have ht:mE s 4=none:=pV (op:=4) (λh=>h1 (by have:=h.1;simp only[wd,dT,eR]at this;omega))
   have W:=h1;refine we ?_;exact hK1 _ ⟨5,by omega,rY hn ht⟩ aG (by simp only;omega)
 .by_cases h1:(4:Int)<=(s.length:Int)
  .have xk:((4:Nat):Int)<=(s.length:Int):=by omega
   by_cases h2:s.take 4=[115,97,121,32]
   .have ht:mE s 5=some (⟨5,s.drop 4⟩,mV 5 (s.drop 4)):=Ak (op:=5) xk h2;have hr:fT s=(⟨5,s.drop 4⟩,mV 5 (s.drop 4)):=by simp[fT,hn 1 (by omega) (by omega),hn 2 (by omega) (by omega),hn 3 (by omega) (by omega),hn 4 (by omega) (by omega),ht]
    rw[hr];clear hr ht hn xk;by_cases h3:((s.length-4:Nat):Int)<=60
    .have hg:mV 5 (s.drop 4)=true:=by simp[mV,Qf];omega
     rw[hg];have W:=aA h1 (aA h2 h3);refine we ?_;exact aR results224
    .have hg:mV 5 (s.drop 4)=false:=by simp[mV,Qf];omega
     rw[hg];have W:=aA h1 (aA h2 h3);refine we ?_;exact aR results224
   .have ht:mE s 5=none:=pV (op:=5) (λh=>h2 h.2)
    have hb:(s.take 4 == ([115,97,121,32]:aU))=false:=by simpa using h2
    have W:=aA h1 (aA h2 hb);refine we ?_;exact hK1 _ ⟨6,by omega,rY hn ht⟩ aG (by simp only;omega)
  .have ht:mE s 5=none:=pV (op:=5) (λh=>h1 (by have:=h.1;simp only[wd,dT,eR]at this;omega))
   have W:=h1;refine we ?_;exact hK1 _ ⟨6,by omega,rY hn ht⟩ aG (by simp only;omega)
 .have hr:fT s=(⟨0,[]⟩,false):=by simp[fT,hn 1 (by omega) (by omega),hn 2 (by omega) (by omega),hn 3 (by omega) (by omega),hn 4 (by omega) (by omega),hn 5 (by omega) (by omega)]
  rw[hr];refine dH ?_;exact aR results224
end Go.Proofs.YtnkpkklemmgapaaGreatDoor
