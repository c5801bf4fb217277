/- Steps. No condition. -/
import Derived.Test.YtanobkmhbpjnpaaGreatDoorZQU3
set_option linter.all false
set_option maxRecDepth 4000
set_option maxHeartbeats 4000000
namespace Go.Proofs.YtanobkmhbpjnpaaGreatDoor
open Go.Aw Proofs.Tryz List IntKind
def wd:Nat->bE
 |1=>[119,114,105,116,101]
 |2=>[97,100,100]
 |3=>[99,111,117,110,116]
 |4=>[108,111,111,107]
 |5=>[115,97,121]
 |_=>[]
def FY(op:Nat):Bool:=op == 1 || op == 5
def jX(op:Nat)(x:bE):Bool:=if FY op=true then decide (x.length<=60)else dW x
def nT(s:bE)(op:Nat):Option (jV×Bool):=
 if (wd op).length+1<=s.length/\s.take ((wd op).length+1)=wd op++[32]then some (⟨op,s.drop ((wd op).length+1)⟩,jX op (s.drop ((wd op).length+1)))else none
def dV(s:bE):jV×Bool:=((((nT s 1).or (nT s 2)).or (nT s 3)).or (nT s 4)).or (nT s 5) |>.getD (⟨0,[]⟩,false)
def M7[aG prog]:Ok prog 218 [] (.sl .own 1 [[.str []],[.str [119,114,105,116,101,32]],[.str [97,100,100,32]],[.str [99,111,117,110,116,32]],[.str [108,111,111,107,32]],[.str [115,97,121,32]]]):=by refine dN aK func218 ntmps218 ?_;refine bK ?_;exact aO results218
def rV{s:bE}{op:Nat}(h:¬((((wd op).length+1:Nat):Int)<=(s.length:Int)/\s.take ((wd op).length+1)=wd op++[32])):nT s op=none:=by unfold nT;rw[eC];rintro⟨h1,h2⟩;exact h ⟨by omega,h2⟩
def AR{s:bE}{op:Nat}(h1:(((wd op).length+1:Nat):Int)<=(s.length:Int))(h2:s.take ((wd op).length+1)=wd op++[32]):nT s op=some (⟨op,s.drop ((wd op).length+1)⟩,jX op (s.drop ((wd op).length+1))):=by unfold nT;exact eM ⟨by omega,h2⟩
def pM{s:bE}{k:Nat}(hn:∀j,1<=j->j<k->nT s j=none)(h:nT s k=none):∀j,1<=j->j<k+1->nT s j=none:=by
 intro j h1 h2;rcases AM j k with h3|h3
 .exact hn j h1 h3
 .obtain rfl:j=k:=by omega
  exact h
def aC7[aG prog](s:bE)(hl:s.length<=1099511627776):Ok prog 164 [.str s] (.iL [.agg (nR (dV s).1),.bool (dV s).2]):=by
 have c0:=M7;refine dN aK func164 ntmps164 ?_;refine bK ?_;refine aT (ι:={i:Nat // (1<=i/\i<=6)/\∀j,1<=j->j<i->nT s j=none}) (λt o i=>⟨bP t [(5,.int .i64 i.1)],o⟩) (λi=>6-i.1) ⟨1,by simp,λj h1 h2=>by omega⟩ aP ?_;rintro⟨k,⟨hk,hk6⟩,hn⟩ K1 hK1;try simp only at hk hk6 hn
 simp only[bP,cH,cQ]at hK1⊢;obtain rfl|rfl|rfl|rfl|rfl|rfl:k=1\/k=2\/k=3\/k=4\/k=5\/k=6:=by omega
 .by_cases h1:(6:Int)<=(s.length:Int)
  .have QO:((6:Nat):Int)<=(s.length:Int):=by omega
   by_cases h2:s.take 6=[119,114,105,116,101,32]
   .have ht:nT s 1=some (⟨1,s.drop 6⟩,jX 1 (s.drop 6)):=AR (op:=1) QO h2;have hr:dV s=(⟨1,s.drop 6⟩,jX 1 (s.drop 6)):=by simp[dV,ht]
    rw[hr];clear hr ht hn QO;by_cases h3:((s.length-6:Nat):Int)<=60
    .have hg:jX 1 (s.drop 6)=true:=by simp[jX,FY];omega
     rw[hg];have W:=aA h1 (aA h2 h3);refine we ?_;exact aO results164
    .have hg:jX 1 (s.drop 6)=false:=by simp[jX,FY];omega
     rw[hg];have W:=aA h1 (aA h2 h3);refine we ?_;exact aO results164
   .have ht:nT s 1=none:=rV (op:=1) (λh=>h2 h.2)
    have hb:(s.take 6 == ([119,114,105,116,101,32]:bE))=false:=by simpa using h2
    have W:=aA h1 (aA h2 hb);refine we ?_;exact hK1 _ ⟨2,by omega,pM hn ht⟩ aP (by simp only;omega)
  .have ht:nT s 1=none:=rV (op:=1) (λh=>h1 (by have:=h.1;simp only[wd,eL,fL]at this;omega))
   have W:=h1;refine we ?_;exact hK1 _ ⟨2,by omega,pM hn ht⟩ aP (by simp only;omega)
 .by_cases h1:(4:Int)<=(s.length:Int)
  .have QO:((4:Nat):Int)<=(s.length:Int):=by omega
   by_cases h2:s.take 4=[97,100,100,32]
   .have ht:nT s 2=some (⟨2,s.drop 4⟩,jX 2 (s.drop 4)):=AR (op:=2) QO h2;have hr:dV s=(⟨2,s.drop 4⟩,jX 2 (s.drop 4)):=by simp[dV,hn 1 (by omega) (by omega),ht]
    rw[hr];clear hr ht hn QO;have c1:=gY (s.drop 4) (by simp;omega);have hg:jX 2 (s.drop 4)=dW (s.drop 4):=rfl;rw[hg];generalize dW (s.drop 4)=b at*;have W:=aA h1 h2;refine we ?_;exact aO results164
   .have ht:nT s 2=none:=rV (op:=2) (λh=>h2 h.2)
    have hb:(s.take 4 == ([97,100,100,32]:bE))=false:=by simpa using h2
    have W:=aA h1 (aA h2 hb);refine we ?_;exact hK1 _ ⟨3,by omega,pM hn ht⟩ aP (by simp only;omega)
  .have ht:nT s 2=none:=rV (op:=2) (λh=>h1 (by have:=h.1;simp only[wd,eL,fL]at this;omega))
   have W:=h1;refine we ?_;exact hK1 _ ⟨3,by omega,pM hn ht⟩ aP (by simp only;omega)
 .by_cases h1:(6:Int)<=(s.length:Int)
  .have QO:((6:Nat):Int)<=(s.length:Int):=by omega
   by_cases h2:s.take 6=[99,111,117,110,116,32]
   .have ht:nT s 3=some (⟨3,s.drop 6⟩,jX 3 (s.drop 6)):=AR (op:=3) QO h2;have hr:dV s=(⟨3,s.drop 6⟩,jX 3 (s.drop 6)):=by simp[dV,hn 1 (by omega) (by omega),hn 2 (by omega) (by omega),ht]
    rw[hr];clear hr ht hn QO;have c1:=gY (s.drop 6) (by simp;omega);have hg:jX 3 (s.drop 6)=dW (s.drop 6):=rfl;rw[hg];generalize dW (s.drop 6)=b at*;have W:=aA h1 h2;refine we ?_;exact aO results164
   .have ht:nT s 3=none:=rV (op:=3) (λh=>h2 h.2)
    have hb:(s.take 6 == ([99,111,117,110,116,32]:bE))=false:=by simpa using h2
    have W:=aA h1 (aA h2 hb);refine we ?_;exact hK1 _ ⟨4,by omega,pM hn ht⟩ aP (by simp only;omega)
  .have ht:nT s 3=none:=rV (op:=3) (λh=>h1 (by have:=h.1;simp only[wd,eL,fL]at this;omega))
   have W:=h1;refine we ?_;exact hK1 _ ⟨4,by omega,pM hn ht⟩ aP (by simp only;omega)
 .by_cases h1:(5:Int)<=(s.length:Int)
  .have QO:((5:Nat):Int)<=(s.length:Int):=by omega
   by_cases h2:s.take 5=[108,111,111,107,32]
   .have ht:nT s 4=some (⟨4,s.drop 5⟩,jX 4 (s.drop 5)):=AR (op:=4) QO h2;have hr:dV s=(⟨4,s.drop 5⟩,jX 4 (s.drop 5)):=by simp[dV,hn 1 (by omega) (by omega),hn 2 (by omega) (by omega),hn 3 (by omega) (by omega),ht]
    rw[hr];clear hr ht hn QO;have c1:=gY (s.drop 5) (by simp;omega);have hg:jX 4 (s.drop 5)=dW (s.drop 5):=rfl;rw[hg];generalize dW (s.drop 5)=b at*;have W:=aA h1 h2;refine we ?_;exact aO results164
   .have ht:nT s 4=none:=rV (op:=4) (λh=>h2 h.2)
    have hb:(s.take 5 == ([108,111,111,107,32]:bE))=false:=by simpa using h2
    have W:=aA h1 (aA h2 hb);refine we ?_;exact hK1 _ ⟨5,by omega,pM hn ht⟩ aP (by simp only;omega)
  .have ht:nT s 4=none:=rV (op:=4) (λh=>h1 (by have:=h.1;simp only[wd,eL,fL]at this;omega))
   have W:=h1;refine we ?_;exact hK1 _ ⟨5,by omega,pM hn ht⟩ aP (by simp only;omega)
 .by_cases h1:(4:Int)<=(s.length:Int)
  .have QO:((4:Nat):Int)<=(s.length:Int):=by omega
   by_cases h2:s.take 4=[115,97,121,32]
   .have ht:nT s 5=some (⟨5,s.drop 4⟩,jX 5 (s.drop 4)):=AR (op:=5) QO h2;have hr:dV s=(⟨5,s.drop 4⟩,jX 5 (s.drop 4)):=by simp[dV,hn 1 (by omega) (by omega),hn 2 (by omega) (by omega),hn 3 (by omega) (by omega),hn 4 (by omega) (by omega),ht]
    rw[hr];clear hr ht hn QO;by_cases h3:((s.length-4:Nat):Int)<=60
    .have hg:jX 5 (s.drop 4)=true:=by simp[jX,FY];omega
     rw[hg];have W:=aA h1 (aA h2 h3);refine we ?_;exact aO results164
    .have hg:jX 5 (s.drop 4)=false:=by simp[jX,FY];omega
     rw[hg];have W:=aA h1 (aA h2 h3);refine we ?_;exact aO results164
   .have ht:nT s 5=none:=rV (op:=5) (λh=>h2 h.2)
    have hb:(s.take 4 == ([115,97,121,32]:bE))=false:=by simpa using h2
    have W:=aA h1 (aA h2 hb);refine we ?_;exact hK1 _ ⟨6,by omega,pM hn ht⟩ aP (by simp only;omega)
  .have ht:nT s 5=none:=rV (op:=5) (λh=>h1 (by have:=h.1;simp only[wd,eL,fL]at this;omega))
   have W:=h1;refine we ?_;exact hK1 _ ⟨6,by omega,pM hn ht⟩ aP (by simp only;omega)
 .have hr:dV s=(⟨0,[]⟩,false):=by simp[dV,hn 1 (by omega) (by omega),hn 2 (by omega) (by omega),hn 3 (by omega) (by omega),hn 4 (by omega) (by omega),hn 5 (by omega) (by omega)]
  rw[hr];refine bK ?_;exact aO results164
end Go.Proofs.YtanobkmhbpjnpaaGreatDoor
