/- Proved here: steps towards the statement of this claim. No condition. -/
import Derived.Test.YtjmpjmilndkgfaaGreatDoorZQRLia
import Derived.Test.YtjmpjmilndkgfaaGreatDoorZQRLic
import Derived.Test.YtjmpjmilndkgfaaGreatDoorZQS2
set_option linter.all false
set_option maxRecDepth 4000
set_option maxHeartbeats 4000000
namespace Go.Proofs.YtjmpjmilndkgfaaGreatDoor
open Go.Aw Proofs.Tryz List IntKind
theorem aDj [aC prog] [eH prog] (b:bC) (ss:List gP) (x:jP) (hs:aP b<=274877906944) (hx:x.text.length<=268435456) (hl:ss.length<=1099511627776) (hr:∀x∈ss,x.rules.length<=1099511627776) (vM:∀n,0<=bJ ss n/\bJ ss n<=999) (hop:x.op=2):
  Ok prog 266 [.agg (aS .view b),.sl .view 1 (ss.map (eG .view)),.agg (lJ x)] (.iJ [.agg (aS .own (bX b ss x).1),.str (bX b ss x).2.1,.str (bX b ss x).2.2]):=by
 have c1:=kR b hs;have hn:b.nodes.length<=274877906944:=by simp only [aP,bV] at hs;omega
 obtain ⟨op,tx⟩:=x;simp only at hx hop;have c2:=pE tx (by omega);have c3:=nY b tx (by omega);have c4:=qV ss tx hl hr;have c5:=gZ tx (by omega);have c6:=jT (b.nodes.length:Int) 1 39;have hcn:0<=aX b tx/\aX b tx<=(b.nodes.length:Int):=by unfold aX;have:=oB (λx:gF=>decide (x.name=tx)) b.nodes;omega
 have Ti:=vM tx;have c7:=fQ (aX b tx) (by omega);have c8:=fQ (bJ ss tx) (by omega);have z7:=iM (aX b tx) (by omega) (by omega);have z8:=iM (bJ ss tx) (by omega) (by omega);simp only [aS] at c1 c3;clear hr vM;simp only [bX,wZ,Cf,JU];generalize Lib.itoa (aX b tx)=i7 at *;generalize Lib.itoa (bJ ss tx)=i8 at *;generalize aX b tx=cn at *;generalize bJ ss tx=cc at *;subst hop;rw [cY (by decide),eK rfl];by_cases hc:(1<=b.nodes.length/\b.nodes.length<=39)/\dA tx=true
 .rw [eK hc];rw [show (decide ((1:Int)<=(b.nodes.length:Int))&&decide ((b.nodes.length:Int)<=39))=true from by simp;omega] at c6;rw [hc.2] at c5;obtain ⟨l0,hl0⟩:∃l,l=b.nodes++[(⟨tx,[],0,[]⟩:gF)]:=⟨_,rfl⟩;have hap:b.nodes.map (dE .own)++[[.str tx,.str [],.int .i64 0,.sl .own 2 []]]=l0.map (dE .own):=by rw [hl0];simp
  rw [<-hl0];clear hl0 hc;refine bR aD func266 ntmps266 ?_;have W:=aA hap hn;refine we ?_;exact aK results266
 .rw [cY hc];by_cases hc1:1<=b.nodes.length/\b.nodes.length<=39
  .have XC:dA tx=false:=by
    cases h:dA tx with
    |false=>rfl
    |true=>exact absurd ⟨hc1,h⟩ hc
   rw [show (decide ((1:Int)<=(b.nodes.length:Int))&&decide ((b.nodes.length:Int)<=39))=true from by simp;omega] at c6;rw [XC] at c5;clear hc;refine bR aD func266 ntmps266 ?_;refine bH ?_;exact aK results266
  .rw [show (decide ((1:Int)<=(b.nodes.length:Int))&&decide ((b.nodes.length:Int)<=39))=false from by simp;omega] at c6;clear hc;refine bR aD func266 ntmps266 ?_;refine bH ?_;exact aK results266
theorem aDk [aC prog] [eH prog] (b:bC) (ss:List gP) (x:jP) (hs:aP b<=274877906944) (hx:x.text.length<=268435456) (hl:ss.length<=1099511627776) (hr:∀x∈ss,x.rules.length<=1099511627776) (vM:∀n,0<=bJ ss n/\bJ ss n<=999) (hop:¬x.op=1/\¬x.op=2/\¬x.op=3/\¬x.op=4/\¬x.op=5):
  Ok prog 266 [.agg (aS .view b),.sl .view 1 (ss.map (eG .view)),.agg (lJ x)] (.iJ [.agg (aS .own (bX b ss x).1),.str (bX b ss x).2.1,.str (bX b ss x).2.2]):=by
 have c1:=kR b hs;have hn:b.nodes.length<=274877906944:=by simp only [aP,bV] at hs;omega
 obtain ⟨op,tx⟩:=x;simp only at hx hop;have c2:=pE tx (by omega);have c3:=nY b tx (by omega);have c4:=qV ss tx hl hr;have c5:=gZ tx (by omega);have c6:=jT (b.nodes.length:Int) 1 39;have hcn:0<=aX b tx/\aX b tx<=(b.nodes.length:Int):=by unfold aX;have:=oB (λx:gF=>decide (x.name=tx)) b.nodes;omega
 have Ti:=vM tx;have c7:=fQ (aX b tx) (by omega);have c8:=fQ (bJ ss tx) (by omega);have z7:=iM (aX b tx) (by omega) (by omega);have z8:=iM (bJ ss tx) (by omega) (by omega);simp only [aS] at c1 c3;clear hr vM;simp only [bX,wZ,Cf,JU];generalize Lib.itoa (aX b tx)=i7 at *;generalize Lib.itoa (bJ ss tx)=i8 at *;generalize aX b tx=cn at *;generalize bJ ss tx=cc at *;obtain ⟨h1,h2,h3,h4,h5⟩:=hop;rw [cY h1,cY h2,cY h3,cY h4,cY h5];refine bR aD func266 ntmps266 ?_;have W:=aA h1 (aA h2 (aA h3 (aA h4 h5)));refine we ?_;exact aK results266
theorem aDq [aC prog] [eH prog] (b:bC) (ss:List gP) (x:jP) (hs:aP b<=274877906944) (hx:x.text.length<=268435456) (hl:ss.length<=1099511627776) (hr:∀x∈ss,x.rules.length<=1099511627776) (vM:∀n,0<=bJ ss n/\bJ ss n<=999) (hop:x.op=2):
  Ok prog 211 [.agg (aS .view b),.sl .view 1 (ss.map (eG .view)),.agg (lJ x)] (.iJ [.agg (aS .own (bX b ss x).1),.str (bX b ss x).2.1,.str (bX b ss x).2.2]):=by
 have c1:=kU b hs;have hn:b.nodes.length<=274877906944:=by simp only [aP,bV] at hs;omega
 obtain ⟨op,tx⟩:=x;simp only at hx hop;have c2:=pF tx (by omega);have c3:=nZ b tx (by omega);have c4:=qW ss tx hl hr;have c5:=fU tx (by omega);have c6:=gM (b.nodes.length:Int) 1 39;have hcn:0<=aX b tx/\aX b tx<=(b.nodes.length:Int):=by unfold aX;have:=oB (λx:gF=>decide (x.name=tx)) b.nodes;omega
 have Ti:=vM tx;have c7:=fT (aX b tx) (by omega);have c8:=fT (bJ ss tx) (by omega);have z7:=iM (aX b tx) (by omega) (by omega);have z8:=iM (bJ ss tx) (by omega) (by omega);simp only [aS] at c1 c3;clear hr vM;simp only [bX,wZ,Cf,JU];generalize Lib.itoa (aX b tx)=i7 at *;generalize Lib.itoa (bJ ss tx)=i8 at *;generalize aX b tx=cn at *;generalize bJ ss tx=cc at *;subst hop;rw [cY (by decide),eK rfl];by_cases hc:(1<=b.nodes.length/\b.nodes.length<=39)/\dA tx=true
 .rw [eK hc];rw [show (decide ((1:Int)<=(b.nodes.length:Int))&&decide ((b.nodes.length:Int)<=39))=true from by simp;omega] at c6;rw [hc.2] at c5;obtain ⟨l0,hl0⟩:∃l,l=b.nodes++[(⟨tx,[],0,[]⟩:gF)]:=⟨_,rfl⟩;have hap:b.nodes.map (dE .own)++[[.str tx,.str [],.int .i64 0,.sl .own 2 []]]=l0.map (dE .own):=by rw [hl0];simp
  rw [<-hl0];clear hl0 hc;refine bR aD func211 ntmps211 ?_;have W:=aA hap hn;refine we ?_;exact aK results211
 .rw [cY hc];by_cases hc1:1<=b.nodes.length/\b.nodes.length<=39
  .have XC:dA tx=false:=by
    cases h:dA tx with
    |false=>rfl
    |true=>exact absurd ⟨hc1,h⟩ hc
   rw [show (decide ((1:Int)<=(b.nodes.length:Int))&&decide ((b.nodes.length:Int)<=39))=true from by simp;omega] at c6;rw [XC] at c5;clear hc;refine bR aD func211 ntmps211 ?_;refine bH ?_;exact aK results211
  .rw [show (decide ((1:Int)<=(b.nodes.length:Int))&&decide ((b.nodes.length:Int)<=39))=false from by simp;omega] at c6;clear hc;refine bR aD func211 ntmps211 ?_;refine bH ?_;exact aK results211
theorem aDr [aC prog] [eH prog] (b:bC) (ss:List gP) (x:jP) (hs:aP b<=274877906944) (hx:x.text.length<=268435456) (hl:ss.length<=1099511627776) (hr:∀x∈ss,x.rules.length<=1099511627776) (vM:∀n,0<=bJ ss n/\bJ ss n<=999) (hop:¬x.op=1/\¬x.op=2/\¬x.op=3/\¬x.op=4/\¬x.op=5):
  Ok prog 211 [.agg (aS .view b),.sl .view 1 (ss.map (eG .view)),.agg (lJ x)] (.iJ [.agg (aS .own (bX b ss x).1),.str (bX b ss x).2.1,.str (bX b ss x).2.2]):=by
 have c1:=kU b hs;have hn:b.nodes.length<=274877906944:=by simp only [aP,bV] at hs;omega
 obtain ⟨op,tx⟩:=x;simp only at hx hop;have c2:=pF tx (by omega);have c3:=nZ b tx (by omega);have c4:=qW ss tx hl hr;have c5:=fU tx (by omega);have c6:=gM (b.nodes.length:Int) 1 39;have hcn:0<=aX b tx/\aX b tx<=(b.nodes.length:Int):=by unfold aX;have:=oB (λx:gF=>decide (x.name=tx)) b.nodes;omega
 have Ti:=vM tx;have c7:=fT (aX b tx) (by omega);have c8:=fT (bJ ss tx) (by omega);have z7:=iM (aX b tx) (by omega) (by omega);have z8:=iM (bJ ss tx) (by omega) (by omega);simp only [aS] at c1 c3;clear hr vM;simp only [bX,wZ,Cf,JU];generalize Lib.itoa (aX b tx)=i7 at *;generalize Lib.itoa (bJ ss tx)=i8 at *;generalize aX b tx=cn at *;generalize bJ ss tx=cc at *;obtain ⟨h1,h2,h3,h4,h5⟩:=hop;rw [cY h1,cY h2,cY h3,cY h4,cY h5];refine bR aD func211 ntmps211 ?_;have W:=aA h1 (aA h2 (aA h3 (aA h4 h5)));refine we ?_;exact aK results211
theorem QX [aC prog] [eH prog] (b:bC) (ss:List gP) (x:jP) (hs:aP b<=274877906944) (hx:x.text.length<=268435456) (hl:ss.length<=1099511627776) (hr:∀x∈ss,x.rules.length<=1099511627776) (vM:∀n,0<=bJ ss n/\bJ ss n<=999):
  Ok prog 266 [.agg (aS .view b),.sl .view 1 (ss.map (eG .view)),.agg (lJ x)] (.iJ [.agg (aS .own (bX b ss x).1),.str (bX b ss x).2.1,.str (bX b ss x).2.2]):=by
 by_cases h1:x.op=1
 .exact aDi b ss x hs hx hl hr vM h1
 by_cases h2:x.op=2
 .exact aDj b ss x hs hx hl hr vM h2
 by_cases h3:x.op=3
 .exact aDl b ss x hs hx hl hr vM h3
 by_cases h4:x.op=4
 .exact aDn b ss x hs hx hl hr vM h4
 by_cases h5:x.op=5
 .exact aDo b ss x hs hx hl hr vM h5
 exact aDk b ss x hs hx hl hr vM ⟨h1,h2,h3,h4,h5⟩
theorem QY [aC prog] [eH prog] (b:bC) (ss:List gP) (x:jP) (hs:aP b<=274877906944) (hx:x.text.length<=268435456) (hl:ss.length<=1099511627776) (hr:∀x∈ss,x.rules.length<=1099511627776) (vM:∀n,0<=bJ ss n/\bJ ss n<=999):
  Ok prog 211 [.agg (aS .view b),.sl .view 1 (ss.map (eG .view)),.agg (lJ x)] (.iJ [.agg (aS .own (bX b ss x).1),.str (bX b ss x).2.1,.str (bX b ss x).2.2]):=by
 by_cases h1:x.op=1
 .exact aDp b ss x hs hx hl hr vM h1
 by_cases h2:x.op=2
 .exact aDq b ss x hs hx hl hr vM h2
 by_cases h3:x.op=3
 .exact aDs b ss x hs hx hl hr vM h3
 by_cases h4:x.op=4
 .exact aDt b ss x hs hx hl hr vM h4
 by_cases h5:x.op=5
 .exact aDu b ss x hs hx hl hr vM h5
 exact aDr b ss x hs hx hl hr vM ⟨h1,h2,h3,h4,h5⟩
end Go.Proofs.YtjmpjmilndkgfaaGreatDoor
