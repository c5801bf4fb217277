/- Steps. No condition. -/
import Derived.Test.YtanobkmhbpjnpaaGreatDoorZA0
import Derived.Test.YtanobkmhbpjnpaaGreatDoorZYShelf
import Derived.Test.YtanobkmhbpjnpaaGreatDoorZF5
import Derived.Test.YtanobkmhbpjnpaaGreatDoorZF8
set_option linter.all false
set_option maxRecDepth 4000
set_option maxHeartbeats 4000000
namespace Go.Proofs.YtanobkmhbpjnpaaGreatDoor
open Go.Aw Proofs.Tryz List IntKind
def aMb[aG prog][fI prog](n:Int)(h: -9223372036854775808<=n/\n<=9223372036854775807):Ok prog 246 [.int .i64 n] (.str (Lib.itoa n)):=aLx Tryz.laysM171 n h.1 h.2
def iP[aG prog][fI prog](n:Int)(h: -9223372036854775808<=n/\n<=9223372036854775807):Ok prog 206 [.int .i64 n] (.str (Lib.itoa n)):=by have h1:=aMb n h;refine dN aK func206 ntmps206 ?_;refine bZ ?_;exact aO results206
def iQ[aG prog][fI prog](n:Int)(h: -9223372036854775808<=n/\n<=9223372036854775807):Ok prog 214 [.int .i64 n] (.str (Lib.itoa n)):=by
 by_cases h0:n=0
 .subst h0;refine dN aK func214 ntmps214 ?_;refine bZ ?_;all_goals try(refine bA ?_;simp[bB,results214])
  all_goals exact aCm.symm
 .refine dN aK func214 ntmps214 ?_;have W:=h0;refine wl ?_;refine aT (ι:={p:Int×bE // (-9223372036854775808<=p.1/\p.1<=9223372036854775807)/\KF p.1.natAbs++p.2=KF n.natAbs}) (λt o i=>⟨bP t [(4,.int .i64 i.1.1),(3,.str i.1.2),(5,.aB)],o⟩)
   (λi=>i.1.1.natAbs) ⟨(n,[]),h,by simp⟩ aP ?_
  rintro⟨⟨x,s⟩,⟨hx1,hx2⟩,hi⟩ K1 hK1;simp only[bP,cH,cQ]at hK1 hx1 hx2 hi⊢;have hsl:=As length hi;have hnl:=aG1 n h.1 h.2;rw[eR]at hsl;have hs1:1+s.length<=9223372036854775807:=by omega
  have hs2:s.length<=9223372036854775806:=by omega
  clear hsl hnl;by_cases hx:x=0
  .subst hx;have hs:s=KF n.natAbs:=by simpa [KF]using hi
   have W:=aA hs1 hs2;repeat' first|refine wg ?_|(refine sq ?_ ?_<;>intro hc<;>try exact hc.elim)|fail
   .all_goals try(refine bA ?_;simp[bB,results214])
    exact(itoa_neg (by omega) hs).symm
   .all_goals try(refine bA ?_;simp[bB,results214])
    exact(aGz h0 (by omega) hs).symm
  .obtain ⟨r,q,hr0,hr9,hq,hq1,hq2,hqa,hr,ht⟩:=F7 x hx1 hx2;have hp:=aCl x.natAbs (by omega);have hu8:=aG0 (48+r) (by omega) (by omega);have hb:UInt8.ofNat (48+r).toNat=UInt8.ofNat (48+x.natAbs%10):=by congr 1;omega
   have hi2:KF q.natAbs++UInt8.ofNat (48+r).toNat::s=KF n.natAbs:=by rw[<-hi,hp,hqa,hb];simp
   have hm:q.natAbs<x.natAbs:=by omega
   clear hr hb hp;rcases ht with ht|⟨ht,hrp⟩
   .have W:=aA hx (aA ht (aA hq (aA hu8 (aA hs1 hs2))));refine wl ?_;refine hK1 _ ⟨(q,UInt8.ofNat (48+r).toNat::s),⟨hq1,hq2⟩,hi2⟩ (aQ 0) (by simp only;omega)
   .have W:=aA hx (aA ht (aA hq (aA hu8 (aA hs1 hs2))));refine wl ?_;refine hK1 _ ⟨(q,UInt8.ofNat (48+r).toNat::s),⟨hq1,hq2⟩,hi2⟩ (aQ 0) (by simp only;omega)
def aJm(a:Int):0<=GV .and .i64 a 255/\GV .and .i64 a 255<=255:=by
 unfold GV;simp only;have h:(BitVec.ofInt (i64.bits) a&&& BitVec.ofInt (i64.bits) 255).toNat<=255:=by rw[BitVec.toNat_and];exact iS Nat.and_le_right (by decide)
 rw[wrap64]<;>omega
@[simp] def aS8(t:Tg->Option Tg)(b:Bool)(l:List UInt8):lW t b (bL l)=bL l:=by unfold bL;exact dD (by intro x;rfl) l
@[simp] def aS9(l:List UInt8):(bL l).length=l.length:=by simp[bL]
def Yc{l:List UInt8}{n:Nat}{c:UInt8}(h:l[n]? =some c):(bL l)[n]? =some [.int .u8 c.toNat]:=by simp[bL,h]
def aVy(r:AV):Prop:=∃x:Int,r= .int .i64 x/\0<=x/\x<=255
def Es[aG prog]:Hf prog 142 [] aVy:=by
 refine EE aK func142 ntmps142 ?_;intro code i h hi hl;obtain⟨n,rfl⟩:=hY hi;simp only[bH];simp only[maxLen]at hl;by_cases hlt:n<code.length
 .have Rt:(n:Int)<(code.length:Int):=by omega
  have hg:=Yc (aE hlt);generalize code[n]=c at*;have hk:i64.wrap ((n:Int)+1)=((n+1:Nat):Int):=by rw[wrap64]<;>omega
  have W:=aA Rt (aA hg hk);refine wl ?_;refine⟨.inr rfl,rW (by simp[results142];rfl) (by rfl) (by rfl) (by omega) (by simp) (by simp) ?_⟩;simp only[bX,res];exact⟨_,rfl,aJm _⟩
 .have Rt:¬(n:Int)<(code.length:Int):=by omega
  have W:=Rt;refine wl ?_;refine⟨.inr rfl,rW (by simp[results142];rfl) (by rfl) (by rfl) (by omega) (by simp) (by simp) ?_⟩;simp only[bX,res];exact⟨_,rfl,aJm _⟩
def aRw(n:Int)(r:AV):Prop:=∃x:Int,r= .int .i64 x/\0<=x/\(n<=0->x=0)/\(0<n->x<n)
def Vi{a n:Int}(ha:0<=a)(hn:0<n):0<=a.tmod n/\a.tmod n<n:=by rw[sY ha];exact⟨Int.emod_nonneg _ (by omega),Int.emod_lt_of_pos _ hn⟩
def mP[aG prog](n:Int):Hf prog 86 [.int .i64 n] (aRw n):=by
 refine EE aK func86 ntmps86 ?_;intro code i h hi hl;simp only[bH];by_cases h0:n<=0
 .have W:=h0;refine wl ?_;refine⟨.inr rfl,rW (by simp[results86];rfl) (by rfl) (by rfl) (by omega) (by simp) (by simp) ?_⟩;simp only[bX,res];exact⟨0,rfl,by omega,λ_=>rfl,by omega⟩
 .have hn0:¬n=0:=by omega
  by_cases h1:n<=256
  .have W:=aA h0 h1;refine wl ?_;refine cu (Es) ?_;rintro _ i2 h2 ⟨x,rfl,x0,x1⟩ hi2;simp only[AS.drew,AS.bW,bH,AS.put,aU,aN,gT,dM,gN,dI,gW,dL,cH,cQ,eE,eA,cW];obtain⟨t0,t1⟩:=Vi x0 (show 0<n by omega);have W:=hn0;refine wl ?_;refine⟨.inr rfl,rW (by simp[results86];rfl) (by rfl) (by rfl) (by omega) (by simp) (by simp) ?_⟩;simp only[bX,res];exact⟨_,rfl,t0,by omega,λ_=>t1⟩
  .have W:=aA h0 h1;refine wl ?_;refine cu (Es) ?_;rintro _ i2 h2 ⟨x,rfl,x0,x1⟩ hi2;simp only[AS.drew,AS.bW,bH,AS.put,aU,aN,gT,dM,gN,dI,gW,dL,cH,cQ,eE,eA,cW];refine bZ ?_;refine cu (Es) ?_;rintro _ i3 h3 ⟨y,rfl,y0,y1⟩ hi3;simp only[AS.drew,AS.bW,bH,AS.put,aU,aN,gT,dM,gN,dI,gW,dL,cH,cQ,eE,eA,cW];refine bZ ?_;refine cu (Es) ?_;rintro _ i4 h4 ⟨z,rfl,z0,z1⟩ hi4;simp only[AS.drew,AS.bW,bH,AS.put,aU,aN,gT,dM,gN,dI,gW,dL,cH,cQ,eE,eA,cW];have e1:i64.wrap (x*65536)=x*65536:=by rw[wrap64]<;>omega
   have e2:i64.wrap (y*256)=y*256:=by rw[wrap64]<;>omega
   have e3:i64.wrap (x*65536+y*256)=x*65536+y*256:=by rw[wrap64]<;>omega
   have e4:i64.wrap (x*65536+y*256+z)=x*65536+y*256+z:=by rw[wrap64]<;>omega
   obtain⟨t0,t1⟩:=Vi (show 0<=x*65536+y*256+z by omega) (show 0<n by omega);have W:=aA hn0 (aA e1 (aA e2 (aA e3 e4)));refine wl ?_;refine⟨.inr rfl,rW (by simp[results86];rfl) (by rfl) (by rfl) (by omega) (by simp) (by simp) ?_⟩;simp only[bX,res];exact⟨_,rfl,t0,by omega,λ_=>t1⟩
def aVz(r:AV):Prop:=∃b:Bool,r= .bool b
def kY[aG prog](n:Int):Hf prog 44 [.int .i64 n] aVz:=by refine EE aK func44 ntmps44 ?_;intro code i h hi hl;simp only[bH];refine bZ ?_;refine cu (mP n) ?_;rintro _ i2 h2 ⟨x,rfl,x0,x1,x2⟩ hi2;simp only[AS.drew,AS.bW,bH,AS.put,aU,aN,gT,dM,gN,dI,gW,dL,cH,cQ,eE,eA,cW];refine bZ ?_;refine⟨.inr rfl,rW (by simp[results44];rfl) (by rfl) (by rfl) (by omega) (by simp) (by simp) ?_⟩;simp only[bX,res];exact⟨_,rfl⟩
def aZs(l:List bE)(r:AV):Prop:=∃s∈l,r= .str s
def jK[aG prog](l:List bE)(h0:l≠[]):Hf prog 96 [.sl .view 1 (l.map eD)] (aZs l):=by
 refine EE aK func96 ntmps96 ?_;intro code i h hi hl;simp only[bH];refine bZ ?_;refine cu (mP (l.length:Int)) ?_;rintro _ i2 h2 ⟨x,rfl,x0,x1,x2⟩ hi2;simp only[AS.drew,AS.bW,bH,AS.put,aU,aN,gT,dM,gN,dI,gW,dL,cH,cQ,eE,eA,cW];have hp:0<l.length:=AT.2 h0;obtain⟨k,rfl⟩:=hY x0;have hlt:k<l.length:=by omega
 have hg:=aE hlt;have hm:=gR hlt;generalize l[k]=s at*;have W:=hg;refine wl ?_;refine⟨.inr rfl,rW (by simp[results96];rfl) (by rfl) (by rfl) (by omega) (by simp) (by simp) ?_⟩;simp only[bX,res];exact⟨_,hm,rfl⟩
def aZt(l:List Int)(r:AV):Prop:=∃x∈l,r= .int .i64 x
def Bc[aG prog](l:List Int)(h0:l≠[]):Hf prog 87 [.sl .view 1 (l.map nM)] (aZt l):=by
 refine EE aK func87 ntmps87 ?_;intro code i h hi hl;simp only[bH];refine bZ ?_;refine cu (mP (l.length:Int)) ?_;rintro _ i2 h2 ⟨x,rfl,x0,x1,x2⟩ hi2;simp only[AS.drew,AS.bW,bH,AS.put,aU,aN,gT,dM,gN,dI,gW,dL,cH,cQ,eE,eA,cW];have hp:0<l.length:=AT.2 h0;obtain⟨k,rfl⟩:=hY x0;have hlt:k<l.length:=by omega
 have hg:=aE hlt;have hm:=gR hlt;generalize l[k]=s at*;have W:=hg;refine wl ?_;refine⟨.inr rfl,rW (by simp[results87];rfl) (by rfl) (by rfl) (by omega) (by simp) (by simp) ?_⟩;simp only[bX,res];exact⟨_,hm,rfl⟩
def aJn(n:Nat)(r:AV):Prop:=∃s:bE,r= .str s/\s.length<=n
def aV0(n:Nat)(r:AV):Prop:=∃a:aR,r= .agg (aS a)/\aW a<=n
def uw[aG prog]:Hf prog 88 [] (aJn 4):=by refine EE aK func88 ntmps88 ?_;intro code i h hi hl;simp only[bH];refine bZ ?_;refine oU (i:=1) (bY:=1) (by rfl) (by rfl) ?_ (by simp[AS.frozen,vK,uZ,tH,vY,aI.tH,aI.kill,lW,tJ,rt];rfl);refine cu (jK ([[104,111,109,101],[99,100,110],[101,118,105,108],[104,111,109,101]]:List bE) (by decide)) ?_;rintro _ i2 h2 ⟨s,hm,rfl⟩ hi2;simp only[AS.drew,AS.bW,bH,AS.put,aU,aN,gT,dM,gN,dI,gW,dL,cH,cQ,eE,eA,cW];have dF:=(by decide:∀s∈([[104,111,109,101],[99,100,110],[101,118,105,108],[104,111,109,101]]:List bE),s.length<=4) s hm;refine bZ ?_;refine⟨.inr rfl,rW (by simp[results88];rfl) (by rfl) (by rfl) (by omega) (by simp) (by simp) ?_⟩;simp only[bX,res];exact⟨_,rfl,dF⟩
def uy[aG prog]:Hf prog 89 [] (aJn 5):=by refine EE aK func89 ntmps89 ?_;intro code i h hi hl;simp only[bH];refine bZ ?_;refine oU (i:=1) (bY:=1) (by rfl) (by rfl) ?_ (by simp[AS.frozen,vK,uZ,tH,vY,aI.tH,aI.kill,lW,tJ,rt];rfl);refine cu (jK ([[105,110,100,101,120],[97,112,112],[115,116,121,108,101],[108,105,98],[108,111,103,111],[110,101,120,116],[117,116,105,108]]:List bE) (by decide)) ?_;rintro _ i2 h2 ⟨s,hm,rfl⟩ hi2;simp only[AS.drew,AS.bW,bH,AS.put,aU,aN,gT,dM,gN,dI,gW,dL,cH,cQ,eE,eA,cW];have dF:=(by decide:∀s∈([[105,110,100,101,120],[97,112,112],[115,116,121,108,101],[108,105,98],[108,111,103,111],[110,101,120,116],[117,116,105,108]]:List bE),s.length<=5) s hm;refine bZ ?_;refine⟨.inr rfl,rW (by simp[results89];rfl) (by rfl) (by rfl) (by omega) (by simp) (by simp) ?_⟩;simp only[bX,res];exact⟨_,rfl,dF⟩
def uz[aG prog]:Hf prog 42 [] (aV0 9):=by refine EE aK func42 ntmps42 ?_;intro code i h hi hl;simp only[bH];refine bZ ?_;refine cu (uw) ?_;rintro _ i2 h2 ⟨s,rfl,hs⟩ hi2;simp only[AS.drew,AS.bW,bH,AS.put,aU,aN,gT,dM,gN,dI,gW,dL,cH,cQ,eE,eA,cW];refine bZ ?_;refine cu (uy) ?_;rintro _ i3 h3 ⟨q,rfl,hq⟩ hi3;simp only[AS.drew,AS.bW,bH,AS.put,aU,aN,gT,dM,gN,dI,gW,dL,cH,cQ,eE,eA,cW];refine bZ ?_;refine⟨.inr rfl,rW (by simp[results42];rfl) (by rfl) (by rfl) (by omega) (by simp) (by simp) ?_⟩;simp only[bX,res];exact⟨⟨s,q⟩,rfl,by simp only[aW];omega⟩
def j5[aG prog]:Hf prog 239 [] (aJn 60):=by
 refine EE aK func239 ntmps239 ?_;intro code i h hi hl;simp only[bH];refine bZ ?_;refine cu (mP 8) ?_;rintro _ i2 h2 ⟨x,rfl,x0,x1,x2⟩ hi2;simp only[AS.drew,AS.bW,bH,AS.put,aU,aN,gT,dM,gN,dI,gW,dL,cH,cQ,eE,eA,cW];by_cases hx0:x=0
 .subst hx0;refine bZ ?_;refine oU (i:=1) (bY:=1) (by rfl) (by rfl) ?_ (by simp[AS.frozen,vK,uZ,tH,vY,aI.tH,aI.kill,lW,tJ,rt];rfl);refine cu (jK ([[112],[98],[115,99,114,105,112,116],[112,97,103,101]]:List bE) (by decide)) ?_;rintro _ ju gu ⟨u,hmu,rfl⟩ RB;simp only[AS.drew,AS.bW,bH,AS.put,aU,aN,gT,dM,gN,dI,gW,dL,cH,cQ,eE,eA,cW];have Qz:=(by decide:∀s∈([[112],[98],[115,99,114,105,112,116],[112,97,103,101]]:List bE),s.length<=6) u hmu;have W:=Qz;refine wl ?_;refine⟨.inr rfl,rW (by simp[results239];rfl) (by rfl) (by rfl) (by omega) (by simp) (by simp) ?_⟩;simp only[bX,res];exact⟨_,rfl,by first|omega|(simp;omega)⟩
 .have:=hx0;by_cases hx1:x=1
  .subst hx1;refine bZ ?_;refine oU (i:=1) (bY:=1) (by rfl) (by rfl) ?_ (by simp[AS.frozen,vK,uZ,tH,vY,aI.tH,aI.kill,lW,tJ,rt];rfl);refine cu (jK ([[97,112,112],[99,100,110,47,108,105,98],[108,105,98],[101,118,105,108,47,97,112,112]]:List bE) (by decide)) ?_;rintro _ ju gu ⟨u,hmu,rfl⟩ RB;simp only[AS.drew,AS.bW,bH,AS.put,aU,aN,gT,dM,gN,dI,gW,dL,cH,cQ,eE,eA,cW];have Qz:=(by decide:∀s∈([[97,112,112],[99,100,110,47,108,105,98],[108,105,98],[101,118,105,108,47,97,112,112]]:List bE),s.length<=8) u hmu;have W:=Qz;refine wl ?_;refine⟨.inr rfl,rW (by simp[results239];rfl) (by rfl) (by rfl) (by omega) (by simp) (by simp) ?_⟩;simp only[bX,res];exact⟨_,rfl,by first|omega|(simp;omega)⟩
  .have:=hx1;by_cases hx2:x=2
   .subst hx2;refine bZ ?_;refine oU (i:=1) (bY:=1) (by rfl) (by rfl) ?_ (by simp[AS.frozen,vK,uZ,tH,vY,aI.tH,aI.kill,lW,tJ,rt];rfl);refine cu (jK ([[97,112,112],[117,116,105,108]]:List bE) (by decide)) ?_;rintro _ ju gu ⟨u,hmu,rfl⟩ RB;simp only[AS.drew,AS.bW,bH,AS.put,aU,aN,gT,dM,gN,dI,gW,dL,cH,cQ,eE,eA,cW];have Qz:=(by decide:∀s∈([[97,112,112],[117,116,105,108]]:List bE),s.length<=4) u hmu;have W:=Qz;refine wl ?_;refine oU (i:=2) (bY:=1) (by rfl) (by rfl) ?_ (by simp[AS.frozen,vK,uZ,tH,vY,aI.tH,aI.kill,lW,tJ,rt];rfl);refine cu (jK ([[100,101,102,101,114],[109,111,100,117,108,101]]:List bE) (by decide)) ?_;rintro _ jv gv ⟨v,hmv,rfl⟩ hjv;simp only[AS.drew,AS.bW,bH,AS.put,aU,aN,gT,dM,gN,dI,gW,dL,cH,cQ,eE,eA,cW];have Kv:=(by decide:∀s∈([[100,101,102,101,114],[109,111,100,117,108,101]]:List bE),s.length<=6) v hmv;have W:=aA Qz Kv;refine wl ?_;refine⟨.inr rfl,rW (by simp[results239];rfl) (by rfl) (by rfl) (by omega) (by simp) (by simp) ?_⟩;simp only[bX,res];exact⟨_,rfl,by first|omega|(simp;omega)⟩
   .have:=hx2;by_cases hx3:x=3
    .subst hx3;refine bZ ?_;refine oU (i:=1) (bY:=1) (by rfl) (by rfl) ?_ (by simp[AS.frozen,vK,uZ,tH,vY,aI.tH,aI.kill,lW,tJ,rt];rfl);refine cu (jK ([[108,111,103,111],[99,100,110,47,108,111,103,111]]:List bE) (by decide)) ?_;rintro _ ju gu ⟨u,hmu,rfl⟩ RB;simp only[AS.drew,AS.bW,bH,AS.put,aU,aN,gT,dM,gN,dI,gW,dL,cH,cQ,eE,eA,cW];have Qz:=(by decide:∀s∈([[108,111,103,111],[99,100,110,47,108,111,103,111]]:List bE),s.length<=8) u hmu;have W:=Qz;refine wl ?_;refine⟨.inr rfl,rW (by simp[results239];rfl) (by rfl) (by rfl) (by omega) (by simp) (by simp) ?_⟩;simp only[bX,res];exact⟨_,rfl,by first|omega|(simp;omega)⟩
    .have:=hx3;by_cases hx4:x=4
     .subst hx4;refine bZ ?_;refine oU (i:=1) (bY:=1) (by rfl) (by rfl) ?_ (by simp[AS.frozen,vK,uZ,tH,vY,aI.tH,aI.kill,lW,tJ,rt];rfl);refine cu (jK ([[115,116,121,108,101],[99,100,110,47,115,116,121,108,101]]:List bE) (by decide)) ?_;rintro _ ju gu ⟨u,hmu,rfl⟩ RB;simp only[AS.drew,AS.bW,bH,AS.put,aU,aN,gT,dM,gN,dI,gW,dL,cH,cQ,eE,eA,cW];have Qz:=(by decide:∀s∈([[115,116,121,108,101],[99,100,110,47,115,116,121,108,101]]:List bE),s.length<=9) u hmu;have W:=Qz;refine wl ?_;refine⟨.inr rfl,rW (by simp[results239];rfl) (by rfl) (by rfl) (by omega) (by simp) (by simp) ?_⟩;simp only[bX,res];exact⟨_,rfl,by first|omega|(simp;omega)⟩
     .have:=hx4;by_cases hx5:x=5
      .subst hx5;refine bZ ?_;refine oU (i:=1) (bY:=1) (by rfl) (by rfl) ?_ (by simp[AS.frozen,vK,uZ,tH,vY,aI.tH,aI.kill,lW,tJ,rt];rfl);refine cu (jK ([[112,32,97,61,98],[],[80],[112,32,97],[112,32,97,61],[112,32,32,97,61,98],[112,32,97,61,98,32,97,61,99],[112,32,97,61,98,32,98,61,99,32,99,61,100,32,100,61,101,32,101,61,102],[47],[112,32,97,61,98,61,99]]:List bE) (by decide)) ?_;rintro _ ju gu ⟨u,hmu,rfl⟩ RB;simp only[AS.drew,AS.bW,bH,AS.put,aU,aN,gT,dM,gN,dI,gW,dL,cH,cQ,eE,eA,cW];have Qz:=(by decide:∀s∈([[112,32,97,61,98],[],[80],[112,32,97],[112,32,97,61],[112,32,32,97,61,98],[112,32,97,61,98,32,97,61,99],[112,32,97,61,98,32,98,61,99,32,99,61,100,32,100,61,101,32,101,61,102],[47],[112,32,97,61,98,61,99]]:List bE),s.length<=21) u hmu;have W:=Qz;refine wl ?_;refine⟨.inr rfl,rW (by simp[results239];rfl) (by rfl) (by rfl) (by omega) (by simp) (by simp) ?_⟩;simp only[bX,res];exact⟨_,rfl,by first|omega|(simp;omega)⟩
      .have:=hx5;have W:=aA hx0 (aA hx1 (aA hx2 (aA hx3 (aA hx4 hx5))));refine wl ?_;refine oU (i:=1) (bY:=1) (by rfl) (by rfl) ?_ (by simp[AS.frozen,vK,uZ,tH,vY,aI.tH,aI.kill,lW,tJ,rt];rfl);refine cu (jK ([[112],[98],[112,97,103,101],[115,99,114,105,112,116]]:List bE) (by decide)) ?_;rintro _ ju gu ⟨u,hmu,rfl⟩ RB;simp only[AS.drew,AS.bW,bH,AS.put,aU,aN,gT,dM,gN,dI,gW,dL,cH,cQ,eE,eA,cW];have Qz:=(by decide:∀s∈([[112],[98],[112,97,103,101],[115,99,114,105,112,116]]:List bE),s.length<=6) u hmu;have W:=Qz;refine wl ?_;refine⟨.inr rfl,rW (by simp[results239];rfl) (by rfl) (by rfl) (by omega) (by simp) (by simp) ?_⟩;simp only[bX,res];exact⟨_,rfl,by omega⟩
def Zu[aG prog](m:Nat)(hm:m<=100):Hf prog 198 [.int .i64 (m:Int)] (aJn (62*m+10)):=by
 refine EE aK func198 ntmps198 ?_;intro code i h hi hl;simp only[bH];have ZJ:i64.wrap ((m:Int)+1)=(m:Int)+1:=by rw[wrap64]<;>omega
 have W:=ZJ;refine wl ?_;refine cu (mP ((m:Int)+1)) ?_;rintro _ i2 h2 ⟨x,rfl,x0,x1,x2⟩ hi2;simp only[AS.drew,AS.bW,bH,AS.put,aU,aN,gT,dM,gN,dI,gW,dL,cH,cQ,eE,eA,cW];obtain⟨n,rfl⟩:=hY x0;have hn:n<=m:=by omega
 refine bZ ?_;refine aT (ι:={x:Nat×bE×Int×Int // x.1<=m/\x.2.1.length+62*x.1<=62*m/\0<=x.2.2.1}) (λt o y=>⟨bP t [(5,.str y.1.2.1),(6,.int .i64 (y.1.1:Int))],[⟨true,true,3,2,[[.sl .view 1 (bL code),.int .i64 y.1.2.2.1,.int .i64 y.1.2.2.2]]⟩]⟩)
  (λy=>y.1.1) ⟨(n,[],i2,h2),hn,by simp;omega,hi2⟩ aP ?_
 rintro⟨⟨k,s,j,g⟩,hk,hs,hj⟩ K1 hK1;simp only at hk hs hj;by_cases h0:0<k
 .have hk0:(k:Int) > 0:=by omega
  have hk1:i64.wrap ((k:Int)-1)=((k-1:Nat):Int):=by rw[wrap64]<;>omega
  have hK2:=hK1;simp only[bP,cH,cQ]at hK1⊢;clear hK1;have W:=hk0;refine wl ?_;refine cu (kY 3) ?_;rintro _ j2 g2 ⟨b,rfl⟩ hj2;simp only[AS.drew,AS.bW,bH,AS.put,aU,aN,gT,dM,gN,dI,gW,dL,cH,cQ,eE,eA,cW];cases b
  .refine bZ ?_;refine cu (j5) ?_;rintro _ j3 g3 ⟨u,rfl,hu⟩ hj3;simp only[AS.drew,AS.bW,bH,AS.put,aU,aN,gT,dM,gN,dI,gW,dL,cH,cQ,eE,eA,cW];have Qz:s.length+1+u.length+1<=6200:=by omega
   have W:=aA hk1 Qz;refine wl ?_;refine hK2 _ ⟨(k-1,s++[60]++u++[62],j3,g3),by simp only;omega,by simp;omega,hj3⟩ ?_ (by simp only;omega);exact aQ 1 (by simp) (by simp) (by simp) (by simp)
  .refine bZ ?_;refine oU (i:=1) (bY:=1) (by rfl) (by rfl) ?_ (by simp[AS.frozen,vK,uZ,tH,vY,aI.tH,aI.kill,lW,tJ,rt];rfl);refine cu (jK ([[104,105],[97,32,98],[99,111,117,110,116],[120,62,121],[]]:List bE) (by decide)) ?_;rintro _ j3 g3 ⟨u,hm3,rfl⟩ hj3;simp only[AS.drew,AS.bW,bH,AS.put,aU,aN,gT,dM,gN,dI,gW,dL,cH,cQ,eE,eA,cW];have hu:=(by decide:∀s∈([[104,105],[97,32,98],[99,111,117,110,116],[120,62,121],[]]:List bE),s.length<=5) u hm3;have Qz:s.length+u.length<=6200:=by omega
   have W:=aA hk1 Qz;refine wl ?_;refine hK2 _ ⟨(k-1,s++u,j3,g3),by simp only;omega,by simp;omega,hj3⟩ ?_ (by simp only;omega);exact aQ 1 (by simp) (by simp) (by simp) (by simp)
 .have hk0:¬(k:Int) > 0:=by omega
  simp only[bP,cH,cQ]at hK1⊢;clear hK1;have W:=hk0;refine wl ?_;refine cu (kY 6) ?_;rintro _ j2 g2 ⟨b,rfl⟩ hj2;simp only[AS.drew,AS.bW,bH,AS.put,aU,aN,gT,dM,gN,dI,gW,dL,cH,cQ,eE,eA,cW];cases b
  .refine bZ ?_;refine⟨.inr rfl,rW (by simp[results198];rfl) (by rfl) (by rfl) (by omega) (by simp) (by simp) ?_⟩;simp only[bX,res];exact⟨_,rfl,by omega⟩
  .refine bZ ?_;refine oU (i:=1) (bY:=1) (by rfl) (by rfl) ?_ (by simp[AS.frozen,vK,uZ,tH,vY,aI.tH,aI.kill,lW,tJ,rt];rfl);refine cu (jK ([[60,112],[60],[101,110,100]]:List bE) (by decide)) ?_;rintro _ j3 g3 ⟨u,hm3,rfl⟩ hj3;simp only[AS.drew,AS.bW,bH,AS.put,aU,aN,gT,dM,gN,dI,gW,dL,cH,cQ,eE,eA,cW];have hu:=(by decide:∀s∈([[60,112],[60],[101,110,100]]:List bE),s.length<=3) u hm3;have Qz:s.length+u.length<=6300:=by omega
   have W:=Qz;refine wl ?_;refine⟨.inr rfl,rW (by simp[results198];rfl) (by rfl) (by rfl) (by omega) (by simp) (by simp) ?_⟩;simp only[bX,res];exact⟨_,rfl,by simp;omega⟩
def Vj[aG prog]:aCa prog 40:=by
 refine aZp aK func40 ntmps40 ?_;intro code hl;simp only[maxLen]at hl;refine bZ ?_;refine aT (ι:={x:Nat×Int // x.1<=code.length}) (λt o y=>⟨bP t [(3,.int .i64 y.1.2),(4,.int .i64 (y.1.1:Int))],o⟩)
  (λy=>code.length-y.1.1) ⟨(0,i64.wrap (193017+(code.length:Int))),by simp⟩ aP ?_
 rintro⟨⟨k,g⟩,hk⟩ K1 hK1;simp only at hk;simp only[bP,cH,cQ]at hK1⊢;by_cases hlt:k<code.length
 .have h1:(k:Int)<(code.length:Int):=by omega
  by_cases h2:(k:Int)<4000
  .have hg:=Yc (aE hlt);generalize code[k]=c at*;have hk1:=tQ (k:=k);have W:=aA h1 (aA h2 (aA hg hk1));refine wl ?_;refine hK1 _ ⟨(k+1,GV .and .i64 (i64.wrap (i64.wrap (i64.wrap (g*137)+i64.wrap (c.toNat:Int))+11)) 1073741823),by simp only;omega⟩ ?_ (by simp only;omega);exact aP (by simp) (by simp)
  .have W:=aA h1 h2;refine wl ?_;refine⟨.inr rfl,0,0,0,_,by first|(simp[results40];done)|(simp[results40];rfl),by first|rfl|(simp[bH];done)|(simp[bH];rfl),by omega⟩
 .have h1:¬(k:Int)<(code.length:Int):=by omega
  have W:=h1;refine wl ?_;refine⟨.inr rfl,0,0,0,_,by first|(simp[results40];done)|(simp[results40];rfl),by first|rfl|(simp[bH];done)|(simp[bH];rfl),by omega⟩
end Go.Proofs.YtanobkmhbpjnpaaGreatDoor
