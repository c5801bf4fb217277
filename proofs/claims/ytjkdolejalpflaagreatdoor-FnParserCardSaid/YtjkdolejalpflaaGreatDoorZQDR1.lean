/- Proved here: steps towards the statement of this claim. No condition. -/
import Derived.Test.YtjkdolejalpflaaGreatDoorZA0
import Derived.Test.YtjkdolejalpflaaGreatDoorZF8
set_option linter.all false
set_option maxRecDepth 4000
set_option maxHeartbeats 4000000
namespace Go.Proofs.YtjkdolejalpflaaGreatDoor
open Go.Aw Proofs.Tryz List IntKind
theorem sj(a:Int):0<=BH .and .i64 a 255/\BH .and .i64 a 255<=255:=by
 unfold BH;simp only;have h:(BitVec.ofInt (i64.bits) a&&& BitVec.ofInt (i64.bits) 255).toNat<=255:=by rw[BitVec.toNat_and];exact fW Nat.and_le_right (by decide)
 rw[wrap64]<;>omega
@[simp] theorem aC1(t:Tg->Option Tg)(b:Bool)(l:List UInt8):iL t b (aR l)=aR l:=by unfold aR;exact bB (by intro x;rfl) l
@[simp] theorem aC2(l:List UInt8):(aR l).length=l.length:=by simp[aR]
theorem Pv{l:List UInt8}{n:Nat}{c:UInt8}(h:l[n]? =some c):(aR l)[n]? =some [.int .u8 c.toNat]:=by simp[aR,h]
def aFg(r:AV):Prop:=∃x:Int,r= .int .i64 x/\0<=x/\x<=255
theorem yZ[aB prog]:Iz prog 102 [] aFg:=by
 refine CB aJ func102 ntmps102 ?_;intro code i h hi hl;obtain⟨n,rfl⟩:=fX hi;simp only[aU];simp only[maxLen]at hl;by_cases hlt:n<code.length
 .have MV:(n:Int)<(code.length:Int):=by omega
  have hg:=Pv (aE hlt);generalize code[n]=c at*;have hk:i64.wrap ((n:Int)+1)=((n+1:Nat):Int):=by rw[wrap64]<;>omega
  have W:=aA MV (aA hg hk);repeat' first|refine st ?_|(refine nx ?_;refine so ?_)|(refine cx ?_;refine sc (λhc=>?_) (λhc=>?_)<;>try exact hc.elim)|(refine lx ?_;refine sp (λhc=>?_) (λhc=>?_)<;>try exact hc.elim)|refine sx ?_ ?_|refine sy ?_ ?_|fail
  refine⟨.inr rfl,pU (by simp[results102];rfl) (by rfl) (by rfl) (by omega) (by simp) (by simp) ?_⟩;simp only[single,res];exact⟨_,rfl,sj _⟩
 .have MV:¬(n:Int)<(code.length:Int):=by omega
  have W:=MV;repeat' first|refine st ?_|(refine nx ?_;refine so ?_)|(refine cx ?_;refine sc (λhc=>?_) (λhc=>?_)<;>try exact hc.elim)|(refine lx ?_;refine sp (λhc=>?_) (λhc=>?_)<;>try exact hc.elim)|refine sx ?_ ?_|refine sy ?_ ?_|fail
  refine⟨.inr rfl,pU (by simp[results102];rfl) (by rfl) (by rfl) (by omega) (by simp) (by simp) ?_⟩;simp only[single,res];exact⟨_,rfl,sj _⟩
def aBu(n:Int)(r:AV):Prop:=∃x:Int,r= .int .i64 x/\0<=x/\(n<=0->x=0)/\(0<n->x<n)
theorem MF{a n:Int}(ha:0<=a)(hn:0<n):0<=a.tmod n/\a.tmod n<n:=by rw[rS ha];exact⟨Int.emod_nonneg _ (by omega),Int.emod_lt_of_pos _ hn⟩
theorem kM[aB prog](n:Int):Iz prog 65 [.int .i64 n] (aBu n):=by
 refine CB aJ func65 ntmps65 ?_;intro code i h hi hl;simp only[aU];by_cases h0:n<=0
 .have W:=h0;repeat' first|refine st ?_|(refine nx ?_;refine so ?_)|(refine cx ?_;refine sc (λhc=>?_) (λhc=>?_)<;>try exact hc.elim)|(refine lx ?_;refine sp (λhc=>?_) (λhc=>?_)<;>try exact hc.elim)|refine sx ?_ ?_|refine sy ?_ ?_|fail
  refine⟨.inr rfl,pU (by simp[results65];rfl) (by rfl) (by rfl) (by omega) (by simp) (by simp) ?_⟩;simp only[single,res];exact⟨0,rfl,by omega,λ_=>rfl,by omega⟩
 .have hn0:¬n=0:=by omega
  by_cases h1:n<=256
  .have W:=aA h0 h1;repeat' first|refine st ?_|(refine nx ?_;refine so ?_)|(refine cx ?_;refine sc (λhc=>?_) (λhc=>?_)<;>try exact hc.elim)|(refine lx ?_;refine sp (λhc=>?_) (λhc=>?_)<;>try exact hc.elim)|refine sx ?_ ?_|refine sy ?_ ?_|fail
   refine cu (yZ) ?_;rintro _ i2 h2 ⟨x,rfl,x0,x1⟩ hi2;simp only[AS.drew,AS.called,aU,AS.put,aQ,aM,fO,cB,fI,bS,fU,bZ,cH,cG,cY,cW,cM];obtain⟨t0,t1⟩:=MF x0 (show 0<n by omega);have W:=hn0;repeat' first|refine st ?_|(refine nx ?_;refine so ?_)|(refine cx ?_;refine sc (λhc=>?_) (λhc=>?_)<;>try exact hc.elim)|(refine lx ?_;refine sp (λhc=>?_) (λhc=>?_)<;>try exact hc.elim)|refine sx ?_ ?_|refine sy ?_ ?_|fail
   refine⟨.inr rfl,pU (by simp[results65];rfl) (by rfl) (by rfl) (by omega) (by simp) (by simp) ?_⟩;simp only[single,res];exact⟨_,rfl,t0,by omega,λ_=>t1⟩
  .have W:=aA h0 h1;repeat' first|refine st ?_|(refine nx ?_;refine so ?_)|(refine cx ?_;refine sc (λhc=>?_) (λhc=>?_)<;>try exact hc.elim)|(refine lx ?_;refine sp (λhc=>?_) (λhc=>?_)<;>try exact hc.elim)|refine sx ?_ ?_|refine sy ?_ ?_|fail
   refine cu (yZ) ?_;rintro _ i2 h2 ⟨x,rfl,x0,x1⟩ hi2;simp only[AS.drew,AS.called,aU,AS.put,aQ,aM,fO,cB,fI,bS,fU,bZ,cH,cG,cY,cW,cM];have W:=trivial;repeat' first|refine st ?_|(refine nx ?_;refine so ?_)|(refine cx ?_;refine sc (λhc=>?_) (λhc=>?_)<;>try exact hc.elim)|(refine lx ?_;refine sp (λhc=>?_) (λhc=>?_)<;>try exact hc.elim)|refine sx ?_ ?_|refine sy ?_ ?_|fail
   refine cu (yZ) ?_;rintro _ i3 h3 ⟨y,rfl,y0,y1⟩ hi3;simp only[AS.drew,AS.called,aU,AS.put,aQ,aM,fO,cB,fI,bS,fU,bZ,cH,cG,cY,cW,cM];have W:=trivial;repeat' first|refine st ?_|(refine nx ?_;refine so ?_)|(refine cx ?_;refine sc (λhc=>?_) (λhc=>?_)<;>try exact hc.elim)|(refine lx ?_;refine sp (λhc=>?_) (λhc=>?_)<;>try exact hc.elim)|refine sx ?_ ?_|refine sy ?_ ?_|fail
   refine cu (yZ) ?_;rintro _ i4 h4 ⟨z,rfl,z0,z1⟩ hi4;simp only[AS.drew,AS.called,aU,AS.put,aQ,aM,fO,cB,fI,bS,fU,bZ,cH,cG,cY,cW,cM];have e1:i64.wrap (x*65536)=x*65536:=by rw[wrap64]<;>omega
   have e2:i64.wrap (y*256)=y*256:=by rw[wrap64]<;>omega
   have e3:i64.wrap (x*65536+y*256)=x*65536+y*256:=by rw[wrap64]<;>omega
   have e4:i64.wrap (x*65536+y*256+z)=x*65536+y*256+z:=by rw[wrap64]<;>omega
   obtain⟨t0,t1⟩:=MF (show 0<=x*65536+y*256+z by omega) (show 0<n by omega);have W:=aA hn0 (aA e1 (aA e2 (aA e3 e4)));repeat' first|refine st ?_|(refine nx ?_;refine so ?_)|(refine cx ?_;refine sc (λhc=>?_) (λhc=>?_)<;>try exact hc.elim)|(refine lx ?_;refine sp (λhc=>?_) (λhc=>?_)<;>try exact hc.elim)|refine sx ?_ ?_|refine sy ?_ ?_|fail
   refine⟨.inr rfl,pU (by simp[results65];rfl) (by rfl) (by rfl) (by omega) (by simp) (by simp) ?_⟩;simp only[single,res];exact⟨_,rfl,t0,by omega,λ_=>t1⟩
def aFh(r:AV):Prop:=∃b:Bool,r= .bool b
theorem kX[aB prog](n:Int):Iz prog 36 [.int .i64 n] aFh:=by
 refine CB aJ func36 ntmps36 ?_;intro code i h hi hl;simp only[aU];have W:=trivial;repeat' first|refine st ?_|(refine nx ?_;refine so ?_)|(refine cx ?_;refine sc (λhc=>?_) (λhc=>?_)<;>try exact hc.elim)|(refine lx ?_;refine sp (λhc=>?_) (λhc=>?_)<;>try exact hc.elim)|refine sx ?_ ?_|refine sy ?_ ?_|fail
 refine cu (kM n) ?_;rintro _ i2 h2 ⟨x,rfl,x0,x1,x2⟩ hi2;simp only[AS.drew,AS.called,aU,AS.put,aQ,aM,fO,cB,fI,bS,fU,bZ,cH,cG,cY,cW,cM];have W:=trivial;repeat' first|refine st ?_|(refine nx ?_;refine so ?_)|(refine cx ?_;refine sc (λhc=>?_) (λhc=>?_)<;>try exact hc.elim)|(refine lx ?_;refine sp (λhc=>?_) (λhc=>?_)<;>try exact hc.elim)|refine sx ?_ ?_|refine sy ?_ ?_|fail
 refine⟨.inr rfl,pU (by simp[results36];rfl) (by rfl) (by rfl) (by omega) (by simp) (by simp) ?_⟩;simp only[single,res];exact⟨_,rfl⟩
def aIu(l:List aX)(r:AV):Prop:=∃s∈l,r= .str s
theorem gF[aB prog](l:List aX)(h0:l≠[]):Iz prog 67 [.sl .view 1 (l.map dR)] (aIu l):=by
 refine CB aJ func67 ntmps67 ?_;intro code i h hi hl;simp only[aU];have W:=trivial;repeat' first|refine st ?_|(refine nx ?_;refine so ?_)|(refine cx ?_;refine sc (λhc=>?_) (λhc=>?_)<;>try exact hc.elim)|(refine lx ?_;refine sp (λhc=>?_) (λhc=>?_)<;>try exact hc.elim)|refine sx ?_ ?_|refine sy ?_ ?_|fail
 refine cu (kM (l.length:Int)) ?_;rintro _ i2 h2 ⟨x,rfl,x0,x1,x2⟩ hi2;simp only[AS.drew,AS.called,aU,AS.put,aQ,aM,fO,cB,fI,bS,fU,bZ,cH,cG,cY,cW,cM];have hp:0<l.length:=zE.2 h0;obtain⟨k,rfl⟩:=fX x0;have hlt:k<l.length:=by omega
 have hg:=aE hlt;have hm:=mL hlt;generalize l[k]=s at*;have W:=hg;repeat' first|refine st ?_|(refine nx ?_;refine so ?_)|(refine cx ?_;refine sc (λhc=>?_) (λhc=>?_)<;>try exact hc.elim)|(refine lx ?_;refine sp (λhc=>?_) (λhc=>?_)<;>try exact hc.elim)|refine sx ?_ ?_|refine sy ?_ ?_|fail
 refine⟨.inr rfl,pU (by simp[results67];rfl) (by rfl) (by rfl) (by omega) (by simp) (by simp) ?_⟩;simp only[single,res];exact⟨_,hm,rfl⟩
def aIv(l:List Int)(r:AV):Prop:=∃x∈l,r= .int .i64 x
theorem EY[aB prog](l:List Int)(h0:l≠[]):Iz prog 66 [.sl .view 1 (l.map nP)] (aIv l):=by
 refine CB aJ func66 ntmps66 ?_;intro code i h hi hl;simp only[aU];have W:=trivial;repeat' first|refine st ?_|(refine nx ?_;refine so ?_)|(refine cx ?_;refine sc (λhc=>?_) (λhc=>?_)<;>try exact hc.elim)|(refine lx ?_;refine sp (λhc=>?_) (λhc=>?_)<;>try exact hc.elim)|refine sx ?_ ?_|refine sy ?_ ?_|fail
 refine cu (kM (l.length:Int)) ?_;rintro _ i2 h2 ⟨x,rfl,x0,x1,x2⟩ hi2;simp only[AS.drew,AS.called,aU,AS.put,aQ,aM,fO,cB,fI,bS,fU,bZ,cH,cG,cY,cW,cM];have hp:0<l.length:=zE.2 h0;obtain⟨k,rfl⟩:=fX x0;have hlt:k<l.length:=by omega
 have hg:=aE hlt;have hm:=mL hlt;generalize l[k]=s at*;have W:=hg;repeat' first|refine st ?_|(refine nx ?_;refine so ?_)|(refine cx ?_;refine sc (λhc=>?_) (λhc=>?_)<;>try exact hc.elim)|(refine lx ?_;refine sp (λhc=>?_) (λhc=>?_)<;>try exact hc.elim)|refine sx ?_ ?_|refine sy ?_ ?_|fail
 refine⟨.inr rfl,pU (by simp[results66];rfl) (by rfl) (by rfl) (by omega) (by simp) (by simp) ?_⟩;simp only[single,res];exact⟨_,hm,rfl⟩
def YM(n:Nat)(r:AV):Prop:=∃s:aX,r= .str s/\s.length<=n
theorem Wp[aB prog]:Iz prog 183 [] (YM 60):=by
 refine CB aJ func183 ntmps183 ?_;intro code i h hi hl;simp only[aU];have W:=trivial;repeat' first|refine st ?_|(refine nx ?_;refine so ?_)|(refine cx ?_;refine sc (λhc=>?_) (λhc=>?_)<;>try exact hc.elim)|(refine lx ?_;refine sp (λhc=>?_) (λhc=>?_)<;>try exact hc.elim)|refine sx ?_ ?_|refine sy ?_ ?_|fail
 refine cu (kM 8) ?_;rintro _ i2 h2 ⟨x,rfl,x0,x1,x2⟩ hi2;simp only[AS.drew,AS.called,aU,AS.put,aQ,aM,fO,cB,fI,bS,fU,bZ,cH,cG,cY,cW,cM];by_cases hx0:x=0
 .subst hx0;have W:=trivial;repeat' first|refine st ?_|(refine nx ?_;refine so ?_)|(refine cx ?_;refine sc (λhc=>?_) (λhc=>?_)<;>try exact hc.elim)|(refine lx ?_;refine sp (λhc=>?_) (λhc=>?_)<;>try exact hc.elim)|refine sx ?_ ?_|refine sy ?_ ?_|fail
  refine mW (i:=1) (ver:=1) (by rfl) (by rfl) ?_ (by simp[AS.frozen,rW,rM,pW,rX,aD.pW,aD.kill,iL,pM,rt];rfl);refine cu (gF ([[112],[98],[115,99,114,105,112,116],[112,97,103,101]]:List aX) (by decide)) ?_;rintro _ ju gu ⟨u,YN,rfl⟩ Ka;simp only[AS.drew,AS.called,aU,AS.put,aQ,aM,fO,cB,fI,bS,fU,bZ,cH,cG,cY,cW,cM];have Jk:=(by decide:∀s∈([[112],[98],[115,99,114,105,112,116],[112,97,103,101]]:List aX),s.length<=6) u YN;have W:=Jk;repeat' first|refine st ?_|(refine nx ?_;refine so ?_)|(refine cx ?_;refine sc (λhc=>?_) (λhc=>?_)<;>try exact hc.elim)|(refine lx ?_;refine sp (λhc=>?_) (λhc=>?_)<;>try exact hc.elim)|refine sx ?_ ?_|refine sy ?_ ?_|fail
  refine⟨.inr rfl,pU (by simp[results183];rfl) (by rfl) (by rfl) (by omega) (by simp) (by simp) ?_⟩;simp only[single,res];exact⟨_,rfl,by first|omega|(simp;omega)⟩
 .have:=hx0;by_cases hx1:x=1
  .subst hx1;have W:=trivial;repeat' first|refine st ?_|(refine nx ?_;refine so ?_)|(refine cx ?_;refine sc (λhc=>?_) (λhc=>?_)<;>try exact hc.elim)|(refine lx ?_;refine sp (λhc=>?_) (λhc=>?_)<;>try exact hc.elim)|refine sx ?_ ?_|refine sy ?_ ?_|fail
   refine mW (i:=1) (ver:=1) (by rfl) (by rfl) ?_ (by simp[AS.frozen,rW,rM,pW,rX,aD.pW,aD.kill,iL,pM,rt];rfl);refine cu (gF ([[97,112,112],[99,100,110,47,108,105,98],[108,105,98],[101,118,105,108,47,97,112,112]]:List aX) (by decide)) ?_;rintro _ ju gu ⟨u,YN,rfl⟩ Ka;simp only[AS.drew,AS.called,aU,AS.put,aQ,aM,fO,cB,fI,bS,fU,bZ,cH,cG,cY,cW,cM];have Jk:=(by decide:∀s∈([[97,112,112],[99,100,110,47,108,105,98],[108,105,98],[101,118,105,108,47,97,112,112]]:List aX),s.length<=8) u YN;have W:=Jk;repeat' first|refine st ?_|(refine nx ?_;refine so ?_)|(refine cx ?_;refine sc (λhc=>?_) (λhc=>?_)<;>try exact hc.elim)|(refine lx ?_;refine sp (λhc=>?_) (λhc=>?_)<;>try exact hc.elim)|refine sx ?_ ?_|refine sy ?_ ?_|fail
   refine⟨.inr rfl,pU (by simp[results183];rfl) (by rfl) (by rfl) (by omega) (by simp) (by simp) ?_⟩;simp only[single,res];exact⟨_,rfl,by first|omega|(simp;omega)⟩
  .have:=hx1;by_cases hx2:x=2
   .subst hx2;have W:=trivial;repeat' first|refine st ?_|(refine nx ?_;refine so ?_)|(refine cx ?_;refine sc (λhc=>?_) (λhc=>?_)<;>try exact hc.elim)|(refine lx ?_;refine sp (λhc=>?_) (λhc=>?_)<;>try exact hc.elim)|refine sx ?_ ?_|refine sy ?_ ?_|fail
    refine mW (i:=1) (ver:=1) (by rfl) (by rfl) ?_ (by simp[AS.frozen,rW,rM,pW,rX,aD.pW,aD.kill,iL,pM,rt];rfl);refine cu (gF ([[97,112,112],[117,116,105,108]]:List aX) (by decide)) ?_;rintro _ ju gu ⟨u,YN,rfl⟩ Ka;simp only[AS.drew,AS.called,aU,AS.put,aQ,aM,fO,cB,fI,bS,fU,bZ,cH,cG,cY,cW,cM];have Jk:=(by decide:∀s∈([[97,112,112],[117,116,105,108]]:List aX),s.length<=4) u YN;have W:=Jk;repeat' first|refine st ?_|(refine nx ?_;refine so ?_)|(refine cx ?_;refine sc (λhc=>?_) (λhc=>?_)<;>try exact hc.elim)|(refine lx ?_;refine sp (λhc=>?_) (λhc=>?_)<;>try exact hc.elim)|refine sx ?_ ?_|refine sy ?_ ?_|fail
    refine mW (i:=2) (ver:=1) (by rfl) (by rfl) ?_ (by simp[AS.frozen,rW,rM,pW,rX,aD.pW,aD.kill,iL,pM,rt];rfl);refine cu (gF ([[100,101,102,101,114],[109,111,100,117,108,101]]:List aX) (by decide)) ?_;rintro _ jv gv ⟨v,hmv,rfl⟩ hjv;simp only[AS.drew,AS.called,aU,AS.put,aQ,aM,fO,cB,fI,bS,fU,bZ,cH,cG,cY,cW,cM];have Es:=(by decide:∀s∈([[100,101,102,101,114],[109,111,100,117,108,101]]:List aX),s.length<=6) v hmv;have W:=aA Jk Es;repeat' first|refine st ?_|(refine nx ?_;refine so ?_)|(refine cx ?_;refine sc (λhc=>?_) (λhc=>?_)<;>try exact hc.elim)|(refine lx ?_;refine sp (λhc=>?_) (λhc=>?_)<;>try exact hc.elim)|refine sx ?_ ?_|refine sy ?_ ?_|fail
    refine⟨.inr rfl,pU (by simp[results183];rfl) (by rfl) (by rfl) (by omega) (by simp) (by simp) ?_⟩;simp only[single,res];exact⟨_,rfl,by first|omega|(simp;omega)⟩
   .have:=hx2;by_cases hx3:x=3
    .subst hx3;have W:=trivial;repeat' first|refine st ?_|(refine nx ?_;refine so ?_)|(refine cx ?_;refine sc (λhc=>?_) (λhc=>?_)<;>try exact hc.elim)|(refine lx ?_;refine sp (λhc=>?_) (λhc=>?_)<;>try exact hc.elim)|refine sx ?_ ?_|refine sy ?_ ?_|fail
     refine mW (i:=1) (ver:=1) (by rfl) (by rfl) ?_ (by simp[AS.frozen,rW,rM,pW,rX,aD.pW,aD.kill,iL,pM,rt];rfl);refine cu (gF ([[108,111,103,111],[99,100,110,47,108,111,103,111]]:List aX) (by decide)) ?_;rintro _ ju gu ⟨u,YN,rfl⟩ Ka;simp only[AS.drew,AS.called,aU,AS.put,aQ,aM,fO,cB,fI,bS,fU,bZ,cH,cG,cY,cW,cM];have Jk:=(by decide:∀s∈([[108,111,103,111],[99,100,110,47,108,111,103,111]]:List aX),s.length<=8) u YN;have W:=Jk;repeat' first|refine st ?_|(refine nx ?_;refine so ?_)|(refine cx ?_;refine sc (λhc=>?_) (λhc=>?_)<;>try exact hc.elim)|(refine lx ?_;refine sp (λhc=>?_) (λhc=>?_)<;>try exact hc.elim)|refine sx ?_ ?_|refine sy ?_ ?_|fail
     refine⟨.inr rfl,pU (by simp[results183];rfl) (by rfl) (by rfl) (by omega) (by simp) (by simp) ?_⟩;simp only[single,res];exact⟨_,rfl,by first|omega|(simp;omega)⟩
    .have:=hx3;by_cases hx4:x=4
     .subst hx4;have W:=trivial;repeat' first|refine st ?_|(refine nx ?_;refine so ?_)|(refine cx ?_;refine sc (λhc=>?_) (λhc=>?_)<;>try exact hc.elim)|(refine lx ?_;refine sp (λhc=>?_) (λhc=>?_)<;>try exact hc.elim)|refine sx ?_ ?_|refine sy ?_ ?_|fail
      refine mW (i:=1) (ver:=1) (by rfl) (by rfl) ?_ (by simp[AS.frozen,rW,rM,pW,rX,aD.pW,aD.kill,iL,pM,rt];rfl);refine cu (gF ([[115,116,121,108,101],[99,100,110,47,115,116,121,108,101]]:List aX) (by decide)) ?_;rintro _ ju gu ⟨u,YN,rfl⟩ Ka;simp only[AS.drew,AS.called,aU,AS.put,aQ,aM,fO,cB,fI,bS,fU,bZ,cH,cG,cY,cW,cM];have Jk:=(by decide:∀s∈([[115,116,121,108,101],[99,100,110,47,115,116,121,108,101]]:List aX),s.length<=9) u YN;have W:=Jk;repeat' first|refine st ?_|(refine nx ?_;refine so ?_)|(refine cx ?_;refine sc (λhc=>?_) (λhc=>?_)<;>try exact hc.elim)|(refine lx ?_;refine sp (λhc=>?_) (λhc=>?_)<;>try exact hc.elim)|refine sx ?_ ?_|refine sy ?_ ?_|fail
      refine⟨.inr rfl,pU (by simp[results183];rfl) (by rfl) (by rfl) (by omega) (by simp) (by simp) ?_⟩;simp only[single,res];exact⟨_,rfl,by first|omega|(simp;omega)⟩
     .have:=hx4;by_cases hx5:x=5
      .subst hx5;have W:=trivial;repeat' first|refine st ?_|(refine nx ?_;refine so ?_)|(refine cx ?_;refine sc (λhc=>?_) (λhc=>?_)<;>try exact hc.elim)|(refine lx ?_;refine sp (λhc=>?_) (λhc=>?_)<;>try exact hc.elim)|refine sx ?_ ?_|refine sy ?_ ?_|fail
       refine mW (i:=1) (ver:=1) (by rfl) (by rfl) ?_ (by simp[AS.frozen,rW,rM,pW,rX,aD.pW,aD.kill,iL,pM,rt];rfl);refine cu (gF ([[112,32,97,61,98],[],[80],[112,32,97],[112,32,97,61],[112,32,32,97,61,98],[112,32,97,61,98,32,97,61,99],[112,32,97,61,98,32,98,61,99,32,99,61,100,32,100,61,101,32,101,61,102],[47],[112,32,97,61,98,61,99]]:List aX) (by decide)) ?_;rintro _ ju gu ⟨u,YN,rfl⟩ Ka;simp only[AS.drew,AS.called,aU,AS.put,aQ,aM,fO,cB,fI,bS,fU,bZ,cH,cG,cY,cW,cM];have Jk:=(by decide:∀s∈([[112,32,97,61,98],[],[80],[112,32,97],[112,32,97,61],[112,32,32,97,61,98],[112,32,97,61,98,32,97,61,99],[112,32,97,61,98,32,98,61,99,32,99,61,100,32,100,61,101,32,101,61,102],[47],[112,32,97,61,98,61,99]]:List aX),s.length<=21) u YN;have W:=Jk;repeat' first|refine st ?_|(refine nx ?_;refine so ?_)|(refine cx ?_;refine sc (λhc=>?_) (λhc=>?_)<;>try exact hc.elim)|(refine lx ?_;refine sp (λhc=>?_) (λhc=>?_)<;>try exact hc.elim)|refine sx ?_ ?_|refine sy ?_ ?_|fail
       refine⟨.inr rfl,pU (by simp[results183];rfl) (by rfl) (by rfl) (by omega) (by simp) (by simp) ?_⟩;simp only[single,res];exact⟨_,rfl,by first|omega|(simp;omega)⟩
      .have:=hx5;have W:=aA hx0 (aA hx1 (aA hx2 (aA hx3 (aA hx4 hx5))));repeat' first|refine st ?_|(refine nx ?_;refine so ?_)|(refine cx ?_;refine sc (λhc=>?_) (λhc=>?_)<;>try exact hc.elim)|(refine lx ?_;refine sp (λhc=>?_) (λhc=>?_)<;>try exact hc.elim)|refine sx ?_ ?_|refine sy ?_ ?_|fail
       refine mW (i:=1) (ver:=1) (by rfl) (by rfl) ?_ (by simp[AS.frozen,rW,rM,pW,rX,aD.pW,aD.kill,iL,pM,rt];rfl);refine cu (gF ([[112],[98],[112,97,103,101],[115,99,114,105,112,116]]:List aX) (by decide)) ?_;rintro _ ju gu ⟨u,YN,rfl⟩ Ka;simp only[AS.drew,AS.called,aU,AS.put,aQ,aM,fO,cB,fI,bS,fU,bZ,cH,cG,cY,cW,cM];have Jk:=(by decide:∀s∈([[112],[98],[112,97,103,101],[115,99,114,105,112,116]]:List aX),s.length<=6) u YN;have W:=Jk;repeat' first|refine st ?_|(refine nx ?_;refine so ?_)|(refine cx ?_;refine sc (λhc=>?_) (λhc=>?_)<;>try exact hc.elim)|(refine lx ?_;refine sp (λhc=>?_) (λhc=>?_)<;>try exact hc.elim)|refine sx ?_ ?_|refine sy ?_ ?_|fail
       refine⟨.inr rfl,pU (by simp[results183];rfl) (by rfl) (by rfl) (by omega) (by simp) (by simp) ?_⟩;simp only[single,res];exact⟨_,rfl,by omega⟩
theorem QJ[aB prog](m:Nat)(hm:m<=100):Iz prog 162 [.int .i64 (m:Int)] (YM (62*m+10)):=by
 refine CB aJ func162 ntmps162 ?_;intro code i h hi hl;simp only[aU];have UB:i64.wrap ((m:Int)+1)=(m:Int)+1:=by rw[wrap64]<;>omega
 have W:=UB;repeat' first|refine st ?_|(refine nx ?_;refine so ?_)|(refine cx ?_;refine sc (λhc=>?_) (λhc=>?_)<;>try exact hc.elim)|(refine lx ?_;refine sp (λhc=>?_) (λhc=>?_)<;>try exact hc.elim)|refine sx ?_ ?_|refine sy ?_ ?_|fail
 refine cu (kM ((m:Int)+1)) ?_;rintro _ i2 h2 ⟨x,rfl,x0,x1,x2⟩ hi2;simp only[AS.drew,AS.called,aU,AS.put,aQ,aM,fO,cB,fI,bS,fU,bZ,cH,cG,cY,cW,cM];obtain⟨n,rfl⟩:=fX x0;have hn:n<=m:=by omega
 have W:=trivial;repeat' first|refine st ?_|(refine nx ?_;refine so ?_)|(refine cx ?_;refine sc (λhc=>?_) (λhc=>?_)<;>try exact hc.elim)|(refine lx ?_;refine sp (λhc=>?_) (λhc=>?_)<;>try exact hc.elim)|refine sx ?_ ?_|refine sy ?_ ?_|fail
 refine aY (ι:={x:Nat×aX×Int×Int // x.1<=m/\x.2.1.length+62*x.1<=62*m/\0<=x.2.2.1}) (λt o y=>⟨bN t [(5,.str y.1.2.1),(6,.int .i64 (y.1.1:Int))],[⟨true,true,3,2,[[.sl .view 1 (aR code),.int .i64 y.1.2.2.1,.int .i64 y.1.2.2.2]]⟩]⟩)
  (λy=>y.1.1) ⟨(n,[],i2,h2),hn,by simp;omega,hi2⟩ aC ?_
 rintro⟨⟨k,s,j,g⟩,hk,hs,hj⟩ K1 hK1;simp only at hk hs hj;by_cases h0:0<k
 .have hk0:(k:Int) > 0:=by omega
  have hk1:i64.wrap ((k:Int)-1)=((k-1:Nat):Int):=by rw[wrap64]<;>omega
  have hK2:=hK1;simp only[bN,cH,cG]at hK1⊢;clear hK1;have W:=hk0;repeat' first|refine st ?_|(refine nx ?_;refine so ?_)|(refine cx ?_;refine sc (λhc=>?_) (λhc=>?_)<;>try exact hc.elim)|(refine lx ?_;refine sp (λhc=>?_) (λhc=>?_)<;>try exact hc.elim)|refine sx ?_ ?_|refine sy ?_ ?_|fail
  refine cu (kX 3) ?_;rintro _ j2 g2 ⟨b,rfl⟩ hj2;simp only[AS.drew,AS.called,aU,AS.put,aQ,aM,fO,cB,fI,bS,fU,bZ,cH,cG,cY,cW,cM];cases b
  .have W:=trivial;repeat' first|refine st ?_|(refine nx ?_;refine so ?_)|(refine cx ?_;refine sc (λhc=>?_) (λhc=>?_)<;>try exact hc.elim)|(refine lx ?_;refine sp (λhc=>?_) (λhc=>?_)<;>try exact hc.elim)|refine sx ?_ ?_|refine sy ?_ ?_|fail
   refine cu (Wp) ?_;rintro _ j3 g3 ⟨u,rfl,hu⟩ su;simp only[AS.drew,AS.called,aU,AS.put,aQ,aM,fO,cB,fI,bS,fU,bZ,cH,cG,cY,cW,cM];have Jk:s.length+1+u.length+1<=6200:=by omega
   have W:=aA hk1 Jk;repeat' first|refine st ?_|(refine nx ?_;refine so ?_)|(refine cx ?_;refine sc (λhc=>?_) (λhc=>?_)<;>try exact hc.elim)|(refine lx ?_;refine sp (λhc=>?_) (λhc=>?_)<;>try exact hc.elim)|refine sx ?_ ?_|refine sy ?_ ?_|fail
   refine hK2 _ ⟨(k-1,s++[60]++u++[62],j3,g3),by simp only;omega,by simp;omega,su⟩ ?_ (by simp only;omega);exact aS 1 (by simp) (by simp) (by simp) (by simp)
  .have W:=trivial;repeat' first|refine st ?_|(refine nx ?_;refine so ?_)|(refine cx ?_;refine sc (λhc=>?_) (λhc=>?_)<;>try exact hc.elim)|(refine lx ?_;refine sp (λhc=>?_) (λhc=>?_)<;>try exact hc.elim)|refine sx ?_ ?_|refine sy ?_ ?_|fail
   refine mW (i:=1) (ver:=1) (by rfl) (by rfl) ?_ (by simp[AS.frozen,rW,rM,pW,rX,aD.pW,aD.kill,iL,pM,rt];rfl);refine cu (gF ([[104,105],[97,32,98],[99,111,117,110,116],[120,62,121],[]]:List aX) (by decide)) ?_;rintro _ j3 g3 ⟨u,hm3,rfl⟩ su;simp only[AS.drew,AS.called,aU,AS.put,aQ,aM,fO,cB,fI,bS,fU,bZ,cH,cG,cY,cW,cM];have hu:=(by decide:∀s∈([[104,105],[97,32,98],[99,111,117,110,116],[120,62,121],[]]:List aX),s.length<=5) u hm3;have Jk:s.length+u.length<=6200:=by omega
   have W:=aA hk1 Jk;repeat' first|refine st ?_|(refine nx ?_;refine so ?_)|(refine cx ?_;refine sc (λhc=>?_) (λhc=>?_)<;>try exact hc.elim)|(refine lx ?_;refine sp (λhc=>?_) (λhc=>?_)<;>try exact hc.elim)|refine sx ?_ ?_|refine sy ?_ ?_|fail
   refine hK2 _ ⟨(k-1,s++u,j3,g3),by simp only;omega,by simp;omega,su⟩ ?_ (by simp only;omega);exact aS 1 (by simp) (by simp) (by simp) (by simp)
 .have hk0:¬(k:Int) > 0:=by omega
  simp only[bN,cH,cG]at hK1⊢;clear hK1;have W:=hk0;repeat' first|refine st ?_|(refine nx ?_;refine so ?_)|(refine cx ?_;refine sc (λhc=>?_) (λhc=>?_)<;>try exact hc.elim)|(refine lx ?_;refine sp (λhc=>?_) (λhc=>?_)<;>try exact hc.elim)|refine sx ?_ ?_|refine sy ?_ ?_|fail
  refine cu (kX 6) ?_;rintro _ j2 g2 ⟨b,rfl⟩ hj2;simp only[AS.drew,AS.called,aU,AS.put,aQ,aM,fO,cB,fI,bS,fU,bZ,cH,cG,cY,cW,cM];cases b
  .have W:=trivial;repeat' first|refine st ?_|(refine nx ?_;refine so ?_)|(refine cx ?_;refine sc (λhc=>?_) (λhc=>?_)<;>try exact hc.elim)|(refine lx ?_;refine sp (λhc=>?_) (λhc=>?_)<;>try exact hc.elim)|refine sx ?_ ?_|refine sy ?_ ?_|fail
   refine⟨.inr rfl,pU (by simp[results162];rfl) (by rfl) (by rfl) (by omega) (by simp) (by simp) ?_⟩;simp only[single,res];exact⟨_,rfl,by omega⟩
  .have W:=trivial;repeat' first|refine st ?_|(refine nx ?_;refine so ?_)|(refine cx ?_;refine sc (λhc=>?_) (λhc=>?_)<;>try exact hc.elim)|(refine lx ?_;refine sp (λhc=>?_) (λhc=>?_)<;>try exact hc.elim)|refine sx ?_ ?_|refine sy ?_ ?_|fail
   refine mW (i:=1) (ver:=1) (by rfl) (by rfl) ?_ (by simp[AS.frozen,rW,rM,pW,rX,aD.pW,aD.kill,iL,pM,rt];rfl);refine cu (gF ([[60,112],[60],[101,110,100]]:List aX) (by decide)) ?_;rintro _ j3 g3 ⟨u,hm3,rfl⟩ su;simp only[AS.drew,AS.called,aU,AS.put,aQ,aM,fO,cB,fI,bS,fU,bZ,cH,cG,cY,cW,cM];have hu:=(by decide:∀s∈([[60,112],[60],[101,110,100]]:List aX),s.length<=3) u hm3;have Jk:s.length+u.length<=6300:=by omega
   have W:=Jk;repeat' first|refine st ?_|(refine nx ?_;refine so ?_)|(refine cx ?_;refine sc (λhc=>?_) (λhc=>?_)<;>try exact hc.elim)|(refine lx ?_;refine sp (λhc=>?_) (λhc=>?_)<;>try exact hc.elim)|refine sx ?_ ?_|refine sy ?_ ?_|fail
   refine⟨.inr rfl,pU (by simp[results162];rfl) (by rfl) (by rfl) (by omega) (by simp) (by simp) ?_⟩;simp only[single,res];exact⟨_,rfl,by simp;omega⟩
theorem MG[aB prog]:XP prog 34:=by
 refine aIy aJ func34 ntmps34 ?_;intro code hl;simp only[maxLen]at hl;have W:=trivial;repeat' first|refine st ?_|(refine nx ?_;refine so ?_)|(refine cx ?_;refine sc (λhc=>?_) (λhc=>?_)<;>try exact hc.elim)|(refine lx ?_;refine sp (λhc=>?_) (λhc=>?_)<;>try exact hc.elim)|refine sx ?_ ?_|refine sy ?_ ?_|fail
 refine aY (ι:={x:Nat×Int // x.1<=code.length}) (λt o y=>⟨bN t [(3,.int .i64 y.1.2),(4,.int .i64 (y.1.1:Int))],o⟩)
  (λy=>code.length-y.1.1) ⟨(0,i64.wrap (193017+(code.length:Int))),by simp⟩ aC ?_
 rintro⟨⟨k,g⟩,hk⟩ K1 hK1;simp only at hk;simp only[bN,cH,cG]at hK1⊢;by_cases hlt:k<code.length
 .have h1:(k:Int)<(code.length:Int):=by omega
  by_cases h2:(k:Int)<4000
  .have hg:=Pv (aE hlt);generalize code[k]=c at*;have hk1:=vJ (k:=k);have W:=aA h1 (aA h2 (aA hg hk1));repeat' first|refine st ?_|(refine nx ?_;refine so ?_)|(refine cx ?_;refine sc (λhc=>?_) (λhc=>?_)<;>try exact hc.elim)|(refine lx ?_;refine sp (λhc=>?_) (λhc=>?_)<;>try exact hc.elim)|refine sx ?_ ?_|refine sy ?_ ?_|fail
   refine hK1 _ ⟨(k+1,BH .and .i64 (i64.wrap (i64.wrap (i64.wrap (g*137)+i64.wrap (c.toNat:Int))+11)) 1073741823),by simp only;omega⟩ ?_ (by simp only;omega);exact aC (by simp) (by simp)
  .have W:=aA h1 h2;repeat' first|refine st ?_|(refine nx ?_;refine so ?_)|(refine cx ?_;refine sc (λhc=>?_) (λhc=>?_)<;>try exact hc.elim)|(refine lx ?_;refine sp (λhc=>?_) (λhc=>?_)<;>try exact hc.elim)|refine sx ?_ ?_|refine sy ?_ ?_|fail
   refine⟨.inr rfl,0,0,0,_,by first|(simp[results34];done)|(simp[results34];rfl),by first|rfl|(simp[aU];done)|(simp[aU];rfl),by omega⟩
 .have h1:¬(k:Int)<(code.length:Int):=by omega
  have W:=h1;repeat' first|refine st ?_|(refine nx ?_;refine so ?_)|(refine cx ?_;refine sc (λhc=>?_) (λhc=>?_)<;>try exact hc.elim)|(refine lx ?_;refine sp (λhc=>?_) (λhc=>?_)<;>try exact hc.elim)|refine sx ?_ ?_|refine sy ?_ ?_|fail
  refine⟨.inr rfl,0,0,0,_,by first|(simp[results34];done)|(simp[results34];rfl),by first|rfl|(simp[aU];done)|(simp[aU];rfl),by omega⟩
end Go.Proofs.YtjkdolejalpflaaGreatDoor
