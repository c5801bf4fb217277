/- Proved here: steps towards the statement of this claim. No condition. -/
import Derived.Test.YtnkpkklemmgapaaGreatDoorZQRC9
import Derived.Test.YtnkpkklemmgapaaGreatDoorZQJ7
set_option linter.all false
set_option maxRecDepth 4000
set_option maxHeartbeats 8000000
namespace Go.Proofs.YtnkpkklemmgapaaGreatDoor
open Go.Aw Proofs.Tryz List IntKind
theorem SC[aB prog]:Jo prog 180 [] (O5 40):=by
 refine Ec aO func180 ntmps180 ?_;intro code i h hi hl;simp only[aV];have W:=trivial;repeat' first|refine st ?_|(refine nx ?_;refine so ?_)|(refine cx ?_;refine sc (λhc=>?_) (λhc=>?_)<;>try exact hc.elim)|(refine lx ?_;refine sp (λhc=>?_) (λhc=>?_)<;>try exact hc.elim)|refine sx ?_ ?_|refine sy ?_ ?_|fail
 refine cu (kW 4) ?_;rintro _ i2 h2 ⟨x,rfl,x0,x1,x2⟩ hi2;simp only[AS.drew,AS.called,aV,AS.put,aJ,aH,eU,bS,eQ,bQ,eZ,bR,cH,cJ,eC,cY,cW];obtain⟨n,rfl⟩:=iS x0;have hn:n<=3:=by omega
 have W:=trivial;repeat' first|refine st ?_|(refine nx ?_;refine so ?_)|(refine cx ?_;refine sc (λhc=>?_) (λhc=>?_)<;>try exact hc.elim)|(refine lx ?_;refine sp (λhc=>?_) (λhc=>?_)<;>try exact hc.elim)|refine sx ?_ ?_|refine sy ?_ ?_|fail
 refine aI (ι:={x:Nat×aU×Int×Int // x.1<=3/\x.2.1.length+10*x.1<=30/\0<=x.2.2.1}) (λt o y=>⟨bH t [(3,.str y.1.2.1),(4,.int .i64 (y.1.1:Int))],[⟨true,true,3,2,[[.sl .view 1 (bA code),.int .i64 y.1.2.2.1,.int .i64 y.1.2.2.2]]⟩]⟩)
  (λy=>y.1.1) ⟨(n,[],i2,h2),hn,by simp;omega,hi2⟩ aG ?_
 rintro⟨⟨k,s,j,g⟩,hk,hs,hj⟩ K1 hK1;simp only at hk hs hj;have hK2:=hK1;simp only[bH,cH,cJ]at hK1⊢;clear hK1;by_cases h0:0<k
 .have hk0:(k:Int) > 0:=by omega
  have hk1:i64.wrap ((k:Int)-1)=((k-1:Nat):Int):=by rw[wrap64]<;>omega
  have W:=hk0;repeat' first|refine st ?_|(refine nx ?_;refine so ?_)|(refine cx ?_;refine sc (λhc=>?_) (λhc=>?_)<;>try exact hc.elim)|(refine lx ?_;refine sp (λhc=>?_) (λhc=>?_)<;>try exact hc.elim)|refine sx ?_ ?_|refine sy ?_ ?_|fail
  refine oI (i:=1) (ver:=1) (by rfl) (by rfl) ?_ (by simp[AS.frozen,uL,tZ,rW,uT,aD.rW,aD.kill,iI,qD,rt];rfl);refine cu (gT ([[112],[98],[112,97,103,101],[80],[]]:List aU) (by decide)) ?_;rintro _ j2 g2 ⟨u,WE,rfl⟩ hj2;simp only[AS.drew,AS.called,aV,AS.put,aJ,aH,eU,bS,eQ,bQ,eZ,bR,cH,cJ,eC,cY,cW];have hu:=(by decide:∀s∈([[112],[98],[112,97,103,101],[80],[]]:List aU),s.length<=4) u WE;have Ng:s.length+u.length+1<=6200:=by omega
  have W:=Ng;repeat' first|refine st ?_|(refine nx ?_;refine so ?_)|(refine cx ?_;refine sc (λhc=>?_) (λhc=>?_)<;>try exact hc.elim)|(refine lx ?_;refine sp (λhc=>?_) (λhc=>?_)<;>try exact hc.elim)|refine sx ?_ ?_|refine sy ?_ ?_|fail
  refine oI (i:=2) (ver:=1) (by rfl) (by rfl) ?_ (by simp[AS.frozen,uL,tZ,rW,uT,aD.rW,aD.kill,iI,qD,rt];rfl);refine cu (gT ([[49],[55],[57,57,57],[49,48,48,48],[48],[120]]:List aU) (by decide)) ?_;rintro _ j3 g3 ⟨q,hm3,rfl⟩ hj3;simp only[AS.drew,AS.called,aV,AS.put,aJ,aH,eU,bS,eQ,bQ,eZ,bR,cH,cJ,eC,cY,cW];have hq:=(by decide:∀s∈([[49],[55],[57,57,57],[49,48,48,48],[48],[120]]:List aU),s.length<=4) q hm3;have U6:s.length+u.length+1+q.length+1<=6200:=by omega
  have W:=aA hk1 U6;repeat' first|refine st ?_|(refine nx ?_;refine so ?_)|(refine cx ?_;refine sc (λhc=>?_) (λhc=>?_)<;>try exact hc.elim)|(refine lx ?_;refine sp (λhc=>?_) (λhc=>?_)<;>try exact hc.elim)|refine sx ?_ ?_|refine sy ?_ ?_|fail
  refine hK2 _ ⟨(k-1,s++u++[58]++q++[59],j3,g3),by simp only;omega,by simp;omega,hj3⟩ ?_ (by simp only;omega);exact aL 1 (by simp) (by simp) (by simp) (by simp)
 .have hk0:¬(k:Int) > 0:=by omega
  have W:=hk0;repeat' first|refine st ?_|(refine nx ?_;refine so ?_)|(refine cx ?_;refine sc (λhc=>?_) (λhc=>?_)<;>try exact hc.elim)|(refine lx ?_;refine sp (λhc=>?_) (λhc=>?_)<;>try exact hc.elim)|refine sx ?_ ?_|refine sy ?_ ?_|fail
  refine⟨.inr rfl,rJ (by simp[results180];rfl) (by rfl) (by rfl) (by omega) (by simp) (by simp) ?_⟩;simp only[single,res];exact⟨_,rfl,by omega⟩
theorem Fw[aB prog](N:Nat)(hN1:1<=N)(hN4:N<=4):Jo prog 144 [.int .i64 (N:Int)] (O5 (24*N)):=by
 refine Ec aO func144 ntmps144 ?_;intro code i h hi hl;simp only[aV];have W:=trivial;repeat' first|refine st ?_|(refine nx ?_;refine so ?_)|(refine cx ?_;refine sc (λhc=>?_) (λhc=>?_)<;>try exact hc.elim)|(refine lx ?_;refine sp (λhc=>?_) (λhc=>?_)<;>try exact hc.elim)|refine sx ?_ ?_|refine sy ?_ ?_|fail
 refine cu (kW (N:Int)) ?_;rintro _ i2 h2 ⟨x,rfl,x0,x1,x2⟩ hi2;simp only[AS.drew,AS.called,aV,AS.put,aJ,aH,eU,bS,eQ,bQ,eZ,bR,cH,cJ,eC,cY,cW];obtain⟨n,rfl⟩:=iS x0;have hn:n+1<=N:=by omega
 have hn1:i64.wrap (1+(n:Int))=((n+1:Nat):Int):=by rw[wrap64]<;>omega
 have W:=hn1;repeat' first|refine st ?_|(refine nx ?_;refine so ?_)|(refine cx ?_;refine sc (λhc=>?_) (λhc=>?_)<;>try exact hc.elim)|(refine lx ?_;refine sp (λhc=>?_) (λhc=>?_)<;>try exact hc.elim)|refine sx ?_ ?_|refine sy ?_ ?_|fail
 refine aI (ι:={x:Nat×aU×Int×Int // x.1<=4/\x.2.1.length+24*x.1<=24*N/\0<=x.2.2.1}) (λt o y=>⟨bH t [(5,.str y.1.2.1),(6,.int .i64 (y.1.1:Int))],[⟨true,true,3,2,[[.sl .view 1 (bA code),.int .i64 y.1.2.2.1,.int .i64 y.1.2.2.2]]⟩]⟩)
  (λy=>y.1.1) ⟨(n+1,[],i2,h2),by simp only;omega,by simp;omega,hi2⟩ aG ?_
 rintro⟨⟨k,s,j,g⟩,hk,hs,hj⟩ K1 hK1;simp only at hk hs hj;have hK2:=hK1;simp only[bH,cH,cJ]at hK1⊢;clear hK1;by_cases h0:0<k
 .have hk0:(k:Int) > 0:=by omega
  have hk1:i64.wrap ((k:Int)-1)=((k-1:Nat):Int):=by rw[wrap64]<;>omega
  have Mq:s.length+1<=6200:=by omega
  by_cases he:s=[]
  .subst he;have W:=hk0;repeat' first|refine st ?_|(refine nx ?_;refine so ?_)|(refine cx ?_;refine sc (λhc=>?_) (λhc=>?_)<;>try exact hc.elim)|(refine lx ?_;refine sp (λhc=>?_) (λhc=>?_)<;>try exact hc.elim)|refine sx ?_ ?_|refine sy ?_ ?_|fail
   refine oI (i:=1) (ver:=1) (by rfl) (by rfl) ?_ (by simp[AS.frozen,uL,tZ,rW,uT,aD.rW,aD.kill,iI,qD,rt];rfl);refine cu (gT ([[115,97,121,32,104,105],[99,111,117,110,116,32,112],[99,111,117,110,116,32,115,99,114,105,112,116],[108,111,111,107,32,112],[108,111,111,107,32,98],[97,100,100,32,98],[97,100,100,32,112],[119,114,105,116,101,32,91,112,93,120,91,47,112,93],[119,114,105,116,101,32,91,105,109,103,32,115,114,99,61,108,111,103,111,93],[119,114,105,116,101,32,91,108,105,110,107,32,104,114,101,102,61,115,116,121,108,101,93],[119,114,105,116,101,32,91,98,93]]:List aU) (by decide)) ?_;rintro _ j2 g2 ⟨u,WE,rfl⟩ hj2;simp only[AS.drew,AS.called,aV,AS.put,aJ,aH,eU,bS,eQ,bQ,eZ,bR,cH,cJ,eC,cY,cW];have hu:=(by decide:∀s∈([[115,97,121,32,104,105],[99,111,117,110,116,32,112],[99,111,117,110,116,32,115,99,114,105,112,116],[108,111,111,107,32,112],[108,111,111,107,32,98],[97,100,100,32,98],[97,100,100,32,112],[119,114,105,116,101,32,91,112,93,120,91,47,112,93],[119,114,105,116,101,32,91,105,109,103,32,115,114,99,61,108,111,103,111,93],[119,114,105,116,101,32,91,108,105,110,107,32,104,114,101,102,61,115,116,121,108,101,93],[119,114,105,116,101,32,91,98,93]]:List aU),s.length<=23) u WE;have Ng:u.length<=6200:=by omega
   have W:=aA hk1 Ng;repeat' first|refine st ?_|(refine nx ?_;refine so ?_)|(refine cx ?_;refine sc (λhc=>?_) (λhc=>?_)<;>try exact hc.elim)|(refine lx ?_;refine sp (λhc=>?_) (λhc=>?_)<;>try exact hc.elim)|refine sx ?_ ?_|refine sy ?_ ?_|fail
   refine hK2 _ ⟨(k-1,u,j2,g2),by simp only;omega,by simp only[eR]at hs⊢;omega,hj2⟩ ?_ (by simp only;omega);exact aL 1 (by simp) (by simp) (by simp) (by simp)
  .have W:=aA hk0 (aA he Mq);repeat' first|refine st ?_|(refine nx ?_;refine so ?_)|(refine cx ?_;refine sc (λhc=>?_) (λhc=>?_)<;>try exact hc.elim)|(refine lx ?_;refine sp (λhc=>?_) (λhc=>?_)<;>try exact hc.elim)|refine sx ?_ ?_|refine sy ?_ ?_|fail
   all_goals (try exact(he (by assumption)).elim)
   refine oI (i:=1) (ver:=1) (by rfl) (by rfl) ?_ (by simp[AS.frozen,uL,tZ,rW,uT,aD.rW,aD.kill,iI,qD,rt];rfl);refine cu (gT ([[115,97,121,32,104,105],[99,111,117,110,116,32,112],[99,111,117,110,116,32,115,99,114,105,112,116],[108,111,111,107,32,112],[108,111,111,107,32,98],[97,100,100,32,98],[97,100,100,32,112],[119,114,105,116,101,32,91,112,93,120,91,47,112,93],[119,114,105,116,101,32,91,105,109,103,32,115,114,99,61,108,111,103,111,93],[119,114,105,116,101,32,91,108,105,110,107,32,104,114,101,102,61,115,116,121,108,101,93],[119,114,105,116,101,32,91,98,93]]:List aU) (by decide)) ?_;rintro _ j2 g2 ⟨u,WE,rfl⟩ hj2;simp only[AS.drew,AS.called,aV,AS.put,aJ,aH,eU,bS,eQ,bQ,eZ,bR,cH,cJ,eC,cY,cW];have hu:=(by decide:∀s∈([[115,97,121,32,104,105],[99,111,117,110,116,32,112],[99,111,117,110,116,32,115,99,114,105,112,116],[108,111,111,107,32,112],[108,111,111,107,32,98],[97,100,100,32,98],[97,100,100,32,112],[119,114,105,116,101,32,91,112,93,120,91,47,112,93],[119,114,105,116,101,32,91,105,109,103,32,115,114,99,61,108,111,103,111,93],[119,114,105,116,101,32,91,108,105,110,107,32,104,114,101,102,61,115,116,121,108,101,93],[119,114,105,116,101,32,91,98,93]]:List aU),s.length<=23) u WE;have Ng:s.length+1+u.length<=6200:=by omega
   have W:=aA hk1 Ng;repeat' first|refine st ?_|(refine nx ?_;refine so ?_)|(refine cx ?_;refine sc (λhc=>?_) (λhc=>?_)<;>try exact hc.elim)|(refine lx ?_;refine sp (λhc=>?_) (λhc=>?_)<;>try exact hc.elim)|refine sx ?_ ?_|refine sy ?_ ?_|fail
   refine hK2 _ ⟨(k-1,s++[59]++u,j2,g2),by simp only;omega,by simp;omega,hj2⟩ ?_ (by simp only;omega);exact aL 1 (by simp) (by simp) (by simp) (by simp)
 .have hk0:¬(k:Int) > 0:=by omega
  have W:=hk0;repeat' first|refine st ?_|(refine nx ?_;refine so ?_)|(refine cx ?_;refine sc (λhc=>?_) (λhc=>?_)<;>try exact hc.elim)|(refine lx ?_;refine sp (λhc=>?_) (λhc=>?_)<;>try exact hc.elim)|refine sx ?_ ?_|refine sy ?_ ?_|fail
  refine⟨.inr rfl,rJ (by simp[results144];rfl) (by rfl) (by rfl) (by omega) (by simp) (by simp) ?_⟩;simp only[single,res];exact⟨_,rfl,by omega⟩
def Je:List aU:=[[104,111,109,101],[99,100,110],[101,118,105,108]]
def aMm(r:AV):Prop:=∃l:List aU,r= .sl .own 1 (l.map dQ)/\l.length<=3/\∀s∈l,s.length<=4
theorem Dy[aB prog]:Jo prog 184 [] aMm:=by
 refine Ec aO func184 ntmps184 ?_;intro code i h hi hl;simp only[aV];have W:=trivial;repeat' first|refine st ?_|(refine nx ?_;refine so ?_)|(refine cx ?_;refine sc (λhc=>?_) (λhc=>?_)<;>try exact hc.elim)|(refine lx ?_;refine sp (λhc=>?_) (λhc=>?_)<;>try exact hc.elim)|refine sx ?_ ?_|refine sy ?_ ?_|fail
 refine aI (ι:={x:Nat×List aU×Nat×Int×Int // x.1<=3/\x.2.1.length<=x.1/\(∀s∈x.2.1,s.length<=4)/\1<=x.2.2.1/\0<=x.2.2.2.1}) (λt o y=>⟨bH t [(3,.obj 1 y.1.2.2.1),(5,.undef),(9,.int .i64 (y.1.1:Int))],[⟨true,true,3,2,[[.sl .view 1 (bA code),.int .i64 y.1.2.2.2.1,.int .i64 y.1.2.2.2.2]]⟩,⟨true,false,1,y.1.2.2.1,y.1.2.1.map dQ⟩,⟨true,false,1,1,Je.map dQ⟩]⟩)
  (λy=>3-y.1.1) ⟨(0,[],1,i,h),by simp,by simp,by simp,by simp,hi⟩ (aG (by simp[Je]) (by simp)) ?_
 rintro⟨⟨k,l,v,j,g⟩,hk,hlk,hs,hv,hj⟩ K1 hK1;simp only at hk hlk hs hv hj;have hK2:=hK1;simp only[bH,cH,cJ]at hK1⊢;clear hK1;have h3:Je.length=3:=rfl;by_cases h0:k<3
 .have hk0:(k:Int)<3:=by omega
  have hk1:=rE (k:=k);have hlt:k<Je.length:=by omega
  have hg:=aE hlt;have hu:=(by decide:∀s∈Je,s.length<=4) _ (hI hlt);generalize Je[k]=u at*;generalize Je=H at*;have W:=aA hk0 hg;repeat' first|refine st ?_|(refine nx ?_;refine so ?_)|(refine cx ?_;refine sc (λhc=>?_) (λhc=>?_)<;>try exact hc.elim)|(refine lx ?_;refine sp (λhc=>?_) (λhc=>?_)<;>try exact hc.elim)|refine sx ?_ ?_|refine sy ?_ ?_|fail
  refine cu (iA 2) ?_;rintro _ j2 g2 ⟨b,rfl⟩ hj2;simp only[AS.drew,AS.called,aV,AS.put,aJ,aH,eU,bS,eQ,bQ,eZ,bR,cH,cJ,eC,cY,cW];cases b
  .have W:=hk1;repeat' first|refine st ?_|(refine nx ?_;refine so ?_)|(refine cx ?_;refine sc (λhc=>?_) (λhc=>?_)<;>try exact hc.elim)|(refine lx ?_;refine sp (λhc=>?_) (λhc=>?_)<;>try exact hc.elim)|refine sx ?_ ?_|refine sy ?_ ?_|fail
   refine hK2 _ ⟨(k+1,l,v,j2,g2),by simp only;omega,by simp only;omega,hs,hv,hj2⟩ ?_ (by simp only;omega);exact aL 3 (by simp) (by simp) (by simp) (by simp)
  .obtain ⟨l1,hl1⟩:∃m,m=l++[u]:=⟨_,rfl⟩;have hap:l.map dQ++[[.str u]]=l1.map dQ:=by rw[hl1];simp
   have hl2:l1.length=l.length+1:=by rw[hl1];simp
   have hs1:∀s∈l1,s.length<=4:=λs hm=>by
    rw[hl1]at hm;rcases fS.1 hm with h|h
    .exact hs s h
    .simp only[nF]at h;subst h;exact hu
   have hb1:(l.length+1)*16<=140737488355328:=by omega
   have hb2:l.length+1<=9223372036854775807:=by omega
   have VL:l.length<=9223372036854775806:=by omega
   have W:=aA hk1 (aA hap (aA hb1 (aA hb2 VL)));repeat' first|refine st ?_|(refine nx ?_;refine so ?_)|(refine cx ?_;refine sc (λhc=>?_) (λhc=>?_)<;>try exact hc.elim)|(refine lx ?_;refine sp (λhc=>?_) (λhc=>?_)<;>try exact hc.elim)|refine sx ?_ ?_|refine sy ?_ ?_|fail
   refine hK2 _ ⟨(k+1,l1,v+1,j2,g2),by simp only;omega,by simp only;omega,hs1,by simp only;omega,hj2⟩ ?_ (by simp only;omega);exact aL 3 (by simp) (by simp) (by simp) (by simp)
 .have hk0:¬(k:Int)<3:=by omega
  have W:=hk0;repeat' first|refine st ?_|(refine nx ?_;refine so ?_)|(refine cx ?_;refine sc (λhc=>?_) (λhc=>?_)<;>try exact hc.elim)|(refine lx ?_;refine sp (λhc=>?_) (λhc=>?_)<;>try exact hc.elim)|refine sx ?_ ?_|refine sy ?_ ?_|fail
  refine⟨.inr rfl,rJ (by simp[results184];rfl) (by rfl) (by rfl) (by omega) (by simp) (by simp) ?_⟩;simp only[single,res];exact⟨l,by simp[AV.isObj],by omega,hs⟩
theorem QY{l:List aU}(h:l.length<=3)(hs:∀s∈l,s.length<=4):bV dI l<=15:=by
 have key:∀l:List aU,(∀s∈l,s.length<=4)->bB dI l<=4*l.length:=by
  intro l;induction l with
  |nil=>intro _;simp[bB]
  |cons x l ih=>intro hs;have h1:=hs x (by simp);have h2:=ih (λs hm=>hs s (by simp[hm]));simp only[bB,dI,dT];omega
 have:=key l hs;simp only[bV];omega
def aIp(r:AV):Prop:=∃p:fU,r= .agg (dK .own p)/\gF p<=60
theorem Fx[aB prog]:Jo prog 140 [] aIp:=by
 refine Ec aO func140 ntmps140 ?_;intro code i h hi hl;simp only[aV];have W:=trivial;repeat' first|refine st ?_|(refine nx ?_;refine so ?_)|(refine cx ?_;refine sc (λhc=>?_) (λhc=>?_)<;>try exact hc.elim)|(refine lx ?_;refine sp (λhc=>?_) (λhc=>?_)<;>try exact hc.elim)|refine sx ?_ ?_|refine sy ?_ ?_|fail
 refine cu (iA 2) ?_;rintro _ i2 h2 ⟨b,rfl⟩ hi2;simp only[AS.drew,AS.called,aV,AS.put,aJ,aH,eU,bS,eQ,bQ,eZ,bR,cH,cJ,eC,cY,cW];cases b
 .have W:=trivial;repeat' first|refine st ?_|(refine nx ?_;refine so ?_)|(refine cx ?_;refine sc (λhc=>?_) (λhc=>?_)<;>try exact hc.elim)|(refine lx ?_;refine sp (λhc=>?_) (λhc=>?_)<;>try exact hc.elim)|refine sx ?_ ?_|refine sy ?_ ?_|fail
  refine cu (Dy) ?_;rintro _ i3 h3 ⟨l1,rfl,n1,s1⟩ hi3;simp only[AS.drew,AS.called,aV,AS.put,aJ,aH,eU,bS,eQ,bQ,eZ,bR,cH,cJ,eC,cY,cW];have z1:=QY n1 s1;have W:=trivial;repeat' first|refine st ?_|(refine nx ?_;refine so ?_)|(refine cx ?_;refine sc (λhc=>?_) (λhc=>?_)<;>try exact hc.elim)|(refine lx ?_;refine sp (λhc=>?_) (λhc=>?_)<;>try exact hc.elim)|refine sx ?_ ?_|refine sy ?_ ?_|fail
  refine cu (Dy) ?_;rintro _ i4 h4 ⟨l2,rfl,n2,s2⟩ hi4;simp only[AS.drew,AS.called,aV,AS.put,aJ,aH,eU,bS,eQ,bQ,eZ,bR,cH,cJ,eC,cY,cW];have z2:=QY n2 s2;have W:=trivial;repeat' first|refine st ?_|(refine nx ?_;refine so ?_)|(refine cx ?_;refine sc (λhc=>?_) (λhc=>?_)<;>try exact hc.elim)|(refine lx ?_;refine sp (λhc=>?_) (λhc=>?_)<;>try exact hc.elim)|refine sx ?_ ?_|refine sy ?_ ?_|fail
  refine cu (Dy) ?_;rintro _ i5 h5 ⟨l3,rfl,n3,s3⟩ hi5;simp only[AS.drew,AS.called,aV,AS.put,aJ,aH,eU,bS,eQ,bQ,eZ,bR,cH,cJ,eC,cY,cW];have z3:=QY n3 s3;have W:=trivial;repeat' first|refine st ?_|(refine nx ?_;refine so ?_)|(refine cx ?_;refine sc (λhc=>?_) (λhc=>?_)<;>try exact hc.elim)|(refine lx ?_;refine sp (λhc=>?_) (λhc=>?_)<;>try exact hc.elim)|refine sx ?_ ?_|refine sy ?_ ?_|fail
  refine cu (iA 2) ?_;rintro _ i6 h6 ⟨b,rfl⟩ hi6;simp only[AS.drew,AS.called,aV,AS.put,aJ,aH,eU,bS,eQ,bQ,eZ,bR,cH,cJ,eC,cY,cW];cases b
  .have W:=trivial;repeat' first|refine st ?_|(refine nx ?_;refine so ?_)|(refine cx ?_;refine sc (λhc=>?_) (λhc=>?_)<;>try exact hc.elim)|(refine lx ?_;refine sp (λhc=>?_) (λhc=>?_)<;>try exact hc.elim)|refine sx ?_ ?_|refine sy ?_ ?_|fail
   refine⟨.inr rfl,rJ (by simp[results140];rfl) (by rfl) (by rfl) (by omega) (by simp) (by simp) ?_⟩;simp only[single,res];exact⟨⟨true,l1,l2,l3,[]⟩,by simp[rC,res,AV.isObj],by simp only[gF,eR];omega⟩
  .have W:=trivial;repeat' first|refine st ?_|(refine nx ?_;refine so ?_)|(refine cx ?_;refine sc (λhc=>?_) (λhc=>?_)<;>try exact hc.elim)|(refine lx ?_;refine sp (λhc=>?_) (λhc=>?_)<;>try exact hc.elim)|refine sx ?_ ?_|refine sy ?_ ?_|fail
   refine⟨.inr rfl,rJ (by simp[results140];rfl) (by rfl) (by rfl) (by omega) (by simp) (by simp) ?_⟩;simp only[single,res];exact⟨⟨true,l1,l2,l3,[110,55]⟩,by simp[rC,res,AV.isObj],by simp only[gF,dT,eR];omega⟩
 .have W:=trivial;repeat' first|refine st ?_|(refine nx ?_;refine so ?_)|(refine cx ?_;refine sc (λhc=>?_) (λhc=>?_)<;>try exact hc.elim)|(refine lx ?_;refine sp (λhc=>?_) (λhc=>?_)<;>try exact hc.elim)|refine sx ?_ ?_|refine sy ?_ ?_|fail
  refine⟨.inr rfl,aP9 (k:=1) (by simp[AS.EF,AS.Ce,AS.rv,results140];rfl) (by rfl) (by rfl) (by omega) (by simp) (by simp) (by simp) (by simp) ?_⟩;simp only[single,res];exact⟨⟨false,[],[],[],[]⟩,by simp[rC,res,AV.isObj],by decide⟩
theorem Zl[aB prog](k:Int):Jo prog 138 [.int .i64 k] (O5 520):=by
 refine Ec aO func138 ntmps138 ?_;intro code i h hi hl;simp only[aV];by_cases k2:k=2
 .subst k2;have W:=trivial;repeat' first|refine st ?_|(refine nx ?_;refine so ?_)|(refine cx ?_;refine sc (λhc=>?_) (λhc=>?_)<;>try exact hc.elim)|(refine lx ?_;refine sp (λhc=>?_) (λhc=>?_)<;>try exact hc.elim)|refine sx ?_ ?_|refine sy ?_ ?_|fail
  refine cu (Fw 3 (by omega) (by omega)) ?_;rintro _ i2 h2 ⟨s,rfl,hs⟩ hi2;simp only[AS.drew,AS.called,aV,AS.put,aJ,aH,eU,bS,eQ,bQ,eZ,bR,cH,cJ,eC,cY,cW];have W:=trivial;repeat' first|refine st ?_|(refine nx ?_;refine so ?_)|(refine cx ?_;refine sc (λhc=>?_) (λhc=>?_)<;>try exact hc.elim)|(refine lx ?_;refine sp (λhc=>?_) (λhc=>?_)<;>try exact hc.elim)|refine sx ?_ ?_|refine sy ?_ ?_|fail
  refine⟨.inr rfl,rJ (by simp[results138];rfl) (by rfl) (by rfl) (by omega) (by simp) (by simp) ?_⟩;simp only[single,res];exact⟨_,rfl,by omega⟩
 .by_cases k3:k=3
  .subst k3;have W:=trivial;repeat' first|refine st ?_|(refine nx ?_;refine so ?_)|(refine cx ?_;refine sc (λhc=>?_) (λhc=>?_)<;>try exact hc.elim)|(refine lx ?_;refine sp (λhc=>?_) (λhc=>?_)<;>try exact hc.elim)|refine sx ?_ ?_|refine sy ?_ ?_|fail
   refine cu (SC) ?_;rintro _ i2 h2 ⟨s,rfl,hs⟩ hi2;simp only[AS.drew,AS.called,aV,AS.put,aJ,aH,eU,bS,eQ,bQ,eZ,bR,cH,cJ,eC,cY,cW];have W:=trivial;repeat' first|refine st ?_|(refine nx ?_;refine so ?_)|(refine cx ?_;refine sc (λhc=>?_) (λhc=>?_)<;>try exact hc.elim)|(refine lx ?_;refine sp (λhc=>?_) (λhc=>?_)<;>try exact hc.elim)|refine sx ?_ ?_|refine sy ?_ ?_|fail
   refine⟨.inr rfl,rJ (by simp[results138];rfl) (by rfl) (by rfl) (by omega) (by simp) (by simp) ?_⟩;simp only[single,res];exact⟨_,rfl,by omega⟩
  .by_cases k5:k=5
   .subst k5;have W:=trivial;repeat' first|refine st ?_|(refine nx ?_;refine so ?_)|(refine cx ?_;refine sc (λhc=>?_) (λhc=>?_)<;>try exact hc.elim)|(refine lx ?_;refine sp (λhc=>?_) (λhc=>?_)<;>try exact hc.elim)|refine sx ?_ ?_|refine sy ?_ ?_|fail
    refine oI (i:=1) (ver:=1) (by rfl) (by rfl) ?_ (by simp[AS.frozen,uL,tZ,rW,uT,aD.rW,aD.kill,iI,qD,rt];rfl);refine cu (gT ([[],[105,109,112,111,114,116,32,117,116,105,108,59],[105,109,112,111,114,116,32,108,105,98,59],[105,109,112,111,114,116,32,99,100,110,47,108,105,98,59],[105,109,112,111,114,116,32,97,112,112,59,105,109,112,111,114,116,32,117,116,105,108,59]]:List aU) (by decide)) ?_;rintro _ j2 g2 ⟨u,WE,rfl⟩ hj2;simp only[AS.drew,AS.called,aV,AS.put,aJ,aH,eU,bS,eQ,bQ,eZ,bR,cH,cJ,eC,cY,cW];have hu:=(by decide:∀s∈([[],[105,109,112,111,114,116,32,117,116,105,108,59],[105,109,112,111,114,116,32,108,105,98,59],[105,109,112,111,114,116,32,99,100,110,47,108,105,98,59],[105,109,112,111,114,116,32,97,112,112,59,105,109,112,111,114,116,32,117,116,105,108,59]]:List aU),s.length<=23) u WE;have W:=trivial;repeat' first|refine st ?_|(refine nx ?_;refine so ?_)|(refine cx ?_;refine sc (λhc=>?_) (λhc=>?_)<;>try exact hc.elim)|(refine lx ?_;refine sp (λhc=>?_) (λhc=>?_)<;>try exact hc.elim)|refine sx ?_ ?_|refine sy ?_ ?_|fail
    refine oI (i:=2) (ver:=1) (by rfl) (by rfl) ?_ (by simp[AS.frozen,uL,tZ,rW,uT,aD.rW,aD.kill,iI,qD,rt];rfl);refine cu (gT ([[115,97,121,32,109],[99,111,117,110,116,32,112],[97,100,100,32,98],[108,111,111,107,32,112]]:List aU) (by decide)) ?_;rintro _ j3 g3 ⟨q,hm3,rfl⟩ hj3;simp only[AS.drew,AS.called,aV,AS.put,aJ,aH,eU,bS,eQ,bQ,eZ,bR,cH,cJ,eC,cY,cW];have hq:=(by decide:∀s∈([[115,97,121,32,109],[99,111,117,110,116,32,112],[97,100,100,32,98],[108,111,111,107,32,112]]:List aU),s.length<=7) q hm3;have U6:u.length+q.length<=6200:=by omega
    have W:=U6;repeat' first|refine st ?_|(refine nx ?_;refine so ?_)|(refine cx ?_;refine sc (λhc=>?_) (λhc=>?_)<;>try exact hc.elim)|(refine lx ?_;refine sp (λhc=>?_) (λhc=>?_)<;>try exact hc.elim)|refine sx ?_ ?_|refine sy ?_ ?_|fail
    refine⟨.inr rfl,rJ (by simp[results138];rfl) (by rfl) (by rfl) (by omega) (by simp) (by simp) ?_⟩;simp only[single,res];exact⟨_,rfl,by simp;omega⟩
   .by_cases k4:k=4
    .subst k4;have W:=trivial;repeat' first|refine st ?_|(refine nx ?_;refine so ?_)|(refine cx ?_;refine sc (λhc=>?_) (λhc=>?_)<;>try exact hc.elim)|(refine lx ?_;refine sp (λhc=>?_) (λhc=>?_)<;>try exact hc.elim)|refine sx ?_ ?_|refine sy ?_ ?_|fail
     refine⟨.inr rfl,rJ (by simp[results138];rfl) (by rfl) (by rfl) (by omega) (by simp) (by simp) ?_⟩;simp only[single,res];exact⟨_,rfl,by decide⟩
    .have W:=aA k2 (aA k3 (aA k5 k4));repeat' first|refine st ?_|(refine nx ?_;refine so ?_)|(refine cx ?_;refine sc (λhc=>?_) (λhc=>?_)<;>try exact hc.elim)|(refine lx ?_;refine sp (λhc=>?_) (λhc=>?_)<;>try exact hc.elim)|refine sx ?_ ?_|refine sy ?_ ?_|fail
     refine cu (VY 8 (by omega)) ?_;rintro _ i2 h2 ⟨s,rfl,hs⟩ hi2;simp only[AS.drew,AS.called,aV,AS.put,aJ,aH,eU,bS,eQ,bQ,eZ,bR,cH,cJ,eC,cY,cW];have W:=trivial;repeat' first|refine st ?_|(refine nx ?_;refine so ?_)|(refine cx ?_;refine sc (λhc=>?_) (λhc=>?_)<;>try exact hc.elim)|(refine lx ?_;refine sp (λhc=>?_) (λhc=>?_)<;>try exact hc.elim)|refine sx ?_ ?_|refine sy ?_ ?_|fail
     refine⟨.inr rfl,rJ (by simp[results138];rfl) (by rfl) (by rfl) (by omega) (by simp) (by simp) ?_⟩;simp only[single,res];exact⟨_,rfl,by omega⟩
theorem aEr(l:List aU):(Lib.joinTail [32] l).length=bV dI l:=by
 unfold Lib.joinTail;induction l with
 |nil=>simp[bV,bB]
 |cons x l ih=>simp only[bV,bB,dI,dT]at ih⊢;simp only[lA,pH,eM,dT,eR,ih];omega
theorem qc(w:aU)(l:List aU):(words w l).length=w.length+bV dI l:=by unfold words;rw[Lib.join_cons,eM,aEr]
theorem yu(p:fU):(nG p).length<=gF p+40:=by
 unfold nG;split
 .have h:(VT p.vQ).length<=p.vQ.length+10:=by unfold VT;split<;>simp[mg]<;>omega
  simp only[eM,dT,qc,gF,Bv,Ff,YT,eR];omega
 .simp
def aQe(n:Nat)(r:AV):Prop:=∃x:bE,r= .agg (cZ x)/\dE x<=n
theorem qZ[aB prog](k:Int):Jo prog 100 [.int .i64 k] (aQe 620):=by
 refine Ec aO func100 ntmps100 ?_;intro code i h hi hl;simp only[aV];have W:=trivial;repeat' first|refine st ?_|(refine nx ?_;refine so ?_)|(refine cx ?_;refine sc (λhc=>?_) (λhc=>?_)<;>try exact hc.elim)|(refine lx ?_;refine sp (λhc=>?_) (λhc=>?_)<;>try exact hc.elim)|refine sx ?_ ?_|refine sy ?_ ?_|fail
 refine cu (Zl k) ?_;rintro _ i2 h2 ⟨s,rfl,hs⟩ hi2;simp only[AS.drew,AS.called,aV,AS.put,aJ,aH,eU,bS,eQ,bQ,eZ,bR,cH,cJ,eC,cY,cW];have W:=trivial;repeat' first|refine st ?_|(refine nx ?_;refine so ?_)|(refine cx ?_;refine sc (λhc=>?_) (λhc=>?_)<;>try exact hc.elim)|(refine lx ?_;refine sp (λhc=>?_) (λhc=>?_)<;>try exact hc.elim)|refine sx ?_ ?_|refine sy ?_ ?_|fail
 refine oI (i:=2) (ver:=1) (by rfl) (by rfl) ?_ (by simp[AS.frozen,uL,tZ,rW,uT,aD.rW,aD.kill,iI,qD,rt];rfl);refine cu (Jd [0,5,50] (by decide)) ?_;rintro _ i3 h3 ⟨x,hx,rfl⟩ hi3;simp only[AS.drew,AS.called,aV,AS.put,aJ,aH,eU,bS,eQ,bQ,eZ,bR,cH,cJ,eC,cY,cW];have W:=trivial;repeat' first|refine st ?_|(refine nx ?_;refine so ?_)|(refine cx ?_;refine sc (λhc=>?_) (λhc=>?_)<;>try exact hc.elim)|(refine lx ?_;refine sp (λhc=>?_) (λhc=>?_)<;>try exact hc.elim)|refine sx ?_ ?_|refine sy ?_ ?_|fail
 refine cu (iA 2) ?_;rintro _ i4 h4 ⟨b,rfl⟩ hi4;simp only[AS.drew,AS.called,aV,AS.put,aJ,aH,eU,bS,eQ,bQ,eZ,bR,cH,cJ,eC,cY,cW];by_cases k1:k=1
 .subst k1;have W:=trivial;repeat' first|refine st ?_|(refine nx ?_;refine so ?_)|(refine cx ?_;refine sc (λhc=>?_) (λhc=>?_)<;>try exact hc.elim)|(refine lx ?_;refine sp (λhc=>?_) (λhc=>?_)<;>try exact hc.elim)|refine sx ?_ ?_|refine sy ?_ ?_|fail
  refine cu (Fx) ?_;rintro _ i5 h5 ⟨p,rfl,hp⟩ hi5;simp only[AS.drew,AS.called,aV,AS.put,aJ,aH,eU,bS,eQ,bQ,eZ,bR,cH,cJ,eC,cY,cW];have hf:=uO p (by omega);have hfl:=yu p;generalize nG p=fp at*;simp only[dK]at hf⊢;have W:=trivial;repeat' first|refine st ?_|(refine nx ?_;refine so ?_)|(refine cx ?_;refine sc (λhc=>?_) (λhc=>?_)<;>try exact hc.elim)|(refine lx ?_;refine sp (λhc=>?_) (λhc=>?_)<;>try exact hc.elim)|refine sx ?_ ?_|refine sy ?_ ?_|fail
  refine⟨.inr rfl,rJ (by simp[results100];rfl) (by rfl) (by rfl) (by omega) (by simp) (by simp) ?_⟩;simp only[single,res];exact⟨⟨200,1,s,x,b,fp⟩,rfl,by simp only[dE];omega⟩
 .have W:=k1;repeat' first|refine st ?_|(refine nx ?_;refine so ?_)|(refine cx ?_;refine sc (λhc=>?_) (λhc=>?_)<;>try exact hc.elim)|(refine lx ?_;refine sp (λhc=>?_) (λhc=>?_)<;>try exact hc.elim)|refine sx ?_ ?_|refine sy ?_ ?_|fail
  refine⟨.inr rfl,rJ (by simp[results100];rfl) (by rfl) (by rfl) (by omega) (by simp) (by simp) ?_⟩;simp only[single,res];exact⟨⟨200,k,s,x,b,[]⟩,rfl,by simp only[dE,eR];omega⟩
def aT9(n:Nat)(r:AV):Prop:=∃(l':List fE) (b:Bool),r= .iP [.sl .view 2 (l'.map (bN .view)),.bool b]/\bV bT l'<=n
theorem rA[aB prog][dY prog](l:List fE)(a:aK)(x:bE)(hs:bV bT l+aP a+dE x<=1048576):ug prog 99 [.sl .view 2 (l.map (bN .view)),.agg (bC a),.agg (cZ x)] (aT9 (bV bT l+(2*aP a+dE x+5))):=
 (QU l a x hs).Dt λr ⟨l',b,e,h⟩=>⟨l',b,by subst e;simp[rt,qD],h⟩
def qd:List aU:=[[104,111,109,101],[99,100,110],[101,118,105,108]]
def qf:List aU:=[[97,112,112],[108,105,98],[117,116,105,108]]
theorem O7:∀s∈qd,s.length<=5:=by decide
theorem O8:∀s∈qf,s.length<=5:=by decide
def aUa(n:Nat)(r:AV):Prop:=∃l:List fE,r= .sl .view 2 (l.map (bN .view))/\bV bT l<=n
theorem QZ[aB prog][dY prog]:Jo prog 71 [] (aUa 24000):=by
 refine Ec aO func71 ntmps71 ?_;intro code i h hi hl;simp only[aV];have W:=trivial;repeat' first|refine st ?_|(refine nx ?_;first|refine se ?_|refine so ?_)|(refine cx ?_;refine sc (λhc=>?_) (λhc=>?_)<;>try exact hc.elim)|(refine lx ?_;refine sp (λhc=>?_) (λhc=>?_)<;>try exact hc.elim)|refine sx ?_ ?_|refine sy ?_ ?_|fail
 obtain⟨H,hH,hHn,hHl⟩:∃H:List aU,qd.map dQ=H.map dQ/\H.length=3/\∀s∈H,s.length<=5:=⟨qd,rfl,rfl,O7⟩;refine aI (ι:={y:Nat×List fE×Int×Int // y.1<=3/\bV bT y.2.1<=7000*y.1/\0<=y.2.2.1}) (λt o y=>⟨[.ptr 0 2 0 0,.undef,.undef,.sl .view 2 (y.1.2.1.map (bN .view)),.undef,.undef,.undef,.undef,.undef,.undef,.obj 2 1,.int .i64 3,.int .i64 (y.1.1:Int),.undef,.undef,.undef,.undef,.undef,.undef,.undef,.undef,.undef,.undef,.undef,.undef,.undef,.undef,.undef,.undef,.undef,.undef,.undef,.undef,.undef,.undef,.undef,.undef,.undef,.undef,.undef,.undef,.undef,.undef,.undef,.undef,.undef,.undef,.undef,.undef,.undef,.undef,.undef,.undef,.undef,.undef,.undef,.undef,.undef,.undef,.undef,.undef,.undef,.undef,.undef,.undef,.undef,.undef,.undef,.undef,.undef,.undef,.undef,.undef,.undef,.undef,.undef,.undef,.undef,.undef,.undef,.undef,.undef,.undef,.undef,.undef],[⟨true,true,3,2,[[.sl .view 1 (bA code),.int .i64 y.1.2.2.1,.int .i64 y.1.2.2.2]]⟩,⟨false,false,2,1,[]⟩,⟨true,false,1,1,H.map dQ⟩]⟩)
  (λy=>3-y.1.1) ⟨(0,[],i,h),by simp,by simp[bV,bB],hi⟩ (O4 1 1 3 (by rfl) rfl (by rw[<-hH];simp[tZ,aD.kill,rW,uT];rfl) (by simp[uL,rW]) (by simp) (by simp)) ?_
 clear hH;rintro⟨⟨k,sv,i,h⟩,hk,hz,hi⟩ K1 hK1;simp only at hk hz hi;have hK2:=hK1;clear hK1;simp only;by_cases hlt:k<3
 .have hki:(k:Int)<3:=by omega
  have hkl:(k:Int)<(H.length:Int):=by omega
  obtain⟨s,hg⟩:∃s,H[k]? =some s:=⟨_,aE (by omega)⟩;have hsl:s.length<=5:=hHl s (mB hg);clear hlt;have W:=aA hki (aA hkl hg);repeat' first|refine st ?_|(refine nx ?_;first|refine se ?_|refine so ?_)|(refine cx ?_;refine sc (λhc=>?_) (λhc=>?_)<;>try exact hc.elim)|(refine lx ?_;refine sp (λhc=>?_) (λhc=>?_)<;>try exact hc.elim)|refine sx ?_ ?_|refine sy ?_ ?_|fail
  obtain⟨J,hJ,hJn,hJl⟩:∃J:List aU,qf.map dQ=J.map dQ/\J.length=3/\∀s∈J,s.length<=5:=⟨qf,rfl,rfl,O8⟩;refine aI (ι:={y:Nat×List fE×Int×Int // y.1<=3/\bV bT y.2.1<=7000*k+1400*y.1/\0<=y.2.2.1}) (λt o y=>⟨[.ptr 0 2 0 0,.undef,.undef,.sl .view 2 (y.1.2.1.map (bN .view)),.undef,.str s,.undef,.undef,.undef,.undef,.obj 2 1,.int .i64 3,.int .i64 (k:Int),.undef,.undef,.undef,.obj 3 1,.int .i64 3,.int .i64 (y.1.1:Int),.undef,.undef,.undef,.undef,.undef,.undef,.undef,.undef,.undef,.undef,.undef,.undef,.undef,.undef,.undef,.undef,.undef,.undef,.undef,.undef,.undef,.undef,.undef,.undef,.undef,.undef,.undef,.undef,.undef,.undef,.undef,.undef,.undef,.undef,.undef,.undef,.undef,.undef,.undef,.undef,.undef,.undef,.undef,.undef,.undef,.undef,.undef,.undef,.undef,.undef,.undef,.undef,.undef,.undef,.undef,.undef,.undef,.undef,.undef,.undef,.undef,.undef,.undef,.undef,.undef,.undef],[⟨true,true,3,2,[[.sl .view 1 (bA code),.int .i64 y.1.2.2.1,.int .i64 y.1.2.2.2]]⟩,⟨false,false,2,1,[]⟩,⟨true,false,1,1,H.map dQ⟩,⟨true,false,1,1,J.map dQ⟩]⟩)
   (λy=>3-y.1.1) ⟨(0,sv,i,h),by simp,by simp only;omega,hi⟩ (aG (by rw[<-hJ];rfl) (by simp)) ?_
  clear hJ;rintro⟨⟨j,sv,i,h⟩,hj,hz,hi⟩ K3 hK3;simp only at hj hz hi;have hK4:=hK3;clear hK3;simp only;have hj1:i64.wrap ((j:Int)+1)=((j+1:Nat):Int):=by rw[wrap64]<;>omega
  by_cases hjt:j<3
  .have hji:(j:Int)<3:=by omega
   have hjl:(j:Int)<(J.length:Int):=by omega
   obtain⟨q,hgq⟩:∃q,J[j]? =some q:=⟨_,aE (by omega)⟩;have hql:q.length<=5:=hJl q (mB hgq);clear hjt;cases hq:(q == [97,112,112])
   .have W:=aA hji (aA hjl (aA hgq hq));repeat' first|(refine go_takeC (by rfl) (by first|rfl|(simp[nI,W];done)|(simp[nI,W];rfl)) ?_;refine cu (iA 2) ?_)|refine st ?_|(refine nx ?_;refine so ?_)|(refine cx ?_;refine sc (λhc=>?_) (λhc=>?_)<;>try exact hc.elim)|(refine lx ?_;refine sp (λhc=>?_) (λhc=>?_)<;>try exact hc.elim)|refine sx ?_ ?_|refine sy ?_ ?_|fail
    rintro _ i2 h2 ⟨b,rfl⟩ hi2;simp only[AS.drew,AS.called,aV,AS.put,aJ,aH,eU,bS,eQ,bQ,eZ,bR,cH,cJ,eC,cY,cW];cases b
    .have W:=hq;repeat' first|refine st ?_|(refine nx ?_;first|refine se ?_|refine so ?_)|(refine cx ?_;refine sc (λhc=>?_) (λhc=>?_)<;>try exact hc.elim)|(refine lx ?_;refine sp (λhc=>?_) (λhc=>?_)<;>try exact hc.elim)|refine sx ?_ ?_|refine sy ?_ ?_|fail
     refine cu (iA 6) ?_;rintro _ i3 h3 ⟨b2,rfl⟩ hi3;simp only[AS.drew,AS.called,aV,AS.put,aJ,aH,eU,bS,eQ,bQ,eZ,bR,cH,cJ,eC,cY,cW];cases b2
     .have W:=trivial;repeat' first|refine st ?_|(refine nx ?_;first|refine se ?_|refine so ?_)|(refine cx ?_;refine sc (λhc=>?_) (λhc=>?_)<;>try exact hc.elim)|(refine lx ?_;refine sp (λhc=>?_) (λhc=>?_)<;>try exact hc.elim)|refine sx ?_ ?_|refine sy ?_ ?_|fail
      refine cu (qZ 2) ?_;rintro _ i4 h4 ⟨x,rfl,hx⟩ hi4;simp only[AS.drew,AS.called,aV,AS.put,aJ,aH,eU,bS,eQ,bQ,eZ,bR,cH,cJ,eC,cY,cW];simp only[cZ];have W:=trivial;repeat' first|refine st ?_|(refine nx ?_;first|refine se ?_|refine so ?_)|(refine cx ?_;refine sc (λhc=>?_) (λhc=>?_)<;>try exact hc.elim)|(refine lx ?_;refine sp (λhc=>?_) (λhc=>?_)<;>try exact hc.elim)|refine sx ?_ ?_|refine sy ?_ ?_|fail
      refine ce (rA sv ⟨s,q⟩ x (by simp only[aP,dT,eR];omega)) ?_;rintro _ ⟨sv2,b3,rfl,hz2⟩;simp only[AS.called,AS.put,aJ,aH,eU,bS,eQ,bQ,eZ,bR,cH,cJ,eC,cY,cW];simp only[aP,dT,eR]at hz2;have W:=hj1;repeat' first|refine st ?_|(refine nx ?_;first|refine se ?_|refine so ?_)|(refine cx ?_;refine sc (λhc=>?_) (λhc=>?_)<;>try exact hc.elim)|(refine lx ?_;refine sp (λhc=>?_) (λhc=>?_)<;>try exact hc.elim)|refine sx ?_ ?_|refine sy ?_ ?_|fail
      exact hK4 _ ⟨(j+1,sv2,i4,h4),by simp only;omega,by simp only;omega,hi4⟩ (aL 4) (by simp only;omega)
     .have W:=hj1;repeat' first|refine st ?_|(refine nx ?_;first|refine se ?_|refine so ?_)|(refine cx ?_;refine sc (λhc=>?_) (λhc=>?_)<;>try exact hc.elim)|(refine lx ?_;refine sp (λhc=>?_) (λhc=>?_)<;>try exact hc.elim)|refine sx ?_ ?_|refine sy ?_ ?_|fail
      exact hK4 _ ⟨(j+1,sv,i3,h3),by simp only;omega,by simp only;omega,hi3⟩ (aL 4) (by simp only;omega)
    .have W:=hq;repeat' first|refine st ?_|(refine nx ?_;first|refine se ?_|refine so ?_)|(refine cx ?_;refine sc (λhc=>?_) (λhc=>?_)<;>try exact hc.elim)|(refine lx ?_;refine sp (λhc=>?_) (λhc=>?_)<;>try exact hc.elim)|refine sx ?_ ?_|refine sy ?_ ?_|fail
     refine cu (iA 6) ?_;rintro _ i3 h3 ⟨b2,rfl⟩ hi3;simp only[AS.drew,AS.called,aV,AS.put,aJ,aH,eU,bS,eQ,bQ,eZ,bR,cH,cJ,eC,cY,cW];cases b2
     .have W:=trivial;repeat' first|refine st ?_|(refine nx ?_;first|refine se ?_|refine so ?_)|(refine cx ?_;refine sc (λhc=>?_) (λhc=>?_)<;>try exact hc.elim)|(refine lx ?_;refine sp (λhc=>?_) (λhc=>?_)<;>try exact hc.elim)|refine sx ?_ ?_|refine sy ?_ ?_|fail
      refine cu (qZ 5) ?_;rintro _ i4 h4 ⟨x,rfl,hx⟩ hi4;simp only[AS.drew,AS.called,aV,AS.put,aJ,aH,eU,bS,eQ,bQ,eZ,bR,cH,cJ,eC,cY,cW];simp only[cZ];have W:=trivial;repeat' first|refine st ?_|(refine nx ?_;first|refine se ?_|refine so ?_)|(refine cx ?_;refine sc (λhc=>?_) (λhc=>?_)<;>try exact hc.elim)|(refine lx ?_;refine sp (λhc=>?_) (λhc=>?_)<;>try exact hc.elim)|refine sx ?_ ?_|refine sy ?_ ?_|fail
      refine ce (rA sv ⟨s,q⟩ x (by simp only[aP,dT,eR];omega)) ?_;rintro _ ⟨sv2,b3,rfl,hz2⟩;simp only[AS.called,AS.put,aJ,aH,eU,bS,eQ,bQ,eZ,bR,cH,cJ,eC,cY,cW];simp only[aP,dT,eR]at hz2;have W:=hj1;repeat' first|refine st ?_|(refine nx ?_;first|refine se ?_|refine so ?_)|(refine cx ?_;refine sc (λhc=>?_) (λhc=>?_)<;>try exact hc.elim)|(refine lx ?_;refine sp (λhc=>?_) (λhc=>?_)<;>try exact hc.elim)|refine sx ?_ ?_|refine sy ?_ ?_|fail
      exact hK4 _ ⟨(j+1,sv2,i4,h4),by simp only;omega,by simp only;omega,hi4⟩ (aL 4) (by simp only;omega)
     .have W:=hj1;repeat' first|refine st ?_|(refine nx ?_;first|refine se ?_|refine so ?_)|(refine cx ?_;refine sc (λhc=>?_) (λhc=>?_)<;>try exact hc.elim)|(refine lx ?_;refine sp (λhc=>?_) (λhc=>?_)<;>try exact hc.elim)|refine sx ?_ ?_|refine sy ?_ ?_|fail
      exact hK4 _ ⟨(j+1,sv,i3,h3),by simp only;omega,by simp only;omega,hi3⟩ (aL 4) (by simp only;omega)
   .have W:=aA hji (aA hjl (aA hgq hq));repeat' first|refine st ?_|(refine nx ?_;first|refine se ?_|refine so ?_)|(refine cx ?_;refine sc (λhc=>?_) (λhc=>?_)<;>try exact hc.elim)|(refine lx ?_;refine sp (λhc=>?_) (λhc=>?_)<;>try exact hc.elim)|refine sx ?_ ?_|refine sy ?_ ?_|fail
    refine cu (iA 6) ?_;rintro _ i3 h3 ⟨b2,rfl⟩ hi3;simp only[AS.drew,AS.called,aV,AS.put,aJ,aH,eU,bS,eQ,bQ,eZ,bR,cH,cJ,eC,cY,cW];cases b2
    .have W:=trivial;repeat' first|refine st ?_|(refine nx ?_;first|refine se ?_|refine so ?_)|(refine cx ?_;refine sc (λhc=>?_) (λhc=>?_)<;>try exact hc.elim)|(refine lx ?_;refine sp (λhc=>?_) (λhc=>?_)<;>try exact hc.elim)|refine sx ?_ ?_|refine sy ?_ ?_|fail
     refine cu (qZ 2) ?_;rintro _ i4 h4 ⟨x,rfl,hx⟩ hi4;simp only[AS.drew,AS.called,aV,AS.put,aJ,aH,eU,bS,eQ,bQ,eZ,bR,cH,cJ,eC,cY,cW];simp only[cZ];have W:=trivial;repeat' first|refine st ?_|(refine nx ?_;first|refine se ?_|refine so ?_)|(refine cx ?_;refine sc (λhc=>?_) (λhc=>?_)<;>try exact hc.elim)|(refine lx ?_;refine sp (λhc=>?_) (λhc=>?_)<;>try exact hc.elim)|refine sx ?_ ?_|refine sy ?_ ?_|fail
     refine ce (rA sv ⟨s,q⟩ x (by simp only[aP,dT,eR];omega)) ?_;rintro _ ⟨sv2,b3,rfl,hz2⟩;simp only[AS.called,AS.put,aJ,aH,eU,bS,eQ,bQ,eZ,bR,cH,cJ,eC,cY,cW];simp only[aP,dT,eR]at hz2;have W:=hj1;repeat' first|refine st ?_|(refine nx ?_;first|refine se ?_|refine so ?_)|(refine cx ?_;refine sc (λhc=>?_) (λhc=>?_)<;>try exact hc.elim)|(refine lx ?_;refine sp (λhc=>?_) (λhc=>?_)<;>try exact hc.elim)|refine sx ?_ ?_|refine sy ?_ ?_|fail
     exact hK4 _ ⟨(j+1,sv2,i4,h4),by simp only;omega,by simp only;omega,hi4⟩ (aL 4) (by simp only;omega)
    .have W:=hj1;repeat' first|refine st ?_|(refine nx ?_;first|refine se ?_|refine so ?_)|(refine cx ?_;refine sc (λhc=>?_) (λhc=>?_)<;>try exact hc.elim)|(refine lx ?_;refine sp (λhc=>?_) (λhc=>?_)<;>try exact hc.elim)|refine sx ?_ ?_|refine sy ?_ ?_|fail
     exact hK4 _ ⟨(j+1,sv,i3,h3),by simp only;omega,by simp only;omega,hi3⟩ (aL 4) (by simp only;omega)
  .have hji:¬(j:Int)<3:=by omega
   clear hK4;have W:=hji;repeat' first|refine st ?_|(refine nx ?_;first|refine se ?_|refine so ?_)|(refine cx ?_;refine sc (λhc=>?_) (λhc=>?_)<;>try exact hc.elim)|(refine lx ?_;refine sp (λhc=>?_) (λhc=>?_)<;>try exact hc.elim)|refine sx ?_ ?_|refine sy ?_ ?_|fail
   have hk1:=rE (k:=k);refine cu (iA 4) ?_;rintro _ i5 h5 ⟨b5,rfl⟩ hi5;simp only[AS.drew,AS.called,aV,AS.put,aJ,aH,eU,bS,eQ,bQ,eZ,bR,cH,cJ,eC,cY,cW];cases b5
   .have W:=trivial;repeat' first|refine st ?_|(refine nx ?_;first|refine se ?_|refine so ?_)|(refine cx ?_;refine sc (λhc=>?_) (λhc=>?_)<;>try exact hc.elim)|(refine lx ?_;refine sp (λhc=>?_) (λhc=>?_)<;>try exact hc.elim)|refine sx ?_ ?_|refine sy ?_ ?_|fail
    refine cu (qZ 3) ?_;rintro _ i8 h8 ⟨x,rfl,hx⟩ hi8;simp only[AS.drew,AS.called,aV,AS.put,aJ,aH,eU,bS,eQ,bQ,eZ,bR,cH,cJ,eC,cY,cW];simp only[cZ];have W:=trivial;repeat' first|refine st ?_|(refine nx ?_;first|refine se ?_|refine so ?_)|(refine cx ?_;refine sc (λhc=>?_) (λhc=>?_)<;>try exact hc.elim)|(refine lx ?_;refine sp (λhc=>?_) (λhc=>?_)<;>try exact hc.elim)|refine sx ?_ ?_|refine sy ?_ ?_|fail
    refine ce (rA sv ⟨s,[115,116,121,108,101]⟩ x (by simp only[aP,dT,eR];omega)) ?_;rintro _ ⟨sv8,b3,rfl,hz8⟩;simp only[AS.called,AS.put,aJ,aH,eU,bS,eQ,bQ,eZ,bR,cH,cJ,eC,cY,cW];simp only[aP,dT,eR]at hz8;have W:=trivial;repeat' first|refine st ?_|(refine nx ?_;first|refine se ?_|refine so ?_)|(refine cx ?_;refine sc (λhc=>?_) (λhc=>?_)<;>try exact hc.elim)|(refine lx ?_;refine sp (λhc=>?_) (λhc=>?_)<;>try exact hc.elim)|refine sx ?_ ?_|refine sy ?_ ?_|fail
    refine cu (iA 4) ?_;rintro _ i6 h6 ⟨b6,rfl⟩ hi6;simp only[AS.drew,AS.called,aV,AS.put,aJ,aH,eU,bS,eQ,bQ,eZ,bR,cH,cJ,eC,cY,cW];cases b6
    .have W:=trivial;repeat' first|refine st ?_|(refine nx ?_;first|refine se ?_|refine so ?_)|(refine cx ?_;refine sc (λhc=>?_) (λhc=>?_)<;>try exact hc.elim)|(refine lx ?_;refine sp (λhc=>?_) (λhc=>?_)<;>try exact hc.elim)|refine sx ?_ ?_|refine sy ?_ ?_|fail
     refine cu (qZ 4) ?_;rintro _ i7 h7 ⟨x,rfl,hx⟩ hi7;simp only[AS.drew,AS.called,aV,AS.put,aJ,aH,eU,bS,eQ,bQ,eZ,bR,cH,cJ,eC,cY,cW];simp only[cZ];have W:=trivial;repeat' first|refine st ?_|(refine nx ?_;first|refine se ?_|refine so ?_)|(refine cx ?_;refine sc (λhc=>?_) (λhc=>?_)<;>try exact hc.elim)|(refine lx ?_;refine sp (λhc=>?_) (λhc=>?_)<;>try exact hc.elim)|refine sx ?_ ?_|refine sy ?_ ?_|fail
     refine ce (rA sv8 ⟨s,[108,111,103,111]⟩ x (by simp only[aP,dT,eR];omega)) ?_;rintro _ ⟨sv7,b3,rfl,hz7⟩;simp only[AS.called,AS.put,aJ,aH,eU,bS,eQ,bQ,eZ,bR,cH,cJ,eC,cY,cW];simp only[aP,dT,eR]at hz7;have W:=hk1;repeat' first|refine st ?_|(refine nx ?_;first|refine se ?_|refine so ?_)|(refine cx ?_;refine sc (λhc=>?_) (λhc=>?_)<;>try exact hc.elim)|(refine lx ?_;refine sp (λhc=>?_) (λhc=>?_)<;>try exact hc.elim)|refine sx ?_ ?_|refine sy ?_ ?_|fail
     exact hK2 _ ⟨(k+1,sv7,i7,h7),by simp only;omega,by simp only;omega,hi7⟩ (aL 3) (by simp only;omega)
    .skip
     have W:=hk1;repeat' first|refine st ?_|(refine nx ?_;first|refine se ?_|refine so ?_)|(refine cx ?_;refine sc (λhc=>?_) (λhc=>?_)<;>try exact hc.elim)|(refine lx ?_;refine sp (λhc=>?_) (λhc=>?_)<;>try exact hc.elim)|refine sx ?_ ?_|refine sy ?_ ?_|fail
     exact hK2 _ ⟨(k+1,sv8,i6,h6),by simp only;omega,by simp only;omega,hi6⟩ (aL 3) (by simp only;omega)
   .have W:=trivial;repeat' first|refine st ?_|(refine nx ?_;first|refine se ?_|refine so ?_)|(refine cx ?_;refine sc (λhc=>?_) (λhc=>?_)<;>try exact hc.elim)|(refine lx ?_;refine sp (λhc=>?_) (λhc=>?_)<;>try exact hc.elim)|refine sx ?_ ?_|refine sy ?_ ?_|fail
    refine cu (iA 4) ?_;rintro _ i6 h6 ⟨b6,rfl⟩ hi6;simp only[AS.drew,AS.called,aV,AS.put,aJ,aH,eU,bS,eQ,bQ,eZ,bR,cH,cJ,eC,cY,cW];cases b6
    .have W:=trivial;repeat' first|refine st ?_|(refine nx ?_;first|refine se ?_|refine so ?_)|(refine cx ?_;refine sc (λhc=>?_) (λhc=>?_)<;>try exact hc.elim)|(refine lx ?_;refine sp (λhc=>?_) (λhc=>?_)<;>try exact hc.elim)|refine sx ?_ ?_|refine sy ?_ ?_|fail
     refine cu (qZ 4) ?_;rintro _ i7 h7 ⟨x,rfl,hx⟩ hi7;simp only[AS.drew,AS.called,aV,AS.put,aJ,aH,eU,bS,eQ,bQ,eZ,bR,cH,cJ,eC,cY,cW];simp only[cZ];have W:=trivial;repeat' first|refine st ?_|(refine nx ?_;first|refine se ?_|refine so ?_)|(refine cx ?_;refine sc (λhc=>?_) (λhc=>?_)<;>try exact hc.elim)|(refine lx ?_;refine sp (λhc=>?_) (λhc=>?_)<;>try exact hc.elim)|refine sx ?_ ?_|refine sy ?_ ?_|fail
     refine ce (rA sv ⟨s,[108,111,103,111]⟩ x (by simp only[aP,dT,eR];omega)) ?_;rintro _ ⟨sv7,b3,rfl,hz7⟩;simp only[AS.called,AS.put,aJ,aH,eU,bS,eQ,bQ,eZ,bR,cH,cJ,eC,cY,cW];simp only[aP,dT,eR]at hz7;have W:=hk1;repeat' first|refine st ?_|(refine nx ?_;first|refine se ?_|refine so ?_)|(refine cx ?_;refine sc (λhc=>?_) (λhc=>?_)<;>try exact hc.elim)|(refine lx ?_;refine sp (λhc=>?_) (λhc=>?_)<;>try exact hc.elim)|refine sx ?_ ?_|refine sy ?_ ?_|fail
     exact hK2 _ ⟨(k+1,sv7,i7,h7),by simp only;omega,by simp only;omega,hi7⟩ (aL 3) (by simp only;omega)
    .skip
     have W:=hk1;repeat' first|refine st ?_|(refine nx ?_;first|refine se ?_|refine so ?_)|(refine cx ?_;refine sc (λhc=>?_) (λhc=>?_)<;>try exact hc.elim)|(refine lx ?_;refine sp (λhc=>?_) (λhc=>?_)<;>try exact hc.elim)|refine sx ?_ ?_|refine sy ?_ ?_|fail
     exact hK2 _ ⟨(k+1,sv,i6,h6),by simp only;omega,by simp only;omega,hi6⟩ (aL 3) (by simp only;omega)
 .have hki:¬(k:Int)<3:=by omega
  clear hK2;have W:=hki;repeat' first|refine st ?_|(refine nx ?_;first|refine se ?_|refine so ?_)|(refine cx ?_;refine sc (λhc=>?_) (λhc=>?_)<;>try exact hc.elim)|(refine lx ?_;refine sp (λhc=>?_) (λhc=>?_)<;>try exact hc.elim)|refine sx ?_ ?_|refine sy ?_ ?_|fail
  refine cu (qZ 1) ?_;rintro _ i5 h5 ⟨x,rfl,hx⟩ hi5;simp only[AS.drew,AS.called,aV,AS.put,aJ,aH,eU,bS,eQ,bQ,eZ,bR,cH,cJ,eC,cY,cW];simp only[cZ];have W:=trivial;repeat' first|refine st ?_|(refine nx ?_;first|refine se ?_|refine so ?_)|(refine cx ?_;refine sc (λhc=>?_) (λhc=>?_)<;>try exact hc.elim)|(refine lx ?_;refine sp (λhc=>?_) (λhc=>?_)<;>try exact hc.elim)|refine sx ?_ ?_|refine sy ?_ ?_|fail
  refine ce (rA sv ⟨[104,111,109,101],[105,110,100,101,120]⟩ x (by simp only[aP,dT,eR];omega)) ?_;rintro _ ⟨sv5,b3,rfl,hz5⟩;simp only[AS.called,AS.put,aJ,aH,eU,bS,eQ,bQ,eZ,bR,cH,cJ,eC,cY,cW];simp only[aP,dT,eR]at hz5;have W:=trivial;repeat' first|refine st ?_|(refine nx ?_;first|refine se ?_|refine so ?_)|(refine cx ?_;refine sc (λhc=>?_) (λhc=>?_)<;>try exact hc.elim)|(refine lx ?_;refine sp (λhc=>?_) (λhc=>?_)<;>try exact hc.elim)|refine sx ?_ ?_|refine sy ?_ ?_|fail
  refine cu (qZ 1) ?_;rintro _ i6 h6 ⟨x,rfl,hx⟩ hi6;simp only[AS.drew,AS.called,aV,AS.put,aJ,aH,eU,bS,eQ,bQ,eZ,bR,cH,cJ,eC,cY,cW];simp only[cZ];have W:=trivial;repeat' first|refine st ?_|(refine nx ?_;first|refine se ?_|refine so ?_)|(refine cx ?_;refine sc (λhc=>?_) (λhc=>?_)<;>try exact hc.elim)|(refine lx ?_;refine sp (λhc=>?_) (λhc=>?_)<;>try exact hc.elim)|refine sx ?_ ?_|refine sy ?_ ?_|fail
  refine ce (rA sv5 ⟨[104,111,109,101],[110,101,120,116]⟩ x (by simp only[aP,dT,eR];omega)) ?_;rintro _ ⟨sv6,b3,rfl,hz6⟩;simp only[AS.called,AS.put,aJ,aH,eU,bS,eQ,bQ,eZ,bR,cH,cJ,eC,cY,cW];simp only[aP,dT,eR]at hz6;have W:=trivial;repeat' first|refine st ?_|(refine nx ?_;first|refine se ?_|refine so ?_)|(refine cx ?_;refine sc (λhc=>?_) (λhc=>?_)<;>try exact hc.elim)|(refine lx ?_;refine sp (λhc=>?_) (λhc=>?_)<;>try exact hc.elim)|refine sx ?_ ?_|refine sy ?_ ?_|fail
  refine⟨.inr rfl,rJ (by simp[results71];rfl) (by rfl) (by rfl) (by omega) (by simp) (by simp) ?_⟩;simp only[single,res];exact⟨sv6,rfl,by omega⟩
end Go.Proofs.YtnkpkklemmgapaaGreatDoor
