/- Proved here: steps towards the statement of this claim. No condition. -/
import Derived.Test.YtnkpkklemmgapaaGreatDoorZQR4
import Derived.Test.YtnkpkklemmgapaaGreatDoorZF8
set_option linter.all false
set_option maxRecDepth 4000
set_option maxHeartbeats 4000000
namespace Go.Proofs.YtnkpkklemmgapaaGreatDoor
open Go.Aw Proofs.Tryz List IntKind
theorem Ui(u:List Nat)(b:Bool)(l:List gV):iI (gU u) b (l.map (fC .view))=l.map (fC .view):=by
 induction l with
 |nil=>rfl
 |cons x l ih=>rw[lA,iI,ih];simp[qD,rt,fC,gU]
theorem PO[aB prog](b:aY)(hs:aS b<=274877906944):Ok prog 18 [.agg (aW .view b)] (.agg (aW .own b)):=by
 simp only[aS,bV]at hs;obtain⟨l,opens⟩:=b;simp only at hs;refine dL aO func18 ntmps18 ?_;refine dH ?_;refine aI (ι:={q:Nat×Nat // q.1<=l.length/\1<=q.2}) (λt o i=>⟨bH t [(14,.int .i64 i.1.1),(5,.undef),(10,.undef)],o.take 3++[⟨true,true,2,0,[[.obj 4 i.1.2,.obj 2 2]]⟩,⟨true,false,4,i.1.2,(l.take i.1.1).map (fC .own)⟩]⟩)
  (λi=>l.length-i.1.1) ⟨(0,1),by simp,by simp⟩ (pR 3 0 0 (ob:=⟨true,true,2,0,[[.sl .own 4 [],.obj 2 2]]⟩) (by rfl) (by rfl) (by rfl) (by simp) (by rfl) (by rfl) (by simp) (by simp[qD,rt,gU,Ui])) ?_
 rintro⟨⟨k,v⟩,hk,hv⟩ K1 hK1;simp only at hk hv;simp only[bH,cH,cJ,fL,lE,cW,cY]at hK1⊢;have hk1:=rE (k:=k);by_cases hlt:k<l.length
 .have hg:=aE hlt;have hps:=JQ (fC .own) l k hlt;have hz:=dD gK l k hlt;simp only[gK,bV]at hz;have Lr:((l.take k).map (fC .own)).length=k:=by simp;omega
  generalize (l.take k).map (fC .own)=g at*;have W:=aA hk1 (aA hg (aA hlt Lr));refine we ?_;all_goals refine hK1 _ ⟨(k+1,v+1),by simp only;omega,by simp only;omega⟩ (aL 5 (by simp[hps])) (by simp only;omega)
 .have htk:l.take k=l:=eJ (by omega);rw[htk];have W:=hk1;refine we ?_;exact aR results18
theorem gX[aB prog](b:aY)(hs:aS b<=274877906944):Ok prog 25 [.agg (aW .view b)] (.agg (aW .own b)):=by
 simp only[aS,bV]at hs;obtain⟨l,opens⟩:=b;simp only at hs;refine dL aO func25 ntmps25 ?_;refine dH ?_;refine aI (ι:={q:Nat×Nat // q.1<=l.length/\1<=q.2}) (λt o i=>⟨bH t [(4,.int .i64 i.1.1),(5,.undef),(10,.undef)],o.take 3++[⟨true,true,2,0,[[.obj 4 i.1.2,.obj 2 2]]⟩,⟨true,false,4,i.1.2,(l.take i.1.1).map (fC .own)⟩]⟩)
  (λi=>l.length-i.1.1) ⟨(0,1),by simp,by simp⟩ (pR 3 0 0 (ob:=⟨true,true,2,0,[[.sl .own 4 [],.obj 2 2]]⟩) (by rfl) (by rfl) (by rfl) (by simp) (by rfl) (by rfl) (by simp) (by simp[qD,rt,gU,Ui])) ?_
 rintro⟨⟨k,v⟩,hk,hv⟩ K1 hK1;simp only at hk hv;simp only[bH,cH,cJ,fL,lE,cW,cY]at hK1⊢;have hk1:=rE (k:=k);by_cases hlt:k<l.length
 .have hg:=aE hlt;have hps:=JQ (fC .own) l k hlt;have hz:=dD gK l k hlt;simp only[gK,bV]at hz;have c1:=Io l[k].attrs (by omega);have Lr:((l.take k).map (fC .own)).length=k:=by simp;omega
  generalize (l.take k).map (fC .own)=g at*;have W:=aA hk1 (aA hg (aA hlt Lr));refine we ?_;all_goals refine hK1 _ ⟨(k+1,v+1),by simp only;omega,by simp only;omega⟩ (aL 5 (by simp[hps])) (by simp only;omega)
 .have htk:l.take k=l:=eJ (by omega);rw[htk];have W:=hk1;refine we ?_;exact aR results25
theorem fQ[aB prog](a:aC)(hs:aM a<=274877906944):Ok prog 105 [.agg (aQ .view a)] (.agg (aQ .own a)):=by simp only[aM]at hs;have c1:=Sb a.bM (by omega);have c2:=Sa a.queue (by omega);have c3:=gX a.builder (by omega);simp only[bV]at hs;simp only[dK]at c1;simp only[aW]at c3;refine dL aO func105 ntmps105 ?_;refine dH ?_;exact aR results105
def Ow(n:aU):Bool:=decide (n=[105,109,103]) || decide (n=[108,105,110,107])
def yP(b:aY)(m:aU)(n:Int):Bool:=decide (0<=n)&&(b.nodes[n.toNat]?).any λx=>decide (x.name=m)
def oW(b:aY)(m:aU):Nat->List Int
 |0=>b.opens
 |i+1=>if (b.opens[i+1]?).any (yP b m)then b.opens.take (i+1)else oW b m i
def rT(t:bU):Bool:=decide (t.kind=1)&& !Ow t.name
def vD(b:aY)(t:bU):gV:=if t.kind=1 then⟨t.name,[],b.opens.getLastD 0,t.attrs⟩else⟨[],t.text,b.opens.getLastD 0,[]⟩
def addToken(b:aY)(t:bU):aY×Int:=
 if t.kind=2 then({b with opens:=oW b t.name (b.opens.length-1)}, -1)
 else if¬(t.kind=1\/(t.kind=3/\t.text≠[]))then(b, -1)
 else if 40<=b.nodes.length\/b.opens=[]\/(rT t=true/\8<=b.opens.length)then(b, -1)
 else({nodes:=b.nodes++[vD b t],opens:=if rT t=true then b.opens++[((b.nodes.length:Nat):Int)]else b.opens},((b.nodes.length:Nat):Int))
theorem MP(b:aY)(m:aU):∀k,(oW b m k).length<=b.opens.length
 |0=>eE _
 |k+1=>by
  unfold oW;split
  .simp;omega
  .exact MP b m k
theorem Sk[aB prog](n:aU):Ok prog 227 [.str n] (.bool (Ow n)):=by
 unfold Ow;refine dL aO func227 ntmps227 ?_;have W:=trivial;repeat' first|refine wf ?_|(refine sq ?_ ?_<;>intro hc<;>try exact hc.elim)|fail
 all_goals try(refine aZ ?_;simp[aX,results227])
 all_goals first|(simp[hc];done)|(rw[Bool.eq_iff_iff];simp[hc])
theorem aDn{b:aY}{m:aU}{n:Int}(h:¬(0<=n/\n<(b.nodes.length:Int))):yP b m n=false:=by
 unfold yP;by_cases h0:0<=n
 .rw [pP (by omega)];simp
 .simp [h0]
theorem xu{b:aY}{m:aU}{k:Nat}(h:k<b.nodes.length):yP b m ((k:Nat):Int)=decide (b.nodes[k].name=m):=by unfold yP;simp[aE h]
def notFound:bE:=⟨404,1,[],0,false,[]⟩
theorem NI[aB prog]:Ok prog 115 [] (.agg (cZ notFound)):=by refine dL aO func115 ntmps115 ?_;refine dH ?_;all_goals try(refine aZ ?_;simp[aX,results115,notFound])
theorem aEq(a:Int):0<=Eg .and .i64 a 255/\Eg .and .i64 a 255<=255:=by
 unfold Eg;simp only;have h:(BitVec.ofInt (i64.bits) a&&& BitVec.ofInt (i64.bits) 255).toNat<=255:=by rw[BitVec.toNat_and];exact kO Nat.and_le_right (by decide)
 rw[wrap64]<;>omega
@[simp] theorem aNq(t:Tg->Option Tg)(b:Bool)(l:List UInt8):iI t b (bA l)=bA l:=by unfold bA;exact bJ (by intro x;rfl) l
@[simp] theorem aNr(l:List UInt8):(bA l).length=l.length:=by simp[bA]
theorem UQ{l:List UInt8}{n:Nat}{c:UInt8}(h:l[n]? =some c):(bA l)[n]? =some [.int .u8 c.toNat]:=by simp[bA,h]
def aQc(r:AV):Prop:=∃x:Int,r= .int .i64 x/\0<=x/\x<=255
theorem BD[aB prog]:Jo prog 88 [] aQc:=by
 refine Ec aO func88 ntmps88 ?_;intro code i h hi hl;obtain⟨n,rfl⟩:=iS hi;simp only[aV];simp only[maxLen]at hl;by_cases hlt:n<code.length
 .have Og:(n:Int)<(code.length:Int):=by omega
  have hg:=UQ (aE hlt);generalize code[n]=c at*;have hk:i64.wrap ((n:Int)+1)=((n+1:Nat):Int):=by rw[wrap64]<;>omega
  have W:=aA Og (aA hg hk);repeat' first|refine st ?_|(refine nx ?_;refine so ?_)|(refine cx ?_;refine sc (λhc=>?_) (λhc=>?_)<;>try exact hc.elim)|(refine lx ?_;refine sp (λhc=>?_) (λhc=>?_)<;>try exact hc.elim)|refine sx ?_ ?_|refine sy ?_ ?_|fail
  refine⟨.inr rfl,rJ (by simp[results88];rfl) (by rfl) (by rfl) (by omega) (by simp) (by simp) ?_⟩;simp only[single,res];exact⟨_,rfl,aEq _⟩
 .have Og:¬(n:Int)<(code.length:Int):=by omega
  have W:=Og;repeat' first|refine st ?_|(refine nx ?_;refine so ?_)|(refine cx ?_;refine sc (λhc=>?_) (λhc=>?_)<;>try exact hc.elim)|(refine lx ?_;refine sp (λhc=>?_) (λhc=>?_)<;>try exact hc.elim)|refine sx ?_ ?_|refine sy ?_ ?_|fail
  refine⟨.inr rfl,rJ (by simp[results88];rfl) (by rfl) (by rfl) (by omega) (by simp) (by simp) ?_⟩;simp only[single,res];exact⟨_,rfl,aEq _⟩
def aMl(n:Int)(r:AV):Prop:=∃x:Int,r= .int .i64 x/\0<=x/\(n<=0->x=0)/\(0<n->x<n)
theorem QW{a n:Int}(ha:0<=a)(hn:0<n):0<=a.tmod n/\a.tmod n<n:=by rw[sC ha];exact⟨Int.emod_nonneg _ (by omega),Int.emod_lt_of_pos _ hn⟩
theorem kW[aB prog](n:Int):Jo prog 54 [.int .i64 n] (aMl n):=by
 refine Ec aO func54 ntmps54 ?_;intro code i h hi hl;simp only[aV];by_cases h0:n<=0
 .have W:=h0;repeat' first|refine st ?_|(refine nx ?_;refine so ?_)|(refine cx ?_;refine sc (λhc=>?_) (λhc=>?_)<;>try exact hc.elim)|(refine lx ?_;refine sp (λhc=>?_) (λhc=>?_)<;>try exact hc.elim)|refine sx ?_ ?_|refine sy ?_ ?_|fail
  refine⟨.inr rfl,rJ (by simp[results54];rfl) (by rfl) (by rfl) (by omega) (by simp) (by simp) ?_⟩;simp only[single,res];exact⟨0,rfl,by omega,λ_=>rfl,by omega⟩
 .have hn0:¬n=0:=by omega
  by_cases h1:n<=256
  .have W:=aA h0 h1;repeat' first|refine st ?_|(refine nx ?_;refine so ?_)|(refine cx ?_;refine sc (λhc=>?_) (λhc=>?_)<;>try exact hc.elim)|(refine lx ?_;refine sp (λhc=>?_) (λhc=>?_)<;>try exact hc.elim)|refine sx ?_ ?_|refine sy ?_ ?_|fail
   refine cu (BD) ?_;rintro _ i2 h2 ⟨x,rfl,x0,x1⟩ hi2;simp only[AS.drew,AS.called,aV,AS.put,aJ,aH,eU,bS,eQ,bQ,eZ,bR,cH,cJ,eC,cY,cW];obtain⟨t0,t1⟩:=QW x0 (show 0<n by omega);have W:=hn0;repeat' first|refine st ?_|(refine nx ?_;refine so ?_)|(refine cx ?_;refine sc (λhc=>?_) (λhc=>?_)<;>try exact hc.elim)|(refine lx ?_;refine sp (λhc=>?_) (λhc=>?_)<;>try exact hc.elim)|refine sx ?_ ?_|refine sy ?_ ?_|fail
   refine⟨.inr rfl,rJ (by simp[results54];rfl) (by rfl) (by rfl) (by omega) (by simp) (by simp) ?_⟩;simp only[single,res];exact⟨_,rfl,t0,by omega,λ_=>t1⟩
  .have W:=aA h0 h1;repeat' first|refine st ?_|(refine nx ?_;refine so ?_)|(refine cx ?_;refine sc (λhc=>?_) (λhc=>?_)<;>try exact hc.elim)|(refine lx ?_;refine sp (λhc=>?_) (λhc=>?_)<;>try exact hc.elim)|refine sx ?_ ?_|refine sy ?_ ?_|fail
   refine cu (BD) ?_;rintro _ i2 h2 ⟨x,rfl,x0,x1⟩ hi2;simp only[AS.drew,AS.called,aV,AS.put,aJ,aH,eU,bS,eQ,bQ,eZ,bR,cH,cJ,eC,cY,cW];have W:=trivial;repeat' first|refine st ?_|(refine nx ?_;refine so ?_)|(refine cx ?_;refine sc (λhc=>?_) (λhc=>?_)<;>try exact hc.elim)|(refine lx ?_;refine sp (λhc=>?_) (λhc=>?_)<;>try exact hc.elim)|refine sx ?_ ?_|refine sy ?_ ?_|fail
   refine cu (BD) ?_;rintro _ i3 h3 ⟨y,rfl,y0,y1⟩ hi3;simp only[AS.drew,AS.called,aV,AS.put,aJ,aH,eU,bS,eQ,bQ,eZ,bR,cH,cJ,eC,cY,cW];have W:=trivial;repeat' first|refine st ?_|(refine nx ?_;refine so ?_)|(refine cx ?_;refine sc (λhc=>?_) (λhc=>?_)<;>try exact hc.elim)|(refine lx ?_;refine sp (λhc=>?_) (λhc=>?_)<;>try exact hc.elim)|refine sx ?_ ?_|refine sy ?_ ?_|fail
   refine cu (BD) ?_;rintro _ i4 h4 ⟨z,rfl,z0,z1⟩ hi4;simp only[AS.drew,AS.called,aV,AS.put,aJ,aH,eU,bS,eQ,bQ,eZ,bR,cH,cJ,eC,cY,cW];have e1:i64.wrap (x*65536)=x*65536:=by rw[wrap64]<;>omega
   have e2:i64.wrap (y*256)=y*256:=by rw[wrap64]<;>omega
   have e3:i64.wrap (x*65536+y*256)=x*65536+y*256:=by rw[wrap64]<;>omega
   have e4:i64.wrap (x*65536+y*256+z)=x*65536+y*256+z:=by rw[wrap64]<;>omega
   obtain⟨t0,t1⟩:=QW (show 0<=x*65536+y*256+z by omega) (show 0<n by omega);have W:=aA hn0 (aA e1 (aA e2 (aA e3 e4)));repeat' first|refine st ?_|(refine nx ?_;refine so ?_)|(refine cx ?_;refine sc (λhc=>?_) (λhc=>?_)<;>try exact hc.elim)|(refine lx ?_;refine sp (λhc=>?_) (λhc=>?_)<;>try exact hc.elim)|refine sx ?_ ?_|refine sy ?_ ?_|fail
   refine⟨.inr rfl,rJ (by simp[results54];rfl) (by rfl) (by rfl) (by omega) (by simp) (by simp) ?_⟩;simp only[single,res];exact⟨_,rfl,t0,by omega,λ_=>t1⟩
def aQd(r:AV):Prop:=∃b:Bool,r= .bool b
theorem iA[aB prog](n:Int):Jo prog 24 [.int .i64 n] aQd:=by
 refine Ec aO func24 ntmps24 ?_;intro code i h hi hl;simp only[aV];have W:=trivial;repeat' first|refine st ?_|(refine nx ?_;refine so ?_)|(refine cx ?_;refine sc (λhc=>?_) (λhc=>?_)<;>try exact hc.elim)|(refine lx ?_;refine sp (λhc=>?_) (λhc=>?_)<;>try exact hc.elim)|refine sx ?_ ?_|refine sy ?_ ?_|fail
 refine cu (kW n) ?_;rintro _ i2 h2 ⟨x,rfl,x0,x1,x2⟩ hi2;simp only[AS.drew,AS.called,aV,AS.put,aJ,aH,eU,bS,eQ,bQ,eZ,bR,cH,cJ,eC,cY,cW];have W:=trivial;repeat' first|refine st ?_|(refine nx ?_;refine so ?_)|(refine cx ?_;refine sc (λhc=>?_) (λhc=>?_)<;>try exact hc.elim)|(refine lx ?_;refine sp (λhc=>?_) (λhc=>?_)<;>try exact hc.elim)|refine sx ?_ ?_|refine sy ?_ ?_|fail
 refine⟨.inr rfl,rJ (by simp[results24];rfl) (by rfl) (by rfl) (by omega) (by simp) (by simp) ?_⟩;simp only[single,res];exact⟨_,rfl⟩
def aT5(l:List aU)(r:AV):Prop:=∃s∈l,r= .str s
theorem gT[aB prog](l:List aU)(h0:l≠[]):Jo prog 143 [.sl .view 1 (l.map dQ)] (aT5 l):=by
 refine Ec aO func143 ntmps143 ?_;intro code i h hi hl;simp only[aV];have W:=trivial;repeat' first|refine st ?_|(refine nx ?_;refine so ?_)|(refine cx ?_;refine sc (λhc=>?_) (λhc=>?_)<;>try exact hc.elim)|(refine lx ?_;refine sp (λhc=>?_) (λhc=>?_)<;>try exact hc.elim)|refine sx ?_ ?_|refine sy ?_ ?_|fail
 refine cu (kW (l.length:Int)) ?_;rintro _ i2 h2 ⟨x,rfl,x0,x1,x2⟩ hi2;simp only[AS.drew,AS.called,aV,AS.put,aJ,aH,eU,bS,eQ,bQ,eZ,bR,cH,cJ,eC,cY,cW];have hp:0<l.length:=CH.2 h0;obtain⟨k,rfl⟩:=iS x0;have hlt:k<l.length:=by omega
 have hg:=aE hlt;have hm:=hI hlt;generalize l[k]=s at*;have W:=hg;repeat' first|refine st ?_|(refine nx ?_;refine so ?_)|(refine cx ?_;refine sc (λhc=>?_) (λhc=>?_)<;>try exact hc.elim)|(refine lx ?_;refine sp (λhc=>?_) (λhc=>?_)<;>try exact hc.elim)|refine sx ?_ ?_|refine sy ?_ ?_|fail
 refine⟨.inr rfl,rJ (by simp[results143];rfl) (by rfl) (by rfl) (by omega) (by simp) (by simp) ?_⟩;simp only[single,res];exact⟨_,hm,rfl⟩
def aT6(l:List Int)(r:AV):Prop:=∃x∈l,r= .int .i64 x
theorem Jd[aB prog](l:List Int)(h0:l≠[]):Jo prog 77 [.sl .view 1 (l.map lI)] (aT6 l):=by
 refine Ec aO func77 ntmps77 ?_;intro code i h hi hl;simp only[aV];have W:=trivial;repeat' first|refine st ?_|(refine nx ?_;refine so ?_)|(refine cx ?_;refine sc (λhc=>?_) (λhc=>?_)<;>try exact hc.elim)|(refine lx ?_;refine sp (λhc=>?_) (λhc=>?_)<;>try exact hc.elim)|refine sx ?_ ?_|refine sy ?_ ?_|fail
 refine cu (kW (l.length:Int)) ?_;rintro _ i2 h2 ⟨x,rfl,x0,x1,x2⟩ hi2;simp only[AS.drew,AS.called,aV,AS.put,aJ,aH,eU,bS,eQ,bQ,eZ,bR,cH,cJ,eC,cY,cW];have hp:0<l.length:=CH.2 h0;obtain⟨k,rfl⟩:=iS x0;have hlt:k<l.length:=by omega
 have hg:=aE hlt;have hm:=hI hlt;generalize l[k]=s at*;have W:=hg;repeat' first|refine st ?_|(refine nx ?_;refine so ?_)|(refine cx ?_;refine sc (λhc=>?_) (λhc=>?_)<;>try exact hc.elim)|(refine lx ?_;refine sp (λhc=>?_) (λhc=>?_)<;>try exact hc.elim)|refine sx ?_ ?_|refine sy ?_ ?_|fail
 refine⟨.inr rfl,rJ (by simp[results77];rfl) (by rfl) (by rfl) (by omega) (by simp) (by simp) ?_⟩;simp only[single,res];exact⟨_,hm,rfl⟩
def O5(n:Nat)(r:AV):Prop:=∃s:aU,r= .str s/\s.length<=n
theorem qb[aB prog]:Jo prog 220 [] (O5 60):=by
 refine Ec aO func220 ntmps220 ?_;intro code i h hi hl;simp only[aV];have W:=trivial;repeat' first|refine st ?_|(refine nx ?_;refine so ?_)|(refine cx ?_;refine sc (λhc=>?_) (λhc=>?_)<;>try exact hc.elim)|(refine lx ?_;refine sp (λhc=>?_) (λhc=>?_)<;>try exact hc.elim)|refine sx ?_ ?_|refine sy ?_ ?_|fail
 refine cu (kW 8) ?_;rintro _ i2 h2 ⟨x,rfl,x0,x1,x2⟩ hi2;simp only[AS.drew,AS.called,aV,AS.put,aJ,aH,eU,bS,eQ,bQ,eZ,bR,cH,cJ,eC,cY,cW];by_cases hx0:x=0
 .subst hx0;have W:=trivial;repeat' first|refine st ?_|(refine nx ?_;refine so ?_)|(refine cx ?_;refine sc (λhc=>?_) (λhc=>?_)<;>try exact hc.elim)|(refine lx ?_;refine sp (λhc=>?_) (λhc=>?_)<;>try exact hc.elim)|refine sx ?_ ?_|refine sy ?_ ?_|fail
  refine oI (i:=1) (ver:=1) (by rfl) (by rfl) ?_ (by simp[AS.frozen,uL,tZ,rW,uT,aD.rW,aD.kill,iI,qD,rt];rfl);refine cu (gT ([[112],[98],[115,99,114,105,112,116],[112,97,103,101]]:List aU) (by decide)) ?_;rintro _ ju gu ⟨u,O6,rfl⟩ Oq;simp only[AS.drew,AS.called,aV,AS.put,aJ,aH,eU,bS,eQ,bQ,eZ,bR,cH,cJ,eC,cY,cW];have Ng:=(by decide:∀s∈([[112],[98],[115,99,114,105,112,116],[112,97,103,101]]:List aU),s.length<=6) u O6;have W:=Ng;repeat' first|refine st ?_|(refine nx ?_;refine so ?_)|(refine cx ?_;refine sc (λhc=>?_) (λhc=>?_)<;>try exact hc.elim)|(refine lx ?_;refine sp (λhc=>?_) (λhc=>?_)<;>try exact hc.elim)|refine sx ?_ ?_|refine sy ?_ ?_|fail
  refine⟨.inr rfl,rJ (by simp[results220];rfl) (by rfl) (by rfl) (by omega) (by simp) (by simp) ?_⟩;simp only[single,res];exact⟨_,rfl,by first|omega|(simp;omega)⟩
 .have:=hx0;by_cases rf:x=1
  .subst rf;have W:=trivial;repeat' first|refine st ?_|(refine nx ?_;refine so ?_)|(refine cx ?_;refine sc (λhc=>?_) (λhc=>?_)<;>try exact hc.elim)|(refine lx ?_;refine sp (λhc=>?_) (λhc=>?_)<;>try exact hc.elim)|refine sx ?_ ?_|refine sy ?_ ?_|fail
   refine oI (i:=1) (ver:=1) (by rfl) (by rfl) ?_ (by simp[AS.frozen,uL,tZ,rW,uT,aD.rW,aD.kill,iI,qD,rt];rfl);refine cu (gT ([[97,112,112],[99,100,110,47,108,105,98],[108,105,98],[101,118,105,108,47,97,112,112]]:List aU) (by decide)) ?_;rintro _ ju gu ⟨u,O6,rfl⟩ Oq;simp only[AS.drew,AS.called,aV,AS.put,aJ,aH,eU,bS,eQ,bQ,eZ,bR,cH,cJ,eC,cY,cW];have Ng:=(by decide:∀s∈([[97,112,112],[99,100,110,47,108,105,98],[108,105,98],[101,118,105,108,47,97,112,112]]:List aU),s.length<=8) u O6;have W:=Ng;repeat' first|refine st ?_|(refine nx ?_;refine so ?_)|(refine cx ?_;refine sc (λhc=>?_) (λhc=>?_)<;>try exact hc.elim)|(refine lx ?_;refine sp (λhc=>?_) (λhc=>?_)<;>try exact hc.elim)|refine sx ?_ ?_|refine sy ?_ ?_|fail
   refine⟨.inr rfl,rJ (by simp[results220];rfl) (by rfl) (by rfl) (by omega) (by simp) (by simp) ?_⟩;simp only[single,res];exact⟨_,rfl,by first|omega|(simp;omega)⟩
  .have:=rf;by_cases hx2:x=2
   .subst hx2;have W:=trivial;repeat' first|refine st ?_|(refine nx ?_;refine so ?_)|(refine cx ?_;refine sc (λhc=>?_) (λhc=>?_)<;>try exact hc.elim)|(refine lx ?_;refine sp (λhc=>?_) (λhc=>?_)<;>try exact hc.elim)|refine sx ?_ ?_|refine sy ?_ ?_|fail
    refine oI (i:=1) (ver:=1) (by rfl) (by rfl) ?_ (by simp[AS.frozen,uL,tZ,rW,uT,aD.rW,aD.kill,iI,qD,rt];rfl);refine cu (gT ([[97,112,112],[117,116,105,108]]:List aU) (by decide)) ?_;rintro _ ju gu ⟨u,O6,rfl⟩ Oq;simp only[AS.drew,AS.called,aV,AS.put,aJ,aH,eU,bS,eQ,bQ,eZ,bR,cH,cJ,eC,cY,cW];have Ng:=(by decide:∀s∈([[97,112,112],[117,116,105,108]]:List aU),s.length<=4) u O6;have W:=Ng;repeat' first|refine st ?_|(refine nx ?_;refine so ?_)|(refine cx ?_;refine sc (λhc=>?_) (λhc=>?_)<;>try exact hc.elim)|(refine lx ?_;refine sp (λhc=>?_) (λhc=>?_)<;>try exact hc.elim)|refine sx ?_ ?_|refine sy ?_ ?_|fail
    refine oI (i:=2) (ver:=1) (by rfl) (by rfl) ?_ (by simp[AS.frozen,uL,tZ,rW,uT,aD.rW,aD.kill,iI,qD,rt];rfl);refine cu (gT ([[100,101,102,101,114],[109,111,100,117,108,101]]:List aU) (by decide)) ?_;rintro _ jv gv ⟨v,hmv,rfl⟩ hjv;simp only[AS.drew,AS.called,aV,AS.put,aJ,aH,eU,bS,eQ,bQ,eZ,bR,cH,cJ,eC,cY,cW];have Ib:=(by decide:∀s∈([[100,101,102,101,114],[109,111,100,117,108,101]]:List aU),s.length<=6) v hmv;have W:=aA Ng Ib;repeat' first|refine st ?_|(refine nx ?_;refine so ?_)|(refine cx ?_;refine sc (λhc=>?_) (λhc=>?_)<;>try exact hc.elim)|(refine lx ?_;refine sp (λhc=>?_) (λhc=>?_)<;>try exact hc.elim)|refine sx ?_ ?_|refine sy ?_ ?_|fail
    refine⟨.inr rfl,rJ (by simp[results220];rfl) (by rfl) (by rfl) (by omega) (by simp) (by simp) ?_⟩;simp only[single,res];exact⟨_,rfl,by first|omega|(simp;omega)⟩
   .have:=hx2;by_cases hx3:x=3
    .subst hx3;have W:=trivial;repeat' first|refine st ?_|(refine nx ?_;refine so ?_)|(refine cx ?_;refine sc (λhc=>?_) (λhc=>?_)<;>try exact hc.elim)|(refine lx ?_;refine sp (λhc=>?_) (λhc=>?_)<;>try exact hc.elim)|refine sx ?_ ?_|refine sy ?_ ?_|fail
     refine oI (i:=1) (ver:=1) (by rfl) (by rfl) ?_ (by simp[AS.frozen,uL,tZ,rW,uT,aD.rW,aD.kill,iI,qD,rt];rfl);refine cu (gT ([[108,111,103,111],[99,100,110,47,108,111,103,111]]:List aU) (by decide)) ?_;rintro _ ju gu ⟨u,O6,rfl⟩ Oq;simp only[AS.drew,AS.called,aV,AS.put,aJ,aH,eU,bS,eQ,bQ,eZ,bR,cH,cJ,eC,cY,cW];have Ng:=(by decide:∀s∈([[108,111,103,111],[99,100,110,47,108,111,103,111]]:List aU),s.length<=8) u O6;have W:=Ng;repeat' first|refine st ?_|(refine nx ?_;refine so ?_)|(refine cx ?_;refine sc (λhc=>?_) (λhc=>?_)<;>try exact hc.elim)|(refine lx ?_;refine sp (λhc=>?_) (λhc=>?_)<;>try exact hc.elim)|refine sx ?_ ?_|refine sy ?_ ?_|fail
     refine⟨.inr rfl,rJ (by simp[results220];rfl) (by rfl) (by rfl) (by omega) (by simp) (by simp) ?_⟩;simp only[single,res];exact⟨_,rfl,by first|omega|(simp;omega)⟩
    .have:=hx3;by_cases hx4:x=4
     .subst hx4;have W:=trivial;repeat' first|refine st ?_|(refine nx ?_;refine so ?_)|(refine cx ?_;refine sc (λhc=>?_) (λhc=>?_)<;>try exact hc.elim)|(refine lx ?_;refine sp (λhc=>?_) (λhc=>?_)<;>try exact hc.elim)|refine sx ?_ ?_|refine sy ?_ ?_|fail
      refine oI (i:=1) (ver:=1) (by rfl) (by rfl) ?_ (by simp[AS.frozen,uL,tZ,rW,uT,aD.rW,aD.kill,iI,qD,rt];rfl);refine cu (gT ([[115,116,121,108,101],[99,100,110,47,115,116,121,108,101]]:List aU) (by decide)) ?_;rintro _ ju gu ⟨u,O6,rfl⟩ Oq;simp only[AS.drew,AS.called,aV,AS.put,aJ,aH,eU,bS,eQ,bQ,eZ,bR,cH,cJ,eC,cY,cW];have Ng:=(by decide:∀s∈([[115,116,121,108,101],[99,100,110,47,115,116,121,108,101]]:List aU),s.length<=9) u O6;have W:=Ng;repeat' first|refine st ?_|(refine nx ?_;refine so ?_)|(refine cx ?_;refine sc (λhc=>?_) (λhc=>?_)<;>try exact hc.elim)|(refine lx ?_;refine sp (λhc=>?_) (λhc=>?_)<;>try exact hc.elim)|refine sx ?_ ?_|refine sy ?_ ?_|fail
      refine⟨.inr rfl,rJ (by simp[results220];rfl) (by rfl) (by rfl) (by omega) (by simp) (by simp) ?_⟩;simp only[single,res];exact⟨_,rfl,by first|omega|(simp;omega)⟩
     .have:=hx4;by_cases hx5:x=5
      .subst hx5;have W:=trivial;repeat' first|refine st ?_|(refine nx ?_;refine so ?_)|(refine cx ?_;refine sc (λhc=>?_) (λhc=>?_)<;>try exact hc.elim)|(refine lx ?_;refine sp (λhc=>?_) (λhc=>?_)<;>try exact hc.elim)|refine sx ?_ ?_|refine sy ?_ ?_|fail
       refine oI (i:=1) (ver:=1) (by rfl) (by rfl) ?_ (by simp[AS.frozen,uL,tZ,rW,uT,aD.rW,aD.kill,iI,qD,rt];rfl);refine cu (gT ([[112,32,97,61,98],[],[80],[112,32,97],[112,32,97,61],[112,32,32,97,61,98],[112,32,97,61,98,32,97,61,99],[112,32,97,61,98,32,98,61,99,32,99,61,100,32,100,61,101,32,101,61,102],[47],[112,32,97,61,98,61,99]]:List aU) (by decide)) ?_;rintro _ ju gu ⟨u,O6,rfl⟩ Oq;simp only[AS.drew,AS.called,aV,AS.put,aJ,aH,eU,bS,eQ,bQ,eZ,bR,cH,cJ,eC,cY,cW];have Ng:=(by decide:∀s∈([[112,32,97,61,98],[],[80],[112,32,97],[112,32,97,61],[112,32,32,97,61,98],[112,32,97,61,98,32,97,61,99],[112,32,97,61,98,32,98,61,99,32,99,61,100,32,100,61,101,32,101,61,102],[47],[112,32,97,61,98,61,99]]:List aU),s.length<=21) u O6;have W:=Ng;repeat' first|refine st ?_|(refine nx ?_;refine so ?_)|(refine cx ?_;refine sc (λhc=>?_) (λhc=>?_)<;>try exact hc.elim)|(refine lx ?_;refine sp (λhc=>?_) (λhc=>?_)<;>try exact hc.elim)|refine sx ?_ ?_|refine sy ?_ ?_|fail
       refine⟨.inr rfl,rJ (by simp[results220];rfl) (by rfl) (by rfl) (by omega) (by simp) (by simp) ?_⟩;simp only[single,res];exact⟨_,rfl,by first|omega|(simp;omega)⟩
      .have:=hx5;have W:=aA hx0 (aA rf (aA hx2 (aA hx3 (aA hx4 hx5))));repeat' first|refine st ?_|(refine nx ?_;refine so ?_)|(refine cx ?_;refine sc (λhc=>?_) (λhc=>?_)<;>try exact hc.elim)|(refine lx ?_;refine sp (λhc=>?_) (λhc=>?_)<;>try exact hc.elim)|refine sx ?_ ?_|refine sy ?_ ?_|fail
       refine oI (i:=1) (ver:=1) (by rfl) (by rfl) ?_ (by simp[AS.frozen,uL,tZ,rW,uT,aD.rW,aD.kill,iI,qD,rt];rfl);refine cu (gT ([[112],[98],[112,97,103,101],[115,99,114,105,112,116]]:List aU) (by decide)) ?_;rintro _ ju gu ⟨u,O6,rfl⟩ Oq;simp only[AS.drew,AS.called,aV,AS.put,aJ,aH,eU,bS,eQ,bQ,eZ,bR,cH,cJ,eC,cY,cW];have Ng:=(by decide:∀s∈([[112],[98],[112,97,103,101],[115,99,114,105,112,116]]:List aU),s.length<=6) u O6;have W:=Ng;repeat' first|refine st ?_|(refine nx ?_;refine so ?_)|(refine cx ?_;refine sc (λhc=>?_) (λhc=>?_)<;>try exact hc.elim)|(refine lx ?_;refine sp (λhc=>?_) (λhc=>?_)<;>try exact hc.elim)|refine sx ?_ ?_|refine sy ?_ ?_|fail
       refine⟨.inr rfl,rJ (by simp[results220];rfl) (by rfl) (by rfl) (by omega) (by simp) (by simp) ?_⟩;simp only[single,res];exact⟨_,rfl,by omega⟩
theorem VY[aB prog](m:Nat)(hm:m<=100):Jo prog 181 [.int .i64 (m:Int)] (O5 (62*m+10)):=by
 refine Ec aO func181 ntmps181 ?_;intro code i h hi hl;simp only[aV];have Hw:i64.wrap ((m:Int)+1)=(m:Int)+1:=by rw[wrap64]<;>omega
 have W:=Hw;repeat' first|refine st ?_|(refine nx ?_;refine so ?_)|(refine cx ?_;refine sc (λhc=>?_) (λhc=>?_)<;>try exact hc.elim)|(refine lx ?_;refine sp (λhc=>?_) (λhc=>?_)<;>try exact hc.elim)|refine sx ?_ ?_|refine sy ?_ ?_|fail
 refine cu (kW ((m:Int)+1)) ?_;rintro _ i2 h2 ⟨x,rfl,x0,x1,x2⟩ hi2;simp only[AS.drew,AS.called,aV,AS.put,aJ,aH,eU,bS,eQ,bQ,eZ,bR,cH,cJ,eC,cY,cW];obtain⟨n,rfl⟩:=iS x0;have hn:n<=m:=by omega
 have W:=trivial;repeat' first|refine st ?_|(refine nx ?_;refine so ?_)|(refine cx ?_;refine sc (λhc=>?_) (λhc=>?_)<;>try exact hc.elim)|(refine lx ?_;refine sp (λhc=>?_) (λhc=>?_)<;>try exact hc.elim)|refine sx ?_ ?_|refine sy ?_ ?_|fail
 refine aI (ι:={x:Nat×aU×Int×Int // x.1<=m/\x.2.1.length+62*x.1<=62*m/\0<=x.2.2.1}) (λt o y=>⟨bH t [(5,.str y.1.2.1),(6,.int .i64 (y.1.1:Int))],[⟨true,true,3,2,[[.sl .view 1 (bA code),.int .i64 y.1.2.2.1,.int .i64 y.1.2.2.2]]⟩]⟩)
  (λy=>y.1.1) ⟨(n,[],i2,h2),hn,by simp;omega,hi2⟩ aG ?_
 rintro⟨⟨k,s,j,g⟩,hk,hs,hj⟩ K1 hK1;simp only at hk hs hj;by_cases h0:0<k
 .have hk0:(k:Int) > 0:=by omega
  have hk1:i64.wrap ((k:Int)-1)=((k-1:Nat):Int):=by rw[wrap64]<;>omega
  have hK2:=hK1;simp only[bH,cH,cJ]at hK1⊢;clear hK1;have W:=hk0;repeat' first|refine st ?_|(refine nx ?_;refine so ?_)|(refine cx ?_;refine sc (λhc=>?_) (λhc=>?_)<;>try exact hc.elim)|(refine lx ?_;refine sp (λhc=>?_) (λhc=>?_)<;>try exact hc.elim)|refine sx ?_ ?_|refine sy ?_ ?_|fail
  refine cu (iA 3) ?_;rintro _ j2 g2 ⟨b,rfl⟩ hj2;simp only[AS.drew,AS.called,aV,AS.put,aJ,aH,eU,bS,eQ,bQ,eZ,bR,cH,cJ,eC,cY,cW];cases b
  .have W:=trivial;repeat' first|refine st ?_|(refine nx ?_;refine so ?_)|(refine cx ?_;refine sc (λhc=>?_) (λhc=>?_)<;>try exact hc.elim)|(refine lx ?_;refine sp (λhc=>?_) (λhc=>?_)<;>try exact hc.elim)|refine sx ?_ ?_|refine sy ?_ ?_|fail
   refine cu (qb) ?_;rintro _ j3 g3 ⟨u,rfl,hu⟩ hj3;simp only[AS.drew,AS.called,aV,AS.put,aJ,aH,eU,bS,eQ,bQ,eZ,bR,cH,cJ,eC,cY,cW];have Ng:s.length+1+u.length+1<=6200:=by omega
   have W:=aA hk1 Ng;repeat' first|refine st ?_|(refine nx ?_;refine so ?_)|(refine cx ?_;refine sc (λhc=>?_) (λhc=>?_)<;>try exact hc.elim)|(refine lx ?_;refine sp (λhc=>?_) (λhc=>?_)<;>try exact hc.elim)|refine sx ?_ ?_|refine sy ?_ ?_|fail
   refine hK2 _ ⟨(k-1,s++[60]++u++[62],j3,g3),by simp only;omega,by simp;omega,hj3⟩ ?_ (by simp only;omega);exact aL 1 (by simp) (by simp) (by simp) (by simp)
  .have W:=trivial;repeat' first|refine st ?_|(refine nx ?_;refine so ?_)|(refine cx ?_;refine sc (λhc=>?_) (λhc=>?_)<;>try exact hc.elim)|(refine lx ?_;refine sp (λhc=>?_) (λhc=>?_)<;>try exact hc.elim)|refine sx ?_ ?_|refine sy ?_ ?_|fail
   refine oI (i:=1) (ver:=1) (by rfl) (by rfl) ?_ (by simp[AS.frozen,uL,tZ,rW,uT,aD.rW,aD.kill,iI,qD,rt];rfl);refine cu (gT ([[104,105],[97,32,98],[99,111,117,110,116],[120,62,121],[]]:List aU) (by decide)) ?_;rintro _ j3 g3 ⟨u,hm3,rfl⟩ hj3;simp only[AS.drew,AS.called,aV,AS.put,aJ,aH,eU,bS,eQ,bQ,eZ,bR,cH,cJ,eC,cY,cW];have hu:=(by decide:∀s∈([[104,105],[97,32,98],[99,111,117,110,116],[120,62,121],[]]:List aU),s.length<=5) u hm3;have Ng:s.length+u.length<=6200:=by omega
   have W:=aA hk1 Ng;repeat' first|refine st ?_|(refine nx ?_;refine so ?_)|(refine cx ?_;refine sc (λhc=>?_) (λhc=>?_)<;>try exact hc.elim)|(refine lx ?_;refine sp (λhc=>?_) (λhc=>?_)<;>try exact hc.elim)|refine sx ?_ ?_|refine sy ?_ ?_|fail
   refine hK2 _ ⟨(k-1,s++u,j3,g3),by simp only;omega,by simp;omega,hj3⟩ ?_ (by simp only;omega);exact aL 1 (by simp) (by simp) (by simp) (by simp)
 .have hk0:¬(k:Int) > 0:=by omega
  simp only[bH,cH,cJ]at hK1⊢;clear hK1;have W:=hk0;repeat' first|refine st ?_|(refine nx ?_;refine so ?_)|(refine cx ?_;refine sc (λhc=>?_) (λhc=>?_)<;>try exact hc.elim)|(refine lx ?_;refine sp (λhc=>?_) (λhc=>?_)<;>try exact hc.elim)|refine sx ?_ ?_|refine sy ?_ ?_|fail
  refine cu (iA 6) ?_;rintro _ j2 g2 ⟨b,rfl⟩ hj2;simp only[AS.drew,AS.called,aV,AS.put,aJ,aH,eU,bS,eQ,bQ,eZ,bR,cH,cJ,eC,cY,cW];cases b
  .have W:=trivial;repeat' first|refine st ?_|(refine nx ?_;refine so ?_)|(refine cx ?_;refine sc (λhc=>?_) (λhc=>?_)<;>try exact hc.elim)|(refine lx ?_;refine sp (λhc=>?_) (λhc=>?_)<;>try exact hc.elim)|refine sx ?_ ?_|refine sy ?_ ?_|fail
   refine⟨.inr rfl,rJ (by simp[results181];rfl) (by rfl) (by rfl) (by omega) (by simp) (by simp) ?_⟩;simp only[single,res];exact⟨_,rfl,by omega⟩
  .have W:=trivial;repeat' first|refine st ?_|(refine nx ?_;refine so ?_)|(refine cx ?_;refine sc (λhc=>?_) (λhc=>?_)<;>try exact hc.elim)|(refine lx ?_;refine sp (λhc=>?_) (λhc=>?_)<;>try exact hc.elim)|refine sx ?_ ?_|refine sy ?_ ?_|fail
   refine oI (i:=1) (ver:=1) (by rfl) (by rfl) ?_ (by simp[AS.frozen,uL,tZ,rW,uT,aD.rW,aD.kill,iI,qD,rt];rfl);refine cu (gT ([[60,112],[60],[101,110,100]]:List aU) (by decide)) ?_;rintro _ j3 g3 ⟨u,hm3,rfl⟩ hj3;simp only[AS.drew,AS.called,aV,AS.put,aJ,aH,eU,bS,eQ,bQ,eZ,bR,cH,cJ,eC,cY,cW];have hu:=(by decide:∀s∈([[60,112],[60],[101,110,100]]:List aU),s.length<=3) u hm3;have Ng:s.length+u.length<=6300:=by omega
   have W:=Ng;repeat' first|refine st ?_|(refine nx ?_;refine so ?_)|(refine cx ?_;refine sc (λhc=>?_) (λhc=>?_)<;>try exact hc.elim)|(refine lx ?_;refine sp (λhc=>?_) (λhc=>?_)<;>try exact hc.elim)|refine sx ?_ ?_|refine sy ?_ ?_|fail
   refine⟨.inr rfl,rJ (by simp[results181];rfl) (by rfl) (by rfl) (by omega) (by simp) (by simp) ?_⟩;simp only[single,res];exact⟨_,rfl,by simp;omega⟩
theorem QX[aB prog]:zx prog 22:=by
 refine aT2 aO func22 ntmps22 ?_;intro code hl;simp only[maxLen]at hl;have W:=trivial;repeat' first|refine st ?_|(refine nx ?_;refine so ?_)|(refine cx ?_;refine sc (λhc=>?_) (λhc=>?_)<;>try exact hc.elim)|(refine lx ?_;refine sp (λhc=>?_) (λhc=>?_)<;>try exact hc.elim)|refine sx ?_ ?_|refine sy ?_ ?_|fail
 refine aI (ι:={x:Nat×Int // x.1<=code.length}) (λt o y=>⟨bH t [(3,.int .i64 y.1.2),(4,.int .i64 (y.1.1:Int))],o⟩)
  (λy=>code.length-y.1.1) ⟨(0,i64.wrap (193017+(code.length:Int))),by simp⟩ aG ?_
 rintro⟨⟨k,g⟩,hk⟩ K1 hK1;simp only at hk;simp only[bH,cH,cJ]at hK1⊢;by_cases hlt:k<code.length
 .have h1:(k:Int)<(code.length:Int):=by omega
  by_cases h2:(k:Int)<4000
  .have hg:=UQ (aE hlt);generalize code[k]=c at*;have hk1:=rE (k:=k);have W:=aA h1 (aA h2 (aA hg hk1));repeat' first|refine st ?_|(refine nx ?_;refine so ?_)|(refine cx ?_;refine sc (λhc=>?_) (λhc=>?_)<;>try exact hc.elim)|(refine lx ?_;refine sp (λhc=>?_) (λhc=>?_)<;>try exact hc.elim)|refine sx ?_ ?_|refine sy ?_ ?_|fail
   refine hK1 _ ⟨(k+1,Eg .and .i64 (i64.wrap (i64.wrap (i64.wrap (g*137)+i64.wrap (c.toNat:Int))+11)) 1073741823),by simp only;omega⟩ ?_ (by simp only;omega);exact aG (by simp) (by simp)
  .have W:=aA h1 h2;repeat' first|refine st ?_|(refine nx ?_;refine so ?_)|(refine cx ?_;refine sc (λhc=>?_) (λhc=>?_)<;>try exact hc.elim)|(refine lx ?_;refine sp (λhc=>?_) (λhc=>?_)<;>try exact hc.elim)|refine sx ?_ ?_|refine sy ?_ ?_|fail
   refine⟨.inr rfl,0,0,0,_,by first|(simp[results22];done)|(simp[results22];rfl),by first|rfl|(simp[aV];done)|(simp[aV];rfl),by omega⟩
 .have h1:¬(k:Int)<(code.length:Int):=by omega
  have W:=h1;repeat' first|refine st ?_|(refine nx ?_;refine so ?_)|(refine cx ?_;refine sc (λhc=>?_) (λhc=>?_)<;>try exact hc.elim)|(refine lx ?_;refine sp (λhc=>?_) (λhc=>?_)<;>try exact hc.elim)|refine sx ?_ ?_|refine sy ?_ ?_|fail
  refine⟨.inr rfl,0,0,0,_,by first|(simp[results22];done)|(simp[results22];rfl),by first|rfl|(simp[aV];done)|(simp[aV];rfl),by omega⟩
end Go.Proofs.YtnkpkklemmgapaaGreatDoor
