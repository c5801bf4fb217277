/- Proved here: steps towards the statement of this claim. No condition. -/
import Derived.Test.YtdcpobkemdacnaaGreatDoorZQU8
import Derived.Test.YtdcpobkemdacnaaGreatDoorZJ5
import Derived.Test.YtdcpobkemdacnaaGreatDoorZQQ2
import Derived.Test.YtdcpobkemdacnaaGreatDoorZQS2
set_option linter.all false
set_option maxRecDepth 4000
set_option maxHeartbeats 4000000
namespace Go.Proofs.YtdcpobkemdacnaaGreatDoor
open Go.Aw Proofs.Tryz List IntKind
theorem Rh [aC prog] (l:List iQ) (hs:bT gF l<=274877906944):Ok prog 123 [.sl .view 2 (l.map (dH .view))] (.sl .own 2 (l.map (dH .own))):=by
 simp only [bT] at hs;refine bO aD func123 ntmps123 ?_;refine aZ ?_;refine aP (ι:={q:Nat×Nat // q.1<=l.length/\1<=q.2}) (λt o i=>⟨bE t [(3,.obj 0 i.1.2),(9,.int .i64 i.1.1),(5,.undef)],o.take 0++[⟨true,false,2,i.1.2,(l.take i.1.1).map (dH .own)⟩]⟩)
  (λi=>l.length - i.1.1) ⟨(0,1),by simp,by first|(simp;done)|(simp only;omega)⟩ aO ?_
 rintro ⟨⟨k,v⟩,hk,hv⟩ K1 hK1;simp only at hk hv;simp only [bE,cW,cU,eL,fS,eA,eM] at hK1⊢;have hk1:=oW (k:=k);by_cases hlt:k < l.length
 .have hg:=aE hlt;have hps:=Dr (dH .own) l k hlt;have hz:=dO gF l k hlt;simp only [gF,bT] at hz;have Mc:((l.take k).map (dH .own)).length=k:=by simp;omega
  generalize (l.take k).map (dH .own)=g at *;have W:=aA hk1 (aA hg (aA hlt Mc));refine we ?_;all_goals refine hK1 _ ⟨(k+1,v+1),by simp only;omega,by simp only;omega⟩ (aX 1 (by simp [hps])) (by simp only;omega)
 .have htk:l.take k=l:=cY (by omega);rw [htk];have W:=hk1;refine we ?_;exact aF results123
theorem oh [aC prog] (l:List iQ) (hs:bT gF l<=274877906944):Ok prog 91 [.sl .view 2 (l.map (dH .view))] (.sl .own 2 (l.map (dH .own))):=by
 simp only [bT] at hs;refine bO aD func91 ntmps91 ?_;refine aZ ?_;refine aP (ι:={q:Nat×Nat // q.1<=l.length/\1<=q.2}) (λt o i=>⟨bE t [(3,.obj 0 i.1.2),(4,.int .i64 i.1.1)],o.take 0++[⟨true,false,2,i.1.2,(l.take i.1.1).map (dH .own)⟩]⟩)
  (λi=>l.length - i.1.1) ⟨(0,1),by simp,by first|(simp;done)|(simp only;omega)⟩ aO ?_
 rintro ⟨⟨k,v⟩,hk,hv⟩ K1 hK1;simp only at hk hv;simp only [bE,cW,cU,eL,fS,eA,eM] at hK1⊢;have hk1:=oW (k:=k);by_cases hlt:k < l.length
 .have hg:=aE hlt;have hps:=Dr (dH .own) l k hlt;have hz:=dO gF l k hlt;simp only [gF,bT] at hz;have Mc:((l.take k).map (dH .own)).length=k:=by simp;omega
  generalize (l.take k).map (dH .own)=g at *;have W:=aA hk1 (aA hg (aA hlt Mc));refine we ?_;all_goals refine hK1 _ ⟨(k+1,v+1),by simp only;omega,by simp only;omega⟩ (aX 1 (by simp [hps])) (by simp only;omega)
 .have htk:l.take k=l:=cY (by omega);rw [htk];have W:=hk1;refine we ?_;exact aF results91
theorem Ky [aC prog] (c:rV) (hs:nV c<=274877906944):Ok prog 124 [.agg (iH .view c)] (.agg (iH .own c)):=by simp only [nV,bT] at hs;refine bO aD func124 ntmps124 ?_;refine aZ ?_;exact aF results124
theorem Ri [aC prog] (c:rV) (hs:nV c<=274877906944):Ok prog 92 [.agg (iH .view c)] (.agg (iH .own c)):=by simp only [nV,bT] at hs;refine bO aD func92 ntmps92 ?_;refine aZ ?_;exact aF results92
theorem Rj [aC prog] (n:nN) (hs:nO n<=274877906944):Ok prog 70 [.agg (mP .view n)] (.agg (mP .own n)):=by simp only [nO] at hs;have c1:=Rh n.jO (by omega);have c2:=Ky n.cache (by omega);simp only [iH] at c2;simp only [bT] at hs;refine bO aD func70 ntmps70 ?_;refine aZ ?_;exact aF results70
theorem Rk [aC prog] (n:nN) (hs:nO n<=274877906944):Ok prog 48 [.agg (mP .view n)] (.agg (mP .own n)):=by simp only [nO] at hs;have c1:=oh n.jO (by omega);have c2:=Ri n.cache (by omega);simp only [iH] at c2;simp only [bT] at hs;refine bO aD func48 ntmps48 ?_;refine aZ ?_;exact aF results48
def fU (x:bA):Bool:=
 (decide (100<=x.status)&&decide (x.status<=599))&&(decide (1<=x.kind)&&decide (x.kind<=5))&&decide (x.body.length<=400)&&(decide (0<=x.Hm)&&decide (x.Hm<=1000))&&(fV x.bD).2
theorem Br [aC prog] [bR prog] (s:bB) (hl:s.length<=1073741824):Ok prog 77 [.str s] (.gZ [.agg (bP .own (fV s).1),.bool (fV s).2]):=by have h:=Hr s hl;rw [ou s] at h;exact h
theorem qN [aC prog] [bR prog] (x:bA) (hl:bI x<=1073741824):Ok prog 55 [.agg (bG x)] (.bool (fU x)):=by
 simp only [bI] at hl;have c0:Ok prog 54 [.str x.bD] (.gZ [.agg (bP .view (fV x.bD).1),.bool (fV x.bD).2]):=Bq x.bD (by omega);have c1:=gK x.status 100 599;have c2:=gK x.kind 1 5;have c3:=gK x.Hm 0 1000;have e:decide (x.body.length<=400)=decide ((x.body.length:Int)<=400):=by simp only [rI];omega
 unfold fU;rw [e];generalize (decide (100<=x.status)&&decide (x.status<=599))=b1 at *;generalize (decide (1<=x.kind)&&decide (x.kind<=5))=b2 at *;generalize (decide (0<=x.Hm)&&decide (x.Hm<=1000))=b3 at *;generalize (fV x.bD).1=q at *;generalize (fV x.bD).2=b4 at *;simp only [bP] at c0;refine bO aD func55 ntmps55 ?_;have W:=trivial;repeat' first|refine wf ?_|(refine sq ?_ ?_<;>intro hc<;>try exact hc.elim)|fail
 all_goals try(refine aV ?_;simp [aH,results55])
 all_goals first|(simp_all;done)|(simp_all;omega)|(simp_all;intros;omega)
theorem uN [aC prog] [bR prog] (x:bA) (hl:bI x<=1073741824):Ok prog 76 [.agg (bG x)] (.bool (fU x)):=by
 simp only [bI] at hl;have c0:=Br x.bD (by omega);have c1:=jN x.status 100 599;have c2:=jN x.kind 1 5;have c3:=jN x.Hm 0 1000;have e:decide (x.body.length<=400)=decide ((x.body.length:Int)<=400):=by simp only [rI];omega
 unfold fU;rw [e];generalize (decide (100<=x.status)&&decide (x.status<=599))=b1 at *;generalize (decide (1<=x.kind)&&decide (x.kind<=5))=b2 at *;generalize (decide (0<=x.Hm)&&decide (x.Hm<=1000))=b3 at *;generalize (fV x.bD).1=q at *;generalize (fV x.bD).2=b4 at *;simp only [bP] at c0;refine bO aD func76 ntmps76 ?_;have W:=trivial;repeat' first|refine wf ?_|(refine sq ?_ ?_<;>intro hc<;>try exact hc.elim)|fail
 all_goals try(refine aV ?_;simp [aH,results76])
 all_goals first|(simp_all;done)|(simp_all;omega)|(simp_all;intros;omega)
def mE:bF:=⟨[⟨[112,97,103,101],[], -1,[]⟩],[0]⟩
theorem KG [aC prog] [bR prog]:Ok prog 78 [] (.agg (aU .own mE)):=by
 refine bO aD func78 ntmps78 ?_;have W:=trivial;repeat' first|refine st ?_|(refine nx ?_;first|refine se ?_|refine so ?_)|(refine cx ?_;refine sc (λhc=>?_) (λhc=>?_)<;>try exact hc.elim)|(refine lx ?_;refine sp (λhc=>?_) (λhc=>?_)<;>try exact hc.elim)|refine sx ?_ ?_|refine sy ?_ ?_|fail
 all_goals try(refine aV ?_;simp [aH,results78,mE])
theorem KH [aC prog] [bR prog]:Ok prog 56 [] (.agg (aU .own mE)):=by
 refine bO aD func56 ntmps56 ?_;have W:=trivial;repeat' first|refine st ?_|(refine nx ?_;first|refine se ?_|refine so ?_)|(refine cx ?_;refine sc (λhc=>?_) (λhc=>?_)<;>try exact hc.elim)|(refine lx ?_;refine sp (λhc=>?_) (λhc=>?_)<;>try exact hc.elim)|refine sx ?_ ?_|refine sy ?_ ?_|fail
 all_goals try(refine aV ?_;simp [aH,results56,mE])
def rZ:aG:=⟨⟨[],[]⟩,oM,⟨[]⟩,[],false,⟨[],[]⟩,[],[],[],0,0,0,0,[],[],false⟩
def Bt (a:aK) (p:eY):aG:=⟨a,p,⟨[]⟩,[],false,mE,[],[],[],0,0,0,0,[],[],false⟩
def dS (a:aK) (x:bA):aG×Bool:=
 if oP a=true/\fU x=true/\x.status=200/\x.kind=1 then (Bt a (fV x.bD).1,true) else (rZ,false)
theorem Rw (a:aK) (x:bA):dS a x=if (!oP a || !fU x || !decide (x.status=200) || !decide (x.kind=1))=true then (rZ,false) else (Bt a (fV x.bD).1,true):=by unfold dS;cases oP a<;>cases fU x<;>by_cases h1:x.status=200<;>by_cases h2:x.kind=1<;>simp [h1,h2]
theorem Rx [aC prog] [bR prog] (a:aK) (x:bA) (ha:aQ a<=1073741824) (hl:bI x<=1073741824):Ok prog 38 [.agg (aL a),.agg (bG x)] (.gZ [.agg (aI .own (dS a x).1),.bool (dS a x).2]):=by
 have c1:=qX a (by omega);simp only [aQ] at ha;have c2:=uN x hl;have c4:=KG;simp only [bI] at hl;have c3:=Br x.bD (by omega);simp only [aL] at c1;simp only [bG] at c2;simp only [bP] at c3;simp only [aU,mE,mA,Dg,fD,lW] at c4;rw [Rw];generalize oP a=b1 at *;generalize fU x=b2 at *;generalize (fV x.bD).1=q at *;generalize (fV x.bD).2=b4 at *;by_cases h1:x.status=200<;>by_cases h2:x.kind=1<;>cases b1<;>cases b2;all_goals simp only [h1,h2,BY,decide_false,Dd,DQ,Bool.or_true,Bool.or_false,Bool.true_or,Bool.false_or,eS,gO,hH]
 all_goals (
  (try rw [h1] at c2)
  (try rw [h2] at c2)
  refine xL aD func38 ntmps38 ?_;have W:=aA h1 h2;repeat' first|refine st ?_|(refine nx ?_;first|refine se ?_|refine so ?_)|(refine cx ?_;refine sc (λhc=>?_) (λhc=>?_)<;>try exact hc.elim)|(refine lx ?_;refine sp (λhc=>?_) (λhc=>?_)<;>try exact hc.elim)|refine sx ?_ ?_|refine sy ?_ ?_|fail
  all_goals try(first|(refine ⟨.inr rfl,.inl ?_⟩;simp [aH,results38,rZ,oM,Bt,mE,h1,h2];done)|(refine ⟨.inr rfl,.inr (dA ?_)⟩;simp [AS.vV,AS.uS,AS.rv,results38,rZ,oM,Bt,mE,h1,h2];done)|(refine ⟨.inr rfl,.inl ?_⟩;simp [aH,results38,rZ,oM,Bt,mE,h1,h2]))
  skip)
theorem Ry [aC prog] [bR prog] (a : aK) (x : bA) (ha : aQ a <= 1073741824) (hl : bI x <= 1073741824) : Ok prog 28 [.agg (aL a), .agg (bG x)] (.gZ [.agg (aI .view (dS a x).1), .bool (dS a x).2]) := by
  have c1 := qW a (by omega);simp only [aQ] at ha;have c2 := qN x hl;have c4 := KH;have hb : fU x = true -> (fV x.bD).2 = true := by
    intro h;simp only [fU, eJ] at h;exact h.2
  simp only [bI] at hl;have c3 : Ok prog 54 [.str x.bD] (.gZ [.agg (bP .view (fV x.bD).1), .bool (fV x.bD).2]) := Bq x.bD (by omega);simp only [aL] at c1;simp only [bG] at c2;simp only [bP] at c3;simp only [aU, mE, mA, Dg, fD, lW] at c4;rw [Rw];generalize oP a = b1 at *;generalize fU x = b2 at *;generalize (fV x.bD).1 = q at *;generalize (fV x.bD).2 = b4 at *;have bad : (b1 = false \/ b2 = false \/ x.status ≠ 200 \/ x.kind ≠ 1) -> Ok prog 28 [.agg (aL a), .agg (bG x)] (.gZ [.agg (aI .own rZ), .bool false]) := by
    intro h;by_cases h1 : x.status = 200 <;> by_cases h2 : x.kind = 1 <;> cases b1 <;> cases b2 <;> cases b4;all_goals first
      | exact (Bool.false_ne_true (hb rfl)).elim
      | (exfalso; simp_all; done)
      | ((try rw [h1] at c2)
         (try rw [h2] at c2)
         refine Ur aD func28 ntmps28 ?_;have W := aA h1 h2;repeat' first|refine st ?_|(refine nx ?_;first|refine se ?_|refine so ?_)|(refine cx ?_;refine sc (λhc=>?_) (λhc=>?_)<;>try exact hc.elim)|(refine lx ?_;refine sp (λhc=>?_) (λhc=>?_)<;>try exact hc.elim)|refine sx ?_ ?_|refine sy ?_ ?_|fail
         all_goals try(first | (refine ⟨.inr rfl, .inl ?_⟩; simp [pY, results28, rZ, oM, h1, h2]; done) | (refine ⟨.inr rfl, .inr (qZ ?_)⟩; simp [AS.vV, AS.uS, AS.rv, results28, rZ, oM, h1, h2]; done) | (refine ⟨.inr rfl, .inl ?_⟩; simp [pY, results28, rZ, oM, h1, h2]))
         done)
  have xO : b1 = true -> b2 = true -> x.status = 200 -> x.kind = 1 -> Ok prog 28 [.agg (aL a), .agg (bG x)] (.gZ [.agg [.str a.host, .str a.path, .bool q.isSet, .sl .view 1 (q.fF.map dD), .sl .view 1 (q.iB.map dD), .sl .view 1 (q.iC.map dD), .str q.sP, .str [], .sl .own 4 [], .bool false, .sl .own 4 [[.str [112, 97, 103, 101], .str [], .int .i64 (-1), .sl .own 2 []]], .sl .own 1 [[.int .i64 0]], .sl .own 8 [], .sl .own 5 [], .sl .own 2 [], .int .i64 0, .int .i64 0, .int .i64 0, .int .i64 0, .sl .own 2 [], .sl .own 1 [], .bool false], .bool true]) := by
    intro h1 h2 h3 h4;have hb' := hb h2;subst h1; subst h2; subst hb';rw [h3, h4] at c2;refine Ur aD func28 ntmps28 ?_;have W := aA h3 h4;repeat' first|refine st ?_|(refine nx ?_;first|refine se ?_|refine so ?_)|(refine cx ?_;refine sc (λhc=>?_) (λhc=>?_)<;>try exact hc.elim)|(refine lx ?_;refine sp (λhc=>?_) (λhc=>?_)<;>try exact hc.elim)|refine sx ?_ ?_|refine sy ?_ ?_|fail
    all_goals try(first | (refine ⟨.inr rfl, .inl ?_⟩; simp [pY, results28, h3, h4]; done) | (refine ⟨.inr rfl, .inr (qZ ?_)⟩; simp [AS.vV, AS.uS, AS.rv, results28, h3, h4]; done) | (refine ⟨.inr rfl, .inl ?_⟩; simp [pY, results28, h3, h4]))
  by_cases hc : (!b1 || !b2 || !decide (x.status = 200) || !decide (x.kind = 1)) = true
  · rw [eI hc]
    refine (bad ?_).FP (by simp [rt, xM, mM, rZ, oM]);simp only [tD, DP, pT] at hc;rcases hc with ((h | h) | h) | h
    · exact .inl h
    · exact .inr (.inl h)
    · exact .inr (.inr (.inl h))
    · exact .inr (.inr (.inr h))
  · rw [cX hc]
    simp only [tD, DP, pT, not_or, Bool.not_eq_false, Decidable.not_not] at hc;exact (xO hc.1.1.1 hc.1.1.2 hc.1.2 hc.2).FP (by simp [rt, xM, mM, Bt, mE])
theorem Q6 (s:bB) (k:Nat) (h:k < s.length):(dQ s)[k]? =some [.int .u8 s[k].toNat]:=by simp [dQ,h]
theorem KM:∀s:bB,bytesOf (dQ s)=some s
 |[]=>rfl
 |c::s=>by have ih:=KM s;simp only [dQ,mA] at ih⊢;simp only [bytesOf,ih,mC,lP];simp
@[simp] theorem aMx (f:Tg->Option Tg) (b:Bool) (l:bB):mM f b (dQ l)=dQ l:=by
 induction l with
 |nil=>rfl
 |cons x l ih=>simp only [dQ,mA,mM,xM,rt] at ih⊢;rw [ih]
def Dv (s:bB) (k:Nat):bB:=(s.take k).map sQ++s.drop k
theorem ZJ (s:bB) (k:Nat):(Dv s k).length=s.length:=by unfold Dv;rw [eR,oX,oR,zE];omega
theorem ZK (s:bB) (k:Nat) (h:k < s.length):(Dv s k)[k]? =some s[k]:=by unfold Dv;rw [hS (by rw [oX,oR];omega)];simp [show min k s.length=k by omega,aE h]
theorem ZL (s:bB) (k:Nat) (h:k < s.length):(Dv s k).set k (sQ s[k])=Dv s (k+1):=by
 unfold Dv;have hl:((s.take k).map sQ).length=k:=by simp;omega
 rw [tW _ _ (by omega),hl,yW,mL h,cU,eK h,oS];simp
theorem Q7 (s:bB) (k:Nat) (h:k < s.length) (hm:sQ s[k]=s[k]):Dv s (k+1)=Dv s k:=by
 rw [<-ZL s k h,hm];have e:=ZK s k h;refine Bx λi=> ?_
 rw [getElem?_set];split
 .rename_i hi;subst hi;rw [eI (by rw [ZJ];exact h)];exact e.symm
 .rfl
theorem ZM (l:bB) (k:Nat) (c:UInt8):(dQ l).set k [.int .u8 c.toNat]=dQ (l.set k c):=by simp [dQ,map_set]
theorem qD [aC prog] (s:bB) (hl:s.length<=1099511627776):Ok prog 261 [.str s] (.str (s.map sQ)):=by
 refine bO aD func261 ntmps261 ?_;have W:=trivial;repeat' first|refine wf ?_|(refine nx ?_;refine sb ?_)|(refine sq ?_ ?_<;>intro hc<;>try exact hc.elim)|fail
 refine aP (ι:={k:Nat // k<=s.length}) (λt o i=>⟨bE t [(4,.int .i64 i.1)],[⟨true,false,1,1,dQ (Dv s i.1)⟩]⟩)
  (λi=>s.length - i.1) ⟨0,by simp⟩ (aO (by simp [Dv]) (by simp)) ?_
 rintro ⟨k,hk⟩ K1 hK1;simp only [bE,cW,cU] at hK1⊢;have hk1:=oW (k:=k);by_cases hlt:k < s.length
 .have hul:=ZJ s k;have hug:=ZK s k hlt;have hbl:=mW (Dv s k);have hg:(dQ (Dv s k))[k]? =some [.int .u8 s[k].toNat]:=by rw [Q6 _ _ (by omega)];rw [aE (by omega)] at hug;rw [cQ hug]
  have hlb:k < (dQ (Dv s k)).length:=by omega
  have hs1:=ZL s k hlt;have nU:=Q7 s k hlt;by_cases h1:s[k]=91
  .have h1i:((s[k].toNat:Nat):Int)=91:=by rw [h1];rfl
   have hset:(dQ (Dv s k)).set k [.int .u8 60]=dQ (Dv s (k+1)):=by rw [<-hs1,<-ZM];simp [sQ,h1]
   have W:=aA hk1 (aA hg (aA hbl (aA hul (aA h1i hset))));have V:=aA hlb hlt;repeat' first|refine wf ?_|(refine nx ?_;refine sb ?_)|(refine sq ?_ ?_<;>intro hc<;>try exact hc.elim)|fail
   all_goals exact hK1 _ ⟨k+1,by omega⟩ aO (by simp only;omega)
  .have h1i:¬((s[k].toNat:Nat):Int)=91:=λh=>h1 (DA (by exact_mod_cast h))
   by_cases h2:s[k]=93
   .have h2i:((s[k].toNat:Nat):Int)=93:=by rw [h2];rfl
    have hset:(dQ (Dv s k)).set k [.int .u8 62]=dQ (Dv s (k+1)):=by rw [<-hs1,<-ZM];simp [sQ,h2]
    have W:=aA hk1 (aA hg (aA hbl (aA hul (aA h1i (aA h2i hset)))));have V:=aA hlb hlt;repeat' first|refine wf ?_|(refine nx ?_;refine sb ?_)|(refine sq ?_ ?_<;>intro hc<;>try exact hc.elim)|fail
    all_goals exact hK1 _ ⟨k+1,by omega⟩ aO (by simp only;omega)
   .have h2i:¬((s[k].toNat:Nat):Int)=93:=λh=>h2 (DA (by exact_mod_cast h))
    have hsm:=nU (by simp [sQ,h1,h2]);have W:=aA hk1 (aA hg (aA hbl (aA hul (aA h1i h2i))));have V:=aA hlb hlt;repeat' first|refine wf ?_|(refine nx ?_;refine sb ?_)|(refine sq ?_ ?_<;>intro hc<;>try exact hc.elim)|fail
    all_goals exact hK1 _ ⟨k+1,by omega⟩ (aO (by simp [hsm]) (by simp)) (by simp only;omega)
 .have hk2:k=s.length:=by omega
  have hup:Dv s k=s.map sQ:=by simp [Dv,hk2]
  have hul:(s.map sQ).length=s.length:=by simp
  have hbl:=mW (s.map sQ);have hbo:=KM (s.map sQ);rw [hup];have hnk:¬k < s.length:=hlt;have W:=aA hk1 (aA hbl (aA hul hbo));repeat' first|refine wf ?_|(refine nx ?_;refine sb ?_)|(refine sq ?_ ?_<;>intro hc<;>try exact hc.elim)|fail
  exact aF results261
def aY (b:bF) (n:bB):Int:=(((b.nodes.filter λx=>decide (x.name=n)).length:Nat):Int)
theorem RI (b:bF) (n:bB) (k:Nat) (h:k < b.nodes.length):((b.nodes.take (k+1)).filter λx=>decide (x.name=n)).length=((b.nodes.take k).filter λx=>decide (x.name=n)).length+(if b.nodes[k].name=n then 1 else 0):=by rw [eK h,filter_append,eR];congr 1;by_cases hn:b.nodes[k].name=n<;>simp [hn]
theorem KP [aC prog] [bR prog] [dK prog] (s:bB) (hl:s.length<=1073741824):Ok prog 215 [.str s] (.agg (eD .own (vH s))):=by
 have cS:Ok prog 97 [.str s,.int .u8 59] (.sl .own 1 ((dG 59 s).map dD)):=wX s 59 (by omega);have hsm:=Bc 59 s;have hsl:=iW 59 s;have hcn:s.count 59<=s.length:=pD;unfold vH;generalize dG 59 s=l at *;have hll:l.length<=1073741825:=by omega
 simp only [eD];refine bO aD func215 ntmps215 ?_;refine aZ ?_;refine aP (ι:={q:Nat×Nat×List EN // (q.1<=l.length/\1<=q.2.1)/\q.2.2=mF (l.take q.1)}) (λt o i=>⟨bE t [(5,.int .i64 i.1.1),(9,.undef)],o.take 1++[⟨true,true,1,0,[[.obj 3 i.1.2.1]]⟩,⟨true,false,1,1,l.map dD⟩,⟨true,false,2,i.1.2.1,i.1.2.2.map zR⟩]⟩)
  (λi=>l.length - i.1.1) ⟨(0,1,[]),by simp,by simp [mF]⟩ (vD 1 0 0 (ob:=⟨true,true,1,0,[[.sl .own 2 []]]⟩) (by rfl) (by rfl) (by rfl) (by simp) (by rfl) (by rfl) (by simp) (by simp [xM,rt,jV])) ?_
 rintro ⟨⟨k,v,acc⟩,⟨hk,hv⟩,wZ⟩ K1 hK1;simp only at hk hv wZ;simp only [bE,cW,cU,eL,fS,eA,eM] at hK1⊢;have hk1:=oW (k:=k);have Mc:(acc.map zR).length=acc.length:=by simp
 by_cases hlt:k < l.length
 .have hg:=aE hlt;by_cases h8:acc.length < 8
  .have h8i:((acc.length:Int) < 8):=by omega
   have Q8:=dO gM l k hlt;simp only [gM] at Q8;have cC:Ok prog 97 [.str l[k],.int .u8 58] (.sl .own 1 ((dG 58 l[k]).map dD)):=wX l[k] 58 (by omega);have cN:=fG (MQ l[k]) (by simp [MQ];omega);have cP:=OT (Dw l[k]) (by simp [Dw];omega);have n1:= @RS l k hlt;have n2:=λr=> @RU l k r hlt
   have r1:= @GZ l[k];have r2:= @NZ l[k];have r3:=λv=> @RO l[k] v
   have r4:=λv=> @RQ l[k] v
   have h2:=aLm l[k];have hsg:=iW 58 l[k];have hcg:l[k].count 58<=l[k].length:=pD;rw [<-wZ] at n1 n2;generalize PV:mF (l.take (k+1))=RX at *;generalize hrl:vG l[k]=ru at *;generalize MQ l[k]=ky at *;generalize Dw l[k]=vl at *;generalize dG 58 l[k]=ps at *;rcases h2 with h2|⟨h2,hr⟩
   .subst h2;simp only [mA,Dg,dD] at cC;cases hn:dB ky with
    |false=>rw [hn] at cN;have e2:=n1 (r2 hn);clear r1 r2 r3 r4 n1 n2;have W:=aA hk1 (aA hg (aA hlt h8i));refine we ?_;exact hK1 _ ⟨(k+1,v,acc),⟨by simp only;omega,hv⟩,(by simp only;rw [PV];exact e2.symm)⟩ (aX 4) (by simp only;omega)
    |true=>
     rw [hn] at cN;cases hp:Af vl with
     |none=>rw [vE hp] at cP;have e2:=n1 (r1 hp);clear r1 r2 r3 r4 n1 n2;have W:=aA hk1 (aA hg (aA hlt h8i));refine we ?_;exact hK1 _ ⟨(k+1,v,acc),⟨by simp only;omega,hv⟩,(by simp only;rw [PV];exact e2.symm)⟩ (aX 4) (by simp only;omega)
     |some x=>
      rw [Ew hp] at cP;have cR:=gK x 1 999;by_cases hx:1<=x/\x<=999
      .have hb:(decide ((1:Int)<=x)&&decide (x<=(999:Int)))=true:=by simp;omega
       rw [hb] at cR;have e2:=n2 _ (r4 x hp hn hx) h8;clear r1 r2 r3 r4 n1 n2;have hps:RX.map zR=acc.map zR++[zR ⟨ky,x⟩]:=by rw [e2];simp
       have W:=aA hk1 (aA hg (aA hlt (aA h8i Mc)));refine we ?_;all_goals exact hK1 _ ⟨(k+1,v+1,RX),⟨by simp only;omega,by simp only;omega⟩,(by simp only;exact PV.symm)⟩ (aX 4 (by simp [hps])) (by simp only;omega)
      .have hb:(decide ((1:Int)<=x)&&decide (x<=(999:Int)))=false:=by simp only [tP,pT];omega
       rw [hb] at cR;have e2:=n1 (r3 x hp hx);clear r1 r2 r3 r4 n1 n2;have W:=aA hk1 (aA hg (aA hlt h8i));refine we ?_;exact hK1 _ ⟨(k+1,v,acc),⟨by simp only;omega,hv⟩,(by simp only;rw [PV];exact e2.symm)⟩ (aX 4) (by simp only;omega)
   .have e2:=n1 hr;have h2i:¬((ps.length:Int)=2):=by omega
    clear r1 r2 r3 r4 n1 n2 cN cP;have W:=aA hk1 (aA hg (aA hlt (aA h8i h2i)));refine we ?_;exact hK1 _ ⟨(k+1,v,acc),⟨by simp only;omega,hv⟩,(by simp only;rw [PV];exact e2.symm)⟩ (aX 4) (by simp only;omega)
  .have h8i:¬((acc.length:Int) < 8):=by omega
   have hf:=RV (l:=l) (k:=k) (by rw [<-wZ];exact h8);rw [<-wZ] at hf;rw [hf];have W:=aA hk1 (aA hg (aA hlt (aA h8i Mc)));refine we ?_;exact aF results215
 .have htk:l.take k=l:=cY (by omega);rw [htk] at wZ;subst wZ;have W:=hk1;refine we ?_;exact aF results215
theorem Fb (p:eY) (r:gD):fH p r=1\/fH p r=2:=by unfold fH;split<;>simp
def gU (p:aG) (mode:Int) (tu digest:bB) (node:Int):aG×Int:=
 if 20<=p.aB.length\/fI mode=0 then (p, -1)
 else if (bY tu p.addr.host).2=false\/fH p.bD ⟨fI mode,(bY tu p.addr.host).1,p.addr.host,digest⟩≠1 then
  ({p with aB:=p.aB++[(⟨mode,(bY tu p.addr.host).1,digest,node,true,2,[]⟩:oZ)]},((p.aB.length:Nat):Int))
 else ({p with aB:=p.aB++[(⟨mode,(bY tu p.addr.host).1,digest,node,false,0,[]⟩:oZ)]},((p.aB.length:Nat):Int))
theorem AP {p:aG} {mode:Int} {tu digest:bB} {node:Int} (h:20<=p.aB.length\/fI mode=0):gU p mode tu digest node=(p, -1):=by unfold gU;rw [eI h]
theorem Oe {p:aG} {mode:Int} {tu digest:bB} {node:Int} (h:¬(20<=p.aB.length\/fI mode=0)) (h2:(bY tu p.addr.host).2=false\/fH p.bD ⟨fI mode,(bY tu p.addr.host).1,p.addr.host,digest⟩≠1):
  gU p mode tu digest node=({p with aB:=p.aB++[(⟨mode,(bY tu p.addr.host).1,digest,node,true,2,[]⟩:oZ)]},((p.aB.length:Nat):Int)):=by unfold gU;rw [cX h,eI h2]
theorem KW {p:aG} {mode:Int} {tu digest:bB} {node:Int} (h:¬(20<=p.aB.length\/fI mode=0)) (h1:(bY tu p.addr.host).2=true) (h2:fH p.bD ⟨fI mode,(bY tu p.addr.host).1,p.addr.host,digest⟩=1):
  gU p mode tu digest node=({p with aB:=p.aB++[(⟨mode,(bY tu p.addr.host).1,digest,node,false,0,[]⟩:oZ)]},((p.aB.length:Nat):Int)):=by
 unfold gU;rw [cX h,cX (by rintro (h3|h3);rw [h1] at h3;cases h3;exact h3 h2)]
theorem yD [aC prog] (p:aG) (mode:Int) (tu digest:bB) (node:Int) (hs:aJ p<=274877906944) (hto:tu.length<=274877906944) (hd:digest.length<=274877906944):Ok prog 218 [.agg (aI .view p),.int .i64 mode,.str tu,.str digest,.int .i64 node] (.gZ [.agg (aI .own (gU p mode tu digest node).1),.int .i64 (gU p mode tu digest node).2]):=by
 have c1:=gP p hs;simp only [aI] at c1;have hsl:p.addr.host.length<=274877906944:=by simp only [aJ,aQ] at hs;omega
 have Gh:eO p.bD<=1099511627776:=by simp only [aJ] at hs;omega
 have ML:p.aB.length<=274877906944:=by simp only [aJ,bT] at hs;omega
 have c2:=CF mode;have c3:=yV tu p.addr.host (by omega);by_cases Ht:(20:Int)<=(p.aB.length:Int)
 .rw [AP (.inl (by omega))];refine bO aD func218 ntmps218 ?_;have W:=Ht;refine we ?_;exact aF results218
 by_cases hk:fI mode=0
 .rw [AP (.inr hk)];rw [hk] at c2;refine bO aD func218 ntmps218 ?_;have W:=Ht;refine we ?_;exact aF results218
 have Dc:¬(20<=p.aB.length\/fI mode=0):=by rintro (h|h);omega;exact hk h
 have hsz:=KU tu p.addr.host;have jZ:=Oe (tu:=tu) (digest:=digest) (node:=node) Dc;have hgood:=KW (tu:=tu) (digest:=digest) (node:=node) Dc;have c5:=wD p.bD ⟨fI mode,(bY tu p.addr.host).1,p.addr.host,digest⟩ Gh (by simp only [jM];omega);have V5:=Fb p.bD ⟨fI mode,(bY tu p.addr.host).1,p.addr.host,digest⟩;have c4:=λl' BZ hl2=>xA {p with aB:=l'} (p.aB.length:Int) (by omega) BZ hl2
 have hr:∀s,jC {p with aB:=p.aB++[s]} (p.aB.length:Int)=⟨fI s.mode,s.to,p.addr.host,s.digest⟩:=λs=>by simp [jC,fQ]
 generalize hkm:fI mode=km at *;generalize bY tu p.addr.host=pa at *;obtain ⟨a,ok⟩:=pa;simp only at c3 c5 V5 hsz jZ hgood;obtain ⟨s0,hs0⟩:∃s:oZ,s=⟨mode,a,digest,node,false,0,[]⟩:=⟨_,rfl⟩;obtain ⟨l0,hl0⟩:∃l,l=p.aB++[s0]:=⟨_,rfl⟩;obtain ⟨l3,F8⟩:∃l:List oZ,l=p.aB++[⟨mode,a,digest,node,true,2,[]⟩]:=⟨_,rfl⟩;have hap:p.aB.map uW++[[.int .i64 mode,.str a.host,.str a.path,.str digest,.int .i64 node,.bool false,.int .i64 0,.str []]]=l0.map uW:=by rw [hl0,hs0];simp
 have hg:l0[p.aB.length]? =some s0:=by rw [hl0];simp
 have ug:l0.length=p.aB.length+1:=by rw [hl0];simp
 have hset:∀h,(l0.map uW).set p.aB.length [.int .i64 (l0[p.aB.length]'h).mode,.str (l0[p.aB.length]'h).to.host,.str (l0[p.aB.length]'h).to.path,.str (l0[p.aB.length]'h).digest,.int .i64 (l0[p.aB.length]'h).node,.bool true,.int .i64 2,.str (l0[p.aB.length]'h).body]=l3.map uW:=by
  intro h;have e:l0[p.aB.length]'h=s0:=by rw [aE h] at hg;exact cQ hg
  rw [e,hl0,F8,hs0,oS,oS,tW _ _ (by simp)];simp
 have c4:=c4 l0 (by rw [ug];omega) (by rw [ug];omega);rw [show jC {p with aB:=l0} (p.aB.length:Int)=⟨km,a,p.addr.host,digest⟩ by rw [hl0,hr,hs0];simp [hkm]] at c4;simp only [aI,dF] at c4;simp only [bP,dF] at c5;rw [<-F8] at jZ;rw [<-hs0,<-hl0] at hgood;have Uj:p.aB.length < l0.length:=by omega
 clear hs0 hl0 F8 hr hkm Dc;cases ok
 .rw [jZ (.inl rfl)];clear jZ hgood V5;refine bO aD func218 ntmps218 ?_;have W:=aA Ht (aA hk (aA hg (aA hap Uj)));refine we ?_;all_goals try(refine aV ?_;simp [aH,results218])
  all_goals exact hset _
 .rcases V5 with h|h
  .rw [hgood rfl h];rw [h] at c5;clear jZ hgood h;refine bO aD func218 ntmps218 ?_;have W:=aA Ht (aA hk (aA hg (aA hap Uj)));refine we ?_;all_goals try(refine aV ?_;simp [aH,results218])
   all_goals exact hset _
  .rw [jZ (.inr (by rw [h];decide))];rw [h] at c5;clear jZ hgood h;refine bO aD func218 ntmps218 ?_;have W:=aA Ht (aA hk (aA hg (aA hap Uj)));refine we ?_;all_goals try(refine aV ?_;simp [aH,results218])
   all_goals exact hset _
theorem yE [aC prog] (p:aG) (mode:Int) (tu digest:bB) (node:Int) (hs:aJ p<=274877906944) (hto:tu.length<=274877906944) (hd:digest.length<=274877906944):Ok prog 242 [.agg (aI .view p),.int .i64 mode,.str tu,.str digest,.int .i64 node] (.gZ [.agg (aI .own (gU p mode tu digest node).1),.int .i64 (gU p mode tu digest node).2]):=by
 have c1:=iK p hs;simp only [aI] at c1;have hsl:p.addr.host.length<=274877906944:=by simp only [aJ,aQ] at hs;omega
 have Gh:eO p.bD<=1099511627776:=by simp only [aJ] at hs;omega
 have ML:p.aB.length<=274877906944:=by simp only [aJ,bT] at hs;omega
 have c2:=CG mode;have c3:=yX tu p.addr.host (by omega);by_cases Ht:(20:Int)<=(p.aB.length:Int)
 .rw [AP (.inl (by omega))];refine bO aD func242 ntmps242 ?_;have W:=Ht;refine we ?_;exact aF results242
 by_cases hk:fI mode=0
 .rw [AP (.inr hk)];rw [hk] at c2;refine bO aD func242 ntmps242 ?_;have W:=Ht;refine we ?_;exact aF results242
 have Dc:¬(20<=p.aB.length\/fI mode=0):=by rintro (h|h);omega;exact hk h
 have hsz:=KU tu p.addr.host;have jZ:=Oe (tu:=tu) (digest:=digest) (node:=node) Dc;have hgood:=KW (tu:=tu) (digest:=digest) (node:=node) Dc;have c5:=wE p.bD ⟨fI mode,(bY tu p.addr.host).1,p.addr.host,digest⟩ Gh (by simp only [jM];omega);have V5:=Fb p.bD ⟨fI mode,(bY tu p.addr.host).1,p.addr.host,digest⟩;have c4:=λl' BZ hl2=>xB {p with aB:=l'} (p.aB.length:Int) (by omega) BZ hl2
 have hr:∀s,jC {p with aB:=p.aB++[s]} (p.aB.length:Int)=⟨fI s.mode,s.to,p.addr.host,s.digest⟩:=λs=>by simp [jC,fQ]
 generalize hkm:fI mode=km at *;generalize bY tu p.addr.host=pa at *;obtain ⟨a,ok⟩:=pa;simp only at c3 c5 V5 hsz jZ hgood;obtain ⟨s0,hs0⟩:∃s:oZ,s=⟨mode,a,digest,node,false,0,[]⟩:=⟨_,rfl⟩;obtain ⟨l0,hl0⟩:∃l,l=p.aB++[s0]:=⟨_,rfl⟩;obtain ⟨l3,F8⟩:∃l:List oZ,l=p.aB++[⟨mode,a,digest,node,true,2,[]⟩]:=⟨_,rfl⟩;have hap:p.aB.map uW++[[.int .i64 mode,.str a.host,.str a.path,.str digest,.int .i64 node,.bool false,.int .i64 0,.str []]]=l0.map uW:=by rw [hl0,hs0];simp
 have hg:l0[p.aB.length]? =some s0:=by rw [hl0];simp
 have ug:l0.length=p.aB.length+1:=by rw [hl0];simp
 have hset:∀h,(l0.map uW).set p.aB.length [.int .i64 (l0[p.aB.length]'h).mode,.str (l0[p.aB.length]'h).to.host,.str (l0[p.aB.length]'h).to.path,.str (l0[p.aB.length]'h).digest,.int .i64 (l0[p.aB.length]'h).node,.bool true,.int .i64 2,.str (l0[p.aB.length]'h).body]=l3.map uW:=by
  intro h;have e:l0[p.aB.length]'h=s0:=by rw [aE h] at hg;exact cQ hg
  rw [e,hl0,F8,hs0,oS,oS,tW _ _ (by simp)];simp
 have c4:=c4 l0 (by rw [ug];omega) (by rw [ug];omega);rw [show jC {p with aB:=l0} (p.aB.length:Int)=⟨km,a,p.addr.host,digest⟩ by rw [hl0,hr,hs0];simp [hkm]] at c4;simp only [aI,dF] at c4;simp only [bP,dF] at c5;rw [<-F8] at jZ;rw [<-hs0,<-hl0] at hgood;have Uj:p.aB.length < l0.length:=by omega
 clear hs0 hl0 F8 hr hkm Dc;cases ok
 .rw [jZ (.inl rfl)];clear jZ hgood V5;refine bO aD func242 ntmps242 ?_;have W:=aA Ht (aA hk (aA hg (aA hap Uj)));refine we ?_;all_goals try(refine aV ?_;simp [aH,results242])
  all_goals exact hset _
 .rcases V5 with h|h
  .rw [hgood rfl h];rw [h] at c5;clear jZ hgood h;refine bO aD func242 ntmps242 ?_;have W:=aA Ht (aA hk (aA hg (aA hap Uj)));refine we ?_;all_goals try(refine aV ?_;simp [aH,results242])
   all_goals exact hset _
  .rw [jZ (.inr (by rw [h];decide))];rw [h] at c5;clear jZ hgood h;refine bO aD func242 ntmps242 ?_;have W:=aA Ht (aA hk (aA hg (aA hap Uj)));refine we ?_;all_goals try(refine aV ?_;simp [aH,results242])
   all_goals exact hset _
def dN (p:aG) (s:bB):aG:=if p.ended=true then p else {p with queue:=p.queue++(feed (p.tok.rest++s)).1,tok:=⟨(feed (p.tok.rest++s)).2⟩}
theorem LC [aC prog] [bR prog] (a:aG) (s:bB) (hs:aJ a<=274877906) (hl:s.length<=274877906):Ok prog 41 [.agg (aI .view a),.str s] (.agg (aI .own (dN a s))):=by
 have c1:=iK a (by omega);simp only [aJ,bT,mI] at hs;have c2:=EX a.tok s (by omega);obtain ⟨h1,h2⟩:=CB (a.tok.rest++s).length (a.tok.rest++s) (eE _);simp only [dR] at c2;simp only [aI] at c1;unfold dN;simp only [eR] at h1 h2;generalize feed (a.tok.rest++s)=g at *;obtain ⟨l,x⟩:=g;simp only at c2 h1 h2⊢;have hb1:(a.queue.length+l.length) * 64<=140737488355328:=by omega
 by_cases he:a.ended=true
 .rw [eI he];simp only [he] at c1;refine bO aD func41 ntmps41 ?_;have W:=he;repeat' first|refine st ?_|(refine nx ?_;first|refine se ?_|refine so ?_)|(refine cx ?_;refine sc (λhc=>?_) (λhc=>?_)<;>try exact hc.elim)|(refine lx ?_;refine sp (λhc=>?_) (λhc=>?_)<;>try exact hc.elim)|refine sx ?_ ?_|refine sy ?_ ?_|fail
  all_goals try(refine aV ?_;simp [aH,results41])
  all_goals exact he
 .rw [cX he];replace he:a.ended=false:=by simpa using he
  simp only [he] at c1;refine bO aD func41 ntmps41 ?_;have W:=aA he hb1;repeat' first|refine st ?_|(refine nx ?_;first|refine se ?_|refine so ?_)|(refine cx ?_;refine sc (λhc=>?_) (λhc=>?_)<;>try exact hc.elim)|(refine lx ?_;refine sp (λhc=>?_) (λhc=>?_)<;>try exact hc.elim)|refine sx ?_ ?_|refine sy ?_ ?_|fail
  all_goals try(refine aV ?_;simp [aH,results41])
  all_goals (rw [<-oS];first|exact lX _|exact ⟨he,lX _⟩)
theorem LD [aC prog] [bR prog] (a:aG) (s:bB) (hs:aJ a<=274877906) (hl:s.length<=274877906):Ok prog 31 [.agg (aI .view a),.str s] (.agg (aI .own (dN a s))):=by
 have c1:=gP a (by omega);simp only [aJ,bT,mI] at hs;have c2:=EW a.tok s (by omega);obtain ⟨h1,h2⟩:=CB (a.tok.rest++s).length (a.tok.rest++s) (eE _);simp only [dR] at c2;simp only [aI] at c1;unfold dN;simp only [eR] at h1 h2;generalize feed (a.tok.rest++s)=g at *;obtain ⟨l,x⟩:=g;simp only at c2 h1 h2⊢;have hb1:(a.queue.length+l.length) * 64<=140737488355328:=by omega
 by_cases he:a.ended=true
 .rw [eI he];simp only [he] at c1;refine bO aD func31 ntmps31 ?_;have W:=he;repeat' first|refine st ?_|(refine nx ?_;first|refine se ?_|refine so ?_)|(refine cx ?_;refine sc (λhc=>?_) (λhc=>?_)<;>try exact hc.elim)|(refine lx ?_;refine sp (λhc=>?_) (λhc=>?_)<;>try exact hc.elim)|refine sx ?_ ?_|refine sy ?_ ?_|fail
  all_goals try(refine aV ?_;simp [aH,results31])
  all_goals exact he
 .rw [cX he];replace he:a.ended=false:=by simpa using he
  simp only [he] at c1;refine bO aD func31 ntmps31 ?_;have W:=aA he hb1;repeat' first|refine st ?_|(refine nx ?_;first|refine se ?_|refine so ?_)|(refine cx ?_;refine sc (λhc=>?_) (λhc=>?_)<;>try exact hc.elim)|(refine lx ?_;refine sp (λhc=>?_) (λhc=>?_)<;>try exact hc.elim)|refine sx ?_ ?_|refine sy ?_ ?_|fail
  all_goals try(refine aV ?_;simp [aH,results31])
  all_goals (rw [<-oS];first|exact lX _|exact ⟨he,lX _⟩)
end Go.Proofs.YtdcpobkemdacnaaGreatDoor
