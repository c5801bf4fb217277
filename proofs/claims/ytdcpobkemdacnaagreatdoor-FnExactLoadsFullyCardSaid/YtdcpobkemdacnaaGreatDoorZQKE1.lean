/- Proved here: steps towards the statement of this claim. No condition. -/
import Derived.Test.YtdcpobkemdacnaaGreatDoorZQB6
set_option linter.all false
set_option maxRecDepth 4000
set_option maxHeartbeats 4000000
namespace Go.Proofs.YtdcpobkemdacnaaGreatDoor
open Go.Aw Proofs.Tryz List IntKind
theorem wh [aC prog] [bR prog] (e:gI) (top:bB) (a:aK):Ok prog 228 [.agg (iU e),.fA .view [.str top] 0,.fA .view (aL a) 0] (.bool (qA top a e)):=by
 unfold qA;refine bO aD func228 ntmps228 ?_;have W:=trivial;have c0:=nW e.to a;repeat' first|refine wf ?_|(refine sq ?_ ?_<;>intro hc<;>try exact hc.elim)|fail
 all_goals try(refine aV ?_;simp [aH,results228])
 all_goals simp_all
theorem gy [aC prog] [bR prog] (l:List gI) (top:bB) (a:aK) (hl:l.length<=1099511627776):Ok prog 126 [.sl .view 10 (l.map iU),.fn 228 [.fA .view [.str top] 0,.fA .view (aL a) 0]] (.int .i64 (pW (qA top a) l)):=by
 refine bO aD func126 ntmps126 ?_;refine aZ ?_;refine aP (ι:={k:Nat // k<=l.length/\∀x∈l.take k,(qA top a) x=false}) (λt o i=>⟨bE t [(8,.int .i64 i.1),(5,.undef)],o⟩)
  (λi=>l.length - i.1) ⟨0,by simp⟩ aO ?_
 rintro ⟨k,hk,hpre⟩ K1 hK1;simp only [bE,cW,cU] at hK1⊢;have hk1:=oW (k:=k);by_cases hlt:k < l.length
 .have hg:=aE hlt;have c1:=wh l[k] top a;generalize hb:(qA top a) l[k]=b at *;have W:=aA hk1 (aA hg hlt);repeat' first|refine wf ?_|(refine sq ?_ ?_<;>intro hc<;>try exact hc.elim)|fail
  .all_goals try(refine aV ?_;simp [aH,results126])
   rw [uM hlt (by rw [hb];simpa using hc) hpre]
  .exact hK1 _ ⟨k+1,by omega,bZ hlt hpre (by rw [hb];simpa using hc)⟩ aO (by simp only;omega)
 .have W:=hk1;refine we ?_;all_goals try(refine aV ?_;simp [aH,results126])
  rw [nA (iX (by omega) hpre)]
theorem Gt [aC prog] [bR prog] (l:List gI) (top:bB) (a:aK) (hl:l.length<=1099511627776):Ok prog 184 [.agg (iH .view ⟨l⟩),.str top,.agg (aL a)] (.int .i64 (pW (qA top a) l)):=by have c1:=gy l top a hl;simp only [aL] at c1;refine bO aD func184 ntmps184 ?_;refine aZ ?_;exact aF results184
theorem IC [aC prog] [bR prog] (l:List gI) (top:bB) (a:aK) (hl:l.length<=1099511627776):Ok prog 158 [.agg (iH .view ⟨l⟩),.str top,.agg (aL a)] (.int .i64 (pW (qA top a) l)):=by
 refine bO aD func158 ntmps158 ?_;refine aZ ?_;refine aP (ι:={k:Nat // k<=l.length/\∀x∈l.take k,qA top a x=false}) (λt o i=>⟨bE t [(7,.int .i64 i.1)],o⟩)
  (λi=>l.length - i.1) ⟨0,by simp,by simp⟩ aO ?_
 rintro ⟨k,hk,hi⟩ K1 hK1;simp only [bE,cW,cU] at hK1⊢;have hk1:=oW (k:=k);by_cases hlt:k < l.length
 .have hg:=aE hlt;have hnx:qA top a l[k]=false->∀x∈l.take (k+1),qA top a x=false:=λh=>bZ hlt hi h
  by_cases h1:l[k].top=top
  .have JP:(l[k].top == top)=true:=by simp [h1]
   by_cases h2:l[k].to=a
   .rw [uM hlt (by simp [qA,h1,h2]) hi];have W:=aA hk1 (aA hg (aA hlt (aA JP h2)));have c0:=nW a a;refine we ?_;exact aF results158
   .have hnx:=hnx (by simp [qA,h2]);have W:=aA hk1 (aA hg (aA hlt (aA JP h2)));have c0:=nW l[k].to a;refine we ?_;exact hK1 _ ⟨k+1,by omega,hnx⟩ aO (by simp only;omega)
  .have JP:(l[k].top == top)=false:=by simp [h1]
   have hnx:=hnx (by simp [qA,JP]);have W:=aA hk1 (aA hg (aA hlt JP));refine we ?_;exact hK1 _ ⟨k+1,by omega,hnx⟩ aO (by simp only;omega)
 .rw [nA (iX (by omega) hi)];have W:=hk1;refine we ?_;exact aF results158
theorem Gu [aC prog] [bR prog] (l:List gI) (hs:bT gT l<=549755813888) (hr:∀e∈l,bI e.response<=1073741824):Ok prog 185 [.agg (iH .view ⟨l⟩)] (.bool (nY l)):=by
 simp only [bT] at hs;refine bO aD func185 ntmps185 ?_;refine aZ ?_;refine aP (ι:={k:Nat // k<=l.length/\∀j (hj:j < l.length),j < k->Bu l j l[j]=true}) (λt o i=>⟨bE t [(8,.int .i64 i.1),(3,.undef),(4,.undef)],o⟩)
  (λi=>l.length - i.1) ⟨0,by simp,by simp⟩ aO ?_
 rintro ⟨k,hk,hi⟩ K1 hK1;simp only [bE,cW,cU] at hK1⊢;have hk1:=oW (k:=k);by_cases hlt:k < l.length
 .have hg:=aE hlt;have hz:=dO gT l k hlt;simp only [gT] at hz;have cN:=gQ l[k].top (by omega);have cA:=qX l[k].to (by omega);have cR:=uN l[k].response (hr _ (fN hlt));have cE:=Gt l l[k].top l[k].to (by omega);simp only [aL] at cA cE;simp only [bG] at cR;simp only [iH] at cE;have Dc:=λh=>VR (l:=l) hlt h
  unfold Bu at Dc;have Gv:Bu l k l[k]=true->∀j (hj:j < l.length),j < k+1->Bu l j l[j]=true:=λh j hj hjk=>by
   rcases sB j k with hl|hl
   .exact hi j hj hl
   .obtain rfl:j=k:=by omega
    exact h
  unfold Bu at Gv;generalize dB l[k].top=b1 at *;generalize oP l[k].to=b2 at *;generalize fU l[k].response=b3 at *;generalize pW (qA l[k].top l[k].to) l=q at *;cases b1
  .rw [Dc (by simp)];have W:=aA hk1 (aA hg hlt);refine we ?_;exact aF results185
  .cases b2
   .rw [Dc (by simp)];have W:=aA hk1 (aA hg hlt);refine we ?_;exact aF results185
   .cases b3
    .rw [Dc (by simp)];have W:=aA hk1 (aA hg hlt);refine we ?_;exact aF results185
    .by_cases h4:l[k].response.status=200
     .rw [h4] at cR;by_cases h5:q=(k:Int)
      .have W:=aA hk1 (aA hg (aA hlt (aA h4 h5)));refine we ?_;exact hK1 _ ⟨k+1,by omega,Gv (by simp [h4,h5])⟩ (aX 1) (by simp only;omega)
      .rw [Dc (by simp [h5])];have W:=aA hk1 (aA hg (aA hlt (aA h4 h5)));refine we ?_;exact aF results185
     .rw [Dc (by simp [h4])];have W:=aA hk1 (aA hg (aA hlt h4));refine we ?_;exact aF results185
 .rw [RA (λj hj=>hi j hj (by omega))]
  have e:decide (l.length<=100)=decide ((l.length:Int)<=100):=by simp only [rI];omega
  rw [e];have W:=hk1;refine we ?_;exact aF results185
theorem Gw [aC prog] [bR prog] (l:List gI) (hs:bT gT l<=549755813888) (hr:∀e∈l,bI e.response<=1073741824):Ok prog 157 [.agg (iH .view ⟨l⟩)] (.bool (nY l)):=by
 simp only [bT] at hs;refine bO aD func157 ntmps157 ?_;refine aZ ?_;refine aP (ι:={k:Nat // k<=l.length/\∀j (hj:j < l.length),j < k->Bu l j l[j]=true}) (λt o i=>⟨bE t [(3,.int .i64 i.1),(4,.undef)],o⟩)
  (λi=>l.length - i.1) ⟨0,by simp,by simp⟩ aO ?_
 rintro ⟨k,hk,hi⟩ K1 hK1;simp only [bE,cW,cU] at hK1⊢;have hk1:=oW (k:=k);by_cases hlt:k < l.length
 .have hg:=aE hlt;have hz:=dO gT l k hlt;simp only [gT] at hz;have cN:=fG l[k].top (by omega);have cA:=qW l[k].to (by omega);have cR:=qN l[k].response (hr _ (fN hlt));have cE:=IC l l[k].top l[k].to (by omega);simp only [aL] at cA cE;simp only [bG] at cR;simp only [iH] at cE;have Dc:=λh=>VR (l:=l) hlt h
  unfold Bu at Dc;have Gv:Bu l k l[k]=true->∀j (hj:j < l.length),j < k+1->Bu l j l[j]=true:=λh j hj hjk=>by
   rcases sB j k with hl|hl
   .exact hi j hj hl
   .obtain rfl:j=k:=by omega
    exact h
  unfold Bu at Gv;generalize dB l[k].top=b1 at *;generalize oP l[k].to=b2 at *;generalize fU l[k].response=b3 at *;generalize pW (qA l[k].top l[k].to) l=q at *;cases b1
  .rw [Dc (by simp)];have W:=aA hk1 (aA hg hlt);refine we ?_;exact aF results157
  .cases b2
   .rw [Dc (by simp)];have W:=aA hk1 (aA hg hlt);refine we ?_;exact aF results157
   .cases b3
    .rw [Dc (by simp)];have W:=aA hk1 (aA hg hlt);refine we ?_;exact aF results157
    .by_cases h4:l[k].response.status=200
     .rw [h4] at cR;by_cases h5:q=(k:Int)
      .have W:=aA hk1 (aA hg (aA hlt (aA h4 h5)));refine we ?_;exact hK1 _ ⟨k+1,by omega,Gv (by simp [h4,h5])⟩ (aX 1) (by simp only;omega)
      .rw [Dc (by simp [h5])];have W:=aA hk1 (aA hg (aA hlt (aA h4 h5)));refine we ?_;exact aF results157
     .rw [Dc (by simp [h4])];have W:=aA hk1 (aA hg (aA hlt h4));refine we ?_;exact aF results157
 .rw [RA (λj hj=>hi j hj (by omega))]
  have e:decide (l.length<=100)=decide ((l.length:Int)<=100):=by simp only [rI];omega
  rw [e];have W:=hk1;refine we ?_;exact aF results157
theorem D6 {l:List gI} {top:bB} {a:aK} {x:bA} {now:Int} {e:gI} (h:e∈vB l top a (uZ top a x now)):e∈l\/e.response=x:=by
 unfold vB at h;split at h
 .rcases fL.1 h with h|h
  .exact .inl h
  .rw [pZ.1 h];exact .inr rfl
 .rcases mem_or_eq_of_mem_set h with h|h
  .exact .inl h
  .rw [h];exact .inr rfl
theorem gz (l P:List gI) (x:bA) (now:Int):(if x.Hm=0\/¬(0<=now/\now<=999999999000)\/nY l=false\/nY P=false then l else P)=if x.Hm=0 then l else if (decide (0<=now)&&decide (now<=999999999000))=false then l else if nY l=false then l else if nY P=false then l else P:=by
 by_cases h1:x.Hm=0
 .simp [h1]
 .by_cases h2:0<=now/\now<=999999999000
  .have h3:(decide (0<=now)&&decide (now<=999999999000))=true:=by simp [h2.1,h2.2]
   rw [h3];cases nY l<;>cases nY P<;>simp [h1,h2.1,h2.2]
  .have h3:(decide (0<=now)&&decide (now<=999999999000))=false:=by simp only [tP,pT];omega
   rw [h3,eI (.inr (.inl h2))];simp [h1]
theorem LG [aC prog] [bR prog] (l:List gI) (top:bB) (a:aK) (x:bA) (now:Int) (hs:bT gT l<=274877906944) (hr:∀e∈l,bI e.response<=1048576) (hx:bI x<=1048576) (ht:top.length+aQ a<=137438953472):
  Ok prog 130 [.agg (iH .view ⟨l⟩),.str top,.agg (aL a),.agg (bG x),.int .i64 now] (.agg (iH .own ⟨vC l top a x now⟩)):=by
 have hll:l.length<=274877906944:=by simp only [bT] at hs;omega
 have c1:=Ky ⟨l⟩ (by simp only [nV];omega);have c2:=Gt l top a (by omega);have c3:=jN now 0 999999999000;have c4:=Gu l (by omega) (λe he=>by have:=hr e he;omega);have hps:=qi l top a (uZ top a x now);have hne:gT (uZ top a x now)=top.length+aQ a+bI x:=rfl;have c5:=Gu (vB l top a (uZ top a x now)) (by omega) (λe he=>by
  rcases D6 he with h|h
  .have:=hr e h;omega
  .rw [h];omega)
 unfold vC;rw [gz];have hcl:=AJ l;have hrow:iU (uZ top a x now)=[AV.str top,AV.str a.host,AV.str a.path,AV.int .i64 x.status,AV.int .i64 x.kind,AV.str x.body,AV.int .i64 x.Hm,AV.bool x.shares,AV.str x.bD,AV.int .i64 (i64.wrap (now+x.Hm))]:=rfl;obtain ⟨P,hP⟩:∃P,P=vB l top a (uZ top a x now):=⟨_,rfl⟩;rw [<-hP] at c5⊢;have hcp:=AJ P;unfold vB at hP;simp only [iH] at c1 c2 c4 c5;simp only [aL] at c2;generalize (decide (0<=now)&&decide (now<=999999999000))=b3 at *;generalize nY l=b4 at *;generalize nY P=b5 at *;rcases lI (qA top a) l with ⟨h1,_⟩|⟨k,hk,h1,_⟩
 .rw [h1] at c2 hP;rw [eI (by decide)] at hP;have hap:l.map iU++[[AV.str top,AV.str a.host,AV.str a.path,AV.int .i64 x.status,AV.int .i64 x.kind,AV.str x.body,AV.int .i64 x.Hm,AV.bool x.shares,AV.str x.bD,AV.int .i64 (i64.wrap (now+x.Hm))]]=P.map iU:=by rw [hP,<-hrow];simp
  clear hP hrow hps hne;refine uB aD [7] func130 ntmps130 ?_;have W:=hap;refine we ?_;refine go_weak (mX.refl _) ?_;by_cases ha:x.Hm=0
  .rw [eI ha];have W:=ha;refine we ?_;exact aF results130
  .rw [cX ha];cases b3
   .rw [eI rfl];have W:=ha;refine we ?_;exact aF results130
   .rw [cX (by simp)];cases b4
    .rw [eI rfl];have W:=ha;refine we ?_;exact aF results130
    .rw [cX (by simp)];cases b5
     .rw [eI rfl];have W:=ha;refine we ?_;exact aF results130
     .rw [cX (by simp)];have W:=ha;refine we ?_;exact aF results130
 .rw [h1] at c2 hP;rw [cX (by omega)] at hP;simp only [lP] at hP;have hset:(l.map iU).set k [AV.str top,AV.str a.host,AV.str a.path,AV.int .i64 x.status,AV.int .i64 x.kind,AV.str x.body,AV.int .i64 x.Hm,AV.bool x.shares,AV.str x.bD,AV.int .i64 (i64.wrap (now+x.Hm))]=P.map iU:=by rw [hP,<-hrow,map_set]
  have hkl:k < (l.map iU).length:=by simpa using hk
  clear hP hrow hps hne;refine uB aD [7] func130 ntmps130 ?_;have W:=hset;have V:=hk;refine we ?_;refine go_weak (mX.refl _) ?_;rw [hset];by_cases ha:x.Hm=0
  .rw [eI ha];have W:=ha;refine we ?_;exact aF results130
  .rw [cX ha];cases b3
   .rw [eI rfl];have W:=ha;refine we ?_;exact aF results130
   .rw [cX (by simp)];cases b4
    .rw [eI rfl];have W:=ha;refine we ?_;exact aF results130
    .rw [cX (by simp)];cases b5
     .rw [eI rfl];have W:=ha;refine we ?_;exact aF results130
     .rw [cX (by simp)];have W:=ha;refine we ?_;exact aF results130
theorem LH [aC prog] [bR prog] (l:List gI) (top:bB) (a:aK) (x:bA) (now:Int) (hs:bT gT l<=274877906944) (hr:∀e∈l,bI e.response<=1048576) (hx:bI x<=1048576) (ht:top.length+aQ a<=137438953472):
  Ok prog 96 [.agg (iH .view ⟨l⟩),.str top,.agg (aL a),.agg (bG x),.int .i64 now] (.agg (iH .own ⟨vC l top a x now⟩)):=by
 have hll:l.length<=274877906944:=by simp only [bT] at hs;omega
 have c1:=Ri ⟨l⟩ (by simp only [nV];omega);have c2:=IC l top a (by omega);have c3:=gK now 0 999999999000;have c4:=Gw l (by omega) (λe he=>by have:=hr e he;omega);have hps:=qi l top a (uZ top a x now);have hne:gT (uZ top a x now)=top.length+aQ a+bI x:=rfl;have c5:=Gw (vB l top a (uZ top a x now)) (by omega) (λe he=>by
  rcases D6 he with h|h
  .have:=hr e h;omega
  .rw [h];omega)
 have c6:=qN x (by omega);have hpr:=λh=>aDh (l:=l) (top:=top) (a:=a) (e:=uZ top a x now) h
 rw [show (uZ top a x now).response=x from rfl] at hpr;unfold vC;rw [gz];have hcl:=AJ l;have hrow:iU (uZ top a x now)=[AV.str top,AV.str a.host,AV.str a.path,AV.int .i64 x.status,AV.int .i64 x.kind,AV.str x.body,AV.int .i64 x.Hm,AV.bool x.shares,AV.str x.bD,AV.int .i64 (i64.wrap (now+x.Hm))]:=rfl;obtain ⟨P,hP⟩:∃P,P=vB l top a (uZ top a x now):=⟨_,rfl⟩;rw [<-hP] at c5 hpr⊢;have hcp:=AJ P;unfold vB at hP;simp only [iH] at c1 c2 c4 c5;simp only [aL] at c2;simp only [bG] at c6;generalize fU x=b6 at *;generalize (decide (0<=now)&&decide (now<=999999999000))=b3 at *;generalize nY l=b4 at *;generalize nY P=b5 at *;by_cases ha:x.Hm=0
 .rw [eI ha];refine bO aD func96 ntmps96 ?_;have W:=ha;refine we ?_;exact aF results96
 .rw [cX ha];cases b3
  .rw [eI rfl];refine bO aD func96 ntmps96 ?_;have W:=ha;refine we ?_;exact aF results96
  .rw [cX (by simp)];cases b6
   .have e6:(if b4=false then l else if b5=false then l else P)=l:=by
     cases b5 with
     |false=>simp
     |true=>exact absurd (hpr rfl) (by simp)
    rw [e6];refine bO aD func96 ntmps96 ?_;have W:=ha;refine we ?_;exact aF results96
   .cases b4
    .rw [eI rfl];refine bO aD func96 ntmps96 ?_;have W:=ha;refine we ?_;exact aF results96
    .rw [cX (by simp)];refine uB aD [9] func96 ntmps96 ?_;rcases lI (qA top a) l with ⟨h1,_⟩|⟨k,hk,h1,_⟩
     .rw [h1] at c2 hP;rw [eI (by decide)] at hP;have hap:l.map iU++[[AV.str top,AV.str a.host,AV.str a.path,AV.int .i64 x.status,AV.int .i64 x.kind,AV.str x.body,AV.int .i64 x.Hm,AV.bool x.shares,AV.str x.bD,AV.int .i64 (i64.wrap (now+x.Hm))]]=P.map iU:=by rw [hP,<-hrow];simp
      clear hP hrow hps hne;have W:=aA ha hap;refine we ?_;refine go_weak (mX.refl _) ?_;cases b5
      .rw [eI rfl];refine aZ ?_;exact aF results96
      .rw [cX (by simp)];refine aZ ?_;exact aF results96
     .rw [h1] at c2 hP;rw [cX (by omega)] at hP;simp only [lP] at hP;have hset:(l.map iU).set k [AV.str top,AV.str a.host,AV.str a.path,AV.int .i64 x.status,AV.int .i64 x.kind,AV.str x.body,AV.int .i64 x.Hm,AV.bool x.shares,AV.str x.bD,AV.int .i64 (i64.wrap (now+x.Hm))]=P.map iU:=by rw [hP,<-hrow,map_set]
      clear hP hrow hps hne;have W:=aA ha hset;have V:=hk;refine we ?_;refine go_weak (mX.refl _) ?_;rw [hset];cases b5
      .rw [eI rfl];refine aZ ?_;exact aF results96
      .rw [cX (by simp)];refine aZ ?_;exact aF results96
theorem D7 {N:Nat} {n:nN} (h:MO N n) (top:bB) (a:aK):MO (N+1+top.length+aQ a) (yB n top a):=by
 have hs:=h.sz;unfold yB;split
 .refine ⟨h.srv,h.ca,?_⟩;simp only [nO,bT,eR,eN,eW] at hs⊢;rw [GX];simp only [bH,tF];omega
 .exact h.up (by omega)
theorem LJ [aC prog] [bR prog] (n:nN) (top:bB) (a:aK) (x:bA) (hs:nO n<=274877906944) (hr:∀e∈n.cache.entries,bI e.response<=1048576) (hx:bI x<=1048576) (ht:top.length+aQ a<=137438953472):
  Ok prog 75 [.agg (mP .view n),.str top,.agg (aL a),.agg (bG x)] (.agg (mP .own (Cw n top a x))):=by
 have c1:=Rj n hs;simp only [nO,nV,bT] at hs;have c2:=Il n.cache top a n.now (by omega);have c3:=uN x (by omega);have c4:=LG n.cache.entries top a x n.now (by simp only [bT];omega) hr hx ht;simp only [mP] at c1;simp only [aL] at c2 c4;simp only [bG] at c2 c3 c4;simp only [iH] at c2 c4;unfold Cw;generalize fU x=b at *;generalize wW n.cache top a n.now=q at *;generalize vC n.cache.entries top a x n.now=m at *;obtain ⟨y,ok⟩:=q;simp only at c2;cases b
 .rw [cX (by simp)];refine bO aD func75 ntmps75 ?_;refine aZ ?_;exact aF results75
 .by_cases h4:x.status=200
  .rw [h4] at c3 c4;cases ok
   .rw [eI ⟨rfl,h4,rfl⟩];refine bO aD func75 ntmps75 ?_;have W:=h4;refine we ?_;exact aF results75
   .rw [cX (by simp)];refine bO aD func75 ntmps75 ?_;have W:=h4;refine we ?_;exact aF results75
  .rw [cX (λh=>h4 h.2.1)]
   cases ok
   .refine bO aD func75 ntmps75 ?_;have W:=h4;refine we ?_;exact aF results75
   .refine bO aD func75 ntmps75 ?_;have W:=h4;refine we ?_;exact aF results75
theorem LK [aC prog] [bR prog] (n:nN) (top:bB) (a:aK) (x:bA) (hs:nO n<=274877906944) (hr:∀e∈n.cache.entries,bI e.response<=1048576) (hx:bI x<=1048576) (ht:top.length+aQ a<=137438953472):
  Ok prog 53 [.agg (mP .view n),.str top,.agg (aL a),.agg (bG x)] (.agg (mP .own (Cw n top a x))):=by
 have c1:=Rk n hs;simp only [nO,nV,bT] at hs;have c2:=Io n.cache top a n.now (by omega);have c3:=qN x (by omega);have c4:=LH n.cache.entries top a x n.now (by simp only [bT];omega) hr hx ht;simp only [mP] at c1;simp only [aL] at c2 c4;simp only [bG] at c2 c3 c4;simp only [iH] at c2 c4;unfold Cw;generalize fU x=b at *;generalize wW n.cache top a n.now=q at *;generalize vC n.cache.entries top a x n.now=m at *;obtain ⟨y,ok⟩:=q;simp only at c2;cases b
 .rw [cX (by simp)];refine bO aD func53 ntmps53 ?_;have W:=trivial;repeat' first|refine wf ?_|(refine sq ?_ ?_<;>intro hc<;>try exact hc.elim)|fail
  all_goals try(refine aV ?_;simp [aH,results53])
 .by_cases h4:x.status=200
  .rw [h4] at c3 c4;cases ok
   .rw [eI ⟨rfl,h4,rfl⟩];refine bO aD func53 ntmps53 ?_;have W:=h4;refine we ?_;exact aF results53
   .rw [cX (by simp)];refine bO aD func53 ntmps53 ?_;have W:=h4;refine we ?_;exact aF results53
  .rw [cX (λh=>h4 h.2.1)]
   cases ok
   .refine bO aD func53 ntmps53 ?_;have W:=h4;refine we ?_;exact aF results53
   .refine bO aD func53 ntmps53 ?_;have W:=h4;refine we ?_;exact aF results53
theorem IE [aC prog] [bR prog] {N:Nat} (n:nN) (top:bB) (a:aK) (hn:MO N n) (hN:N<=206158430208) (ht:top.length+aQ a<=17179869184):Ok prog 37 [.agg (mP .view n),.str top,.agg (aL a),.bool false] (.gZ [.agg (mP .own (jY n top a)),.agg (bG (fC n top a))]):=by
 have hs:=hn.sz;have c1:=Rj n (by omega);have c2:=qX a (by omega);have c3:=Ag;have hk:=D7 hn top a;have hx:=hM (AO n.jO a) hn.srv;have c6:=LJ (yB n top a) top a (rX n.jO a) (by have:=hk.sz;omega) hk.ca hx (by omega);simp only [nO,nV,bT] at hs;have c4:=Il n.cache top a n.now (by omega);have c5:=OL n.jO a (by simp only [bT];omega);unfold jY fC;generalize hm:yB n top a=m at *;simp only [mP] at c1 c6;simp only [aL] at c2 c4 c5 c6;simp only [bG] at c3 c4 c5 c6;simp only [iH] at c4;generalize oP a=b at *;generalize wW n.cache top a n.now=q at *;generalize rX n.jO a=y at *;generalize Cw m top a y=z at *;obtain ⟨x,ok⟩:=q;simp only at c4;clear hk hx hn;cases b
 .refine xL aD func37 ntmps37 ?_;refine aZ ?_;all_goals try(first|(refine ⟨.inr rfl,.inl ?_⟩;simp [aH,results37,notFound];done)|(refine ⟨.inr rfl,.inr (dA ?_)⟩;simp [AS.vV,AS.uS,AS.rv,results37,notFound];done)|(refine ⟨.inr rfl,.inl ?_⟩;simp [aH,results37,notFound]))
 .cases ok
  .unfold yB at hm;by_cases h4:n.log.length < 400
   .have h4':(n.log.length:Int) < 400:=by omega
    rw [eI h4] at hm;obtain ⟨l0,hl0⟩:∃l:List Ap,l=n.log++[⟨top,a,false⟩]:=⟨_,rfl⟩;have hap:n.log.map rE++[[.str top,.str a.host,.str a.path,.bool false]]=l0.map rE:=by rw [hl0];simp
    rw [<-hl0] at hm;clear hl0;subst hm;simp only at c6;refine xL aD func37 ntmps37 ?_;have W:=aA h4 (aA h4' hap);refine we ?_;all_goals try(first|(refine ⟨.inr rfl,.inl ?_⟩;simp [aH,results37];done)|(refine ⟨.inr rfl,.inr (dA ?_)⟩;simp [AS.vV,AS.uS,AS.rv,results37];done)|(refine ⟨.inr rfl,.inl ?_⟩;simp [aH,results37]))
   .have h4':¬(n.log.length:Int) < 400:=by omega
    rw [cX h4] at hm;subst hm;refine xL aD func37 ntmps37 ?_;have W:=aA h4 h4';refine we ?_;all_goals try(first|(refine ⟨.inr rfl,.inl ?_⟩;simp [aH,results37];done)|(refine ⟨.inr rfl,.inr (dA ?_)⟩;simp [AS.vV,AS.uS,AS.rv,results37];done)|(refine ⟨.inr rfl,.inl ?_⟩;simp [aH,results37]))
  .refine xL aD func37 ntmps37 ?_;refine aZ ?_;all_goals try(first|(refine ⟨.inr rfl,.inl ?_⟩;simp [aH,results37];done)|(refine ⟨.inr rfl,.inr (dA ?_)⟩;simp [AS.vV,AS.uS,AS.rv,results37];done)|(refine ⟨.inr rfl,.inl ?_⟩;simp [aH,results37]))
theorem IG [aC prog] [bR prog] {N:Nat} (n:nN) (top:bB) (a:aK) (hn:MO N n) (hN:N<=206158430208) (ht:top.length+aQ a<=17179869184):Ok prog 27 [.agg (mP .view n),.str top,.agg (aL a),.bool false] (.gZ [.agg (mP .own (jY n top a)),.agg (bG (fC n top a))]):=by
 have hs:=hn.sz;have c1:=Rk n (by omega);have c2:=qW a (by omega);have c3:=Ah;have hk:=D7 hn top a;have hx:=hM (AO n.jO a) hn.srv;have c6:=LK (yB n top a) top a (rX n.jO a) (by have:=hk.sz;omega) hk.ca hx (by omega);simp only [nO,nV,bT] at hs;have c4:=Io n.cache top a n.now (by omega);have c5:=OJ n.jO a (by simp only [bT];omega);unfold jY fC;generalize hm:yB n top a=m at *;simp only [mP] at c1 c6;simp only [aL] at c2 c4 c5 c6;simp only [bG] at c3 c4 c5 c6;simp only [iH] at c4;generalize oP a=b at *;generalize wW n.cache top a n.now=q at *;generalize rX n.jO a=y at *;generalize Cw m top a y=z at *;obtain ⟨x,ok⟩:=q;simp only at c4;clear hk hx hn;cases b
 .refine xL aD func27 ntmps27 ?_;refine aZ ?_;all_goals try(first|(refine ⟨.inr rfl,.inl ?_⟩;simp [aH,results27,notFound];done)|(refine ⟨.inr rfl,.inr (dA ?_)⟩;simp [AS.vV,AS.uS,AS.rv,results27,notFound];done)|(refine ⟨.inr rfl,.inl ?_⟩;simp [aH,results27,notFound]))
 .cases ok
  .unfold yB at hm;by_cases h4:n.log.length < 400
   .have h4':(n.log.length:Int) < 400:=by omega
    rw [eI h4] at hm;obtain ⟨l0,hl0⟩:∃l:List Ap,l=n.log++[⟨top,a,false⟩]:=⟨_,rfl⟩;have hap:n.log.map rE++[[.str top,.str a.host,.str a.path,.bool false]]=l0.map rE:=by rw [hl0];simp
    rw [<-hl0] at hm;clear hl0;subst hm;simp only at c6;refine xL aD func27 ntmps27 ?_;have W:=aA h4 (aA h4' hap);refine we ?_;all_goals try(first|(refine ⟨.inr rfl,.inl ?_⟩;simp [aH,results27];done)|(refine ⟨.inr rfl,.inr (dA ?_)⟩;simp [AS.vV,AS.uS,AS.rv,results27];done)|(refine ⟨.inr rfl,.inl ?_⟩;simp [aH,results27]))
   .have h4':¬(n.log.length:Int) < 400:=by omega
    rw [cX h4] at hm;subst hm;refine xL aD func27 ntmps27 ?_;have W:=aA h4 h4';refine we ?_;all_goals try(first|(refine ⟨.inr rfl,.inl ?_⟩;simp [aH,results27];done)|(refine ⟨.inr rfl,.inr (dA ?_)⟩;simp [AS.vV,AS.uS,AS.rv,results27];done)|(refine ⟨.inr rfl,.inl ?_⟩;simp [aH,results27]))
  .refine xL aD func27 ntmps27 ?_;refine aZ ?_;all_goals try(first|(refine ⟨.inr rfl,.inl ?_⟩;simp [aH,results27];done)|(refine ⟨.inr rfl,.inr (dA ?_)⟩;simp [AS.vV,AS.uS,AS.rv,results27];done)|(refine ⟨.inr rfl,.inl ?_⟩;simp [aH,results27]))
end Go.Proofs.YtdcpobkemdacnaaGreatDoor
