/- Proved here: steps towards the statement of this claim. No condition. -/
import Derived.Test.YtfbefblglejcaaaGreatDoorZQKE0
set_option linter.all false
set_option maxRecDepth 4000
set_option maxHeartbeats 4000000
namespace Go.Proofs.YtfbefblglejcaaaGreatDoor
open Go.Aw Proofs.Tryz List IntKind
theorem V5{l:List fH}{top:bB}{a:aK}{x:aZ}{now:Int}{e:fH}(h:e∈vG l top a (vF top a x now)):e∈l\/e.response=x:=by
 unfold vG at h;split at h
 .rcases fL.1 h with h|h
  .exact .inl h
  .rw [rI.1 h];exact .inr rfl
 .rcases CA h with h|h
  .exact .inl h
  .rw [h];exact .inr rfl
theorem ny(l P:List fH)(x:aZ)(now:Int):(if x.Gc=0\/¬(0<=now/\now<=999999999000)\/oF l=false\/oF P=false then l else P)=if x.Gc=0 then l else if (decide (0<=now)&&decide (now<=999999999000))=false then l else if oF l=false then l else if oF P=false then l else P:=by
 by_cases h1:x.Gc=0
 .simp [h1]
 .by_cases h2:0<=now/\now<=999999999000
  .have h3:(decide (0<=now)&&decide (now<=999999999000))=true:=by simp[h2.1,h2.2]
   rw[h3];cases oF l<;>cases oF P<;>simp[h1,h2.1,h2.2]
  .have h3:(decide (0<=now)&&decide (now<=999999999000))=false:=by simp only[tW,rB];omega
   rw[h3,eK (.inr (.inl h2))];simp[h1]
theorem MF[aC prog][bP prog](l:List fH)(top:bB)(a:aK)(x:aZ)(now:Int)(hs:bQ gN l<=274877906944)(hr:∀e∈l,bG e.response<=1048576)(hx:bG x<=1048576)(ht:top.length+aR a<=137438953472):
  Ok prog 138 [.agg (gU .view ⟨l⟩),.str top,.agg (aL a),.agg (bF x),.int .i64 now] (.agg (gU .own ⟨vH l top a x now⟩)):=by
 have hll:l.length<=274877906944:=by simp only[bQ]at hs;omega
 have c1:=Lj ⟨l⟩ (by simp only[nP];omega);have c2:=Hd l top a (by omega);have c3:=jM now 0 999999999000;have c4:=He l (by omega) (λe he=>by have:=hr e he;omega);have hps:=yt l top a (vF top a x now);have hne:gN (vF top a x now)=top.length+aR a+bG x:=rfl;have c5:=He (vG l top a (vF top a x now)) (by omega) (λe he=>by
  rcases V5 he with h|h
  .have:=hr e h;omega
  .rw [h];omega)
 unfold vH;rw[ny];have hcl:=Bi l;have hrow:fP (vF top a x now)=[AV.str top,AV.str a.host,AV.str a.path,AV.int .i64 x.status,AV.int .i64 x.kind,AV.str x.body,AV.int .i64 x.Gc,AV.bool x.shares,AV.str x.bD,AV.int .i64 (i64.wrap (now+x.Gc))]:=rfl;obtain⟨P,hP⟩:∃P,P=vG l top a (vF top a x now):=⟨_,rfl⟩;rw[<-hP]at c5⊢;have hcp:=Bi P;unfold vG at hP;simp only[gU]at c1 c2 c4 c5;simp only[aL]at c2;generalize (decide (0<=now)&&decide (now<=999999999000))=b3 at*;generalize oF l=b4 at*;generalize oF P=b5 at*;rcases lJ (qJ top a) l with⟨h1,_⟩|⟨k,hk,h1,_⟩
 .rw [h1]at c2 hP;rw[eK (by decide)]at hP;have hap:l.map fP++[[AV.str top,AV.str a.host,AV.str a.path,AV.int .i64 x.status,AV.int .i64 x.kind,AV.str x.body,AV.int .i64 x.Gc,AV.bool x.shares,AV.str x.bD,AV.int .i64 (i64.wrap (now+x.Gc))]]=P.map fP:=by rw[hP,<-hrow];simp
  clear hP hrow hps hne;refine uK aF [7] func138 ntmps138 ?_;have W:=hap;refine we ?_;refine go_weak (lY.refl _) ?_;by_cases ha:x.Gc=0
  .rw [eK ha];have W:=ha;refine we ?_;exact aD results138
  .rw [cX ha];cases b3
   .rw [eK rfl];have W:=ha;refine we ?_;exact aD results138
   .rw [cX (by simp)];cases b4
    .rw [eK rfl];have W:=ha;refine we ?_;exact aD results138
    .rw [cX (by simp)];cases b5
     .rw [eK rfl];have W:=ha;refine we ?_;exact aD results138
     .rw [cX (by simp)];have W:=ha;refine we ?_;exact aD results138
 .rw [h1]at c2 hP;rw[cX (by omega)]at hP;simp only[mA]at hP;have hset:(l.map fP).set k [AV.str top,AV.str a.host,AV.str a.path,AV.int .i64 x.status,AV.int .i64 x.kind,AV.str x.body,AV.int .i64 x.Gc,AV.bool x.shares,AV.str x.bD,AV.int .i64 (i64.wrap (now+x.Gc))]=P.map fP:=by rw[hP,<-hrow,map_set]
  have hkl:k<(l.map fP).length:=by simpa using hk
  clear hP hrow hps hne;refine uK aF [7] func138 ntmps138 ?_;have W:=hset;have V:=hk;refine we ?_;refine go_weak (lY.refl _) ?_;rw[hset];by_cases ha:x.Gc=0
  .rw [eK ha];have W:=ha;refine we ?_;exact aD results138
  .rw [cX ha];cases b3
   .rw [eK rfl];have W:=ha;refine we ?_;exact aD results138
   .rw [cX (by simp)];cases b4
    .rw [eK rfl];have W:=ha;refine we ?_;exact aD results138
    .rw [cX (by simp)];cases b5
     .rw [eK rfl];have W:=ha;refine we ?_;exact aD results138
     .rw [cX (by simp)];have W:=ha;refine we ?_;exact aD results138
theorem MG[aC prog][bP prog](l:List fH)(top:bB)(a:aK)(x:aZ)(now:Int)(hs:bQ gN l<=274877906944)(hr:∀e∈l,bG e.response<=1048576)(hx:bG x<=1048576)(ht:top.length+aR a<=137438953472):
  Ok prog 104 [.agg (gU .view ⟨l⟩),.str top,.agg (aL a),.agg (bF x),.int .i64 now] (.agg (gU .own ⟨vH l top a x now⟩)):=by
 have hll:l.length<=274877906944:=by simp only[bQ]at hs;omega
 have c1:=Sq ⟨l⟩ (by simp only[nP];omega);have c2:=Jo l top a (by omega);have c3:=gI now 0 999999999000;have c4:=Hg l (by omega) (λe he=>by have:=hr e he;omega);have hps:=yt l top a (vF top a x now);have hne:gN (vF top a x now)=top.length+aR a+bG x:=rfl;have c5:=Hg (vG l top a (vF top a x now)) (by omega) (λe he=>by
  rcases V5 he with h|h
  .have:=hr e h;omega
  .rw [h];omega)
 have c6:=rA x (by omega);have hpr:=λh=>aFg (l:=l) (top:=top) (a:=a) (e:=vF top a x now) h
 rw[show(vF top a x now).response=x from rfl]at hpr;unfold vH;rw[ny];have hcl:=Bi l;have hrow:fP (vF top a x now)=[AV.str top,AV.str a.host,AV.str a.path,AV.int .i64 x.status,AV.int .i64 x.kind,AV.str x.body,AV.int .i64 x.Gc,AV.bool x.shares,AV.str x.bD,AV.int .i64 (i64.wrap (now+x.Gc))]:=rfl;obtain⟨P,hP⟩:∃P,P=vG l top a (vF top a x now):=⟨_,rfl⟩;rw[<-hP]at c5 hpr⊢;have hcp:=Bi P;unfold vG at hP;simp only[gU]at c1 c2 c4 c5;simp only[aL]at c2;simp only[bF]at c6;generalize fQ x=b6 at*;generalize (decide (0<=now)&&decide (now<=999999999000))=b3 at*;generalize oF l=b4 at*;generalize oF P=b5 at*;by_cases ha:x.Gc=0
 .rw [eK ha];refine bM aF func104 ntmps104 ?_;have W:=ha;refine we ?_;exact aD results104
 .rw [cX ha];cases b3
  .rw [eK rfl];refine bM aF func104 ntmps104 ?_;have W:=ha;refine we ?_;exact aD results104
  .rw [cX (by simp)];cases b6
   .have e6:(if b4=false then l else if b5=false then l else P)=l:=by
     cases b5 with
     |false=>simp
     |true=>exact absurd (hpr rfl) (by simp)
    rw[e6];refine bM aF func104 ntmps104 ?_;have W:=ha;refine we ?_;exact aD results104
   .cases b4
    .rw [eK rfl];refine bM aF func104 ntmps104 ?_;have W:=ha;refine we ?_;exact aD results104
    .rw [cX (by simp)];refine uK aF [9] func104 ntmps104 ?_;rcases lJ (qJ top a) l with⟨h1,_⟩|⟨k,hk,h1,_⟩
     .rw [h1]at c2 hP;rw[eK (by decide)]at hP;have hap:l.map fP++[[AV.str top,AV.str a.host,AV.str a.path,AV.int .i64 x.status,AV.int .i64 x.kind,AV.str x.body,AV.int .i64 x.Gc,AV.bool x.shares,AV.str x.bD,AV.int .i64 (i64.wrap (now+x.Gc))]]=P.map fP:=by rw[hP,<-hrow];simp
      clear hP hrow hps hne;have W:=aA ha hap;refine we ?_;refine go_weak (lY.refl _) ?_;cases b5
      .rw [eK rfl];refine aY ?_;exact aD results104
      .rw [cX (by simp)];refine aY ?_;exact aD results104
     .rw [h1]at c2 hP;rw[cX (by omega)]at hP;simp only[mA]at hP;have hset:(l.map fP).set k [AV.str top,AV.str a.host,AV.str a.path,AV.int .i64 x.status,AV.int .i64 x.kind,AV.str x.body,AV.int .i64 x.Gc,AV.bool x.shares,AV.str x.bD,AV.int .i64 (i64.wrap (now+x.Gc))]=P.map fP:=by rw[hP,<-hrow,map_set]
      clear hP hrow hps hne;have W:=aA ha hset;have V:=hk;refine we ?_;refine go_weak (lY.refl _) ?_;rw[hset];cases b5
      .rw [eK rfl];refine aY ?_;exact aD results104
      .rw [cX (by simp)];refine aY ?_;exact aD results104
theorem V6{N:Nat}{n:lW}(h:NG N n)(top:bB)(a:aK):NG (N+1+top.length+aR a) (yM n top a):=by
 have hs:=h.sz;unfold yM;split
 .refine ⟨h.srv,h.ca,?_⟩;simp only[lX,bQ,eR,eN,eV]at hs⊢;rw[Ic];simp only[bA,tV];omega
 .exact h.up (by omega)
theorem MH[aC prog][bP prog](n:lW)(top:bB)(a:aK)(x:aZ)(hs:lX n<=274877906944)(hr:∀e∈n.cache.entries,bG e.response<=1048576)(hx:bG x<=1048576)(ht:top.length+aR a<=137438953472):
  Ok prog 83 [.agg (mY .view n),.str top,.agg (aL a),.agg (bF x)] (.agg (mY .own (CW n top a x))):=by
 have c1:=Sr n hs;simp only[lX,nP,bQ]at hs;have c2:=Ja n.cache top a n.now (by omega);have c3:=uT x (by omega);have c4:=MF n.cache.entries top a x n.now (by simp only[bQ];omega) hr hx ht;simp only[mY]at c1;simp only[aL]at c2 c4;simp only[bF]at c2 c3 c4;simp only[gU]at c2 c4;unfold CW;generalize fQ x=b at*;generalize xA n.cache top a n.now=q at*;generalize vH n.cache.entries top a x n.now=m at*;obtain⟨y,ok⟩:=q;simp only at c2;cases b
 .rw [cX (by simp)];refine bM aF func83 ntmps83 ?_;refine aY ?_;exact aD results83
 .by_cases h4:x.status=200
  .rw [h4]at c3 c4;cases ok
   .rw [eK ⟨rfl,h4,rfl⟩];refine bM aF func83 ntmps83 ?_;have W:=h4;refine we ?_;exact aD results83
   .rw [cX (by simp)];refine bM aF func83 ntmps83 ?_;have W:=h4;refine we ?_;exact aD results83
  .rw [cX (λh=>h4 h.2.1)]
   cases ok
   .refine bM aF func83 ntmps83 ?_;have W:=h4;refine we ?_;exact aD results83
   .refine bM aF func83 ntmps83 ?_;have W:=h4;refine we ?_;exact aD results83
theorem MI[aC prog][bP prog](n:lW)(top:bB)(a:aK)(x:aZ)(hs:lX n<=274877906944)(hr:∀e∈n.cache.entries,bG e.response<=1048576)(hx:bG x<=1048576)(ht:top.length+aR a<=137438953472):
  Ok prog 61 [.agg (mY .view n),.str top,.agg (aL a),.agg (bF x)] (.agg (mY .own (CW n top a x))):=by
 have c1:=Su n hs;simp only[lX,nP,bQ]at hs;have c2:=Jc n.cache top a n.now (by omega);have c3:=rA x (by omega);have c4:=MG n.cache.entries top a x n.now (by simp only[bQ];omega) hr hx ht;simp only[mY]at c1;simp only[aL]at c2 c4;simp only[bF]at c2 c3 c4;simp only[gU]at c2 c4;unfold CW;generalize fQ x=b at*;generalize xA n.cache top a n.now=q at*;generalize vH n.cache.entries top a x n.now=m at*;obtain⟨y,ok⟩:=q;simp only at c2;cases b
 .rw [cX (by simp)];refine bM aF func61 ntmps61 ?_;have W:=trivial;repeat' first|refine wf ?_|(refine sq ?_ ?_<;>intro hc<;>try exact hc.elim)|fail
  all_goals (try exact aD results61)
 .by_cases h4:x.status=200
  .rw [h4]at c3 c4;cases ok
   .rw [eK ⟨rfl,h4,rfl⟩];refine bM aF func61 ntmps61 ?_;have W:=h4;refine we ?_;exact aD results61
   .rw [cX (by simp)];refine bM aF func61 ntmps61 ?_;have W:=h4;refine we ?_;exact aD results61
  .rw [cX (λh=>h4 h.2.1)]
   cases ok
   .refine bM aF func61 ntmps61 ?_;have W:=h4;refine we ?_;exact aD results61
   .refine bM aF func61 ntmps61 ?_;have W:=h4;refine we ?_;exact aD results61
end Go.Proofs.YtfbefblglejcaaaGreatDoor
