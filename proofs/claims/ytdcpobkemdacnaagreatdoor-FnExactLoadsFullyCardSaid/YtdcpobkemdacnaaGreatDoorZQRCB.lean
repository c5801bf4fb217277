/- Proved here: steps towards the statement of this claim. No condition. -/
import Derived.Test.YtdcpobkemdacnaaGreatDoorZQB6
import Derived.Test.YtdcpobkemdacnaaGreatDoorZQTK5
import Derived.Test.YtdcpobkemdacnaaGreatDoorZQZ5
set_option linter.all false
set_option maxRecDepth 8000
set_option maxHeartbeats 8000000
namespace Go.Proofs.YtdcpobkemdacnaaGreatDoor
open Go.Aw Proofs.Tryz List IntKind
theorem Oc (l:List bB) (h:¬l.length < 40):∀ss:List bB,nD l ss=l
 |[]=>rfl
 |s::ss=>by
  show nD (kC l s) ss=l;have:kC l s=l:=by unfold kC;rw [cX h]
  rw [this];exact Oc l h ss
theorem ZY (l ss:List bB) (k:Nat) (h:¬(nD l (ss.take k)).length < 40):nD l (ss.take k)=nD l ss:=by
 have e:nD l ss=nD (nD l (ss.take k)) (ss.drop k):=by unfold nD;rw [<-DS,nF]
 rw [e,Oc _ h]
theorem BD [aC prog] [dK prog] [bR prog] [mZ prog] (p:aG) (code:bB) (w:Bool) (hs:aJ p<=536870912) (hc:code.length<=1073741824):Ok prog 104 [.agg (aI .view p),.str code,.bool w] (.agg (aI .own (lQ p code w))):=by
 have c1:=gP p (by omega);have c2:=Bz code hc;have ib:p.log.length<=536870912:=by simp only [aJ,bT] at hs;omega
 obtain ⟨b1,b2⟩:=zL code;unfold lQ;generalize gG code=g at *;obtain ⟨l,ok⟩:=g;simp only at c2 b1 b2⊢;cases ok
 .rw [cX (by simp)];simp only [aI,MZ] at c1⊢;clear b1 b2;by_cases h:p.log.length < 40
  .have hi:(p.log.length:Int) < 40:=by omega
   obtain ⟨l1,hl1⟩:∃l1,l1=p.log++[[101,114,114,111,114]]:=⟨_,rfl⟩;have hap:p.log.map dD++[[.str [101,114,114,111,114]]]=l1.map dD:=by rw [hl1];simp
   have e:kC p.log [101,114,114,111,114]=l1:=by unfold kC;rw [eI h,hl1]
   rw [e];clear e hl1;refine bO aD func104 ntmps104 ?_;have W:=aA hi (aA hap ib);refine wl ?_;exact aF results104
  .have hi:¬(p.log.length:Int) < 40:=by omega
   have e:kC p.log [101,114,114,111,114]=p.log:=by unfold kC;rw [cX h]
   rw [e];clear e;refine bO aD func104 ntmps104 ?_;have W:=hi;refine wl ?_;exact aF results104
 rw [eI rfl];have hsl:bT lD p.aB<=1073741824:=by simp only [aJ,bT] at *;omega
 have hsb:aS p.builder<=536870912:=by simp only [aJ] at hs;omega
 have hqu:p.queue.length<=536870912:=by simp only [aJ,bT] at hs;omega
 have c3:=EU p hsl;obtain ⟨hb1,hb2⟩:=CX p;have hb1':(dI p).length<=536870912:=by simp only [aJ,bT] at hs;omega
 have c4:=Dy p.builder (dI p) l (by omega) b1 (λx hm=>by have:=b2 x hm;omega) (by omega) (λx hm=>by have:=hb2 x hm;omega) (xI p);obtain ⟨z1,z2,z3,z4⟩:=Bw 60 p.builder (dI p) l (by omega) b1 b2 (xI p) (by omega) l.length (eE _);have hend:sH p.builder (dI p) l l.length=eH p.builder (dI p) l:=by simp [sH]
 rw [hend] at z1 z2 z3 z4;have c5:=OW (eH p.builder (dI p) l).2.1 (by omega);obtain ⟨y1,y2⟩:=Gc (eH p.builder (dI p) l).2.1;unfold lM;clear hb2 b2 hend;generalize dI p=ss at *;generalize eH p.builder ss l=g at *;obtain ⟨b,wr,lg⟩:=g;simp only at c4 c5 z1 z2 z3 z4 y1 y2⊢;generalize vI wr=tk at *;simp only [aI,aU] at c1 c3 c4;refine bO aD func104 ntmps104 ?_;refine gY ?_;obtain ⟨Q,hQ⟩:∃Q:Nat->List bB,∀k,Q k=nD p.log (lg.take k):=⟨_,λ_=>rfl⟩;have hQ0:Q 0=p.log:=by rw [hQ];rfl
 have hQn:∀k,(¬k < lg.length\/¬(Q k).length < 40)->nD p.log lg=Q k:=λk h=>by
  rw [hQ] at h⊢;rcases h with h|h
  .rw [cY (by omega)]
  .rw [ZY _ _ _ h]
 have hQl:∀k,(Q k).length<=536870918:=λk=>by rw [hQ];have:=Jw p.log (lg.take k);simp only [oR] at this⊢;omega
 have hQs:∀k (h:k < lg.length),(Q k).length < 40->Q (k+1)=Q k++[lg[k]]:=λk h h4=>by rw [hQ,Gd _ _ _ h,<-hQ];unfold kC;rw [eI h4]
 refine aP (ι:={q:Nat×Nat // q.1<=lg.length/\1<=q.2}) (λt o i=>⟨bE t [(13,.int .i64 i.1.1),(15,.undef)],o.take 12++[⟨true,false,1,i.1.2,(Q i.1.1).map dD⟩,⟨true,true,22,0,[[.str p.addr.host,.str p.addr.path,.bool p.bD.isSet,.obj 2 1,.obj 3 1,.obj 4 1,.str p.bD.sP,.str p.tok.rest,.obj 5 1,.bool p.ended,.obj 17 1,.obj 18 1,.obj 8 1,.obj 9 1,.obj 10 1,.int .i64 p.block,.int .i64 p.inline,.int .i64 p.deferred,.int .i64 p.iE,.obj 11 1,.obj 12 i.1.2,.bool p.lY]]⟩]++o.drop 14⟩)
  (λi=>lg.length - i.1.1) ⟨(0,1),by simp,by simp⟩ (aO (by simp [hQ0]) (by simp)) ?_
 rintro ⟨⟨k,v⟩,hk,hv⟩ K1 hK1;simp only at hk hv;simp only [bE,cW,cU,eL,fS,pB,AF,eA,eM] at hK1⊢;have hk1:=oW (k:=k);have hl1:=hQl k;have aEf:=hQn k;have YJ:=hQs k;clear hQn hQl hQs hQ0 hQ;by_cases qO:k < lg.length/\(Q k).length < 40
 .obtain ⟨hlt,KV⟩:=qO;have hg:=aE hlt;have hnext:=YJ hlt KV;have aSf:((Q k).length:Int) < 40:=by omega
  clear YJ aEf;generalize hqk:Q k=q at *;have W:=aA hk1 (aA hg (aA hlt (aA aSf hl1)));refine wl ?_;all_goals refine hK1 _ ⟨(k+1,v+1),by simp only;omega,by simp only;omega⟩ (aX 20 ?_ (by simp) (by simp) (by simp [dE])) (by simp only;omega)
  all_goals simp [hnext]
 .have hfin:=aEf (by omega);have hcase:¬k < lg.length\/(k < lg.length/\¬((Q k).length:Int) < 40):=by omega
  rw [hfin];clear YJ aEf hK1 qO hfin;generalize Q k=q at *;have hbq:(tk.length+p.queue.length) * 64<=140737488355328:=by omega
  rcases hcase with hlt|⟨hlt,KV⟩
  .cases w
   .have W:=aA hk1 hlt;refine wl ?_;exact aF results104
   .rw [eI rfl];have W:=aA hk1 (aA hbq hlt);refine wl ?_;all_goals try(refine aV ?_;simp [aH,results104])
    all_goals (rw [<-oS];exact lX _)
  .cases w
   .have W:=aA hk1 (aA hlt KV);refine wl ?_;exact aF results104
   .rw [eI rfl];have W:=aA hk1 (aA hbq (aA hlt KV));refine wl ?_;all_goals try(refine aV ?_;simp [aH,results104])
    all_goals (rw [<-oS];exact lX _)
def Be (p:aG) (k:Int):aG×Bool:=
 if 0<=k then match p.aB[k.toNat]? with
  |some s=>if s.done=true/\p.aB.all nZ=true then ({(if s.code=1 then lQ p s.body true else p) with block:=0},true) else (p,false)
  |none=>({p with block:=0},true)
 else ({p with block:=0},true)
def jG (p:aG):aG×Bool:=
 if p.inline≠0 then (if p.aB.all nZ=true then ({lQ p (BK p.builder p.inline) true with inline:=0},true) else (p,false))
 else if p.block≠0 then Be p (i64.wrap (p.block - 1))
 else iN p
theorem Sk {α:Type} (f:α->Nat):∀{l:List α} {x:α},x∈l->f x<=bH f l
 |y::l,x,h=>by
  rcases lE.1 h with rfl|h
  .simp only [bH];omega
  .have:=Sk f h;simp only [bH];omega
theorem JA [aC prog] (p:aG) (s:bB) (hs:p.log.length<=1099511627776):Ma prog 111 [.oK (.agg (aI .own p)),.view (.str s)] (.agg (aI .own {p with log:=kC p.log s})):=by
 by_cases h:p.log.length < 40
 .have hi:(p.log.length:Int) < 40:=by omega
  obtain ⟨l1,hl1⟩:∃l,l=p.log++[s]:=⟨_,rfl⟩;have hap:p.log.map dD++[[.str s]]=l1.map dD:=by rw [hl1];simp
  have e:kC p.log s=l1:=by unfold kC;rw [eI h,hl1]
  rw [e];clear e hl1;refine rO aD func111 ntmps111 ?_;have W:=aA hi (aA hap hs);refine we ?_;all_goals try(refine ⟨by first|exact .inr rfl|exact .inl rfl,?_⟩;simp [gJ,dL,dJ,rowOf,results111])
 .have hi:¬(p.log.length:Int) < 40:=by omega
  have e:kC p.log s=p.log:=by unfold kC;rw [cX h]
  rw [e];clear e;refine rO aD func111 ntmps111 ?_;have W:=hi;refine we ?_;all_goals try(refine ⟨by first|exact .inr rfl|exact .inl rfl,?_⟩;simp [gJ,dL,dJ,rowOf,results111])
def iD (p:aG) (a:aK) (x:bA):Nat->aG
 |0=>p
 |k+1=>match p.aB[k]? with
  |some s=>if s.to=a then iP (iD p a x k) k x else iD p a x k
  |none=>iD p a x k
def lS (p:aG) (a:aK) (x:bA):aG:=iD p a x p.aB.length
theorem Ww (p:aG) (k:Int) (x:bA):(iP p k x).aB.length=p.aB.length/\(iP p k x).bD=p.bD/\(iP p k x).addr=p.addr:=by
 unfold iP;split
 .split
  .split
   .exact ⟨rfl,rfl,rfl⟩
   .simp
  .exact ⟨rfl,rfl,rfl⟩
 .exact ⟨rfl,rfl,rfl⟩
theorem aIa (p:aG) (k:Int) (x:bA) (j:Nat) (h:(j:Int)≠k):(iP p k x).aB[j]? =p.aB[j]?:=by
 unfold iP;split
 .split
  .split
   .rfl
   .simp only;rw [lB (by omega)]
  .rfl
 .rfl
theorem DN (p:eY) (r:gD) (x:bA):(jH p r x).length<=400:=by
 unfold jH;split
 .rename_i h;unfold dV at h;split at h
  .omega
  .split at h
   .omega
   .rename_i h2;have h3:fU x=true:=by
     cases h4:fU x with
     |true=>rfl
     |false=>exact absurd (.inl h4) h2
    simp only [fU,eJ,fR] at h3;exact h3.1.1.2
 .simp
theorem aEq (p:aG) (k:Int) (x:bA):aJ (iP p k x)<=aJ p+400:=by
 unfold iP;split
 .split
  .rename_i s hg;split
   .omega
   .have hb:=DN p.bD (fQ p s) x;have h1:bH lD (p.aB.set k.toNat (filled p s x))<=bH lD p.aB+400:=by
     have:∀(l:List oZ) (i:Nat) (s s':oZ),l[i]? =some s->lD s'<=lD s+400->bH lD (l.set i s')<=bH lD l+400:=by
      intro l;induction l with
      |nil=>intro i s s' h;simp at h
      |cons y l ih=>
       intro i s s' h hs;cases i with
       |zero=>simp at h;subst h;simp only [cU,bH];omega
       |succ i=>have:=ih i s s' (by simpa using h) hs;simp only [cW,bH];omega
     refine this _ _ s _ hg ?_;simp only [lD,filled];omega
    simp only [aJ,bT,length_set] at *;omega
  .omega
 .omega
theorem yK (p:aG) (a:aK) (x:bA):∀k,(iD p a x k).aB.length=p.aB.length/\(∀j,k<=j->(iD p a x k).aB[j]? =p.aB[j]?)/\aJ (iD p a x k)<=aJ p+k * 400
 |0=>⟨rfl,λ_ _=>rfl,by simp [iD]⟩
 |k+1=>by
  obtain ⟨h1,h2,h3⟩:=yK p a x k;simp only [iD];split
  .split
   .refine ⟨by rw [(Ww _ _ _).1];exact h1,λj hj=>by rw [aIa _ _ _ _ (by omega)];exact h2 j (by omega),?_⟩
    have:=aEq (iD p a x k) k x;omega
   .exact ⟨h1,λj hj=>h2 j (by omega),by omega⟩
  .exact ⟨h1,λj hj=>h2 j (by omega),by omega⟩
theorem Ou {p:aG} {a:aK} {x:bA} {k:Nat} (h:k < p.aB.length):iD p a x (k+1)=if p.aB[k].to=a then iP (iD p a x k) k x else iD p a x k:=by simp only [iD];rw [aE h]
def lN (q:aG):List aN:=[⟨true,false,1,1,q.bD.fF.map dD⟩,⟨true,false,1,1,q.bD.iB.map dD⟩,⟨true,false,1,1,q.bD.iC.map dD⟩,⟨true,false,4,1,q.queue.map (cB .own)⟩,⟨true,false,4,1,q.builder.nodes.map (fD .own)⟩,⟨true,false,1,1,q.builder.opens.map lW⟩,⟨true,false,8,1,q.aB.map uW⟩,⟨true,false,5,1,q.aM.map eZ⟩,⟨true,false,2,1,q.entries.map aL⟩,⟨true,false,2,1,q.tH.map aL⟩,⟨true,false,1,1,q.log.map dD⟩]
def jI (b:Nat) (q:aG):List AV:=[.str q.addr.host,.str q.addr.path,.bool q.bD.isSet,.obj b 1,.obj (b+1) 1,.obj (b+2) 1,.str q.bD.sP,.str q.tok.rest,.obj (b+3) 1,.bool q.ended,.obj (b+4) 1,.obj (b+5) 1,.obj (b+6) 1,.obj (b+7) 1,.obj (b+8) 1,.int .i64 q.block,.int .i64 q.inline,.int .i64 q.deferred,.int .i64 q.iE,.obj (b+9) 1,.obj (b+10) 1,.bool q.lY]
def Da:List (Nat×Nat):=[(4,16),(5,17),(6,18),(7,19),(8,20),(9,21),(10,22),(11,23),(12,24),(13,25),(14,26)]
theorem vg {t t':List AV} {o0 o1 o2 o3:aN} (q0 q:aG) (ht:∀z∈Da,wk (qP z.1 z.2 t') t') (hf:∀z∈Da,o0.lK z.1 z.2=o0/\o1.lK z.1 z.2=o1/\o2.lK z.1 z.2=o2/\o3.lK z.1 z.2=o3) (hw:wk t t') (hc:eX 16 t'=true) (hc0:dE 16 [o0,o1,o2,o3]=true):
  mX ⟨t,[o0,o1,o2,o3]++lN q0++[⟨true,true,22,0,[jI 16 q]⟩]++lN q⟩ ⟨t',[o0,o1,o2,o3]++lN q++[⟨true,true,22,0,[jI 4 q]⟩]⟩:=by
 have e:=λi j (h:(i,j)∈Da)=>hf (i,j) h
 have h:=λi j (h:(i,j)∈Da)=>ht (i,j) h
 simp only [lN,jI,eA,eM];refine (wT hw).trans ?_;refine (aR 4 16 rfl rfl ⟨rfl,rfl⟩ (by simp [(e 4 16 (by decide))];rfl) (h 4 16 (by decide))).trans ?_;refine (aR 5 17 rfl rfl ⟨rfl,rfl⟩ (by simp [(e 5 17 (by decide))];rfl) (h 5 17 (by decide))).trans ?_;refine (aR 6 18 rfl rfl ⟨rfl,rfl⟩ (by simp [(e 6 18 (by decide))];rfl) (h 6 18 (by decide))).trans ?_;refine (aR 7 19 rfl rfl ⟨rfl,rfl⟩ (by simp [(e 7 19 (by decide))];rfl) (h 7 19 (by decide))).trans ?_;refine (aR 8 20 rfl rfl ⟨rfl,rfl⟩ (by simp [(e 8 20 (by decide))];rfl) (h 8 20 (by decide))).trans ?_;refine (aR 9 21 rfl rfl ⟨rfl,rfl⟩ (by simp [(e 9 21 (by decide))];rfl) (h 9 21 (by decide))).trans ?_;refine (aR 10 22 rfl rfl ⟨rfl,rfl⟩ (by simp [(e 10 22 (by decide))];rfl) (h 10 22 (by decide))).trans ?_;refine (aR 11 23 rfl rfl ⟨rfl,rfl⟩ (by simp [(e 11 23 (by decide))];rfl) (h 11 23 (by decide))).trans ?_;refine (aR 12 24 rfl rfl ⟨rfl,rfl⟩ (by simp [(e 12 24 (by decide))];rfl) (h 12 24 (by decide))).trans ?_;refine (aR 13 25 rfl rfl ⟨rfl,rfl⟩ (by simp [(e 13 25 (by decide))];rfl) (h 13 25 (by decide))).trans ?_;refine (aR 14 26 rfl rfl ⟨rfl,rfl⟩ (by simp [(e 14 26 (by decide))];rfl) (h 14 26 (by decide))).trans ?_;refine aX 16 (by simp) (mD _) hc ?_;simpa [dE,eX,closed] using hc0
theorem yL {α:Type} {f:α->List AV} {i j:Nat} (h:∀x,qP i j (f x)=f x):∀l:List α,qB i j (l.map f)=l.map f
 |[]=>rfl
 |x::l=>by simp only [mA,qB,h,yL h l]
@[simp] theorem aM8 (i j:Nat) (l:List bB):qB i j (l.map dD)=l.map dD:=yL (λ_=>rfl) l
@[simp] theorem aM9 (i j:Nat) (l:List Int):qB i j (l.map lW)=l.map lW:=yL (λ_=>rfl) l
@[simp] theorem aL1 (i j:Nat) (l:List aK):qB i j (l.map aL)=l.map aL:=yL (λ_=>rfl) l
@[simp] theorem aL2 (i j:Nat) (l:List oL):qB i j (l.map uL)=l.map uL:=yL (λ_=>rfl) l
@[simp] theorem aL3 (i j:Nat) (l:List oZ):qB i j (l.map uW)=l.map uW:=yL (λ_=>rfl) l
@[simp] theorem aIb (i j:Nat) (l:List dY):qB i j (l.map eZ)=l.map eZ:=yL (λ_=>rfl) l
@[simp] theorem aIc (i j:Nat) (l:List bV):qB i j (l.map (cB .view))=l.map (cB .view):=yL (λ_=>by simp) l
@[simp] theorem aJj (i j:Nat) (l:List jL):qB i j (l.map (fD .view))=l.map (fD .view):=yL (λ_=>by simp) l
theorem SH {t t':List AV} {o o':List aN} {o0 o1 o2 o3:aN} {q0 q:aG} (ho:o=[o0,o1,o2,o3]++lN q0++[⟨true,true,22,0,[jI 16 q]⟩]++lN q) (ho':o'=[o0,o1,o2,o3]++lN q++[⟨true,true,22,0,[jI 4 q]⟩])
  (ht:∀z∈Da,wk (qP z.1 z.2 t') t') (hf:∀z∈Da,o0.lK z.1 z.2=o0/\o1.lK z.1 z.2=o1/\o2.lK z.1 z.2=o2/\o3.lK z.1 z.2=o3) (hw:wk t t') (hc:eX 16 t'=true) (hc0:dE 16 [o0,o1,o2,o3]=true):mX ⟨t,o⟩ ⟨t',o'⟩:=by
 subst ho;subst ho';exact vg q0 q ht hf hw hc hc0
theorem SI [aC prog] [bR prog] [dK prog] (p:aG) (a:aK) (x:bA) (hs:aJ p+400 * p.aB.length<=137438953472) (hx:bI x<=1048576):Ok prog 154 [.agg (aI .view p),.agg (aL a),.agg (bG x)] (.agg (aI .own (lS p a x))):=by
 have c1:=iK p (by omega);have ML:p.aB.length<=343597383:=by omega
 simp only [aI] at c1;unfold lS;refine bO aD func154 ntmps154 ?_;refine aZ ?_;refine aP (ι:={k:Nat // k<=p.aB.length}) (λt o i=>⟨bE t [(14,.int .i64 i.1),(10,.undef)],o.take 4++lN (iD p a x i.1)++[⟨true,true,22,0,[jI 4 (iD p a x i.1)]⟩]⟩)
  (λi=>p.aB.length - i.1) ⟨0,by simp⟩ (aO (by simp [lN,jI,iD]) (by simp)) ?_
 rintro ⟨k,hk⟩ K1 hK1;have hf:=yK p a x k;obtain ⟨f1,f2,f3⟩:=hf;have c2:=Po (iD p a x k) k x (by omega) hx;have JI:= @Ou p a x k;have hk1:=oW (k:=k);by_cases hlt:k < p.aB.length
 .have hg:=aE hlt;have hnext:=JI hlt;clear JI;by_cases hto:p.aB[k].to=a
  .rw [eI hto] at hnext;generalize hq':iP (iD p a x k) k x=q' at *;have hK2:=hK1;simp only [bE,cW,cU,eL,fS,eA,eM,lN,jI] at hK1⊢;clear hq' f2;generalize hqq:iD p a x k=q at *;simp only [aI,bG] at c2;have W:=aA hk1 (aA hg (aA hlt hto));have c0:=nW a a;refine we ?_;refine hK2 _ ⟨k+1,by omega⟩ ?_ (by simp only;omega);simp only [hnext];exact SH (q0:=q) (q:=q') rfl (by simp [lN,jI,hnext]) (by simp [Da]) (by simp [Da]) (by simp) (by simp) (by simp)
  .rw [cX hto] at hnext;have hK2:=hK1;simp only [bE,cW,cU,eL,fS,eA,eM,lN,jI] at hK1⊢;clear f2 c2;generalize hqq:iD p a x k=q at *;have W:=aA hk1 (aA hg (aA hlt hto));have c0:=nW p.aB[k].to a;repeat' first|refine wf ?_|(refine sq ?_ ?_<;>intro hc<;>try exact hc.elim)|fail
   all_goals first
    |exact absurd (by assumption) hto
    |exact hK2 _ ⟨k+1,by omega⟩ (by simp only [hnext];exact aO (by simp [lN,jI,hnext]) (by simp)) (by simp only;omega)
 .have htk:k=p.aB.length:=by omega
  subst htk;simp only [bE,cW,cU,eL,fS,eA,eM,lN,jI] at hK1⊢;generalize iD p a x p.aB.length=q at *;clear JI f2 c2 hK1;have W:=hk1;refine we ?_;exact aF results154
theorem SK [aC prog] [bR prog] [dK prog] (p:aG) (a:aK) (x:bA) (hs:aJ p+400 * p.aB.length<=137438953472) (hx:bI x<=1048576):Ok prog 67 [.agg (aI .view p),.agg (aL a),.agg (bG x)] (.agg (aI .own (lS p a x))):=by
 have c1:=gP p (by omega);have ML:p.aB.length<=343597383:=by omega
 simp only [aI] at c1;unfold lS;refine bO aD func67 ntmps67 ?_;refine aZ ?_;refine aP (ι:={k:Nat // k<=p.aB.length}) (λt o i=>⟨bE t [(8,.int .i64 i.1),(10,.undef)],o.take 4++lN (iD p a x i.1)++[⟨true,true,22,0,[jI 4 (iD p a x i.1)]⟩]⟩)
  (λi=>p.aB.length - i.1) ⟨0,by simp⟩ (aO (by simp [lN,jI,iD]) (by simp)) ?_
 rintro ⟨k,hk⟩ K1 hK1;have hf:=yK p a x k;obtain ⟨f1,f2,f3⟩:=hf;have c2:=Pp (iD p a x k) k x (by omega) hx;have JI:= @Ou p a x k;have hk1:=oW (k:=k);by_cases hlt:k < p.aB.length
 .have hg:=aE hlt;have hnext:=JI hlt;clear JI;by_cases Fh:p.aB[k].done=true
  .have nU:iD p a x (k+1)=iD p a x k:=by
    rw [hnext];split
    .exact Nk (s:=p.aB[k]) (by rw [lP,f2 k (eE k)];exact hg) Fh
    .rfl
   have hK2:=hK1;simp only [bE,cW,cU,eL,fS,eA,eM,lN,jI] at hK1⊢;clear f2 c2 hnext;generalize hqq:iD p a x k=q at *;have W:=aA hk1 (aA hg (aA hlt Fh));refine we ?_;refine hK2 _ ⟨k+1,by omega⟩ ?_ (by simp only;omega);simp only [nU];exact aO (by simp [lN,jI,nU]) (by simp)
  .simp only [wA] at Fh;by_cases hto:p.aB[k].to=a
   .rw [eI hto] at hnext;generalize hq':iP (iD p a x k) k x=q' at *;have hK2:=hK1;simp only [bE,cW,cU,eL,fS,eA,eM,lN,jI] at hK1⊢;clear hq' f2;generalize hqq:iD p a x k=q at *;simp only [aI,bG] at c2;have W:=aA hk1 (aA hg (aA hlt (aA Fh hto)));have c0:=nW a a;refine we ?_;refine hK2 _ ⟨k+1,by omega⟩ ?_ (by simp only;omega);simp only [hnext];exact SH (q0:=q) (q:=q') rfl (by simp [lN,jI,hnext]) (by simp [Da]) (by simp [Da]) (by simp) (by simp) (by simp)
   .rw [cX hto] at hnext;have hK2:=hK1;simp only [bE,cW,cU,eL,fS,eA,eM,lN,jI] at hK1⊢;clear f2 c2;generalize hqq:iD p a x k=q at *;have W:=aA hk1 (aA hg (aA hlt (aA Fh hto)));have c0:=nW p.aB[k].to a;refine we ?_;all_goals first
     |exact absurd (by assumption) hto
     |exact hK2 _ ⟨k+1,by omega⟩ (by simp only [hnext];exact aO (by simp [lN,jI,hnext]) (by simp)) (by simp only;omega)
 .have htk:k=p.aB.length:=by omega
  subst htk;simp only [bE,cW,cU,eL,fS,eA,eM,lN,jI] at hK1⊢;generalize iD p a x p.aB.length=q at *;clear JI f2 c2 hK1;have W:=hk1;refine we ?_;exact aF results67
def jA (p:aG) (m:dY) (x:bA):dY:={m with done:=true,code:=dV p.bD (eP p m) x,body:=jH p.bD (eP p m) x}
def kV (q:aG) (l:List aK):aG:=l.foldl eU q
def Lx (p:aG) (a:aK) (x:bA) (k:Nat) (m:dY):aG:=kV {p with aM:=p.aM.set k (jA p m x)} (iO {p with aM:=p.aM.set k (jA p m x)} a)
def jT (p:aG) (a:aK) (x:bA):aG:=
 if pW (kQ a) p.aM < 0 then p else match p.aM[(pW (kQ a) p.aM).toNat]? with
 |some m=>if m.done=true then p else Lx p a x (pW (kQ a) p.aM).toNat m
 |none=>p
theorem EH {p:aG} {a:aK} {x:bA} (h:pW (kQ a) p.aM= -1):jT p a x=p:=by unfold jT;rw [h];rfl
theorem EI {p:aG} {a:aK} {x:bA} {k:Nat} {m:dY} (h:pW (kQ a) p.aM=(k:Int)) (hg:p.aM[k]? =some m) (hd:m.done=true):jT p a x=p:=by unfold jT;rw [h,cX (by omega),lP,hg];simp [hd]
theorem Hg {p:aG} {a:aK} {x:bA} {k:Nat} {m:dY} (h:pW (kQ a) p.aM=(k:Int)) (hg:p.aM[k]? =some m) (hd:m.done=false):jT p a x=Lx p a x k m:=by unfold jT;rw [h,cX (by omega),lP,hg];simp [hd]
theorem fe {α:Type} (f:α->Bool) (y:α):∀(l:List α) (k:Nat) (h:k < l.length),f y=true->l.find? f=some l[k]->(∀j (hj:j < k),f (l[j]'(Nat.lt_trans hj h))=false)->(l.set k y).find? f=some y
 |[],k,h,_,_,_=>by simp at h
 |z::l,0,h,hy,_,_=>by simp [hy]
 |z::l,k+1,h,hy,hf,hn=>by have hz:f z=false:=hn 0 (by omega);rw [cW,find?_cons,hz];rw [find?_cons,hz] at hf;exact fe f y l k (by simpa using h) hy (by simpa using hf) (λj hj=>by have:=hn (j+1) (by omega);simpa using this)
theorem aL4 {α:Type} {f:α->Bool} {l:List α} {k:Nat} (h:pW f l=(k:Int)) (hk:k < l.length):f l[k]=true/\∀j (hj:j < k),f (l[j]'(Nat.lt_trans hj hk))=false:=by
 unfold pW at h;split at h
 .rename_i ha;have hk2:l.findIdx f=k:=by omega
  rw [findIdx_eq hk] at hk2;exact hk2
 .omega
theorem Gr {p:aG} {a:aK} {x:bA} {k:Nat} (h:pW (kQ a) p.aM=(k:Int)) (hk:k < p.aM.length) (hf:p.aM.find? (kQ a)=some p.aM[k]):(p.aM.set k (jA p p.aM[k] x)).find? (kQ a)=some (jA p p.aM[k] x):=by obtain ⟨h1,h2⟩:=aL4 h hk;exact fe _ _ _ _ hk (by simp only [kQ] at h1⊢;exact h1) hf h2
theorem A7 {α:Type} (f:α->Nat) (c:Nat):∀(l:List α) (i:Nat) (y:α) (h:i < l.length),f y<=f l[i]+c->bH f (l.set i y)<=bH f l+c
 |[],i,y,h,_=>by simp at h
 |z::l,0,y,h,hs=>by simp only [cU,bH,getElem_cons_zero] at hs⊢;omega
 |z::l,i+1,y,h,hs=>by have:=A7 f c l i y (by simpa using h) (by simpa using hs);simp only [cW,bH];omega
theorem XR (p:aG) (k:Nat) (hk:k < p.aM.length) (x:bA):aJ {p with aM:=p.aM.set k (jA p p.aM[k] x)}<=aJ p+400:=by have hb:=DN p.bD (eP p p.aM[k]) x;have h:=A7 bL 400 p.aM k (jA p p.aM[k] x) hk (by simp only [bL,jA];omega);simp only [aJ,bT,length_set];omega
theorem SN (N:Nat):∀(l:List aK) (q:aG),(∀x∈l,aQ x<=N)->aJ (kV q l)<=aJ q+l.length * (N+1)
 |[],q,_=>by simp [kV]
 |b::l,q,h=>by have h1:=SN N l (eU q b) (λx hx=>h x (by simp [hx]));have h2:=aL0 q b;have h3:=h b (by simp);simp only [kV,foldl_cons,eN,AE] at h1⊢;omega
theorem Ov (q:aG) (l:List aK) (b:aK):kV q (l++[b])=eU (kV q l) b:=by simp [kV]
def zI:List (Nat×Nat):=[(1,18),(2,19),(3,20),(4,21),(5,22),(6,23),(7,24),(8,25),(9,26),(10,27),(11,28)]
theorem aE4 {t t':List AV} {o o':List aN} {n1 v1 n2 v2 n3 v3 n4 v4 n5 v5 n6 v6 n7 v7 n8 v8 n9 v9 U6 v10 U9 v11:Nat} {e1 e2 e3 e4 e5 e6 e7 e8 e9 V3 V4:List (List AV)} {o12 o13 o14 o15 o16 o17:aN} {q:aG} (ho:o=[⟨true,true,22,2,[yR 18 q]⟩,⟨false,false,n1,v1,e1⟩,⟨false,false,n2,v2,e2⟩,⟨false,false,n3,v3,e3⟩,⟨false,false,n4,v4,e4⟩,⟨false,false,n5,v5,e5⟩,⟨false,false,n6,v6,e6⟩,⟨false,false,n7,v7,e7⟩,⟨false,false,n8,v8,e8⟩,⟨false,false,n9,v9,e9⟩,⟨false,false,U6,v10,V3⟩,⟨false,false,U9,v11,V4⟩,o12,o13,o14,o15,o16,o17]++yQ q)
  (ho':o'=[⟨true,true,22,2,[yR 1 q]⟩]++yQ q++[o12,o13]) (ht:∀z∈zI,wk (qP z.1 z.2 t') t') (hf:∀z∈zI,o12.lK z.1 z.2=o12/\o13.lK z.1 z.2=o13/\o14.lK z.1 z.2=o14/\o15.lK z.1 z.2=o15/\o16.lK z.1 z.2=o16/\o17.lK z.1 z.2=o17) (hw:wk t t') (hc:eX 14 t'=true) (hc0:dE 14 [o12,o13]=true):mX ⟨t,o⟩ ⟨t',o'⟩:=by
 subst ho;subst ho';have e:=λi j (h:(i,j)∈zI)=>hf (i,j) h
 have h:=λi j (h:(i,j)∈zI)=>ht (i,j) h
 simp only [yQ,yR,eA,eM];refine (wT hw).trans ?_;refine (aR 1 18 rfl rfl ⟨rfl,rfl⟩ (by simp [(e 1 18 (by decide))];rfl) (h 1 18 (by decide))).trans ?_;refine (aR 2 19 rfl rfl ⟨rfl,rfl⟩ (by simp [(e 2 19 (by decide))];rfl) (h 2 19 (by decide))).trans ?_;refine (aR 3 20 rfl rfl ⟨rfl,rfl⟩ (by simp [(e 3 20 (by decide))];rfl) (h 3 20 (by decide))).trans ?_;refine (aR 4 21 rfl rfl ⟨rfl,rfl⟩ (by simp [(e 4 21 (by decide))];rfl) (h 4 21 (by decide))).trans ?_;refine (aR 5 22 rfl rfl ⟨rfl,rfl⟩ (by simp [(e 5 22 (by decide))];rfl) (h 5 22 (by decide))).trans ?_;refine (aR 6 23 rfl rfl ⟨rfl,rfl⟩ (by simp [(e 6 23 (by decide))];rfl) (h 6 23 (by decide))).trans ?_;refine (aR 7 24 rfl rfl ⟨rfl,rfl⟩ (by simp [(e 7 24 (by decide))];rfl) (h 7 24 (by decide))).trans ?_;refine (aR 8 25 rfl rfl ⟨rfl,rfl⟩ (by simp [(e 8 25 (by decide))];rfl) (h 8 25 (by decide))).trans ?_;refine (aR 9 26 rfl rfl ⟨rfl,rfl⟩ (by simp [(e 9 26 (by decide))];rfl) (h 9 26 (by decide))).trans ?_;refine (aR 10 27 rfl rfl ⟨rfl,rfl⟩ (by simp [(e 10 27 (by decide))];rfl) (h 10 27 (by decide))).trans ?_;refine (aR 11 28 rfl rfl ⟨rfl,rfl⟩ (by simp [(e 11 28 (by decide))];rfl) (h 11 28 (by decide))).trans ?_;refine aX 14 (by simp) (mD _) hc ?_;simpa [dE,eX,closed] using hc0
end Go.Proofs.YtdcpobkemdacnaaGreatDoor
