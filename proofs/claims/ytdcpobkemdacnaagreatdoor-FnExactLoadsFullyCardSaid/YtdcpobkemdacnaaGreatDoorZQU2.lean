/- Proved here: steps towards the statement of this claim. No condition. -/
import Derived.Test.YtdcpobkemdacnaaGreatDoorZQA0
import Derived.Test.YtdcpobkemdacnaaGreatDoorZYShelf
import Derived.Test.YtdcpobkemdacnaaGreatDoorZF5
set_option linter.all false
set_option maxRecDepth 4000
set_option maxHeartbeats 4000000
namespace Go.Proofs.YtdcpobkemdacnaaGreatDoor
open Go.Aw Proofs.Tryz List IntKind
theorem gK [aC prog] (a b c:Int):Ok prog 99 [.int .i64 a,.int .i64 b,.int .i64 c] (.bool (decide (b<=a)&&decide (a<=c))):=by
 refine bO aD func99 ntmps99 ?_;have W:=trivial;repeat' first|refine wg ?_|(refine sq ?_ ?_<;>intro hc<;>try exact hc.elim)|fail
 all_goals try(refine aV ?_;simp [aH,results99])
 all_goals (first|(simp_all;done)|(simp_all;omega))
theorem jN [aC prog] (a b c:Int):Ok prog 131 [.int .i64 a,.int .i64 b,.int .i64 c] (.bool (decide (b<=a)&&decide (a<=c))):=by
 refine bO aD func131 ntmps131 ?_;have W:=trivial;repeat' first|refine wg ?_|(refine sq ?_ ?_<;>intro hc<;>try exact hc.elim)|fail
 all_goals try(refine aV ?_;simp [aH,results131])
 all_goals (first|(simp_all;done)|(simp_all;omega))
theorem yw {s:bB} {k:Nat} (h:k < s.length) (hc:lowerB s[k]=false):dB s=false:=by
 have:s.all lowerB=false:=by rw [all_eq_false];exact ⟨s[k],fN h,by simp [hc]⟩
 simp [dB,this]
theorem yx {s:bB} {k:Nat} (h:k < s.length) (hc:(s[k].toNat:Int) < 97):dB s=false:=yw h (by simp [lowerB];omega)
theorem yz {s:bB} {k:Nat} (h:k < s.length) (hc:122 < (s[k].toNat:Int)):dB s=false:=yw h (by simp [lowerB];omega)
theorem VI {c:UInt8} (h:97<=(c.toNat:Int)) (hc:(c.toNat:Int)<=122):lowerB c=true:=by simp [lowerB];omega
theorem Zk {s:bB} (h:∀x∈s,lowerB x=true):dB s=(decide ((1:Int)<=s.length)&&decide ((s.length:Int)<=8)):=by
 have:s.all lowerB=true:=fW.2 h;have h1:decide ((1:Int)<=s.length)=decide (1<=s.length):=by simp only [rI];omega
 have h2:decide ((s.length:Int)<=8)=decide (s.length<=8):=by simp only [rI];omega
 rw [dB,this,h1,h2,BT]
theorem fG [aC prog] (s:bB) (hl:s.length<=1099511627776):Ok prog 93 [.str s] (.bool (dB s)):=by
 have h1:=gK s.length 1 8;refine bO aD func93 ntmps93 ?_;refine gY ?_;refine aP (ι:={k:Nat // k<=s.length/\∀x∈s.take k,lowerB x=true}) (λt o i=>⟨bE t [(3,.int .i64 i.1)],o⟩)
  (λi=>s.length - i.1) ⟨0,by simp,by simp⟩ aO ?_
 rintro ⟨k,hk,hi⟩ K1 hK1;simp only [bE,cW,cU] at hK1⊢;have hk1:=oW (k:=k);by_cases hlt:k < s.length
 .have hg:=aE hlt;have W:=aA hk1 (aA hg hlt);repeat' first|refine wg ?_|(refine sq ?_ ?_<;>intro hc<;>try exact hc.elim)|fail
  .skip
   all_goals try(refine aV ?_;simp [aH,results93])
   rw [yx hlt (by assumption)]
  .skip
   all_goals try(refine aV ?_;simp [aH,results93])
   rw [yz hlt (by assumption)]
  .skip
   exact hK1 _ ⟨k+1,by omega,bZ hlt hi (VI (by assumption) (by assumption))⟩ aO (by simp only;omega)
 .have W:=hk1;refine wl ?_;all_goals try(refine aV ?_;simp [aH,results93])
  rw [Zk (iX (by omega) hi)]
theorem gQ [aC prog] (s:bB) (hl:s.length<=1099511627776):Ok prog 125 [.str s] (.bool (dB s)):=by
 have h1:=jN s.length 1 8;refine bO aD func125 ntmps125 ?_;refine gY ?_;refine aP (ι:={k:Nat // k<=s.length/\∀x∈s.take k,lowerB x=true}) (λt o i=>⟨bE t [(3,.int .i64 i.1)],o⟩)
  (λi=>s.length - i.1) ⟨0,by simp,by simp⟩ aO ?_
 rintro ⟨k,hk,hi⟩ K1 hK1;simp only [bE,cW,cU] at hK1⊢;have hk1:=oW (k:=k);by_cases hlt:k < s.length
 .have hg:=aE hlt;have W:=aA hk1 (aA hg hlt);repeat' first|refine wg ?_|(refine sq ?_ ?_<;>intro hc<;>try exact hc.elim)|fail
  .skip
   all_goals try(refine aV ?_;simp [aH,results125])
   rw [yx hlt (by assumption)]
  .skip
   all_goals try(refine aV ?_;simp [aH,results125])
   rw [yz hlt (by assumption)]
  .skip
   exact hK1 _ ⟨k+1,by omega,bZ hlt hi (VI (by assumption) (by assumption))⟩ aO (by simp only;omega)
 .have W:=hk1;refine wl ?_;all_goals try(refine aV ?_;simp [aH,results125])
  rw [Zk (iX (by omega) hi)]
theorem qW [aC prog] (a:aK) (hl:aQ a<=1099511627776):Ok prog 49 [.agg (aL a)] (.bool (oP a)):=by
 simp only [aQ] at hl;have h1:=fG a.host (by omega);have h2:=fG a.path (by omega);refine bO aD func49 ntmps49 ?_;have W:=trivial;repeat' first|refine wg ?_|(refine sq ?_ ?_<;>intro hc<;>try exact hc.elim)|fail
 all_goals try(refine aV ?_;simp [aH,results49])
 all_goals simp_all [oP]
theorem qX [aC prog] (a:aK) (hl:aQ a<=1099511627776):Ok prog 71 [.agg (aL a)] (.bool (oP a)):=by
 simp only [aQ] at hl;have h1:=gQ a.host (by omega);have h2:=gQ a.path (by omega);refine bO aD func71 ntmps71 ?_;have W:=trivial;repeat' first|refine wg ?_|(refine sq ?_ ?_<;>intro hc<;>try exact hc.elim)|fail
 all_goals try(refine aV ?_;simp [aH,results71])
 all_goals simp_all [oP]
theorem kX [aC prog] (l:List oL) (n:bB) (hl:l.length<=1099511627776):Ok prog 175 [.sl .view 2 (l.map uL),.str n] (.gZ [.str (aW l n).1,.bool (aW l n).2]):=by
 refine bO aD func175 ntmps175 ?_;refine gY ?_;refine aP (ι:={k:Nat // k<=l.length/\∀x∈l.take k,pK n x=false}) (λt o i=>⟨bE t [(6,.int .i64 i.1)],o⟩)
  (λi=>l.length - i.1) ⟨0,by simp,by simp⟩ aO ?_
 rintro ⟨k,hk,hi⟩ K1 hK1;simp only [bE,cW,cU] at hK1⊢;have hk1:=oW (k:=k);by_cases hlt:k < l.length
 .have hg:=aE hlt;have W:=aA hk1 (aA hg hlt);repeat' first|refine wg ?_|(refine sq ?_ ?_<;>intro hc<;>try exact hc.elim)|fail
  .all_goals try(refine aV ?_;simp [aH,results175])
   rw [NN hlt (by simpa [pK] using hc) hi];simp
  .exact hK1 _ ⟨k+1,by omega,bZ hlt hi (by simpa [pK] using hc)⟩ aO (by simp only;omega)
 .have W:=hk1;refine wl ?_;all_goals try(refine aV ?_;simp [aH,results175])
  rw [Ig (iX (by omega) hi)];simp
theorem aC4 [aC prog] (g:oL) (n:bB):Ok prog 254 [.agg (uL g),.fA .view [.str n] 0] (.bool (pK n g)):=by
 refine bO aD func254 ntmps254 ?_;refine gY ?_;all_goals try(refine aV ?_;simp [aH,results254])
 rw [Bool.eq_iff_iff];simp [pK]
theorem Xr [aC prog] (l:List oL) (n:bB) (hl:l.length<=1099511627776):Ok prog 253 [.sl .view 2 (l.map uL),.fn 254 [.fA .view [.str n] 0]] (.int .i64 (pW (pK n) l)):=by
 refine bO aD func253 ntmps253 ?_;refine gY ?_;refine aP (ι:={k:Nat // k<=l.length/\∀x∈l.take k,pK n x=false}) (λt o i=>⟨bE t [(8,.int .i64 i.1),(5,.undef)],o⟩)
  (λi=>l.length - i.1) ⟨0,by simp,by simp⟩ aO ?_
 rintro ⟨k,hk,hi⟩ K1 hK1;simp only [bE,cW,cU] at hK1⊢;have hk1:=oW (k:=k);by_cases hlt:k < l.length
 .have hg:=aE hlt;have W:=aA hk1 (aA hg hlt);have c0:=aC4 l[k] n;repeat' first|refine wg ?_|(refine sq ?_ ?_<;>intro hc<;>try exact hc.elim)|fail
  .all_goals try(refine aV ?_;simp [aH,results253])
   rw [uM hlt (by simpa using hc) hi]
  .exact hK1 _ ⟨k+1,by omega,bZ hlt hi (by simpa using hc)⟩ aO (by simp only;omega)
 .have W:=hk1;refine wl ?_;all_goals try(refine aV ?_;simp [aH,results253])
  rw [nA (iX (by omega) hi)]
theorem aG7 {α:Type} (f:α->Bool) (l:List α) (h:l.findIdx f < l.length):pW f l=(l.findIdx f:Nat):=by unfold pW;rw [eI];exact any_eq_true.2 ⟨_,fN h,findIdx_getElem (w:=h)⟩
theorem aG8 {α:Type} (f:α->Bool) (l:List α) (h:¬l.findIdx f < l.length):pW f l= -1:=by
 refine nA λx hx=> ?_
 have he:l.findIdx f=l.length:=by have:=findIdx_le_length (p:=f) (xs:=l);omega
 have:=findIdx_eq_length.1 he x hx;simpa using this
theorem Zq (l:List oL) (n:bB) (h:l.findIdx (pK n) < l.length):aW l n=(l[l.findIdx (pK n)].value,true):=by
 refine NN h (findIdx_getElem (w:=h)) ?_;intro x hx;obtain ⟨i,hi,rfl⟩:=getElem_of_mem hx;have hi':i < l.findIdx (pK n):=by have:=hi;simp at this;omega
 rw [getElem_take];have:=not_of_lt_findIdx (p:=(pK n)) (xs:=l) hi';simpa using this
theorem Zr (l:List oL) (n:bB) (h:¬l.findIdx (pK n) < l.length):aW l n=([],false):=by
 refine Ig λx hx=> ?_
 have he:l.findIdx (pK n)=l.length:=by have:=findIdx_le_length (p:=pK n) (xs:=l);omega
 have:=findIdx_eq_length.1 he x hx;simpa using this
theorem mJ [aC prog] (l:List oL) (n:bB) (hl:l.length<=1099511627776):Ok prog 205 [.sl .view 2 (l.map uL),.str n] (.gZ [.str (aW l n).1,.bool (aW l n).2]):=by
 have hF:=Xr l n hl;by_cases h:l.findIdx (pK n) < l.length
 .rw [aG7 _ _ h] at hF;rw [Zq _ _ h];generalize hk:l.findIdx (pK n)=k at *;have hg:=aE h;refine bO aD func205 ntmps205 ?_;have W:=hg;have V:=h;have c0:=hF;refine wl ?_;all_goals try(refine aV ?_;simp [aH,results205])
  all_goals simp
 .rw [aG8 _ _ h] at hF;rw [Zr _ _ h];refine bO aD func205 ntmps205 ?_;have c0:=hF;refine gY ?_;all_goals try(refine aV ?_;simp [aH,results205])
  all_goals simp
theorem Jl [aC prog] (s:bB) (c:UInt8):OkN prog 250 [.str s,.int .u8 c.toNat] (.int .i64 (YO c s)):=
 Uh (fn:=f250) (by kernel_rfl) (by decide+kernel) rfl (by decide+kernel) (by rfl) s c
theorem Au [aC prog] (s:bB) (c:UInt8):Ok prog 202 [.str s,.int .u8 c.toNat] (.int .i64 (YO c s)):=by have h1:=Jl s c;refine bO aD func202 ntmps202 ?_;refine gY ?_;exact aF results202
theorem OM [aC prog] (s:bB) (c:UInt8):Ok prog 271 [.str s,.str [c]] (.int .i64 (YO c s)):=by
 have h1:=Au s c;refine bO aD func271 ntmps271 ?_;have W:=trivial;repeat' first|refine wg ?_|(refine sq ?_ ?_<;>intro hc<;>try exact hc.elim)|fail
 all_goals try(refine aV ?_;simp [aH,results271])
 all_goals (subst hc;simp [YO,Bj])
theorem oz [aC prog] (s:bB) (c:UInt8) (hl:s.length<=1099511627776):Ok prog 252 [.str s,.str [c]] (.gZ [.str (s.take (iL c s)),.str (s.drop (iL c s+1)),.bool (decide (iL c s < s.length))]):=by
 have h1:=OM s c;have hle:=uX c s;by_cases h:iL c s < s.length
 .have e:YO c s=iL c s:=eI h;rw [e] at h1;generalize iL c s=k at *;refine bO aD func252 ntmps252 ?_;have W:=h;refine wl ?_;all_goals try(refine aV ?_;simp [aH,results252])
  all_goals simp_all
 .have e:YO c s= -1:=cX h;rw [e] at h1;have e2:iL c s=s.length:=by omega
  rw [e2];refine bO aD func252 ntmps252 ?_;refine gY ?_;all_goals try(refine aV ?_;simp [aH,results252])
  all_goals simp
theorem zK [aC prog] (s:bB) (c:UInt8) (hl:s.length<=1099511627776):Ok prog 204 [.str s,.str [c]] (.gZ [.str (s.take (iL c s)),.str (s.drop (iL c s+1)),.bool (decide (iL c s < s.length))]):=by have h1:=oz s c hl;refine bO aD func204 ntmps204 ?_;refine gY ?_;exact aF results204
theorem aHa {c:UInt8} {n:Nat} (hn:n < 256) (h:(c.toNat:Int)=n):c=UInt8.ofNat n:=by
 have:c.toNat=n:=by omega
 rw [<-this];simp
theorem aHb {c:UInt8} {n:Nat} (hn:n < 256) (h:¬(c.toNat:Int)=n):c≠UInt8.ofNat n:=by rintro rfl;apply h;simp;omega
theorem Rn {s b:bB} {k:Nat} (h:iL 47 s=k) (hk:k < s.length):addrOf s b=⟨s.take k,s.drop (k+1)⟩:=by subst h;exact eI hk
theorem NV {s b:bB} (h:iL 47 s=s.length):addrOf s b=⟨b,s⟩:=cX (by omega)
theorem yV [aC prog] (s b:bB) (hl:s.length+b.length<=1099511627776):Ok prog 222 [.str s,.str b] (.gZ [.agg (aL (bY s b).1),.bool (bY s b).2]):=by
 simp only [bY];refine bO aD func222 ntmps222 ?_;refine gY ?_;refine aP (ι:={k:Nat // k<=s.length/\∀x∈s.take k,x≠47}) (λt o i=>⟨bE t [(7,.int .i64 i.1)],o⟩)
  (λi=>s.length - i.1) ⟨0,by simp,by simp⟩ aO ?_
 rintro ⟨k,hk,hi⟩ K1 hK1;simp only [bE,cW,cU] at hK1⊢;have hk1:=oW (k:=k);by_cases hlt:k < s.length
 .have hg:=aE hlt;have W:=aA hk1 (aA hg hlt);repeat' first|refine wg ?_|(refine sq ?_ ?_<;>intro hc<;>try exact hc.elim)|fail
  .have e:=Rn (b:=b) (ll hlt (aHa (by decide) hc) hi) hlt;have h1:=qW ⟨s.take k,s.drop (k+1)⟩ (by simp [aQ];omega);rw [e];simp only [aL] at h1;have W:=trivial;repeat' first|refine wg ?_|(refine sq ?_ ?_<;>intro hc<;>try exact hc.elim)|fail
   all_goals try(refine aV ?_;simp [aH,results222,wV])
   all_goals simp_all [wV]
  .exact hK1 _ ⟨k+1,by omega,bZ hlt hi (aHb (by decide) hc)⟩ aO (by simp only;omega)
 .have e:=NV (b:=b) (YN (iX (by omega) hi));have h1:=qW ⟨b,s⟩ (by simp [aQ];omega);rw [e];simp only [aL] at h1;have W:=hk1;repeat' first|refine wg ?_|(refine sq ?_ ?_<;>intro hc<;>try exact hc.elim)|fail
  all_goals try(refine aV ?_;simp [aH,results222,wV])
  all_goals simp_all [wV]
theorem yX [aC prog] (s b:bB) (hl:s.length+b.length<=1099511627776):Ok prog 249 [.str s,.str b] (.gZ [.agg (aL (bY s b).1),.bool (bY s b).2]):=by
 have hC:=zK s 47 (by omega);have hle:=uX 47 s;simp only [bY];by_cases h:iL 47 s < s.length
 .rw [Rn rfl h];rw [rL h] at hC;generalize iL 47 s=k at *;have h1:=qX ⟨s.take k,s.drop (k+1)⟩ (by simp [aQ];omega);simp only [aL] at h1;refine bO aD func249 ntmps249 ?_;have W:=trivial;repeat' first|refine wg ?_|(refine sq ?_ ?_<;>intro hc<;>try exact hc.elim)|fail
  all_goals try(refine aV ?_;simp [aH,results249,wV])
  all_goals simp_all [wV]
 .have e2:iL 47 s=s.length:=by omega
  rw [NV e2];rw [Ax h] at hC;have h1:=qX ⟨b,s⟩ (by simp [aQ];omega);simp only [aL] at h1;refine bO aD func249 ntmps249 ?_;have W:=trivial;repeat' first|refine wg ?_|(refine sq ?_ ?_<;>intro hc<;>try exact hc.elim)|fail
  all_goals try(refine aV ?_;simp [aH,results249,wV])
  all_goals simp_all [wV]
theorem aHc [aC prog] [dK prog] (n:Int) (h: -9223372036854775808<=n/\n<=9223372036854775807):Ok prog 300 [.int .i64 n] (.str (Lib.itoa n)):=aGz Tryz.laysM171 n h.1 h.2
theorem fO [aC prog] [dK prog] (n:Int) (h: -9223372036854775808<=n/\n<=9223372036854775807):Ok prog 282 [.int .i64 n] (.str (Lib.itoa n)):=by have h1:=aHc n h;refine bO aD func282 ntmps282 ?_;refine gY ?_;exact aF results282
theorem fP [aC prog] [dK prog] (n:Int) (h: -9223372036854775808<=n/\n<=9223372036854775807):Ok prog 226 [.int .i64 n] (.str (Lib.itoa n)):=by
 by_cases h0:n=0
 .subst h0;refine bO aD func226 ntmps226 ?_;refine gY ?_;all_goals try(refine aV ?_;simp [aH,results226])
  all_goals exact K6.symm
 .refine bO aD func226 ntmps226 ?_;have W:=h0;refine wl ?_;refine aP (ι:={p:Int×bB // (-9223372036854775808<=p.1/\p.1<=9223372036854775807)/\Jf p.1.natAbs++p.2=Jf n.natAbs}) (λt o i=>⟨bE t [(4,.int .i64 i.1.1),(3,.str i.1.2),(5,.undef)],o⟩)
   (λi=>i.1.1.natAbs) ⟨(n,[]),h,by simp⟩ aO ?_
  rintro ⟨⟨x,s⟩,⟨hx1,hx2⟩,hi⟩ K1 hK1;simp only [bE,cW,cU] at hK1 hx1 hx2 hi⊢;have hsl:=An length hi;have hnl:=aCo n h.1 h.2;rw [eR] at hsl;have hs1:1+s.length<=9223372036854775807:=by omega
  have hs2:s.length<=9223372036854775806:=by omega
  clear hsl hnl;by_cases hx:x=0
  .subst hx;have hs:s=Jf n.natAbs:=by simpa [Jf] using hi
   have W:=aA hs1 hs2;repeat' first|refine wg ?_|(refine sq ?_ ?_<;>intro hc<;>try exact hc.elim)|fail
   .all_goals try(refine aV ?_;simp [aH,results226])
    exact (itoa_neg (by omega) hs).symm
   .all_goals try(refine aV ?_;simp [aH,results226])
    exact (aCm h0 (by omega) hs).symm
  .obtain ⟨r,q,hr0,hr9,hq,hq1,hq2,hqa,hr,ht⟩:=lq x hx1 hx2;have hp:=K5 x.natAbs (by omega);have hu8:=aCn (48+r) (by omega) (by omega);have hb:UInt8.ofNat (48+r).toNat=UInt8.ofNat (48+x.natAbs % 10):=by congr 1;omega
   have hi2:Jf q.natAbs++UInt8.ofNat (48+r).toNat::s=Jf n.natAbs:=by rw [<-hi,hp,hqa,hb];simp
   have hm:q.natAbs < x.natAbs:=by omega
   clear hr hb hp;rcases ht with ht|⟨ht,hrp⟩
   .have W:=aA hx (aA ht (aA hq (aA hu8 (aA hs1 hs2))));refine wl ?_;refine hK1 _ ⟨(q,UInt8.ofNat (48+r).toNat::s),⟨hq1,hq2⟩,hi2⟩ (aX 0) (by simp only;omega)
   .have W:=aA hx (aA ht (aA hq (aA hu8 (aA hs1 hs2))));refine wl ?_;refine hK1 _ ⟨(q,UInt8.ofNat (48+r).toNat::s),⟨hq1,hq2⟩,hi2⟩ (aX 0) (by simp only;omega)
theorem N7 {c:UInt8} {s:bB} {f i:Nat} (hf:f<=i) (hi:i < s.length) (hc:s[i]=c) (hn:∀x∈(s.take i).drop f,x≠c):dG c (s.drop f)=(s.take i).drop f::dG c (s.drop (i+1)):=by
 have e:s.drop f=(s.take i).drop f++c::s.drop (i+1):=by
  have h1:s=s.take i++s[i]::s.drop (i+1):=by simp
  conv=>lhs;rw [h1]
  rw [drop_append_of_le_length (by simp;omega),hc]
 rw [e,Dn c _ _ hn]
theorem N8 {c:UInt8} {s:bB} {f:Nat} (hn:∀x∈(s.take s.length).drop f,x≠c):dG c (s.drop f)=[(s.take s.length).drop f]:=by rw [As] at hn⊢;exact Bl c _ hn
theorem N9 {c:UInt8} {s:bB} {f i:Nat} (hf:f<=i) (hi:i < s.length) (hc:s[i]≠c) (hn:∀x∈(s.take i).drop f,x≠c):∀x∈(s.take (i+1)).drop f,x≠c:=by
 rw [eK hi,drop_append_of_le_length (by simp;omega)];intro x hx;rcases fL.1 hx with h|h
 .exact hn x h
 .rw [pZ.1 h];exact hc
theorem wX [aC prog] (s:bB) (c:UInt8) (hl:s.length<=1099511627776):Ok prog 97 [.str s,.int .u8 c.toNat] (.sl .own 1 ((dG c s).map dD)):=by
 refine bO aD func97 ntmps97 ?_;refine gY ?_;refine aP (ι:={q:Nat×Nat×List bB×Nat // q.1<=s.length+1/\q.2.1<=q.1/\q.2.2.1.length<=q.1/\1<=q.2.2.2/\(q.1<=s.length->dG c s=q.2.2.1++dG c (s.drop q.2.1)/\∀x∈(s.take q.1).drop q.2.1,x≠c)/\(q.1=s.length+1->q.2.2.1=dG c s)})
  (λt o i=>⟨bE t [(7,.int .i64 i.1.1),(6,.int .i64 i.1.2.1),(5,.obj 0 i.1.2.2.2)],[⟨true,false,1,i.1.2.2.2,i.1.2.2.1.map dD⟩]⟩)
  (λi=>s.length+1 - i.1.1) ⟨(0,0,[],1),by simp,by simp,by simp,by simp,by simp,by simp⟩ aO ?_
 rintro ⟨⟨k,f,out,v⟩,hk,hf,ho,hv,hin,IK⟩ K1 hK1;simp only at hk hf ho hv hin IK;simp only [bE,cW,cU] at hK1⊢;have hk1:=oW (k:=k);by_cases h1:k=s.length+1
 .have e:=IK h1;subst e;subst h1;have W:=hk1;refine wl ?_;exact aF results97
 .have hle:k<=s.length:=by omega
  obtain ⟨g1,g2⟩:=hin hle;by_cases h2:k=s.length
  .subst h2;have e:=N8 g2;rw [e,As] at g1;have W:=hk1;refine wl ?_;exact hK1 _ ⟨(s.length+1,s.length+1,out++[s.drop f],v+1),by simp only;omega,by simp only;omega,by simp;omega,by simp only;omega,λh=>by simp only at h;omega,λ_=>g1.symm⟩ (aX 1) (by simp only;omega)
  .have hlt:k < s.length:=by omega
   have hg:=aE hlt;have W:=aA hk1 (aA hg hlt);repeat' first|refine wg ?_|(refine sq ?_ ?_<;>intro hc<;>try exact hc.elim)|fail
   .have TS:s[k]=c:=BE.1 (by omega);rw [N7 hf hlt TS g2] at g1;exact hK1 _ ⟨(k+1,k+1,out++[(s.take k).drop f],v+1),by simp only;omega,by simp only;omega,by simp;omega,by simp only;omega,λ_=>⟨by rw [g1];simp,by simp⟩,λh=>by simp only at h;omega⟩ (aX 1) (by simp only;omega)
   .have TS:s[k]≠c:=λh=>hc (by rw [h])
    exact hK1 _ ⟨(k+1,f,out,v),by simp only;omega,by simp only;omega,by simp only;omega,by simp only;omega,λ_=>⟨g1,N9 hf hlt TS g2⟩,λh=>by simp only at h;omega⟩ (aX 1) (by simp only;omega)
theorem jD {α:Type} (f:α->Nat):∀a b:List α,bH f (a++b)=bH f a+bH f b
 |[],b=>by simp [bH]
 |x::xs,b=>by simp only [eA,bH,jD f xs b];omega
end Go.Proofs.YtdcpobkemdacnaaGreatDoor
