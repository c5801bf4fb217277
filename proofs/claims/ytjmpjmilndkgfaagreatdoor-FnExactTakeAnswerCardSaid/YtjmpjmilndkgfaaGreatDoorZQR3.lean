/- Proved here: steps towards the statement of this claim. No condition. -/
import Derived.Test.YtjmpjmilndkgfaaGreatDoorZQA0
set_option linter.all false
set_option maxRecDepth 4000
set_option maxHeartbeats 400000
namespace Go.Proofs.YtjmpjmilndkgfaaGreatDoor
open Go.Aw Proofs.Tryz List IntKind
theorem gM [aC prog] (a b c:Int):Ok prog 110 [.int .i64 a,.int .i64 b,.int .i64 c] (.bool (decide (b<=a)&&decide (a<=c))):=by
 refine bR aD func110 ntmps110 ?_;have W:=trivial;repeat' first|refine wg ?_|(refine sq ?_ ?_<;>intro hc<;>try exact hc.elim)|fail
 all_goals try(refine aR ?_;simp [aG,results110])
 all_goals (first|(simp_all;done)|(simp_all;omega))
theorem jT [aC prog] (a b c:Int):Ok prog 193 [.int .i64 a,.int .i64 b,.int .i64 c] (.bool (decide (b<=a)&&decide (a<=c))):=by
 refine bR aD func193 ntmps193 ?_;have W:=trivial;repeat' first|refine wg ?_|(refine sq ?_ ?_<;>intro hc<;>try exact hc.elim)|fail
 all_goals try(refine aR ?_;simp [aG,results193])
 all_goals (first|(simp_all;done)|(simp_all;omega))
theorem yg {s:bF} {k:Nat} (h:k < s.length) (hc:lowerB s[k]=false):dA s=false:=by
 have:s.all lowerB=false:=by rw [all_eq_false];exact ⟨s[k],fR h,by simp [hc]⟩
 simp [dA,this]
theorem yh {s:bF} {k:Nat} (h:k < s.length) (hc:(s[k].toNat:Int) < 97):dA s=false:=yg h (by simp [lowerB];omega)
theorem yj {s:bF} {k:Nat} (h:k < s.length) (hc:122 < (s[k].toNat:Int)):dA s=false:=yg h (by simp [lowerB];omega)
theorem Vq {c:UInt8} (h:97<=(c.toNat:Int)) (hc:(c.toNat:Int)<=122):lowerB c=true:=by simp [lowerB];omega
theorem YZ {s:bF} (h:∀x∈s,lowerB x=true):dA s=(decide ((1:Int)<=s.length)&&decide ((s.length:Int)<=8)):=by
 have:s.all lowerB=true:=fS.2 h;have h1:decide ((1:Int)<=s.length)=decide (1<=s.length):=by simp only [vA];omega
 have h2:decide ((s.length:Int)<=8)=decide (s.length<=8):=by simp only [vA];omega
 rw [dA,this,h1,h2,Cl]
theorem fU [aC prog] (s:bF) (hl:s.length<=1099511627776):Ok prog 223 [.str s] (.bool (dA s)):=by
 have h1:=gM s.length 1 8;refine bR aD func223 ntmps223 ?_;refine gJ ?_;refine aL (ι:={k:Nat // k<=s.length/\∀x∈s.take k,lowerB x=true}) (λt o i=>⟨bD t [(3,.int .i64 i.1)],o⟩)
  (λi=>s.length - i.1) ⟨0,by simp,by simp⟩ aH ?_
 rintro ⟨k,hk,hi⟩ K1 hK1;simp only [bD,cW,cU] at hK1⊢;have hk1:=oW (k:=k);by_cases hlt:k < s.length
 .have hg:=aE hlt;have W:=aA hk1 (aA hg hlt);repeat' first|refine wg ?_|(refine sq ?_ ?_<;>intro hc<;>try exact hc.elim)|fail
  .skip
   all_goals try(refine aR ?_;simp [aG,results223])
   rw [yh hlt (by assumption)]
  .skip
   all_goals try(refine aR ?_;simp [aG,results223])
   rw [yj hlt (by assumption)]
  .skip
   exact hK1 _ ⟨k+1,by omega,dV hlt hi (Vq (by assumption) (by assumption))⟩ aH (by simp only;omega)
 .have W:=hk1;refine wl ?_;all_goals try(refine aR ?_;simp [aG,results223])
  rw [YZ (mQ (by omega) hi)]
theorem gZ [aC prog] (s:bF) (hl:s.length<=1099511627776):Ok prog 239 [.str s] (.bool (dA s)):=by
 have h1:=jT s.length 1 8;refine bR aD func239 ntmps239 ?_;refine gJ ?_;refine aL (ι:={k:Nat // k<=s.length/\∀x∈s.take k,lowerB x=true}) (λt o i=>⟨bD t [(3,.int .i64 i.1)],o⟩)
  (λi=>s.length - i.1) ⟨0,by simp,by simp⟩ aH ?_
 rintro ⟨k,hk,hi⟩ K1 hK1;simp only [bD,cW,cU] at hK1⊢;have hk1:=oW (k:=k);by_cases hlt:k < s.length
 .have hg:=aE hlt;have W:=aA hk1 (aA hg hlt);repeat' first|refine wg ?_|(refine sq ?_ ?_<;>intro hc<;>try exact hc.elim)|fail
  .skip
   all_goals try(refine aR ?_;simp [aG,results239])
   rw [yh hlt (by assumption)]
  .skip
   all_goals try(refine aR ?_;simp [aG,results239])
   rw [yj hlt (by assumption)]
  .skip
   exact hK1 _ ⟨k+1,by omega,dV hlt hi (Vq (by assumption) (by assumption))⟩ aH (by simp only;omega)
 .have W:=hk1;refine wl ?_;all_goals try(refine aR ?_;simp [aG,results239])
  rw [YZ (mQ (by omega) hi)]
theorem yR [aC prog] (a:aT) (hl:aU a<=1099511627776):Ok prog 222 [.agg (aO a)] (.bool (zZ a)):=by
 simp only [aU] at hl;have h1:=fU a.host (by omega);have h2:=fU a.path (by omega);refine bR aD func222 ntmps222 ?_;have W:=trivial;repeat' first|refine wg ?_|(refine sq ?_ ?_<;>intro hc<;>try exact hc.elim)|fail
 all_goals try(refine aR ?_;simp [aG,results222])
 all_goals simp_all [zZ]
theorem yS [aC prog] (a:aT) (hl:aU a<=1099511627776):Ok prog 199 [.agg (aO a)] (.bool (zZ a)):=by
 simp only [aU] at hl;have h1:=gZ a.host (by omega);have h2:=gZ a.path (by omega);refine bR aD func199 ntmps199 ?_;have W:=trivial;repeat' first|refine wg ?_|(refine sq ?_ ?_<;>intro hc<;>try exact hc.elim)|fail
 all_goals try(refine aR ?_;simp [aG,results199])
 all_goals simp_all [zZ]
theorem kW [aC prog] (l:List jY) (n:bF) (hl:l.length<=1099511627776):Ok prog 217 [.sl .view 2 (l.map gU),.str n] (.iJ [.str (aV l n).1,.bool (aV l n).2]):=by
 refine bR aD func217 ntmps217 ?_;refine gJ ?_;refine aL (ι:={k:Nat // k<=l.length/\∀x∈l.take k,oH n x=false}) (λt o i=>⟨bD t [(6,.int .i64 i.1)],o⟩)
  (λi=>l.length - i.1) ⟨0,by simp,by simp⟩ aH ?_
 rintro ⟨k,hk,hi⟩ K1 hK1;simp only [bD,cW,cU] at hK1⊢;have hk1:=oW (k:=k);by_cases hlt:k < l.length
 .have hg:=aE hlt;have W:=aA hk1 (aA hg hlt);repeat' first|refine wg ?_|(refine sq ?_ ?_<;>intro hc<;>try exact hc.elim)|fail
  .all_goals try(refine aR ?_;simp [aG,results217])
   rw [MO hlt (by simpa [oH] using hc) hi];simp
  .exact hK1 _ ⟨k+1,by omega,dV hlt hi (by simpa [oH] using hc)⟩ aH (by simp only;omega)
 .have W:=hk1;refine wl ?_;all_goals try(refine aR ?_;simp [aG,results217])
  rw [GM (mQ (by omega) hi)];simp
theorem aC4 [aC prog] (g:jY) (n:bF):Ok prog 271 [.agg (gU g),.gD .view [.str n] 0] (.bool (oH n g)):=by
 refine bR aD func271 ntmps271 ?_;refine gJ ?_;all_goals try(refine aR ?_;simp [aG,results271])
 rw [Bool.eq_iff_iff];simp [oH]
theorem WT [aC prog] (l:List jY) (n:bF) (hl:l.length<=1099511627776):Ok prog 270 [.sl .view 2 (l.map gU),.fn 271 [.gD .view [.str n] 0]] (.int .i64 (wX (oH n) l)):=by
 refine bR aD func270 ntmps270 ?_;refine gJ ?_;refine aL (ι:={k:Nat // k<=l.length/\∀x∈l.take k,oH n x=false}) (λt o i=>⟨bD t [(8,.int .i64 i.1),(5,.undef)],o⟩)
  (λi=>l.length - i.1) ⟨0,by simp,by simp⟩ aH ?_
 rintro ⟨k,hk,hi⟩ K1 hK1;simp only [bD,cW,cU] at hK1⊢;have hk1:=oW (k:=k);by_cases hlt:k < l.length
 .have hg:=aE hlt;have W:=aA hk1 (aA hg hlt);have c0:=aC4 l[k] n;repeat' first|refine wg ?_|(refine sq ?_ ?_<;>intro hc<;>try exact hc.elim)|fail
  .all_goals try(refine aR ?_;simp [aG,results270])
   rw [DY hlt (by simpa using hc) hi]
  .exact hK1 _ ⟨k+1,by omega,dV hlt hi (by simpa using hc)⟩ aH (by simp only;omega)
 .have W:=hk1;refine wl ?_;all_goals try(refine aR ?_;simp [aG,results270])
  rw [wI (mQ (by omega) hi)]
theorem aHe {α:Type} (f:α->Bool) (l:List α) (h:l.findIdx f < l.length):wX f l=(l.findIdx f:Nat):=by unfold wX;rw [eK];exact any_eq_true.2 ⟨_,fR h,findIdx_getElem (w:=h)⟩
theorem aHf {α:Type} (f:α->Bool) (l:List α) (h:¬l.findIdx f < l.length):wX f l= -1:=by
 refine wI λx hx=> ?_
 have he:l.findIdx f=l.length:=by have:=findIdx_le_length (p:=f) (xs:=l);omega
 have:=findIdx_eq_length.1 he x hx;simpa using this
theorem Zb (l:List jY) (n:bF) (h:l.findIdx (oH n) < l.length):aV l n=(l[l.findIdx (oH n)].value,true):=by
 refine MO h (findIdx_getElem (w:=h)) ?_;intro x hx;obtain ⟨i,hi,rfl⟩:=getElem_of_mem hx;have hi':i < l.findIdx (oH n):=by have:=hi;simp at this;omega
 rw [getElem_take];have:=not_of_lt_findIdx (p:=(oH n)) (xs:=l) hi';simpa using this
theorem Zc (l:List jY) (n:bF) (h:¬l.findIdx (oH n) < l.length):aV l n=([],false):=by
 refine GM λx hx=> ?_
 have he:l.findIdx (oH n)=l.length:=by have:=findIdx_le_length (p:=oH n) (xs:=l);omega
 have:=findIdx_eq_length.1 he x hx;simpa using this
theorem mI [aC prog] (l:List jY) (n:bF) (hl:l.length<=1099511627776):Ok prog 233 [.sl .view 2 (l.map gU),.str n] (.iJ [.str (aV l n).1,.bool (aV l n).2]):=by
 have hF:=WT l n hl;by_cases h:l.findIdx (oH n) < l.length
 .rw [aHe _ _ h] at hF;rw [Zb _ _ h];generalize hk:l.findIdx (oH n)=k at *;have hg:=aE h;refine bR aD func233 ntmps233 ?_;have W:=hg;have V:=h;have c0:=hF;refine wl ?_;all_goals try(refine aR ?_;simp [aG,results233])
  all_goals simp
 .rw [aHf _ _ h] at hF;rw [Zc _ _ h];refine bR aD func233 ntmps233 ?_;have c0:=hF;refine gJ ?_;all_goals try(refine aR ?_;simp [aG,results233])
  all_goals simp
theorem Iq [aC prog] (s:bF) (c:UInt8):OkN prog 309 [.str s,.int .u8 c.toNat] (.int .i64 (Yq c s)):=
 TE (fn:=f309) (by kernel_rfl) (by decide+kernel) rfl (by decide+kernel) (by rfl) s c
theorem Ak [aC prog] (s:bF) (c:UInt8):Ok prog 296 [.str s,.int .u8 c.toNat] (.int .i64 (Yq c s)):=by have h1:=Iq s c;refine bR aD func296 ntmps296 ?_;refine gJ ?_;exact aK results296
theorem NJ [aC prog] (s:bF) (c:UInt8):Ok prog 281 [.str s,.str [c]] (.int .i64 (Yq c s)):=by
 have h1:=Ak s c;refine bR aD func281 ntmps281 ?_;have W:=trivial;repeat' first|refine wg ?_|(refine sq ?_ ?_<;>intro hc<;>try exact hc.elim)|fail
 all_goals try(refine aR ?_;simp [aG,results281])
 all_goals (subst hc;simp [Yq,Bd])
theorem mo [aC prog] (s:bF) (c:UInt8) (hl:s.length<=1099511627776):Ok prog 251 [.str s,.str [c]] (.iJ [.str (s.take (iL c s)),.str (s.drop (iL c s+1)),.bool (decide (iL c s < s.length))]):=by
 have h1:=NJ s c;have hle:=tL c s;by_cases h:iL c s < s.length
 .have e:Yq c s=iL c s:=eK h;rw [e] at h1;generalize iL c s=k at *;refine bR aD func251 ntmps251 ?_;have W:=h;refine wl ?_;all_goals try(refine aR ?_;simp [aG,results251])
  all_goals simp_all
 .have e:Yq c s= -1:=cY h;rw [e] at h1;have e2:iL c s=s.length:=by omega
  rw [e2];refine bR aD func251 ntmps251 ?_;refine gJ ?_;all_goals try(refine aR ?_;simp [aG,results251])
  all_goals simp
theorem yT [aC prog] (s:bF) (c:UInt8) (hl:s.length<=1099511627776):Ok prog 198 [.str s,.str [c]] (.iJ [.str (s.take (iL c s)),.str (s.drop (iL c s+1)),.bool (decide (iL c s < s.length))]):=by have h1:=mo s c hl;refine bR aD func198 ntmps198 ?_;refine gJ ?_;exact aK results198
theorem aHg {c:UInt8} {n:Nat} (hn:n < 256) (h:(c.toNat:Int)=n):c=UInt8.ofNat n:=by
 have:c.toNat=n:=by omega
 rw [<-this];simp
theorem aHh {c:UInt8} {n:Nat} (hn:n < 256) (h:¬(c.toNat:Int)=n):c≠UInt8.ofNat n:=by rintro rfl;apply h;simp;omega
theorem QI {s b:bF} {k:Nat} (h:iL 47 s=k) (hk:k < s.length):addrOf s b=⟨s.take k,s.drop (k+1)⟩:=by subst h;exact eK hk
theorem MX {s b:bF} (h:iL 47 s=s.length):addrOf s b=⟨b,s⟩:=cY (by omega)
theorem yE [aC prog] (s b:bF) (hl:s.length+b.length<=1099511627776):Ok prog 177 [.str s,.str b] (.iJ [.agg (aO (bZ s b).1),.bool (bZ s b).2]):=by
 simp only [bZ];refine bR aD func177 ntmps177 ?_;refine gJ ?_;refine aL (ι:={k:Nat // k<=s.length/\∀x∈s.take k,x≠47}) (λt o i=>⟨bD t [(7,.int .i64 i.1)],o⟩)
  (λi=>s.length - i.1) ⟨0,by simp,by simp⟩ aH ?_
 rintro ⟨k,hk,hi⟩ K1 hK1;simp only [bD,cW,cU] at hK1⊢;have hk1:=oW (k:=k);by_cases hlt:k < s.length
 .have hg:=aE hlt;have W:=aA hk1 (aA hg hlt);repeat' first|refine wg ?_|(refine sq ?_ ?_<;>intro hc<;>try exact hc.elim)|fail
  .have e:=QI (b:=b) (jd hlt (aHg (by decide) hc) hi) hlt;have h1:=yR ⟨s.take k,s.drop (k+1)⟩ (by simp [aU];omega);rw [e];simp only [aO] at h1;have W:=trivial;repeat' first|refine wg ?_|(refine sq ?_ ?_<;>intro hc<;>try exact hc.elim)|fail
   all_goals try(refine aR ?_;simp [aG,results177,vS])
   all_goals simp_all [vS]
  .exact hK1 _ ⟨k+1,by omega,dV hlt hi (aHh (by decide) hc)⟩ aH (by simp only;omega)
 .have e:=MX (b:=b) (Yp (mQ (by omega) hi));have h1:=yR ⟨b,s⟩ (by simp [aU];omega);rw [e];simp only [aO] at h1;have W:=hk1;repeat' first|refine wg ?_|(refine sq ?_ ?_<;>intro hc<;>try exact hc.elim)|fail
  all_goals try(refine aR ?_;simp [aG,results177,vS])
  all_goals simp_all [vS]
theorem yF [aC prog] (s b:bF) (hl:s.length+b.length<=1099511627776):Ok prog 150 [.str s,.str b] (.iJ [.agg (aO (bZ s b).1),.bool (bZ s b).2]):=by
 have hC:=yT s 47 (by omega);have hle:=tL 47 s;simp only [bZ];by_cases h:iL 47 s < s.length
 .rw [QI rfl h];rw [sB h] at hC;generalize iL 47 s=k at *;have h1:=yS ⟨s.take k,s.drop (k+1)⟩ (by simp [aU];omega);simp only [aO] at h1;refine bR aD func150 ntmps150 ?_;have W:=trivial;repeat' first|refine wg ?_|(refine sq ?_ ?_<;>intro hc<;>try exact hc.elim)|fail
  all_goals try(refine aR ?_;simp [aG,results150,vS])
  all_goals simp_all [vS]
 .have e2:iL 47 s=s.length:=by omega
  rw [MX e2];rw [AE h] at hC;have h1:=yS ⟨b,s⟩ (by simp [aU];omega);simp only [aO] at h1;refine bR aD func150 ntmps150 ?_;have W:=trivial;repeat' first|refine wg ?_|(refine sq ?_ ?_<;>intro hc<;>try exact hc.elim)|fail
  all_goals try(refine aR ?_;simp [aG,results150,vS])
  all_goals simp_all [vS]
end Go.Proofs.YtjmpjmilndkgfaaGreatDoor
