/- Proved here: steps towards the statement of this claim. No condition. -/
import Derived.Test.YtfbefblglejcaaaGreatDoorZQU2
import Derived.Test.YtfbefblglejcaaaGreatDoorZYShelf
import Derived.Test.YtfbefblglejcaaaGreatDoorZYShelf2
import Derived.Test.YtfbefblglejcaaaGreatDoorZF7
import Derived.Shelf.Spec.SlicesInsertGrow
set_option linter.all false
set_option maxRecDepth 4000
set_option maxHeartbeats 400000
namespace Go.Proofs.YtfbefblglejcaaaGreatDoor
open Go.Aw Proofs.Tryz List IntKind
theorem kV[aC prog](l:List oN)(n:bB)(hl:l.length<=1099511627776):Ok prog 183 [.sl .view 2 (l.map uR),.str n] (.gT [.str (aW l n).1,.bool (aW l n).2]):=by
 refine bM aF func183 ntmps183 ?_;refine iF ?_;refine aO (ι:={k:Nat // k<=l.length/\∀x∈l.take k,pW n x=false}) (λt o i=>⟨bC t [(6,.int .i64 i.1)],o⟩)
  (λi=>l.length-i.1) ⟨0,by simp,by simp⟩ aJ ?_
 rintro⟨k,hk,hi⟩ K1 hK1;simp only[bC,cW,cU]at hK1⊢;have hk1:=oQ (k:=k);by_cases hlt:k<l.length
 .have hg:=aE hlt;have W:=aA hk1 (aA hg hlt);repeat' first|refine wg ?_|(refine sq ?_ ?_<;>intro hc<;>try exact hc.elim)|fail
  .all_goals try(refine aQ ?_;simp[aP,results183])
   rw[OI hlt (by simpa [pW]using hc) hi];simp
  .exact hK1 _ ⟨k+1,by omega,cB hlt hi (by simpa [pW]using hc)⟩ aJ (by simp only;omega)
 .have W:=hk1;refine wl ?_;all_goals try(refine aQ ?_;simp[aP,results183])
  rw[IV (iR (by omega) hi)];simp
theorem aE3[aC prog](g:oN)(n:bB):Ok prog 262 [.agg (uR g),.eQ .view [.str n] 0] (.bool (pW n g)):=by
 refine bM aF func262 ntmps262 ?_;refine iF ?_;all_goals try(refine aQ ?_;simp[aP,results262])
 rw[Bool.eq_iff_iff];simp[pW]
theorem XQ[aC prog](l:List oN)(n:bB)(hl:l.length<=1099511627776):Ok prog 261 [.sl .view 2 (l.map uR),.fn 262 [.eQ .view [.str n] 0]] (.int .i64 (qF (pW n) l)):=by
 refine bM aF func261 ntmps261 ?_;refine iF ?_;refine aO (ι:={k:Nat // k<=l.length/\∀x∈l.take k,pW n x=false}) (λt o i=>⟨bC t [(8,.int .i64 i.1),(5,.undef)],o⟩)
  (λi=>l.length-i.1) ⟨0,by simp,by simp⟩ aJ ?_
 rintro⟨k,hk,hi⟩ K1 hK1;simp only[bC,cW,cU]at hK1⊢;have hk1:=oQ (k:=k);by_cases hlt:k<l.length
 .have hg:=aE hlt;have W:=aA hk1 (aA hg hlt);have c0:=aE3 l[k] n;repeat' first|refine wg ?_|(refine sq ?_ ?_<;>intro hc<;>try exact hc.elim)|fail
  .all_goals try(refine aQ ?_;simp[aP,results261])
   rw[uS hlt (by simpa using hc) hi]
  .exact hK1 _ ⟨k+1,by omega,cB hlt hi (by simpa using hc)⟩ aJ (by simp only;omega)
 .have W:=hk1;refine wl ?_;all_goals try(refine aQ ?_;simp[aP,results261])
  rw[nJ (iR (by omega) hi)]
theorem aI9{α:Type}(f:α->Bool)(l:List α)(h:l.findIdx f<l.length):qF f l=(l.findIdx f:Nat):=by unfold qF;rw[eK];exact any_eq_true.2 ⟨_,fS h,findIdx_getElem (w:=h)⟩
theorem aJa{α:Type}(f:α->Bool)(l:List α)(h:¬l.findIdx f<l.length):qF f l= -1:=by
 refine nJ λx hx=> ?_
 have he:l.findIdx f=l.length:=by have:=findIdx_le_length (p:=f) (xs:=l);omega
 have:=findIdx_eq_length.1 he x hx;simpa using this
theorem bg(l:List oN)(n:bB)(h:l.findIdx (pW n)<l.length):aW l n=(l[l.findIdx (pW n)].value,true):=by
 refine OI h (findIdx_getElem (w:=h)) ?_;intro x hx;obtain⟨i,hi,rfl⟩:=getElem_of_mem hx;have hi':i<l.findIdx (pW n):=by have:=hi;simp at this;omega
 rw[getElem_take];have:=not_of_lt_findIdx (p:=(pW n)) (xs:=l) hi';simpa using this
theorem bn(l:List oN)(n:bB)(h:¬l.findIdx (pW n)<l.length):aW l n=([],false):=by
 refine IV λx hx=> ?_
 have he:l.findIdx (pW n)=l.length:=by have:=findIdx_le_length (p:=pW n) (xs:=l);omega
 have:=findIdx_eq_length.1 he x hx;simpa using this
theorem mV[aC prog](l:List oN)(n:bB)(hl:l.length<=1099511627776):Ok prog 213 [.sl .view 2 (l.map uR),.str n] (.gT [.str (aW l n).1,.bool (aW l n).2]):=by
 have hF:=XQ l n hl;by_cases h:l.findIdx (pW n)<l.length
 .rw [aI9 _ _ h]at hF;rw[bg _ _ h];generalize hk:l.findIdx (pW n)=k at*;have hg:=aE h;refine bM aF func213 ntmps213 ?_;have W:=hg;have V:=h;have c0:=hF;refine wl ?_;all_goals try(refine aQ ?_;simp[aP,results213])
  all_goals simp
 .rw [aJa _ _ h]at hF;rw[bn _ _ h];refine bM aF func213 ntmps213 ?_;have c0:=hF;refine iF ?_;all_goals try(refine aQ ?_;simp[aP,results213])
  all_goals simp
theorem JS[aC prog](s:bB)(c:UInt8):OkN prog 258 [.str s,.int .u8 c.toNat] (.int .i64 (ZK c s)):=
 UN (fn:=f258) (by kernel_rfl) (by decide+kernel) rfl (by decide+kernel) (by rfl) s c
end Go.Proofs.YtfbefblglejcaaaGreatDoor
set_option maxRecDepth 4000
set_option maxHeartbeats 400000
namespace Go.Proofs.YtfbefblglejcaaaGreatDoor
open Go.Aw Proofs.Tryz List IntKind
theorem Bc[aC prog](s:bB)(c:UInt8):Ok prog 210 [.str s,.int .u8 c.toNat] (.int .i64 (ZK c s)):=by have h1:=JS s c;refine bM aF func210 ntmps210 ?_;refine iF ?_;exact aD results210
theorem PO[aC prog](s:bB)(c:UInt8):Ok prog 279 [.str s,.str [c]] (.int .i64 (ZK c s)):=by
 have h1:=Bc s c;refine bM aF func279 ntmps279 ?_;have W:=trivial;repeat' first|refine wg ?_|(refine sq ?_ ?_<;>intro hc<;>try exact hc.elim)|fail
 all_goals try(refine aQ ?_;simp[aP,results279])
 all_goals (subst hc;simp[ZK,BG])
theorem xz[aC prog](s:bB)(c:UInt8)(hl:s.length<=1099511627776):Ok prog 260 [.str s,.str [c]] (.gT [.str (s.take (iH c s)),.str (s.drop (iH c s+1)),.bool (decide (iH c s<s.length))]):=by
 have h1:=PO s c;have hle:=vD c s;by_cases h:iH c s<s.length
 .have e:ZK c s=iH c s:=eK h;rw[e]at h1;generalize iH c s=k at*;refine bM aF func260 ntmps260 ?_;have W:=h;refine wl ?_;all_goals try(refine aQ ?_;simp[aP,results260])
  all_goals simp_all
 .have e:ZK c s= -1:=cX h;rw[e]at h1;have e2:iH c s=s.length:=by omega
  rw[e2];refine bM aF func260 ntmps260 ?_;refine iF ?_;all_goals try(refine aQ ?_;simp[aP,results260])
  all_goals simp
theorem zW[aC prog](s:bB)(c:UInt8)(hl:s.length<=1099511627776):Ok prog 212 [.str s,.str [c]] (.gT [.str (s.take (iH c s)),.str (s.drop (iH c s+1)),.bool (decide (iH c s<s.length))]):=by have h1:=xz s c hl;refine bM aF func212 ntmps212 ?_;refine iF ?_;exact aD results212
end Go.Proofs.YtfbefblglejcaaaGreatDoor
set_option maxRecDepth 4000
set_option maxHeartbeats 400000
namespace Go.Proofs.YtfbefblglejcaaaGreatDoor
open Go.Aw Proofs.Tryz List IntKind
theorem aJc{c:UInt8}{n:Nat}(hn:n<256)(h:(c.toNat:Int)=n):c=UInt8.ofNat n:=by
 have:c.toNat=n:=by omega
 rw[<-this];simp
theorem aJd{c:UInt8}{n:Nat}(hn:n<256)(h:¬(c.toNat:Int)=n):c≠UInt8.ofNat n:=by rintro rfl;apply h;simp;omega
theorem Sy{s b:bB}{k:Nat}(h:iH 47 s=k)(hk:k<s.length):addrOf s b=⟨s.take k,s.drop (k+1)⟩:=by subst h;exact eK hk
theorem OT{s b:bB}(h:iH 47 s=s.length):addrOf s b=⟨b,s⟩:=cX (by omega)
theorem zJ[aC prog](s b:bB)(hl:s.length+b.length<=1099511627776):Ok prog 230 [.str s,.str b] (.gT [.agg (aL (bZ s b).1),.bool (bZ s b).2]):=by
 simp only[bZ];refine bM aF func230 ntmps230 ?_;refine iF ?_;refine aO (ι:={k:Nat // k<=s.length/\∀x∈s.take k,x≠47}) (λt o i=>⟨bC t [(7,.int .i64 i.1)],o⟩)
  (λi=>s.length-i.1) ⟨0,by simp,by simp⟩ aJ ?_
 rintro⟨k,hk,hi⟩ K1 hK1;simp only[bC,cW,cU]at hK1⊢;have hk1:=oQ (k:=k);by_cases hlt:k<s.length
 .have hg:=aE hlt;have W:=aA hk1 (aA hg hlt);repeat' first|refine wg ?_|(refine sq ?_ ?_<;>intro hc<;>try exact hc.elim)|fail
  .have e:=Sy (b:=b) (ve hlt (aJc (by decide) hc) hi) hlt;have h1:=rP ⟨s.take k,s.drop (k+1)⟩ (by simp[aR];omega);rw[e];simp only[aL]at h1;have W:=trivial;repeat' first|refine wg ?_|(refine sq ?_ ?_<;>intro hc<;>try exact hc.elim)|fail
   all_goals try(refine aQ ?_;simp[aP,results230,wZ])
   all_goals simp_all[wZ]
  .exact hK1 _ ⟨k+1,by omega,cB hlt hi (aJd (by decide) hc)⟩ aJ (by simp only;omega)
 .have e:=OT (b:=b) (ZJ (iR (by omega) hi));have h1:=rP ⟨b,s⟩ (by simp[aR];omega);rw[e];simp only[aL]at h1;have W:=hk1;repeat' first|refine wg ?_|(refine sq ?_ ?_<;>intro hc<;>try exact hc.elim)|fail
  all_goals try(refine aQ ?_;simp[aP,results230,wZ])
  all_goals simp_all[wZ]
theorem zK[aC prog](s b:bB)(hl:s.length+b.length<=1099511627776):Ok prog 257 [.str s,.str b] (.gT [.agg (aL (bZ s b).1),.bool (bZ s b).2]):=by
 have hC:=zW s 47 (by omega);have hle:=vD 47 s;simp only[bZ];by_cases h:iH 47 s<s.length
 .rw [Sy rfl h];rw[sB h]at hC;generalize iH 47 s=k at*;have h1:=rQ ⟨s.take k,s.drop (k+1)⟩ (by simp[aR];omega);simp only[aL]at h1;refine bM aF func257 ntmps257 ?_;have W:=trivial;repeat' first|refine wg ?_|(refine sq ?_ ?_<;>intro hc<;>try exact hc.elim)|fail
  all_goals try(refine aQ ?_;simp[aP,results257,wZ])
  all_goals simp_all[wZ]
 .have e2:iH 47 s=s.length:=by omega
  rw[OT e2];rw[AF h]at hC;have h1:=rQ ⟨b,s⟩ (by simp[aR];omega);simp only[aL]at h1;refine bM aF func257 ntmps257 ?_;have W:=trivial;repeat' first|refine wg ?_|(refine sq ?_ ?_<;>intro hc<;>try exact hc.elim)|fail
  all_goals try(refine aQ ?_;simp[aP,results257,wZ])
  all_goals simp_all[wZ]
end Go.Proofs.YtfbefblglejcaaaGreatDoor
set_option maxRecDepth 4000
set_option maxHeartbeats 400000
namespace Go.Proofs.YtfbefblglejcaaaGreatDoor
open Go.Aw Proofs.Tryz List IntKind
theorem aJe[aC prog][dL prog](n:Int)(h: -9223372036854775808<=n/\n<=9223372036854775807):Ok prog 308 [.int .i64 n] (.str (Lib.itoa n)):=aI0 Tryz.laysM171 n h.1 h.2
theorem fI[aC prog][dL prog](n:Int)(h: -9223372036854775808<=n/\n<=9223372036854775807):Ok prog 290 [.int .i64 n] (.str (Lib.itoa n)):=by have h1:=aJe n h;refine bM aF func290 ntmps290 ?_;refine iF ?_;exact aD results290
theorem fK[aC prog][dL prog](n:Int)(h: -9223372036854775808<=n/\n<=9223372036854775807):Ok prog 234 [.int .i64 n] (.str (Lib.itoa n)):=by
 by_cases h0:n=0
 .subst h0;refine bM aF func234 ntmps234 ?_;refine iF ?_;all_goals try(refine aQ ?_;simp[aP,results234])
  all_goals exact aAh.symm
 .refine bM aF func234 ntmps234 ?_;have W:=h0;refine wl ?_;refine aO (ι:={p:Int×bB // (-9223372036854775808<=p.1/\p.1<=9223372036854775807)/\JN p.1.natAbs++p.2=JN n.natAbs}) (λt o i=>⟨bC t [(4,.int .i64 i.1.1),(3,.str i.1.2),(5,.undef)],o⟩)
   (λi=>i.1.1.natAbs) ⟨(n,[]),h,by simp⟩ aJ ?_
  rintro⟨⟨x,s⟩,⟨hx1,hx2⟩,hi⟩ K1 hK1;simp only[bC,cW,cU]at hK1 hx1 hx2 hi⊢;have hsl:=As length hi;have hnl:=aEn n h.1 h.2;rw[eR]at hsl;have hs1:1+s.length<=9223372036854775807:=by omega
  have hs2:s.length<=9223372036854775806:=by omega
  clear hsl hnl;by_cases hx:x=0
  .subst hx;have hs:s=JN n.natAbs:=by simpa [JN]using hi
   have W:=aA hs1 hs2;repeat' first|refine wg ?_|(refine sq ?_ ?_<;>intro hc<;>try exact hc.elim)|fail
   .all_goals try(refine aQ ?_;simp[aP,results234])
    exact(itoa_neg (by omega) hs).symm
   .all_goals try(refine aQ ?_;simp[aP,results234])
    exact(aEl h0 (by omega) hs).symm
  .obtain ⟨r,q,hr0,hr9,hq,hq1,hq2,hqa,hr,ht⟩:=vg x hx1 hx2;have hp:=aAg x.natAbs (by omega);have hu8:=aEm (48+r) (by omega) (by omega);have hb:UInt8.ofNat (48+r).toNat=UInt8.ofNat (48+x.natAbs%10):=by congr 1;omega
   have hi2:JN q.natAbs++UInt8.ofNat (48+r).toNat::s=JN n.natAbs:=by rw[<-hi,hp,hqa,hb];simp
   have hm:q.natAbs<x.natAbs:=by omega
   clear hr hb hp;rcases ht with ht|⟨ht,hrp⟩
   .have W:=aA hx (aA ht (aA hq (aA hu8 (aA hs1 hs2))));refine wl ?_;refine hK1 _ ⟨(q,UInt8.ofNat (48+r).toNat::s),⟨hq1,hq2⟩,hi2⟩ (aV 0) (by simp only;omega)
   .have W:=aA hx (aA ht (aA hq (aA hu8 (aA hs1 hs2))));refine wl ?_;refine hK1 _ ⟨(q,UInt8.ofNat (48+r).toNat::s),⟨hq1,hq2⟩,hi2⟩ (aV 0) (by simp only;omega)
end Go.Proofs.YtfbefblglejcaaaGreatDoor
set_option maxRecDepth 4000
set_option maxHeartbeats 4000000
namespace Go.Proofs.YtfbefblglejcaaaGreatDoor
open Go.Aw Proofs.Tryz List IntKind
theorem aAw{c:UInt8}{s:bB}{f i:Nat}(hf:f<=i)(hi:i<s.length)(hc:s[i]=c)(hn:∀x∈(s.take i).drop f,x≠c):dE c (s.drop f)=(s.take i).drop f::dE c (s.drop (i+1)):=by
 have e:s.drop f=(s.take i).drop f++c::s.drop (i+1):=by
  have h1:s=s.take i++s[i]::s.drop (i+1):=by simp
  conv=>lhs;rw[h1]
  rw[drop_append_of_le_length (by simp;omega),hc]
 rw[e,DN c _ _ hn]
theorem aAx{c:UInt8}{s:bB}{f:Nat}(hn:∀x∈(s.take s.length).drop f,x≠c):dE c (s.drop f)=[(s.take s.length).drop f]:=by rw[At]at hn⊢;exact BH c _ hn
theorem aAy{c:UInt8}{s:bB}{f i:Nat}(hf:f<=i)(hi:i<s.length)(hc:s[i]≠c)(hn:∀x∈(s.take i).drop f,x≠c):∀x∈(s.take (i+1)).drop f,x≠c:=by
 rw[eI hi,drop_append_of_le_length (by simp;omega)];intro x hx;rcases fL.1 hx with h|h
 .exact hn x h
 .rw [rI.1 h];exact hc
theorem xB[aC prog](s:bB)(c:UInt8)(hl:s.length<=1099511627776):Ok prog 105 [.str s,.int .u8 c.toNat] (.sl .own 1 ((dE c s).map bW)):=by
 refine bM aF func105 ntmps105 ?_;refine iF ?_;refine aO (ι:={q:Nat×Nat×List bB×Nat // q.1<=s.length+1/\q.2.1<=q.1/\q.2.2.1.length<=q.1/\1<=q.2.2.2/\(q.1<=s.length->dE c s=q.2.2.1++dE c (s.drop q.2.1)/\∀x∈(s.take q.1).drop q.2.1,x≠c)/\(q.1=s.length+1->q.2.2.1=dE c s)})
  (λt o i=>⟨bC t [(7,.int .i64 i.1.1),(6,.int .i64 i.1.2.1),(5,.obj 0 i.1.2.2.2)],[⟨true,false,1,i.1.2.2.2,i.1.2.2.1.map bW⟩]⟩)
  (λi=>s.length+1-i.1.1) ⟨(0,0,[],1),by simp,by simp,by simp,by simp,by simp,by simp⟩ aJ ?_
 rintro⟨⟨k,f,out,v⟩,hk,hf,ho,hv,hin,Ju⟩ K1 hK1;simp only at hk hf ho hv hin Ju;simp only[bC,cW,cU]at hK1⊢;have hk1:=oQ (k:=k);by_cases h1:k=s.length+1
 .have e:=Ju h1;subst e;subst h1;have W:=hk1;refine wl ?_;exact aD results105
 .have hle:k<=s.length:=by omega
  obtain⟨g1,g2⟩:=hin hle;by_cases h2:k=s.length
  .subst h2;have e:=aAx g2;rw[e,At]at g1;have W:=hk1;refine wl ?_;exact hK1 _ ⟨(s.length+1,s.length+1,out++[s.drop f],v+1),by simp only;omega,by simp only;omega,by simp;omega,by simp only;omega,λh=>by simp only at h;omega,λ_=>g1.symm⟩ (aV 1) (by simp only;omega)
  .have hlt:k<s.length:=by omega
   have hg:=aE hlt;have W:=aA hk1 (aA hg hlt);repeat' first|refine wg ?_|(refine sq ?_ ?_<;>intro hc<;>try exact hc.elim)|fail
   .have Ux:s[k]=c:=Cl.1 (by omega);rw[aAw hf hlt Ux g2]at g1;exact hK1 _ ⟨(k+1,k+1,out++[(s.take k).drop f],v+1),by simp only;omega,by simp only;omega,by simp;omega,by simp only;omega,λ_=>⟨by rw[g1];simp,by simp⟩,λh=>by simp only at h;omega⟩ (aV 1) (by simp only;omega)
   .have Ux:s[k]≠c:=λh=>hc (by rw[h])
    exact hK1 _ ⟨(k+1,f,out,v),by simp only;omega,by simp only;omega,by simp only;omega,by simp only;omega,λ_=>⟨g1,aAy hf hlt Ux g2⟩,λh=>by simp only at h;omega⟩ (aV 1) (by simp only;omega)
end Go.Proofs.YtfbefblglejcaaaGreatDoor
set_option maxRecDepth 4000
set_option maxHeartbeats 4000000
namespace Go.Proofs.YtfbefblglejcaaaGreatDoor
open Go.Aw Proofs.Tryz List IntKind
theorem aNi[aC prog](a b:Int):Ok prog 231 [.int .i64 a,.int .i64 b] (.int .i64 (min a b)):=by
 by_cases h:b<a
 .have hr:min a b=b:=by omega
  rw[hr];refine bM aF func231 ntmps231 ?_;have W:=h;refine we ?_;exact aD results231
 .have hr:min a b=a:=by omega
  rw[hr];refine bM aF func231 ntmps231 ?_;have W:=h;refine we ?_;exact aD results231
theorem JZ[aC prog](s:bB)(c:UInt8)(hl:s.length<=1099511627776):Ok prog 120 [.str s,.int .u8 c.toNat] (.int .i64 (iH c s:Nat)):=by
 refine bM aF func120 ntmps120 ?_;refine aY ?_;refine aO (ι:={k:Nat // k<=s.length/\∀x∈s.take k,x≠c}) (λt o i=>⟨bC t [(5,.int .i64 i.1)],o⟩)
  (λi=>s.length-i.1) ⟨0,by simp,by simp⟩ aJ ?_
 rintro⟨k,hk,hi⟩ K1 hK1;simp only[bC,cW,cU]at hK1⊢;have hk1:=oQ (k:=k);by_cases hlt:k<s.length
 .have hg:=aE hlt;have W:=aA hk1 (aA hg hlt);repeat' first|refine wf ?_|(refine sq ?_ ?_<;>intro hc<;>try exact hc.elim)|fail
  .have e:=ve hlt (Cl.1 (by omega)) hi;rw[e];all_goals (try exact aD results120)
  .exact hK1 _ ⟨k+1,by omega,cB hlt hi (λh=>hc (by rw[h]))⟩ aJ (by simp only;omega)
 .have e:=ZJ (iR (by omega) hi);rw[e];have W:=hk1;refine we ?_;exact aD results120
def Cq(p s:bB):Bool:=decide (p.length<=s.length)&&(s.take p.length == p)
theorem Lt[aC prog](s p:bB)(hl:s.length<=1099511627776)(hp:p.length<=1099511627776):Ok prog 240 [.str s,.str p] (.bool (Cq p s)):=by
 by_cases h:p.length<=s.length
 .have hi:(p.length:Int)<=(s.length:Int):=by omega
  have hr:Cq p s=(s.take p.length == p):=by simp[Cq,h]
  rw[hr];refine bM aF func240 ntmps240 ?_;have W:=aA h hi;refine we ?_;exact aD results240
 .have hi:¬(p.length:Int)<=(s.length:Int):=by omega
  have hr:Cq p s=false:=by simp[Cq,h]
  rw[hr];refine bM aF func240 ntmps240 ?_;have W:=aA h hi;refine we ?_;exact aD results240
theorem SE{p s:bB}(h:Cq p s=true):p.length<=s.length:=by simp only[Cq,eJ,fR]at h;exact h.1
theorem Vb[aC prog](s p:bB)(hl:s.length<=1099511627776)(hp:p.length<=1099511627776):Ok prog 259 [.str s,.str p] (.gT [.str (if Cq p s=true then s.drop p.length else s),.bool (Cq p s)]):=by
 have c1:=Lt s p hl hp;have h1:= @SE p s;generalize Cq p s=b at*;cases b
 .refine bM aF func259 ntmps259 ?_;refine aY ?_;exact aD results259
 .have h2:=h1 rfl;refine bM aF func259 ntmps259 ?_;have W:=h2;refine we ?_;exact aD results259
theorem EM[aC prog](s p:bB)(hl:s.length<=1099511627776)(hp:p.length<=1099511627776):Ok prog 211 [.str s,.str p] (.gT [.str (if Cq p s=true then s.drop p.length else s),.bool (Cq p s)]):=by have c1:=Vb s p hl hp;generalize (if Cq p s=true then s.drop p.length else s)=q at*;generalize Cq p s=b at*;refine bM aF func211 ntmps211 ?_;refine aY ?_;exact aD results211
end Go.Proofs.YtfbefblglejcaaaGreatDoor
set_option maxRecDepth 4000
set_option maxHeartbeats 4000000
namespace Go.Proofs.YtfbefblglejcaaaGreatDoor
open Go.Aw Proofs.Tryz List IntKind
def OU(s:bB):AV:=match AJ s with|some v=> .gT [.int .i64 v,.bool true]|none=> .gT [.int .i64 0,.bool false]
theorem vJ{s:bB}(h:AJ s=none):OU s= .gT [.int .i64 0,.bool false]:=by rw[OU,h]
theorem ER{s:bB}{v:Int}(h:AJ s=some v):OU s= .gT [.int .i64 v,.bool true]:=by rw[OU,h]
theorem WC{s:bB}(h:¬(1<=s.length/\s.length<=13)):AJ s=none:=by
 cases hp:AJ s with
 |none=>rfl
 |some v=>obtain⟨m,_,_,hs,hl,_⟩:=Hy hp;have:=Lh m;rw[<-hs]at this;exact absurd ⟨by have:=CH.2 this;omega,hl⟩ h
theorem gy{s:bB}{k:Nat}(hk:k<s.length)(h:¬(48<=s[k].toNat/\s[k].toNat<=57)):AJ s=none:=by
 cases hp:AJ s with
 |none=>rfl
 |some v=>
  obtain⟨m,_,_,hs,hl,hd⟩:=Hy hp;have hd':Lib.decFrom 0 s=some m:=by
   unfold Lib.decNat at hd;split at hd
   .cases hd
   .exact hd
  obtain⟨d,h2⟩:=Lib.digit_of_decFrom s 0 m hd' k s[k] (aE hk);unfold Lib.digitVal at h2;rw[cX h]at h2;cases h2
theorem aFp{s:bB}{m:Nat}(h0:s≠[])(hl:s.length<=13)(h:Lib.decFrom 0 s=some m):AJ s=if m<=1000000000000/\Lib.decDigits m=s then some (m:Int)else none:=by
 have:Lib.decNat s=some m:=by unfold Lib.decNat;rw[cX (by simpa using h0)];exact h
 simp[AJ,this,hl]
theorem aFq(m:Nat):Lib.itoa (m:Int)=Lib.decDigits m:=by unfold Lib.itoa;rw[cX (by omega)];rfl
theorem PT[aC prog][dL prog](s:bB)(hl:s.length<=1099511627776):Ok prog 272 [.str s] (OU s):=by
 have c1:=gI (s.length:Int) 1 13;by_cases h1:1<=s.length/\s.length<=13
 .rw [show(decide ((1:Int)<=(s.length:Int))&&decide ((s.length:Int)<=13))=true by simp;omega]at c1;have h0:s≠[]:=by intro e;rw[e]at h1;simp at h1
  refine bM aF func272 ntmps272 ?_;refine aY ?_;refine aO (ι:={p:Nat×Nat // p.1<=s.length/\Lib.decFrom 0 (s.take p.1)=some p.2}) (λt o i=>⟨bC t [(4,.int .i64 (i.1.2:Int)),(5,.int .i64 (i.1.1:Int))],o⟩)
   (λi=>s.length-i.1.1) ⟨(0,0),by simp,by simp[Lib.decFrom]⟩ aJ ?_
  rintro⟨⟨k,m⟩,⟨hk,hi⟩⟩ K1 hK1;simp only[bC,cW,cU]at hK1 hk hi⊢;have hk1:=oQ (k:=k);have aXk:m<10000000000000:=by have h2:=ZQ hi;have h3:(10:Nat) ^ (s.take k).length<=10 ^ 13:=Nat.pow_le_pow_right (by decide) (by simp;omega);omega
  by_cases hlt:k<s.length
  .have hg:=aE hlt;have c2:=gI (s[k].toNat:Int) 48 57;have hu:s[k].toNat<256:=s[k].toNat_lt;by_cases hd:48<=s[k].toNat/\s[k].toNat<=57
   .have hb:(decide ((48:Int)<=(s[k].toNat:Int))&&decide ((s[k].toNat:Int)<=57))=true:=by simp;omega
    rw[hb]at c2;have hw1:IntKind.u8.wrap ((s[k].toNat:Int)-48)=((s[k].toNat-48:Nat):Int):=by rw[aEm]<;>omega
    have hw2:i64.wrap ((s[k].toNat-48:Nat):Int)=((s[k].toNat-48:Nat):Int):=by rw[wrap64]<;>omega
    have hw3:i64.wrap (10*(m:Int))=((10*m:Nat):Int):=by rw[wrap64]<;>omega
    have hw4:i64.wrap (((10*m:Nat):Int)+((s[k].toNat-48:Nat):Int))=((m*10+(s[k].toNat-48):Nat):Int):=by rw[wrap64]<;>omega
    have hw5:i64.wrap (s[k].toNat:Int)=(s[k].toNat:Int):=by rw[wrap64]<;>omega
    have hn:=Lib.decFrom_take s k 0 m s[k] _ hi hg (show Lib.digitVal s[k]=some (s[k].toNat-48)by unfold Lib.digitVal;rw[eK hd]);have W:=aA hk1 (aA hg (aA hlt (aA hw1 (aA hw2 (aA hw3 (aA hw4 hw5))))));refine we ?_;exact hK1 _ ⟨(k+1,m*10+(s[k].toNat-48)),by simp only;omega,hn⟩ (aJ (by simp) (by simp;try omega)) (by simp only;omega)
   .have hb:(decide ((48:Int)<=(s[k].toNat:Int))&&decide ((s[k].toNat:Int)<=57))=false:=by simp only[tW,rB];omega
    rw[hb]at c2;have hw5:i64.wrap (s[k].toNat:Int)=(s[k].toNat:Int):=by rw[wrap64]<;>omega
    rw[vJ (gy hlt hd)]at*;have W:=aA hk1 (aA hg (aA hlt hw5));refine we ?_;exact aD results272
  .have hke:k=s.length:=by omega
   subst hke;rw[At]at hi;have hp:=aFp h0 h1.2 hi;have c3:=fK (m:Int) (by omega);rw[aFq]at c3;by_cases hm:m<=1000000000000
   .by_cases he:Lib.decDigits m=s
    .rw [eK ⟨hm,he⟩]at hp;rw[ER hp]at*;have hm':¬(1000000000000:Int)<(m:Int):=by omega
     have W:=aA hm' he;refine we ?_;exact aD results272
    .rw [cX (λh=>he h.2)]at hp
     rw[vJ hp]at*;have hm':¬(1000000000000:Int)<(m:Int):=by omega
     have W:=aA hm' he;repeat' first|refine wf ?_|(refine sq ?_ ?_<;>intro hc<;>try exact hc.elim)|fail
     all_goals first
      |exact absurd ‹Lib.decDigits m=s› he
      |skip
     all_goals (try exact aD results272)
   .rw [cX (λh=>hm h.1)]at hp
    rw[vJ hp]at*;have hm':(1000000000000:Int)<(m:Int):=by omega
    have W:=hm';refine we ?_;exact aD results272
 .rw [show(decide ((1:Int)<=(s.length:Int))&&decide ((s.length:Int)<=13))=false by simp only[tW,rB];omega]at c1;rw[vJ (WC h1)];refine bM aF func272 ntmps272 ?_;refine aY ?_;exact aD results272
end Go.Proofs.YtfbefblglejcaaaGreatDoor
set_option maxRecDepth 4000
set_option maxHeartbeats 400000
namespace Go.Proofs.YtfbefblglejcaaaGreatDoor
open Go.Aw Proofs.Tryz List IntKind
theorem Ca{α:Type}(f:α->Bool):∀(l:List α) (j:Nat) (i:Int),i∈places f j l->(j:Int)<=i/\i<j+l.length
 |[],j,i,h=>by simp[places]at h
 |x::xs,j,i,h=>by
  simp only[places]at h;have ih:=Ca f xs (j+1) i;simp only[eN];split at h
  .rcases lB.1 h with rfl|h
   .omega
   .have:=ih h;omega
  .have:=ih h;omega
def fG(m:Int):Int:=if m=1 then 4 else if m=2 then 3 else if m=3 then 2 else if m=4 then 2 else 0
theorem Dc[aC prog](m:Int):Ok prog 122 [.int .i64 m] (.int .i64 (fG m)):=by
 refine bM aF func122 ntmps122 ?_;have W:=trivial;repeat' first|refine wg ?_|(refine sq ?_ ?_<;>intro hc<;>try exact hc.elim)|fail
 all_goals try(refine aQ ?_;simp[aP,results122,fG])
 all_goals simp_all[fG]
theorem De[aC prog](m:Int):Ok prog 215 [.int .i64 m] (.int .i64 (fG m)):=by
 refine bM aF func215 ntmps215 ?_;have W:=trivial;repeat' first|refine wg ?_|(refine sq ?_ ?_<;>intro hc<;>try exact hc.elim)|fail
 all_goals try(refine aQ ?_;simp[aP,results215,fG])
 all_goals simp_all[fG]
def Q5:fV:=⟨0,⟨[],[]⟩,[],[]⟩
def fM(p:aG)(s:pJ):fV:=⟨fG s.mode,s.to,p.addr.host,s.digest⟩
def eG(p:aG)(m:dX):fV:=⟨5,m.to,p.addr.host,[]⟩
def iZ(p:aG)(i:Int):fV:=match p.aB[i.toNat]? with
 |some s=>fM p s
 |none=>Q5
def pF(p:aG)(i:Int):fV:=match p.aN[i.toNat]? with
 |some s=>eG p s
 |none=>Q5
theorem Bf{α:Type}{l:List α}{i:Int}(h0:0<=i)(h1:i<l.length):∃s,l[i.toNat]? =some s:=⟨l[i.toNat]'(by omega),aE _⟩
theorem at_eq{α:Type}{l:List α}{k:Nat}{s:α}(h:k<l.length)(hg:l[k]? =some s):l[k]=s:=by rw[aE h]at hg;exact cQ hg
theorem xE[aC prog](p:aG)(i:Int)(h0:0<=i)(h1:i<p.aB.length)(hl:p.aB.length<=1099511627776):Ok prog 71 [.agg (aH .view p),.int .i64 i] (.agg (dD (iZ p i))):=by
 obtain⟨s,hg⟩:=Bf h0 h1;have e:iZ p i=fM p s:=by simp[iZ,hg]
 rw[e];obtain rfl:p.aB[i.toNat]'(by omega)=s:=at_eq (by omega) hg;have c1:=gI i 0 (p.aB.length-1);rw[show(decide (0<=i)&&decide (i<=(p.aB.length:Int)-1))=true by simp;omega]at c1;have c2:=Dc (p.aB[i.toNat]'(by omega)).mode;refine bM aF func71 ntmps71 ?_;have W:=aA hg (aA h0 h1);refine wl ?_;all_goals try(refine aQ ?_;simp[aP,results71,fM])
theorem xG[aC prog](p:aG)(i:Int)(h0:0<=i)(h1:i<p.aB.length)(hl:p.aB.length<=1099511627776):Ok prog 159 [.agg (aH .view p),.int .i64 i] (.agg (dD (iZ p i))):=by
 obtain⟨s,hg⟩:=Bf h0 h1;have e:iZ p i=fM p s:=by simp[iZ,hg]
 rw[e];obtain rfl:p.aB[i.toNat]'(by omega)=s:=at_eq (by omega) hg;have c2:=De (p.aB[i.toNat]'(by omega)).mode;have n0:¬i<0:=by omega
 have n1:¬(p.aB.length:Int)<=i:=by omega
 refine bM aF func159 ntmps159 ?_;have W:=aA hg (aA h0 (aA h1 (aA n0 n1)));refine wl ?_;all_goals try(refine aQ ?_;simp[aP,results159,fM])
theorem Df[aC prog](p:aG)(i:Int)(h0:0<=i)(h1:i<p.aN.length)(hl:p.aN.length<=1099511627776):Ok prog 73 [.agg (aH .view p),.int .i64 i] (.agg (dD (pF p i))):=by
 obtain⟨s,hg⟩:=Bf h0 h1;have e:pF p i=eG p s:=by simp[pF,hg]
 rw[e];obtain rfl:p.aN[i.toNat]'(by omega)=s:=at_eq (by omega) hg;have c1:=gI i 0 (p.aN.length-1);rw[show(decide (0<=i)&&decide (i<=(p.aN.length:Int)-1))=true by simp;omega]at c1;refine bM aF func73 ntmps73 ?_;have W:=aA hg (aA h0 h1);refine wl ?_;all_goals try(refine aQ ?_;simp[aP,results73,eG])
theorem uU[aC prog](p:aG)(i:Int)(h0:0<=i)(h1:i<p.aN.length)(hl:p.aN.length<=1099511627776):Ok prog 160 [.agg (aH .view p),.int .i64 i] (.agg (dD (pF p i))):=by
 obtain⟨s,hg⟩:=Bf h0 h1;have e:pF p i=eG p s:=by simp[pF,hg]
 rw[e];obtain rfl:p.aN[i.toNat]'(by omega)=s:=at_eq (by omega) hg;have n0:¬i<0:=by omega
 have n1:¬(p.aN.length:Int)<=i:=by omega
 refine bM aF func160 ntmps160 ?_;have W:=aA hg (aA h0 (aA h1 (aA n0 n1)));refine wl ?_;all_goals try(refine aQ ?_;simp[aP,results160,eG])
end Go.Proofs.YtfbefblglejcaaaGreatDoor
set_option maxRecDepth 100000
set_option maxHeartbeats 4000000
namespace Go.Proofs.YtfbefblglejcaaaGreatDoor
open Go.Aw Go.Shelf Go.RowKit Go.Lib Proofs.Tryz List IntKind
theorem Yl(w:World)(b off n c i vb voff vc:Nat)(C Cv:Array Value)(e ev:TypeId)(fz YX:Nat×Nat)(olds news:List Value)(hi:i<n)(hroom:n+1<=c)
  (hb:w.heap[b]? =some (.cells C e fz)) (hz:(C.size<=fz.1/\5=1)\/fz.2=0) (hc:bL w b off olds) (hol:olds.length=n*5) (h1o:∀v∈olds,v.oneCell'=true)
  (hfit:off+c*5<=C.size) (hmax:c<=maxLen) (hne:vb≠b) (hvb:w.heap[vb]? =some (.cells Cv ev YX)) (hzv:(Cv.size<=YX.1/\5=1)\/YX.2=0) (hcv:bL w vb voff news) (hnl:news.length=5) (PY:∀v∈news,v.oneCell'=true):
  Calls prog 267 #[.slice (some ⟨b,off,none⟩) n c,.int .i64 i,.slice (some ⟨vb,voff,none⟩) 1 vc] w λed w'=>∃v b' off' cap' C' e' Uy,ed= .returned v/\Vd w w' b 5 (n+1) (olds.take (i*5)++news++olds.drop (i*5)) v b' off' cap' C' e' Uy:=by
 have hfz:fz.2=0:=by rcases hz with⟨_,h⟩|h;cases h;exact h
 have aRl:YX.2=0:=by rcases hzv with⟨_,h⟩|h;cases h;exact h
 have hC5:C.size≠0:=by omega
 have hfr:∀x,w.frozen? ⟨vb,x,none⟩=false:=λx=>by simp[World.frozen?,hvb,aRl]
 have hz2:¬((i:Int)=(n:Int)):=by omega
 have aGi:c<=9223372036854775807:=hmax;have hov:∀o lb cb,(callFunc 293 #[.slice (some ⟨vb,voff,none⟩) 1 vc,.slice (some ⟨b,o,none⟩) lb cb]).run prog w= .ok (.value (.bool false)) w:=λo lb cb=>by
  rw[run_callFunc_extern func293 (by kernel_rfl) (by kernel_rfl) (by kernel_rfl) (e:=Extern.SlicesOverlaps.overlaps #[63,63] #[4]) (by kernel_rfl),
   Lib.run_overlaps_apart w 63 4 180 Tryz.underlying63 5 Tryz.sizeOf180 ⟨vb,voff,none⟩ ⟨b,o,none⟩ 1 vc lb cb hne ev e Cv.size C.size (by simp[World.shape?,hvb]) (by simp[World.shape?,hb]) hC5 (hfr _) (hfr _)]
  rfl
 have aBl:(olds.drop (i*5)).length=(n-i)*5:=by rw[An,hol];omega
 have hw1:i64.wrap ((i:Int)+1)=(i:Int)+1:=by rw[BT];omega
 have hw2:i64.wrap ((n:Int)+1)=(n:Int)+1:=by rw[BT];omega
 have mixed:prog.follows .mixedOrders=true:=by kernel_rfl
 have hb1:(0:Int)<=(i:Int)+1:=by omega
 have hin:i<=n:=by omega
 have hb2:¬(c=i+1):=by omega
 have hb3:(i:Int)<=(n:Int)+1:=by omega
 have hb4:¬(c=i):=by omega
 obtain⟨inf,Ka,hsz⟩:=tD.1 (show(prog.info? 180).map (·.size)=some 5 by kernel_rfl);obtain⟨W1,hW1⟩:∃W1,W1=w.drew.setCells b (off+(i+1)*5) (olds.drop (i*5)):=⟨_,rfl⟩;have hWh:W1.heap=(w.setCells b (off+(i+1)*5) (olds.drop (i*5))).heap:=by rw[hW1];exact SX _ _ rfl
 have hWs:nS w W1:=by rw[hW1];exact nS.trans (b:=w.drew) ⟨rfl,rfl,rfl⟩ (kJ _ _ _ _)
 have hcp1:∀ty,(Builtin.copy_ #[63,63] ty #[.slice (some ⟨b,off+(i+1)*5,none⟩) (n-i) (c-(i+1)),.slice (some ⟨b,off+i*5,none⟩) (n+1-i) (c-i)]).run prog w.drew= .ok (goInt ((n-i:Nat):Int)) W1:=λty=>by rw[hW1];exact EO Tryz.underlying63 Ka (by simp only[Nat.min_def];split<;>omega) (by rw[aBl,hsz]) (show bL w.drew b (off+i*5) (olds.drop (i*5))from hc.drop) hb hz (by rw[aBl];omega) (λv hv=>h1o v (AN hv))
 obtain⟨C1,dw,LA⟩:=jQ b e fz (olds.drop (i*5)) (off+(i+1)*5) w C hb;rw[<-hWh]at dw;have hcp2:∀ty,(Builtin.copy_ #[63,63] ty #[.slice (some ⟨b,off+i*5,none⟩) (n+1-i) (c-i),.slice (some ⟨vb,voff,none⟩) 1 vc]).run prog W1= .ok (goInt ((1:Nat):Int)) (W1.setCells b (off+i*5) news):=λty=>
  EO Tryz.underlying63 Ka (by simp only[Nat.min_def];split<;>omega) (by rw[hnl,hsz]) (bL.heap (wB hcv (λh=>absurd h hne)) hWh) dw (by rw[LA];exact hz) (by rw[LA];omega) PY
 have fin:∃v b' off' cap' C' e' Uy,Ending.returned (.slice (some ⟨b,off,none⟩) (n+1) c)= .returned v/\Vd w (W1.setCells b (off+i*5) news) b 5 (n+1) (olds.take (i*5)++news++olds.drop (i*5)) v b' off' cap' C' e' Uy:=by obtain⟨C',h⟩:=za (k:=5) (c:=c) hb hz hc hol hnl hi hroom hfit hmax hWh hWs;exact⟨_,_,_,_,_,_,_,rfl,h⟩
 go_enter func267,ntmps267
 go_wp2_with (simp only[hov])
 clear hb hz hc hol h1o hfit hmax hvb hzv hcv hnl PY hfz aRl hC5 hfr hov aBl Ka hsz hW1 hWh hWs dw LA
 go_region_law_o (refine step_copy_runI rfl _ _ 63 63 rfl (.slice (some ⟨b,off+(i+1)*5,none⟩) (n-i) (c-(i+1))) (.slice (some ⟨b,off+i*5,none⟩) (n+1-i) (c-i)) (by simp[Act.eval,Act.put]) (by simp[Act.eval,Act.put]) (hcp1 _) ?_)
 go_wp2_with (at_builtin;refine wpList_copy_runI _ rfl _ _ 63 63 rfl _ _ rfl rfl (hcp2 _) ?_)
 go_ret
 exact fin
theorem jc(w:World)(b off n c i vb voff vc:Nat)(C Cv:Array Value)(e ev:TypeId)(fz YX:Nat×Nat)(olds news:List Value)(hi:i<n)(hroom:c<n+1)(hn:n<=1099511627776)
  (hb:w.heap[b]? =some (.cells C e fz)) (hz:(C.size<=fz.1/\5=1)\/fz.2=0) (hc:bL w b off olds) (hol:olds.length=n*5) (h1o:∀v∈olds,v.oneCell'=true)
  (hfit:off+c*5<=C.size) (hnc:n<=c) (hmax:c<=maxLen) (hne:vb≠b) (hvb:w.heap[vb]? =some (.cells Cv ev YX)) (hzv:(Cv.size<=YX.1/\5=1)\/YX.2=0) (hcv:bL w vb voff news) (hnl:news.length=5) (PY:∀v∈news,v.oneCell'=true):
  Calls prog 267 #[.slice (some ⟨b,off,none⟩) n c,.int .i64 i,.slice (some ⟨vb,voff,none⟩) 1 vc] w λed w'=>∃v b' off' cap' C' e' Uy,ed= .returned v/\Vd w w' b 5 (n+1) (olds.take (i*5)++news++olds.drop (i*5)) v b' off' cap' C' e' Uy:=by
 have hz2:¬((i:Int)=(n:Int)):=by omega
 have hz3:(c:Int)<(n:Int)+1:=by omega
 have hw1:i64.wrap ((i:Int)+1)=(i:Int)+1:=by rw[BT];omega
 have hw2:i64.wrap ((n:Int)+1)=(n:Int)+1:=by rw[BT];omega
 have hw3:i64.wrap ((n:Int)+1-(i:Int))=(n:Int)+1-(i:Int):=by rw[BT];omega
 have mixed:prog.follows .mixedOrders=true:=by kernel_rfl
 have hb1:(0:Int)<=(i:Int)+1:=by omega
 have hin:i<=n:=by omega
 have hic:i<=c:=by omega
 have hb3:(i:Int)<=(n:Int)+1:=by omega
 have hb4:¬(c=i):=by omega
 have hlt:∀{x:Nat} {q},w.heap[x]? =some q->x<w.heap.size:=λh=>(tE.1 h).1
 have aBl:(olds.drop (i*5)).length=(n-i)*5:=by rw[An,hol];omega
 have htl:(olds.take (i*5)).length=i*5:=by rw[oS,hol];omega
 obtain⟨inf,Ka,hq⟩:=tD.1 (show(prog.info? 180).map (λi=>(i.size,i.bytes))=some (5,64)by kernel_rfl);obtain⟨hsz,hby⟩:=Prod.mk.inj hq;obtain⟨z,hz0,hzc⟩:∃z,inf.zero=some z/\z.cells.size=5:=by
  have h:=Tryz.zsz180;simp only[iW,Ka]at h;cases hz:inf.zero with
  |none=>simp[hz]at h
  |some z=>exact⟨z,rfl,by simpa [hz]using h⟩
 obtain⟨G,hG⟩:∃G,G=grownCap w (n+1) c 180:=⟨_,rfl⟩;have hGn:n+1<=G:=by rw[hG];exact grownCap_ge _ _ _ _
 have hGm:G<=maxLen:=by rw[hG];exact DM _ _ _ _ (by simp[maxLen];omega)
 have hG63:G<=9223372036854775807:=hGm;obtain⟨ROW,hROW⟩:∃ROW:Array Value,ROW=(olds.take (i*5)).toArray++Builtin.zeroCells z.cells (n+1-i)++Builtin.zeroCells z.cells (G-(n+1)):=⟨_,rfl⟩;have hRs:ROW.size=G*5:=by rw[hROW];simp only[Array.size_append,size_toArray,size_zeroCells,hzc,htl,<-pZ];congr 1;omega
 have hR:∀(j:Nat) (v:Value),(olds.take (i*5))[j]? =some v->ROW[j]? =some v:=λj v hv=>by rw[hROW,Array.append_assoc,tB (by simpa using(cH.1 hv).1)];simpa using hv
 obtain⟨W1,hW1⟩:∃W1,W1=w.drew.alloc (.cells ROW 180):=⟨_,rfl⟩;have hrz:∀ty,(Builtin.append_ #[63,3] ty #[.slice (some ⟨b,off,none⟩) i c,.int .i64 ((n:Int)+1-(i:Int))]).run prog w= .ok (.slice (some ⟨w.heap.size,0,none⟩) (n+1) G) W1:=λty=>by
  have h:=Lib.run_append_grow_zeros w 63 3 ty 180 inf z .i64 .i64 Tryz.underlying63 Tryz.underlying3 Ka hz0 (some ⟨b,off,none⟩) i c (olds.take (i*5))
   (by rw[hsz];exact kK htl (show bL w.drew b off (olds.take (i*5))from hc.take)) (n+1-i) (by omega) (by omega) (by omega) (by omega) (by rw[hby];omega) (by rw[hby,show i+(n+1-i)=n+1 by omega];exact growslice_fits hroom (by omega))
  rw[show i+(n+1-i)=n+1 by omega,<-hG,<-hROW,<-hW1]at h;rw[show(n:Int)+1-(i:Int)=((n+1-i:Nat):Int)by omega];exact h
 have hN:W1.heap[w.heap.size]? =some (.cells ROW 180 (0,0)):=by rw[hW1];exact fO w.drew _
 have hO:∀x,x<w.heap.size->W1.heap[x]? =w.heap[x]?:=λx hx=>by rw[hW1];exact heap_alloc w.drew _ x hx
 have hs1:nS w W1:=by rw[hW1];exact⟨rfl,rfl,rfl⟩
 obtain⟨W2,hW2⟩:∃W2,W2=W1.setCells w.heap.size (i*5) news:=⟨_,rfl⟩;have hs2:nS W1 W2.drew:=by rw[hW2];exact(kJ _ _ _ _).trans ⟨rfl,rfl,rfl⟩
 have hcp1:∀ty,(Builtin.copy_ #[63,63] ty #[.slice (some ⟨w.heap.size,i*5,none⟩) (n+1-i) (G-i),.slice (some ⟨vb,voff,none⟩) 1 vc]).run prog W1= .ok (goInt ((1:Nat):Int)) W2:=λty=>by rw[hW2];exact EO Tryz.underlying63 Ka (by simp only[Nat.min_def];split<;>omega) (by rw[hnl,hsz]) (hcv.same (hO _ (hlt hvb))) hN (q:=True) (.inr rfl) (by omega) PY
 obtain⟨C1,dw,LA⟩:=jQ w.heap.size 180 (0,0) news (i*5) W1 ROW hN;rw[<-hW2]at dw;have hcp2:∀ty,(Builtin.copy_ #[63,63] ty #[.slice (some ⟨w.heap.size,(i+1)*5,none⟩) (n-i) (G-(i+1)),.slice (some ⟨b,off+i*5,none⟩) (n-i) (c-i)]).run prog W2.drew= .ok (goInt ((n-i:Nat):Int)) (W2.drew.setCells w.heap.size ((i+1)*5) (olds.drop (i*5))):=λty=>
  EO (w:=W2.drew) Tryz.underlying63 Ka (by simp only[Nat.min_def];split<;>omega) (by rw[aBl,hsz]) (show bL W2.drew b (off+i*5) (olds.drop (i*5))from by
   refine bL.heap (w:=W2) ?_ rfl;rw[hW2];exact wB (hc.drop.same (hO _ (hlt hb))) (λh=>absurd h (by have:=hlt hb;omega))) (show W2.drew.heap[w.heap.size]? =_ from dw) (q:=True) (.inr rfl) (by rw[LA];omega) (λv hv=>h1o v (AN hv))
 have fin:∃v b' off' cap' C' e' Uy,Ending.returned (.slice (some ⟨w.heap.size,0,none⟩) (n+1) G)= .returned v/\Vd w (W2.drew.setCells w.heap.size ((i+1)*5) (olds.drop (i*5))) b 5 (n+1) (olds.take (i*5)++news++olds.drop (i*5)) v b' off' cap' C' e' Uy:=by obtain⟨C',h⟩:=aA7 (k:=5) (b:=b) (cap:=G) hol hnl hi hR (by omega) hGn hGm hN hO hs1 (show W2.drew.heap=_ by rw[hW2];rfl) hs2;exact⟨_,_,_,_,_,_,_,rfl,h⟩
 have hG4:¬(G=i):=by omega
 have hG5:¬(G=i+1):=by omega
 clear hb hz hc hol h1o hfit hmax hvb hzv hcv hnl PY aBl htl Ka hq hsz hby hz0 hzc hG hROW hRs hR hW1 hN hO hs1 hW2 hs2 dw LA hlt
 go_enter func267,ntmps267
 go_wp2_with (first
  |(at_builtin;refine Lib.wpList_append_run _ rfl _ _ _ _ rfl _ _ rfl rfl _ _ (hrz _) ?_)
  |(at_builtin;refine wpList_copy_runI _ rfl _ _ 63 63 rfl _ _ rfl rfl (hcp1 _) ?_))
 go_region_law_o (refine step_copy_runI rfl _ _ 63 63 rfl (.slice (some ⟨w.heap.size,(i+1)*5,none⟩) (n-i) (G-(i+1))) (.slice (some ⟨b,off+i*5,none⟩) (n-i) (c-i)) (by simp[Act.eval,Act.put]) (by simp[Act.eval,Act.put]) (hcp2 _) ?_)
 go_wp2
 go_ret
 exact fin
theorem Jj(w:World)(base:Option Addr)(n c vb voff vc:Nat)(v':Value)(w':World)(Q:Ending->World->Prop)(hnc:n<=c)(hmax:c<=9223372036854775807)(hnil:base=none->n=0)
  (hrun:∀ty,(Builtin.append_ #[63,63] ty #[.slice base n c,.slice (some ⟨vb,voff,none⟩) 1 vc]).run prog w= .ok v' w') (fin:Q (.returned v') w'):
  Calls prog 267 #[.slice base n c,.int .i64 n,.slice (some ⟨vb,voff,none⟩) 1 vc] w Q:=by
 have mixed:prog.follows .mixedOrders=true:=by kernel_rfl
 go_enter func267,ntmps267
 cases base with
 |none=>
  have h0:=hnil rfl;subst h0
  go_wp2_with (at_builtin;refine Lib.wpList_append_run _ rfl _ _ _ _ rfl _ _ rfl rfl _ _ (hrun _) ?_)
  exact fin
 |some a=>
  obtain⟨ab,ao,asp⟩:=a
  go_wp2_with (at_builtin;refine Lib.wpList_append_run _ rfl _ _ _ _ rfl _ _ rfl rfl _ _ (hrun _) ?_)
  all_goals exact fin
end Go.Proofs.YtfbefblglejcaaaGreatDoor
