/- Proved here: steps towards the statement of this claim. No condition. -/
import Derived.Test.YthddijamfbfibaaGreatDoorZQA0
import Derived.Test.YthddijamfbfibaaGreatDoorZYShelf
import Derived.Test.YthddijamfbfibaaGreatDoorZYShelf2
import Derived.Test.YthddijamfbfibaaGreatDoorZF7
import Derived.Shelf.Spec.SlicesInsertGrow
set_option linter.all false
set_option maxRecDepth 4000
set_option maxHeartbeats 400000
namespace Go.Proofs.YthddijamfbfibaaGreatDoor
open Go.Aw Proofs.Tryz List IntKind
theorem lF[aB prog](l:List oU)(n:bB)(hl:l.length<=1099511627776):Ok prog 195 [.sl .view 2 (l.map uX),.str n] (.gM [.str (aW l n).1,.bool (aW l n).2]):=by
 refine bM aG func195 ntmps195 ?_;refine gV ?_;refine aM (ι:={k:Nat // k<=l.length/\∀x∈l.take k,qF n x=false}) (λt o i=>⟨bC t [(6,.int .i64 i.1)],o⟩)
  (λi=>l.length-i.1) ⟨0,by simp,by simp⟩ aK ?_
 rintro⟨k,hk,hi⟩ K1 hK1;simp only[bC,cW,cU]at hK1⊢;have hk1:=oQ (k:=k);by_cases hlt:k<l.length
 .have hg:=aE hlt;have W:=aA hk1 (aA hg hlt);repeat' first|refine wg ?_|(refine sq ?_ ?_<;>intro hc<;>try exact hc.elim)|fail
  .all_goals try(refine aR ?_;simp[aP,results195])
   rw[Pn hlt (by simpa [qF]using hc) hi];simp
  .exact hK1 _ ⟨k+1,by omega,bZ hlt hi (by simpa [qF]using hc)⟩ aK (by simp only;omega)
 .have W:=hk1;refine wl ?_;all_goals try(refine aR ?_;simp[aP,results195])
  rw[Jj (iW (by omega) hi)];simp
theorem aGl[aB prog](g:oU)(n:bB):Ok prog 283 [.agg (uX g),.eU .view [.str n] 0] (.bool (qF n g)):=by
 refine bM aG func283 ntmps283 ?_;refine gV ?_;all_goals try(refine aR ?_;simp[aP,results283])
 rw[Bool.eq_iff_iff];simp[qF]
theorem Zc[aB prog](l:List oU)(n:bB)(hl:l.length<=1099511627776):Ok prog 282 [.sl .view 2 (l.map uX),.fn 283 [.eU .view [.str n] 0]] (.int .i64 (qO (qF n) l)):=by
 refine bM aG func282 ntmps282 ?_;refine gV ?_;refine aM (ι:={k:Nat // k<=l.length/\∀x∈l.take k,qF n x=false}) (λt o i=>⟨bC t [(8,.int .i64 i.1),(5,.undef)],o⟩)
  (λi=>l.length-i.1) ⟨0,by simp,by simp⟩ aK ?_
 rintro⟨k,hk,hi⟩ K1 hK1;simp only[bC,cW,cU]at hK1⊢;have hk1:=oQ (k:=k);by_cases hlt:k<l.length
 .have hg:=aE hlt;have W:=aA hk1 (aA hg hlt);have c0:=aGl l[k] n;repeat' first|refine wg ?_|(refine sq ?_ ?_<;>intro hc<;>try exact hc.elim)|fail
  .all_goals try(refine aR ?_;simp[aP,results282])
   rw[uY hlt (by simpa using hc) hi]
  .exact hK1 _ ⟨k+1,by omega,bZ hlt hi (by simpa using hc)⟩ aK (by simp only;omega)
 .have W:=hk1;refine wl ?_;all_goals try(refine aR ?_;simp[aP,results282])
  rw[nN (iW (by omega) hi)]
theorem aK8{α:Type}(f:α->Bool)(l:List α)(h:l.findIdx f<l.length):qO f l=(l.findIdx f:Nat):=by unfold qO;rw[eK];exact any_eq_true.2 ⟨_,fS h,findIdx_getElem (w:=h)⟩
theorem aK9{α:Type}(f:α->Bool)(l:List α)(h:¬l.findIdx f<l.length):qO f l= -1:=by
 refine nN λx hx=> ?_
 have he:l.findIdx f=l.length:=by have:=findIdx_le_length (p:=f) (xs:=l);omega
 have:=findIdx_eq_length.1 he x hx;simpa using this
theorem kg(l:List oU)(n:bB)(h:l.findIdx (qF n)<l.length):aW l n=(l[l.findIdx (qF n)].value,true):=by
 refine Pn h (findIdx_getElem (w:=h)) ?_;intro x hx;obtain⟨i,hi,rfl⟩:=FG hx;have hi':i<l.findIdx (qF n):=by have:=hi;simp at this;omega
 rw[getElem_take];have:=not_of_lt_findIdx (p:=(qF n)) (xs:=l) hi';simpa using this
theorem ko(l:List oU)(n:bB)(h:¬l.findIdx (qF n)<l.length):aW l n=([],false):=by
 refine Jj λx hx=> ?_
 have he:l.findIdx (qF n)=l.length:=by have:=findIdx_le_length (p:=qF n) (xs:=l);omega
 have:=findIdx_eq_length.1 he x hx;simpa using this
theorem nD[aB prog](l:List oU)(n:bB)(hl:l.length<=1099511627776):Ok prog 224 [.sl .view 2 (l.map uX),.str n] (.gM [.str (aW l n).1,.bool (aW l n).2]):=by
 have hF:=Zc l n hl;by_cases h:l.findIdx (qF n)<l.length
 .rw [aK8 _ _ h]at hF;rw[kg _ _ h];generalize hk:l.findIdx (qF n)=k at*;have hg:=aE h;refine bM aG func224 ntmps224 ?_;have W:=hg;have V:=h;have c0:=hF;refine wl ?_;all_goals try(refine aR ?_;simp[aP,results224])
  all_goals simp
 .rw [aK9 _ _ h]at hF;rw[ko _ _ h];refine bM aG func224 ntmps224 ?_;have c0:=hF;refine gV ?_;all_goals try(refine aR ?_;simp[aP,results224])
  all_goals simp
theorem Km[aB prog](s:bB)(c:UInt8):OkN prog 279 [.str s,.int .u8 c.toNat] (.int .i64 (gy c s)):=
 VT (fn:=f279) (by kernel_rfl) (by decide+kernel) rfl (by decide+kernel) (by rfl) s c
end Go.Proofs.YthddijamfbfibaaGreatDoor
set_option maxRecDepth 4000
set_option maxHeartbeats 400000
namespace Go.Proofs.YthddijamfbfibaaGreatDoor
open Go.Aw Proofs.Tryz List IntKind
theorem Bo[aB prog](s:bB)(c:UInt8):Ok prog 221 [.str s,.int .u8 c.toNat] (.int .i64 (gy c s)):=by have h1:=Km s c;refine bM aG func221 ntmps221 ?_;refine gV ?_;exact aF results221
theorem Qn[aB prog](s:bB)(c:UInt8):Ok prog 305 [.str s,.str [c]] (.int .i64 (gy c s)):=by
 have h1:=Bo s c;refine bM aG func305 ntmps305 ?_;have W:=trivial;repeat' first|refine wg ?_|(refine sq ?_ ?_<;>intro hc<;>try exact hc.elim)|fail
 all_goals try(refine aR ?_;simp[aP,results305])
 all_goals (subst hc;simp[gy,BS])
theorem F5[aB prog](s:bB)(c:UInt8)(hl:s.length<=1099511627776):Ok prog 281 [.str s,.str [c]] (.gM [.str (s.take (iK c s)),.str (s.drop (iK c s+1)),.bool (decide (iK c s<s.length))]):=by
 have h1:=Qn s c;have hle:=vI c s;by_cases h:iK c s<s.length
 .have e:gy c s=iK c s:=eK h;rw[e]at h1;generalize iK c s=k at*;refine bM aG func281 ntmps281 ?_;have W:=h;refine wl ?_;all_goals try(refine aR ?_;simp[aP,results281])
  all_goals simp_all
 .have e:gy c s= -1:=cY h;rw[e]at h1;have e2:iK c s=s.length:=by omega
  rw[e2];refine bM aG func281 ntmps281 ?_;refine gV ?_;all_goals try(refine aR ?_;simp[aP,results281])
  all_goals simp
theorem Ab[aB prog](s:bB)(c:UInt8)(hl:s.length<=1099511627776):Ok prog 223 [.str s,.str [c]] (.gM [.str (s.take (iK c s)),.str (s.drop (iK c s+1)),.bool (decide (iK c s<s.length))]):=by have h1:=F5 s c hl;refine bM aG func223 ntmps223 ?_;refine gV ?_;exact aF results223
end Go.Proofs.YthddijamfbfibaaGreatDoor
set_option maxRecDepth 4000
set_option maxHeartbeats 400000
namespace Go.Proofs.YthddijamfbfibaaGreatDoor
open Go.Aw Proofs.Tryz List IntKind
theorem aLb{c:UInt8}{n:Nat}(hn:n<256)(h:(c.toNat:Int)=n):c=UInt8.ofNat n:=by
 have:c.toNat=n:=by omega
 rw[<-this];simp
theorem aLc{c:UInt8}{n:Nat}(hn:n<256)(h:¬(c.toNat:Int)=n):c≠UInt8.ofNat n:=by rintro rfl;apply h;simp;omega
theorem Tq{s b:bB}{k:Nat}(h:iK 47 s=k)(hk:k<s.length):addrOf s b=⟨s.take k,s.drop (k+1)⟩:=by subst h;exact eK hk
theorem Pw{s b:bB}(h:iK 47 s=s.length):addrOf s b=⟨b,s⟩:=cY (by omega)
theorem zO[aB prog](s b:bB)(hl:s.length+b.length<=1099511627776):Ok prog 252 [.str s,.str b] (.gM [.agg (aH (bY s b).1),.bool (bY s b).2]):=by
 simp only[bY];refine bM aG func252 ntmps252 ?_;refine gV ?_;refine aM (ι:={k:Nat // k<=s.length/\∀x∈s.take k,x≠47}) (λt o i=>⟨bC t [(7,.int .i64 i.1)],o⟩)
  (λi=>s.length-i.1) ⟨0,by simp,by simp⟩ aK ?_
 rintro⟨k,hk,hi⟩ K1 hK1;simp only[bC,cW,cU]at hK1⊢;have hk1:=oQ (k:=k);by_cases hlt:k<s.length
 .have hg:=aE hlt;have W:=aA hk1 (aA hg hlt);repeat' first|refine wg ?_|(refine sq ?_ ?_<;>intro hc<;>try exact hc.elim)|fail
  .have e:=Tq (b:=b) (zm hlt (aLb (by decide) hc) hi) hlt;have h1:=rW ⟨s.take k,s.drop (k+1)⟩ (by simp[aQ];omega);rw[e];simp only[aH]at h1;have W:=trivial;repeat' first|refine wg ?_|(refine sq ?_ ?_<;>intro hc<;>try exact hc.elim)|fail
   all_goals try(refine aR ?_;simp[aP,results252,xD])
   all_goals simp_all[xD]
  .exact hK1 _ ⟨k+1,by omega,bZ hlt hi (aLc (by decide) hc)⟩ aK (by simp only;omega)
 .have e:=Pw (b:=b) (gu (iW (by omega) hi));have h1:=rW ⟨b,s⟩ (by simp[aQ];omega);rw[e];simp only[aH]at h1;have W:=hk1;repeat' first|refine wg ?_|(refine sq ?_ ?_<;>intro hc<;>try exact hc.elim)|fail
  all_goals try(refine aR ?_;simp[aP,results252,xD])
  all_goals simp_all[xD]
theorem zP[aB prog](s b:bB)(hl:s.length+b.length<=1099511627776):Ok prog 278 [.str s,.str b] (.gM [.agg (aH (bY s b).1),.bool (bY s b).2]):=by
 have hC:=Ab s 47 (by omega);have hle:=vI 47 s;simp only[bY];by_cases h:iK 47 s<s.length
 .rw [Tq rfl h];rw[tA h]at hC;generalize iK 47 s=k at*;have h1:=rX ⟨s.take k,s.drop (k+1)⟩ (by simp[aQ];omega);simp only[aH]at h1;refine bM aG func278 ntmps278 ?_;have W:=trivial;repeat' first|refine wg ?_|(refine sq ?_ ?_<;>intro hc<;>try exact hc.elim)|fail
  all_goals try(refine aR ?_;simp[aP,results278,xD])
  all_goals simp_all[xD]
 .have e2:iK 47 s=s.length:=by omega
  rw[Pw e2];rw[AM h]at hC;have h1:=rX ⟨b,s⟩ (by simp[aQ];omega);simp only[aH]at h1;refine bM aG func278 ntmps278 ?_;have W:=trivial;repeat' first|refine wg ?_|(refine sq ?_ ?_<;>intro hc<;>try exact hc.elim)|fail
  all_goals try(refine aR ?_;simp[aP,results278,xD])
  all_goals simp_all[xD]
end Go.Proofs.YthddijamfbfibaaGreatDoor
set_option maxRecDepth 4000
set_option maxHeartbeats 400000
namespace Go.Proofs.YthddijamfbfibaaGreatDoor
open Go.Aw Proofs.Tryz List IntKind
theorem aLd[aB prog][dM prog](n:Int)(h: -9223372036854775808<=n/\n<=9223372036854775807):Ok prog 334 [.int .i64 n] (.str (Lib.itoa n)):=aKz Tryz.laysM171 n h.1 h.2
theorem fI[aB prog][dM prog](n:Int)(h: -9223372036854775808<=n/\n<=9223372036854775807):Ok prog 316 [.int .i64 n] (.str (Lib.itoa n)):=by have h1:=aLd n h;refine bM aG func316 ntmps316 ?_;refine gV ?_;exact aF results316
theorem fK[aB prog][dM prog](n:Int)(h: -9223372036854775808<=n/\n<=9223372036854775807):Ok prog 255 [.int .i64 n] (.str (Lib.itoa n)):=by
 by_cases h0:n=0
 .subst h0;refine bM aG func255 ntmps255 ?_;refine gV ?_;all_goals try(refine aR ?_;simp[aP,results255])
  all_goals exact aBx.symm
 .refine bM aG func255 ntmps255 ?_;have W:=h0;refine wl ?_;refine aM (ι:={p:Int×bB // (-9223372036854775808<=p.1/\p.1<=9223372036854775807)/\Kh p.1.natAbs++p.2=Kh n.natAbs}) (λt o i=>⟨bC t [(4,.int .i64 i.1.1),(3,.str i.1.2),(5,.undef)],o⟩)
   (λi=>i.1.1.natAbs) ⟨(n,[]),h,by simp⟩ aK ?_
  rintro⟨⟨x,s⟩,⟨hx1,hx2⟩,hi⟩ K1 hK1;simp only[bC,cW,cU]at hK1 hx1 hx2 hi⊢;have hsl:=zE length hi;have hnl:=aF4 n h.1 h.2;rw[eR]at hsl;have hs1:1+s.length<=9223372036854775807:=by omega
  have hs2:s.length<=9223372036854775806:=by omega
  clear hsl hnl;by_cases hx:x=0
  .subst hx;have hs:s=Kh n.natAbs:=by simpa [Kh]using hi
   have W:=aA hs1 hs2;repeat' first|refine wg ?_|(refine sq ?_ ?_<;>intro hc<;>try exact hc.elim)|fail
   .all_goals try(refine aR ?_;simp[aP,results255])
    exact(itoa_neg (by omega) hs).symm
   .all_goals try(refine aR ?_;simp[aP,results255])
    exact(aF2 h0 (by omega) hs).symm
  .obtain ⟨r,q,hr0,hr9,hq,hq1,hq2,hqa,hr,ht⟩:=zn x hx1 hx2;have hp:=aBw x.natAbs (by omega);have hu8:=aF3 (48+r) (by omega) (by omega);have hb:UInt8.ofNat (48+r).toNat=UInt8.ofNat (48+x.natAbs%10):=by congr 1;omega
   have hi2:Kh q.natAbs++UInt8.ofNat (48+r).toNat::s=Kh n.natAbs:=by rw[<-hi,hp,hqa,hb];simp
   have hm:q.natAbs<x.natAbs:=by omega
   clear hr hb hp;rcases ht with ht|⟨ht,hrp⟩
   .have W:=aA hx (aA ht (aA hq (aA hu8 (aA hs1 hs2))));refine wl ?_;refine hK1 _ ⟨(q,UInt8.ofNat (48+r).toNat::s),⟨hq1,hq2⟩,hi2⟩ (aT 0) (by simp only;omega)
   .have W:=aA hx (aA ht (aA hq (aA hu8 (aA hs1 hs2))));refine wl ?_;refine hK1 _ ⟨(q,UInt8.ofNat (48+r).toNat::s),⟨hq1,hq2⟩,hi2⟩ (aT 0) (by simp only;omega)
end Go.Proofs.YthddijamfbfibaaGreatDoor
set_option maxRecDepth 4000
set_option maxHeartbeats 4000000
namespace Go.Proofs.YthddijamfbfibaaGreatDoor
open Go.Aw Proofs.Tryz List IntKind
theorem aCc{c:UInt8}{s:bB}{f i:Nat}(hf:f<=i)(hi:i<s.length)(hc:s[i]=c)(hn:∀x∈(s.take i).drop f,x≠c):dE c (s.drop f)=(s.take i).drop f::dE c (s.drop (i+1)):=by
 have e:s.drop f=(s.take i).drop f++c::s.drop (i+1):=by
  have h1:s=s.take i++s[i]::s.drop (i+1):=by simp
  conv=>lhs;rw[h1]
  rw[drop_append_of_le_length (by simp;omega),hc]
 rw[e,Ed c _ _ hn]
theorem aCd{c:UInt8}{s:bB}{f:Nat}(hn:∀x∈(s.take s.length).drop f,x≠c):dE c (s.drop f)=[(s.take s.length).drop f]:=by rw[vA]at hn⊢;exact BU c _ hn
theorem aCe{c:UInt8}{s:bB}{f i:Nat}(hf:f<=i)(hi:i<s.length)(hc:s[i]≠c)(hn:∀x∈(s.take i).drop f,x≠c):∀x∈(s.take (i+1)).drop f,x≠c:=by
 rw[eJ hi,drop_append_of_le_length (by simp;omega)];intro x hx;rcases eW.1 hx with h|h
 .exact hn x h
 .rw [rS.1 h];exact hc
theorem xG[aB prog](s:bB)(c:UInt8)(hl:s.length<=1099511627776):Ok prog 115 [.str s,.int .u8 c.toNat] (.sl .own 1 ((dE c s).map dC)):=by
 refine bM aG func115 ntmps115 ?_;refine gV ?_;refine aM (ι:={q:Nat×Nat×List bB×Nat // q.1<=s.length+1/\q.2.1<=q.1/\q.2.2.1.length<=q.1/\1<=q.2.2.2/\(q.1<=s.length->dE c s=q.2.2.1++dE c (s.drop q.2.1)/\∀x∈(s.take q.1).drop q.2.1,x≠c)/\(q.1=s.length+1->q.2.2.1=dE c s)})
  (λt o i=>⟨bC t [(7,.int .i64 i.1.1),(6,.int .i64 i.1.2.1),(5,.obj 0 i.1.2.2.2)],[⟨true,false,1,i.1.2.2.2,i.1.2.2.1.map dC⟩]⟩)
  (λi=>s.length+1-i.1.1) ⟨(0,0,[],1),by simp,by simp,by simp,by simp,by simp,by simp⟩ aK ?_
 rintro⟨⟨k,f,out,v⟩,hk,hf,ho,hv,hin,JK⟩ K1 hK1;simp only at hk hf ho hv hin JK;simp only[bC,cW,cU]at hK1⊢;have hk1:=oQ (k:=k);by_cases h1:k=s.length+1
 .have e:=JK h1;subst e;subst h1;have W:=hk1;refine wl ?_;exact aF results115
 .have hle:k<=s.length:=by omega
  obtain⟨g1,g2⟩:=hin hle;by_cases h2:k=s.length
  .subst h2;have e:=aCd g2;rw[e,vA]at g1;have W:=hk1;refine wl ?_;exact hK1 _ ⟨(s.length+1,s.length+1,out++[s.drop f],v+1),by simp only;omega,by simp only;omega,by simp;omega,by simp only;omega,λh=>by simp only at h;omega,λ_=>g1.symm⟩ (aT 1) (by simp only;omega)
  .have hlt:k<s.length:=by omega
   have hg:=aE hlt;have W:=aA hk1 (aA hg hlt);repeat' first|refine wg ?_|(refine sq ?_ ?_<;>intro hc<;>try exact hc.elim)|fail
   .have VD:s[k]=c:=CD.1 (by omega);rw[aCc hf hlt VD g2]at g1;exact hK1 _ ⟨(k+1,k+1,out++[(s.take k).drop f],v+1),by simp only;omega,by simp only;omega,by simp;omega,by simp only;omega,λ_=>⟨by rw[g1];simp,by simp⟩,λh=>by simp only at h;omega⟩ (aT 1) (by simp only;omega)
   .have VD:s[k]≠c:=λh=>hc (by rw[h])
    exact hK1 _ ⟨(k+1,f,out,v),by simp only;omega,by simp only;omega,by simp only;omega,by simp only;omega,λ_=>⟨g1,aCe hf hlt VD g2⟩,λh=>by simp only at h;omega⟩ (aT 1) (by simp only;omega)
end Go.Proofs.YthddijamfbfibaaGreatDoor
set_option maxRecDepth 4000
set_option maxHeartbeats 4000000
namespace Go.Proofs.YthddijamfbfibaaGreatDoor
open Go.Aw Proofs.Tryz List IntKind
theorem aGz[aB prog](a b:Int):Ok prog 20 [.int .i64 a,.int .i64 b] (.int .i64 (min a b)):=by
 by_cases h:b<a
 .have hr:min a b=b:=by omega
  rw[hr];refine bM aG func20 ntmps20 ?_;have W:=h;refine we ?_;exact aF results20
 .have hr:min a b=a:=by omega
  rw[hr];refine bM aG func20 ntmps20 ?_;have W:=h;refine we ?_;exact aF results20
theorem Ku[aB prog](s:bB)(c:UInt8)(hl:s.length<=1099511627776):Ok prog 130 [.str s,.int .u8 c.toNat] (.int .i64 (iK c s:Nat)):=by
 refine bM aG func130 ntmps130 ?_;refine aZ ?_;refine aM (ι:={k:Nat // k<=s.length/\∀x∈s.take k,x≠c}) (λt o i=>⟨bC t [(5,.int .i64 i.1)],o⟩)
  (λi=>s.length-i.1) ⟨0,by simp,by simp⟩ aK ?_
 rintro⟨k,hk,hi⟩ K1 hK1;simp only[bC,cW,cU]at hK1⊢;have hk1:=oQ (k:=k);by_cases hlt:k<s.length
 .have hg:=aE hlt;have W:=aA hk1 (aA hg hlt);repeat' first|refine wf ?_|(refine sq ?_ ?_<;>intro hc<;>try exact hc.elim)|fail
  .have e:=zm hlt (CD.1 (by omega)) hi;rw[e];all_goals (try exact aF results130)
  .exact hK1 _ ⟨k+1,by omega,bZ hlt hi (λh=>hc (by rw[h]))⟩ aK (by simp only;omega)
 .have e:=gu (iW (by omega) hi);rw[e];have W:=hk1;refine we ?_;exact aF results130
def CJ(p s:bB):Bool:=decide (p.length<=s.length)&&(s.take p.length == p)
theorem LP[aB prog](s p:bB)(hl:s.length<=1099511627776)(hp:p.length<=1099511627776):Ok prog 261 [.str s,.str p] (.bool (CJ p s)):=by
 by_cases h:p.length<=s.length
 .have hi:(p.length:Int)<=(s.length:Int):=by omega
  have hr:CJ p s=(s.take p.length == p):=by simp[CJ,h]
  rw[hr];refine bM aG func261 ntmps261 ?_;have W:=aA h hi;refine we ?_;exact aF results261
 .have hi:¬(p.length:Int)<=(s.length:Int):=by omega
  have hr:CJ p s=false:=by simp[CJ,h]
  rw[hr];refine bM aG func261 ntmps261 ?_;have W:=aA h hi;refine we ?_;exact aF results261
theorem Tx{p s:bB}(h:CJ p s=true):p.length<=s.length:=by simp only[CJ,eI,fN]at h;exact h.1
theorem Wj[aB prog](s p:bB)(hl:s.length<=1099511627776)(hp:p.length<=1099511627776):Ok prog 280 [.str s,.str p] (.gM [.str (if CJ p s=true then s.drop p.length else s),.bool (CJ p s)]):=by
 have c1:=LP s p hl hp;have h1:= @Tx p s;generalize CJ p s=b at*;cases b
 .refine bM aG func280 ntmps280 ?_;refine aZ ?_;exact aF results280
 .have h2:=h1 rfl;refine bM aG func280 ntmps280 ?_;have W:=h2;refine we ?_;exact aF results280
theorem Fb[aB prog](s p:bB)(hl:s.length<=1099511627776)(hp:p.length<=1099511627776):Ok prog 222 [.str s,.str p] (.gM [.str (if CJ p s=true then s.drop p.length else s),.bool (CJ p s)]):=by have c1:=Wj s p hl hp;generalize (if CJ p s=true then s.drop p.length else s)=q at*;generalize CJ p s=b at*;refine bM aG func222 ntmps222 ?_;refine aZ ?_;exact aF results222
end Go.Proofs.YthddijamfbfibaaGreatDoor
set_option maxRecDepth 4000
set_option maxHeartbeats 4000000
namespace Go.Proofs.YthddijamfbfibaaGreatDoor
open Go.Aw Proofs.Tryz List IntKind
def Px(s:bB):AV:=match Ba s with|some v=> .gM [.int .i64 v,.bool true]|none=> .gM [.int .i64 0,.bool false]
theorem vO{s:bB}(h:Ba s=none):Px s= .gM [.int .i64 0,.bool false]:=by rw[Px,h]
theorem Fh{s:bB}{v:Int}(h:Ba s=some v):Px s= .gM [.int .i64 v,.bool true]:=by rw[Px,h]
theorem XQ{s:bB}(h:¬(1<=s.length/\s.length<=13)):Ba s=none:=by
 cases hp:Ba s with
 |none=>rfl
 |some v=>obtain⟨m,_,_,hs,hl,_⟩:=Iq hp;have:=LC m;rw[<-hs]at this;exact absurd ⟨by have:=Dg.2 this;omega,hl⟩ h
theorem nz{s:bB}{k:Nat}(hk:k<s.length)(h:¬(48<=s[k].toNat/\s[k].toNat<=57)):Ba s=none:=by
 cases hp:Ba s with
 |none=>rfl
 |some v=>
  obtain⟨m,_,_,hs,hl,hd⟩:=Iq hp;have hd':Lib.decFrom 0 s=some m:=by
   unfold Lib.decNat at hd;split at hd
   .cases hd
   .exact hd
  obtain⟨d,h2⟩:=Lib.digit_of_decFrom s 0 m hd' k s[k] (aE hk);unfold Lib.digitVal at h2;rw[cY h]at h2;cases h2
theorem aHa{s:bB}{m:Nat}(h0:s≠[])(hl:s.length<=13)(h:Lib.decFrom 0 s=some m):Ba s=if m<=1000000000000/\Lib.decDigits m=s then some (m:Int)else none:=by
 have:Lib.decNat s=some m:=by unfold Lib.decNat;rw[cY (by simpa using h0)];exact h
 simp[Ba,this,hl]
theorem aHb(m:Nat):Lib.itoa (m:Int)=Lib.decDigits m:=by unfold Lib.itoa;rw[cY (by omega)];rfl
theorem Qr[aB prog][dM prog](s:bB)(hl:s.length<=1099511627776):Ok prog 298 [.str s] (Px s):=by
 have c1:=gH (s.length:Int) 1 13;by_cases h1:1<=s.length/\s.length<=13
 .rw [show(decide ((1:Int)<=(s.length:Int))&&decide ((s.length:Int)<=13))=true by simp;omega]at c1;have h0:s≠[]:=by intro e;rw[e]at h1;simp at h1
  refine bM aG func298 ntmps298 ?_;refine aZ ?_;refine aM (ι:={p:Nat×Nat // p.1<=s.length/\Lib.decFrom 0 (s.take p.1)=some p.2}) (λt o i=>⟨bC t [(4,.int .i64 (i.1.2:Int)),(5,.int .i64 (i.1.1:Int))],o⟩)
   (λi=>s.length-i.1.1) ⟨(0,0),by simp,by simp[Lib.decFrom]⟩ aK ?_
  rintro⟨⟨k,m⟩,⟨hk,hi⟩⟩ K1 hK1;simp only[bC,cW,cU]at hK1 hk hi⊢;have hk1:=oQ (k:=k);have aZq:m<10000000000000:=by have h2:=il hi;have h3:(10:Nat) ^ (s.take k).length<=10 ^ 13:=Nat.pow_le_pow_right (by decide) (by simp;omega);omega
  by_cases hlt:k<s.length
  .have hg:=aE hlt;have c2:=gH (s[k].toNat:Int) 48 57;have hu:s[k].toNat<256:=s[k].toNat_lt;by_cases hd:48<=s[k].toNat/\s[k].toNat<=57
   .have hb:(decide ((48:Int)<=(s[k].toNat:Int))&&decide ((s[k].toNat:Int)<=57))=true:=by simp;omega
    rw[hb]at c2;have hw1:IntKind.u8.wrap ((s[k].toNat:Int)-48)=((s[k].toNat-48:Nat):Int):=by rw[aF3]<;>omega
    have hw2:i64.wrap ((s[k].toNat-48:Nat):Int)=((s[k].toNat-48:Nat):Int):=by rw[wrap64]<;>omega
    have hw3:i64.wrap (10*(m:Int))=((10*m:Nat):Int):=by rw[wrap64]<;>omega
    have hw4:i64.wrap (((10*m:Nat):Int)+((s[k].toNat-48:Nat):Int))=((m*10+(s[k].toNat-48):Nat):Int):=by rw[wrap64]<;>omega
    have hw5:i64.wrap (s[k].toNat:Int)=(s[k].toNat:Int):=by rw[wrap64]<;>omega
    have hn:=Lib.decFrom_take s k 0 m s[k] _ hi hg (show Lib.digitVal s[k]=some (s[k].toNat-48)by unfold Lib.digitVal;rw[eK hd]);have W:=aA hk1 (aA hg (aA hlt (aA hw1 (aA hw2 (aA hw3 (aA hw4 hw5))))));refine we ?_;exact hK1 _ ⟨(k+1,m*10+(s[k].toNat-48)),by simp only;omega,hn⟩ (aK (by simp) (by simp;try omega)) (by simp only;omega)
   .have hb:(decide ((48:Int)<=(s[k].toNat:Int))&&decide ((s[k].toNat:Int)<=57))=false:=by simp only[sC,pA];omega
    rw[hb]at c2;have hw5:i64.wrap (s[k].toNat:Int)=(s[k].toNat:Int):=by rw[wrap64]<;>omega
    rw[vO (nz hlt hd)]at*;have W:=aA hk1 (aA hg (aA hlt hw5));refine we ?_;exact aF results298
  .have hke:k=s.length:=by omega
   subst hke;rw[vA]at hi;have hp:=aHa h0 h1.2 hi;have c3:=fK (m:Int) (by omega);rw[aHb]at c3;by_cases hm:m<=1000000000000
   .by_cases he:Lib.decDigits m=s
    .rw [eK ⟨hm,he⟩]at hp;rw[Fh hp]at*;have hm':¬(1000000000000:Int)<(m:Int):=by omega
     have W:=aA hm' he;refine we ?_;exact aF results298
    .rw [cY (λh=>he h.2)]at hp
     rw[vO hp]at*;have hm':¬(1000000000000:Int)<(m:Int):=by omega
     have W:=aA hm' he;repeat' first|refine wf ?_|(refine sq ?_ ?_<;>intro hc<;>try exact hc.elim)|fail
     all_goals first
      |exact absurd ‹Lib.decDigits m=s› he
      |skip
     all_goals (try exact aF results298)
   .rw [cY (λh=>hm h.1)]at hp
    rw[vO hp]at*;have hm':(1000000000000:Int)<(m:Int):=by omega
    have W:=hm';refine we ?_;exact aF results298
 .rw [show(decide ((1:Int)<=(s.length:Int))&&decide ((s.length:Int)<=13))=false by simp only[sC,pA];omega]at c1;rw[vO (XQ h1)];refine bM aG func298 ntmps298 ?_;refine aZ ?_;exact aF results298
end Go.Proofs.YthddijamfbfibaaGreatDoor
set_option maxRecDepth 4000
set_option maxHeartbeats 400000
namespace Go.Proofs.YthddijamfbfibaaGreatDoor
open Go.Aw Proofs.Tryz List IntKind
theorem Co{α:Type}(f:α->Bool):∀(l:List α) (j:Nat) (i:Int),i∈places f j l->(j:Int)<=i/\i<j+l.length
 |[],j,i,h=>by simp[places]at h
 |x::xs,j,i,h=>by
  simp only[places]at h;have ih:=Co f xs (j+1) i;simp only[eN];split at h
  .rcases gS.1 h with rfl|h
   .omega
   .have:=ih h;omega
  .have:=ih h;omega
def fG(m:Int):Int:=if m=1 then 4 else if m=2 then 3 else if m=3 then 2 else if m=4 then 2 else 0
theorem Dr[aB prog](m:Int):Ok prog 132 [.int .i64 m] (.int .i64 (fG m)):=by
 refine bM aG func132 ntmps132 ?_;have W:=trivial;repeat' first|refine wg ?_|(refine sq ?_ ?_<;>intro hc<;>try exact hc.elim)|fail
 all_goals try(refine aR ?_;simp[aP,results132,fG])
 all_goals simp_all[fG]
theorem Dt[aB prog](m:Int):Ok prog 226 [.int .i64 m] (.int .i64 (fG m)):=by
 refine bM aG func226 ntmps226 ?_;have W:=trivial;repeat' first|refine wg ?_|(refine sq ?_ ?_<;>intro hc<;>try exact hc.elim)|fail
 all_goals try(refine aR ?_;simp[aP,results226,fG])
 all_goals simp_all[fG]
def aAu:fV:=⟨0,⟨[],[]⟩,[],[]⟩
def fM(p:aI)(s:pR):fV:=⟨fG s.mode,s.to,p.addr.host,s.digest⟩
def eQ(p:aI)(m:dX):fV:=⟨5,m.to,p.addr.host,[]⟩
def jD(p:aI)(i:Int):fV:=match p.aC[i.toNat]? with
 |some s=>fM p s
 |none=>aAu
def pJ(p:aI)(i:Int):fV:=match p.aO[i.toNat]? with
 |some s=>eQ p s
 |none=>aAu
theorem Br{α:Type}{l:List α}{i:Int}(h0:0<=i)(h1:i<l.length):∃s,l[i.toNat]? =some s:=⟨l[i.toNat]'(by omega),aE _⟩
theorem at_eq{α:Type}{l:List α}{k:Nat}{s:α}(h:k<l.length)(hg:l[k]? =some s):l[k]=s:=by rw[aE h]at hg;exact cQ hg
theorem xK[aB prog](p:aI)(i:Int)(h0:0<=i)(h1:i<p.aC.length)(hl:p.aC.length<=1099511627776):Ok prog 77 [.agg (aJ .view p),.int .i64 i] (.agg (dD (jD p i))):=by
 obtain⟨s,hg⟩:=Br h0 h1;have e:jD p i=fM p s:=by simp[jD,hg]
 rw[e];obtain rfl:p.aC[i.toNat]'(by omega)=s:=at_eq (by omega) hg;have c1:=gH i 0 (p.aC.length-1);rw[show(decide (0<=i)&&decide (i<=(p.aC.length:Int)-1))=true by simp;omega]at c1;have c2:=Dr (p.aC[i.toNat]'(by omega)).mode;refine bM aG func77 ntmps77 ?_;have W:=aA hg (aA h0 h1);refine wl ?_;all_goals try(refine aR ?_;simp[aP,results77,fM])
theorem xL[aB prog](p:aI)(i:Int)(h0:0<=i)(h1:i<p.aC.length)(hl:p.aC.length<=1099511627776):Ok prog 169 [.agg (aJ .view p),.int .i64 i] (.agg (dD (jD p i))):=by
 obtain⟨s,hg⟩:=Br h0 h1;have e:jD p i=fM p s:=by simp[jD,hg]
 rw[e];obtain rfl:p.aC[i.toNat]'(by omega)=s:=at_eq (by omega) hg;have c2:=Dt (p.aC[i.toNat]'(by omega)).mode;have n0:¬i<0:=by omega
 have n1:¬(p.aC.length:Int)<=i:=by omega
 refine bM aG func169 ntmps169 ?_;have W:=aA hg (aA h0 (aA h1 (aA n0 n1)));refine wl ?_;all_goals try(refine aR ?_;simp[aP,results169,fM])
theorem Du[aB prog](p:aI)(i:Int)(h0:0<=i)(h1:i<p.aO.length)(hl:p.aO.length<=1099511627776):Ok prog 79 [.agg (aJ .view p),.int .i64 i] (.agg (dD (pJ p i))):=by
 obtain⟨s,hg⟩:=Br h0 h1;have e:pJ p i=eQ p s:=by simp[pJ,hg]
 rw[e];obtain rfl:p.aO[i.toNat]'(by omega)=s:=at_eq (by omega) hg;have c1:=gH i 0 (p.aO.length-1);rw[show(decide (0<=i)&&decide (i<=(p.aO.length:Int)-1))=true by simp;omega]at c1;refine bM aG func79 ntmps79 ?_;have W:=aA hg (aA h0 h1);refine wl ?_;all_goals try(refine aR ?_;simp[aP,results79,eQ])
theorem vB[aB prog](p:aI)(i:Int)(h0:0<=i)(h1:i<p.aO.length)(hl:p.aO.length<=1099511627776):Ok prog 170 [.agg (aJ .view p),.int .i64 i] (.agg (dD (pJ p i))):=by
 obtain⟨s,hg⟩:=Br h0 h1;have e:pJ p i=eQ p s:=by simp[pJ,hg]
 rw[e];obtain rfl:p.aO[i.toNat]'(by omega)=s:=at_eq (by omega) hg;have n0:¬i<0:=by omega
 have n1:¬(p.aO.length:Int)<=i:=by omega
 refine bM aG func170 ntmps170 ?_;have W:=aA hg (aA h0 (aA h1 (aA n0 n1)));refine wl ?_;all_goals try(refine aR ?_;simp[aP,results170,eQ])
end Go.Proofs.YthddijamfbfibaaGreatDoor
set_option maxRecDepth 100000
set_option maxHeartbeats 4000000
namespace Go.Proofs.YthddijamfbfibaaGreatDoor
open Go.Aw Go.Shelf Go.RowKit Go.Lib Proofs.Tryz List IntKind
theorem Zy(w:World)(b off n c i vb voff vc:Nat)(C Cv:Array Value)(e ev:TypeId)(fz ZY:Nat×Nat)(olds news:List Value)(hi:i<n)(hroom:n+1<=c)
  (hb:w.heap[b]? =some (.cells C e fz)) (hz:(C.size<=fz.1/\5=1)\/fz.2=0) (hc:bK w b off olds) (hol:olds.length=n*5) (h1o:∀v∈olds,v.oneCell'=true)
  (hfit:off+c*5<=C.size) (hmax:c<=maxLen) (hne:vb≠b) (hvb:w.heap[vb]? =some (.cells Cv ev ZY)) (hzv:(Cv.size<=ZY.1/\5=1)\/ZY.2=0) (hcv:bK w vb voff news) (hnl:news.length=5) (Qw:∀v∈news,v.oneCell'=true):
  Calls prog 287 #[.slice (some ⟨b,off,none⟩) n c,.int .i64 i,.slice (some ⟨vb,voff,none⟩) 1 vc] w λed w'=>∃v b' off' cap' C' e' VE,ed= .returned v/\Wl w w' b 5 (n+1) (olds.take (i*5)++news++olds.drop (i*5)) v b' off' cap' C' e' VE:=by
 have hfz:fz.2=0:=by rcases hz with⟨_,h⟩|h;cases h;exact h
 have aTo:ZY.2=0:=by rcases hzv with⟨_,h⟩|h;cases h;exact h
 have hC5:C.size≠0:=by omega
 have hfr:∀x,w.frozen? ⟨vb,x,none⟩=false:=λx=>by simp[World.frozen?,hvb,aTo]
 have hz2:¬((i:Int)=(n:Int)):=by omega
 have aH3:c<=9223372036854775807:=hmax;have hov:∀o lb cb,(callFunc 318 #[.slice (some ⟨vb,voff,none⟩) 1 vc,.slice (some ⟨b,o,none⟩) lb cb]).run prog w= .ok (.value (.bool false)) w:=λo lb cb=>by
  rw[run_callFunc_extern func318 (by kernel_rfl) (by kernel_rfl) (by kernel_rfl) (e:=Extern.SlicesOverlaps.overlaps #[64,64] #[4]) (by kernel_rfl),
   Lib.run_overlaps_apart w 64 4 186 Tryz.underlying64 5 Tryz.sizeOf186 ⟨vb,voff,none⟩ ⟨b,o,none⟩ 1 vc lb cb hne ev e Cv.size C.size (by simp[World.shape?,hvb]) (by simp[World.shape?,hb]) hC5 (hfr _) (hfr _)]
  rfl
 have aCz:(olds.drop (i*5)).length=(n-i)*5:=by rw[AE,hol];omega
 have hw1:i64.wrap ((i:Int)+1)=(i:Int)+1:=by rw[Cp];omega
 have hw2:i64.wrap ((n:Int)+1)=(n:Int)+1:=by rw[Cp];omega
 have mixed:prog.follows .mixedOrders=true:=by kernel_rfl
 have hb1:(0:Int)<=(i:Int)+1:=by omega
 have hin:i<=n:=by omega
 have hb2:¬(c=i+1):=by omega
 have hb3:(i:Int)<=(n:Int)+1:=by omega
 have hb4:¬(c=i):=by omega
 obtain⟨inf,Kv,hsz⟩:=tU.1 (show(prog.info? 186).map (·.size)=some 5 by kernel_rfl);obtain⟨W1,hW1⟩:∃W1,W1=w.drew.setCells b (off+(i+1)*5) (olds.drop (i*5)):=⟨_,rfl⟩;have hWh:W1.heap=(w.setCells b (off+(i+1)*5) (olds.drop (i*5))).heap:=by rw[hW1];exact TH _ _ rfl
 have hWs:mI w W1:=by rw[hW1];exact mI.trans (b:=w.drew) ⟨rfl,rfl,rfl⟩ (kQ _ _ _ _)
 have hcp1:∀ty,(Builtin.copy_ #[64,64] ty #[.slice (some ⟨b,off+(i+1)*5,none⟩) (n-i) (c-(i+1)),.slice (some ⟨b,off+i*5,none⟩) (n+1-i) (c-i)]).run prog w.drew= .ok (goInt ((n-i:Nat):Int)) W1:=λty=>by rw[hW1];exact Ff Tryz.underlying64 Kv (by simp only[Nat.min_def];split<;>omega) (by rw[aCz,hsz]) (show bK w.drew b (off+i*5) (olds.drop (i*5))from hc.drop) hb hz (by rw[aCz];omega) (λv hv=>h1o v (AI hv))
 obtain⟨C1,mh,LW⟩:=jT b e fz (olds.drop (i*5)) (off+(i+1)*5) w C hb;rw[<-hWh]at mh;have hcp2:∀ty,(Builtin.copy_ #[64,64] ty #[.slice (some ⟨b,off+i*5,none⟩) (n+1-i) (c-i),.slice (some ⟨vb,voff,none⟩) 1 vc]).run prog W1= .ok (goInt ((1:Nat):Int)) (W1.setCells b (off+i*5) news):=λty=>
  Ff Tryz.underlying64 Kv (by simp only[Nat.min_def];split<;>omega) (by rw[hnl,hsz]) (bK.heap (wI hcv (λh=>absurd h hne)) hWh) mh (by rw[LW];exact hz) (by rw[LW];omega) Qw
 have fin:∃v b' off' cap' C' e' VE,Ending.returned (.slice (some ⟨b,off,none⟩) (n+1) c)= .returned v/\Wl w (W1.setCells b (off+i*5) news) b 5 (n+1) (olds.take (i*5)++news++olds.drop (i*5)) v b' off' cap' C' e' VE:=by obtain⟨C',h⟩:=K4 (k:=5) (c:=c) hb hz hc hol hnl hi hroom hfit hmax hWh hWs;exact⟨_,_,_,_,_,_,_,rfl,h⟩
 go_enter func287,ntmps287
 go_wp2_with (simp only[hov])
 clear hb hz hc hol h1o hfit hmax hvb hzv hcv hnl Qw hfz aTo hC5 hfr hov aCz Kv hsz hW1 hWh hWs mh LW
 go_region_law_o (refine step_copy_runI rfl _ _ 64 64 rfl (.slice (some ⟨b,off+(i+1)*5,none⟩) (n-i) (c-(i+1))) (.slice (some ⟨b,off+i*5,none⟩) (n+1-i) (c-i)) (by simp[Act.eval,Act.put]) (by simp[Act.eval,Act.put]) (hcp1 _) ?_)
 go_wp2_with (at_builtin;refine wpList_copy_runI _ rfl _ _ 64 64 rfl _ _ rfl rfl (hcp2 _) ?_)
 go_ret
 exact fin
theorem qf(w:World)(b off n c i vb voff vc:Nat)(C Cv:Array Value)(e ev:TypeId)(fz ZY:Nat×Nat)(olds news:List Value)(hi:i<n)(hroom:c<n+1)(hn:n<=1099511627776)
  (hb:w.heap[b]? =some (.cells C e fz)) (hz:(C.size<=fz.1/\5=1)\/fz.2=0) (hc:bK w b off olds) (hol:olds.length=n*5) (h1o:∀v∈olds,v.oneCell'=true)
  (hfit:off+c*5<=C.size) (hnc:n<=c) (hmax:c<=maxLen) (hne:vb≠b) (hvb:w.heap[vb]? =some (.cells Cv ev ZY)) (hzv:(Cv.size<=ZY.1/\5=1)\/ZY.2=0) (hcv:bK w vb voff news) (hnl:news.length=5) (Qw:∀v∈news,v.oneCell'=true):
  Calls prog 287 #[.slice (some ⟨b,off,none⟩) n c,.int .i64 i,.slice (some ⟨vb,voff,none⟩) 1 vc] w λed w'=>∃v b' off' cap' C' e' VE,ed= .returned v/\Wl w w' b 5 (n+1) (olds.take (i*5)++news++olds.drop (i*5)) v b' off' cap' C' e' VE:=by
 have hz2:¬((i:Int)=(n:Int)):=by omega
 have hz3:(c:Int)<(n:Int)+1:=by omega
 have hw1:i64.wrap ((i:Int)+1)=(i:Int)+1:=by rw[Cp];omega
 have hw2:i64.wrap ((n:Int)+1)=(n:Int)+1:=by rw[Cp];omega
 have hw3:i64.wrap ((n:Int)+1-(i:Int))=(n:Int)+1-(i:Int):=by rw[Cp];omega
 have mixed:prog.follows .mixedOrders=true:=by kernel_rfl
 have hb1:(0:Int)<=(i:Int)+1:=by omega
 have hin:i<=n:=by omega
 have hic:i<=c:=by omega
 have hb3:(i:Int)<=(n:Int)+1:=by omega
 have hb4:¬(c=i):=by omega
 have hlt:∀{x:Nat} {q},w.heap[x]? =some q->x<w.heap.size:=λh=>(pH.1 h).1
 have aCz:(olds.drop (i*5)).length=(n-i)*5:=by rw[AE,hol];omega
 have htl:(olds.take (i*5)).length=i*5:=by rw[oT,hol];omega
 obtain⟨inf,Kv,hq⟩:=tU.1 (show(prog.info? 186).map (λi=>(i.size,i.bytes))=some (5,64)by kernel_rfl);obtain⟨hsz,hby⟩:=Prod.mk.inj hq;obtain⟨z,hz0,hzc⟩:∃z,inf.zero=some z/\z.cells.size=5:=by
  have h:=Tryz.zsz186;simp only[iT,Kv]at h;cases hz:inf.zero with
  |none=>simp[hz]at h
  |some z=>exact⟨z,rfl,by simpa [hz]using h⟩
 obtain⟨G,hG⟩:∃G,G=grownCap w (n+1) c 186:=⟨_,rfl⟩;have hGn:n+1<=G:=by rw[hG];exact grownCap_ge _ _ _ _
 have hGm:G<=maxLen:=by rw[hG];exact EV _ _ _ _ (by simp[maxLen];omega)
 have hG63:G<=9223372036854775807:=hGm;obtain⟨ROW,hROW⟩:∃ROW:Array Value,ROW=(olds.take (i*5)).toArray++Builtin.zeroCells z.cells (n+1-i)++Builtin.zeroCells z.cells (G-(n+1)):=⟨_,rfl⟩;have hRs:ROW.size=G*5:=by rw[hROW];simp only[FA,DB,size_zeroCells,hzc,htl,<-rB];congr 1;omega
 have hR:∀(j:Nat) (v:Value),(olds.take (i*5))[j]? =some v->ROW[j]? =some v:=λj v hv=>by rw[hROW,Array.append_assoc,rN (by simpa using(cH.1 hv).1)];simpa using hv
 obtain⟨W1,hW1⟩:∃W1,W1=w.drew.alloc (.cells ROW 186):=⟨_,rfl⟩;have hrz:∀ty,(Builtin.append_ #[64,3] ty #[.slice (some ⟨b,off,none⟩) i c,.int .i64 ((n:Int)+1-(i:Int))]).run prog w= .ok (.slice (some ⟨w.heap.size,0,none⟩) (n+1) G) W1:=λty=>by
  have h:=Lib.run_append_grow_zeros w 64 3 ty 186 inf z .i64 .i64 Tryz.underlying64 Tryz.underlying3 Kv hz0 (some ⟨b,off,none⟩) i c (olds.take (i*5))
   (by rw[hsz];exact kR htl (show bK w.drew b off (olds.take (i*5))from hc.take)) (n+1-i) (by omega) (by omega) (by omega) (by omega) (by rw[hby];omega) (by rw[hby,show i+(n+1-i)=n+1 by omega];exact growslice_fits hroom (by omega))
  rw[show i+(n+1-i)=n+1 by omega,<-hG,<-hROW,<-hW1]at h;rw[show(n:Int)+1-(i:Int)=((n+1-i:Nat):Int)by omega];exact h
 have hN:W1.heap[w.heap.size]? =some (.cells ROW 186 (0,0)):=by rw[hW1];exact fO w.drew _
 have hO:∀x,x<w.heap.size->W1.heap[x]? =w.heap[x]?:=λx hx=>by rw[hW1];exact heap_alloc w.drew _ x hx
 have hs1:mI w W1:=by rw[hW1];exact⟨rfl,rfl,rfl⟩
 obtain⟨W2,hW2⟩:∃W2,W2=W1.setCells w.heap.size (i*5) news:=⟨_,rfl⟩;have hs2:mI W1 W2.drew:=by rw[hW2];exact(kQ _ _ _ _).trans ⟨rfl,rfl,rfl⟩
 have hcp1:∀ty,(Builtin.copy_ #[64,64] ty #[.slice (some ⟨w.heap.size,i*5,none⟩) (n+1-i) (G-i),.slice (some ⟨vb,voff,none⟩) 1 vc]).run prog W1= .ok (goInt ((1:Nat):Int)) W2:=λty=>by rw[hW2];exact Ff Tryz.underlying64 Kv (by simp only[Nat.min_def];split<;>omega) (by rw[hnl,hsz]) (hcv.same (hO _ (hlt hvb))) hN (q:=True) (.inr rfl) (by omega) Qw
 obtain⟨C1,mh,LW⟩:=jT w.heap.size 186 (0,0) news (i*5) W1 ROW hN;rw[<-hW2]at mh;have hcp2:∀ty,(Builtin.copy_ #[64,64] ty #[.slice (some ⟨w.heap.size,(i+1)*5,none⟩) (n-i) (G-(i+1)),.slice (some ⟨b,off+i*5,none⟩) (n-i) (c-i)]).run prog W2.drew= .ok (goInt ((n-i:Nat):Int)) (W2.drew.setCells w.heap.size ((i+1)*5) (olds.drop (i*5))):=λty=>
  Ff (w:=W2.drew) Tryz.underlying64 Kv (by simp only[Nat.min_def];split<;>omega) (by rw[aCz,hsz]) (show bK W2.drew b (off+i*5) (olds.drop (i*5))from by
   refine bK.heap (w:=W2) ?_ rfl;rw[hW2];exact wI (hc.drop.same (hO _ (hlt hb))) (λh=>absurd h (by have:=hlt hb;omega))) (show W2.drew.heap[w.heap.size]? =_ from mh) (q:=True) (.inr rfl) (by rw[LW];omega) (λv hv=>h1o v (AI hv))
 have fin:∃v b' off' cap' C' e' VE,Ending.returned (.slice (some ⟨w.heap.size,0,none⟩) (n+1) G)= .returned v/\Wl w (W2.drew.setCells w.heap.size ((i+1)*5) (olds.drop (i*5))) b 5 (n+1) (olds.take (i*5)++news++olds.drop (i*5)) v b' off' cap' C' e' VE:=by obtain⟨C',h⟩:=aCn (k:=5) (b:=b) (cap:=G) hol hnl hi hR (by omega) hGn hGm hN hO hs1 (show W2.drew.heap=_ by rw[hW2];rfl) hs2;exact⟨_,_,_,_,_,_,_,rfl,h⟩
 have hG4:¬(G=i):=by omega
 have hG5:¬(G=i+1):=by omega
 clear hb hz hc hol h1o hfit hmax hvb hzv hcv hnl Qw aCz htl Kv hq hsz hby hz0 hzc hG hROW hRs hR hW1 hN hO hs1 hW2 hs2 mh LW hlt
 go_enter func287,ntmps287
 go_wp2_with (first
  |(at_builtin;refine Lib.wpList_append_run _ rfl _ _ _ _ rfl _ _ rfl rfl _ _ (hrz _) ?_)
  |(at_builtin;refine wpList_copy_runI _ rfl _ _ 64 64 rfl _ _ rfl rfl (hcp1 _) ?_))
 go_region_law_o (refine step_copy_runI rfl _ _ 64 64 rfl (.slice (some ⟨w.heap.size,(i+1)*5,none⟩) (n-i) (G-(i+1))) (.slice (some ⟨b,off+i*5,none⟩) (n-i) (c-i)) (by simp[Act.eval,Act.put]) (by simp[Act.eval,Act.put]) (hcp2 _) ?_)
 go_wp2
 go_ret
 exact fin
theorem Jy(w:World)(base:Option Addr)(n c vb voff vc:Nat)(v':Value)(w':World)(Q:Ending->World->Prop)(hnc:n<=c)(hmax:c<=9223372036854775807)(hnil:base=none->n=0)
  (hrun:∀ty,(Builtin.append_ #[64,64] ty #[.slice base n c,.slice (some ⟨vb,voff,none⟩) 1 vc]).run prog w= .ok v' w') (fin:Q (.returned v') w'):
  Calls prog 287 #[.slice base n c,.int .i64 n,.slice (some ⟨vb,voff,none⟩) 1 vc] w Q:=by
 have mixed:prog.follows .mixedOrders=true:=by kernel_rfl
 go_enter func287,ntmps287
 cases base with
 |none=>
  have h0:=hnil rfl;subst h0
  go_wp2_with (at_builtin;refine Lib.wpList_append_run _ rfl _ _ _ _ rfl _ _ rfl rfl _ _ (hrun _) ?_)
  exact fin
 |some a=>
  obtain⟨ab,ao,asp⟩:=a
  go_wp2_with (at_builtin;refine Lib.wpList_append_run _ rfl _ _ _ _ rfl _ _ rfl rfl _ _ (hrun _) ?_)
  all_goals exact fin
end Go.Proofs.YthddijamfbfibaaGreatDoor
