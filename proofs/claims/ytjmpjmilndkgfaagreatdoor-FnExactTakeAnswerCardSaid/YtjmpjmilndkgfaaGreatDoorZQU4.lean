/- Proved here: steps towards the statement of this claim. No condition. -/
import Derived.Test.YtjmpjmilndkgfaaGreatDoorZQA0
import Derived.Test.YtjmpjmilndkgfaaGreatDoorZYShelf
import Derived.Test.YtjmpjmilndkgfaaGreatDoorZF5
set_option linter.all false
set_option maxRecDepth 4000
set_option maxHeartbeats 4000000
namespace Go.Proofs.YtjmpjmilndkgfaaGreatDoor
open Go.Aw Proofs.Tryz List IntKind
theorem toTokenS_ok [aC prog] (l:List bP) (hs:bV bO l<=1048576):Ok prog 28 [.sl .view 4 (l.map (bK .view))] (.sl .own 4 (l.map (bK .own))):=by
 have hl:l.length<=1048576:=by (try simp only [bV] at hs);omega
 have hb:(64:Int) * (l.length:Int)<=281474976710656:=by omega
 have hb2:(l.length:Int)<=9223372036854775807:=by omega
 generalize hz:([.int .i64 0,.str [],.sl .own 2 [],.str []]:List AV)=z;have hz0:=tK z (l.map (bK .own));rw [lR] at hz0;refine bR aD func28 ntmps28 ?_;have W:=aA hb hb2;refine wl ?_;refine aL (ι:={k:Nat // k<=l.length}) (λt o i=>⟨bD t [(4,.int .i64 i.1)],[⟨true,false,4,1,wU z (l.map (bK .own)) i.1⟩]⟩)
  (λi=>l.length - i.1) ⟨0,by simp⟩ (aH (by simp [hz,hz0]) (by simp)) ?_
 rintro ⟨k,hk⟩ K1 hK1;simp only [bD,cW,cU] at hK1⊢;have hk1:=oW (k:=k);by_cases hlt:k < l.length
 .have hg:=aE hlt;have jv:=wE z (l.map (bK .own)) k (by simpa using hlt);have xX:=wF z (l.map (bK .own)) k (by simpa using hlt);rw [pT] at xX;simp only [bK] at xX;have Wo:z.length=4:=by rw [<-hz];rfl
  have jw:z.drop 4=[]:=by rw [<-hz];rfl
  have W:=aA hk1 (aA hg (aA jv (aA Wo (aA jw xX))));have V:=aA hk1 (aA hg hlt);repeat' first|refine wg ?_|(refine nx ?_;refine sk (hc:=toToken_ok l[k] (by have:=dZ bO l k hlt;(try simp only [bV] at hs);omega)) (h:=?_))|(refine sq ?_ ?_<;>intro hc<;>try exact hc.elim)|fail
  refine hK1 _ ⟨k+1,by omega⟩ (aW 1 rfl ?_ (by simp) (by simp)) (by simp only;omega);simp
 .have W:=hk1;refine wl ?_;have jy:=wD z (l.map (bK .own)) k (by simpa using hlt);all_goals try(refine aR ?_;simp [aG,results28,jy])
theorem YQ [aC prog] (l:List bP) (n:Int) (h0:0<=n) (h1:n<=1048576) (hw:l.length<=9223372036854775807/\∀y∈l,JD y):Ok prog 17 [.sl .view 4 (l.map (bK .view)),.int .i64 n] (.int .i64 (sub n (bV bO l))):=by
 obtain ⟨hl,hw⟩:=hw;refine bR aD func17 ntmps17 ?_;have W:=trivial;repeat' first|refine wg ?_|(refine sq ?_ ?_<;>intro hc<;>try exact hc.elim)|fail
 .refine aR ?_;simp [aG,results17,sub,bV];omega
 .refine aL (ι:={k:Nat // k<=l.length/\l.length+aQ bO (l.take k)<=n}) (λt o i=>⟨bD t [(1,.int .i64 (n - (l.length+aQ bO (l.take i.1):Nat))),(5,.int .i64 i.1)],[]⟩)
   (λi=>l.length - i.1) ⟨0,by simp,by simp [aQ];omega⟩ (aH (by simp) (by simp [aQ])) ?_
  rintro ⟨k,hk,hs⟩ K1 hK1;simp only [bD,cW,cU] at hK1⊢;have hk1:=oW (k:=k);by_cases hlt:k < l.length
  .have hg:=aE hlt;have hts:=dC bO l k hlt;have htl:=dK bO l (k+1);have hwg:=hw _ (fR hlt);have W:=aA hk1 hg;repeat' first|refine wg ?_|(refine nx ?_;refine sk (hc:=kr _ _ (by omega) (by omega) hwg) (h:=?_))|(refine sq ?_ ?_<;>intro hc<;>try exact hc.elim)|fail
   .refine ⟨.inr rfl,?_⟩;simp [aG,results17,bV]
    (repeat clear hK K);simp only [sub] at *;grind
   .refine hK1 _ ⟨k+1,by omega,by (repeat clear hK K);simp only [sub] at *;grind⟩ (aH (by simp) ?_) (by simp only;omega);simp
    (repeat clear hK K);simp only [sub] at *;grind
  .have W:=hk1;refine wl ?_;all_goals try(refine aR ?_;simp [aG,results17,bV])
   have:k=l.length:=by omega
   subst this;rw [rN] at *;rw [sub_pos (by omega)];omega
theorem YR [aC prog] (a b:List bP) (hs:bV bO a<=1099511627776):Ok prog 40 [.sl .view 4 (a.map (bK .view)),.sl .view 4 (b.map (bK .view))] (.bool (decide (a=b))):=by
 have hl:a.length<=1099511627776:=by (try simp only [bV] at hs);omega
 refine bR aD func40 ntmps40 ?_;have W:=trivial;repeat' first|refine wg ?_|(refine sq ?_ ?_<;>intro hc<;>try exact hc.elim)|fail
 .all_goals try(refine aR ?_;simp [aG,results40])
  intro h;subst h;exact absurd rfl hc
 .have hlen:a.length=b.length:=by omega
  refine aL (ι:={k:Nat // k<=a.length/\a.take k=b.take k}) (λt o i=>⟨bD t [(5,.int .i64 i.1)],[]⟩)
   (λi=>a.length - i.1) ⟨0,by simp⟩ aH ?_
  rintro ⟨k,hk,hpre⟩ K1 hK1;simp only [bD,cW,cU] at hK1⊢;have hk1:=oW (k:=k);by_cases hlt:k < a.length
  .have hg:=aE hlt;have vT:k < b.length:=by omega
   have kg:=aE vT;have W:=aA hk1 (aA hg (aA hlt (aA kg vT)));repeat' first|refine wg ?_|(refine nx ?_;refine sk (hc:=kz a[k] b[k] (by have:=dZ bO a k hlt;(try simp only [bV] at hs);omega)) (h:=?_))|(refine sq ?_ ?_<;>intro hc<;>try exact hc.elim)|fail
   .all_goals try(refine aR ?_;simp [aG,results40])
    intro h;subst h;exact hc rfl
   .have hts:a.take (k+1)=b.take (k+1):=by rw [eA hlt,eA vT,hpre,hc]
    refine hK1 _ ⟨k+1,by omega,hts⟩ aH (by simp only;omega)
  .have ko:a.length<=k:=by omega
   rw [cX ko,cX (by omega)] at hpre;subst hpre;have W:=hk1;refine wl ?_;exact aK results40
theorem toNodeS_ok [aC prog] (l:List gF) (hs:bV iF l<=1048576):Ok prog 76 [.sl .view 4 (l.map (dE .view))] (.sl .own 4 (l.map (dE .own))):=by
 have hl:l.length<=1048576:=by (try simp only [bV] at hs);omega
 have hb:(64:Int) * (l.length:Int)<=281474976710656:=by omega
 have hb2:(l.length:Int)<=9223372036854775807:=by omega
 generalize hz:([.str [],.str [],.int .i64 0,.sl .own 2 []]:List AV)=z;have hz0:=tK z (l.map (dE .own));rw [lR] at hz0;refine bR aD func76 ntmps76 ?_;have W:=aA hb hb2;refine wl ?_;refine aL (ι:={k:Nat // k<=l.length}) (λt o i=>⟨bD t [(4,.int .i64 i.1)],[⟨true,false,4,1,wU z (l.map (dE .own)) i.1⟩]⟩)
  (λi=>l.length - i.1) ⟨0,by simp⟩ (aH (by simp [hz,hz0]) (by simp)) ?_
 rintro ⟨k,hk⟩ K1 hK1;simp only [bD,cW,cU] at hK1⊢;have hk1:=oW (k:=k);by_cases hlt:k < l.length
 .have hg:=aE hlt;have jv:=wE z (l.map (dE .own)) k (by simpa using hlt);have xX:=wF z (l.map (dE .own)) k (by simpa using hlt);rw [pT] at xX;simp only [dE] at xX;have Wo:z.length=4:=by rw [<-hz];rfl
  have jw:z.drop 4=[]:=by rw [<-hz];rfl
  have W:=aA hk1 (aA hg (aA jv (aA Wo (aA jw xX))));have V:=aA hk1 (aA hg hlt);repeat' first|refine wg ?_|(refine nx ?_;refine sk (hc:=toNode_ok l[k] (by have:=dZ iF l k hlt;(try simp only [bV] at hs);omega)) (h:=?_))|(refine sq ?_ ?_<;>intro hc<;>try exact hc.elim)|fail
  refine hK1 _ ⟨k+1,by omega⟩ (aW 1 rfl ?_ (by simp) (by simp)) (by simp only;omega);simp
 .have W:=hk1;refine wl ?_;have jy:=wD z (l.map (dE .own)) k (by simpa using hlt);all_goals try(refine aR ?_;simp [aG,results76,jy])
theorem lu [aC prog] (l:List gF) (n:Int) (h0:0<=n) (h1:n<=1048576) (hw:l.length<=9223372036854775807/\∀y∈l,PZ y):Ok prog 61 [.sl .view 4 (l.map (dE .view)),.int .i64 n] (.int .i64 (sub n (bV iF l))):=by
 obtain ⟨hl,hw⟩:=hw;refine bR aD func61 ntmps61 ?_;have W:=trivial;repeat' first|refine wg ?_|(refine sq ?_ ?_<;>intro hc<;>try exact hc.elim)|fail
 .refine aR ?_;simp [aG,results61,sub,bV];omega
 .refine aL (ι:={k:Nat // k<=l.length/\l.length+aQ iF (l.take k)<=n}) (λt o i=>⟨bD t [(1,.int .i64 (n - (l.length+aQ iF (l.take i.1):Nat))),(5,.int .i64 i.1)],[]⟩)
   (λi=>l.length - i.1) ⟨0,by simp,by simp [aQ];omega⟩ (aH (by simp) (by simp [aQ])) ?_
  rintro ⟨k,hk,hs⟩ K1 hK1;simp only [bD,cW,cU] at hK1⊢;have hk1:=oW (k:=k);by_cases hlt:k < l.length
  .have hg:=aE hlt;have hts:=dC iF l k hlt;have htl:=dK iF l (k+1);have hwg:=hw _ (fR hlt);have W:=aA hk1 hg;repeat' first|refine wg ?_|(refine nx ?_;refine sk (hc:=K3 _ _ (by omega) (by omega) hwg) (h:=?_))|(refine sq ?_ ?_<;>intro hc<;>try exact hc.elim)|fail
   .refine ⟨.inr rfl,?_⟩;simp [aG,results61,bV]
    (repeat clear hK K);simp only [sub] at *;grind
   .refine hK1 _ ⟨k+1,by omega,by (repeat clear hK K);simp only [sub] at *;grind⟩ (aH (by simp) ?_) (by simp only;omega);simp
    (repeat clear hK K);simp only [sub] at *;grind
  .have W:=hk1;refine wl ?_;all_goals try(refine aR ?_;simp [aG,results61,bV])
   have:k=l.length:=by omega
   subst this;rw [rN] at *;rw [sub_pos (by omega)];omega
theorem ma [aC prog] (a b:List gF) (hs:bV iF a<=1099511627776):Ok prog 91 [.sl .view 4 (a.map (dE .view)),.sl .view 4 (b.map (dE .view))] (.bool (decide (a=b))):=by
 have hl:a.length<=1099511627776:=by (try simp only [bV] at hs);omega
 refine bR aD func91 ntmps91 ?_;have W:=trivial;repeat' first|refine wg ?_|(refine sq ?_ ?_<;>intro hc<;>try exact hc.elim)|fail
 .all_goals try(refine aR ?_;simp [aG,results91])
  intro h;subst h;exact absurd rfl hc
 .have hlen:a.length=b.length:=by omega
  refine aL (ι:={k:Nat // k<=a.length/\a.take k=b.take k}) (λt o i=>⟨bD t [(5,.int .i64 i.1)],[]⟩)
   (λi=>a.length - i.1) ⟨0,by simp⟩ aH ?_
  rintro ⟨k,hk,hpre⟩ K1 hK1;simp only [bD,cW,cU] at hK1⊢;have hk1:=oW (k:=k);by_cases hlt:k < a.length
  .have hg:=aE hlt;have vT:k < b.length:=by omega
   have kg:=aE vT;have W:=aA hk1 (aA hg (aA hlt (aA kg vT)));repeat' first|refine wg ?_|(refine nx ?_;refine sk (hc:=K4 a[k] b[k] (by have:=dZ iF a k hlt;(try simp only [bV] at hs);omega)) (h:=?_))|(refine sq ?_ ?_<;>intro hc<;>try exact hc.elim)|fail
   .all_goals try(refine aR ?_;simp [aG,results91])
    intro h;subst h;exact hc rfl
   .have hts:a.take (k+1)=b.take (k+1):=by rw [eA hlt,eA vT,hpre,hc]
    refine hK1 _ ⟨k+1,by omega,hts⟩ aH (by simp only;omega)
  .have ko:a.length<=k:=by omega
   rw [cX ko,cX (by omega)] at hpre;subst hpre;have W:=hk1;refine wl ?_;exact aK results91
theorem toBuilder_ok [aC prog] (a:bC) (hs:aP a<=1048576):Ok prog 29 [.agg (aS .view a)] (.agg (aS .own a)):=by
 simp only [aP] at hs;refine bR aD func29 ntmps29 ?_;have W:=trivial;repeat' first|refine wg ?_|(refine nx ?_;first|refine sk (hc:=toNodeS_ok a.nodes (by omega)) (h:=?_)|refine sk (hc:=toIntS_ok a.opens (by omega)) (h:=?_))|(refine sq ?_ ?_<;>intro hc<;>try exact hc.elim)|fail
 exact aK results29
theorem WO [aC prog] (a:bC) (n:Int) (h0:0<=n) (h1:n<=1048576) (hw:Lp a):Ok prog 18 [.agg (aS .view a),.int .i64 n] (.int .i64 (sub n (aP a))):=by
 simp only [Lp] at hw;obtain ⟨aKz,aK0⟩:=hw;refine bR aD func18 ntmps18 ?_;have W:=trivial;repeat' first|refine wg ?_|(refine nx ?_;first|refine sk (hc:=lu a.nodes _ (by omega) (by repeat' (first|omega|apply lY|apply jR)) aKz) (h:=?_)|refine sk (hc:=H6 a.opens _ (by omega) (by repeat' (first|omega|apply lY|apply jR)) aK0) (h:=?_))|(refine sq ?_ ?_<;>intro hc<;>try exact hc.elim)|fail
 all_goals try(refine aR ?_;simp [aG,results18,aP])
 all_goals (
  (try generalize e0:sub n (bV iF a.nodes)=m0 at *)
  (try (first|have f0:=lZ e0 (by omega)|have f0:=jS e0 (by omega) (by omega)))
  (try generalize e1:sub m0 (a.opens.length)=m1 at *)
  (try (first|have f1:=lZ e1 (by omega)|have f1:=jS e1 (by omega) (by omega)))
  repeat (simp (disch:=omega) only [wrap64] at *)
  (try simp only [sub]);(try split);all_goals omega)
theorem WQ [aC prog] (a b:bC) (hs:aP a<=1099511627776):Ok prog 41 [.agg (aS .view a),.agg (aS .view b)] (.bool (decide (a=b))):=by
 simp only [aP] at hs;refine bR aD func41 ntmps41 ?_;have W:=trivial;repeat' first|refine wg ?_|(refine nx ?_;first|refine sk (hc:=ma a.nodes b.nodes (by omega)) (h:=?_)|refine sk (hc:=H7 a.opens b.opens (by omega)) (h:=?_))|(refine sq ?_ ?_<;>intro hc<;>try exact hc.elim)|fail
 all_goals try(refine aR ?_;simp [aG,results41])
 all_goals ((repeat clear hK K);cases a;cases b;simp_all)
theorem aHd [aC prog] [eH prog] (n:Int) (h: -9223372036854775808<=n/\n<=9223372036854775807):Ok prog 244 [.int .i64 n] (.str (Lib.itoa n)):=aGw Tryz.laysM171 n h.1 h.2
theorem fQ [aC prog] [eH prog] (n:Int) (h: -9223372036854775808<=n/\n<=9223372036854775807):Ok prog 194 [.int .i64 n] (.str (Lib.itoa n)):=by have h1:=aHd n h;refine bR aD func194 ntmps194 ?_;refine gJ ?_;exact aK results194
theorem fT [aC prog] [eH prog] (n:Int) (h: -9223372036854775808<=n/\n<=9223372036854775807):Ok prog 174 [.int .i64 n] (.str (Lib.itoa n)):=by
 by_cases h0:n=0
 .subst h0;refine bR aD func174 ntmps174 ?_;refine gJ ?_;all_goals try(refine aR ?_;simp [aG,results174])
  all_goals exact F6.symm
 .refine bR aD func174 ntmps174 ?_;have W:=h0;refine wl ?_;refine aL (ι:={p:Int×bF // (-9223372036854775808<=p.1/\p.1<=9223372036854775807)/\Ik p.1.natAbs++p.2=Ik n.natAbs}) (λt o i=>⟨bD t [(4,.int .i64 i.1.1),(3,.str i.1.2),(5,.undef)],o⟩)
   (λi=>i.1.1.natAbs) ⟨(n,[]),h,by simp⟩ aH ?_
  rintro ⟨⟨x,s⟩,⟨hx1,hx2⟩,hi⟩ K1 hK1;simp only [bD,cW,cU] at hK1 hx1 hx2 hi⊢;have hsl:=An length hi;have hnl:=aCi n h.1 h.2;rw [eR] at hsl;have hs1:1+s.length<=9223372036854775807:=by omega
  have hs2:s.length<=9223372036854775806:=by omega
  clear hsl hnl;by_cases hx:x=0
  .subst hx;have hs:s=Ik n.natAbs:=by simpa [Ik] using hi
   have W:=aA hs1 hs2;repeat' first|refine wg ?_|(refine sq ?_ ?_<;>intro hc<;>try exact hc.elim)|fail
   .all_goals try(refine aR ?_;simp [aG,results174])
    exact (itoa_neg (by omega) hs).symm
   .all_goals try(refine aR ?_;simp [aG,results174])
    exact (aCg h0 (by omega) hs).symm
  .obtain ⟨r,q,hr0,hr9,hq,hq1,hq2,hqa,hr,ht⟩:=je x hx1 hx2;have hp:=F5 x.natAbs (by omega);have hu8:=aCh (48+r) (by omega) (by omega);have hb:UInt8.ofNat (48+r).toNat=UInt8.ofNat (48+x.natAbs % 10):=by congr 1;omega
   have hi2:Ik q.natAbs++UInt8.ofNat (48+r).toNat::s=Ik n.natAbs:=by rw [<-hi,hp,hqa,hb];simp
   have hm:q.natAbs < x.natAbs:=by omega
   clear hr hb hp;rcases ht with ht|⟨ht,hrp⟩
   .have W:=aA hx (aA ht (aA hq (aA hu8 (aA hs1 hs2))));refine wl ?_;refine hK1 _ ⟨(q,UInt8.ofNat (48+r).toNat::s),⟨hq1,hq2⟩,hi2⟩ (aW 0) (by simp only;omega)
   .have W:=aA hx (aA ht (aA hq (aA hu8 (aA hs1 hs2))));refine wl ?_;refine hK1 _ ⟨(q,UInt8.ofNat (48+r).toNat::s),⟨hq1,hq2⟩,hi2⟩ (aW 0) (by simp only;omega)
end Go.Proofs.YtjmpjmilndkgfaaGreatDoor
