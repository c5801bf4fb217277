/- Proved here: steps towards the statement of this claim. No condition. -/
import Derived.Test.YtjmpjmilndkgfaaGreatDoorZYFacts
import Derived.Test.YtjmpjmilndkgfaaGreatDoorZF4
set_option linter.all false
set_option maxRecDepth 4000
set_option maxHeartbeats 4000000
namespace Go.Proofs.YtjmpjmilndkgfaaGreatDoor
open Go.Aw Proofs.Tryz List IntKind
theorem aD:Tryz.prog.follows .mixedOrders=true:=by kernel_rfl
theorem toAddr_ok [aC prog] (a:aT) (hs:aU a<=1048576):Ok prog 9 [.agg (aO a)] (.agg (aO a)):=by simp only [aU] at hs;refine bR aD func9 ntmps9 ?_;refine gJ ?_;exact aK results9
theorem Db [aC prog] (a:aT) (n:Int) (h0:0<=n) (h1:n<=1048576) (hw:Cz a):Ok prog 5 [.agg (aO a),.int .i64 n] (.int .i64 (sub n (aU a))):=by
 simp only [Cz] at hw;obtain ⟨aTu,aTv⟩:=hw;refine bR aD func5 ntmps5 ?_;have W:=trivial;repeat' first|refine wg ?_|(refine sq ?_ ?_<;>intro hc<;>try exact hc.elim)|fail
 all_goals try(refine aR ?_;simp [aG,results5,aU])
 all_goals (
  repeat (simp (disch:=omega) only [wrap64] at *)
  (try simp only [sub]);(try split);all_goals omega)
theorem Gd [aC prog] (a b:aT) (hs:aU a<=1099511627776):Ok prog 37 [.agg (aO a),.agg (aO b)] (.bool (decide (a=b))):=by
 simp only [aU] at hs;refine bR aD func37 ntmps37 ?_;have W:=trivial;repeat' first|refine wg ?_|(refine sq ?_ ?_<;>intro hc<;>try exact hc.elim)|fail
 all_goals try(refine aR ?_;simp [aG,results37])
 all_goals ((repeat clear hK K);cases a;cases b;simp_all)
theorem toAttr_ok [aC prog] (a:jY) (hs:gY a<=1048576):Ok prog 180 [.agg (gU a)] (.agg (gU a)):=by simp only [gY] at hs;refine bR aD func180 ntmps180 ?_;refine gJ ?_;exact aK results180
theorem G9 [aC prog] (a:jY) (n:Int) (h0:0<=n) (h1:n<=1048576) (hw:Lm a):Ok prog 158 [.agg (gU a),.int .i64 n] (.int .i64 (sub n (gY a))):=by
 simp only [Lm] at hw;obtain ⟨aI9,aRy⟩:=hw;refine bR aD func158 ntmps158 ?_;have W:=trivial;repeat' first|refine wg ?_|(refine sq ?_ ?_<;>intro hc<;>try exact hc.elim)|fail
 all_goals try(refine aR ?_;simp [aG,results158,gY])
 all_goals (
  repeat (simp (disch:=omega) only [wrap64] at *)
  (try simp only [sub]);(try split);all_goals omega)
theorem H5 [aC prog] (a b:jY) (hs:gY a<=1099511627776):Ok prog 208 [.agg (gU a),.agg (gU b)] (.bool (decide (a=b))):=by
 simp only [gY] at hs;refine bR aD func208 ntmps208 ?_;have W:=trivial;repeat' first|refine wg ?_|(refine sq ?_ ?_<;>intro hc<;>try exact hc.elim)|fail
 all_goals try(refine aR ?_;simp [aG,results208])
 all_goals ((repeat clear hK K);cases a;cases b;simp_all)
theorem toTokenizer_ok [aC prog] (a:kZ) (hs:rJ a<=1048576):Ok prog 27 [.agg (dO a)] (.agg (dO a)):=by simp only [rJ] at hs;refine bR aD func27 ntmps27 ?_;refine gJ ?_;exact aK results27
theorem Qw [aC prog] (a:kZ) (n:Int) (h0:0<=n) (h1:n<=1048576) (hw:ET a):Ok prog 16 [.agg (dO a),.int .i64 n] (.int .i64 (sub n (rJ a))):=by
 simp only [ET] at hw;have aTw:=hw;refine bR aD func16 ntmps16 ?_;have W:=trivial;repeat' first|refine wg ?_|(refine sq ?_ ?_<;>intro hc<;>try exact hc.elim)|fail
 all_goals try(refine aR ?_;simp [aG,results16,rJ])
 all_goals (
  repeat (simp (disch:=omega) only [wrap64] at *)
  (try simp only [sub]);(try split);all_goals omega)
theorem Qx [aC prog] (a b:kZ) (hs:rJ a<=1099511627776):Ok prog 39 [.agg (dO a),.agg (dO b)] (.bool (decide (a=b))):=by
 simp only [rJ] at hs;refine bR aD func39 ntmps39 ?_;have W:=trivial;repeat' first|refine wg ?_|(refine sq ?_ ?_<;>intro hc<;>try exact hc.elim)|fail
 all_goals try(refine aR ?_;simp [aG,results39])
 all_goals ((repeat clear hK K);cases a;cases b;simp_all)
theorem toResponse_ok [aC prog] (a:bL) (hs:fK a<=1048576):Ok prog 10 [.agg (dQ a)] (.agg (dQ a)):=by simp only [fK] at hs;refine bR aD func10 ntmps10 ?_;refine gJ ?_;exact aK results10
theorem TJ [aC prog] (a:bL) (n:Int) (h0:0<=n) (h1:n<=1048576) (hw:DN a):Ok prog 6 [.agg (dQ a),.int .i64 n] (.int .i64 (sub n (fK a))):=by
 simp only [DN] at hw;obtain ⟨aJa,yf⟩:=hw;refine bR aD func6 ntmps6 ?_;have W:=trivial;repeat' first|refine wg ?_|(refine sq ?_ ?_<;>intro hc<;>try exact hc.elim)|fail
 all_goals try(refine aR ?_;simp [aG,results6,fK])
 all_goals (
  repeat (simp (disch:=omega) only [wrap64] at *)
  (try simp only [sub]);(try split);all_goals omega)
theorem toIntS_ok [aC prog] (l:List Int) (hs:l.length<=1048576):Ok prog 77 [.sl .view 1 (l.map jE)] (.sl .own 1 (l.map jE)):=by
 have hl:l.length<=1048576:=by (try simp only [bV] at hs);omega
 have hb:(8:Int) * (l.length:Int)<=281474976710656:=by omega
 have hb2:(l.length:Int)<=9223372036854775807:=by omega
 generalize hz:([.int .i64 0]:List AV)=z;have hz0:=tK z (l.map jE);rw [lR] at hz0;refine bR aD func77 ntmps77 ?_;have W:=aA hb hb2;refine wl ?_;refine aL (ι:={k:Nat // k<=l.length}) (λt o i=>⟨bD t [(4,.int .i64 i.1)],[⟨true,false,1,1,wU z (l.map jE) i.1⟩]⟩)
  (λi=>l.length - i.1) ⟨0,by simp⟩ (aH (by simp [hz,hz0]) (by simp)) ?_
 rintro ⟨k,hk⟩ K1 hK1;simp only [bD,cW,cU] at hK1⊢;have hk1:=oW (k:=k);by_cases hlt:k < l.length
 .have hg:=aE hlt;have jv:=wE z (l.map jE) k (by simpa using hlt);have xX:=wF z (l.map jE) k (by simpa using hlt);rw [pT] at xX;simp only [jE] at xX;have Wo:z.length=1:=by rw [<-hz];rfl
  have jw:z.drop 1=[]:=by rw [<-hz];rfl
  have W:=aA hk1 (aA hg (aA jv (aA Wo (aA jw xX))));have V:=aA hk1 (aA hg hlt);refine wl ?_;refine hK1 _ ⟨k+1,by omega⟩ (aW 1 rfl ?_ (by simp) (by simp)) (by simp only;omega);simp
 .have W:=hk1;refine wl ?_;have jy:=wD z (l.map jE) k (by simpa using hlt);all_goals try(refine aR ?_;simp [aG,results77,jy])
theorem H6 [aC prog] (l:List Int) (n:Int) (h0:0<=n) (h1:n<=1048576) (hw:l.length<=9223372036854775807):Ok prog 62 [.sl .view 1 (l.map jE),.int .i64 n] (.int .i64 (sub n (l.length))):=by
 refine bR aD func62 ntmps62 ?_;have W:=trivial;repeat' first|refine wg ?_|(refine sq ?_ ?_<;>intro hc<;>try exact hc.elim)|fail
 all_goals try(refine aR ?_;simp [aG,results62])
 all_goals (first|omega|((repeat clear hK K);simp only [sub] at *;grind)|((repeat clear hK K);simp only [sub,AG] at *;grind))
theorem H7 [aC prog] (a b:List Int) (hs:a.length<=1099511627776):Ok prog 92 [.sl .view 1 (a.map jE),.sl .view 1 (b.map jE)] (.bool (decide (a=b))):=by
 have hl:a.length<=1099511627776:=by (try simp only [bV] at hs);omega
 refine bR aD func92 ntmps92 ?_;have W:=trivial;repeat' first|refine wg ?_|(refine sq ?_ ?_<;>intro hc<;>try exact hc.elim)|fail
 .all_goals try(refine aR ?_;simp [aG,results92])
  intro h;subst h;exact absurd rfl hc
 .have hlen:a.length=b.length:=by omega
  refine aL (ι:={k:Nat // k<=a.length/\a.take k=b.take k}) (λt o i=>⟨bD t [(5,.int .i64 i.1)],[]⟩)
   (λi=>a.length - i.1) ⟨0,by simp⟩ aH ?_
  rintro ⟨k,hk,hpre⟩ K1 hK1;simp only [bD,cW,cU] at hK1⊢;have hk1:=oW (k:=k);by_cases hlt:k < a.length
  .have hg:=aE hlt;have vT:k < b.length:=by omega
   have kg:=aE vT;have W:=aA hk1 (aA hg (aA hlt (aA kg vT)));repeat' first|refine wg ?_|(refine sq ?_ ?_<;>intro hc<;>try exact hc.elim)|fail
   .all_goals try(refine aR ?_;simp [aG,results92])
    intro h;subst h;exact hc rfl
   .have hts:a.take (k+1)=b.take (k+1):=by rw [eA hlt,eA vT,hpre,hc]
    refine hK1 _ ⟨k+1,by omega,hts⟩ aH (by simp only;omega)
  .have ko:a.length<=k:=by omega
   rw [cX ko,cX (by omega)] at hpre;subst hpre;have W:=hk1;refine wl ?_;exact aK results92
theorem toStringS_ok [aC prog] (l:List bF) (hs:bV eX l<=1048576):Ok prog 33 [.sl .view 1 (l.map bW)] (.sl .own 1 (l.map bW)):=by
 have hl:l.length<=1048576:=by (try simp only [bV] at hs);omega
 have hb:(16:Int) * (l.length:Int)<=281474976710656:=by omega
 have hb2:(l.length:Int)<=9223372036854775807:=by omega
 generalize hz:([.str []]:List AV)=z;have hz0:=tK z (l.map bW);rw [lR] at hz0;refine bR aD func33 ntmps33 ?_;have W:=aA hb hb2;refine wl ?_;refine aL (ι:={k:Nat // k<=l.length}) (λt o i=>⟨bD t [(4,.int .i64 i.1)],[⟨true,false,1,1,wU z (l.map bW) i.1⟩]⟩)
  (λi=>l.length - i.1) ⟨0,by simp⟩ (aH (by simp [hz,hz0]) (by simp)) ?_
 rintro ⟨k,hk⟩ K1 hK1;simp only [bD,cW,cU] at hK1⊢;have hk1:=oW (k:=k);by_cases hlt:k < l.length
 .have hg:=aE hlt;have jv:=wE z (l.map bW) k (by simpa using hlt);have xX:=wF z (l.map bW) k (by simpa using hlt);rw [pT] at xX;simp only [bW] at xX;have Wo:z.length=1:=by rw [<-hz];rfl
  have jw:z.drop 1=[]:=by rw [<-hz];rfl
  have W:=aA hk1 (aA hg (aA jv (aA Wo (aA jw xX))));have V:=aA hk1 (aA hg hlt);refine wl ?_;refine hK1 _ ⟨k+1,by omega⟩ (aW 1 rfl ?_ (by simp) (by simp)) (by simp only;omega);simp
 .have W:=hk1;refine wl ?_;have jy:=wD z (l.map bW) k (by simpa using hlt);all_goals try(refine aR ?_;simp [aG,results33,jy])
theorem Av [aC prog] (l:List bF) (n:Int) (h0:0<=n) (h1:n<=1048576) (hw:l.length<=9223372036854775807/\∀y∈l,y.length<=9223372036854775807):Ok prog 22 [.sl .view 1 (l.map bW),.int .i64 n] (.int .i64 (sub n (bV eX l))):=by
 obtain ⟨hl,hw⟩:=hw;refine bR aD func22 ntmps22 ?_;have W:=trivial;repeat' first|refine wg ?_|(refine sq ?_ ?_<;>intro hc<;>try exact hc.elim)|fail
 .refine aR ?_;simp [aG,results22,sub,bV];omega
 .refine aL (ι:={k:Nat // k<=l.length/\l.length+aQ eX (l.take k)<=n}) (λt o i=>⟨bD t [(1,.int .i64 (n - (l.length+aQ eX (l.take i.1):Nat))),(5,.int .i64 i.1)],[]⟩)
   (λi=>l.length - i.1) ⟨0,by simp,by simp [aQ];omega⟩ (aH (by simp) (by simp [aQ])) ?_
  rintro ⟨k,hk,hs⟩ K1 hK1;simp only [bD,cW,cU] at hK1⊢;have hk1:=oW (k:=k);by_cases hlt:k < l.length
  .have hg:=aE hlt;have hts:=dC eX l k hlt;have htl:=dK eX l (k+1);have hwg:=hw _ (fR hlt);have W:=aA hk1 hg;repeat' first|refine wg ?_|(refine sq ?_ ?_<;>intro hc<;>try exact hc.elim)|fail
   .refine ⟨.inr rfl,?_⟩;simp [aG,results22,bV]
    (repeat clear hK K);simp only [sub,eX] at *;grind
   .refine hK1 _ ⟨k+1,by omega,by (repeat clear hK K);simp only [sub,eX] at *;grind⟩ (aH (by simp) ?_) (by simp only;omega);simp
    (repeat clear hK K);simp only [sub,eX] at *;grind
  .have W:=hk1;refine wl ?_;all_goals try(refine aR ?_;simp [aG,results22,bV])
   have:k=l.length:=by omega
   subst this;rw [rN] at *;rw [sub_pos (by omega)];omega
theorem Ay [aC prog] (a b:List bF) (hs:bV eX a<=1099511627776):Ok prog 45 [.sl .view 1 (a.map bW),.sl .view 1 (b.map bW)] (.bool (decide (a=b))):=by
 have hl:a.length<=1099511627776:=by (try simp only [bV] at hs);omega
 refine bR aD func45 ntmps45 ?_;have W:=trivial;repeat' first|refine wg ?_|(refine sq ?_ ?_<;>intro hc<;>try exact hc.elim)|fail
 .all_goals try(refine aR ?_;simp [aG,results45])
  intro h;subst h;exact absurd rfl hc
 .have hlen:a.length=b.length:=by omega
  refine aL (ι:={k:Nat // k<=a.length/\a.take k=b.take k}) (λt o i=>⟨bD t [(5,.int .i64 i.1)],[]⟩)
   (λi=>a.length - i.1) ⟨0,by simp⟩ aH ?_
  rintro ⟨k,hk,hpre⟩ K1 hK1;simp only [bD,cW,cU] at hK1⊢;have hk1:=oW (k:=k);by_cases hlt:k < a.length
  .have hg:=aE hlt;have vT:k < b.length:=by omega
   have kg:=aE vT;have W:=aA hk1 (aA hg (aA hlt (aA kg vT)));repeat' first|refine wg ?_|(refine sq ?_ ?_<;>intro hc<;>try exact hc.elim)|fail
   .all_goals try(refine aR ?_;simp [aG,results45])
    intro h;subst h;exact hc rfl
   .have hts:a.take (k+1)=b.take (k+1):=by rw [eA hlt,eA vT,hpre,hc]
    refine hK1 _ ⟨k+1,by omega,hts⟩ aH (by simp only;omega)
  .have ko:a.length<=k:=by omega
   rw [cX ko,cX (by omega)] at hpre;subst hpre;have W:=hk1;refine wl ?_;exact aK results45
theorem toAttrS_ok [aC prog] (l:List jY) (hs:bV gY l<=1048576):Ok prog 126 [.sl .view 2 (l.map gU)] (.sl .own 2 (l.map gU)):=by
 have hl:l.length<=1048576:=by (try simp only [bV] at hs);omega
 have hb:(32:Int) * (l.length:Int)<=281474976710656:=by omega
 have hb2:(l.length:Int)<=9223372036854775807:=by omega
 generalize hz:([.str [],.str []]:List AV)=z;have hz0:=tK z (l.map gU);rw [lR] at hz0;refine bR aD func126 ntmps126 ?_;have W:=aA hb hb2;refine wl ?_;refine aL (ι:={k:Nat // k<=l.length}) (λt o i=>⟨bD t [(4,.int .i64 i.1)],[⟨true,false,2,1,wU z (l.map gU) i.1⟩]⟩)
  (λi=>l.length - i.1) ⟨0,by simp⟩ (aH (by simp [hz,hz0]) (by simp)) ?_
 rintro ⟨k,hk⟩ K1 hK1;simp only [bD,cW,cU] at hK1⊢;have hk1:=oW (k:=k);by_cases hlt:k < l.length
 .have hg:=aE hlt;have jv:=wE z (l.map gU) k (by simpa using hlt);have xX:=wF z (l.map gU) k (by simpa using hlt);rw [pT] at xX;simp only [gU] at xX;have Wo:z.length=2:=by rw [<-hz];rfl
  have jw:z.drop 2=[]:=by rw [<-hz];rfl
  have W:=aA hk1 (aA hg (aA jv (aA Wo (aA jw xX))));have V:=aA hk1 (aA hg hlt);repeat' first|refine wg ?_|(refine nx ?_;refine sk (hc:=toAttr_ok l[k] (by have:=dZ gY l k hlt;(try simp only [bV] at hs);omega)) (h:=?_))|(refine sq ?_ ?_<;>intro hc<;>try exact hc.elim)|fail
  refine hK1 _ ⟨k+1,by omega⟩ (aW 1 rfl ?_ (by simp) (by simp)) (by simp only;omega);simp
 .have W:=hk1;refine wl ?_;have jy:=wD z (l.map gU) k (by simpa using hlt);all_goals try(refine aR ?_;simp [aG,results126,jy])
theorem Qy [aC prog] (l:List jY) (n:Int) (h0:0<=n) (h1:n<=1048576) (hw:l.length<=9223372036854775807/\∀y∈l,Lm y):Ok prog 102 [.sl .view 2 (l.map gU),.int .i64 n] (.int .i64 (sub n (bV gY l))):=by
 obtain ⟨hl,hw⟩:=hw;refine bR aD func102 ntmps102 ?_;have W:=trivial;repeat' first|refine wg ?_|(refine sq ?_ ?_<;>intro hc<;>try exact hc.elim)|fail
 .refine aR ?_;simp [aG,results102,sub,bV];omega
 .refine aL (ι:={k:Nat // k<=l.length/\l.length+aQ gY (l.take k)<=n}) (λt o i=>⟨bD t [(1,.int .i64 (n - (l.length+aQ gY (l.take i.1):Nat))),(5,.int .i64 i.1)],[]⟩)
   (λi=>l.length - i.1) ⟨0,by simp,by simp [aQ];omega⟩ (aH (by simp) (by simp [aQ])) ?_
  rintro ⟨k,hk,hs⟩ K1 hK1;simp only [bD,cW,cU] at hK1⊢;have hk1:=oW (k:=k);by_cases hlt:k < l.length
  .have hg:=aE hlt;have hts:=dC gY l k hlt;have htl:=dK gY l (k+1);have hwg:=hw _ (fR hlt);have W:=aA hk1 hg;repeat' first|refine wg ?_|(refine nx ?_;refine sk (hc:=G9 _ _ (by omega) (by omega) hwg) (h:=?_))|(refine sq ?_ ?_<;>intro hc<;>try exact hc.elim)|fail
   .refine ⟨.inr rfl,?_⟩;simp [aG,results102,bV]
    (repeat clear hK K);simp only [sub] at *;grind
   .refine hK1 _ ⟨k+1,by omega,by (repeat clear hK K);simp only [sub] at *;grind⟩ (aH (by simp) ?_) (by simp only;omega);simp
    (repeat clear hK K);simp only [sub] at *;grind
  .have W:=hk1;refine wl ?_;all_goals try(refine aR ?_;simp [aG,results102,bV])
   have:k=l.length:=by omega
   subst this;rw [rN] at *;rw [sub_pos (by omega)];omega
theorem Qz [aC prog] (a b:List jY) (hs:bV gY a<=1099511627776):Ok prog 156 [.sl .view 2 (a.map gU),.sl .view 2 (b.map gU)] (.bool (decide (a=b))):=by
 have hl:a.length<=1099511627776:=by (try simp only [bV] at hs);omega
 refine bR aD func156 ntmps156 ?_;have W:=trivial;repeat' first|refine wg ?_|(refine sq ?_ ?_<;>intro hc<;>try exact hc.elim)|fail
 .all_goals try(refine aR ?_;simp [aG,results156])
  intro h;subst h;exact absurd rfl hc
 .have hlen:a.length=b.length:=by omega
  refine aL (ι:={k:Nat // k<=a.length/\a.take k=b.take k}) (λt o i=>⟨bD t [(5,.int .i64 i.1)],[]⟩)
   (λi=>a.length - i.1) ⟨0,by simp⟩ aH ?_
  rintro ⟨k,hk,hpre⟩ K1 hK1;simp only [bD,cW,cU] at hK1⊢;have hk1:=oW (k:=k);by_cases hlt:k < a.length
  .have hg:=aE hlt;have vT:k < b.length:=by omega
   have kg:=aE vT;have W:=aA hk1 (aA hg (aA hlt (aA kg vT)));repeat' first|refine wg ?_|(refine nx ?_;refine sk (hc:=H5 a[k] b[k] (by have:=dZ gY a k hlt;(try simp only [bV] at hs);omega)) (h:=?_))|(refine sq ?_ ?_<;>intro hc<;>try exact hc.elim)|fail
   .all_goals try(refine aR ?_;simp [aG,results156])
    intro h;subst h;exact hc rfl
   .have hts:a.take (k+1)=b.take (k+1):=by rw [eA hlt,eA vT,hpre,hc]
    refine hK1 _ ⟨k+1,by omega,hts⟩ aH (by simp only;omega)
  .have ko:a.length<=k:=by omega
   rw [cX ko,cX (by omega)] at hpre;subst hpre;have W:=hk1;refine wl ?_;exact aK results156
theorem toAddrS_ok [aC prog] (l:List aT) (hs:bV aU l<=1048576):Ok prog 32 [.sl .view 2 (l.map aO)] (.sl .own 2 (l.map aO)):=by
 have hl:l.length<=1048576:=by (try simp only [bV] at hs);omega
 have hb:(32:Int) * (l.length:Int)<=281474976710656:=by omega
 have hb2:(l.length:Int)<=9223372036854775807:=by omega
 generalize hz:([.str [],.str []]:List AV)=z;have hz0:=tK z (l.map aO);rw [lR] at hz0;refine bR aD func32 ntmps32 ?_;have W:=aA hb hb2;refine wl ?_;refine aL (ι:={k:Nat // k<=l.length}) (λt o i=>⟨bD t [(4,.int .i64 i.1)],[⟨true,false,2,1,wU z (l.map aO) i.1⟩]⟩)
  (λi=>l.length - i.1) ⟨0,by simp⟩ (aH (by simp [hz,hz0]) (by simp)) ?_
 rintro ⟨k,hk⟩ K1 hK1;simp only [bD,cW,cU] at hK1⊢;have hk1:=oW (k:=k);by_cases hlt:k < l.length
 .have hg:=aE hlt;have jv:=wE z (l.map aO) k (by simpa using hlt);have xX:=wF z (l.map aO) k (by simpa using hlt);rw [pT] at xX;simp only [aO] at xX;have Wo:z.length=2:=by rw [<-hz];rfl
  have jw:z.drop 2=[]:=by rw [<-hz];rfl
  have W:=aA hk1 (aA hg (aA jv (aA Wo (aA jw xX))));have V:=aA hk1 (aA hg hlt);repeat' first|refine wg ?_|(refine nx ?_;refine sk (hc:=toAddr_ok l[k] (by have:=dZ aU l k hlt;(try simp only [bV] at hs);omega)) (h:=?_))|(refine sq ?_ ?_<;>intro hc<;>try exact hc.elim)|fail
  refine hK1 _ ⟨k+1,by omega⟩ (aW 1 rfl ?_ (by simp) (by simp)) (by simp only;omega);simp
 .have W:=hk1;refine wl ?_;have jy:=wD z (l.map aO) k (by simpa using hlt);all_goals try(refine aR ?_;simp [aG,results32,jy])
theorem QA [aC prog] (l:List aT) (n:Int) (h0:0<=n) (h1:n<=1048576) (hw:l.length<=9223372036854775807/\∀y∈l,Cz y):Ok prog 21 [.sl .view 2 (l.map aO),.int .i64 n] (.int .i64 (sub n (bV aU l))):=by
 obtain ⟨hl,hw⟩:=hw;refine bR aD func21 ntmps21 ?_;have W:=trivial;repeat' first|refine wg ?_|(refine sq ?_ ?_<;>intro hc<;>try exact hc.elim)|fail
 .refine aR ?_;simp [aG,results21,sub,bV];omega
 .refine aL (ι:={k:Nat // k<=l.length/\l.length+aQ aU (l.take k)<=n}) (λt o i=>⟨bD t [(1,.int .i64 (n - (l.length+aQ aU (l.take i.1):Nat))),(5,.int .i64 i.1)],[]⟩)
   (λi=>l.length - i.1) ⟨0,by simp,by simp [aQ];omega⟩ (aH (by simp) (by simp [aQ])) ?_
  rintro ⟨k,hk,hs⟩ K1 hK1;simp only [bD,cW,cU] at hK1⊢;have hk1:=oW (k:=k);by_cases hlt:k < l.length
  .have hg:=aE hlt;have hts:=dC aU l k hlt;have htl:=dK aU l (k+1);have hwg:=hw _ (fR hlt);have W:=aA hk1 hg;repeat' first|refine wg ?_|(refine nx ?_;refine sk (hc:=Db _ _ (by omega) (by omega) hwg) (h:=?_))|(refine sq ?_ ?_<;>intro hc<;>try exact hc.elim)|fail
   .refine ⟨.inr rfl,?_⟩;simp [aG,results21,bV]
    (repeat clear hK K);simp only [sub] at *;grind
   .refine hK1 _ ⟨k+1,by omega,by (repeat clear hK K);simp only [sub] at *;grind⟩ (aH (by simp) ?_) (by simp only;omega);simp
    (repeat clear hK K);simp only [sub] at *;grind
  .have W:=hk1;refine wl ?_;all_goals try(refine aR ?_;simp [aG,results21,bV])
   have:k=l.length:=by omega
   subst this;rw [rN] at *;rw [sub_pos (by omega)];omega
theorem QB [aC prog] (a b:List aT) (hs:bV aU a<=1099511627776):Ok prog 44 [.sl .view 2 (a.map aO),.sl .view 2 (b.map aO)] (.bool (decide (a=b))):=by
 have hl:a.length<=1099511627776:=by (try simp only [bV] at hs);omega
 refine bR aD func44 ntmps44 ?_;have W:=trivial;repeat' first|refine wg ?_|(refine sq ?_ ?_<;>intro hc<;>try exact hc.elim)|fail
 .all_goals try(refine aR ?_;simp [aG,results44])
  intro h;subst h;exact absurd rfl hc
 .have hlen:a.length=b.length:=by omega
  refine aL (ι:={k:Nat // k<=a.length/\a.take k=b.take k}) (λt o i=>⟨bD t [(5,.int .i64 i.1)],[]⟩)
   (λi=>a.length - i.1) ⟨0,by simp⟩ aH ?_
  rintro ⟨k,hk,hpre⟩ K1 hK1;simp only [bD,cW,cU] at hK1⊢;have hk1:=oW (k:=k);by_cases hlt:k < a.length
  .have hg:=aE hlt;have vT:k < b.length:=by omega
   have kg:=aE vT;have W:=aA hk1 (aA hg (aA hlt (aA kg vT)));repeat' first|refine wg ?_|(refine nx ?_;refine sk (hc:=Gd a[k] b[k] (by have:=dZ aU a k hlt;(try simp only [bV] at hs);omega)) (h:=?_))|(refine sq ?_ ?_<;>intro hc<;>try exact hc.elim)|fail
   .all_goals try(refine aR ?_;simp [aG,results44])
    intro h;subst h;exact hc rfl
   .have hts:a.take (k+1)=b.take (k+1):=by rw [eA hlt,eA vT,hpre,hc]
    refine hK1 _ ⟨k+1,by omega,hts⟩ aH (by simp only;omega)
  .have ko:a.length<=k:=by omega
   rw [cX ko,cX (by omega)] at hpre;subst hpre;have W:=hk1;refine wl ?_;exact aK results44
theorem toSlot_ok [aC prog] (a:kJ) (hs:gQ a<=1048576):Ok prog 78 [.agg (iY a)] (.agg (iY a)):=by
 simp only [gQ] at hs;refine bR aD func78 ntmps78 ?_;have W:=trivial;repeat' first|refine wg ?_|(refine nx ?_;refine sk (hc:=toAddr_ok a.to (by omega)) (h:=?_))|(refine sq ?_ ?_<;>intro hc<;>try exact hc.elim)|fail
 exact aK results78
theorem H8 [aC prog] (a:kJ) (n:Int) (h0:0<=n) (h1:n<=1048576) (hw:Qc a):Ok prog 63 [.agg (iY a),.int .i64 n] (.int .i64 (sub n (gQ a))):=by
 simp only [Qc] at hw;obtain ⟨wto,aP7,aJa⟩:=hw;refine bR aD func63 ntmps63 ?_;have W:=trivial;repeat' first|refine wg ?_|(refine nx ?_;refine sk (hc:=Db a.to _ (by omega) (by repeat' (first|omega|apply lY|apply jR)) wto) (h:=?_))|(refine sq ?_ ?_<;>intro hc<;>try exact hc.elim)|fail
 all_goals try(refine aR ?_;simp [aG,results63,gQ])
 all_goals (
  (try generalize e0:sub n (aU a.to)=m0 at *)
  (try (first|have f0:=lZ e0 (by omega)|have f0:=jS e0 (by omega) (by omega)))
  repeat (simp (disch:=omega) only [wrap64] at *)
  (try simp only [sub]);(try split);all_goals omega)
theorem H9 [aC prog] (a b:kJ) (hs:gQ a<=1099511627776):Ok prog 93 [.agg (iY a),.agg (iY b)] (.bool (decide (a=b))):=by
 simp only [gQ] at hs;refine bR aD func93 ntmps93 ?_;have W:=trivial;repeat' first|refine wg ?_|(refine nx ?_;refine sk (hc:=Gd a.to b.to (by omega)) (h:=?_))|(refine sq ?_ ?_<;>intro hc<;>try exact hc.elim)|fail
 all_goals try(refine aR ?_;simp [aG,results93])
 all_goals ((repeat clear hK K);cases a;cases b;simp_all)
theorem toModule_ok [aC prog] (a:dB) (hs:bE a<=1048576):Ok prog 79 [.agg (bU a)] (.agg (bU a)):=by
 simp only [bE] at hs;refine bR aD func79 ntmps79 ?_;have W:=trivial;repeat' first|refine wg ?_|(refine nx ?_;refine sk (hc:=toAddr_ok a.to (by omega)) (h:=?_))|(refine sq ?_ ?_<;>intro hc<;>try exact hc.elim)|fail
 exact aK results79
theorem YM [aC prog] (a:dB) (n:Int) (h0:0<=n) (h1:n<=1048576) (hw:EU a):Ok prog 64 [.agg (bU a),.int .i64 n] (.int .i64 (sub n (bE a))):=by
 simp only [EU] at hw;obtain ⟨wto,aJa⟩:=hw;refine bR aD func64 ntmps64 ?_;have W:=trivial;repeat' first|refine wg ?_|(refine nx ?_;refine sk (hc:=Db a.to _ (by omega) (by repeat' (first|omega|apply lY|apply jR)) wto) (h:=?_))|(refine sq ?_ ?_<;>intro hc<;>try exact hc.elim)|fail
 all_goals try(refine aR ?_;simp [aG,results64,bE])
 all_goals (
  (try generalize e0:sub n (aU a.to)=m0 at *)
  (try (first|have f0:=lZ e0 (by omega)|have f0:=jS e0 (by omega) (by omega)))
  repeat (simp (disch:=omega) only [wrap64] at *)
  (try simp only [sub]);(try split);all_goals omega)
theorem YN [aC prog] (a b:dB) (hs:bE a<=1099511627776):Ok prog 94 [.agg (bU a),.agg (bU b)] (.bool (decide (a=b))):=by
 simp only [bE] at hs;refine bR aD func94 ntmps94 ?_;have W:=trivial;repeat' first|refine wg ?_|(refine nx ?_;refine sk (hc:=Gd a.to b.to (by omega)) (h:=?_))|(refine sq ?_ ?_<;>intro hc<;>try exact hc.elim)|fail
 all_goals try(refine aR ?_;simp [aG,results94])
 all_goals ((repeat clear hK K);cases a;cases b;simp_all)
theorem toPolicy_ok [aC prog] (a:dL) (hs:eB a<=1048576):Ok prog 26 [.agg (bM .view a)] (.agg (bM .own a)):=by
 simp only [eB] at hs;refine bR aD func26 ntmps26 ?_;have W:=trivial;repeat' first|refine wg ?_|(refine nx ?_;first|refine sk (hc:=toStringS_ok a.dG (by omega)) (h:=?_)|refine sk (hc:=toStringS_ok a.eZ (by omega)) (h:=?_)|refine sk (hc:=toStringS_ok a.fD (by omega)) (h:=?_))|(refine sq ?_ ?_<;>intro hc<;>try exact hc.elim)|fail
 exact aK results26
theorem YO [aC prog] (a:dL) (n:Int) (h0:0<=n) (h1:n<=1048576) (hw:Qa a):Ok prog 15 [.agg (bM .view a),.int .i64 n] (.int .i64 (sub n (eB a))):=by
 simp only [Qa] at hw;obtain ⟨aCx,aG9,aHa,aR0⟩:=hw;refine bR aD func15 ntmps15 ?_;have W:=trivial;repeat' first|refine wg ?_|(refine nx ?_;first|refine sk (hc:=Av a.dG _ (by omega) (by repeat' (first|omega|apply lY|apply jR)) aCx) (h:=?_)|refine sk (hc:=Av a.eZ _ (by omega) (by repeat' (first|omega|apply lY|apply jR)) aG9) (h:=?_)|refine sk (hc:=Av a.fD _ (by omega) (by repeat' (first|omega|apply lY|apply jR)) aHa) (h:=?_))|(refine sq ?_ ?_<;>intro hc<;>try exact hc.elim)|fail
 all_goals try(refine aR ?_;simp [aG,results15,eB])
 all_goals (
  (try generalize e0:sub n (bV eX a.dG)=m0 at *)
  (try (first|have f0:=lZ e0 (by omega)|have f0:=jS e0 (by omega) (by omega)))
  (try generalize e1:sub m0 (bV eX a.eZ)=m1 at *)
  (try (first|have f1:=lZ e1 (by omega)|have f1:=jS e1 (by omega) (by omega)))
  (try generalize e2:sub m1 (bV eX a.fD)=m2 at *)
  (try (first|have f2:=lZ e2 (by omega)|have f2:=jS e2 (by omega) (by omega)))
  repeat (simp (disch:=omega) only [wrap64] at *)
  (try simp only [sub]);(try split);all_goals omega)
theorem YP [aC prog] (a b:dL) (hs:eB a<=1099511627776):Ok prog 38 [.agg (bM .view a),.agg (bM .view b)] (.bool (decide (a=b))):=by
 simp only [eB] at hs;refine bR aD func38 ntmps38 ?_;have W:=trivial;repeat' first|refine wg ?_|(refine nx ?_;first|refine sk (hc:=Ay a.dG b.dG (by omega)) (h:=?_)|refine sk (hc:=Ay a.eZ b.eZ (by omega)) (h:=?_)|refine sk (hc:=Ay a.fD b.fD (by omega)) (h:=?_))|(refine sq ?_ ?_<;>intro hc<;>try exact hc.elim)|fail
 all_goals try(refine aR ?_;simp [aG,results38])
 all_goals ((repeat clear hK K);cases a;cases b;simp_all)
theorem toToken_ok [aC prog] (a:bP) (hs:bO a<=1048576):Ok prog 75 [.agg (bK .view a)] (.agg (bK .own a)):=by
 simp only [bO] at hs;refine bR aD func75 ntmps75 ?_;have W:=trivial;repeat' first|refine wg ?_|(refine nx ?_;refine sk (hc:=toAttrS_ok a.attrs (by omega)) (h:=?_))|(refine sq ?_ ?_<;>intro hc<;>try exact hc.elim)|fail
 exact aK results75
theorem kr [aC prog] (a:bP) (n:Int) (h0:0<=n) (h1:n<=1048576) (hw:JD a):Ok prog 60 [.agg (bK .view a),.int .i64 n] (.int .i64 (sub n (bO a))):=by
 simp only [JD] at hw;obtain ⟨aI9,ku,aOm⟩:=hw;refine bR aD func60 ntmps60 ?_;have W:=trivial;repeat' first|refine wg ?_|(refine nx ?_;refine sk (hc:=Qy a.attrs _ (by omega) (by repeat' (first|omega|apply lY|apply jR)) ku) (h:=?_))|(refine sq ?_ ?_<;>intro hc<;>try exact hc.elim)|fail
 all_goals try(refine aR ?_;simp [aG,results60,bO])
 all_goals (
  (try generalize e0:sub (n - (a.name.length:Int)) (bV gY a.attrs)=m0 at *)
  (try (first|have f0:=lZ e0 (by omega)|have f0:=jS e0 (by omega) (by omega)))
  repeat (simp (disch:=omega) only [wrap64] at *)
  (try simp only [sub]);(try split);all_goals omega)
theorem kz [aC prog] (a b:bP) (hs:bO a<=1099511627776):Ok prog 90 [.agg (bK .view a),.agg (bK .view b)] (.bool (decide (a=b))):=by
 simp only [bO] at hs;refine bR aD func90 ntmps90 ?_;have W:=trivial;repeat' first|refine wg ?_|(refine nx ?_;refine sk (hc:=Qz a.attrs b.attrs (by omega)) (h:=?_))|(refine sq ?_ ?_<;>intro hc<;>try exact hc.elim)|fail
 all_goals try(refine aR ?_;simp [aG,results90])
 all_goals ((repeat clear hK K);cases a;cases b;simp_all)
theorem toNode_ok [aC prog] (a:gF) (hs:iF a<=1048576):Ok prog 127 [.agg (dE .view a)] (.agg (dE .own a)):=by
 simp only [iF] at hs;refine bR aD func127 ntmps127 ?_;have W:=trivial;repeat' first|refine wg ?_|(refine nx ?_;refine sk (hc:=toAttrS_ok a.attrs (by omega)) (h:=?_))|(refine sq ?_ ?_<;>intro hc<;>try exact hc.elim)|fail
 exact aK results127
theorem K3 [aC prog] (a:gF) (n:Int) (h0:0<=n) (h1:n<=1048576) (hw:PZ a):Ok prog 103 [.agg (dE .view a),.int .i64 n] (.int .i64 (sub n (iF a))):=by
 simp only [PZ] at hw;obtain ⟨aI9,aOm,ku⟩:=hw;refine bR aD func103 ntmps103 ?_;have W:=trivial;repeat' first|refine wg ?_|(refine nx ?_;refine sk (hc:=Qy a.attrs _ (by omega) (by repeat' (first|omega|apply lY|apply jR)) ku) (h:=?_))|(refine sq ?_ ?_<;>intro hc<;>try exact hc.elim)|fail
 all_goals try(refine aR ?_;simp [aG,results103,iF])
 all_goals (
  (try generalize e0:sub (n - (a.name.length:Int) - (a.text.length:Int)) (bV gY a.attrs)=m0 at *)
  (try (first|have f0:=lZ e0 (by omega)|have f0:=jS e0 (by omega) (by omega)))
  repeat (simp (disch:=omega) only [wrap64] at *)
  (try simp only [sub]);(try split);all_goals omega)
theorem K4 [aC prog] (a b:gF) (hs:iF a<=1099511627776):Ok prog 157 [.agg (dE .view a),.agg (dE .view b)] (.bool (decide (a=b))):=by
 simp only [iF] at hs;refine bR aD func157 ntmps157 ?_;have W:=trivial;repeat' first|refine wg ?_|(refine nx ?_;refine sk (hc:=Qz a.attrs b.attrs (by omega)) (h:=?_))|(refine sq ?_ ?_<;>intro hc<;>try exact hc.elim)|fail
 all_goals try(refine aR ?_;simp [aG,results157])
 all_goals ((repeat clear hK K);cases a;cases b;simp_all)
theorem toSlotS_ok [aC prog] (l:List kJ) (hs:bV gQ l<=1048576):Ok prog 30 [.sl .view 8 (l.map iY)] (.sl .own 8 (l.map iY)):=by
 have hl:l.length<=1048576:=by (try simp only [bV] at hs);omega
 have hb:(96:Int) * (l.length:Int)<=281474976710656:=by omega
 have hb2:(l.length:Int)<=9223372036854775807:=by omega
 generalize hz:([.int .i64 0,.str [],.str [],.str [],.int .i64 0,.bool false,.int .i64 0,.str []]:List AV)=z;have hz0:=tK z (l.map iY);rw [lR] at hz0;refine bR aD func30 ntmps30 ?_;have W:=aA hb hb2;refine wl ?_;refine aL (ι:={k:Nat // k<=l.length}) (λt o i=>⟨bD t [(4,.int .i64 i.1)],[⟨true,false,8,1,wU z (l.map iY) i.1⟩]⟩)
  (λi=>l.length - i.1) ⟨0,by simp⟩ (aH (by simp [hz,hz0]) (by simp)) ?_
 rintro ⟨k,hk⟩ K1 hK1;simp only [bD,cW,cU] at hK1⊢;have hk1:=oW (k:=k);by_cases hlt:k < l.length
 .have hg:=aE hlt;have jv:=wE z (l.map iY) k (by simpa using hlt);have xX:=wF z (l.map iY) k (by simpa using hlt);rw [pT] at xX;simp only [iY] at xX;have Wo:z.length=8:=by rw [<-hz];rfl
  have jw:z.drop 8=[]:=by rw [<-hz];rfl
  have W:=aA hk1 (aA hg (aA jv (aA Wo (aA jw xX))));have V:=aA hk1 (aA hg hlt);repeat' first|refine wg ?_|(refine nx ?_;refine sk (hc:=toSlot_ok l[k] (by have:=dZ gQ l k hlt;(try simp only [bV] at hs);omega)) (h:=?_))|(refine sq ?_ ?_<;>intro hc<;>try exact hc.elim)|fail
  refine hK1 _ ⟨k+1,by omega⟩ (aW 1 rfl ?_ (by simp) (by simp)) (by simp only;omega);simp
 .have W:=hk1;refine wl ?_;have jy:=wD z (l.map iY) k (by simpa using hlt);all_goals try(refine aR ?_;simp [aG,results30,jy])
theorem ll [aC prog] (l:List kJ) (n:Int) (h0:0<=n) (h1:n<=1048576) (hw:l.length<=9223372036854775807/\∀y∈l,Qc y):Ok prog 19 [.sl .view 8 (l.map iY),.int .i64 n] (.int .i64 (sub n (bV gQ l))):=by
 obtain ⟨hl,hw⟩:=hw;refine bR aD func19 ntmps19 ?_;have W:=trivial;repeat' first|refine wg ?_|(refine sq ?_ ?_<;>intro hc<;>try exact hc.elim)|fail
 .refine aR ?_;simp [aG,results19,sub,bV];omega
 .refine aL (ι:={k:Nat // k<=l.length/\l.length+aQ gQ (l.take k)<=n}) (λt o i=>⟨bD t [(1,.int .i64 (n - (l.length+aQ gQ (l.take i.1):Nat))),(5,.int .i64 i.1)],[]⟩)
   (λi=>l.length - i.1) ⟨0,by simp,by simp [aQ];omega⟩ (aH (by simp) (by simp [aQ])) ?_
  rintro ⟨k,hk,hs⟩ K1 hK1;simp only [bD,cW,cU] at hK1⊢;have hk1:=oW (k:=k);by_cases hlt:k < l.length
  .have hg:=aE hlt;have hts:=dC gQ l k hlt;have htl:=dK gQ l (k+1);have hwg:=hw _ (fR hlt);have W:=aA hk1 hg;repeat' first|refine wg ?_|(refine nx ?_;refine sk (hc:=H8 _ _ (by omega) (by omega) hwg) (h:=?_))|(refine sq ?_ ?_<;>intro hc<;>try exact hc.elim)|fail
   .refine ⟨.inr rfl,?_⟩;simp [aG,results19,bV]
    (repeat clear hK K);simp only [sub] at *;grind
   .refine hK1 _ ⟨k+1,by omega,by (repeat clear hK K);simp only [sub] at *;grind⟩ (aH (by simp) ?_) (by simp only;omega);simp
    (repeat clear hK K);simp only [sub] at *;grind
  .have W:=hk1;refine wl ?_;all_goals try(refine aR ?_;simp [aG,results19,bV])
   have:k=l.length:=by omega
   subst this;rw [rN] at *;rw [sub_pos (by omega)];omega
theorem lq [aC prog] (a b:List kJ) (hs:bV gQ a<=1099511627776):Ok prog 42 [.sl .view 8 (a.map iY),.sl .view 8 (b.map iY)] (.bool (decide (a=b))):=by
 have hl:a.length<=1099511627776:=by (try simp only [bV] at hs);omega
 refine bR aD func42 ntmps42 ?_;have W:=trivial;repeat' first|refine wg ?_|(refine sq ?_ ?_<;>intro hc<;>try exact hc.elim)|fail
 .all_goals try(refine aR ?_;simp [aG,results42])
  intro h;subst h;exact absurd rfl hc
 .have hlen:a.length=b.length:=by omega
  refine aL (ι:={k:Nat // k<=a.length/\a.take k=b.take k}) (λt o i=>⟨bD t [(5,.int .i64 i.1)],[]⟩)
   (λi=>a.length - i.1) ⟨0,by simp⟩ aH ?_
  rintro ⟨k,hk,hpre⟩ K1 hK1;simp only [bD,cW,cU] at hK1⊢;have hk1:=oW (k:=k);by_cases hlt:k < a.length
  .have hg:=aE hlt;have vT:k < b.length:=by omega
   have kg:=aE vT;have W:=aA hk1 (aA hg (aA hlt (aA kg vT)));repeat' first|refine wg ?_|(refine nx ?_;refine sk (hc:=H9 a[k] b[k] (by have:=dZ gQ a k hlt;(try simp only [bV] at hs);omega)) (h:=?_))|(refine sq ?_ ?_<;>intro hc<;>try exact hc.elim)|fail
   .all_goals try(refine aR ?_;simp [aG,results42])
    intro h;subst h;exact hc rfl
   .have hts:a.take (k+1)=b.take (k+1):=by rw [eA hlt,eA vT,hpre,hc]
    refine hK1 _ ⟨k+1,by omega,hts⟩ aH (by simp only;omega)
  .have ko:a.length<=k:=by omega
   rw [cX ko,cX (by omega)] at hpre;subst hpre;have W:=hk1;refine wl ?_;exact aK results42
theorem toModuleS_ok [aC prog] (l:List dB) (hs:bV bE l<=1048576):Ok prog 31 [.sl .view 5 (l.map bU)] (.sl .own 5 (l.map bU)):=by
 have hl:l.length<=1048576:=by (try simp only [bV] at hs);omega
 have hb:(64:Int) * (l.length:Int)<=281474976710656:=by omega
 have hb2:(l.length:Int)<=9223372036854775807:=by omega
 generalize hz:([.str [],.str [],.bool false,.int .i64 0,.str []]:List AV)=z;have hz0:=tK z (l.map bU);rw [lR] at hz0;refine bR aD func31 ntmps31 ?_;have W:=aA hb hb2;refine wl ?_;refine aL (ι:={k:Nat // k<=l.length}) (λt o i=>⟨bD t [(4,.int .i64 i.1)],[⟨true,false,5,1,wU z (l.map bU) i.1⟩]⟩)
  (λi=>l.length - i.1) ⟨0,by simp⟩ (aH (by simp [hz,hz0]) (by simp)) ?_
 rintro ⟨k,hk⟩ K1 hK1;simp only [bD,cW,cU] at hK1⊢;have hk1:=oW (k:=k);by_cases hlt:k < l.length
 .have hg:=aE hlt;have jv:=wE z (l.map bU) k (by simpa using hlt);have xX:=wF z (l.map bU) k (by simpa using hlt);rw [pT] at xX;simp only [bU] at xX;have Wo:z.length=5:=by rw [<-hz];rfl
  have jw:z.drop 5=[]:=by rw [<-hz];rfl
  have W:=aA hk1 (aA hg (aA jv (aA Wo (aA jw xX))));have V:=aA hk1 (aA hg hlt);repeat' first|refine wg ?_|(refine nx ?_;refine sk (hc:=toModule_ok l[k] (by have:=dZ bE l k hlt;(try simp only [bV] at hs);omega)) (h:=?_))|(refine sq ?_ ?_<;>intro hc<;>try exact hc.elim)|fail
  refine hK1 _ ⟨k+1,by omega⟩ (aW 1 rfl ?_ (by simp) (by simp)) (by simp only;omega);simp
 .have W:=hk1;refine wl ?_;have jy:=wD z (l.map bU) k (by simpa using hlt);all_goals try(refine aR ?_;simp [aG,results31,jy])
theorem WM [aC prog] (l:List dB) (n:Int) (h0:0<=n) (h1:n<=1048576) (hw:l.length<=9223372036854775807/\∀y∈l,EU y):Ok prog 20 [.sl .view 5 (l.map bU),.int .i64 n] (.int .i64 (sub n (bV bE l))):=by
 obtain ⟨hl,hw⟩:=hw;refine bR aD func20 ntmps20 ?_;have W:=trivial;repeat' first|refine wg ?_|(refine sq ?_ ?_<;>intro hc<;>try exact hc.elim)|fail
 .refine aR ?_;simp [aG,results20,sub,bV];omega
 .refine aL (ι:={k:Nat // k<=l.length/\l.length+aQ bE (l.take k)<=n}) (λt o i=>⟨bD t [(1,.int .i64 (n - (l.length+aQ bE (l.take i.1):Nat))),(5,.int .i64 i.1)],[]⟩)
   (λi=>l.length - i.1) ⟨0,by simp,by simp [aQ];omega⟩ (aH (by simp) (by simp [aQ])) ?_
  rintro ⟨k,hk,hs⟩ K1 hK1;simp only [bD,cW,cU] at hK1⊢;have hk1:=oW (k:=k);by_cases hlt:k < l.length
  .have hg:=aE hlt;have hts:=dC bE l k hlt;have htl:=dK bE l (k+1);have hwg:=hw _ (fR hlt);have W:=aA hk1 hg;repeat' first|refine wg ?_|(refine nx ?_;refine sk (hc:=YM _ _ (by omega) (by omega) hwg) (h:=?_))|(refine sq ?_ ?_<;>intro hc<;>try exact hc.elim)|fail
   .refine ⟨.inr rfl,?_⟩;simp [aG,results20,bV]
    (repeat clear hK K);simp only [sub] at *;grind
   .refine hK1 _ ⟨k+1,by omega,by (repeat clear hK K);simp only [sub] at *;grind⟩ (aH (by simp) ?_) (by simp only;omega);simp
    (repeat clear hK K);simp only [sub] at *;grind
  .have W:=hk1;refine wl ?_;all_goals try(refine aR ?_;simp [aG,results20,bV])
   have:k=l.length:=by omega
   subst this;rw [rN] at *;rw [sub_pos (by omega)];omega
theorem WN [aC prog] (a b:List dB) (hs:bV bE a<=1099511627776):Ok prog 43 [.sl .view 5 (a.map bU),.sl .view 5 (b.map bU)] (.bool (decide (a=b))):=by
 have hl:a.length<=1099511627776:=by (try simp only [bV] at hs);omega
 refine bR aD func43 ntmps43 ?_;have W:=trivial;repeat' first|refine wg ?_|(refine sq ?_ ?_<;>intro hc<;>try exact hc.elim)|fail
 .all_goals try(refine aR ?_;simp [aG,results43])
  intro h;subst h;exact absurd rfl hc
 .have hlen:a.length=b.length:=by omega
  refine aL (ι:={k:Nat // k<=a.length/\a.take k=b.take k}) (λt o i=>⟨bD t [(5,.int .i64 i.1)],[]⟩)
   (λi=>a.length - i.1) ⟨0,by simp⟩ aH ?_
  rintro ⟨k,hk,hpre⟩ K1 hK1;simp only [bD,cW,cU] at hK1⊢;have hk1:=oW (k:=k);by_cases hlt:k < a.length
  .have hg:=aE hlt;have vT:k < b.length:=by omega
   have kg:=aE vT;have W:=aA hk1 (aA hg (aA hlt (aA kg vT)));repeat' first|refine wg ?_|(refine nx ?_;refine sk (hc:=YN a[k] b[k] (by have:=dZ bE a k hlt;(try simp only [bV] at hs);omega)) (h:=?_))|(refine sq ?_ ?_<;>intro hc<;>try exact hc.elim)|fail
   .all_goals try(refine aR ?_;simp [aG,results43])
    intro h;subst h;exact hc rfl
   .have hts:a.take (k+1)=b.take (k+1):=by rw [eA hlt,eA vT,hpre,hc]
    refine hK1 _ ⟨k+1,by omega,hts⟩ aH (by simp only;omega)
  .have ko:a.length<=k:=by omega
   rw [cX ko,cX (by omega)] at hpre;subst hpre;have W:=hk1;refine wl ?_;exact aK results43
theorem jA {α:Type} (f:α->Nat):∀a b:List α,aQ f (a++b)=aQ f a+aQ f b
 |[],b=>by simp [aQ]
 |x::xs,b=>by simp only [eI,aQ,jA f xs b];omega
theorem O6 (p:aI):Fx p<=20 * aF p+20:=by have h1:=Ma 3 O5 p.queue;have h2:=Ma 3 aD3 p.builder.nodes;simp only [aF,eB,aP,bV,Fx,pV,oL,iA];omega
theorem Rf (g:aI) (hg:aF g<=1099511627776):(Fx g<=21990232555540/\g.queue.length<=4611686018427387904)/\(∀x∈g.queue,x.attrs.length<=4611686018427387904)/\g.builder.nodes.length<=4611686018427387904/\(∀x∈g.builder.nodes,x.attrs.length<=4611686018427387904):=by
 have h:=O6 g;refine ⟨⟨by omega,?_⟩,?_,?_,?_⟩
 .simp only [aF,bV] at hg;omega
 .exact Zy (by simp only [aF,bV] at hg;omega)
 .simp only [aF,aP,bV] at hg;omega
 .exact qf (by simp only [aF,aP,bV] at hg;omega)
end Go.Proofs.YtjmpjmilndkgfaaGreatDoor
