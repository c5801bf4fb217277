/- Proved here: steps towards the statement of this claim. No condition. -/
import Derived.Test.YtfbefblglejcaaaGreatDoorZQT3
set_option linter.all false
set_option maxRecDepth 4000
set_option maxHeartbeats 4000000
namespace Go.Proofs.YtfbefblglejcaaaGreatDoor
open Go.Aw Proofs.Tryz List IntKind
theorem toEntry_ok[aC prog](a:fH)(hs:gN a<=1048576):Ok prog 77 [.agg (fP a)] (.agg (fP a)):=by
 simp only[gN]at hs;refine bM aF func77 ntmps77 ?_;have W:=trivial;repeat' first|refine wg ?_|(refine nx ?_;first|refine sk (hc:=toAddr_ok a.to (by omega)) (h:=?_)|refine sk (hc:=toResponse_ok a.response (by omega)) (h:=?_))|(refine sq ?_ ?_<;>intro hc<;>try exact hc.elim)|fail
 exact aD results77
theorem wz[aC prog](a:fH)(n:Int)(h0:0<=n)(h1:n<=1048576)(hw:Le a):Ok prog 55 [.agg (fP a),.int .i64 n] (.int .i64 (sub n (gN a))):=by
 simp only[Le]at hw;obtain⟨aTy,wto,Nv⟩:=hw;refine bM aF func55 ntmps55 ?_;have W:=trivial;repeat' first|refine wg ?_|(refine nx ?_;first|refine sk (hc:=Nu a.to _ (by omega) (by repeat' (first|omega|apply yF|apply vW)) wto) (h:=?_)|refine sk (hc:=IY a.response _ (by omega) (by repeat' (first|omega|apply yF|apply vW)) Nv) (h:=?_))|(refine sq ?_ ?_<;>intro hc<;>try exact hc.elim)|fail
 all_goals try(refine aQ ?_;simp[aP,results55,gN])
 all_goals (
  (try generalize e0:sub (n-(a.top.length:Int)) (aR a.to)=m0 at*)
  (try (first|have f0:=yG e0 (by omega)|have f0:=vX e0 (by omega) (by omega)))
  (try generalize e1:sub m0 (bG a.response)=m1 at*)
  (try (first|have f1:=yG e1 (by omega)|have f1:=vX e1 (by omega) (by omega)))
  repeat (simp (disch:=omega) only[wrap64]at*)
  (try simp only[sub]);(try split);all_goals omega)
theorem xc[aC prog](a b:fH)(hs:gN a<=1099511627776):Ok prog 95 [.agg (fP a),.agg (fP b)] (.bool (decide (a=b))):=by
 simp only[gN]at hs;refine bM aF func95 ntmps95 ?_;have W:=trivial;repeat' first|refine wg ?_|(refine nx ?_;first|refine sk (hc:=Wl a.to b.to (by omega)) (h:=?_)|refine sk (hc:=IZ a.response b.response (by omega)) (h:=?_))|(refine sq ?_ ?_<;>intro hc<;>try exact hc.elim)|fail
 all_goals try(refine aQ ?_;simp[aP,results95])
 all_goals ((repeat clear hK K);cases a;cases b;simp_all)
theorem toEntryS_ok[aC prog](l:List fH)(hs:bQ gN l<=1048576):Ok prog 41 [.sl .view 10 (l.map fP)] (.sl .own 10 (l.map fP)):=by
 have hl:l.length<=1048576:=by(try simp only[bQ]at hs);omega
 have hb:(120:Int)*(l.length:Int)<=281474976710656:=by omega
 have hb2:(l.length:Int)<=9223372036854775807:=by omega
 generalize hz:([.str [],.str [],.str [],.int .i64 0,.int .i64 0,.str [],.int .i64 0,.bool false,.str [],.int .i64 0]:List AV)=z;have hz0:=EC z (l.map fP);rw[oY]at hz0;refine bM aF func41 ntmps41 ?_;have W:=aA hb hb2;refine wl ?_;refine aO (ι:={k:Nat // k<=l.length}) (λt o i=>⟨bC t [(4,.int .i64 i.1)],[⟨true,false,10,1,BD z (l.map fP) i.1⟩]⟩)
  (λi=>l.length-i.1) ⟨0,by simp⟩ (aJ (by simp[hz,hz0]) (by simp)) ?_
 rintro⟨k,hk⟩ K1 hK1;simp only[bC,cW,cU]at hK1⊢;have hk1:=oQ (k:=k);by_cases hlt:k<l.length
 .have hg:=aE hlt;have hfg:=Hr z (l.map fP) k (by simpa using hlt);have Ep:=Ht z (l.map fP) k (by simpa using hlt);rw[AH]at Ep;simp only[fP]at Ep;have hzl:z.length=10:=by rw[<-hz];rfl
  have hzd:z.drop 10=[]:=by rw[<-hz];rfl
  have W:=aA hk1 (aA hg (aA hfg (aA hzl (aA hzd Ep))));have V:=aA hk1 (aA hg hlt);repeat' first|refine wg ?_|(refine nx ?_;refine sk (hc:=toEntry_ok l[k] (by have:=dK gN l k hlt;(try simp only[bQ]at hs);omega)) (h:=?_))|(refine sq ?_ ?_<;>intro hc<;>try exact hc.elim)|fail
  refine hK1 _ ⟨k+1,by omega⟩ (aV 1 rfl ?_ (by simp) (by simp)) (by simp only;omega);simp
 .have W:=hk1;refine wl ?_;have hfa:=Hq z (l.map fP) k (by simpa using hlt);all_goals try(refine aQ ?_;simp[aP,results41,hfa])
theorem ai[aC prog](l:List fH)(n:Int)(h0:0<=n)(h1:n<=1048576)(hw:l.length<=9223372036854775807/\∀y∈l,Le y):Ok prog 31 [.sl .view 10 (l.map fP),.int .i64 n] (.int .i64 (sub n (bQ gN l))):=by
 obtain⟨hl,hw⟩:=hw;refine bM aF func31 ntmps31 ?_;have W:=trivial;repeat' first|refine wg ?_|(refine sq ?_ ?_<;>intro hc<;>try exact hc.elim)|fail
 .refine aQ ?_;simp[aP,results31,sub,bQ];omega
 .refine aO (ι:={k:Nat // k<=l.length/\l.length+bA gN (l.take k)<=n}) (λt o i=>⟨bC t [(1,.int .i64 (n-(l.length+bA gN (l.take i.1):Nat))),(5,.int .i64 i.1)],[]⟩)
   (λi=>l.length-i.1) ⟨0,by simp,by simp[bA];omega⟩ (aJ (by simp) (by simp[bA])) ?_
  rintro⟨k,hk,hs⟩ K1 hK1;simp only[bC,cW,cU]at hK1⊢;have hk1:=oQ (k:=k);by_cases hlt:k<l.length
  .have hg:=aE hlt;have hts:=iX gN l k hlt;have htl:=jV gN l (k+1);have hwg:=hw _ (fS hlt);have W:=aA hk1 hg;repeat' first|refine wg ?_|(refine nx ?_;refine sk (hc:=wz _ _ (by omega) (by omega) hwg) (h:=?_))|(refine sq ?_ ?_<;>intro hc<;>try exact hc.elim)|fail
   .refine ⟨.inr rfl,?_⟩;simp[aP,results31,bQ]
    (repeat clear hK K);simp only[sub]at*;grind
   .refine hK1 _ ⟨k+1,by omega,by(repeat clear hK K);simp only[sub]at*;grind⟩ (aJ (by simp) ?_) (by simp only;omega);simp
    (repeat clear hK K);simp only[sub]at*;grind
  .have W:=hk1;refine wl ?_;all_goals try(refine aQ ?_;simp[aP,results31,bQ])
   have:k=l.length:=by omega
   subst this;rw[At]at*;rw[sub_pos (by omega)];omega
theorem aj[aC prog](a b:List fH)(hs:bQ gN a<=1099511627776):Ok prog 50 [.sl .view 10 (a.map fP),.sl .view 10 (b.map fP)] (.bool (decide (a=b))):=by
 have hl:a.length<=1099511627776:=by(try simp only[bQ]at hs);omega
 refine bM aF func50 ntmps50 ?_;have W:=trivial;repeat' first|refine wg ?_|(refine sq ?_ ?_<;>intro hc<;>try exact hc.elim)|fail
 .all_goals try(refine aQ ?_;simp[aP,results50])
  intro h;subst h;exact absurd rfl hc
 .have hlen:a.length=b.length:=by omega
  refine aO (ι:={k:Nat // k<=a.length/\a.take k=b.take k}) (λt o i=>⟨bC t [(5,.int .i64 i.1)],[]⟩)
   (λi=>a.length-i.1) ⟨0,by simp⟩ aJ ?_
  rintro⟨k,hk,hpre⟩ K1 hK1;simp only[bC,cW,cU]at hK1⊢;have hk1:=oQ (k:=k);by_cases hlt:k<a.length
  .have hg:=aE hlt;have EJ:k<b.length:=by omega
   have hgb:=aE EJ;have W:=aA hk1 (aA hg (aA hlt (aA hgb EJ)));repeat' first|refine wg ?_|(refine nx ?_;refine sk (hc:=xc a[k] b[k] (by have:=dK gN a k hlt;(try simp only[bQ]at hs);omega)) (h:=?_))|(refine sq ?_ ?_<;>intro hc<;>try exact hc.elim)|fail
   .all_goals try(refine aQ ?_;simp[aP,results50])
    intro h;subst h;exact hc rfl
   .have hts:a.take (k+1)=b.take (k+1):=by rw[eI hlt,eI EJ,hpre,hc]
    refine hK1 _ ⟨k+1,by omega,hts⟩ aJ (by simp only;omega)
  .have hka:a.length<=k:=by omega
   rw[cY hka,cY (by omega)]at hpre;subst hpre;have W:=hk1;refine wl ?_;exact aD results50
theorem toCache_ok[aC prog](a:oV)(hs:nP a<=1048576):Ok prog 20 [.agg (gU .view a)] (.agg (gU .own a)):=by
 simp only[nP]at hs;refine bM aF func20 ntmps20 ?_;have W:=trivial;repeat' first|refine wg ?_|(refine nx ?_;refine sk (hc:=toEntryS_ok a.entries (by omega)) (h:=?_))|(refine sq ?_ ?_<;>intro hc<;>try exact hc.elim)|fail
 exact aD results20
theorem xe[aC prog](a:oV)(n:Int)(h0:0<=n)(h1:n<=1048576)(hw:Xy a):Ok prog 16 [.agg (gU .view a),.int .i64 n] (.int .i64 (sub n (nP a))):=by
 simp only[Xy]at hw;have aEy:=hw;refine bM aF func16 ntmps16 ?_;have W:=trivial;repeat' first|refine wg ?_|(refine nx ?_;refine sk (hc:=ai a.entries _ (by omega) (by repeat' (first|omega|apply yF|apply vW)) aEy) (h:=?_))|(refine sq ?_ ?_<;>intro hc<;>try exact hc.elim)|fail
 all_goals try(refine aQ ?_;simp[aP,results16,nP])
 all_goals (
  (try generalize e0:sub n (bQ gN a.entries)=m0 at*)
  (try (first|have f0:=yG e0 (by omega)|have f0:=vX e0 (by omega) (by omega)))
  repeat (simp (disch:=omega) only[wrap64]at*)
  (try simp only[sub]);(try split);all_goals omega)
theorem xg[aC prog](a b:oV)(hs:nP a<=1099511627776):Ok prog 24 [.agg (gU .view a),.agg (gU .view b)] (.bool (decide (a=b))):=by
 simp only[nP]at hs;refine bM aF func24 ntmps24 ?_;have W:=trivial;repeat' first|refine wg ?_|(refine nx ?_;refine sk (hc:=aj a.entries b.entries (by omega)) (h:=?_))|(refine sq ?_ ?_<;>intro hc<;>try exact hc.elim)|fail
 all_goals try(refine aQ ?_;simp[aP,results24])
 all_goals ((repeat clear hK K);cases a;cases b;simp_all)
theorem toSent_ok[aC prog](a:yD)(hs:tV a<=1048576):Ok prog 42 [.agg (mJ a)] (.agg (mJ a)):=by
 simp only[tV]at hs;refine bM aF func42 ntmps42 ?_;have W:=trivial;repeat' first|refine wg ?_|(refine nx ?_;refine sk (hc:=toAddr_ok a.to (by omega)) (h:=?_))|(refine sq ?_ ?_<;>intro hc<;>try exact hc.elim)|fail
 exact aD results42
theorem aAo[aC prog](a:yD)(n:Int)(h0:0<=n)(h1:n<=1048576)(hw:RN a):Ok prog 32 [.agg (mJ a),.int .i64 n] (.int .i64 (sub n (tV a))):=by
 simp only[RN]at hw;obtain⟨aTy,wto⟩:=hw;refine bM aF func32 ntmps32 ?_;have W:=trivial;repeat' first|refine wg ?_|(refine nx ?_;refine sk (hc:=Nu a.to _ (by omega) (by repeat' (first|omega|apply yF|apply vW)) wto) (h:=?_))|(refine sq ?_ ?_<;>intro hc<;>try exact hc.elim)|fail
 all_goals try(refine aQ ?_;simp[aP,results32,tV])
 all_goals (
  (try generalize e0:sub (n-(a.top.length:Int)) (aR a.to)=m0 at*)
  (try (first|have f0:=yG e0 (by omega)|have f0:=vX e0 (by omega) (by omega)))
  repeat (simp (disch:=omega) only[wrap64]at*)
  (try simp only[sub]);(try split);all_goals omega)
theorem aAp[aC prog](a b:yD)(hs:tV a<=1099511627776):Ok prog 51 [.agg (mJ a),.agg (mJ b)] (.bool (decide (a=b))):=by
 simp only[tV]at hs;refine bM aF func51 ntmps51 ?_;have W:=trivial;repeat' first|refine wg ?_|(refine nx ?_;refine sk (hc:=Wl a.to b.to (by omega)) (h:=?_))|(refine sq ?_ ?_<;>intro hc<;>try exact hc.elim)|fail
 all_goals try(refine aQ ?_;simp[aP,results51])
 all_goals ((repeat clear hK K);cases a;cases b;simp_all)
theorem toSentS_ok[aC prog](l:List yD)(hs:bQ tV l<=1048576):Ok prog 21 [.sl .view 4 (l.map mJ)] (.sl .own 4 (l.map mJ)):=by
 have hl:l.length<=1048576:=by(try simp only[bQ]at hs);omega
 have hb:(56:Int)*(l.length:Int)<=281474976710656:=by omega
 have hb2:(l.length:Int)<=9223372036854775807:=by omega
 generalize hz:([.str [],.str [],.str [],.bool false]:List AV)=z;have hz0:=EC z (l.map mJ);rw[oY]at hz0;refine bM aF func21 ntmps21 ?_;have W:=aA hb hb2;refine wl ?_;refine aO (ι:={k:Nat // k<=l.length}) (λt o i=>⟨bC t [(4,.int .i64 i.1)],[⟨true,false,4,1,BD z (l.map mJ) i.1⟩]⟩)
  (λi=>l.length-i.1) ⟨0,by simp⟩ (aJ (by simp[hz,hz0]) (by simp)) ?_
 rintro⟨k,hk⟩ K1 hK1;simp only[bC,cW,cU]at hK1⊢;have hk1:=oQ (k:=k);by_cases hlt:k<l.length
 .have hg:=aE hlt;have hfg:=Hr z (l.map mJ) k (by simpa using hlt);have Ep:=Ht z (l.map mJ) k (by simpa using hlt);rw[AH]at Ep;simp only[mJ]at Ep;have hzl:z.length=4:=by rw[<-hz];rfl
  have hzd:z.drop 4=[]:=by rw[<-hz];rfl
  have W:=aA hk1 (aA hg (aA hfg (aA hzl (aA hzd Ep))));have V:=aA hk1 (aA hg hlt);repeat' first|refine wg ?_|(refine nx ?_;refine sk (hc:=toSent_ok l[k] (by have:=dK tV l k hlt;(try simp only[bQ]at hs);omega)) (h:=?_))|(refine sq ?_ ?_<;>intro hc<;>try exact hc.elim)|fail
  refine hK1 _ ⟨k+1,by omega⟩ (aV 1 rfl ?_ (by simp) (by simp)) (by simp only;omega);simp
 .have W:=hk1;refine wl ?_;have hfa:=Hq z (l.map mJ) k (by simpa using hlt);all_goals try(refine aQ ?_;simp[aP,results21,hfa])
theorem xh[aC prog](l:List yD)(n:Int)(h0:0<=n)(h1:n<=1048576)(hw:l.length<=9223372036854775807/\∀y∈l,RN y):Ok prog 17 [.sl .view 4 (l.map mJ),.int .i64 n] (.int .i64 (sub n (bQ tV l))):=by
 obtain⟨hl,hw⟩:=hw;refine bM aF func17 ntmps17 ?_;have W:=trivial;repeat' first|refine wg ?_|(refine sq ?_ ?_<;>intro hc<;>try exact hc.elim)|fail
 .refine aQ ?_;simp[aP,results17,sub,bQ];omega
 .refine aO (ι:={k:Nat // k<=l.length/\l.length+bA tV (l.take k)<=n}) (λt o i=>⟨bC t [(1,.int .i64 (n-(l.length+bA tV (l.take i.1):Nat))),(5,.int .i64 i.1)],[]⟩)
   (λi=>l.length-i.1) ⟨0,by simp,by simp[bA];omega⟩ (aJ (by simp) (by simp[bA])) ?_
  rintro⟨k,hk,hs⟩ K1 hK1;simp only[bC,cW,cU]at hK1⊢;have hk1:=oQ (k:=k);by_cases hlt:k<l.length
  .have hg:=aE hlt;have hts:=iX tV l k hlt;have htl:=jV tV l (k+1);have hwg:=hw _ (fS hlt);have W:=aA hk1 hg;repeat' first|refine wg ?_|(refine nx ?_;refine sk (hc:=aAo _ _ (by omega) (by omega) hwg) (h:=?_))|(refine sq ?_ ?_<;>intro hc<;>try exact hc.elim)|fail
   .refine ⟨.inr rfl,?_⟩;simp[aP,results17,bQ]
    (repeat clear hK K);simp only[sub]at*;grind
   .refine hK1 _ ⟨k+1,by omega,by(repeat clear hK K);simp only[sub]at*;grind⟩ (aJ (by simp) ?_) (by simp only;omega);simp
    (repeat clear hK K);simp only[sub]at*;grind
  .have W:=hk1;refine wl ?_;all_goals try(refine aQ ?_;simp[aP,results17,bQ])
   have:k=l.length:=by omega
   subst this;rw[At]at*;rw[sub_pos (by omega)];omega
theorem xk[aC prog](a b:List yD)(hs:bQ tV a<=1099511627776):Ok prog 25 [.sl .view 4 (a.map mJ),.sl .view 4 (b.map mJ)] (.bool (decide (a=b))):=by
 have hl:a.length<=1099511627776:=by(try simp only[bQ]at hs);omega
 refine bM aF func25 ntmps25 ?_;have W:=trivial;repeat' first|refine wg ?_|(refine sq ?_ ?_<;>intro hc<;>try exact hc.elim)|fail
 .all_goals try(refine aQ ?_;simp[aP,results25])
  intro h;subst h;exact absurd rfl hc
 .have hlen:a.length=b.length:=by omega
  refine aO (ι:={k:Nat // k<=a.length/\a.take k=b.take k}) (λt o i=>⟨bC t [(5,.int .i64 i.1)],[]⟩)
   (λi=>a.length-i.1) ⟨0,by simp⟩ aJ ?_
  rintro⟨k,hk,hpre⟩ K1 hK1;simp only[bC,cW,cU]at hK1⊢;have hk1:=oQ (k:=k);by_cases hlt:k<a.length
  .have hg:=aE hlt;have EJ:k<b.length:=by omega
   have hgb:=aE EJ;have W:=aA hk1 (aA hg (aA hlt (aA hgb EJ)));repeat' first|refine wg ?_|(refine nx ?_;refine sk (hc:=aAp a[k] b[k] (by have:=dK tV a k hlt;(try simp only[bQ]at hs);omega)) (h:=?_))|(refine sq ?_ ?_<;>intro hc<;>try exact hc.elim)|fail
   .all_goals try(refine aQ ?_;simp[aP,results25])
    intro h;subst h;exact hc rfl
   .have hts:a.take (k+1)=b.take (k+1):=by rw[eI hlt,eI EJ,hpre,hc]
    refine hK1 _ ⟨k+1,by omega,hts⟩ aJ (by simp only;omega)
  .have hka:a.length<=k:=by omega
   rw[cY hka,cY (by omega)]at hpre;subst hpre;have W:=hk1;refine wl ?_;exact aD results25
theorem toNet_ok[aC prog](a:lW)(hs:lX a<=1048576):Ok prog 7 [.agg (mY .view a)] (.agg (mY .own a)):=by
 simp only[lX]at hs;refine bM aF func7 ntmps7 ?_;have W:=trivial;repeat' first|refine wg ?_|(refine nx ?_;first|refine sk (hc:=toServerS_ok a.gD (by omega)) (h:=?_)|refine sk (hc:=toCache_ok a.cache (by omega)) (h:=?_)|refine sk (hc:=toSentS_ok a.log (by omega)) (h:=?_))|(refine sq ?_ ?_<;>intro hc<;>try exact hc.elim)|fail
 exact aD results7
theorem aEz[aC prog](a:lW)(n:Int)(h0:0<=n)(h1:n<=1048576)(hw:K9 a):Ok prog 4 [.agg (mY .view a),.int .i64 n] (.int .i64 (sub n (lX a))):=by
 simp only[K9]at hw;obtain⟨aE0,aM8,aT0⟩:=hw;refine bM aF func4 ntmps4 ?_;have W:=trivial;repeat' first|refine wg ?_|(refine nx ?_;first|refine sk (hc:=XH a.gD _ (by omega) (by repeat' (first|omega|apply yF|apply vW)) aE0) (h:=?_)|refine sk (hc:=xe a.cache _ (by omega) (by repeat' (first|omega|apply yF|apply vW)) aM8) (h:=?_)|refine sk (hc:=xh a.log _ (by omega) (by repeat' (first|omega|apply yF|apply vW)) aT0) (h:=?_))|(refine sq ?_ ?_<;>intro hc<;>try exact hc.elim)|fail
 all_goals try(refine aQ ?_;simp[aP,results4,lX])
 all_goals (
  (try generalize e0:sub n (bQ eY a.gD)=m0 at*)
  (try (first|have f0:=yG e0 (by omega)|have f0:=vX e0 (by omega) (by omega)))
  (try generalize e1:sub m0 (nP a.cache)=m1 at*)
  (try (first|have f1:=yG e1 (by omega)|have f1:=vX e1 (by omega) (by omega)))
  (try generalize e2:sub m1 (bQ tV a.log)=m2 at*)
  (try (first|have f2:=yG e2 (by omega)|have f2:=vX e2 (by omega) (by omega)))
  repeat (simp (disch:=omega) only[wrap64]at*)
  (try simp only[sub]);(try split);all_goals omega)
theorem aE1[aC prog](a b:lW)(hs:lX a<=1099511627776):Ok prog 11 [.agg (mY .view a),.agg (mY .view b)] (.bool (decide (a=b))):=by
 simp only[lX]at hs;refine bM aF func11 ntmps11 ?_;have W:=trivial;repeat' first|refine wg ?_|(refine nx ?_;first|refine sk (hc:=XI a.gD b.gD (by omega)) (h:=?_)|refine sk (hc:=xg a.cache b.cache (by omega)) (h:=?_)|refine sk (hc:=xk a.log b.log (by omega)) (h:=?_))|(refine sq ?_ ?_<;>intro hc<;>try exact hc.elim)|fail
 all_goals try(refine aQ ?_;simp[aP,results11])
 all_goals ((repeat clear hK K);cases a;cases b;simp_all)
theorem Ym[aC prog](s t:bB):OkN prog 320 [.str s,.str t] (.int .i64 (Lib.compareBytes s t)):=
 jd (fn:=f320) (by kernel_rfl) (by decide+kernel) rfl (by decide+kernel) (by rfl) s t
theorem NS[aC prog](s t:bB):Ok prog 311 [.str s,.str t] (.int .i64 (Lib.compareBytes s t)):=by refine bM aF func311 ntmps311 ?_;have c0:=Ym s t;refine aY ?_;exact aD results311
theorem Dh[aC prog](s t:bB):Ok prog 292 [.str s,.str t] (.int .i64 (Lib.compareBytes s t)):=by refine bM aF func292 ntmps292 ?_;have c0:=NS s t;refine aY ?_;exact aD results292
def uV(a b:aK):Int:=if Lib.compareBytes a.host b.host≠0 then Lib.compareBytes a.host b.host else Lib.compareBytes a.path b.path
theorem IC[aC prog](a b:aK):Ok prog 266 [.agg (aL a),.agg (aL b)] (.int .i64 (uV a b)):=by
 have c1:=Dh a.host b.host;have c2:=Dh a.path b.path;unfold uV;generalize Lib.compareBytes a.host b.host=x at*;generalize Lib.compareBytes a.path b.path=y at*;by_cases hx:x=0
 .refine bM aF func266 ntmps266 ?_;have W:=hx;refine we ?_;all_goals try(refine aQ ?_;simp[aP,results266,hx])
 .refine bM aF func266 ntmps266 ?_;have W:=hx;refine we ?_;all_goals try(refine aQ ?_;simp[aP,results266,hx])
theorem Dt:∀l:List UInt8,Op.bytesLess l l=false
 |[]=>rfl
 |x::l=>by simp[Op.bytesLess,Dt l,UInt8.lt_irrefl]
theorem je(a b:aK):uV a b=if a=b then 0 else if (Op.bytesLess a.host b.host || (a.host == b.host&&Op.bytesLess a.path b.path))=true then -1 else 1:=by
 unfold uV;obtain⟨h1,p1⟩:=a;obtain⟨h2,p2⟩:=b;simp only[Q8,aK.mk.injEq];by_cases e1:h1=h2
 .subst e1;by_cases e2:p1=p2
  .simp [e2]
  .have:=Dt h1;simp[e2,this]
 .cases hb:Op.bytesLess h1 h2<;>simp[e1,hb]
theorem IE[aC prog](a b:aK):Ok prog 187 [.agg (aL a),.agg (aL b)] (.int .i64 (uV a b)):=by
 rw[je];have c1:=oC a b;by_cases he:a=b
 .subst he;simp only[aL,CD]at c1;refine bM aF func187 ntmps187 ?_;have c0:=c1;refine aY ?_;exact aD results187
 .simp only[aL,he,decide_false]at c1;simp only[he,gS];cases h1:Op.bytesLess a.host b.host
  .by_cases h2:a.host=b.host
   .rw [h2]at c1;have h0:=Dt b.host;cases h3:Op.bytesLess a.path b.path
    .refine bM aF func187 ntmps187 ?_;have W:=aA h0 (aA h1 (aA h2 h3));have c0:=c1;refine we ?_;all_goals try(refine aQ ?_;simp[aP,results187,h0,h1,h2,h3])
    .refine bM aF func187 ntmps187 ?_;have W:=aA h0 (aA h1 (aA h2 h3));have c0:=c1;refine we ?_;all_goals try(refine aQ ?_;simp[aP,results187,h0,h1,h2,h3])
   .refine bM aF func187 ntmps187 ?_;have W:=aA h1 h2;have c0:=c1;refine we ?_;all_goals try(refine aQ ?_;simp[aP,results187,h1,h2])
  .refine bM aF func187 ntmps187 ?_;have W:=h1;have c0:=c1;refine we ?_;all_goals try(refine aQ ?_;simp[aP,results187,h1])
def wP(l:List dX)(a:aK):Nat:=(l.takeWhile λm=>decide (uV m.to a<0)).length
theorem GU{a:aK}:∀{l:List dX} {k:Nat},k<=l.length->(∀x∈l.take k,uV x.to a<0)->(∀m,l[k]? =some m->¬uV m.to a<0)->wP l a=k
 |[],k,h,_,_=>by simp at h;subst h;rfl
 |m::l,0,_,_,h=>by simp[wP,h m rfl]
 |m::l,k+1,h0,h1,h2=>by have ih:=GU (a:=a) (l:=l) (k:=k) (by simpa using h0) (λx hx=>h1 x (by simp[hx])) (λm hm=>h2 m (by simpa using hm));have:=h1 m (by simp);simp only[wP,takeWhile_cons,sB this,eN]at ih⊢;simpa using ih
def Cc(p:aG)(a:aK):dX:=if fE p.bD ⟨5,a,p.addr.host,[]⟩=1 then⟨a,false,0,[]⟩else⟨a,true,2,[]⟩
def wC(p:aG)(a:aK)(k:Nat):List dX:=p.aN.take k++Cc p a::p.aN.drop k
def eP(p:aG)(a:aK):aG:=
 match p.aN[wP p.aN a]? with
 |some m=>if m.to=a then p else {p with aN:=wC p a (wP p.aN a)}
 |none=>{p with aN:=wC p a (wP p.aN a)}
end Go.Proofs.YtfbefblglejcaaaGreatDoor
