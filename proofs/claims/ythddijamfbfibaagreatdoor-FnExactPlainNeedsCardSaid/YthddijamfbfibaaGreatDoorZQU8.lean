/- Proved here: steps towards the statement of this claim. No condition. -/
import Derived.Test.YthddijamfbfibaaGreatDoorZQU7
import Derived.Test.YthddijamfbfibaaGreatDoorZQQ2
set_option linter.all false
set_option maxRecDepth 4000
set_option maxHeartbeats 4000000
namespace Go.Proofs.YthddijamfbfibaaGreatDoor
open Go.Aw Proofs.Tryz List IntKind
theorem toEntry_ok[aB prog](a:fH)(hs:gP a<=1048576):Ok prog 85 [.agg (fP a)] (.agg (fP a)):=by
 simp only[gP]at hs;refine bM aG func85 ntmps85 ?_;have W:=trivial;repeat' first|refine wg ?_|(refine nx ?_;first|refine sk (hc:=toAddr_ok a.to (by omega)) (h:=?_)|refine sk (hc:=toResponse_ok a.response (by omega)) (h:=?_))|(refine sq ?_ ?_<;>intro hc<;>try exact hc.elim)|fail
 exact aF results85
theorem A8[aB prog](a:fH)(n:Int)(h0:0<=n)(h1:n<=1048576)(hw:Lx a):Ok prog 61 [.agg (fP a),.int .i64 n] (.int .i64 (sub n (gP a))):=by
 simp only[Lx]at hw;obtain⟨aV6,wto,NU⟩:=hw;refine bM aG func61 ntmps61 ?_;have W:=trivial;repeat' first|refine wg ?_|(refine nx ?_;first|refine sk (hc:=NS a.to _ (by omega) (by repeat' (first|omega|apply yI|apply wE)) wto) (h:=?_)|refine sk (hc:=Jm a.response _ (by omega) (by repeat' (first|omega|apply yI|apply wE)) NU) (h:=?_))|(refine sq ?_ ?_<;>intro hc<;>try exact hc.elim)|fail
 all_goals try(refine aR ?_;simp[aP,results61,gP])
 all_goals (
  (try generalize e0:sub (n-(a.top.length:Int)) (aQ a.to)=m0 at*)
  (try (first|have f0:=yJ e0 (by omega)|have f0:=wF e0 (by omega) (by omega)))
  (try generalize e1:sub m0 (bG a.response)=m1 at*)
  (try (first|have f1:=yJ e1 (by omega)|have f1:=wF e1 (by omega) (by omega)))
  repeat (simp (disch:=omega) only[wrap64]at*)
  (try simp only[sub]);(try split);all_goals omega)
theorem A9[aB prog](a b:fH)(hs:gP a<=1099511627776):Ok prog 106 [.agg (fP a),.agg (fP b)] (.bool (decide (a=b))):=by
 simp only[gP]at hs;refine bM aG func106 ntmps106 ?_;have W:=trivial;repeat' first|refine wg ?_|(refine nx ?_;first|refine sk (hc:=NT a.to b.to (by omega)) (h:=?_)|refine sk (hc:=Jn a.response b.response (by omega)) (h:=?_))|(refine sq ?_ ?_<;>intro hc<;>try exact hc.elim)|fail
 all_goals try(refine aR ?_;simp[aP,results106])
 all_goals ((repeat clear hK K);cases a;cases b;simp_all)
theorem toEntryS_ok[aB prog](l:List fH)(hs:bP gP l<=1048576):Ok prog 46 [.sl .view 10 (l.map fP)] (.sl .own 10 (l.map fP)):=by
 have hl:l.length<=1048576:=by(try simp only[bP]at hs);omega
 have hb:(120:Int)*(l.length:Int)<=281474976710656:=by omega
 have hb2:(l.length:Int)<=9223372036854775807:=by omega
 generalize hz:([.str [],.str [],.str [],.int .i64 0,.int .i64 0,.str [],.int .i64 0,.bool false,.str [],.int .i64 0]:List AV)=z;have hz0:=EO z (l.map fP);rw[mL]at hz0;refine bM aG func46 ntmps46 ?_;have W:=aA hb hb2;refine wl ?_;refine aM (ι:={k:Nat // k<=l.length}) (λt o i=>⟨bC t [(4,.int .i64 i.1)],[⟨true,false,10,1,BQ z (l.map fP) i.1⟩]⟩)
  (λi=>l.length-i.1) ⟨0,by simp⟩ (aK (by simp[hz,hz0]) (by simp)) ?_
 rintro⟨k,hk⟩ K1 hK1;simp only[bC,cW,cU]at hK1⊢;have hk1:=oQ (k:=k);by_cases hlt:k<l.length
 .have hg:=aE hlt;have hfg:=Il z (l.map fP) k (by simpa using hlt);have ED:=Im z (l.map fP) k (by simpa using hlt);rw[AT]at ED;simp only[fP]at ED;have hzl:z.length=10:=by rw[<-hz];rfl
  have hzd:z.drop 10=[]:=by rw[<-hz];rfl
  have W:=aA hk1 (aA hg (aA hfg (aA hzl (aA hzd ED))));have V:=aA hk1 (aA hg hlt);repeat' first|refine wg ?_|(refine nx ?_;refine sk (hc:=toEntry_ok l[k] (by have:=dI gP l k hlt;(try simp only[bP]at hs);omega)) (h:=?_))|(refine sq ?_ ?_<;>intro hc<;>try exact hc.elim)|fail
  refine hK1 _ ⟨k+1,by omega⟩ (aT 1 rfl ?_ (by simp) (by simp)) (by simp only;omega);simp
 .have W:=hk1;refine wl ?_;have hfa:=Ik z (l.map fP) k (by simpa using hlt);all_goals try(refine aR ?_;simp[aP,results46,hfa])
theorem jl[aB prog](l:List fH)(n:Int)(h0:0<=n)(h1:n<=1048576)(hw:l.length<=9223372036854775807/\∀y∈l,Lx y):Ok prog 35 [.sl .view 10 (l.map fP),.int .i64 n] (.int .i64 (sub n (bP gP l))):=by
 obtain⟨hl,hw⟩:=hw;refine bM aG func35 ntmps35 ?_;have W:=trivial;repeat' first|refine wg ?_|(refine sq ?_ ?_<;>intro hc<;>try exact hc.elim)|fail
 .refine aR ?_;simp[aP,results35,sub,bP];omega
 .refine aM (ι:={k:Nat // k<=l.length/\l.length+aY gP (l.take k)<=n}) (λt o i=>⟨bC t [(1,.int .i64 (n-(l.length+aY gP (l.take i.1):Nat))),(5,.int .i64 i.1)],[]⟩)
   (λi=>l.length-i.1) ⟨0,by simp,by simp[aY];omega⟩ (aK (by simp) (by simp[aY])) ?_
  rintro⟨k,hk,hs⟩ K1 hK1;simp only[bC,cW,cU]at hK1⊢;have hk1:=oQ (k:=k);by_cases hlt:k<l.length
  .have hg:=aE hlt;have hts:=jB gP l k hlt;have htl:=jY gP l (k+1);have hwg:=hw _ (fS hlt);have W:=aA hk1 hg;repeat' first|refine wg ?_|(refine nx ?_;refine sk (hc:=A8 _ _ (by omega) (by omega) hwg) (h:=?_))|(refine sq ?_ ?_<;>intro hc<;>try exact hc.elim)|fail
   .refine ⟨.inr rfl,?_⟩;simp[aP,results35,bP]
    (repeat clear hK K);simp only[sub]at*;grind
   .refine hK1 _ ⟨k+1,by omega,by(repeat clear hK K);simp only[sub]at*;grind⟩ (aK (by simp) ?_) (by simp only;omega);simp
    (repeat clear hK K);simp only[sub]at*;grind
  .have W:=hk1;refine wl ?_;all_goals try(refine aR ?_;simp[aP,results35,bP])
   have:k=l.length:=by omega
   subst this;rw[vA]at*;rw[sub_pos (by omega)];omega
theorem jm[aB prog](a b:List fH)(hs:bP gP a<=1099511627776):Ok prog 56 [.sl .view 10 (a.map fP),.sl .view 10 (b.map fP)] (.bool (decide (a=b))):=by
 have hl:a.length<=1099511627776:=by(try simp only[bP]at hs);omega
 refine bM aG func56 ntmps56 ?_;have W:=trivial;repeat' first|refine wg ?_|(refine sq ?_ ?_<;>intro hc<;>try exact hc.elim)|fail
 .all_goals try(refine aR ?_;simp[aP,results56])
  intro h;subst h;exact absurd rfl hc
 .have hlen:a.length=b.length:=by omega
  refine aM (ι:={k:Nat // k<=a.length/\a.take k=b.take k}) (λt o i=>⟨bC t [(5,.int .i64 i.1)],[]⟩)
   (λi=>a.length-i.1) ⟨0,by simp⟩ aK ?_
  rintro⟨k,hk,hpre⟩ K1 hK1;simp only[bC,cW,cU]at hK1⊢;have hk1:=oQ (k:=k);by_cases hlt:k<a.length
  .have hg:=aE hlt;have EX:k<b.length:=by omega
   have hgb:=aE EX;have W:=aA hk1 (aA hg (aA hlt (aA hgb EX)));repeat' first|refine wg ?_|(refine nx ?_;refine sk (hc:=A9 a[k] b[k] (by have:=dI gP a k hlt;(try simp only[bP]at hs);omega)) (h:=?_))|(refine sq ?_ ?_<;>intro hc<;>try exact hc.elim)|fail
   .all_goals try(refine aR ?_;simp[aP,results56])
    intro h;subst h;exact hc rfl
   .have hts:a.take (k+1)=b.take (k+1):=by rw[eJ hlt,eJ EX,hpre,hc]
    refine hK1 _ ⟨k+1,by omega,hts⟩ aK (by simp only;omega)
  .have hka:a.length<=k:=by omega
   rw[cX hka,cX (by omega)]at hpre;subst hpre;have W:=hk1;refine wl ?_;exact aF results56
theorem toCache_ok[aB prog](a:pE)(hs:nS a<=1048576):Ok prog 22 [.agg (gU .view a)] (.agg (gU .own a)):=by
 simp only[nS]at hs;refine bM aG func22 ntmps22 ?_;have W:=trivial;repeat' first|refine wg ?_|(refine nx ?_;refine sk (hc:=toEntryS_ok a.entries (by omega)) (h:=?_))|(refine sq ?_ ?_<;>intro hc<;>try exact hc.elim)|fail
 exact aF results22
theorem C8[aB prog](a:pE)(n:Int)(h0:0<=n)(h1:n<=1048576)(hw:YL a):Ok prog 16 [.agg (gU .view a),.int .i64 n] (.int .i64 (sub n (nS a))):=by
 simp only[YL]at hw;have aGg:=hw;refine bM aG func16 ntmps16 ?_;have W:=trivial;repeat' first|refine wg ?_|(refine nx ?_;refine sk (hc:=jl a.entries _ (by omega) (by repeat' (first|omega|apply yI|apply wE)) aGg) (h:=?_))|(refine sq ?_ ?_<;>intro hc<;>try exact hc.elim)|fail
 all_goals try(refine aR ?_;simp[aP,results16,nS])
 all_goals (
  (try generalize e0:sub n (bP gP a.entries)=m0 at*)
  (try (first|have f0:=yJ e0 (by omega)|have f0:=wF e0 (by omega) (by omega)))
  repeat (simp (disch:=omega) only[wrap64]at*)
  (try simp only[sub]);(try split);all_goals omega)
theorem C9[aB prog](a b:pE)(hs:nS a<=1099511627776):Ok prog 28 [.agg (gU .view a),.agg (gU .view b)] (.bool (decide (a=b))):=by
 simp only[nS]at hs;refine bM aG func28 ntmps28 ?_;have W:=trivial;repeat' first|refine wg ?_|(refine nx ?_;refine sk (hc:=jm a.entries b.entries (by omega)) (h:=?_))|(refine sq ?_ ?_<;>intro hc<;>try exact hc.elim)|fail
 all_goals try(refine aR ?_;simp[aP,results28])
 all_goals ((repeat clear hK K);cases a;cases b;simp_all)
theorem toSent_ok[aB prog](a:tT)(hs:qE a<=1048576):Ok prog 47 [.agg (jL a)] (.agg (jL a)):=by
 simp only[qE]at hs;refine bM aG func47 ntmps47 ?_;have W:=trivial;repeat' first|refine wg ?_|(refine nx ?_;refine sk (hc:=toAddr_ok a.to (by omega)) (h:=?_))|(refine sq ?_ ?_<;>intro hc<;>try exact hc.elim)|fail
 exact aF results47
theorem aB4[aB prog](a:tT)(n:Int)(h0:0<=n)(h1:n<=1048576)(hw:SB a):Ok prog 36 [.agg (jL a),.int .i64 n] (.int .i64 (sub n (qE a))):=by
 simp only[SB]at hw;obtain⟨aV6,wto⟩:=hw;refine bM aG func36 ntmps36 ?_;have W:=trivial;repeat' first|refine wg ?_|(refine nx ?_;refine sk (hc:=NS a.to _ (by omega) (by repeat' (first|omega|apply yI|apply wE)) wto) (h:=?_))|(refine sq ?_ ?_<;>intro hc<;>try exact hc.elim)|fail
 all_goals try(refine aR ?_;simp[aP,results36,qE])
 all_goals (
  (try generalize e0:sub (n-(a.top.length:Int)) (aQ a.to)=m0 at*)
  (try (first|have f0:=yJ e0 (by omega)|have f0:=wF e0 (by omega) (by omega)))
  repeat (simp (disch:=omega) only[wrap64]at*)
  (try simp only[sub]);(try split);all_goals omega)
theorem aB5[aB prog](a b:tT)(hs:qE a<=1099511627776):Ok prog 57 [.agg (jL a),.agg (jL b)] (.bool (decide (a=b))):=by
 simp only[qE]at hs;refine bM aG func57 ntmps57 ?_;have W:=trivial;repeat' first|refine wg ?_|(refine nx ?_;refine sk (hc:=NT a.to b.to (by omega)) (h:=?_))|(refine sq ?_ ?_<;>intro hc<;>try exact hc.elim)|fail
 all_goals try(refine aR ?_;simp[aP,results57])
 all_goals ((repeat clear hK K);cases a;cases b;simp_all)
theorem toSentS_ok[aB prog](l:List tT)(hs:bP qE l<=1048576):Ok prog 23 [.sl .view 4 (l.map jL)] (.sl .own 4 (l.map jL)):=by
 have hl:l.length<=1048576:=by(try simp only[bP]at hs);omega
 have hb:(56:Int)*(l.length:Int)<=281474976710656:=by omega
 have hb2:(l.length:Int)<=9223372036854775807:=by omega
 generalize hz:([.str [],.str [],.str [],.bool false]:List AV)=z;have hz0:=EO z (l.map jL);rw[mL]at hz0;refine bM aG func23 ntmps23 ?_;have W:=aA hb hb2;refine wl ?_;refine aM (ι:={k:Nat // k<=l.length}) (λt o i=>⟨bC t [(4,.int .i64 i.1)],[⟨true,false,4,1,BQ z (l.map jL) i.1⟩]⟩)
  (λi=>l.length-i.1) ⟨0,by simp⟩ (aK (by simp[hz,hz0]) (by simp)) ?_
 rintro⟨k,hk⟩ K1 hK1;simp only[bC,cW,cU]at hK1⊢;have hk1:=oQ (k:=k);by_cases hlt:k<l.length
 .have hg:=aE hlt;have hfg:=Il z (l.map jL) k (by simpa using hlt);have ED:=Im z (l.map jL) k (by simpa using hlt);rw[AT]at ED;simp only[jL]at ED;have hzl:z.length=4:=by rw[<-hz];rfl
  have hzd:z.drop 4=[]:=by rw[<-hz];rfl
  have W:=aA hk1 (aA hg (aA hfg (aA hzl (aA hzd ED))));have V:=aA hk1 (aA hg hlt);repeat' first|refine wg ?_|(refine nx ?_;refine sk (hc:=toSent_ok l[k] (by have:=dI qE l k hlt;(try simp only[bP]at hs);omega)) (h:=?_))|(refine sq ?_ ?_<;>intro hc<;>try exact hc.elim)|fail
  refine hK1 _ ⟨k+1,by omega⟩ (aT 1 rfl ?_ (by simp) (by simp)) (by simp only;omega);simp
 .have W:=hk1;refine wl ?_;have hfa:=Ik z (l.map jL) k (by simpa using hlt);all_goals try(refine aR ?_;simp[aP,results23,hfa])
theorem D6[aB prog](l:List tT)(n:Int)(h0:0<=n)(h1:n<=1048576)(hw:l.length<=9223372036854775807/\∀y∈l,SB y):Ok prog 17 [.sl .view 4 (l.map jL),.int .i64 n] (.int .i64 (sub n (bP qE l))):=by
 obtain⟨hl,hw⟩:=hw;refine bM aG func17 ntmps17 ?_;have W:=trivial;repeat' first|refine wg ?_|(refine sq ?_ ?_<;>intro hc<;>try exact hc.elim)|fail
 .refine aR ?_;simp[aP,results17,sub,bP];omega
 .refine aM (ι:={k:Nat // k<=l.length/\l.length+aY qE (l.take k)<=n}) (λt o i=>⟨bC t [(1,.int .i64 (n-(l.length+aY qE (l.take i.1):Nat))),(5,.int .i64 i.1)],[]⟩)
   (λi=>l.length-i.1) ⟨0,by simp,by simp[aY];omega⟩ (aK (by simp) (by simp[aY])) ?_
  rintro⟨k,hk,hs⟩ K1 hK1;simp only[bC,cW,cU]at hK1⊢;have hk1:=oQ (k:=k);by_cases hlt:k<l.length
  .have hg:=aE hlt;have hts:=jB qE l k hlt;have htl:=jY qE l (k+1);have hwg:=hw _ (fS hlt);have W:=aA hk1 hg;repeat' first|refine wg ?_|(refine nx ?_;refine sk (hc:=aB4 _ _ (by omega) (by omega) hwg) (h:=?_))|(refine sq ?_ ?_<;>intro hc<;>try exact hc.elim)|fail
   .refine ⟨.inr rfl,?_⟩;simp[aP,results17,bP]
    (repeat clear hK K);simp only[sub]at*;grind
   .refine hK1 _ ⟨k+1,by omega,by(repeat clear hK K);simp only[sub]at*;grind⟩ (aK (by simp) ?_) (by simp only;omega);simp
    (repeat clear hK K);simp only[sub]at*;grind
  .have W:=hk1;refine wl ?_;all_goals try(refine aR ?_;simp[aP,results17,bP])
   have:k=l.length:=by omega
   subst this;rw[vA]at*;rw[sub_pos (by omega)];omega
theorem D7[aB prog](a b:List tT)(hs:bP qE a<=1099511627776):Ok prog 29 [.sl .view 4 (a.map jL),.sl .view 4 (b.map jL)] (.bool (decide (a=b))):=by
 have hl:a.length<=1099511627776:=by(try simp only[bP]at hs);omega
 refine bM aG func29 ntmps29 ?_;have W:=trivial;repeat' first|refine wg ?_|(refine sq ?_ ?_<;>intro hc<;>try exact hc.elim)|fail
 .all_goals try(refine aR ?_;simp[aP,results29])
  intro h;subst h;exact absurd rfl hc
 .have hlen:a.length=b.length:=by omega
  refine aM (ι:={k:Nat // k<=a.length/\a.take k=b.take k}) (λt o i=>⟨bC t [(5,.int .i64 i.1)],[]⟩)
   (λi=>a.length-i.1) ⟨0,by simp⟩ aK ?_
  rintro⟨k,hk,hpre⟩ K1 hK1;simp only[bC,cW,cU]at hK1⊢;have hk1:=oQ (k:=k);by_cases hlt:k<a.length
  .have hg:=aE hlt;have EX:k<b.length:=by omega
   have hgb:=aE EX;have W:=aA hk1 (aA hg (aA hlt (aA hgb EX)));repeat' first|refine wg ?_|(refine nx ?_;refine sk (hc:=aB5 a[k] b[k] (by have:=dI qE a k hlt;(try simp only[bP]at hs);omega)) (h:=?_))|(refine sq ?_ ?_<;>intro hc<;>try exact hc.elim)|fail
   .all_goals try(refine aR ?_;simp[aP,results29])
    intro h;subst h;exact hc rfl
   .have hts:a.take (k+1)=b.take (k+1):=by rw[eJ hlt,eJ EX,hpre,hc]
    refine hK1 _ ⟨k+1,by omega,hts⟩ aK (by simp only;omega)
  .have hka:a.length<=k:=by omega
   rw[cX hka,cX (by omega)]at hpre;subst hpre;have W:=hk1;refine wl ?_;exact aF results29
theorem toNet_ok[aB prog](a:kU)(hs:kV a<=1048576):Ok prog 7 [.agg (nA .view a)] (.agg (nA .own a)):=by
 simp only[kV]at hs;refine bM aG func7 ntmps7 ?_;have W:=trivial;repeat' first|refine wg ?_|(refine nx ?_;first|refine sk (hc:=toServerS_ok a.gD (by omega)) (h:=?_)|refine sk (hc:=toCache_ok a.cache (by omega)) (h:=?_)|refine sk (hc:=toSentS_ok a.log (by omega)) (h:=?_))|(refine sq ?_ ?_<;>intro hc<;>try exact hc.elim)|fail
 exact aF results7
theorem aGh[aB prog](a:kU)(n:Int)(h0:0<=n)(h1:n<=1048576)(hw:Y7 a):Ok prog 4 [.agg (nA .view a),.int .i64 n] (.int .i64 (sub n (kV a))):=by
 simp only[Y7]at hw;obtain⟨aGi,aO7,aV8⟩:=hw;refine bM aG func4 ntmps4 ?_;have W:=trivial;repeat' first|refine wg ?_|(refine nx ?_;first|refine sk (hc:=YT a.gD _ (by omega) (by repeat' (first|omega|apply yI|apply wE)) aGi) (h:=?_)|refine sk (hc:=C8 a.cache _ (by omega) (by repeat' (first|omega|apply yI|apply wE)) aO7) (h:=?_)|refine sk (hc:=D6 a.log _ (by omega) (by repeat' (first|omega|apply yI|apply wE)) aV8) (h:=?_))|(refine sq ?_ ?_<;>intro hc<;>try exact hc.elim)|fail
 all_goals try(refine aR ?_;simp[aP,results4,kV])
 all_goals (
  (try generalize e0:sub n (bP eZ a.gD)=m0 at*)
  (try (first|have f0:=yJ e0 (by omega)|have f0:=wF e0 (by omega) (by omega)))
  (try generalize e1:sub m0 (nS a.cache)=m1 at*)
  (try (first|have f1:=yJ e1 (by omega)|have f1:=wF e1 (by omega) (by omega)))
  (try generalize e2:sub m1 (bP qE a.log)=m2 at*)
  (try (first|have f2:=yJ e2 (by omega)|have f2:=wF e2 (by omega) (by omega)))
  repeat (simp (disch:=omega) only[wrap64]at*)
  (try simp only[sub]);(try split);all_goals omega)
theorem aGj[aB prog](a b:kU)(hs:kV a<=1099511627776):Ok prog 11 [.agg (nA .view a),.agg (nA .view b)] (.bool (decide (a=b))):=by
 simp only[kV]at hs;refine bM aG func11 ntmps11 ?_;have W:=trivial;repeat' first|refine wg ?_|(refine nx ?_;first|refine sk (hc:=YU a.gD b.gD (by omega)) (h:=?_)|refine sk (hc:=C9 a.cache b.cache (by omega)) (h:=?_)|refine sk (hc:=D7 a.log b.log (by omega)) (h:=?_))|(refine sq ?_ ?_<;>intro hc<;>try exact hc.elim)|fail
 all_goals try(refine aR ?_;simp[aP,results11])
 all_goals ((repeat clear hK K);cases a;cases b;simp_all)
theorem Tw[aB prog](l:List bB)(sep:bB)(hl:l.length<=140737488355328)(hs:(Lib.join l sep).length<=140737488355328):
  Ok prog 208 [.sl .view 1 (l.map dC),.str sep] (.str (Lib.join l sep)):=Z0 Tryz.lays156 Tryz.Builder_Extra_156 l sep hl hs
def Dj(s:bB):Bool:= !cZ s
theorem Zg[aB prog](s:bB)(hl:s.length<=1099511627776):Ok prog 307 [.str s] (.bool (Dj s)):=by have c1:=gL s hl;unfold Dj;generalize cZ s=b at*;refine bM aG func307 ntmps307 ?_;refine aZ ?_;exact aF results307
theorem Wi[aB prog](l:List bB)(hs:bP gJ l<=1099511627776):Ok prog 326 [.sl .view 1 (l.map dC),.fn 307 []] (.int .i64 (qO Dj l)):=by
 simp only[bP]at hs;refine bM aG func326 ntmps326 ?_;refine aZ ?_;refine aM (ι:={k:Nat // k<=l.length/\∀x∈l.take k,Dj x=false}) (λt o i=>⟨bC t [(8,.int .i64 i.1),(5,.undef)],o⟩)
  (λi=>l.length-i.1) ⟨0,by simp⟩ aK ?_
 rintro⟨k,hk,hpre⟩ K1 hK1;simp only[bC,cW,cU]at hK1⊢;have hk1:=oQ (k:=k);by_cases hlt:k<l.length
 .have hg:=aE hlt;have hel:=dI gJ l k hlt;simp only[gJ]at hel;have c1:=Zg l[k] (by omega);generalize hb:Dj l[k]=b at*;have W:=aA hk1 (aA hg hlt);repeat' first|refine wf ?_|(refine sq ?_ ?_<;>intro hc<;>try exact hc.elim)|fail
  .all_goals try(refine aR ?_;simp[aP,results326])
   rw[uY hlt (by simpa [hb]using hc) hpre]
  .exact hK1 _ ⟨k+1,by omega,bZ hlt hpre (by simpa [hb]using hc)⟩ aK (by simp only;omega)
 .have W:=hk1;refine we ?_;all_goals try(refine aR ?_;simp[aP,results326])
  rw[nN (iW (by omega) hpre)]
theorem Ob[aB prog](l:List bB)(hs:bP gJ l<=1099511627776):Ok prog 306 [.sl .view 1 (l.map dC),.fn 307 []] (.bool (l.any Dj)):=by
 have c1:=Wi l hs;refine bM aG func306 ntmps306 ?_;refine aZ ?_;all_goals try(refine aR ?_;simp[aP,results306])
 exact GH _ _
theorem GL[aB prog](l:List bB)(hs:bP gJ l<=1099511627776):Ok prog 262 [.sl .view 1 (l.map dC)] (.bool (lU l)):=by
 have c1:=Ob l hs;simp only[bP]at hs;have e:l.any Dj= !l.all cZ:=by rw[any_eq_not_all_not];simp[Dj]
 have e2:decide (l.length<=4)=decide ((l.length:Int)<=4):=by simp only[sR];omega
 rw[e]at c1;unfold lU;rw[e2];generalize l.all cZ=b at*;refine bM aG func262 ntmps262 ?_;have W:=trivial;repeat' first|refine wf ?_|(refine sq ?_ ?_<;>intro hc<;>try exact hc.elim)|fail
 all_goals try(refine aR ?_;simp[aP,results262])
 all_goals simp_all
theorem Qq[aB prog](p:eX)(hs:eF p<=1099511627776):Ok prog 207 [.agg (bN .view p)] (.bool (nX p)):=by
 simp only[eF]at hs;have c1:=GL p.fC (by omega);have c2:=GL p.gY (by omega);have c3:=GL p.gZ (by omega);have c4:=BV p.tQ (by omega);have l1:(p.fC == [])=decide ((p.fC.length:Int)=0):=by cases p.fC<;>simp<;>omega
 have l2:(p.gY == [])=decide ((p.gY.length:Int)=0):=by cases p.gY<;>simp<;>omega
 have l3:(p.gZ == [])=decide ((p.gZ.length:Int)=0):=by cases p.gZ<;>simp<;>omega
 unfold nX;rw[l1,l2,l3];generalize lU p.fC=b1 at*;generalize lU p.gY=b2 at*;generalize lU p.gZ=b3 at*;generalize isValue p.tQ=b4 at*;generalize hb:p.isSet=b at*;cases b
 .refine bM aG func207 ntmps207 ?_;have W:=hb;repeat' first|refine wf ?_|(refine sq ?_ ?_<;>intro hc<;>try exact hc.elim)|fail
  all_goals try(refine aR ?_;simp[aP,results207,hb])
  all_goals simp_all
 .refine bM aG func207 ntmps207 ?_;have W:=hb;repeat' first|refine wf ?_|(refine sq ?_ ?_<;>intro hc<;>try exact hc.elim)|fail
  all_goals try(refine aR ?_;simp[aP,results207,hb])
  all_goals simp_all
theorem IV[aB prog](p:eX)(hs:eF p<=274877906944):Ok prog 152 [.agg (bN .view p)] (.str (iX p)):=by
 have c0:=Qq p (by omega);simp only[bN]at c0;have hq:= @Tt p;have hn':nX p=true->p.isSet=true->p.fC.length<=4/\p.gY.length<=4/\p.gZ.length<=4:=by intro h hs;simp only[nX,hs,gE,eI]at h;exact⟨(BJ h.1.1.1).1,(BJ h.1.1.2).1,(BJ h.1.2).1⟩
 have hs0:=hs;simp only[eF,bP]at hs;unfold iX;by_cases h1:nX p=true
 .by_cases h2:p.isSet=true
  .obtain ⟨k1,k2,k3,k4⟩:=hq h1 h2;obtain⟨n1,n2,n3⟩:=hn' h1 h2;have j1:Ok prog 208 [.sl .view 1 ([.str [115,99,114,105,112,116]]::p.fC.map dC),.str [32]] (.str (words wG p.fC)):=Tw (wG::p.fC) [32] (by simp;omega) (by change (words wG p.fC).length<=_;omega);have j2:Ok prog 208 [.sl .view 1 ([.str [115,116,121,108,101]]::p.gY.map dC),.str [32]] (.str (words zN p.gY)):=Tw (zN::p.gY) [32] (by simp;omega) (by change (words zN p.gY).length<=_;omega);have j3:Ok prog 208 [.sl .view 1 ([.str [105,109,103]]::p.gZ.map dC),.str [32]] (.str (words LG p.gZ)):=Tw (LG::p.gZ) [32] (by simp;omega) (by change (words LG p.gZ).length<=_;omega);rw[eK ⟨h1,h2⟩];unfold Za;rw[h1,h2]at c0;generalize words wG p.fC=q1 at*;generalize words zN p.gY=q2 at*;generalize words LG p.gZ=q3 at*;by_cases hn:p.tQ=[]
   .rw [eK hn];rw[hn]at c0;refine uP aG [3] func152 ntmps152 ?_;have W:=aA h2 hn;have V:=aA h2 hn;refine we ?_;refine go_drawn3 [⟨1,1,[(3,⟨true,false,1,2,[.str [115,99,114,105,112,116]]::p.fC.map dC⟩),(0,⟨true,false,1,1,[[.str [115,99,114,105,112,116]]]⟩)]⟩,⟨2,1,[(9,⟨true,false,1,2,[.str [115,116,121,108,101]]::p.gY.map dC⟩),(6,⟨true,false,1,1,[[.str [115,116,121,108,101]]]⟩)]⟩,⟨3,1,[(16,⟨true,false,1,2,[.str [105,109,103]]::p.gZ.map dC⟩),(13,⟨true,false,1,1,[[.str [105,109,103]]]⟩)]⟩] (by simp;rfl) (by decide+kernel) (by decide+kernel) (by simp[nI,pre,Region.binds]) (by simp) ?_
    repeat' first|refine Zf (by simp;rfl) (by simp;rfl) ?_|(refine Rf ?_ (by simp;rfl) ?_;(focus (simp;done)))|(refine oH (j:=3) (v:= .obj 1 2) ⟨1,1,[(3,⟨true,false,1,2,[.str [115,99,114,105,112,116]]::p.fC.map dC⟩),(0,⟨true,false,1,1,[[.str [115,99,114,105,112,116]]]⟩)]⟩ [] [(0,⟨true,false,1,1,[[.str [115,99,114,105,112,116]]]⟩)] rfl (by simp) rfl (by simp[Region.binds];rfl) (by decide) (by simp[Region.binds];rfl) (by simp;rfl) rfl ?_ ?_;(focus (refine zQ (by first|(simp;rfl)|(simp;done)|rfl) rfl (by first|(simp;rfl)|(simp;done)|rfl) (by first|(simp;rfl)|(simp;done)|rfl) (by first|(simp;rfl)|(simp;done)|rfl) (by simp;exact⟨rfl,rfl⟩) (by simp) (by simp) (by simp;omega) (by simp;omega))))|(refine oH (j:=0) (v:= .obj 1 1) ⟨1,1,[(3,⟨true,false,1,2,[.str [115,99,114,105,112,116]]::p.fC.map dC⟩),(0,⟨true,false,1,1,[[.str [115,99,114,105,112,116]]]⟩)]⟩ [(3,⟨true,false,1,2,[.str [115,99,114,105,112,116]]::p.fC.map dC⟩)] [] rfl (by simp) rfl (by simp[Region.binds];rfl) (by decide) (by simp[Region.binds];rfl) (by simp;rfl) rfl ?_ ?_;(focus (refine Di (by simp;exact⟨rfl,rfl⟩) (by simp) rfl rfl (by decide) (by decide) (by first|(simp;rfl)|rfl) (by simp[AV.iF]) (by simp[AV.yC,AV.cells]) (by simp) (by simp[AV.cells]))))|(refine oH (j:=9) (v:= .obj 2 2) ⟨2,1,[(9,⟨true,false,1,2,[.str [115,116,121,108,101]]::p.gY.map dC⟩),(6,⟨true,false,1,1,[[.str [115,116,121,108,101]]]⟩)]⟩ [] [(6,⟨true,false,1,1,[[.str [115,116,121,108,101]]]⟩)] rfl (by simp) rfl (by simp[Region.binds];rfl) (by decide) (by simp[Region.binds];rfl) (by simp;rfl) rfl ?_ ?_;(focus (refine zQ (by first|(simp;rfl)|(simp;done)|rfl) rfl (by first|(simp;rfl)|(simp;done)|rfl) (by first|(simp;rfl)|(simp;done)|rfl) (by first|(simp;rfl)|(simp;done)|rfl) (by simp;exact⟨rfl,rfl⟩) (by simp) (by simp) (by simp;omega) (by simp;omega))))|(refine oH (j:=6) (v:= .obj 2 1) ⟨2,1,[(9,⟨true,false,1,2,[.str [115,116,121,108,101]]::p.gY.map dC⟩),(6,⟨true,false,1,1,[[.str [115,116,121,108,101]]]⟩)]⟩ [(9,⟨true,false,1,2,[.str [115,116,121,108,101]]::p.gY.map dC⟩)] [] rfl (by simp) rfl (by simp[Region.binds];rfl) (by decide) (by simp[Region.binds];rfl) (by simp;rfl) rfl ?_ ?_;(focus (refine Di (by simp;exact⟨rfl,rfl⟩) (by simp) rfl rfl (by decide) (by decide) (by first|(simp;rfl)|rfl) (by simp[AV.iF]) (by simp[AV.yC,AV.cells]) (by simp) (by simp[AV.cells]))))|(refine oH (j:=16) (v:= .obj 3 2) ⟨3,1,[(16,⟨true,false,1,2,[.str [105,109,103]]::p.gZ.map dC⟩),(13,⟨true,false,1,1,[[.str [105,109,103]]]⟩)]⟩ [] [(13,⟨true,false,1,1,[[.str [105,109,103]]]⟩)] rfl (by simp) rfl (by simp[Region.binds];rfl) (by decide) (by simp[Region.binds];rfl) (by simp;rfl) rfl ?_ ?_;(focus (refine zQ (by first|(simp;rfl)|(simp;done)|rfl) rfl (by first|(simp;rfl)|(simp;done)|rfl) (by first|(simp;rfl)|(simp;done)|rfl) (by first|(simp;rfl)|(simp;done)|rfl) (by simp;exact⟨rfl,rfl⟩) (by simp) (by simp) (by simp;omega) (by simp;omega))))|(refine oH (j:=13) (v:= .obj 3 1) ⟨3,1,[(16,⟨true,false,1,2,[.str [105,109,103]]::p.gZ.map dC⟩),(13,⟨true,false,1,1,[[.str [105,109,103]]]⟩)]⟩ [(16,⟨true,false,1,2,[.str [105,109,103]]::p.gZ.map dC⟩)] [] rfl (by simp) rfl (by simp[Region.binds];rfl) (by decide) (by simp[Region.binds];rfl) (by simp;rfl) rfl ?_ ?_;(focus (refine Di (by simp;exact⟨rfl,rfl⟩) (by simp) rfl rfl (by decide) (by decide) (by first|(simp;rfl)|rfl) (by simp[AV.iF]) (by simp[AV.yC,AV.cells]) (by simp) (by simp[AV.cells]))))|(refine Rh rfl ?_ (by simp[Region.binds];rfl) (by decide) (by simp[Region.binds];rfl) (by simp;rfl) ?_ rfl (by first|rfl|(simp;done)) ?_;(focus (first|rfl|(simp;done)));(focus (first|rfl|(simp[nW];done))))|(refine nx ?_;refine so ?_)|fail
    have W:=aA h2 hn;have V:=aA h2 hn;refine we ?_;all_goals try(refine aR ?_;simp[aP,results152,h2,hn])
   .rw [cY hn];refine uP aG [3] func152 ntmps152 ?_;have W:=aA h2 hn;have V:=aA h2 hn;refine we ?_;refine go_drawn3 [⟨1,1,[(3,⟨true,false,1,2,[.str [115,99,114,105,112,116]]::p.fC.map dC⟩),(0,⟨true,false,1,1,[[.str [115,99,114,105,112,116]]]⟩)]⟩,⟨2,1,[(9,⟨true,false,1,2,[.str [115,116,121,108,101]]::p.gY.map dC⟩),(6,⟨true,false,1,1,[[.str [115,116,121,108,101]]]⟩)]⟩,⟨3,1,[(16,⟨true,false,1,2,[.str [105,109,103]]::p.gZ.map dC⟩),(13,⟨true,false,1,1,[[.str [105,109,103]]]⟩)]⟩] (by simp;rfl) (by decide+kernel) (by decide+kernel) (by simp[nI,pre,Region.binds]) (by simp) ?_
    repeat' first|refine Zf (by simp;rfl) (by simp;rfl) ?_|(refine Rf ?_ (by simp;rfl) ?_;(focus (simp;done)))|(refine oH (j:=3) (v:= .obj 1 2) ⟨1,1,[(3,⟨true,false,1,2,[.str [115,99,114,105,112,116]]::p.fC.map dC⟩),(0,⟨true,false,1,1,[[.str [115,99,114,105,112,116]]]⟩)]⟩ [] [(0,⟨true,false,1,1,[[.str [115,99,114,105,112,116]]]⟩)] rfl (by simp) rfl (by simp[Region.binds];rfl) (by decide) (by simp[Region.binds];rfl) (by simp;rfl) rfl ?_ ?_;(focus (refine zQ (by first|(simp;rfl)|(simp;done)|rfl) rfl (by first|(simp;rfl)|(simp;done)|rfl) (by first|(simp;rfl)|(simp;done)|rfl) (by first|(simp;rfl)|(simp;done)|rfl) (by simp;exact⟨rfl,rfl⟩) (by simp) (by simp) (by simp;omega) (by simp;omega))))|(refine oH (j:=0) (v:= .obj 1 1) ⟨1,1,[(3,⟨true,false,1,2,[.str [115,99,114,105,112,116]]::p.fC.map dC⟩),(0,⟨true,false,1,1,[[.str [115,99,114,105,112,116]]]⟩)]⟩ [(3,⟨true,false,1,2,[.str [115,99,114,105,112,116]]::p.fC.map dC⟩)] [] rfl (by simp) rfl (by simp[Region.binds];rfl) (by decide) (by simp[Region.binds];rfl) (by simp;rfl) rfl ?_ ?_;(focus (refine Di (by simp;exact⟨rfl,rfl⟩) (by simp) rfl rfl (by decide) (by decide) (by first|(simp;rfl)|rfl) (by simp[AV.iF]) (by simp[AV.yC,AV.cells]) (by simp) (by simp[AV.cells]))))|(refine oH (j:=9) (v:= .obj 2 2) ⟨2,1,[(9,⟨true,false,1,2,[.str [115,116,121,108,101]]::p.gY.map dC⟩),(6,⟨true,false,1,1,[[.str [115,116,121,108,101]]]⟩)]⟩ [] [(6,⟨true,false,1,1,[[.str [115,116,121,108,101]]]⟩)] rfl (by simp) rfl (by simp[Region.binds];rfl) (by decide) (by simp[Region.binds];rfl) (by simp;rfl) rfl ?_ ?_;(focus (refine zQ (by first|(simp;rfl)|(simp;done)|rfl) rfl (by first|(simp;rfl)|(simp;done)|rfl) (by first|(simp;rfl)|(simp;done)|rfl) (by first|(simp;rfl)|(simp;done)|rfl) (by simp;exact⟨rfl,rfl⟩) (by simp) (by simp) (by simp;omega) (by simp;omega))))|(refine oH (j:=6) (v:= .obj 2 1) ⟨2,1,[(9,⟨true,false,1,2,[.str [115,116,121,108,101]]::p.gY.map dC⟩),(6,⟨true,false,1,1,[[.str [115,116,121,108,101]]]⟩)]⟩ [(9,⟨true,false,1,2,[.str [115,116,121,108,101]]::p.gY.map dC⟩)] [] rfl (by simp) rfl (by simp[Region.binds];rfl) (by decide) (by simp[Region.binds];rfl) (by simp;rfl) rfl ?_ ?_;(focus (refine Di (by simp;exact⟨rfl,rfl⟩) (by simp) rfl rfl (by decide) (by decide) (by first|(simp;rfl)|rfl) (by simp[AV.iF]) (by simp[AV.yC,AV.cells]) (by simp) (by simp[AV.cells]))))|(refine oH (j:=16) (v:= .obj 3 2) ⟨3,1,[(16,⟨true,false,1,2,[.str [105,109,103]]::p.gZ.map dC⟩),(13,⟨true,false,1,1,[[.str [105,109,103]]]⟩)]⟩ [] [(13,⟨true,false,1,1,[[.str [105,109,103]]]⟩)] rfl (by simp) rfl (by simp[Region.binds];rfl) (by decide) (by simp[Region.binds];rfl) (by simp;rfl) rfl ?_ ?_;(focus (refine zQ (by first|(simp;rfl)|(simp;done)|rfl) rfl (by first|(simp;rfl)|(simp;done)|rfl) (by first|(simp;rfl)|(simp;done)|rfl) (by first|(simp;rfl)|(simp;done)|rfl) (by simp;exact⟨rfl,rfl⟩) (by simp) (by simp) (by simp;omega) (by simp;omega))))|(refine oH (j:=13) (v:= .obj 3 1) ⟨3,1,[(16,⟨true,false,1,2,[.str [105,109,103]]::p.gZ.map dC⟩),(13,⟨true,false,1,1,[[.str [105,109,103]]]⟩)]⟩ [(16,⟨true,false,1,2,[.str [105,109,103]]::p.gZ.map dC⟩)] [] rfl (by simp) rfl (by simp[Region.binds];rfl) (by decide) (by simp[Region.binds];rfl) (by simp;rfl) rfl ?_ ?_;(focus (refine Di (by simp;exact⟨rfl,rfl⟩) (by simp) rfl rfl (by decide) (by decide) (by first|(simp;rfl)|rfl) (by simp[AV.iF]) (by simp[AV.yC,AV.cells]) (by simp) (by simp[AV.cells]))))|(refine Rh rfl ?_ (by simp[Region.binds];rfl) (by decide) (by simp[Region.binds];rfl) (by simp;rfl) ?_ rfl (by first|rfl|(simp;done)) ?_;(focus (first|rfl|(simp;done)));(focus (first|rfl|(simp[nW];done))))|(refine nx ?_;refine so ?_)|fail
    have W:=aA h2 hn;have V:=aA h2 hn;repeat' first|refine wf ?_|(refine sq ?_ ?_<;>intro hc<;>try exact hc.elim)|fail
    all_goals try(refine aR ?_;simp[aP,results152,h2,hn,pI])
    all_goals (exact absurd (by assumption) hn)
  .rw [cY (λh=>h2 h.2)]
   simp only[AD]at h2;rw[h1,h2]at c0;refine bM aG func152 ntmps152 ?_;have W:=h2;have V:=h2;refine we ?_;exact aF results152
 .rw [cY (λh=>h1 h.1)]
  simp only[AD]at h1;rw[h1]at c0;refine bM aG func152 ntmps152 ?_;refine aZ ?_;exact aF results152
end Go.Proofs.YthddijamfbfibaaGreatDoor
