/- Proved here: steps towards the statement of this claim. No condition. -/
import Derived.Test.YtdcpobkemdacnaaGreatDoorZQU7
set_option linter.all false
set_option maxRecDepth 4000
set_option maxHeartbeats 4000000
namespace Go.Proofs.YtdcpobkemdacnaaGreatDoor
open Go.Aw Proofs.Tryz List IntKind
theorem toEntry_ok [aC prog] (a:gI) (hs:gT a<=1048576):Ok prog 69 [.agg (iU a)] (.agg (iU a)):=by
 simp only [gT] at hs;refine bO aD func69 ntmps69 ?_;have W:=trivial;repeat' first|refine wg ?_|(refine nx ?_;first|refine sk (hc:=toAddr_ok a.to (by omega)) (h:=?_)|refine sk (hc:=toResponse_ok a.response (by omega)) (h:=?_))|(refine sq ?_ ?_<;>intro hc<;>try exact hc.elim)|fail
 exact aF results69
theorem mo [aC prog] (a:gI) (n:Int) (h0:0<=n) (h1:n<=1048576) (hw:Kr a):Ok prog 47 [.agg (iU a),.int .i64 n] (.int .i64 (sub n (gT a))):=by
 simp only [Kr] at hw;obtain ⟨aRp,wto,MH⟩:=hw;refine bO aD func47 ntmps47 ?_;have W:=trivial;repeat' first|refine wg ?_|(refine nx ?_;first|refine sk (hc:=MG a.to _ (by omega) (by repeat' (first|omega|apply xV|apply vS)) wto) (h:=?_)|refine sk (hc:=Ij a.response _ (by omega) (by repeat' (first|omega|apply xV|apply vS)) MH) (h:=?_))|(refine sq ?_ ?_<;>intro hc<;>try exact hc.elim)|fail
 all_goals try(refine aV ?_;simp [aH,results47,gT])
 all_goals (
  (try generalize e0:sub (n - (a.top.length:Int)) (aQ a.to)=m0 at *)
  (try (first|have f0:=xW e0 (by omega)|have f0:=vT e0 (by omega) (by omega)))
  (try generalize e1:sub m0 (bI a.response)=m1 at *)
  (try (first|have f1:=xW e1 (by omega)|have f1:=vT e1 (by omega) (by omega)))
  repeat (simp (disch:=omega) only [wrap64] at *)
  (try simp only [sub]);(try split);all_goals omega)
theorem mq [aC prog] (a b:gI) (hs:gT a<=1099511627776):Ok prog 87 [.agg (iU a),.agg (iU b)] (.bool (decide (a=b))):=by
 simp only [gT] at hs;refine bO aD func87 ntmps87 ?_;have W:=trivial;repeat' first|refine wg ?_|(refine nx ?_;first|refine sk (hc:=VH a.to b.to (by omega)) (h:=?_)|refine sk (hc:=Ik a.response b.response (by omega)) (h:=?_))|(refine sq ?_ ?_<;>intro hc<;>try exact hc.elim)|fail
 all_goals try(refine aV ?_;simp [aH,results87])
 all_goals ((repeat clear hK K);cases a;cases b;simp_all)
theorem toEntryS_ok [aC prog] (l:List gI) (hs:bT gT l<=1048576):Ok prog 35 [.sl .view 10 (l.map iU)] (.sl .own 10 (l.map iU)):=by
 have hl:l.length<=1048576:=by (try simp only [bT] at hs);omega
 have hb:(120:Int) * (l.length:Int)<=281474976710656:=by omega
 have hb2:(l.length:Int)<=9223372036854775807:=by omega
 generalize hz:([.str [],.str [],.str [],.int .i64 0,.int .i64 0,.str [],.int .i64 0,.bool false,.str [],.int .i64 0]:List AV)=z;have hz0:=Eh z (l.map iU);rw [oX] at hz0;refine bO aD func35 ntmps35 ?_;have W:=aA hb hb2;refine wl ?_;refine aP (ι:={k:Nat // k<=l.length}) (λt o i=>⟨bE t [(4,.int .i64 i.1)],[⟨true,false,10,1,Bh z (l.map iU) i.1⟩]⟩)
  (λi=>l.length - i.1) ⟨0,by simp⟩ (aO (by simp [hz,hz0]) (by simp)) ?_
 rintro ⟨k,hk⟩ K1 hK1;simp only [bE,cW,cU] at hK1⊢;have hk1:=oW (k:=k);by_cases hlt:k < l.length
 .have hg:=aE hlt;have hfg:=GH z (l.map iU) k (by simpa using hlt);have DT:=GI z (l.map iU) k (by simpa using hlt);rw [Fl] at DT;simp only [iU] at DT;have hzl:z.length=10:=by rw [<-hz];rfl
  have hzd:z.drop 10=[]:=by rw [<-hz];rfl
  have W:=aA hk1 (aA hg (aA hfg (aA hzl (aA hzd DT))));have V:=aA hk1 (aA hg hlt);repeat' first|refine wg ?_|(refine nx ?_;refine sk (hc:=toEntry_ok l[k] (by have:=dO gT l k hlt;(try simp only [bT] at hs);omega)) (h:=?_))|(refine sq ?_ ?_<;>intro hc<;>try exact hc.elim)|fail
  refine hK1 _ ⟨k+1,by omega⟩ (aX 1 rfl ?_ (by simp) (by simp)) (by simp only;omega);simp
 .have W:=hk1;refine wl ?_;have hfa:=GG z (l.map iU) k (by simpa using hlt);all_goals try(refine aV ?_;simp [aH,results35,hfa])
theorem Zi [aC prog] (l:List gI) (n:Int) (h0:0<=n) (h1:n<=1048576) (hw:l.length<=9223372036854775807/\∀y∈l,Kr y):Ok prog 25 [.sl .view 10 (l.map iU),.int .i64 n] (.int .i64 (sub n (bT gT l))):=by
 obtain ⟨hl,hw⟩:=hw;refine bO aD func25 ntmps25 ?_;have W:=trivial;repeat' first|refine wg ?_|(refine sq ?_ ?_<;>intro hc<;>try exact hc.elim)|fail
 .refine aV ?_;simp [aH,results25,sub,bT];omega
 .refine aP (ι:={k:Nat // k<=l.length/\l.length+bH gT (l.take k)<=n}) (λt o i=>⟨bE t [(1,.int .i64 (n - (l.length+bH gT (l.take i.1):Nat))),(5,.int .i64 i.1)],[]⟩)
   (λi=>l.length - i.1) ⟨0,by simp,by simp [bH];omega⟩ (aO (by simp) (by simp [bH])) ?_
  rintro ⟨k,hk,hs⟩ K1 hK1;simp only [bE,cW,cU] at hK1⊢;have hk1:=oW (k:=k);by_cases hlt:k < l.length
  .have hg:=aE hlt;have hts:=rT gT l k hlt;have htl:=sZ gT l (k+1);have hwg:=hw _ (fN hlt);have W:=aA hk1 hg;repeat' first|refine wg ?_|(refine nx ?_;refine sk (hc:=mo _ _ (by omega) (by omega) hwg) (h:=?_))|(refine sq ?_ ?_<;>intro hc<;>try exact hc.elim)|fail
   .refine ⟨.inr rfl,?_⟩;simp [aH,results25,bT]
    (repeat clear hK K);simp only [sub] at *;grind
   .refine hK1 _ ⟨k+1,by omega,by (repeat clear hK K);simp only [sub] at *;grind⟩ (aO (by simp) ?_) (by simp only;omega);simp
    (repeat clear hK K);simp only [sub] at *;grind
  .have W:=hk1;refine wl ?_;all_goals try(refine aV ?_;simp [aH,results25,bT])
   have:k=l.length:=by omega
   subst this;rw [As] at *;rw [sub_pos (by omega)];omega
theorem Zj [aC prog] (a b:List gI) (hs:bT gT a<=1099511627776):Ok prog 44 [.sl .view 10 (a.map iU),.sl .view 10 (b.map iU)] (.bool (decide (a=b))):=by
 have hl:a.length<=1099511627776:=by (try simp only [bT] at hs);omega
 refine bO aD func44 ntmps44 ?_;have W:=trivial;repeat' first|refine wg ?_|(refine sq ?_ ?_<;>intro hc<;>try exact hc.elim)|fail
 .all_goals try(refine aV ?_;simp [aH,results44])
  intro h;subst h;exact absurd rfl hc
 .have hlen:a.length=b.length:=by omega
  refine aP (ι:={k:Nat // k<=a.length/\a.take k=b.take k}) (λt o i=>⟨bE t [(5,.int .i64 i.1)],[]⟩)
   (λi=>a.length - i.1) ⟨0,by simp⟩ aO ?_
  rintro ⟨k,hk,hpre⟩ K1 hK1;simp only [bE,cW,cU] at hK1⊢;have hk1:=oW (k:=k);by_cases hlt:k < a.length
  .have hg:=aE hlt;have Ji:k < b.length:=by omega
   have hgb:=aE Ji;have W:=aA hk1 (aA hg (aA hlt (aA hgb Ji)));repeat' first|refine wg ?_|(refine nx ?_;refine sk (hc:=mq a[k] b[k] (by have:=dO gT a k hlt;(try simp only [bT] at hs);omega)) (h:=?_))|(refine sq ?_ ?_<;>intro hc<;>try exact hc.elim)|fail
   .all_goals try(refine aV ?_;simp [aH,results44])
    intro h;subst h;exact hc rfl
   .have hts:a.take (k+1)=b.take (k+1):=by rw [eK hlt,eK Ji,hpre,hc]
    refine hK1 _ ⟨k+1,by omega,hts⟩ aO (by simp only;omega)
  .have hka:a.length<=k:=by omega
   rw [cY hka,cY (by omega)] at hpre;subst hpre;have W:=hk1;refine wl ?_;exact aF results44
theorem toCache_ok [aC prog] (a:rV) (hs:nV a<=1048576):Ok prog 17 [.agg (iH .view a)] (.agg (iH .own a)):=by
 simp only [nV] at hs;refine bO aD func17 ntmps17 ?_;have W:=trivial;repeat' first|refine wg ?_|(refine nx ?_;refine sk (hc:=toEntryS_ok a.entries (by omega)) (h:=?_))|(refine sq ?_ ?_<;>intro hc<;>try exact hc.elim)|fail
 exact aF results17
theorem mr [aC prog] (a:rV) (n:Int) (h0:0<=n) (h1:n<=1048576) (hw:Xa a):Ok prog 12 [.agg (iH .view a),.int .i64 n] (.int .i64 (sub n (nV a))):=by
 simp only [Xa] at hw;have aCz:=hw;refine bO aD func12 ntmps12 ?_;have W:=trivial;repeat' first|refine wg ?_|(refine nx ?_;refine sk (hc:=Zi a.entries _ (by omega) (by repeat' (first|omega|apply xV|apply vS)) aCz) (h:=?_))|(refine sq ?_ ?_<;>intro hc<;>try exact hc.elim)|fail
 all_goals try(refine aV ?_;simp [aH,results12,nV])
 all_goals (
  (try generalize e0:sub n (bT gT a.entries)=m0 at *)
  (try (first|have f0:=xW e0 (by omega)|have f0:=vT e0 (by omega) (by omega)))
  repeat (simp (disch:=omega) only [wrap64] at *)
  (try simp only [sub]);(try split);all_goals omega)
theorem ng [aC prog] (a b:rV) (hs:nV a<=1099511627776):Ok prog 22 [.agg (iH .view a),.agg (iH .view b)] (.bool (decide (a=b))):=by
 simp only [nV] at hs;refine bO aD func22 ntmps22 ?_;have W:=trivial;repeat' first|refine wg ?_|(refine nx ?_;refine sk (hc:=Zj a.entries b.entries (by omega)) (h:=?_))|(refine sq ?_ ?_<;>intro hc<;>try exact hc.elim)|fail
 all_goals try(refine aV ?_;simp [aH,results22])
 all_goals ((repeat clear hK K);cases a;cases b;simp_all)
theorem toSent_ok [aC prog] (a:Ap) (hs:tF a<=1048576):Ok prog 36 [.agg (rE a)] (.agg (rE a)):=by
 simp only [tF] at hs;refine bO aD func36 ntmps36 ?_;have W:=trivial;repeat' first|refine wg ?_|(refine nx ?_;refine sk (hc:=toAddr_ok a.to (by omega)) (h:=?_))|(refine sq ?_ ?_<;>intro hc<;>try exact hc.elim)|fail
 exact aF results36
theorem M0 [aC prog] (a:Ap) (n:Int) (h0:0<=n) (h1:n<=1048576) (hw:QN a):Ok prog 26 [.agg (rE a),.int .i64 n] (.int .i64 (sub n (tF a))):=by
 simp only [QN] at hw;obtain ⟨aRp,wto⟩:=hw;refine bO aD func26 ntmps26 ?_;have W:=trivial;repeat' first|refine wg ?_|(refine nx ?_;refine sk (hc:=MG a.to _ (by omega) (by repeat' (first|omega|apply xV|apply vS)) wto) (h:=?_))|(refine sq ?_ ?_<;>intro hc<;>try exact hc.elim)|fail
 all_goals try(refine aV ?_;simp [aH,results26,tF])
 all_goals (
  (try generalize e0:sub (n - (a.top.length:Int)) (aQ a.to)=m0 at *)
  (try (first|have f0:=xW e0 (by omega)|have f0:=vT e0 (by omega) (by omega)))
  repeat (simp (disch:=omega) only [wrap64] at *)
  (try simp only [sub]);(try split);all_goals omega)
theorem M3 [aC prog] (a b:Ap) (hs:tF a<=1099511627776):Ok prog 45 [.agg (rE a),.agg (rE b)] (.bool (decide (a=b))):=by
 simp only [tF] at hs;refine bO aD func45 ntmps45 ?_;have W:=trivial;repeat' first|refine wg ?_|(refine nx ?_;refine sk (hc:=VH a.to b.to (by omega)) (h:=?_))|(refine sq ?_ ?_<;>intro hc<;>try exact hc.elim)|fail
 all_goals try(refine aV ?_;simp [aH,results45])
 all_goals ((repeat clear hK K);cases a;cases b;simp_all)
theorem toSentS_ok [aC prog] (l:List Ap) (hs:bT tF l<=1048576):Ok prog 18 [.sl .view 4 (l.map rE)] (.sl .own 4 (l.map rE)):=by
 have hl:l.length<=1048576:=by (try simp only [bT] at hs);omega
 have hb:(56:Int) * (l.length:Int)<=281474976710656:=by omega
 have hb2:(l.length:Int)<=9223372036854775807:=by omega
 generalize hz:([.str [],.str [],.str [],.bool false]:List AV)=z;have hz0:=Eh z (l.map rE);rw [oX] at hz0;refine bO aD func18 ntmps18 ?_;have W:=aA hb hb2;refine wl ?_;refine aP (ι:={k:Nat // k<=l.length}) (λt o i=>⟨bE t [(4,.int .i64 i.1)],[⟨true,false,4,1,Bh z (l.map rE) i.1⟩]⟩)
  (λi=>l.length - i.1) ⟨0,by simp⟩ (aO (by simp [hz,hz0]) (by simp)) ?_
 rintro ⟨k,hk⟩ K1 hK1;simp only [bE,cW,cU] at hK1⊢;have hk1:=oW (k:=k);by_cases hlt:k < l.length
 .have hg:=aE hlt;have hfg:=GH z (l.map rE) k (by simpa using hlt);have DT:=GI z (l.map rE) k (by simpa using hlt);rw [Fl] at DT;simp only [rE] at DT;have hzl:z.length=4:=by rw [<-hz];rfl
  have hzd:z.drop 4=[]:=by rw [<-hz];rfl
  have W:=aA hk1 (aA hg (aA hfg (aA hzl (aA hzd DT))));have V:=aA hk1 (aA hg hlt);repeat' first|refine wg ?_|(refine nx ?_;refine sk (hc:=toSent_ok l[k] (by have:=dO tF l k hlt;(try simp only [bT] at hs);omega)) (h:=?_))|(refine sq ?_ ?_<;>intro hc<;>try exact hc.elim)|fail
  refine hK1 _ ⟨k+1,by omega⟩ (aX 1 rfl ?_ (by simp) (by simp)) (by simp only;omega);simp
 .have W:=hk1;refine wl ?_;have hfa:=GG z (l.map rE) k (by simpa using hlt);all_goals try(refine aV ?_;simp [aH,results18,hfa])
theorem ni [aC prog] (l:List Ap) (n:Int) (h0:0<=n) (h1:n<=1048576) (hw:l.length<=9223372036854775807/\∀y∈l,QN y):Ok prog 13 [.sl .view 4 (l.map rE),.int .i64 n] (.int .i64 (sub n (bT tF l))):=by
 obtain ⟨hl,hw⟩:=hw;refine bO aD func13 ntmps13 ?_;have W:=trivial;repeat' first|refine wg ?_|(refine sq ?_ ?_<;>intro hc<;>try exact hc.elim)|fail
 .refine aV ?_;simp [aH,results13,sub,bT];omega
 .refine aP (ι:={k:Nat // k<=l.length/\l.length+bH tF (l.take k)<=n}) (λt o i=>⟨bE t [(1,.int .i64 (n - (l.length+bH tF (l.take i.1):Nat))),(5,.int .i64 i.1)],[]⟩)
   (λi=>l.length - i.1) ⟨0,by simp,by simp [bH];omega⟩ (aO (by simp) (by simp [bH])) ?_
  rintro ⟨k,hk,hs⟩ K1 hK1;simp only [bE,cW,cU] at hK1⊢;have hk1:=oW (k:=k);by_cases hlt:k < l.length
  .have hg:=aE hlt;have hts:=rT tF l k hlt;have htl:=sZ tF l (k+1);have hwg:=hw _ (fN hlt);have W:=aA hk1 hg;repeat' first|refine wg ?_|(refine nx ?_;refine sk (hc:=M0 _ _ (by omega) (by omega) hwg) (h:=?_))|(refine sq ?_ ?_<;>intro hc<;>try exact hc.elim)|fail
   .refine ⟨.inr rfl,?_⟩;simp [aH,results13,bT]
    (repeat clear hK K);simp only [sub] at *;grind
   .refine hK1 _ ⟨k+1,by omega,by (repeat clear hK K);simp only [sub] at *;grind⟩ (aO (by simp) ?_) (by simp only;omega);simp
    (repeat clear hK K);simp only [sub] at *;grind
  .have W:=hk1;refine wl ?_;all_goals try(refine aV ?_;simp [aH,results13,bT])
   have:k=l.length:=by omega
   subst this;rw [As] at *;rw [sub_pos (by omega)];omega
theorem nk [aC prog] (a b:List Ap) (hs:bT tF a<=1099511627776):Ok prog 23 [.sl .view 4 (a.map rE),.sl .view 4 (b.map rE)] (.bool (decide (a=b))):=by
 have hl:a.length<=1099511627776:=by (try simp only [bT] at hs);omega
 refine bO aD func23 ntmps23 ?_;have W:=trivial;repeat' first|refine wg ?_|(refine sq ?_ ?_<;>intro hc<;>try exact hc.elim)|fail
 .all_goals try(refine aV ?_;simp [aH,results23])
  intro h;subst h;exact absurd rfl hc
 .have hlen:a.length=b.length:=by omega
  refine aP (ι:={k:Nat // k<=a.length/\a.take k=b.take k}) (λt o i=>⟨bE t [(5,.int .i64 i.1)],[]⟩)
   (λi=>a.length - i.1) ⟨0,by simp⟩ aO ?_
  rintro ⟨k,hk,hpre⟩ K1 hK1;simp only [bE,cW,cU] at hK1⊢;have hk1:=oW (k:=k);by_cases hlt:k < a.length
  .have hg:=aE hlt;have Ji:k < b.length:=by omega
   have hgb:=aE Ji;have W:=aA hk1 (aA hg (aA hlt (aA hgb Ji)));repeat' first|refine wg ?_|(refine nx ?_;refine sk (hc:=M3 a[k] b[k] (by have:=dO tF a k hlt;(try simp only [bT] at hs);omega)) (h:=?_))|(refine sq ?_ ?_<;>intro hc<;>try exact hc.elim)|fail
   .all_goals try(refine aV ?_;simp [aH,results23])
    intro h;subst h;exact hc rfl
   .have hts:a.take (k+1)=b.take (k+1):=by rw [eK hlt,eK Ji,hpre,hc]
    refine hK1 _ ⟨k+1,by omega,hts⟩ aO (by simp only;omega)
  .have hka:a.length<=k:=by omega
   rw [cY hka,cY (by omega)] at hpre;subst hpre;have W:=hk1;refine wl ?_;exact aF results23
theorem toNet_ok [aC prog] (a:nN) (hs:nO a<=1048576):Ok prog 7 [.agg (mP .view a)] (.agg (mP .own a)):=by
 simp only [nO] at hs;refine bO aD func7 ntmps7 ?_;have W:=trivial;repeat' first|refine wg ?_|(refine nx ?_;first|refine sk (hc:=toServerS_ok a.jO (by omega)) (h:=?_)|refine sk (hc:=toCache_ok a.cache (by omega)) (h:=?_)|refine sk (hc:=toSentS_ok a.log (by omega)) (h:=?_))|(refine sq ?_ ?_<;>intro hc<;>try exact hc.elim)|fail
 exact aF results7
theorem aC0 [aC prog] (a:nN) (n:Int) (h0:0<=n) (h1:n<=1048576) (hw:yg a):Ok prog 4 [.agg (mP .view a),.int .i64 n] (.int .i64 (sub n (nO a))):=by
 simp only [yg] at hw;obtain ⟨aC1,aK0,aRr⟩:=hw;refine bO aD func4 ntmps4 ?_;have W:=trivial;repeat' first|refine wg ?_|(refine nx ?_;first|refine sk (hc:=Xi a.jO _ (by omega) (by repeat' (first|omega|apply xV|apply vS)) aC1) (h:=?_)|refine sk (hc:=mr a.cache _ (by omega) (by repeat' (first|omega|apply xV|apply vS)) aK0) (h:=?_)|refine sk (hc:=ni a.log _ (by omega) (by repeat' (first|omega|apply xV|apply vS)) aRr) (h:=?_))|(refine sq ?_ ?_<;>intro hc<;>try exact hc.elim)|fail
 all_goals try(refine aV ?_;simp [aH,results4,nO])
 all_goals (
  (try generalize e0:sub n (bT gF a.jO)=m0 at *)
  (try (first|have f0:=xW e0 (by omega)|have f0:=vT e0 (by omega) (by omega)))
  (try generalize e1:sub m0 (nV a.cache)=m1 at *)
  (try (first|have f1:=xW e1 (by omega)|have f1:=vT e1 (by omega) (by omega)))
  (try generalize e2:sub m1 (bT tF a.log)=m2 at *)
  (try (first|have f2:=xW e2 (by omega)|have f2:=vT e2 (by omega) (by omega)))
  repeat (simp (disch:=omega) only [wrap64] at *)
  (try simp only [sub]);(try split);all_goals omega)
theorem aC2 [aC prog] (a b:nN) (hs:nO a<=1099511627776):Ok prog 10 [.agg (mP .view a),.agg (mP .view b)] (.bool (decide (a=b))):=by
 simp only [nO] at hs;refine bO aD func10 ntmps10 ?_;have W:=trivial;repeat' first|refine wg ?_|(refine nx ?_;first|refine sk (hc:=Xj a.jO b.jO (by omega)) (h:=?_)|refine sk (hc:=ng a.cache b.cache (by omega)) (h:=?_)|refine sk (hc:=nk a.log b.log (by omega)) (h:=?_))|(refine sq ?_ ?_<;>intro hc<;>try exact hc.elim)|fail
 all_goals try(refine aV ?_;simp [aH,results10])
 all_goals ((repeat clear hK K);cases a;cases b;simp_all)
end Go.Proofs.YtdcpobkemdacnaaGreatDoor
set_option maxRecDepth 100000
set_option maxHeartbeats 4000000
namespace Go.Proofs.YtdcpobkemdacnaaGreatDoor
open Go.Aw Go.RowKit Go.Lib Proofs.Tryz List IntKind
theorem aLg (w:World) (vb vc:Nat) (hc:bN w vb 0 mkPairs):
  Calls prog 306 #[.slice (some ⟨vb,0,none⟩) 4 vc] w λe w'=>∃rb sb sc r0,e= .returned (.pointer (some ⟨rb,0,none⟩))/\w.heap.size<=rb/\rb < w'.heap.size/\w'.cell? ⟨rb,0,none⟩=some (.int .u32 0)/\w'.cell? ⟨rb,1,none⟩=some (.int .i32 0)/\w'.cell? ⟨rb,3,none⟩=some r0/\(∀j,w'.frozen? ⟨rb,j,none⟩=false)/\
   w'.cell? ⟨rb,4,none⟩=some (.slice (some ⟨sb,0,none⟩) 4 sc)/\bN w' sb 0 mkPairs/\sb≠rb/\Ext w w':=by
 obtain ⟨inf,Js,hq⟩:=sX.1 (show (prog.info? 9).map (λi=>(i.size,i.bytes))=some (1,16) by kernel_rfl);obtain ⟨hsz,hby⟩:=Prod.mk.inj hq;obtain ⟨z,hz0⟩:∃z,inf.zero=some z:=by
  have h:=Tryz.zsz9;simp only [bQ,Js] at h;cases hz:inf.zero with
  |none=>simp [hz] at h
  |some z=>exact ⟨z,rfl⟩
 obtain ⟨G,hG⟩:∃G,G=grownCap w 4 0 9:=⟨_,rfl⟩;obtain ⟨ROW,hROW⟩:∃ROW:Array Value,ROW=mkPairs.toArray++Builtin.zeroCells z.cells (G - 4):=⟨_,rfl⟩;have hap:∀ty,(Builtin.append_ #[49,49] ty #[.slice none 0 0,.slice (some ⟨vb,0,none⟩) 4 vc]).run prog w= .ok (.slice (some ⟨w.heap.size,0,none⟩) 4 G) (w.drew.alloc (.cells ROW 9)):=λty=>by have h:=(Go.Aw.IQ (P:=prog) (w:=w) (tS:=49) (xT:=49) (ty:=ty) Tryz.underlying49 ⟨_,Tryz.underlying49,λk h=>by cases h⟩ Js hz0 (base:=none) (sLen:=0) (sCap:=0) (n:=4) (x:= .slice (some ⟨vb,0,none⟩) 4 vc) (by simp [Builtin.lenOf]) (news:=mkPairs) (olds:=[]) (λw' hw=>by rw [hsz];exact kP rfl (show bN w' vb 0 mkPairs from λj v hv=>by simpa [World.cell?,hw] using hc j v hv)) (λw' hw=>by rw [hsz];rfl) (by rw [hby];decide) (by decide)).2 (by decide);rw [hROW,hG];simpa using h
 have hself:=fT w.drew (.cells ROW 9);have hold:=heap_alloc w.drew (.cells ROW 9);have hx1:Ext w (w.drew.alloc (.cells ROW 9)):=⟨by simp,hold,⟨rfl,rfl,rfl⟩⟩;have hs1:(w.drew.alloc (.cells ROW 9)).heap.size=w.heap.size+1:=by simp
 generalize w.drew.alloc (.cells ROW 9)=W1 at *;have hc1:bN W1 w.heap.size 0 mkPairs:=λj v hv=>by
  have Ev:W1.heap[w.heap.size]? =some (.cells ROW 9 (0,0)):=hself;have hj:=(cH.1 hv).1;have:ROW[j]? =some v:=by rw [hROW,sR (by simpa using hj)];simpa using hv
  simp [World.cell?,Ev,this]
 clear hself hold hROW;subst hG
 go_enter func306,ntmps306
 go_wp2_with (at_builtin;refine Lib.wpList_append_run _ rfl _ _ _ _ rfl _ _ rfl rfl _ _ (hap _) ?_)
 go_ret
 have hself:=fT W1 (.cells #[Value.int IntKind.u32 0,Value.int IntKind.i32 0,Value.int IntKind.u32 0,Value.nilIface,Value.slice (some ⟨w.heap.size,0,none⟩) 4 (grownCap w 4 0 9)] 321);have hold:=heap_alloc W1 (.cells #[Value.int IntKind.u32 0,Value.int IntKind.i32 0,Value.int IntKind.u32 0,Value.nilIface,Value.slice (some ⟨w.heap.size,0,none⟩) 4 (grownCap w 4 0 9)] 321);have hsz2:(W1.alloc (.cells #[Value.int IntKind.u32 0,Value.int IntKind.i32 0,Value.int IntKind.u32 0,Value.nilIface,Value.slice (some ⟨w.heap.size,0,none⟩) 4 (grownCap w 4 0 9)] 321)).heap.size=W1.heap.size+1:=by simp
 have hsm:oD W1 (W1.alloc (.cells #[Value.int IntKind.u32 0,Value.int IntKind.i32 0,Value.int IntKind.u32 0,Value.nilIface,Value.slice (some ⟨w.heap.size,0,none⟩) 4 (grownCap w 4 0 9)] 321)):=⟨rfl,rfl,rfl⟩;generalize W1.alloc (.cells #[Value.int IntKind.u32 0,Value.int IntKind.i32 0,Value.int IntKind.u32 0,Value.nilIface,Value.slice (some ⟨w.heap.size,0,none⟩) 4 (grownCap w 4 0 9)] 321)=W2 at *;have Ev:W2.heap[w.heap.size+1]? =some (.cells #[Value.int IntKind.u32 0,Value.int IntKind.i32 0,Value.int IntKind.u32 0,Value.nilIface,Value.slice (some ⟨w.heap.size,0,none⟩) 4 (grownCap w 4 0 9)] 321 (0,0)):=by rw [<-hs1];exact hself
 refine ⟨w.heap.size+1,w.heap.size,grownCap w 4 0 9,.nilIface,rfl,by omega,by omega,by simp [World.cell?,Ev],by simp [World.cell?,Ev],by simp [World.cell?,Ev],λj=>by simp [World.frozen?,Ev],by simp [World.cell?,Ev],λj v hv=> ?_,by omega,hx1.trans ⟨by omega,λb hb=>hold b hb,hsm⟩⟩;have h2:=hold w.heap.size (by omega);have:=hc1 j v hv;simpa [World.cell?,h2] using this
theorem Q5 (w:World) (s:ByteArray) (hs:s.size<=1099511627776):
  Calls prog 295 #[.string s] w λe w'=>e= .returned (.string ⟨(s.data.toList.map sQ).toArray⟩)/\Ext w w':=by
 have hbs:∀w:World,(Instr.buildSlice 49 4 #[(0,.string ⟨#[91]⟩),(1,.string ⟨#[60]⟩),(2,.string ⟨#[93]⟩),(3,.string ⟨#[62]⟩)]).run prog w= .ok (.slice (some ⟨w.heap.size,0,none⟩) 4 4) (w.alloc (.cells mkPairs.toArray 9)):=λw=>by
  letI:aC prog:={holds:=λ_=>True,low:=0,Qb:=λ_ _=>Nat.zero_le _,WB:=λ_ _ _ _=>trivial}
  have h:=Go.Aw.uT (P:=prog) (t:=49) (e:=9) (n:=1) (by':=16) (len:=4) (vs:=mkPairs) (w:=w) (by kernel_rfl) (by kernel_rfl) rfl (by decide) (by intro v hv;simp only [mkPairs,lE,not_mem_nil,or_false] at hv;rcases hv with rfl|rfl|rfl|rfl<;>rfl);exact h
 go_enter func295,ntmps295
 go_wp2_with (simp only [hbs])
 have hself:=fT w (.cells #[Value.string ⟨#[91]⟩,Value.string ⟨#[60]⟩,Value.string ⟨#[93]⟩,Value.string ⟨#[62]⟩] 9);have hx:Ext w (w.alloc (.cells #[Value.string ⟨#[91]⟩,Value.string ⟨#[60]⟩,Value.string ⟨#[93]⟩,Value.string ⟨#[62]⟩] 9)):=⟨by simp,λb hb=>heap_alloc w _ b hb,⟨rfl,rfl,rfl⟩⟩;generalize w.alloc (.cells #[Value.string ⟨#[91]⟩,Value.string ⟨#[60]⟩,Value.string ⟨#[93]⟩,Value.string ⟨#[62]⟩] 9)=W1 at *;have hc:bN W1 w.heap.size 0 mkPairs:=λj v hv=>by have Ev:W1.heap[w.heap.size]? =some (.cells mkPairs.toArray 9 (0,0)):=hself;simp [World.cell?,Ev,hv]
 clear hself hbs;refine (aLg W1 w.heap.size 4 hc).mono ?_;rintro e W2 ⟨rb,sb,sc,r0,rfl,a1,a2,a3,a4,a5,a6,a7,a8,a9,a10⟩
 go_wp2_with (go_at_call 307;refine (qo _ rb sb sc r0 s hs a2 a3 a4 a5 a6 a7 a8 a9).mono ?_;rintro e W3 ⟨rfl,b1,b2,b3⟩)
 go_ret
 exact ⟨rfl,⟨hM hx.size (hM a10.size b1),λb hb=>by
  have h1:=hx.size;have h2:=a10.size;rw [b2 b (by omega) (by omega),a10.old b (by omega),hx.old b hb],(hx.same.trans a10.same).trans b3⟩⟩
theorem qC [aC prog] (s:bB) (hs:s.length<=1099511627776):Ok prog 295 [.str s] (.str (s.map sQ)):=by
 intro w vs hg hargs;obtain ⟨c,rest,rfl⟩:∃c rest,vs=c::rest:=by
  cases vs with
  |nil=>simp [Rc] at hargs
  |cons c rest=>exact ⟨c,rest,rfl⟩
 simp only [Rc,R] at hargs;obtain ⟨f1,f2,⟨rfl,_⟩,h2,_⟩:=hargs;obtain rfl:rest=[]:=by
  cases rest with
  |nil=>rfl
  |cons=>simp [Rc] at h2
 refine (Q5 w ⟨s.toArray⟩ (by simpa [ByteArray.size] using hs)).mono ?_;rintro e w' ⟨rfl,hx⟩;exact ⟨.string ⟨(s.map sQ).toArray⟩,[],by simp,by simp [R],by simp,by simp,hx.size,hx.old,hx.same⟩
end Go.Proofs.YtdcpobkemdacnaaGreatDoor
set_option maxRecDepth 4000
set_option maxHeartbeats 4000000
namespace Go.Proofs.YtdcpobkemdacnaaGreatDoor
open Go.Aw Proofs.Tryz List IntKind
def MQ (p:bB):bB:=p.take (iL 58 p)
def Dw (p:bB):bB:=p.drop (iL 58 p+1)
def vG (p:bB):Option EN:=match Af (Dw p) with
 |some v=>if dB (MQ p)=true/\1<=v/\v<=999 then some ⟨MQ p,v⟩ else none
 |none=>none
def mF (l:List bB):List EN:=(l.filterMap vG).take 8
def vH (s:bB):gW:=⟨mF (dG 59 s)⟩
theorem GZ {p:bB} (h:Af (Dw p)=none):vG p=none:=by rw [vG,h]
theorem NZ {p:bB} (h:dB (MQ p)=false):vG p=none:=by
 unfold vG;split
 .rw [cX (by simp [h])]
 .rfl
theorem RO {p:bB} {v:Int} (h:Af (Dw p)=some v) (h1:¬(1<=v/\v<=999)):vG p=none:=by rw [vG,h];exact cX (λh=>h1 h.2)
theorem RQ {p:bB} {v:Int} (h:Af (Dw p)=some v) (hn:dB (MQ p)=true) (h1:1<=v/\v<=999):vG p=some ⟨MQ p,v⟩:=by rw [vG,h];exact eI ⟨hn,h1⟩
theorem RS {l:List bB} {k:Nat} (h:k < l.length) (hr:vG l[k]=none):mF (l.take (k+1))=mF (l.take k):=by unfold mF;rw [eK h,filterMap_append];simp [hr]
theorem RU {l:List bB} {k:Nat} {r:EN} (h:k < l.length) (hr:vG l[k]=some r) (h8:(mF (l.take k)).length < 8):mF (l.take (k+1))=mF (l.take k)++[r]:=by unfold mF at *;rw [eK h,filterMap_append];simp only [oR] at h8;simp only [filterMap_cons,hr,filterMap_nil];generalize (l.take k).filterMap vG=x at *;rw [cY (l:=x++[r]) (by simp;omega),cY (l:=x) (by omega)]
theorem RV {l:List bB} {k:Nat} (h8:¬(mF (l.take k)).length < 8):mF l=mF (l.take k):=by
 unfold mF at *;conv=>lhs;rw [<-nF k l,filterMap_append]
 simp only [oR] at h8;rw [AW (by omega)]
theorem ZO {l:List bB} {k:Nat} (h8:¬(mF (l.take k)).length < 8):mF (l.take (k+1))=mF (l.take k):=by have:= @RV (l.take (k+1)) k;rw [take_take,Ds (by omega)] at this;exact this h8
theorem ZP (l:List bB):(mF l).length<=8:=by unfold mF;simp;omega
theorem qw {p:bB} {x:UInt8} (hx:x∈Dw p) (h:x=58):Af (Dw p)=none:=by obtain ⟨k,hk,e⟩:=mem_iff_getElem.1 hx;refine ZN hk ?_;rw [e,h];decide
theorem aLm (p:bB):(dG 58 p=[MQ p,Dw p])\/((dG 58 p).length≠2/\vG p=none):=by
 rw [vF];by_cases h:iL 58 p < p.length
 .rw [eI h];by_cases h2:∀x∈Dw p,x≠58
  .left;rw [show p.drop (iL 58 p+1)=Dw p from rfl,Bl _ _ h2];rfl
  .right;have ⟨x,hx⟩:=Classical.not_forall.1 h2;have ⟨hm,hne⟩:=Classical.not_imp.1 hx;have aO0:=DO.1 hne;refine ⟨?_,GZ (qw hm aO0)⟩;rw [show p.drop (iL 58 p+1)=Dw p from rfl,eN,iW];have:0 < (Dw p).count 58:=count_pos_iff.2 (aO0▸hm);omega
 .right;rw [cX h];refine ⟨by simp,GZ ?_⟩;have e:Dw p=[]:=by unfold Dw;exact drop_eq_nil_of_le (by omega)
  rw [e];exact VX (by simp)
theorem KO [aC prog] [bR prog] [dK prog] [mZ prog] (s:bB) (hl:s.length<=1073741824):Ok prog 278 [.str s] (.agg (eD .own (vH s))):=by
 have cS:=VZ s 59 (by omega);have hsm:=Bc 59 s;have hsl:=iW 59 s;have hcn:s.count 59<=s.length:=pD;unfold vH;generalize dG 59 s=l at *;have hll:l.length<=1073741825:=by omega
 simp only [eD];refine bO aD func278 ntmps278 ?_;refine aZ ?_;refine aP (ι:={q:Nat×Nat×List EN // (q.1<=l.length/\1<=q.2.1)/\q.2.2=mF (l.take q.1)}) (λt o i=>⟨bE t [(15,.int .i64 i.1.1),(11,.undef)],o.take 1++[⟨true,true,1,0,[[.obj 3 i.1.2.1]]⟩,⟨true,false,1,1,l.map dD⟩,⟨true,false,2,i.1.2.1,i.1.2.2.map zR⟩]⟩)
  (λi=>l.length - i.1.1) ⟨(0,1,[]),by simp,by simp [mF]⟩ (vD 1 0 0 (ob:=⟨true,true,1,0,[[.sl .own 2 []]]⟩) (by rfl) (by rfl) (by rfl) (by simp) (by rfl) (by rfl) (by simp) (by simp [xM,rt,jV])) ?_
 rintro ⟨⟨k,v,acc⟩,⟨hk,hv⟩,wZ⟩ K1 hK1;simp only at hk hv wZ;simp only [bE,cW,cU,eL,fS,eA,eM] at hK1⊢;have hk1:=oW (k:=k);by_cases hlt:k < l.length
 .have hg:=aE hlt;have Q8:=dO gM l k hlt;simp only [gM] at Q8;have cC:=zK l[k] 58 (by omega);have cN:=gQ (MQ l[k]) (by simp [MQ];omega);have cP:=OU (Dw l[k]) (by simp [Dw];omega);change Ok _ _ _ (.gZ [.str (MQ l[k]),.str (Dw l[k]),.bool (decide (iL 58 l[k] < l[k].length))]) at cC;have n1:= @RS l k hlt;have n2:=λr=> @RU l k r hlt
  have n3:= @ZO l k;have r1:= @GZ l[k];have r2:= @NZ l[k];have r3:=λv=> @RO l[k] v
  have r4:=λv=> @RQ l[k] v
  have ha8:=ZP (l.take k);rw [<-wZ] at n1 n2 n3 ha8;generalize PV:mF (l.take (k+1))=RX at *;generalize hrl:vG l[k]=ru at *;generalize decide (iL 58 l[k] < l[k].length)=b1 at *;generalize MQ l[k]=ky at *;generalize Dw l[k]=vl at *;cases hp:Af vl with
  |none=>rw [vE hp] at cP;have e2:=n1 (r1 hp);clear r1 r2 r3 r4 n1 n2 n3;have W:=aA hk1 (aA hg hlt);refine we ?_;exact hK1 _ ⟨(k+1,v,acc),⟨by simp only;omega,hv⟩,(by simp only;rw [PV];exact e2.symm)⟩ (aX 4) (by simp only;omega)
  |some x=>
   rw [Ew hp] at cP;cases hn:dB ky with
   |false=>rw [hn] at cN;have e2:=n1 (r2 hn);clear r1 r2 r3 r4 n1 n2 n3;have W:=aA hk1 (aA hg hlt);refine we ?_;exact hK1 _ ⟨(k+1,v,acc),⟨by simp only;omega,hv⟩,(by simp only;rw [PV];exact e2.symm)⟩ (aX 4) (by simp only;omega)
   |true=>
    rw [hn] at cN;have cR:=jN x 1 999;by_cases hx:1<=x/\x<=999
    .have hb:(decide ((1:Int)<=x)&&decide (x<=(999:Int)))=true:=by simp;omega
     rw [hb] at cR;have hr:=r4 x hp hn hx;by_cases h8:acc.length < 8
     .have h8i:((acc.length:Int) < 8):=by omega
      have e2:=n2 _ hr h8;clear r1 r2 r3 r4 n1 n2 n3;have hps:RX.map zR=acc.map zR++[zR ⟨ky,x⟩]:=by rw [e2];simp
      have Mc:(acc.map zR).length=acc.length:=by simp
      have W:=aA hk1 (aA hg (aA hlt h8i));refine we ?_;exact hK1 _ ⟨(k+1,v+1,RX),⟨by simp only;omega,by simp only;omega⟩,(by simp only;exact PV.symm)⟩ (aX 4 (by simp [hps])) (by simp only;omega)
     .have h8i:¬((acc.length:Int) < 8):=by omega
      have e2:=n3 h8;clear r1 r2 r3 r4 n1 n2 n3;have W:=aA hk1 (aA hg (aA hlt h8i));refine we ?_;exact hK1 _ ⟨(k+1,v,acc),⟨by simp only;omega,hv⟩,(by simp only;rw [PV];exact e2.symm)⟩ (aX 4) (by simp only;omega)
    .have hb:(decide ((1:Int)<=x)&&decide (x<=(999:Int)))=false:=by simp only [tP,pT];omega
     rw [hb] at cR;have e2:=n1 (r3 x hp hx);clear r1 r2 r3 r4 n1 n2 n3;have W:=aA hk1 (aA hg hlt);refine we ?_;exact hK1 _ ⟨(k+1,v,acc),⟨by simp only;omega,hv⟩,(by simp only;rw [PV];exact e2.symm)⟩ (aX 4) (by simp only;omega)
 .have htk:l.take k=l:=cY (by omega);rw [htk] at wZ;subst wZ;have W:=hk1;refine we ?_;exact aF results278
end Go.Proofs.YtdcpobkemdacnaaGreatDoor
