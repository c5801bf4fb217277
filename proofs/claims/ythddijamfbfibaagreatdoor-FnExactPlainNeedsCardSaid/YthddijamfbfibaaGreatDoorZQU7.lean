/- Proved here: steps towards the statement of this claim. No condition. -/
import Derived.Test.YthddijamfbfibaaGreatDoorZQNF
set_option linter.all false
set_option maxRecDepth 4000
set_option maxHeartbeats 4000000
namespace Go.Proofs.YthddijamfbfibaaGreatDoor
open Go.Aw Proofs.Tryz List IntKind
theorem toFile_ok[aB prog](a:xS)(hs:tZ a<=1048576):Ok prog 139 [.agg (mP a)] (.agg (mP a)):=by
 simp only[tZ]at hs;refine bM aG func139 ntmps139 ?_;have W:=trivial;repeat' first|refine wg ?_|(refine nx ?_;refine sk (hc:=toResponse_ok a.response (by omega)) (h:=?_))|(refine sq ?_ ?_<;>intro hc<;>try exact hc.elim)|fail
 exact aF results139
theorem aB2[aB prog](a:xS)(n:Int)(h0:0<=n)(h1:n<=1048576)(hw:SA a):Ok prog 107 [.agg (mP a),.int .i64 n] (.int .i64 (sub n (tZ a))):=by
 simp only[SA]at hw;obtain⟨aSw,NU⟩:=hw;refine bM aG func107 ntmps107 ?_;have W:=trivial;repeat' first|refine wg ?_|(refine nx ?_;refine sk (hc:=Jm a.response _ (by omega) (by repeat' (first|omega|apply yI|apply wE)) NU) (h:=?_))|(refine sq ?_ ?_<;>intro hc<;>try exact hc.elim)|fail
 all_goals try(refine aR ?_;simp[aP,results107,tZ])
 all_goals (
  (try generalize e0:sub (n-(a.path.length:Int)) (bG a.response)=m0 at*)
  (try (first|have f0:=yJ e0 (by omega)|have f0:=wF e0 (by omega) (by omega)))
  repeat (simp (disch:=omega) only[wrap64]at*)
  (try simp only[sub]);(try split);all_goals omega)
theorem aB3[aB prog](a b:xS)(hs:tZ a<=1099511627776):Ok prog 176 [.agg (mP a),.agg (mP b)] (.bool (decide (a=b))):=by
 simp only[tZ]at hs;refine bM aG func176 ntmps176 ?_;have W:=trivial;repeat' first|refine wg ?_|(refine nx ?_;refine sk (hc:=Jn a.response b.response (by omega)) (h:=?_))|(refine sq ?_ ?_<;>intro hc<;>try exact hc.elim)|fail
 all_goals try(refine aR ?_;simp[aP,results176])
 all_goals ((repeat clear hK K);cases a;cases b;simp_all)
theorem toFileS_ok[aB prog](l:List xS)(hs:bP tZ l<=1048576):Ok prog 84 [.sl .view 7 (l.map mP)] (.sl .own 7 (l.map mP)):=by
 have hl:l.length<=1048576:=by(try simp only[bP]at hs);omega
 have hb:(80:Int)*(l.length:Int)<=281474976710656:=by omega
 have hb2:(l.length:Int)<=9223372036854775807:=by omega
 generalize hz:([.str [],.int .i64 0,.int .i64 0,.str [],.int .i64 0,.bool false,.str []]:List AV)=z;have hz0:=EO z (l.map mP);rw[mL]at hz0;refine bM aG func84 ntmps84 ?_;have W:=aA hb hb2;refine wl ?_;refine aM (ι:={k:Nat // k<=l.length}) (λt o i=>⟨bC t [(4,.int .i64 i.1)],[⟨true,false,7,1,BQ z (l.map mP) i.1⟩]⟩)
  (λi=>l.length-i.1) ⟨0,by simp⟩ (aK (by simp[hz,hz0]) (by simp)) ?_
 rintro⟨k,hk⟩ K1 hK1;simp only[bC,cW,cU]at hK1⊢;have hk1:=oQ (k:=k);by_cases hlt:k<l.length
 .have hg:=aE hlt;have hfg:=Il z (l.map mP) k (by simpa using hlt);have ED:=Im z (l.map mP) k (by simpa using hlt);rw[AT]at ED;simp only[mP]at ED;have hzl:z.length=7:=by rw[<-hz];rfl
  have hzd:z.drop 7=[]:=by rw[<-hz];rfl
  have W:=aA hk1 (aA hg (aA hfg (aA hzl (aA hzd ED))));have V:=aA hk1 (aA hg hlt);repeat' first|refine wg ?_|(refine nx ?_;refine sk (hc:=toFile_ok l[k] (by have:=dI tZ l k hlt;(try simp only[bP]at hs);omega)) (h:=?_))|(refine sq ?_ ?_<;>intro hc<;>try exact hc.elim)|fail
  refine hK1 _ ⟨k+1,by omega⟩ (aT 1 rfl ?_ (by simp) (by simp)) (by simp only;omega);simp
 .have W:=hk1;refine wl ?_;have hfa:=Ik z (l.map mP) k (by simpa using hlt);all_goals try(refine aR ?_;simp[aP,results84,hfa])
theorem zz[aB prog](l:List xS)(n:Int)(h0:0<=n)(h1:n<=1048576)(hw:l.length<=9223372036854775807/\∀y∈l,SA y):Ok prog 60 [.sl .view 7 (l.map mP),.int .i64 n] (.int .i64 (sub n (bP tZ l))):=by
 obtain⟨hl,hw⟩:=hw;refine bM aG func60 ntmps60 ?_;have W:=trivial;repeat' first|refine wg ?_|(refine sq ?_ ?_<;>intro hc<;>try exact hc.elim)|fail
 .refine aR ?_;simp[aP,results60,sub,bP];omega
 .refine aM (ι:={k:Nat // k<=l.length/\l.length+aY tZ (l.take k)<=n}) (λt o i=>⟨bC t [(1,.int .i64 (n-(l.length+aY tZ (l.take i.1):Nat))),(5,.int .i64 i.1)],[]⟩)
   (λi=>l.length-i.1) ⟨0,by simp,by simp[aY];omega⟩ (aK (by simp) (by simp[aY])) ?_
  rintro⟨k,hk,hs⟩ K1 hK1;simp only[bC,cW,cU]at hK1⊢;have hk1:=oQ (k:=k);by_cases hlt:k<l.length
  .have hg:=aE hlt;have hts:=jB tZ l k hlt;have htl:=jY tZ l (k+1);have hwg:=hw _ (fS hlt);have W:=aA hk1 hg;repeat' first|refine wg ?_|(refine nx ?_;refine sk (hc:=aB2 _ _ (by omega) (by omega) hwg) (h:=?_))|(refine sq ?_ ?_<;>intro hc<;>try exact hc.elim)|fail
   .refine ⟨.inr rfl,?_⟩;simp[aP,results60,bP]
    (repeat clear hK K);simp only[sub]at*;grind
   .refine hK1 _ ⟨k+1,by omega,by(repeat clear hK K);simp only[sub]at*;grind⟩ (aK (by simp) ?_) (by simp only;omega);simp
    (repeat clear hK K);simp only[sub]at*;grind
  .have W:=hk1;refine wl ?_;all_goals try(refine aR ?_;simp[aP,results60,bP])
   have:k=l.length:=by omega
   subst this;rw[vA]at*;rw[sub_pos (by omega)];omega
theorem A7[aB prog](a b:List xS)(hs:bP tZ a<=1099511627776):Ok prog 105 [.sl .view 7 (a.map mP),.sl .view 7 (b.map mP)] (.bool (decide (a=b))):=by
 have hl:a.length<=1099511627776:=by(try simp only[bP]at hs);omega
 refine bM aG func105 ntmps105 ?_;have W:=trivial;repeat' first|refine wg ?_|(refine sq ?_ ?_<;>intro hc<;>try exact hc.elim)|fail
 .all_goals try(refine aR ?_;simp[aP,results105])
  intro h;subst h;exact absurd rfl hc
 .have hlen:a.length=b.length:=by omega
  refine aM (ι:={k:Nat // k<=a.length/\a.take k=b.take k}) (λt o i=>⟨bC t [(5,.int .i64 i.1)],[]⟩)
   (λi=>a.length-i.1) ⟨0,by simp⟩ aK ?_
  rintro⟨k,hk,hpre⟩ K1 hK1;simp only[bC,cW,cU]at hK1⊢;have hk1:=oQ (k:=k);by_cases hlt:k<a.length
  .have hg:=aE hlt;have EX:k<b.length:=by omega
   have hgb:=aE EX;have W:=aA hk1 (aA hg (aA hlt (aA hgb EX)));repeat' first|refine wg ?_|(refine nx ?_;refine sk (hc:=aB3 a[k] b[k] (by have:=dI tZ a k hlt;(try simp only[bP]at hs);omega)) (h:=?_))|(refine sq ?_ ?_<;>intro hc<;>try exact hc.elim)|fail
   .all_goals try(refine aR ?_;simp[aP,results105])
    intro h;subst h;exact hc rfl
   .have hts:a.take (k+1)=b.take (k+1):=by rw[eJ hlt,eJ EX,hpre,hc]
    refine hK1 _ ⟨k+1,by omega,hts⟩ aK (by simp only;omega)
  .have hka:a.length<=k:=by omega
   rw[cX hka,cX (by omega)]at hpre;subst hpre;have W:=hk1;refine wl ?_;exact aF results105
theorem toServer_ok[aB prog](a:fU)(hs:eZ a<=1048576):Ok prog 45 [.agg (bX .view a)] (.agg (bX .own a)):=by
 simp only[eZ]at hs;refine bM aG func45 ntmps45 ?_;have W:=trivial;repeat' first|refine wg ?_|(refine nx ?_;refine sk (hc:=toFileS_ok a.files (by omega)) (h:=?_))|(refine sq ?_ ?_<;>intro hc<;>try exact hc.elim)|fail
 exact aF results45
theorem ji[aB prog](a:fU)(n:Int)(h0:0<=n)(h1:n<=1048576)(hw:Gx a):Ok prog 34 [.agg (bX .view a),.int .i64 n] (.int .i64 (sub n (eZ a))):=by
 simp only[Gx]at hw;obtain⟨aSv,aO6⟩:=hw;refine bM aG func34 ntmps34 ?_;have W:=trivial;repeat' first|refine wg ?_|(refine nx ?_;refine sk (hc:=zz a.files _ (by omega) (by repeat' (first|omega|apply yI|apply wE)) aO6) (h:=?_))|(refine sq ?_ ?_<;>intro hc<;>try exact hc.elim)|fail
 all_goals try(refine aR ?_;simp[aP,results34,eZ])
 all_goals (
  (try generalize e0:sub (n-(a.host.length:Int)) (bP tZ a.files)=m0 at*)
  (try (first|have f0:=yJ e0 (by omega)|have f0:=wF e0 (by omega) (by omega)))
  repeat (simp (disch:=omega) only[wrap64]at*)
  (try simp only[sub]);(try split);all_goals omega)
theorem jk[aB prog](a b:fU)(hs:eZ a<=1099511627776):Ok prog 55 [.agg (bX .view a),.agg (bX .view b)] (.bool (decide (a=b))):=by
 simp only[eZ]at hs;refine bM aG func55 ntmps55 ?_;have W:=trivial;repeat' first|refine wg ?_|(refine nx ?_;refine sk (hc:=A7 a.files b.files (by omega)) (h:=?_))|(refine sq ?_ ?_<;>intro hc<;>try exact hc.elim)|fail
 all_goals try(refine aR ?_;simp[aP,results55])
 all_goals ((repeat clear hK K);cases a;cases b;simp_all)
theorem toServerS_ok[aB prog](l:List fU)(hs:bP eZ l<=1048576):Ok prog 21 [.sl .view 2 (l.map (bX .view))] (.sl .own 2 (l.map (bX .own))):=by
 have hl:l.length<=1048576:=by(try simp only[bP]at hs);omega
 have hb:(40:Int)*(l.length:Int)<=281474976710656:=by omega
 have hb2:(l.length:Int)<=9223372036854775807:=by omega
 generalize hz:([.str [],.sl .own 7 []]:List AV)=z;have hz0:=EO z (l.map (bX .own));rw[mL]at hz0;refine bM aG func21 ntmps21 ?_;have W:=aA hb hb2;refine wl ?_;refine aM (ι:={k:Nat // k<=l.length}) (λt o i=>⟨bC t [(4,.int .i64 i.1)],[⟨true,false,2,1,BQ z (l.map (bX .own)) i.1⟩]⟩)
  (λi=>l.length-i.1) ⟨0,by simp⟩ (aK (by simp[hz,hz0]) (by simp)) ?_
 rintro⟨k,hk⟩ K1 hK1;simp only[bC,cW,cU]at hK1⊢;have hk1:=oQ (k:=k);by_cases hlt:k<l.length
 .have hg:=aE hlt;have hfg:=Il z (l.map (bX .own)) k (by simpa using hlt);have ED:=Im z (l.map (bX .own)) k (by simpa using hlt);rw[AT]at ED;simp only[bX]at ED;have hzl:z.length=2:=by rw[<-hz];rfl
  have hzd:z.drop 2=[]:=by rw[<-hz];rfl
  have W:=aA hk1 (aA hg (aA hfg (aA hzl (aA hzd ED))));have V:=aA hk1 (aA hg hlt);repeat' first|refine wg ?_|(refine nx ?_;refine sk (hc:=toServer_ok l[k] (by have:=dI eZ l k hlt;(try simp only[bP]at hs);omega)) (h:=?_))|(refine sq ?_ ?_<;>intro hc<;>try exact hc.elim)|fail
  refine hK1 _ ⟨k+1,by omega⟩ (aT 1 rfl ?_ (by simp) (by simp)) (by simp only;omega);simp
 .have W:=hk1;refine wl ?_;have hfa:=Ik z (l.map (bX .own)) k (by simpa using hlt);all_goals try(refine aR ?_;simp[aP,results21,hfa])
theorem YT[aB prog](l:List fU)(n:Int)(h0:0<=n)(h1:n<=1048576)(hw:l.length<=9223372036854775807/\∀y∈l,Gx y):Ok prog 15 [.sl .view 2 (l.map (bX .view)),.int .i64 n] (.int .i64 (sub n (bP eZ l))):=by
 obtain⟨hl,hw⟩:=hw;refine bM aG func15 ntmps15 ?_;have W:=trivial;repeat' first|refine wg ?_|(refine sq ?_ ?_<;>intro hc<;>try exact hc.elim)|fail
 .refine aR ?_;simp[aP,results15,sub,bP];omega
 .refine aM (ι:={k:Nat // k<=l.length/\l.length+aY eZ (l.take k)<=n}) (λt o i=>⟨bC t [(1,.int .i64 (n-(l.length+aY eZ (l.take i.1):Nat))),(5,.int .i64 i.1)],[]⟩)
   (λi=>l.length-i.1) ⟨0,by simp,by simp[aY];omega⟩ (aK (by simp) (by simp[aY])) ?_
  rintro⟨k,hk,hs⟩ K1 hK1;simp only[bC,cW,cU]at hK1⊢;have hk1:=oQ (k:=k);by_cases hlt:k<l.length
  .have hg:=aE hlt;have hts:=jB eZ l k hlt;have htl:=jY eZ l (k+1);have hwg:=hw _ (fS hlt);have W:=aA hk1 hg;repeat' first|refine wg ?_|(refine nx ?_;refine sk (hc:=ji _ _ (by omega) (by omega) hwg) (h:=?_))|(refine sq ?_ ?_<;>intro hc<;>try exact hc.elim)|fail
   .refine ⟨.inr rfl,?_⟩;simp[aP,results15,bP]
    (repeat clear hK K);simp only[sub]at*;grind
   .refine hK1 _ ⟨k+1,by omega,by(repeat clear hK K);simp only[sub]at*;grind⟩ (aK (by simp) ?_) (by simp only;omega);simp
    (repeat clear hK K);simp only[sub]at*;grind
  .have W:=hk1;refine wl ?_;all_goals try(refine aR ?_;simp[aP,results15,bP])
   have:k=l.length:=by omega
   subst this;rw[vA]at*;rw[sub_pos (by omega)];omega
theorem YU[aB prog](a b:List fU)(hs:bP eZ a<=1099511627776):Ok prog 27 [.sl .view 2 (a.map (bX .view)),.sl .view 2 (b.map (bX .view))] (.bool (decide (a=b))):=by
 have hl:a.length<=1099511627776:=by(try simp only[bP]at hs);omega
 refine bM aG func27 ntmps27 ?_;have W:=trivial;repeat' first|refine wg ?_|(refine sq ?_ ?_<;>intro hc<;>try exact hc.elim)|fail
 .all_goals try(refine aR ?_;simp[aP,results27])
  intro h;subst h;exact absurd rfl hc
 .have hlen:a.length=b.length:=by omega
  refine aM (ι:={k:Nat // k<=a.length/\a.take k=b.take k}) (λt o i=>⟨bC t [(5,.int .i64 i.1)],[]⟩)
   (λi=>a.length-i.1) ⟨0,by simp⟩ aK ?_
  rintro⟨k,hk,hpre⟩ K1 hK1;simp only[bC,cW,cU]at hK1⊢;have hk1:=oQ (k:=k);by_cases hlt:k<a.length
  .have hg:=aE hlt;have EX:k<b.length:=by omega
   have hgb:=aE EX;have W:=aA hk1 (aA hg (aA hlt (aA hgb EX)));repeat' first|refine wg ?_|(refine nx ?_;refine sk (hc:=jk a[k] b[k] (by have:=dI eZ a k hlt;(try simp only[bP]at hs);omega)) (h:=?_))|(refine sq ?_ ?_<;>intro hc<;>try exact hc.elim)|fail
   .all_goals try(refine aR ?_;simp[aP,results27])
    intro h;subst h;exact hc rfl
   .have hts:a.take (k+1)=b.take (k+1):=by rw[eJ hlt,eJ EX,hpre,hc]
    refine hK1 _ ⟨k+1,by omega,hts⟩ aK (by simp only;omega)
  .have hka:a.length<=k:=by omega
   rw[cX hka,cX (by omega)]at hpre;subst hpre;have W:=hk1;refine wl ?_;exact aF results27
theorem ZR[aB prog](l:List tT)(k:Int)(h0:0<=k)(hl:k+(aY (λ_=>4) l:Nat)<=4611686018427387000)(hll:l.length<=4611686018427387904):OkM prog 32 (.sl .own 4 (l.map jL)) (.sl .own 4 ((PH Ud (λ_=>4) k l).map jL)) [.int .i64 k] (.int .i64 (k+(aY (λ_=>4) l:Nat))):=by
 generalize hu:(PH Ud (λ_=>4) k l).map jL=l';have IX:l'.length=(l.map jL).length:=by rw[<-hu];simp[uD]
 refine zx aG func32 ntmps32 ?_;have W:=trivial;repeat' first|refine st ?_|(refine nx ?_;refine so ?_)|(refine cx ?_;refine sc (λhc=>?_) (λhc=>?_)<;>try exact hc.elim)|(refine lx ?_;refine sp (λhc=>?_) (λhc=>?_)<;>try exact hc.elim)|refine sx ?_ ?_|refine sy ?_ ?_|fail
 refine aM (ι:={j:Nat // j<=l.length}) (λt o i=>⟨bC t [(1,.int .i64 (k+(aY (λ_=>4) (l.take i.1):Nat))),(5,.int .i64 i.1)],[⟨true,false,4,0,yR (l.map jL) l' i.1⟩]⟩)
  (λi=>l.length-i.1) ⟨0,by simp⟩ (aK (by simp[Eu]) (by simp[aY])) ?_
 rintro⟨j,hj⟩ K1 hK1;simp only[bC,cW,cU]at hK1⊢;have hj1:i64.wrap ((j:Int)+1)=((j+1:Nat):Int):=by rw[wrap64]<;>omega
 have Nn:(yR (l.map jL) l' j).length=l.length:=by rw[AJ _ _ _ IX];simp
 have hle:=jY (λ_=>4) l (j+1);by_cases hlt:j<l.length
 .have hts:=jB (λ_=>4) l j hlt
  have hmg:=Hl (l.map jL) l' j (by simpa using hlt) (by rw[IX];simpa using hlt);have GV:=Hg (l.map jL) l' j (by simpa using hlt) (by rw[IX];simpa using hlt);have he:l'[j]'(by rw[IX];simpa using hlt)=jL (Ud (k+(aY (λ_=>4) (l.take j):Nat)) l[j]):=by subst hu;rw[AT,Fv]
  rw[he]at GV;generalize hq:k+(aY (λ_=>4) (l.take j):Nat)=q at*;have e2:q+1+1=q+2:=by omega
  have e3:q+2+1=q+3:=by omega
  have e4:q+3+1=q+4:=by omega
  simp only[jL,Ud,PI]at GV;have W:=aA Nn (aA hmg (aA hj1 (aA GV (aA e2 (aA e3 e4)))));have V:=aA Nn (aA hj1 (aA GV (aA hlt (aA e2 (aA e3 e4)))));repeat' first|refine st ?_|(refine nx ?_;first|refine so ?_|refine sk (hc:=xX _ (by omega)) (h:=?_))|(refine cx ?_;refine sc (λhc=>?_) (λhc=>?_)<;>try exact hc.elim)|(refine lx ?_;refine sp (λhc=>?_) (λhc=>?_)<;>try exact hc.elim)|refine sx ?_ ?_|refine sy ?_ ?_|fail
  refine hK1 _ ⟨j+1,by omega⟩ (aK (by simp) ?_) (by simp only;omega);simp;omega
 .have hma:=Et (l.map jL) l' j IX (by simp;omega);have hjl:j=l.length:=by omega
  have hcl:iY l'=true:=by rw[<-hu];simp
  have htk:l.take j=l:=cX (by omega);rw[htk]at*;have W:=aA Nn hj1;repeat' first|refine st ?_|(refine nx ?_;refine so ?_)|(refine cx ?_;refine sc (λhc=>?_) (λhc=>?_)<;>try exact hc.elim)|(refine lx ?_;refine sp (λhc=>?_) (λhc=>?_)<;>try exact hc.elim)|refine sx ?_ ?_|refine sy ?_ ?_|fail
  all_goals try(refine aR ?_;simp[EW,results32,hma,hcl])
theorem WG[aB prog](l:List fH)(k:Int)(h0:0<=k)(hl:k+(aY (λ_=>10) l:Nat)<=4611686018427387000)(hll:l.length<=4611686018427387904):OkM prog 59 (.sl .own 10 (l.map fP)) (.sl .own 10 ((PH Mj (λ_=>10) k l).map fP)) [.int .i64 k] (.int .i64 (k+(aY (λ_=>10) l:Nat))):=by
 generalize hu:(PH Mj (λ_=>10) k l).map fP=l';have IX:l'.length=(l.map fP).length:=by rw[<-hu];simp[uD]
 refine zx aG func59 ntmps59 ?_;have W:=trivial;repeat' first|refine st ?_|(refine nx ?_;refine so ?_)|(refine cx ?_;refine sc (λhc=>?_) (λhc=>?_)<;>try exact hc.elim)|(refine lx ?_;refine sp (λhc=>?_) (λhc=>?_)<;>try exact hc.elim)|refine sx ?_ ?_|refine sy ?_ ?_|fail
 refine aM (ι:={j:Nat // j<=l.length}) (λt o i=>⟨bC t [(1,.int .i64 (k+(aY (λ_=>10) (l.take i.1):Nat))),(5,.int .i64 i.1)],[⟨true,false,10,0,yR (l.map fP) l' i.1⟩]⟩)
  (λi=>l.length-i.1) ⟨0,by simp⟩ (aK (by simp[Eu]) (by simp[aY])) ?_
 rintro⟨j,hj⟩ K1 hK1;simp only[bC,cW,cU]at hK1⊢;have hj1:i64.wrap ((j:Int)+1)=((j+1:Nat):Int):=by rw[wrap64]<;>omega
 have Nn:(yR (l.map fP) l' j).length=l.length:=by rw[AJ _ _ _ IX];simp
 have hle:=jY (λ_=>10) l (j+1);by_cases hlt:j<l.length
 .have hts:=jB (λ_=>10) l j hlt
  have hmg:=Hl (l.map fP) l' j (by simpa using hlt) (by rw[IX];simpa using hlt);have GV:=Hg (l.map fP) l' j (by simpa using hlt) (by rw[IX];simpa using hlt);have he:l'[j]'(by rw[IX];simpa using hlt)=fP (Mj (k+(aY (λ_=>10) (l.take j):Nat)) l[j]):=by subst hu;rw[AT,Fv]
  rw[he]at GV;generalize hq:k+(aY (λ_=>10) (l.take j):Nat)=q at*;have e2:q+1+1=q+2:=by omega
  have e3:q+2+1=q+3:=by omega
  have e4:q+3+1=q+4:=by omega
  have e5:q+4+1=q+5:=by omega
  have e6:q+5+1=q+6:=by omega
  have e7:q+6+1=q+7:=by omega
  have e8:q+7+1=q+8:=by omega
  have e9:q+8+1=q+9:=by omega
  have xh:q+9+1=q+10:=by omega
  simp only[fP,Mj,PI]at GV;have W:=aA Nn (aA hmg (aA hj1 (aA GV (aA e2 (aA e3 (aA e4 (aA e5 (aA e6 (aA e7 (aA e8 (aA e9 xh)))))))))));have V:=aA Nn (aA hj1 (aA GV (aA hlt (aA e2 (aA e3 (aA e4 (aA e5 (aA e6 (aA e7 (aA e8 (aA e9 xh)))))))))));repeat' first|refine st ?_|(refine nx ?_;first|refine so ?_|refine sk (hc:=xX _ (by omega)) (h:=?_))|(refine cx ?_;refine sc (λhc=>?_) (λhc=>?_)<;>try exact hc.elim)|(refine lx ?_;refine sp (λhc=>?_) (λhc=>?_)<;>try exact hc.elim)|refine sx ?_ ?_|refine sy ?_ ?_|fail
  refine hK1 _ ⟨j+1,by omega⟩ (aK (by simp) ?_) (by simp only;omega);simp;omega
 .have hma:=Et (l.map fP) l' j IX (by simp;omega);have hjl:j=l.length:=by omega
  have hcl:iY l'=true:=by rw[<-hu];simp
  have htk:l.take j=l:=cX (by omega);rw[htk]at*;have W:=aA Nn hj1;repeat' first|refine st ?_|(refine nx ?_;refine so ?_)|(refine cx ?_;refine sc (λhc=>?_) (λhc=>?_)<;>try exact hc.elim)|(refine lx ?_;refine sp (λhc=>?_) (λhc=>?_)<;>try exact hc.elim)|refine sx ?_ ?_|refine sy ?_ ?_|fail
  all_goals try(refine aR ?_;simp[EW,results59,hma,hcl])
theorem ZT[aB prog](l:List xS)(k:Int)(h0:0<=k)(hl:k+(aY (λ_=>7) l:Nat)<=4611686018427387000)(hll:l.length<=4611686018427387904):OkM prog 58 (.sl .own 7 (l.map mP)) (.sl .own 7 ((PH Uc (λ_=>7) k l).map mP)) [.int .i64 k] (.int .i64 (k+(aY (λ_=>7) l:Nat))):=by
 generalize hu:(PH Uc (λ_=>7) k l).map mP=l';have IX:l'.length=(l.map mP).length:=by rw[<-hu];simp[uD]
 refine zx aG func58 ntmps58 ?_;have W:=trivial;repeat' first|refine st ?_|(refine nx ?_;refine so ?_)|(refine cx ?_;refine sc (λhc=>?_) (λhc=>?_)<;>try exact hc.elim)|(refine lx ?_;refine sp (λhc=>?_) (λhc=>?_)<;>try exact hc.elim)|refine sx ?_ ?_|refine sy ?_ ?_|fail
 refine aM (ι:={j:Nat // j<=l.length}) (λt o i=>⟨bC t [(1,.int .i64 (k+(aY (λ_=>7) (l.take i.1):Nat))),(5,.int .i64 i.1)],[⟨true,false,7,0,yR (l.map mP) l' i.1⟩]⟩)
  (λi=>l.length-i.1) ⟨0,by simp⟩ (aK (by simp[Eu]) (by simp[aY])) ?_
 rintro⟨j,hj⟩ K1 hK1;simp only[bC,cW,cU]at hK1⊢;have hj1:i64.wrap ((j:Int)+1)=((j+1:Nat):Int):=by rw[wrap64]<;>omega
 have Nn:(yR (l.map mP) l' j).length=l.length:=by rw[AJ _ _ _ IX];simp
 have hle:=jY (λ_=>7) l (j+1);by_cases hlt:j<l.length
 .have hts:=jB (λ_=>7) l j hlt
  have hmg:=Hl (l.map mP) l' j (by simpa using hlt) (by rw[IX];simpa using hlt);have GV:=Hg (l.map mP) l' j (by simpa using hlt) (by rw[IX];simpa using hlt);have he:l'[j]'(by rw[IX];simpa using hlt)=mP (Uc (k+(aY (λ_=>7) (l.take j):Nat)) l[j]):=by subst hu;rw[AT,Fv]
  rw[he]at GV;generalize hq:k+(aY (λ_=>7) (l.take j):Nat)=q at*;have e2:q+1+1=q+2:=by omega
  have e3:q+2+1=q+3:=by omega
  have e4:q+3+1=q+4:=by omega
  have e5:q+4+1=q+5:=by omega
  have e6:q+5+1=q+6:=by omega
  have e7:q+6+1=q+7:=by omega
  simp only[mP,Uc,PI]at GV;have W:=aA Nn (aA hmg (aA hj1 (aA GV (aA e2 (aA e3 (aA e4 (aA e5 (aA e6 e7))))))));have V:=aA Nn (aA hj1 (aA GV (aA hlt (aA e2 (aA e3 (aA e4 (aA e5 (aA e6 e7))))))));repeat' first|refine st ?_|(refine nx ?_;first|refine so ?_|refine sk (hc:=xX _ (by omega)) (h:=?_))|(refine cx ?_;refine sc (λhc=>?_) (λhc=>?_)<;>try exact hc.elim)|(refine lx ?_;refine sp (λhc=>?_) (λhc=>?_)<;>try exact hc.elim)|refine sx ?_ ?_|refine sy ?_ ?_|fail
  refine hK1 _ ⟨j+1,by omega⟩ (aK (by simp) ?_) (by simp only;omega);simp;omega
 .have hma:=Et (l.map mP) l' j IX (by simp;omega);have hjl:j=l.length:=by omega
  have hcl:iY l'=true:=by rw[<-hu];simp
  have htk:l.take j=l:=cX (by omega);rw[htk]at*;have W:=aA Nn hj1;repeat' first|refine st ?_|(refine nx ?_;refine so ?_)|(refine cx ?_;refine sc (λhc=>?_) (λhc=>?_)<;>try exact hc.elim)|(refine lx ?_;refine sp (λhc=>?_) (λhc=>?_)<;>try exact hc.elim)|refine sx ?_ ?_|refine sy ?_ ?_|fail
  all_goals try(refine aR ?_;simp[EW,results58,hma,hcl])
def pK(x:fU):Nat:=1+aY (λ_=>7) x.files
def AQ(k:Int)(x:fU):fU:={host:=AL k,files:=PH Uc (λ_=>7) (k+1) x.files}
def KU(a:pE):Nat:=aY (λ_=>10) a.entries
def Rt(k:Int)(a:pE):pE:=⟨PH Mj (λ_=>10) k a.entries⟩
def aDd(a:kU):Nat:=aY pK a.gD+KU a.cache+aY (λ_=>4) a.log
def aNu(k:Int)(a:kU):kU:={a with gD:=PH AQ pK k a.gD,cache:=Rt (k+(aY pK a.gD:Nat)) a.cache,log:=PH Ud (λ_=>4) (k+(aY pK a.gD:Nat)+(KU a.cache:Nat)) a.log}
theorem Qh(l:List fU):((l.map (bX .own)).all λr=>r.all AV.GR)=true:=by simp[AV.GR]
theorem Yr(l:List fU):((l.map (bX .own)).all λr=>r.all AV.nd)=true:=by simp[AV.nd]
theorem Vf[aB prog](l:List fU)(k:Int)(h0:0<=k)(hl:k+(aY pK l:Nat)<=4611686018427387000)(hll:l.length<=4611686018427387904)(hla:∀x∈l,x.files.length<=4611686018427387904):
  OkM prog 30 (.sl .own 2 (l.map (bX .own))) (.sl .own 2 ((PH AQ pK k l).map (bX .own))) [.int .i64 k] (.int .i64 (k+(aY pK l:Nat))):=by
 have hpR:=Qh l;have hpL:=Qh (PH AQ pK k l);have hnR:=Yr l;have hnL:=Yr (PH AQ pK k l);have hcl:iY ((PH AQ pK k l).map (bX .own))=true:=by simp
 generalize hu:(PH AQ pK k l).map (bX .own)=l' at*;generalize hR:l.map (bX .own)=R at*;have hRl:R.length=l.length:=by rw[<-hR];simp
 have IX:l'.length=R.length:=by rw[<-hu,hRl];simp[uD]
 let OB:Nat->List aN:=λj=>if h:j<l.length then [⟨true,true,2,0,(yR R l' j).set j [.str l[j].host,.obj 1 1]⟩,⟨true,false,7,1,l[j].files.map mP⟩]else [⟨true,false,2,0,l'⟩]
 have aI4:∀(t t':List AV) (j:Nat),j<=l.length->wk (xO (iU [0]) true t) t'->wk t t'->lC ⟨t,[⟨true,false,2,0,yR R l' j⟩]⟩ ⟨t',OB j⟩:=by
  intro t t' j hj h1 h2;by_cases h:j<l.length
  .have e1:OB j=[⟨true,true,2,0,(yR R l' j).set j [.str l[j].host,.obj 1 1]⟩,⟨true,false,7,1,l[j].files.map mP⟩]:=dif_pos h;rw[e1];have hg:=Hl R l' j (by omega) (by omega);have hRj:R[j]'(by omega)=bX .own l[j]:=by subst hR;simp
   rw[hRj]at hg;exact aCp 0 j 1 rfl rfl rfl hg rfl rfl h1
  .have e1:OB j=[⟨true,false,2,0,l'⟩]:=dif_neg h;rw[e1,Et R l' j IX (by omega)];exact wN h2
 refine zx aG func30 ntmps30 ?_;refine gV ?_;refine aM (ι:={j:Nat // j<=l.length}) (λt o i=>⟨bC t [(1,.int .i64 (k+(aY pK (l.take i.1):Nat))),(5,.int .i64 i.1)],OB i.1⟩)
  (λi=>l.length-i.1) ⟨0,by simp⟩ (by rw[<-Eu R l'];exact aI4 _ _ 0 (by omega) (by simp[aY]) (by simp[aY])) ?_
 rintro⟨j,hj⟩ K1 hK1;simp only[bC,cW,cU]at hK1⊢;have hj1:i64.wrap ((j:Int)+1)=((j+1:Nat):Int):=by rw[wrap64]<;>omega
 have Nn:(yR R l' j).length=l.length:=by rw[AJ _ _ _ IX,hRl]
 have hle:=jY pK l (j+1);by_cases hlt:j<l.length
 .have hts:=jB pK l j hlt;have GV:=Hg R l' j (by omega) (by omega);have he:l'[j]'(by omega)=bX .own (AQ (k+(aY pK (l.take j):Nat)) l[j]):=by subst hu;rw[AT,Fv]
  rw[he]at GV;have hnm:DD (yR R l' j)=true:=aAt (p:=λr:List AV=>r.all AV.nd) hnR hnL;have hpm:((yR R l' j).all λr=>r.all AV.GR)=true:=aAt (p:=λr:List AV=>r.all AV.GR) hpR hpL;have hOB:OB j=[⟨true,true,2,0,(yR R l' j).set j [.str l[j].host,.obj 1 1]⟩,⟨true,false,7,1,l[j].files.map mP⟩]:=dif_pos hlt;rw[hOB]
  clear_value OB
  have hcx:pK l[j]=1+aY (λ_=>7) l[j].files:=rfl;have hax:=hla _ (fS hlt);have aT4:=aI4;generalize hq:k+(aY pK (l.take j):Nat)=q at*;simp only[bX,AQ]at GV;have W:=aA Nn (aA hj1 hnm);have V:=aA Nn (aA hj1 (aA hlt hnm));repeat' first|refine wg ?_|(refine nx ?_;first|refine sk (hc:=xX _ (by omega)) (h:=?_)|refine sm (hc:=ZT l[j].files _ (by omega) (by omega) (by omega)) (h:=?_))|(refine sq ?_ ?_<;>intro hc<;>try exact hc.elim)|fail
  refine hK1 _ ⟨j+1,by omega⟩ (lC.trans (K6 0 1 j 1 rfl rfl (by decide) rfl rfl rfl (by rw[mN (by omega)]) rfl rfl (by rw[set_set];exact aL3 (p:=λr:List AV=>r.all AV.GR) hpm (by simp[AV.GR])) rfl rfl (lK _)) (lC.trans (aT 1 (o':=[⟨true,false,2,0,yR R l' (j+1)⟩]) ?go ?gw ?gc ?gb) (aT4 _ _ (j+1) (by omega) ?gr (lK _)))) (by simp only;omega);case go=>simp[set_set,GV]
  case gw=>(simp;omega)
  case gc=>simp
  case gb=>simp
  case gr=>simp
 .have hjl:j=l.length:=by omega
  have hma:=Et R l' j IX (by omega);have htk:l.take j=l:=cX (by omega);rw[htk]at*;have hOB:OB j=[⟨true,false,2,0,l'⟩]:=dif_neg hlt;rw[hOB]
  clear_value OB
  have aXt:l'.length=l.length:=by omega
  have W:=aA aXt hj1;refine wl ?_;all_goals try(refine aR ?_;simp[EW,results30,hcl])
theorem ZU[aB prog](a:pE)(k:Int)(h0:0<=k)(hl:k+(KU a:Nat)<=4611686018427387000):OkM prog 31 (.agg (gU .own a)) (.agg (gU .own (Rt k a))) [.int .i64 k] (.int .i64 (k+(KU a:Nat))):=by
 simp only[KU]at hl;have l2:=Cn 10 a.entries;refine zx aG func31 ntmps31 ?_;have W:=trivial;repeat' first|refine wg ?_|(refine nx ?_;refine sm (hc:=WG a.entries _ (by omega) (by omega) (by omega)) (h:=?_))|(refine sq ?_ ?_<;>intro hc<;>try exact hc.elim)|fail
 all_goals try(refine aR ?_;simp[EW,results31,Rt,KU])
 all_goals (try omega)
theorem U6[aB prog](a:kU)(k:Int)(h0:0<=k)(hl:k+(aDd a:Nat)<=4611686018427387000)(hs:a.gD.length<=4611686018427387904)(hsf:∀x∈a.gD,x.files.length<=4611686018427387904):
  OkM prog 12 (.agg (nA .own a)) (.agg (nA .own (aNu k a))) [.int .i64 k] (.int .i64 (k+(aDd a:Nat))):=by
 simp only[aDd]at hl;have l1:=Cn 4 a.log;refine zx aG func12 ntmps12 ?_;have W:=trivial;repeat' first|refine wg ?_|(refine nx ?_;first|refine sm (hc:=Vf a.gD _ (by omega) (by omega) hs hsf) (h:=?_)|refine sm (hc:=ZU a.cache _ (by omega) (by omega)) (h:=?_)|refine sm (hc:=ZR a.log _ (by omega) (by omega) (by omega)) (h:=?_))|(refine sq ?_ ?_<;>intro hc<;>try exact hc.elim)|fail
 all_goals try(refine aR ?_;simp[EW,results12,aNu,aDd,Rt])
 all_goals (try omega)
end Go.Proofs.YthddijamfbfibaaGreatDoor
