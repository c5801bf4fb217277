/- Proved here: steps towards the statement of this claim. No condition. -/
import Derived.Test.YtfbefblglejcaaaGreatDoorZQR4
import Derived.Test.YtfbefblglejcaaaGreatDoorZQ1
set_option linter.all false
set_option maxRecDepth 4000
set_option maxHeartbeats 4000000
namespace Go.Proofs.YtfbefblglejcaaaGreatDoor
open Go.Aw Proofs.Tryz List IntKind
theorem toFile_ok[aC prog](a:xM)(hs:tT a<=1048576):Ok prog 129 [.agg (mI a)] (.agg (mI a)):=by
 simp only[tT]at hs;refine bM aF func129 ntmps129 ?_;have W:=trivial;repeat' first|refine wg ?_|(refine nx ?_;refine sk (hc:=toResponse_ok a.response (by omega)) (h:=?_))|(refine sq ?_ ?_<;>intro hc<;>try exact hc.elim)|fail
 exact aD results129
theorem aAm[aC prog](a:xM)(n:Int)(h0:0<=n)(h1:n<=1048576)(hw:RL a):Ok prog 97 [.agg (mI a),.int .i64 n] (.int .i64 (sub n (tT a))):=by
 simp only[RL]at hw;obtain⟨aQt,Nv⟩:=hw;refine bM aF func97 ntmps97 ?_;have W:=trivial;repeat' first|refine wg ?_|(refine nx ?_;refine sk (hc:=IY a.response _ (by omega) (by repeat' (first|omega|apply yF|apply vW)) Nv) (h:=?_))|(refine sq ?_ ?_<;>intro hc<;>try exact hc.elim)|fail
 all_goals try(refine aQ ?_;simp[aP,results97,tT])
 all_goals (
  (try generalize e0:sub (n-(a.path.length:Int)) (bG a.response)=m0 at*)
  (try (first|have f0:=yG e0 (by omega)|have f0:=vX e0 (by omega) (by omega)))
  repeat (simp (disch:=omega) only[wrap64]at*)
  (try simp only[sub]);(try split);all_goals omega)
theorem aAn[aC prog](a b:xM)(hs:tT a<=1099511627776):Ok prog 163 [.agg (mI a),.agg (mI b)] (.bool (decide (a=b))):=by
 simp only[tT]at hs;refine bM aF func163 ntmps163 ?_;have W:=trivial;repeat' first|refine wg ?_|(refine nx ?_;refine sk (hc:=IZ a.response b.response (by omega)) (h:=?_))|(refine sq ?_ ?_<;>intro hc<;>try exact hc.elim)|fail
 all_goals try(refine aQ ?_;simp[aP,results163])
 all_goals ((repeat clear hK K);cases a;cases b;simp_all)
theorem toFileS_ok[aC prog](l:List xM)(hs:bQ tT l<=1048576):Ok prog 76 [.sl .view 7 (l.map mI)] (.sl .own 7 (l.map mI)):=by
 have hl:l.length<=1048576:=by(try simp only[bQ]at hs);omega
 have hb:(80:Int)*(l.length:Int)<=281474976710656:=by omega
 have hb2:(l.length:Int)<=9223372036854775807:=by omega
 generalize hz:([.str [],.int .i64 0,.int .i64 0,.str [],.int .i64 0,.bool false,.str []]:List AV)=z;have hz0:=EC z (l.map mI);rw[oY]at hz0;refine bM aF func76 ntmps76 ?_;have W:=aA hb hb2;refine wl ?_;refine aO (ι:={k:Nat // k<=l.length}) (λt o i=>⟨bC t [(4,.int .i64 i.1)],[⟨true,false,7,1,BD z (l.map mI) i.1⟩]⟩)
  (λi=>l.length-i.1) ⟨0,by simp⟩ (aJ (by simp[hz,hz0]) (by simp)) ?_
 rintro⟨k,hk⟩ K1 hK1;simp only[bC,cW,cU]at hK1⊢;have hk1:=oQ (k:=k);by_cases hlt:k<l.length
 .have hg:=aE hlt;have hfg:=Hr z (l.map mI) k (by simpa using hlt);have Ep:=Ht z (l.map mI) k (by simpa using hlt);rw[AH]at Ep;simp only[mI]at Ep;have hzl:z.length=7:=by rw[<-hz];rfl
  have hzd:z.drop 7=[]:=by rw[<-hz];rfl
  have W:=aA hk1 (aA hg (aA hfg (aA hzl (aA hzd Ep))));have V:=aA hk1 (aA hg hlt);repeat' first|refine wg ?_|(refine nx ?_;refine sk (hc:=toFile_ok l[k] (by have:=dK tT l k hlt;(try simp only[bQ]at hs);omega)) (h:=?_))|(refine sq ?_ ?_<;>intro hc<;>try exact hc.elim)|fail
  refine hK1 _ ⟨k+1,by omega⟩ (aV 1 rfl ?_ (by simp) (by simp)) (by simp only;omega);simp
 .have W:=hk1;refine wl ?_;have hfa:=Hq z (l.map mI) k (by simpa using hlt);all_goals try(refine aQ ?_;simp[aP,results76,hfa])
theorem wu[aC prog](l:List xM)(n:Int)(h0:0<=n)(h1:n<=1048576)(hw:l.length<=9223372036854775807/\∀y∈l,RL y):Ok prog 54 [.sl .view 7 (l.map mI),.int .i64 n] (.int .i64 (sub n (bQ tT l))):=by
 obtain⟨hl,hw⟩:=hw;refine bM aF func54 ntmps54 ?_;have W:=trivial;repeat' first|refine wg ?_|(refine sq ?_ ?_<;>intro hc<;>try exact hc.elim)|fail
 .refine aQ ?_;simp[aP,results54,sub,bQ];omega
 .refine aO (ι:={k:Nat // k<=l.length/\l.length+bA tT (l.take k)<=n}) (λt o i=>⟨bC t [(1,.int .i64 (n-(l.length+bA tT (l.take i.1):Nat))),(5,.int .i64 i.1)],[]⟩)
   (λi=>l.length-i.1) ⟨0,by simp,by simp[bA];omega⟩ (aJ (by simp) (by simp[bA])) ?_
  rintro⟨k,hk,hs⟩ K1 hK1;simp only[bC,cW,cU]at hK1⊢;have hk1:=oQ (k:=k);by_cases hlt:k<l.length
  .have hg:=aE hlt;have hts:=iX tT l k hlt;have htl:=jV tT l (k+1);have hwg:=hw _ (fS hlt);have W:=aA hk1 hg;repeat' first|refine wg ?_|(refine nx ?_;refine sk (hc:=aAm _ _ (by omega) (by omega) hwg) (h:=?_))|(refine sq ?_ ?_<;>intro hc<;>try exact hc.elim)|fail
   .refine ⟨.inr rfl,?_⟩;simp[aP,results54,bQ]
    (repeat clear hK K);simp only[sub]at*;grind
   .refine hK1 _ ⟨k+1,by omega,by(repeat clear hK K);simp only[sub]at*;grind⟩ (aJ (by simp) ?_) (by simp only;omega);simp
    (repeat clear hK K);simp only[sub]at*;grind
  .have W:=hk1;refine wl ?_;all_goals try(refine aQ ?_;simp[aP,results54,bQ])
   have:k=l.length:=by omega
   subst this;rw[At]at*;rw[sub_pos (by omega)];omega
theorem wy[aC prog](a b:List xM)(hs:bQ tT a<=1099511627776):Ok prog 94 [.sl .view 7 (a.map mI),.sl .view 7 (b.map mI)] (.bool (decide (a=b))):=by
 have hl:a.length<=1099511627776:=by(try simp only[bQ]at hs);omega
 refine bM aF func94 ntmps94 ?_;have W:=trivial;repeat' first|refine wg ?_|(refine sq ?_ ?_<;>intro hc<;>try exact hc.elim)|fail
 .all_goals try(refine aQ ?_;simp[aP,results94])
  intro h;subst h;exact absurd rfl hc
 .have hlen:a.length=b.length:=by omega
  refine aO (ι:={k:Nat // k<=a.length/\a.take k=b.take k}) (λt o i=>⟨bC t [(5,.int .i64 i.1)],[]⟩)
   (λi=>a.length-i.1) ⟨0,by simp⟩ aJ ?_
  rintro⟨k,hk,hpre⟩ K1 hK1;simp only[bC,cW,cU]at hK1⊢;have hk1:=oQ (k:=k);by_cases hlt:k<a.length
  .have hg:=aE hlt;have EJ:k<b.length:=by omega
   have hgb:=aE EJ;have W:=aA hk1 (aA hg (aA hlt (aA hgb EJ)));repeat' first|refine wg ?_|(refine nx ?_;refine sk (hc:=aAn a[k] b[k] (by have:=dK tT a k hlt;(try simp only[bQ]at hs);omega)) (h:=?_))|(refine sq ?_ ?_<;>intro hc<;>try exact hc.elim)|fail
   .all_goals try(refine aQ ?_;simp[aP,results94])
    intro h;subst h;exact hc rfl
   .have hts:a.take (k+1)=b.take (k+1):=by rw[eI hlt,eI EJ,hpre,hc]
    refine hK1 _ ⟨k+1,by omega,hts⟩ aJ (by simp only;omega)
  .have hka:a.length<=k:=by omega
   rw[cY hka,cY (by omega)]at hpre;subst hpre;have W:=hk1;refine wl ?_;exact aD results94
theorem toServer_ok[aC prog](a:fU)(hs:eY a<=1048576):Ok prog 40 [.agg (bY .view a)] (.agg (bY .own a)):=by
 simp only[eY]at hs;refine bM aF func40 ntmps40 ?_;have W:=trivial;repeat' first|refine wg ?_|(refine nx ?_;refine sk (hc:=toFileS_ok a.files (by omega)) (h:=?_))|(refine sq ?_ ?_<;>intro hc<;>try exact hc.elim)|fail
 exact aD results40
theorem ag[aC prog](a:fU)(n:Int)(h0:0<=n)(h1:n<=1048576)(hw:Gd a):Ok prog 30 [.agg (bY .view a),.int .i64 n] (.int .i64 (sub n (eY a))):=by
 simp only[Gd]at hw;obtain⟨aQs,aM7⟩:=hw;refine bM aF func30 ntmps30 ?_;have W:=trivial;repeat' first|refine wg ?_|(refine nx ?_;refine sk (hc:=wu a.files _ (by omega) (by repeat' (first|omega|apply yF|apply vW)) aM7) (h:=?_))|(refine sq ?_ ?_<;>intro hc<;>try exact hc.elim)|fail
 all_goals try(refine aQ ?_;simp[aP,results30,eY])
 all_goals (
  (try generalize e0:sub (n-(a.host.length:Int)) (bQ tT a.files)=m0 at*)
  (try (first|have f0:=yG e0 (by omega)|have f0:=vX e0 (by omega) (by omega)))
  repeat (simp (disch:=omega) only[wrap64]at*)
  (try simp only[sub]);(try split);all_goals omega)
theorem ah[aC prog](a b:fU)(hs:eY a<=1099511627776):Ok prog 49 [.agg (bY .view a),.agg (bY .view b)] (.bool (decide (a=b))):=by
 simp only[eY]at hs;refine bM aF func49 ntmps49 ?_;have W:=trivial;repeat' first|refine wg ?_|(refine nx ?_;refine sk (hc:=wy a.files b.files (by omega)) (h:=?_))|(refine sq ?_ ?_<;>intro hc<;>try exact hc.elim)|fail
 all_goals try(refine aQ ?_;simp[aP,results49])
 all_goals ((repeat clear hK K);cases a;cases b;simp_all)
theorem toServerS_ok[aC prog](l:List fU)(hs:bQ eY l<=1048576):Ok prog 19 [.sl .view 2 (l.map (bY .view))] (.sl .own 2 (l.map (bY .own))):=by
 have hl:l.length<=1048576:=by(try simp only[bQ]at hs);omega
 have hb:(40:Int)*(l.length:Int)<=281474976710656:=by omega
 have hb2:(l.length:Int)<=9223372036854775807:=by omega
 generalize hz:([.str [],.sl .own 7 []]:List AV)=z;have hz0:=EC z (l.map (bY .own));rw[oY]at hz0;refine bM aF func19 ntmps19 ?_;have W:=aA hb hb2;refine wl ?_;refine aO (ι:={k:Nat // k<=l.length}) (λt o i=>⟨bC t [(4,.int .i64 i.1)],[⟨true,false,2,1,BD z (l.map (bY .own)) i.1⟩]⟩)
  (λi=>l.length-i.1) ⟨0,by simp⟩ (aJ (by simp[hz,hz0]) (by simp)) ?_
 rintro⟨k,hk⟩ K1 hK1;simp only[bC,cW,cU]at hK1⊢;have hk1:=oQ (k:=k);by_cases hlt:k<l.length
 .have hg:=aE hlt;have hfg:=Hr z (l.map (bY .own)) k (by simpa using hlt);have Ep:=Ht z (l.map (bY .own)) k (by simpa using hlt);rw[AH]at Ep;simp only[bY]at Ep;have hzl:z.length=2:=by rw[<-hz];rfl
  have hzd:z.drop 2=[]:=by rw[<-hz];rfl
  have W:=aA hk1 (aA hg (aA hfg (aA hzl (aA hzd Ep))));have V:=aA hk1 (aA hg hlt);repeat' first|refine wg ?_|(refine nx ?_;refine sk (hc:=toServer_ok l[k] (by have:=dK eY l k hlt;(try simp only[bQ]at hs);omega)) (h:=?_))|(refine sq ?_ ?_<;>intro hc<;>try exact hc.elim)|fail
  refine hK1 _ ⟨k+1,by omega⟩ (aV 1 rfl ?_ (by simp) (by simp)) (by simp only;omega);simp
 .have W:=hk1;refine wl ?_;have hfa:=Hq z (l.map (bY .own)) k (by simpa using hlt);all_goals try(refine aQ ?_;simp[aP,results19,hfa])
theorem XH[aC prog](l:List fU)(n:Int)(h0:0<=n)(h1:n<=1048576)(hw:l.length<=9223372036854775807/\∀y∈l,Gd y):Ok prog 15 [.sl .view 2 (l.map (bY .view)),.int .i64 n] (.int .i64 (sub n (bQ eY l))):=by
 obtain⟨hl,hw⟩:=hw;refine bM aF func15 ntmps15 ?_;have W:=trivial;repeat' first|refine wg ?_|(refine sq ?_ ?_<;>intro hc<;>try exact hc.elim)|fail
 .refine aQ ?_;simp[aP,results15,sub,bQ];omega
 .refine aO (ι:={k:Nat // k<=l.length/\l.length+bA eY (l.take k)<=n}) (λt o i=>⟨bC t [(1,.int .i64 (n-(l.length+bA eY (l.take i.1):Nat))),(5,.int .i64 i.1)],[]⟩)
   (λi=>l.length-i.1) ⟨0,by simp,by simp[bA];omega⟩ (aJ (by simp) (by simp[bA])) ?_
  rintro⟨k,hk,hs⟩ K1 hK1;simp only[bC,cW,cU]at hK1⊢;have hk1:=oQ (k:=k);by_cases hlt:k<l.length
  .have hg:=aE hlt;have hts:=iX eY l k hlt;have htl:=jV eY l (k+1);have hwg:=hw _ (fS hlt);have W:=aA hk1 hg;repeat' first|refine wg ?_|(refine nx ?_;refine sk (hc:=ag _ _ (by omega) (by omega) hwg) (h:=?_))|(refine sq ?_ ?_<;>intro hc<;>try exact hc.elim)|fail
   .refine ⟨.inr rfl,?_⟩;simp[aP,results15,bQ]
    (repeat clear hK K);simp only[sub]at*;grind
   .refine hK1 _ ⟨k+1,by omega,by(repeat clear hK K);simp only[sub]at*;grind⟩ (aJ (by simp) ?_) (by simp only;omega);simp
    (repeat clear hK K);simp only[sub]at*;grind
  .have W:=hk1;refine wl ?_;all_goals try(refine aQ ?_;simp[aP,results15,bQ])
   have:k=l.length:=by omega
   subst this;rw[At]at*;rw[sub_pos (by omega)];omega
theorem XI[aC prog](a b:List fU)(hs:bQ eY a<=1099511627776):Ok prog 23 [.sl .view 2 (a.map (bY .view)),.sl .view 2 (b.map (bY .view))] (.bool (decide (a=b))):=by
 have hl:a.length<=1099511627776:=by(try simp only[bQ]at hs);omega
 refine bM aF func23 ntmps23 ?_;have W:=trivial;repeat' first|refine wg ?_|(refine sq ?_ ?_<;>intro hc<;>try exact hc.elim)|fail
 .all_goals try(refine aQ ?_;simp[aP,results23])
  intro h;subst h;exact absurd rfl hc
 .have hlen:a.length=b.length:=by omega
  refine aO (ι:={k:Nat // k<=a.length/\a.take k=b.take k}) (λt o i=>⟨bC t [(5,.int .i64 i.1)],[]⟩)
   (λi=>a.length-i.1) ⟨0,by simp⟩ aJ ?_
  rintro⟨k,hk,hpre⟩ K1 hK1;simp only[bC,cW,cU]at hK1⊢;have hk1:=oQ (k:=k);by_cases hlt:k<a.length
  .have hg:=aE hlt;have EJ:k<b.length:=by omega
   have hgb:=aE EJ;have W:=aA hk1 (aA hg (aA hlt (aA hgb EJ)));repeat' first|refine wg ?_|(refine nx ?_;refine sk (hc:=ah a[k] b[k] (by have:=dK eY a k hlt;(try simp only[bQ]at hs);omega)) (h:=?_))|(refine sq ?_ ?_<;>intro hc<;>try exact hc.elim)|fail
   .all_goals try(refine aQ ?_;simp[aP,results23])
    intro h;subst h;exact hc rfl
   .have hts:a.take (k+1)=b.take (k+1):=by rw[eI hlt,eI EJ,hpre,hc]
    refine hK1 _ ⟨k+1,by omega,hts⟩ aJ (by simp only;omega)
  .have hka:a.length<=k:=by omega
   rw[cY hka,cY (by omega)]at hpre;subst hpre;have W:=hk1;refine wl ?_;exact aD results23
theorem WG[aC prog][bP prog](s:bB)(c:UInt8)(hs:s.length<4294967281):Ok prog 140 [.str s,.str [c]] (.sl .own 1 ((dE c s).map bW)):=RQ Tryz.laysM146 (by kernel_rfl) s c hs
def gV:bT:=⟨0,[],[],[]⟩
def tY(w:bB):bB:=w.take (iH 61 w)
def wN(w:bB):bB:=w.drop (iH 61 w+1)
def iB:List bB->List oN->Option (List oN)
 |[],acc=>some acc
 |w::ws,acc=>if (decide (iH 61 w<w.length)&&dA (tY w)&&isValue (wN w)&& !(aW acc (tY w)).2)=true then iB ws (acc++[⟨tY w,wN w⟩])else none
def FB(w0:bB)(ws:List bB):bT×Bool:=
 if dA w0=true/\ws.length<=4 then(match iB ws []with
  |some l=>(⟨1,w0,l,[]⟩,true)
  |none=>(gV,false))else(gV,false)
def rX(s:bB):bT×Bool:=
 if 60<s.length then(gV,false)
 else if Cq [47] s=true then(if dA (s.drop 1)=true then(⟨2,s.drop 1,[],[]⟩,true)else(gV,false))
 else FB (s.take (iH 32 s)) (if iH 32 s<s.length then dE 32 (s.drop (iH 32 s+1))else [])
theorem vK(c:UInt8)(s:bB):dE c s=s.take (iH c s)::(if iH c s<s.length then dE c (s.drop (iH c s+1))else []):=by
 rw[Nk];have h:=vD c s;split
 .rfl
 .rw [cY (by omega)]
theorem Td{w0:bB}{ws:List bB}(h:¬(dA w0=true/\ws.length<=4)):FB w0 ws=(gV,false):=by unfold FB;rw[cX h]
theorem Te{w0:bB}{ws:List bB}(h:iB ws []=none):FB w0 ws=(gV,false):=by unfold FB;rw[h];split<;>rfl
theorem Tf{w0:bB}{ws:List bB}{l:List oN}(h1:dA w0=true)(h2:ws.length<=4)(h:iB ws []=some l):FB w0 ws=(⟨1,w0,l,[]⟩,true):=by unfold FB;rw[h,eK ⟨h1,h2⟩]
theorem ES:∀(ws:List bB) (acc l:List oN),iB ws acc=some l->l.length=acc.length+ws.length
 |[],acc,l,h=>by simp only[iB,eC]at h;subst h;simp
 |w::ws,acc,l,h=>by
  simp only[iB]at h;split at h
  .have:=ES ws _ l h;simp at this⊢;omega
  .cases h
theorem OV:∀(ws:List bB) (acc l:List oN),iB ws acc=some l->bQ oU l<=bQ oU acc+bA gG ws
 |[],acc,l,h=>by simp only[iB,eC]at h;subst h;simp[bA]
 |w::ws,acc,l,h=>by
  simp only[iB]at h;split at h
  .rename_i hc;simp only[eJ,fR]at hc;have:=OV ws _ l h;have hj:∀a b:List oN,bA oU (a++b)=bA oU a+bA oU b:=by
    intro a b;induction a with
    |nil=>simp[bA]
    |cons x xs ih=>simp only[eA,bA,ih];omega
   simp only[bQ,hj,bA,oU,tY,wN,eR,oS,An,eN,eV,gG]at this⊢;omega
  .cases h
theorem Bz(c:UInt8):∀s:bB,bA gG (dE c s)<=s.length
 |[]=>by simp[dE,bA,gG]
 |x::s=>by
  have ih:=Bz c s;simp only[dE];split
  .simp only[bA,gG,eV,eN]at ih⊢;omega
  .split
   .rename_i h0;exact absurd h0 (qY c s)
   .rename_i p q h0;rw[h0]at ih;simp only[bA,gG,eN]at ih⊢;omega
theorem aFs(s:bB):bX (rX s).1<=s.length:=by
 have hn:bX gV=0:=by simp[gV,bX,bQ,bA]
 unfold rX;split
 .simp only[hn];omega
 .split
  .split
   .simp [bX,bQ,bA]
   .simp only[hn];omega
  .have hs:=Bz 32 s;rw[vK]at hs;simp only[bA,gG]at hs;generalize (if iH 32 s<s.length then dE 32 (s.drop (iH 32 s+1))else [])=ws at*;unfold FB;split
   .split
    .rename_i l hl;have:=OV ws [] l hl;simp only[bX,bQ,bA,eV]at this⊢;omega
    .simp only[hn];omega
   .simp only[hn];omega
theorem Yc[aC prog][bP prog](s:bB)(hl:s.length<=1099511627776):Ok prog 158 [.str s] (.gT [.agg (cZ .own (rX s).1),.bool (rX s).2]):=by
 by_cases h60:(60:Int)<(s.length:Int)
 .have hr:rX s=(gV,false):=by unfold rX;rw[eK (by omega)]
  rw[hr];refine xU aF func158 ntmps158 ?_;have W:=h60;refine we ?_;all_goals (try first|(refine aQ (.inl ?_);simp[aP,results158,gV];done)|(refine aQ (.inr (dN ?_));simp[AS.yK,AS.wT,AS.rv,results158,gV]))
 have c0:=EM s [47] hl (by simp);cases hp:Cq [47] s;case true=>
  rw[hp]at c0;simp only[gC]at c0;have c1:=gL (s.drop 1) (by simp;omega);simp only[eN,eV,hM,Nat.reduceAdd]at c0;generalize hs1:s.drop 1=s1 at*;cases hn:dA s1
  .have hr:rX s=(gV,false):=by unfold rX;rw[cX (by omega),eK hp,hs1,hn];rfl
   rw[hr];rw[hn]at c1;refine xU aF func158 ntmps158 ?_;have W:=h60;refine we ?_;all_goals (try first|(refine aQ (.inl ?_);simp[aP,results158,gV];done)|(refine aQ (.inr (dN ?_));simp[AS.yK,AS.wT,AS.rv,results158,gV]))
  .have hr:rX s=(⟨2,s1,[],[]⟩,true):=by unfold rX;rw[cX (by omega),eK hp,hs1,hn];rfl
   rw[hr];rw[hn]at c1;refine xU aF func158 ntmps158 ?_;have W:=h60;refine we ?_;all_goals (try exact Gm results158)
 case false=>
  rw[hp]at c0;simp only[eS,gS]at c0;have hr:rX s=FB (s.take (iH 32 s)) (if iH 32 s<s.length then dE 32 (s.drop (iH 32 s+1))else []):=by unfold rX;rw[cX (by omega),cX (by rw[hp];simp)]
  have c2:=WG s 32 (by omega);have hsl:=iQ 32 s;have hcn:s.count 32<=s.length:=pH;have hsm:=Bz 32 s;rw[vK]at c2 hsl hsm;rw[hr];have c1:=gL (s.take (iH 32 s)) (by simp;omega);generalize (if iH 32 s<s.length then dE 32 (s.drop (iH 32 s+1))else [])=ws at*;generalize s.take (iH 32 s)=w0 at*;simp only[bA,gG,eN]at hsl hsm;simp only[mC]at c2;clear hr hp;have hw1:i64.wrap ((ws.length:Int)+1-1)=(ws.length:Int):=by rw[wrap64]<;>omega
  have htk:List.take ws.length (ws.map bW)=ws.map bW:=cY (by simp);cases hn:dA w0
  .rw [Td (by rw[hn];simp)];rw[hn]at c1;refine xU aF func158 ntmps158 ?_;have W:=aA h60 hw1;refine we ?_;all_goals (try first|(refine aQ (.inl ?_);simp[aP,results158,gV];done)|(refine aQ (.inr (dN ?_));simp[AS.yK,AS.wT,AS.rv,results158,gV]))
  rw[hn]at c1;by_cases h4:(4:Int)<(ws.length:Int)
  .rw [Td (by omega)];refine xU aF func158 ntmps158 ?_;have W:=aA h60 (aA hw1 h4);refine we ?_;all_goals (try first|(refine aQ (.inl ?_);simp[aP,results158,gV];done)|(refine aQ (.inr (dN ?_));simp[AS.yK,AS.wT,AS.rv,results158,gV]))
  have BP:=λh=>Te (w0:=w0) (ws:=ws) h
  have LD:=λl=>Tf (w0:=w0) (ws:=ws) (l:=l) hn (by omega)
  generalize FB w0 ws=res at*;refine xU aF func158 ntmps158 ?_;have W:=aA h60 (aA hw1 (aA h4 htk));refine we ?_;refine aO (ι:={q:Nat×Nat×List oN // (q.1<=ws.length/\1<=q.2.1)/\q.2.2.length=q.1/\iB ws []=iB (ws.drop q.1) q.2.2}) (λt o i=>⟨bC t [(52,.int .i64 i.1.1),(48,.undef)],[⟨true,true,4,0,[[.int .i64 0,.str [],.sl .own 2 [],.str []]]⟩,⟨true,false,1,2,ws.map bW⟩,⟨true,true,4,0,[[.int .i64 1,.str w0,.obj 3 i.1.2.1,.str []]]⟩,⟨true,false,2,i.1.2.1,i.1.2.2.map uR⟩]⟩)
   (λi=>ws.length-i.1.1) ⟨(0,1,[]),by simp,by simp,by simp⟩ (vI 2 0 2 (ob:=⟨true,true,4,0,[[.int .i64 1,.str w0,.sl .own 2 [],.str []]]⟩) (by rfl) (by rfl) (by rfl) (by simp) (by rfl) (by rfl) (by simp) (by simp[xR,rt,iP])) ?_
  rintro⟨⟨k,v,acc⟩,⟨hk,hv⟩,xD,rC⟩ K1 hK1;simp only at hk hv xD rC;simp only[bC,cW,cU]at hK1⊢;have hk1:=oQ (k:=k);by_cases hlt:k<ws.length
  .have hg:=aE hlt;have hwz:=dK gG ws k hlt;rw[mL hlt]at rC;simp only[gG]at hwz;have cC:=zW ws[k] 61 (by omega);have cN:=gL (tY ws[k]) (by simp[tY];omega);have cV:=BI (wN ws[k]) (by simp[wN];omega);have cF:=mV acc (tY ws[k]) (by omega);have jX:(decide (iH 61 ws[k]<ws[k].length)&&dA (tY ws[k])&&isValue (wN ws[k])&& !(aW acc (tY ws[k])).2)=false->res=(gV,false):=λh=>BP (by rw[rC];simp only[iB];rw[h];rfl)
   have hnext:(decide (iH 61 ws[k]<ws[k].length)&&dA (tY ws[k])&&isValue (wN ws[k])&& !(aW acc (tY ws[k])).2)=true->iB ws []=iB (ws.drop (k+1)) (acc++[⟨tY ws[k],wN ws[k]⟩]):=λh=>by rw[rC];simp only[iB];rw[eK h]
   change Ok _ _ _ (.gT [.str (tY ws[k]),.str (wN ws[k]),.bool (decide (iH 61 ws[k]<ws[k].length))])at cC;clear rC BP LD;generalize decide (iH 61 ws[k]<ws[k].length)=b1 at*;generalize dA (tY ws[k])=b2 at*;generalize isValue (wN ws[k])=b3 at*;generalize aW acc (tY ws[k])=fa at*;obtain⟨fv,b4⟩:=fa;generalize tY ws[k]=ky at*;generalize wN ws[k]=vl at*;simp only at cF jX hnext;cases b1
   .rw [jX (by simp)];clear jX hnext hK1;have W:=aA hk1 (aA hg hlt);refine we ?_;all_goals (try first|(refine aQ (.inl ?_);simp[aP,results158,gV];done)|(refine aQ (.inr (dN ?_));simp[AS.yK,AS.wT,AS.rv,results158,gV]))
   cases b2
   .rw [jX (by simp)];clear jX hnext hK1;have W:=aA hk1 (aA hg hlt);refine we ?_;all_goals (try first|(refine aQ (.inl ?_);simp[aP,results158,gV];done)|(refine aQ (.inr (dN ?_));simp[AS.yK,AS.wT,AS.rv,results158,gV]))
   cases b3
   .rw [jX (by simp)];clear jX hnext hK1;have W:=aA hk1 (aA hg hlt);refine we ?_;all_goals (try first|(refine aQ (.inl ?_);simp[aP,results158,gV];done)|(refine aQ (.inr (dN ?_));simp[AS.yK,AS.wT,AS.rv,results158,gV]))
   cases b4
   .have hn2:=hnext (by simp);clear jX hnext;have W:=aA hk1 (aA hg hlt);refine we ?_;all_goals refine hK1 _ ⟨(k+1,v+1,acc++[⟨ky,vl⟩]),⟨by simp only;omega,by simp only;omega⟩,by simp;omega,hn2⟩ (aV 4) (by simp only;omega)
   .rw [jX (by simp)];clear jX hnext hK1;have W:=aA hk1 (aA hg hlt);refine we ?_;all_goals (try first|(refine aQ (.inl ?_);simp[aP,results158,gV];done)|(refine aQ (.inr (dN ?_));simp[AS.yK,AS.wT,AS.rv,results158,gV]))
  .have FP:ws.drop k=[]:=AE (by omega);rw[FP]at rC;rw[LD acc (by rw[rC];rfl)];clear hK1;have W:=hk1;refine we ?_;all_goals (try exact Gm results158)
theorem ik{w:bB}(h:(dE 61 w).length=2):iH 61 w<w.length/\dE 61 w=[tY w,wN w]:=by
 rw[vK]at h⊢;by_cases hi:iH 61 w<w.length
 .rw [eK hi]at h⊢;refine⟨hi,?_⟩;rw[vK]at h⊢;by_cases h2:iH 61 (w.drop (iH 61 w+1))<(w.drop (iH 61 w+1)).length
  .rw [eK h2]at h;have:=qY 61 ((w.drop (iH 61 w+1)).drop (iH 61 (w.drop (iH 61 w+1))+1));have hl:=CH.2 this;simp only[eN]at h;omega
  .rw [cX h2];have hle:=vD 61 (w.drop (iH 61 w+1));rw[cY (l:=w.drop (iH 61 w+1)) (by omega)];rfl
 .rw [cX hi]at h;simp at h
theorem il{w:bB}(h:iH 61 w<w.length)(hv:isValue (wN w)=true):(dE 61 w).length=2:=by
 have Dx:∀x∈wN w,x≠61:=by intro x hx;simp only[isValue,eJ]at hv;have:=fN.1 hv.1 x hx;rintro rfl;simp[wY]at this
 rw[vK,eK h];have:=BH 61 (wN w) Dx;unfold wN at this;rw[this];rfl
theorem Yg[aC prog][bP prog](s:bB)(hl:s.length<=1099511627776):Ok prog 121 [.str s] (.gT [.agg (cZ .own (rX s).1),.bool (rX s).2]):=by
 by_cases h60:(60:Int)<(s.length:Int)
 .have hr:rX s=(gV,false):=by unfold rX;rw[eK (by omega)]
  rw[hr];refine xU aF func121 ntmps121 ?_;have W:=h60;refine we ?_;all_goals (try first|(refine aQ (.inl ?_);simp[aP,results121,gV];done)|(refine aQ (.inr (dN ?_));simp[AS.yK,AS.wT,AS.rv,results121,gV]))
 cases hp:Cq [47] s;case true=>
  have c1:=fD (s.drop 1) (by simp;omega);have hlen:=SE hp;simp only[eN,eV,hM]at hlen;cases s with
  |nil=>simp at hlen
  |cons x s1=>
   obtain rfl:x=47:=by simpa [Cq]using hp
   have h61:¬(60:Int)<(s1.length:Int)+1:=by simp only[eN]at h60;omega
   simp only[pC,AI]at c1;cases hn:dA s1
   .have hr:rX (47::s1)=(gV,false):=by unfold rX;rw[cX (by omega),eK hp];simp[hn]
    rw[hr];rw[hn]at c1;clear hp;refine xU aF func121 ntmps121 ?_;have W:=h61;refine we ?_;all_goals (try first|(refine aQ (.inl ?_);simp[aP,results121,gV];done)|(refine aQ (.inr (dN ?_));simp[AS.yK,AS.wT,AS.rv,results121,gV]))
   .have hr:rX (47::s1)=(⟨2,s1,[],[]⟩,true):=by unfold rX;rw[cX (by omega),eK hp];simp[hn]
    rw[hr];rw[hn]at c1;clear hp;refine xU aF func121 ntmps121 ?_;have W:=h61;refine we ?_;all_goals (try exact Gm results121)
 case false=>
  have hr:rX s=FB (s.take (iH 32 s)) (if iH 32 s<s.length then dE 32 (s.drop (iH 32 s+1))else []):=by unfold rX;rw[cX (by omega),cX (by rw[hp];simp)]
  have c2:Ok prog 105 [.str s,.int .u8 32] (.sl .own 1 ((dE 32 s).map bW)):=xB s 32 (by omega);have hsl:=iQ 32 s;have hcn:s.count 32<=s.length:=pH;have hsm:=Bz 32 s;rw[hr];have c1:=fD (s.take (iH 32 s)) (by simp;omega);have hLc:=vK 32 s;generalize (if iH 32 s<s.length then dE 32 (s.drop (iH 32 s+1))else [])=ws at*;generalize s.take (iH 32 s)=w0 at*;generalize dE 32 s=L at*;have hL0:L[0]? =some w0:=by rw[hLc];rfl
  have hLd:L.drop 1=ws:=by rw[hLc];rfl
  have hLl:L.length=ws.length+1:=by rw[hLc];rfl
  have BP:=λh=>Te (w0:=w0) (ws:=ws) h
  have LD:=λl=>Tf (w0:=w0) (ws:=ws) (l:=l)
  have Dx:=Td (w0:=w0) (ws:=ws);generalize FB w0 ws=res at*;clear hr hLc;have aNx:s=[]\/∃x r,s=x::r/\¬((x.toNat:Int)=47):=by
   cases s with
   |nil=>exact .inl rfl
   |cons x r=>refine .inr ⟨x,r,rfl,λh=> ?_⟩;have:x=47:=Cl.1 (by simp;omega);subst this;simp[Cq]at hp
  clear hp;rcases aNx with rfl|⟨x,r,rfl,hx⟩
  .refine xU aF func121 ntmps121 ?_;have W:=aA h60 hL0;refine we ?_;refine aO (ι:={q:Nat×Nat×List oN // (q.1<=L.length/\1<=q.2.1)/\q.2.2.length+1=q.1/\iB ws []=iB (L.drop q.1) q.2.2}) (λt o i=>⟨bC t [(6,.int .i64 i.1.1),(35,.undef)],[⟨true,true,4,0,[[.int .i64 0,.str [],.sl .own 2 [],.str []]]⟩,⟨true,false,1,1,L.map bW⟩,⟨true,true,4,0,[[.int .i64 1,.str w0,.obj 3 i.1.2.1,.str []]]⟩,⟨true,false,2,i.1.2.1,i.1.2.2.map uR⟩]⟩)
    (λi=>L.length-i.1.1) ⟨(1,1,[]),by simp only;omega,by simp,by rw[hLd]⟩ (vI 2 0 2 (ob:=⟨true,true,4,0,[[.int .i64 1,.str w0,.sl .own 2 [],.str []]]⟩) (by rfl) (by rfl) (by rfl) (by simp) (by rfl) (by rfl) (by simp) (by simp[xR,rt,iP])) ?_
   rintro⟨⟨k,v,acc⟩,⟨hk,hv⟩,xD,rC⟩ K1 hK1;simp only at hk hv xD rC;simp only[bC,cW,cU]at hK1⊢;have hk1:=oQ (k:=k);by_cases hlt:k<L.length
   .have hg:=aE hlt;have hwz:=dK gG L k hlt;rw[mL hlt]at rC;simp only[gG]at hwz;have cS:Ok prog 105 [.str L[k],.int .u8 61] (.sl .own 1 ((dE 61 L[k]).map bW)):=xB L[k] 61 (by omega);have cN:=fD (tY L[k]) (by simp[tY];omega);have cV:=yH (wN L[k]) (by simp[wN];omega);have cF:=kV acc (tY L[k]) (by omega);have jX:(decide (iH 61 L[k]<L[k].length)&&dA (tY L[k])&&isValue (wN L[k])&& !(aW acc (tY L[k])).2)=false->res=(gV,false):=λh=>BP (by rw[rC];simp only[iB];rw[h];rfl)
    have hnext:(decide (iH 61 L[k]<L[k].length)&&dA (tY L[k])&&isValue (wN L[k])&& !(aW acc (tY L[k])).2)=true->iB ws []=iB (L.drop (k+1)) (acc++[⟨tY L[k],wN L[k]⟩]):=λh=>by rw[rC];simp only[iB];rw[eK h]
    have zg:=ik (w:=L[k]);have hback:=il (w:=L[k]);have NB:=iQ 61 L[k];have hsc:L[k].count 61<=L[k].length:=pH;clear rC BP LD Dx;by_cases h2:(dE 61 L[k]).length=2
    .obtain ⟨hi,hsg⟩:=zg h2;rw[hsg]at cS;simp only[mC,DE,bW]at cS;rw[sB hi]at jX hnext;clear zg hback h2 hsg NB hsc hi;generalize dA (tY L[k])=b2 at*;generalize isValue (wN L[k])=b3 at*;generalize aW acc (tY L[k])=fa at*;obtain⟨fv,b4⟩:=fa;generalize tY L[k]=ky at*;generalize wN L[k]=vl at*;simp only at cF jX hnext;cases b2
     .rw [jX (by simp)];clear jX hnext hK1;have W:=aA hk1 (aA hg hlt);refine we ?_;all_goals (try first|(refine aQ (.inl ?_);simp[aP,results121,gV];done)|(refine aQ (.inr (dN ?_));simp[AS.yK,AS.wT,AS.rv,results121,gV]))
     cases b3
     .rw [jX (by simp)];clear jX hnext hK1;have W:=aA hk1 (aA hg hlt);refine we ?_;all_goals (try first|(refine aQ (.inl ?_);simp[aP,results121,gV];done)|(refine aQ (.inr (dN ?_));simp[AS.yK,AS.wT,AS.rv,results121,gV]))
     cases b4
     .have hn2:=hnext (by simp);clear jX hnext;have W:=aA hk1 (aA hg hlt);refine we ?_;all_goals refine hK1 _ ⟨(k+1,v+1,acc++[⟨ky,vl⟩]),⟨by simp only;omega,by simp only;omega⟩,by simp;omega,hn2⟩ (aV 4) (by simp only;omega)
     .rw [jX (by simp)];clear jX hnext hK1;have W:=aA hk1 (aA hg hlt);refine we ?_;all_goals (try first|(refine aQ (.inl ?_);simp[aP,results121,gV];done)|(refine aQ (.inr (dN ?_));simp[AS.yK,AS.wT,AS.rv,results121,gV]))
    .have jO:res=(gV,false):=jX (by
      cases hi:decide (iH 61 L[k]<L[k].length)
      .simp
      .cases X3:isValue (wN L[k])
       .simp
       .exact absurd (hback (of_decide_eq_true hi) X3) h2)
     rw[jO];have h2':¬(((dE 61 L[k]).length:Int)=2):=by omega
     clear jX hnext hK1 zg hback jO h2;generalize dE 61 L[k]=sg at*;have W:=aA hk1 (aA hg (aA hlt h2'));refine we ?_;all_goals (try first|(refine aQ (.inl ?_);simp[aP,results121,gV];done)|(refine aQ (.inr (dN ?_));simp[AS.yK,AS.wT,AS.rv,results121,gV]))
   .have FP:L.drop k=[]:=AE (by omega);rw[FP]at rC;have hal:=ES ws [] acc (by rw[rC];rfl);have hs2:=λh1 h2=>LD acc h1 h2 (by rw[rC];rfl)
    clear hK1 rC LD BP;cases hn:dA w0
    .rw [Dx (by rw[hn];simp)];rw[hn]at c1;have W:=hk1;refine we ?_;all_goals (try first|(refine aQ (.inl ?_);simp[aP,results121,gV];done)|(refine aQ (.inr (dN ?_));simp[AS.yK,AS.wT,AS.rv,results121,gV]))
    .rw [hn]at c1;by_cases h4:(4:Int)<(acc.length:Int)
     .exfalso;simp only[eV,count_nil]at hal hsl;omega
     .rw [hs2 hn (by simp only[eV]at hal;omega)];have W:=aA hk1 h4;refine we ?_;all_goals (try exact Gm results121)
  .have h61:¬(60:Int)<(r.length:Int)+1:=by simp only[eN]at h60;omega
   refine xU aF func121 ntmps121 ?_;have W:=aA h61 (aA hx hL0);refine we ?_;refine aO (ι:={q:Nat×Nat×List oN // (q.1<=L.length/\1<=q.2.1)/\q.2.2.length+1=q.1/\iB ws []=iB (L.drop q.1) q.2.2}) (λt o i=>⟨bC t [(6,.int .i64 i.1.1),(35,.undef)],[⟨true,true,4,0,[[.int .i64 0,.str [],.sl .own 2 [],.str []]]⟩,⟨true,false,1,1,L.map bW⟩,⟨true,true,4,0,[[.int .i64 1,.str w0,.obj 3 i.1.2.1,.str []]]⟩,⟨true,false,2,i.1.2.1,i.1.2.2.map uR⟩]⟩)
    (λi=>L.length-i.1.1) ⟨(1,1,[]),by simp only;omega,by simp,by rw[hLd]⟩ (vI 2 0 2 (ob:=⟨true,true,4,0,[[.int .i64 1,.str w0,.sl .own 2 [],.str []]]⟩) (by rfl) (by rfl) (by rfl) (by simp) (by rfl) (by rfl) (by simp) (by simp[xR,rt,iP])) ?_
   rintro⟨⟨k,v,acc⟩,⟨hk,hv⟩,xD,rC⟩ K1 hK1;simp only at hk hv xD rC;simp only[bC,cW,cU]at hK1⊢;have hk1:=oQ (k:=k);by_cases hlt:k<L.length
   .have hg:=aE hlt;have hwz:=dK gG L k hlt;rw[mL hlt]at rC;simp only[gG]at hwz;have cS:Ok prog 105 [.str L[k],.int .u8 61] (.sl .own 1 ((dE 61 L[k]).map bW)):=xB L[k] 61 (by omega);have cN:=fD (tY L[k]) (by simp[tY];omega);have cV:=yH (wN L[k]) (by simp[wN];omega);have cF:=kV acc (tY L[k]) (by omega);have jX:(decide (iH 61 L[k]<L[k].length)&&dA (tY L[k])&&isValue (wN L[k])&& !(aW acc (tY L[k])).2)=false->res=(gV,false):=λh=>BP (by rw[rC];simp only[iB];rw[h];rfl)
    have hnext:(decide (iH 61 L[k]<L[k].length)&&dA (tY L[k])&&isValue (wN L[k])&& !(aW acc (tY L[k])).2)=true->iB ws []=iB (L.drop (k+1)) (acc++[⟨tY L[k],wN L[k]⟩]):=λh=>by rw[rC];simp only[iB];rw[eK h]
    have zg:=ik (w:=L[k]);have hback:=il (w:=L[k]);have NB:=iQ 61 L[k];have hsc:L[k].count 61<=L[k].length:=pH;clear rC BP LD Dx;by_cases h2:(dE 61 L[k]).length=2
    .obtain ⟨hi,hsg⟩:=zg h2;rw[hsg]at cS;simp only[mC,DE,bW]at cS;rw[sB hi]at jX hnext;clear zg hback h2 hsg NB hsc hi;generalize dA (tY L[k])=b2 at*;generalize isValue (wN L[k])=b3 at*;generalize aW acc (tY L[k])=fa at*;obtain⟨fv,b4⟩:=fa;generalize tY L[k]=ky at*;generalize wN L[k]=vl at*;simp only at cF jX hnext;cases b2
     .rw [jX (by simp)];clear jX hnext hK1;have W:=aA hk1 (aA hg hlt);refine we ?_;all_goals (try first|(refine aQ (.inl ?_);simp[aP,results121,gV];done)|(refine aQ (.inr (dN ?_));simp[AS.yK,AS.wT,AS.rv,results121,gV]))
     cases b3
     .rw [jX (by simp)];clear jX hnext hK1;have W:=aA hk1 (aA hg hlt);refine we ?_;all_goals (try first|(refine aQ (.inl ?_);simp[aP,results121,gV];done)|(refine aQ (.inr (dN ?_));simp[AS.yK,AS.wT,AS.rv,results121,gV]))
     cases b4
     .have hn2:=hnext (by simp);clear jX hnext;have W:=aA hk1 (aA hg hlt);refine we ?_;all_goals refine hK1 _ ⟨(k+1,v+1,acc++[⟨ky,vl⟩]),⟨by simp only;omega,by simp only;omega⟩,by simp;omega,hn2⟩ (aV 4) (by simp only;omega)
     .rw [jX (by simp)];clear jX hnext hK1;have W:=aA hk1 (aA hg hlt);refine we ?_;all_goals (try first|(refine aQ (.inl ?_);simp[aP,results121,gV];done)|(refine aQ (.inr (dN ?_));simp[AS.yK,AS.wT,AS.rv,results121,gV]))
    .have jO:res=(gV,false):=jX (by
      cases hi:decide (iH 61 L[k]<L[k].length)
      .simp
      .cases X3:isValue (wN L[k])
       .simp
       .exact absurd (hback (of_decide_eq_true hi) X3) h2)
     rw[jO];have h2':¬(((dE 61 L[k]).length:Int)=2):=by omega
     clear jX hnext hK1 zg hback jO h2;generalize dE 61 L[k]=sg at*;have W:=aA hk1 (aA hg (aA hlt h2'));refine we ?_;all_goals (try first|(refine aQ (.inl ?_);simp[aP,results121,gV];done)|(refine aQ (.inr (dN ?_));simp[AS.yK,AS.wT,AS.rv,results121,gV]))
   .have FP:L.drop k=[]:=AE (by omega);rw[FP]at rC;have hal:=ES ws [] acc (by rw[rC];rfl);have hs2:=λh1 h2=>LD acc h1 h2 (by rw[rC];rfl)
    clear hK1 rC LD BP;cases hn:dA w0
    .rw [Dx (by rw[hn];simp)];rw[hn]at c1;have W:=hk1;refine we ?_;all_goals (try first|(refine aQ (.inl ?_);simp[aP,results121,gV];done)|(refine aQ (.inr (dN ?_));simp[AS.yK,AS.wT,AS.rv,results121,gV]))
    .rw [hn]at c1;by_cases h4:(4:Int)<(acc.length:Int)
     .rw [Dx (by simp only[eV]at hal;omega)];have W:=aA hk1 h4;refine we ?_;all_goals (try first|(refine aQ (.inl ?_);simp[aP,results121,gV];done)|(refine aQ (.inr (dN ?_));simp[AS.yK,AS.wT,AS.rv,results121,gV]))
     .rw [hs2 hn (by simp only[eV]at hal;omega)];have W:=aA hk1 h4;refine we ?_;all_goals (try exact Gm results121)
end Go.Proofs.YtfbefblglejcaaaGreatDoor
