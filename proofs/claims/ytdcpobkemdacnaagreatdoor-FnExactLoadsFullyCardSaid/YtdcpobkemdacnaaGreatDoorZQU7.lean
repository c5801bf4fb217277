/- Proved here: steps towards the statement of this claim. No condition. -/
import Derived.Test.YtdcpobkemdacnaaGreatDoorZQJ4
set_option linter.all false
set_option maxRecDepth 4000
set_option maxHeartbeats 4000000
namespace Go.Proofs.YtdcpobkemdacnaaGreatDoor
open Go.Aw Proofs.Tryz List IntKind
theorem toFile_ok [aC prog] (a:zS) (hs:tC a<=1048576):Ok prog 121 [.agg (uA a)] (.agg (uA a)):=by
 simp only [tC] at hs;refine bO aD func121 ntmps121 ?_;have W:=trivial;repeat' first|refine wg ?_|(refine nx ?_;refine sk (hc:=toResponse_ok a.response (by omega)) (h:=?_))|(refine sq ?_ ?_<;>intro hc<;>try exact hc.elim)|fail
 exact aF results121
theorem L8 [aC prog] (a:zS) (n:Int) (h0:0<=n) (h1:n<=1048576) (hw:QM a):Ok prog 89 [.agg (uA a),.int .i64 n] (.int .i64 (sub n (tC a))):=by
 simp only [QM] at hw;obtain ⟨aOm,MH⟩:=hw;refine bO aD func89 ntmps89 ?_;have W:=trivial;repeat' first|refine wg ?_|(refine nx ?_;refine sk (hc:=Ij a.response _ (by omega) (by repeat' (first|omega|apply xV|apply vS)) MH) (h:=?_))|(refine sq ?_ ?_<;>intro hc<;>try exact hc.elim)|fail
 all_goals try(refine aV ?_;simp [aH,results89,tC])
 all_goals (
  (try generalize e0:sub (n - (a.path.length:Int)) (bI a.response)=m0 at *)
  (try (first|have f0:=xW e0 (by omega)|have f0:=vT e0 (by omega) (by omega)))
  repeat (simp (disch:=omega) only [wrap64] at *)
  (try simp only [sub]);(try split);all_goals omega)
theorem L9 [aC prog] (a b:zS) (hs:tC a<=1099511627776):Ok prog 155 [.agg (uA a),.agg (uA b)] (.bool (decide (a=b))):=by
 simp only [tC] at hs;refine bO aD func155 ntmps155 ?_;have W:=trivial;repeat' first|refine wg ?_|(refine nx ?_;refine sk (hc:=Ik a.response b.response (by omega)) (h:=?_))|(refine sq ?_ ?_<;>intro hc<;>try exact hc.elim)|fail
 all_goals try(refine aV ?_;simp [aH,results155])
 all_goals ((repeat clear hK K);cases a;cases b;simp_all)
theorem toFileS_ok [aC prog] (l:List zS) (hs:bT tC l<=1048576):Ok prog 68 [.sl .view 7 (l.map uA)] (.sl .own 7 (l.map uA)):=by
 have hl:l.length<=1048576:=by (try simp only [bT] at hs);omega
 have hb:(80:Int) * (l.length:Int)<=281474976710656:=by omega
 have hb2:(l.length:Int)<=9223372036854775807:=by omega
 generalize hz:([.str [],.int .i64 0,.int .i64 0,.str [],.int .i64 0,.bool false,.str []]:List AV)=z;have hz0:=Eh z (l.map uA);rw [oX] at hz0;refine bO aD func68 ntmps68 ?_;have W:=aA hb hb2;refine wl ?_;refine aP (ι:={k:Nat // k<=l.length}) (λt o i=>⟨bE t [(4,.int .i64 i.1)],[⟨true,false,7,1,Bh z (l.map uA) i.1⟩]⟩)
  (λi=>l.length - i.1) ⟨0,by simp⟩ (aO (by simp [hz,hz0]) (by simp)) ?_
 rintro ⟨k,hk⟩ K1 hK1;simp only [bE,cW,cU] at hK1⊢;have hk1:=oW (k:=k);by_cases hlt:k < l.length
 .have hg:=aE hlt;have hfg:=GH z (l.map uA) k (by simpa using hlt);have DT:=GI z (l.map uA) k (by simpa using hlt);rw [Fl] at DT;simp only [uA] at DT;have hzl:z.length=7:=by rw [<-hz];rfl
  have hzd:z.drop 7=[]:=by rw [<-hz];rfl
  have W:=aA hk1 (aA hg (aA hfg (aA hzl (aA hzd DT))));have V:=aA hk1 (aA hg hlt);repeat' first|refine wg ?_|(refine nx ?_;refine sk (hc:=toFile_ok l[k] (by have:=dO tC l k hlt;(try simp only [bT] at hs);omega)) (h:=?_))|(refine sq ?_ ?_<;>intro hc<;>try exact hc.elim)|fail
  refine hK1 _ ⟨k+1,by omega⟩ (aX 1 rfl ?_ (by simp) (by simp)) (by simp only;omega);simp
 .have W:=hk1;refine wl ?_;have hfa:=GG z (l.map uA) k (by simpa using hlt);all_goals try(refine aV ?_;simp [aH,results68,hfa])
theorem mh [aC prog] (l:List zS) (n:Int) (h0:0<=n) (h1:n<=1048576) (hw:l.length<=9223372036854775807/\∀y∈l,QM y):Ok prog 46 [.sl .view 7 (l.map uA),.int .i64 n] (.int .i64 (sub n (bT tC l))):=by
 obtain ⟨hl,hw⟩:=hw;refine bO aD func46 ntmps46 ?_;have W:=trivial;repeat' first|refine wg ?_|(refine sq ?_ ?_<;>intro hc<;>try exact hc.elim)|fail
 .refine aV ?_;simp [aH,results46,sub,bT];omega
 .refine aP (ι:={k:Nat // k<=l.length/\l.length+bH tC (l.take k)<=n}) (λt o i=>⟨bE t [(1,.int .i64 (n - (l.length+bH tC (l.take i.1):Nat))),(5,.int .i64 i.1)],[]⟩)
   (λi=>l.length - i.1) ⟨0,by simp,by simp [bH];omega⟩ (aO (by simp) (by simp [bH])) ?_
  rintro ⟨k,hk,hs⟩ K1 hK1;simp only [bE,cW,cU] at hK1⊢;have hk1:=oW (k:=k);by_cases hlt:k < l.length
  .have hg:=aE hlt;have hts:=rT tC l k hlt;have htl:=sZ tC l (k+1);have hwg:=hw _ (fN hlt);have W:=aA hk1 hg;repeat' first|refine wg ?_|(refine nx ?_;refine sk (hc:=L8 _ _ (by omega) (by omega) hwg) (h:=?_))|(refine sq ?_ ?_<;>intro hc<;>try exact hc.elim)|fail
   .refine ⟨.inr rfl,?_⟩;simp [aH,results46,bT]
    (repeat clear hK K);simp only [sub] at *;grind
   .refine hK1 _ ⟨k+1,by omega,by (repeat clear hK K);simp only [sub] at *;grind⟩ (aO (by simp) ?_) (by simp only;omega);simp
    (repeat clear hK K);simp only [sub] at *;grind
  .have W:=hk1;refine wl ?_;all_goals try(refine aV ?_;simp [aH,results46,bT])
   have:k=l.length:=by omega
   subst this;rw [As] at *;rw [sub_pos (by omega)];omega
theorem mi [aC prog] (a b:List zS) (hs:bT tC a<=1099511627776):Ok prog 86 [.sl .view 7 (a.map uA),.sl .view 7 (b.map uA)] (.bool (decide (a=b))):=by
 have hl:a.length<=1099511627776:=by (try simp only [bT] at hs);omega
 refine bO aD func86 ntmps86 ?_;have W:=trivial;repeat' first|refine wg ?_|(refine sq ?_ ?_<;>intro hc<;>try exact hc.elim)|fail
 .all_goals try(refine aV ?_;simp [aH,results86])
  intro h;subst h;exact absurd rfl hc
 .have hlen:a.length=b.length:=by omega
  refine aP (ι:={k:Nat // k<=a.length/\a.take k=b.take k}) (λt o i=>⟨bE t [(5,.int .i64 i.1)],[]⟩)
   (λi=>a.length - i.1) ⟨0,by simp⟩ aO ?_
  rintro ⟨k,hk,hpre⟩ K1 hK1;simp only [bE,cW,cU] at hK1⊢;have hk1:=oW (k:=k);by_cases hlt:k < a.length
  .have hg:=aE hlt;have Ji:k < b.length:=by omega
   have hgb:=aE Ji;have W:=aA hk1 (aA hg (aA hlt (aA hgb Ji)));repeat' first|refine wg ?_|(refine nx ?_;refine sk (hc:=L9 a[k] b[k] (by have:=dO tC a k hlt;(try simp only [bT] at hs);omega)) (h:=?_))|(refine sq ?_ ?_<;>intro hc<;>try exact hc.elim)|fail
   .all_goals try(refine aV ?_;simp [aH,results86])
    intro h;subst h;exact hc rfl
   .have hts:a.take (k+1)=b.take (k+1):=by rw [eK hlt,eK Ji,hpre,hc]
    refine hK1 _ ⟨k+1,by omega,hts⟩ aO (by simp only;omega)
  .have hka:a.length<=k:=by omega
   rw [cY hka,cY (by omega)] at hpre;subst hpre;have W:=hk1;refine wl ?_;exact aF results86
theorem toServer_ok [aC prog] (a:iQ) (hs:gF a<=1048576):Ok prog 34 [.agg (dH .view a)] (.agg (dH .own a)):=by
 simp only [gF] at hs;refine bO aD func34 ntmps34 ?_;have W:=trivial;repeat' first|refine wg ?_|(refine nx ?_;refine sk (hc:=toFileS_ok a.files (by omega)) (h:=?_))|(refine sq ?_ ?_<;>intro hc<;>try exact hc.elim)|fail
 exact aF results34
theorem Zg [aC prog] (a:iQ) (n:Int) (h0:0<=n) (h1:n<=1048576) (hw:FH a):Ok prog 24 [.agg (dH .view a),.int .i64 n] (.int .i64 (sub n (gF a))):=by
 simp only [FH] at hw;obtain ⟨aOl,aKz⟩:=hw;refine bO aD func24 ntmps24 ?_;have W:=trivial;repeat' first|refine wg ?_|(refine nx ?_;refine sk (hc:=mh a.files _ (by omega) (by repeat' (first|omega|apply xV|apply vS)) aKz) (h:=?_))|(refine sq ?_ ?_<;>intro hc<;>try exact hc.elim)|fail
 all_goals try(refine aV ?_;simp [aH,results24,gF])
 all_goals (
  (try generalize e0:sub (n - (a.host.length:Int)) (bT tC a.files)=m0 at *)
  (try (first|have f0:=xW e0 (by omega)|have f0:=vT e0 (by omega) (by omega)))
  repeat (simp (disch:=omega) only [wrap64] at *)
  (try simp only [sub]);(try split);all_goals omega)
theorem Zh [aC prog] (a b:iQ) (hs:gF a<=1099511627776):Ok prog 43 [.agg (dH .view a),.agg (dH .view b)] (.bool (decide (a=b))):=by
 simp only [gF] at hs;refine bO aD func43 ntmps43 ?_;have W:=trivial;repeat' first|refine wg ?_|(refine nx ?_;refine sk (hc:=mi a.files b.files (by omega)) (h:=?_))|(refine sq ?_ ?_<;>intro hc<;>try exact hc.elim)|fail
 all_goals try(refine aV ?_;simp [aH,results43])
 all_goals ((repeat clear hK K);cases a;cases b;simp_all)
theorem toServerS_ok [aC prog] (l:List iQ) (hs:bT gF l<=1048576):Ok prog 16 [.sl .view 2 (l.map (dH .view))] (.sl .own 2 (l.map (dH .own))):=by
 have hl:l.length<=1048576:=by (try simp only [bT] at hs);omega
 have hb:(40:Int) * (l.length:Int)<=281474976710656:=by omega
 have hb2:(l.length:Int)<=9223372036854775807:=by omega
 generalize hz:([.str [],.sl .own 7 []]:List AV)=z;have hz0:=Eh z (l.map (dH .own));rw [oX] at hz0;refine bO aD func16 ntmps16 ?_;have W:=aA hb hb2;refine wl ?_;refine aP (ι:={k:Nat // k<=l.length}) (λt o i=>⟨bE t [(4,.int .i64 i.1)],[⟨true,false,2,1,Bh z (l.map (dH .own)) i.1⟩]⟩)
  (λi=>l.length - i.1) ⟨0,by simp⟩ (aO (by simp [hz,hz0]) (by simp)) ?_
 rintro ⟨k,hk⟩ K1 hK1;simp only [bE,cW,cU] at hK1⊢;have hk1:=oW (k:=k);by_cases hlt:k < l.length
 .have hg:=aE hlt;have hfg:=GH z (l.map (dH .own)) k (by simpa using hlt);have DT:=GI z (l.map (dH .own)) k (by simpa using hlt);rw [Fl] at DT;simp only [dH] at DT;have hzl:z.length=2:=by rw [<-hz];rfl
  have hzd:z.drop 2=[]:=by rw [<-hz];rfl
  have W:=aA hk1 (aA hg (aA hfg (aA hzl (aA hzd DT))));have V:=aA hk1 (aA hg hlt);repeat' first|refine wg ?_|(refine nx ?_;refine sk (hc:=toServer_ok l[k] (by have:=dO gF l k hlt;(try simp only [bT] at hs);omega)) (h:=?_))|(refine sq ?_ ?_<;>intro hc<;>try exact hc.elim)|fail
  refine hK1 _ ⟨k+1,by omega⟩ (aX 1 rfl ?_ (by simp) (by simp)) (by simp only;omega);simp
 .have W:=hk1;refine wl ?_;have hfa:=GG z (l.map (dH .own)) k (by simpa using hlt);all_goals try(refine aV ?_;simp [aH,results16,hfa])
theorem Xi [aC prog] (l:List iQ) (n:Int) (h0:0<=n) (h1:n<=1048576) (hw:l.length<=9223372036854775807/\∀y∈l,FH y):Ok prog 11 [.sl .view 2 (l.map (dH .view)),.int .i64 n] (.int .i64 (sub n (bT gF l))):=by
 obtain ⟨hl,hw⟩:=hw;refine bO aD func11 ntmps11 ?_;have W:=trivial;repeat' first|refine wg ?_|(refine sq ?_ ?_<;>intro hc<;>try exact hc.elim)|fail
 .refine aV ?_;simp [aH,results11,sub,bT];omega
 .refine aP (ι:={k:Nat // k<=l.length/\l.length+bH gF (l.take k)<=n}) (λt o i=>⟨bE t [(1,.int .i64 (n - (l.length+bH gF (l.take i.1):Nat))),(5,.int .i64 i.1)],[]⟩)
   (λi=>l.length - i.1) ⟨0,by simp,by simp [bH];omega⟩ (aO (by simp) (by simp [bH])) ?_
  rintro ⟨k,hk,hs⟩ K1 hK1;simp only [bE,cW,cU] at hK1⊢;have hk1:=oW (k:=k);by_cases hlt:k < l.length
  .have hg:=aE hlt;have hts:=rT gF l k hlt;have htl:=sZ gF l (k+1);have hwg:=hw _ (fN hlt);have W:=aA hk1 hg;repeat' first|refine wg ?_|(refine nx ?_;refine sk (hc:=Zg _ _ (by omega) (by omega) hwg) (h:=?_))|(refine sq ?_ ?_<;>intro hc<;>try exact hc.elim)|fail
   .refine ⟨.inr rfl,?_⟩;simp [aH,results11,bT]
    (repeat clear hK K);simp only [sub] at *;grind
   .refine hK1 _ ⟨k+1,by omega,by (repeat clear hK K);simp only [sub] at *;grind⟩ (aO (by simp) ?_) (by simp only;omega);simp
    (repeat clear hK K);simp only [sub] at *;grind
  .have W:=hk1;refine wl ?_;all_goals try(refine aV ?_;simp [aH,results11,bT])
   have:k=l.length:=by omega
   subst this;rw [As] at *;rw [sub_pos (by omega)];omega
theorem Xj [aC prog] (a b:List iQ) (hs:bT gF a<=1099511627776):Ok prog 21 [.sl .view 2 (a.map (dH .view)),.sl .view 2 (b.map (dH .view))] (.bool (decide (a=b))):=by
 have hl:a.length<=1099511627776:=by (try simp only [bT] at hs);omega
 refine bO aD func21 ntmps21 ?_;have W:=trivial;repeat' first|refine wg ?_|(refine sq ?_ ?_<;>intro hc<;>try exact hc.elim)|fail
 .all_goals try(refine aV ?_;simp [aH,results21])
  intro h;subst h;exact absurd rfl hc
 .have hlen:a.length=b.length:=by omega
  refine aP (ι:={k:Nat // k<=a.length/\a.take k=b.take k}) (λt o i=>⟨bE t [(5,.int .i64 i.1)],[]⟩)
   (λi=>a.length - i.1) ⟨0,by simp⟩ aO ?_
  rintro ⟨k,hk,hpre⟩ K1 hK1;simp only [bE,cW,cU] at hK1⊢;have hk1:=oW (k:=k);by_cases hlt:k < a.length
  .have hg:=aE hlt;have Ji:k < b.length:=by omega
   have hgb:=aE Ji;have W:=aA hk1 (aA hg (aA hlt (aA hgb Ji)));repeat' first|refine wg ?_|(refine nx ?_;refine sk (hc:=Zh a[k] b[k] (by have:=dO gF a k hlt;(try simp only [bT] at hs);omega)) (h:=?_))|(refine sq ?_ ?_<;>intro hc<;>try exact hc.elim)|fail
   .all_goals try(refine aV ?_;simp [aH,results21])
    intro h;subst h;exact hc rfl
   .have hts:a.take (k+1)=b.take (k+1):=by rw [eK hlt,eK Ji,hpre,hc]
    refine hK1 _ ⟨k+1,by omega,hts⟩ aO (by simp only;omega)
  .have hka:a.length<=k:=by omega
   rw [cY hka,cY (by omega)] at hpre;subst hpre;have W:=hk1;refine wl ?_;exact aF results21
theorem VZ [aC prog] [bR prog] (s:bB) (c:UInt8) (hs:s.length < 4294967281):Ok prog 132 [.str s,.str [c]] (.sl .own 1 ((dG c s).map dD)):=QP Tryz.laysM146 (by kernel_rfl) s c hs
def eG:bV:=⟨0,[],[],[]⟩
def tJ (w:bB):bB:=w.take (iL 61 w)
def wK (w:bB):bB:=w.drop (iL 61 w+1)
def iF:List bB->List oL->Option (List oL)
 |[],acc=>some acc
 |w::ws,acc=>if (decide (iL 61 w < w.length)&&dB (tJ w)&&isValue (wK w)&& !(aW acc (tJ w)).2)=true then iF ws (acc++[⟨tJ w,wK w⟩]) else none
def ET (w0:bB) (ws:List bB):bV×Bool:=
 if dB w0=true/\ws.length<=4 then (match iF ws [] with
  |some l=>(⟨1,w0,l,[]⟩,true)
  |none=>(eG,false)) else (eG,false)
def rG (s:bB):bV×Bool:=
 if 60 < s.length then (eG,false)
 else if BU [47] s=true then (if dB (s.drop 1)=true then (⟨2,s.drop 1,[],[]⟩,true) else (eG,false))
 else ET (s.take (iL 32 s)) (if iL 32 s < s.length then dG 32 (s.drop (iL 32 s+1)) else [])
theorem vF (c:UInt8) (s:bB):dG c s=s.take (iL c s)::(if iL c s < s.length then dG c (s.drop (iL c s+1)) else []):=by
 rw [Mv];have h:=uX c s;split
 .rfl
 .rw [cY (by omega)]
theorem RJ {w0:bB} {ws:List bB} (h:¬(dB w0=true/\ws.length<=4)):ET w0 ws=(eG,false):=by unfold ET;rw [cX h]
theorem RL {w0:bB} {ws:List bB} (h:iF ws []=none):ET w0 ws=(eG,false):=by unfold ET;rw [h];split<;>rfl
theorem RN {w0:bB} {ws:List bB} {l:List oL} (h1:dB w0=true) (h2:ws.length<=4) (h:iF ws []=some l):ET w0 ws=(⟨1,w0,l,[]⟩,true):=by unfold ET;rw [h,eI ⟨h1,h2⟩]
theorem Ex:∀(ws:List bB) (acc l:List oL),iF ws acc=some l->l.length=acc.length+ws.length
 |[],acc,l,h=>by simp only [iF,eC] at h;subst h;simp
 |w::ws,acc,l,h=>by
  simp only [iF] at h;split at h
  .have:=Ex ws _ l h;simp at this⊢;omega
  .cases h
theorem NY:∀(ws:List bB) (acc l:List oL),iF ws acc=some l->bT oO l<=bT oO acc+bH gM ws
 |[],acc,l,h=>by simp only [iF,eC] at h;subst h;simp [bH]
 |w::ws,acc,l,h=>by
  simp only [iF] at h;split at h
  .rename_i hc;simp only [eJ,fR] at hc;have:=NY ws _ l h;have hj:∀a b:List oL,bH oO (a++b)=bH oO a+bH oO b:=by
    intro a b;induction a with
    |nil=>simp [bH]
    |cons x xs ih=>simp only [eA,bH,ih];omega
   simp only [bT,hj,bH,oO,tJ,wK,eR,oR,zE,eN,eW,gM] at this⊢;omega
  .cases h
theorem Bc (c:UInt8):∀s:bB,bH gM (dG c s)<=s.length
 |[]=>by simp [dG,bH,gM]
 |x::s=>by
  have ih:=Bc c s;simp only [dG];split
  .simp only [bH,gM,eW,eN] at ih⊢;omega
  .split
   .rename_i h0;exact absurd h0 (qL c s)
   .rename_i p q h0;rw [h0] at ih;simp only [bH,gM,eN] at ih⊢;omega
theorem aDq (s:bB):bX (rG s).1<=s.length:=by
 have hn:bX eG=0:=by simp [eG,bX,bT,bH]
 unfold rG;split
 .simp only [hn];omega
 .split
  .split
   .simp [bX,bT,bH]
   .simp only [hn];omega
  .have hs:=Bc 32 s;rw [vF] at hs;simp only [bH,gM] at hs;generalize (if iL 32 s < s.length then dG 32 (s.drop (iL 32 s+1)) else [])=ws at *;unfold ET;split
   .split
    .rename_i l hl;have:=NY ws [] l hl;simp only [bX,bT,bH,eW] at this⊢;omega
    .simp only [hn];omega
   .simp only [hn];omega
theorem XE [aC prog] [bR prog] (s:bB) (hl:s.length<=1099511627776):Ok prog 150 [.str s] (.gZ [.agg (cB .own (rG s).1),.bool (rG s).2]):=by
 by_cases h60:(60:Int) < (s.length:Int)
 .have hr:rG s=(eG,false):=by unfold rG;rw [eI (by omega)]
  rw [hr];refine xL aD func150 ntmps150 ?_;have W:=h60;refine we ?_;all_goals try(first|(refine ⟨.inr rfl,.inl ?_⟩;simp [aH,results150,eG];done)|(refine ⟨.inr rfl,.inr (dA ?_)⟩;simp [AS.vV,AS.uS,AS.rv,results150,eG];done)|(refine ⟨.inr rfl,.inl ?_⟩;simp [aH,results150,eG]))
 have c0:=Es s [47] hl (by simp);cases hp:BU [47] s;case true=>
  rw [hp] at c0;simp only [gO] at c0;have c1:=gQ (s.drop 1) (by simp;omega);simp only [eN,eW,lA,Nat.reduceAdd] at c0;generalize hs1:s.drop 1=s1 at *;cases hn:dB s1
  .have hr:rG s=(eG,false):=by unfold rG;rw [cX (by omega),eI hp,hs1,hn];rfl
   rw [hr];rw [hn] at c1;refine xL aD func150 ntmps150 ?_;have W:=h60;refine we ?_;all_goals try(first|(refine ⟨.inr rfl,.inl ?_⟩;simp [aH,results150,eG];done)|(refine ⟨.inr rfl,.inr (dA ?_)⟩;simp [AS.vV,AS.uS,AS.rv,results150,eG];done)|(refine ⟨.inr rfl,.inl ?_⟩;simp [aH,results150,eG]))
  .have hr:rG s=(⟨2,s1,[],[]⟩,true):=by unfold rG;rw [cX (by omega),eI hp,hs1,hn];rfl
   rw [hr];rw [hn] at c1;refine xL aD func150 ntmps150 ?_;have W:=h60;refine we ?_;all_goals try(first|(refine ⟨.inr rfl,.inl ?_⟩;simp [aH,results150];done)|(refine ⟨.inr rfl,.inr (dA ?_)⟩;simp [AS.vV,AS.uS,AS.rv,results150];done)|(refine ⟨.inr rfl,.inl ?_⟩;simp [aH,results150]))
 case false=>
  rw [hp] at c0;simp only [eS,hH] at c0;have hr:rG s=ET (s.take (iL 32 s)) (if iL 32 s < s.length then dG 32 (s.drop (iL 32 s+1)) else []):=by unfold rG;rw [cX (by omega),cX (by rw [hp];simp)]
  have c2:=VZ s 32 (by omega);have hsl:=iW 32 s;have hcn:s.count 32<=s.length:=pD;have hsm:=Bc 32 s;rw [vF] at c2 hsl hsm;rw [hr];have c1:=gQ (s.take (iL 32 s)) (by simp;omega);generalize (if iL 32 s < s.length then dG 32 (s.drop (iL 32 s+1)) else [])=ws at *;generalize s.take (iL 32 s)=w0 at *;simp only [bH,gM,eN] at hsl hsm;simp only [mA] at c2;clear hr hp;have hw1:i64.wrap ((ws.length:Int)+1 - 1)=(ws.length:Int):=by rw [wrap64]<;>omega
  have htk:List.take ws.length (ws.map dD)=ws.map dD:=cY (by simp);cases hn:dB w0
  .rw [RJ (by rw [hn];simp)];rw [hn] at c1;refine xL aD func150 ntmps150 ?_;have W:=aA h60 hw1;refine we ?_;all_goals try(first|(refine ⟨.inr rfl,.inl ?_⟩;simp [aH,results150,eG];done)|(refine ⟨.inr rfl,.inr (dA ?_)⟩;simp [AS.vV,AS.uS,AS.rv,results150,eG];done)|(refine ⟨.inr rfl,.inl ?_⟩;simp [aH,results150,eG]))
  rw [hn] at c1;by_cases h4:(4:Int) < (ws.length:Int)
  .rw [RJ (by omega)];refine xL aD func150 ntmps150 ?_;have W:=aA h60 (aA hw1 h4);refine we ?_;all_goals try(first|(refine ⟨.inr rfl,.inl ?_⟩;simp [aH,results150,eG];done)|(refine ⟨.inr rfl,.inr (dA ?_)⟩;simp [AS.vV,AS.uS,AS.rv,results150,eG];done)|(refine ⟨.inr rfl,.inl ?_⟩;simp [aH,results150,eG]))
  have Bv:=λh=>RL (w0:=w0) (ws:=ws) h
  have KN:=λl=>RN (w0:=w0) (ws:=ws) (l:=l) hn (by omega)
  generalize ET w0 ws=res at *;refine xL aD func150 ntmps150 ?_;have W:=aA h60 (aA hw1 (aA h4 htk));refine we ?_;refine aP (ι:={q:Nat×Nat×List oL // (q.1<=ws.length/\1<=q.2.1)/\q.2.2.length=q.1/\iF ws []=iF (ws.drop q.1) q.2.2}) (λt o i=>⟨bE t [(52,.int .i64 i.1.1),(48,.undef)],[⟨true,true,4,0,[[.int .i64 0,.str [],.sl .own 2 [],.str []]]⟩,⟨true,false,1,2,ws.map dD⟩,⟨true,true,4,0,[[.int .i64 1,.str w0,.obj 3 i.1.2.1,.str []]]⟩,⟨true,false,2,i.1.2.1,i.1.2.2.map uL⟩]⟩)
   (λi=>ws.length - i.1.1) ⟨(0,1,[]),by simp,by simp,by simp⟩ (vD 2 0 2 (ob:=⟨true,true,4,0,[[.int .i64 1,.str w0,.sl .own 2 [],.str []]]⟩) (by rfl) (by rfl) (by rfl) (by simp) (by rfl) (by rfl) (by simp) (by simp [xM,rt,jV])) ?_
  rintro ⟨⟨k,v,acc⟩,⟨hk,hv⟩,wZ,qO⟩ K1 hK1;simp only at hk hv wZ qO;simp only [bE,cW,cU] at hK1⊢;have hk1:=oW (k:=k);by_cases hlt:k < ws.length
  .have hg:=aE hlt;have Q8:=dO gM ws k hlt;rw [mL hlt] at qO;simp only [gM] at Q8;have cC:=zK ws[k] 61 (by omega);have cN:=gQ (tJ ws[k]) (by simp [tJ];omega);have cV:=Bn (wK ws[k]) (by simp [wK];omega);have cF:=mJ acc (tJ ws[k]) (by omega);have jZ:(decide (iL 61 ws[k] < ws[k].length)&&dB (tJ ws[k])&&isValue (wK ws[k])&& !(aW acc (tJ ws[k])).2)=false->res=(eG,false):=λh=>Bv (by rw [qO];simp only [iF];rw [h];rfl)
   have hnext:(decide (iL 61 ws[k] < ws[k].length)&&dB (tJ ws[k])&&isValue (wK ws[k])&& !(aW acc (tJ ws[k])).2)=true->iF ws []=iF (ws.drop (k+1)) (acc++[⟨tJ ws[k],wK ws[k]⟩]):=λh=>by rw [qO];simp only [iF];rw [eI h]
   change Ok _ _ _ (.gZ [.str (tJ ws[k]),.str (wK ws[k]),.bool (decide (iL 61 ws[k] < ws[k].length))]) at cC;clear qO Bv KN;generalize decide (iL 61 ws[k] < ws[k].length)=b1 at *;generalize dB (tJ ws[k])=b2 at *;generalize isValue (wK ws[k])=b3 at *;generalize aW acc (tJ ws[k])=fa at *;obtain ⟨fv,b4⟩:=fa;generalize tJ ws[k]=ky at *;generalize wK ws[k]=vl at *;simp only at cF jZ hnext;cases b1
   .rw [jZ (by simp)];clear jZ hnext hK1;have W:=aA hk1 (aA hg hlt);refine we ?_;all_goals try(first|(refine ⟨.inr rfl,.inl ?_⟩;simp [aH,results150,eG];done)|(refine ⟨.inr rfl,.inr (dA ?_)⟩;simp [AS.vV,AS.uS,AS.rv,results150,eG];done)|(refine ⟨.inr rfl,.inl ?_⟩;simp [aH,results150,eG]))
   cases b2
   .rw [jZ (by simp)];clear jZ hnext hK1;have W:=aA hk1 (aA hg hlt);refine we ?_;all_goals try(first|(refine ⟨.inr rfl,.inl ?_⟩;simp [aH,results150,eG];done)|(refine ⟨.inr rfl,.inr (dA ?_)⟩;simp [AS.vV,AS.uS,AS.rv,results150,eG];done)|(refine ⟨.inr rfl,.inl ?_⟩;simp [aH,results150,eG]))
   cases b3
   .rw [jZ (by simp)];clear jZ hnext hK1;have W:=aA hk1 (aA hg hlt);refine we ?_;all_goals try(first|(refine ⟨.inr rfl,.inl ?_⟩;simp [aH,results150,eG];done)|(refine ⟨.inr rfl,.inr (dA ?_)⟩;simp [AS.vV,AS.uS,AS.rv,results150,eG];done)|(refine ⟨.inr rfl,.inl ?_⟩;simp [aH,results150,eG]))
   cases b4
   .have hn2:=hnext (by simp);clear jZ hnext;have W:=aA hk1 (aA hg hlt);refine we ?_;all_goals refine hK1 _ ⟨(k+1,v+1,acc++[⟨ky,vl⟩]),⟨by simp only;omega,by simp only;omega⟩,by simp;omega,hn2⟩ (aX 4) (by simp only;omega)
   .rw [jZ (by simp)];clear jZ hnext hK1;have W:=aA hk1 (aA hg hlt);refine we ?_;all_goals try(first|(refine ⟨.inr rfl,.inl ?_⟩;simp [aH,results150,eG];done)|(refine ⟨.inr rfl,.inr (dA ?_)⟩;simp [AS.vV,AS.uS,AS.rv,results150,eG];done)|(refine ⟨.inr rfl,.inl ?_⟩;simp [aH,results150,eG]))
  .have Fh:ws.drop k=[]:=AK (by omega);rw [Fh] at qO;rw [KN acc (by rw [qO];rfl)];clear hK1;have W:=hk1;refine we ?_;all_goals try(first|(refine ⟨.inr rfl,.inl ?_⟩;simp [aH,results150];done)|(refine ⟨.inr rfl,.inr (dA ?_)⟩;simp [AS.vV,AS.uS,AS.rv,results150];done)|(refine ⟨.inr rfl,.inl ?_⟩;simp [aH,results150]))
end Go.Proofs.YtdcpobkemdacnaaGreatDoor
