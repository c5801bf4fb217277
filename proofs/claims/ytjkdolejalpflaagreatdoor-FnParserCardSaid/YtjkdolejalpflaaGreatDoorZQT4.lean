/- Proved here: steps towards the statement of this claim. No condition. -/
import Derived.Test.YtjkdolejalpflaaGreatDoorZQRC1
import Derived.Test.YtjkdolejalpflaaGreatDoorZQP2
import Derived.Test.YtjkdolejalpflaaGreatDoorZQI3
set_option linter.all false
set_option maxRecDepth 4000
set_option maxHeartbeats 4000000
namespace Go.Proofs.YtjkdolejalpflaaGreatDoor
open Go.Aw Proofs.Tryz List IntKind
theorem FV[aB prog][eZ prog][eD prog](s:aX)(hl:s.length<=1073741824):Ok prog 76 [.str s] (.agg (cZ .own (qM s))):=by
 have cS:Ok prog 73 [.str s,.int .u8 59] (.sl .own 1 ((dP 59 s).map dR)):=sG s 59 (by omega);have hsm:=wS 59 s;have hsl:=iI 59 s;have hcn:s.count 59<=s.length:=pC;unfold qM;generalize dP 59 s=l at*;have hll:l.length<=1073741825:=by omega
 simp only[cZ];refine dA aJ func76 ntmps76 ?_;refine bI ?_;refine aY (ι:={q:Nat×Nat×List Bt // (q.1<=l.length/\1<=q.2.1)/\q.2.2=jJ (l.take q.1)}) (λt o i=>⟨bN t [(5,.int .i64 i.1.1),(9,.undef)],o.take 1++[⟨true,true,1,0,[[.obj 3 i.1.2.1]]⟩,⟨true,false,1,1,l.map dR⟩,⟨true,false,2,i.1.2.1,i.1.2.2.map vL⟩]⟩)
  (λi=>l.length-i.1.1) ⟨(0,1,[]),by simp,by simp[jJ]⟩ (qI 1 0 0 (ob:=⟨true,true,1,0,[[.sl .own 2 []]]⟩) (by rfl) (by rfl) (by rfl) (by simp) (by rfl) (by rfl) (by simp) (by simp[pM,rt,iV])) ?_
 rintro⟨⟨k,v,acc⟩,⟨hk,hv⟩,tL⟩ K1 hK1;simp only at hk hv tL;simp only[bN,cH,cG,kO,sC,cM,cW]at hK1⊢;have hk1:=vJ (k:=k);have Ke:(acc.map vL).length=acc.length:=by simp
 by_cases hlt:k<l.length
 .have hg:=aE hlt;by_cases h8:acc.length<8
  .have ll:((acc.length:Int)<8):=by omega
   have Yp:=gM dG l k hlt;simp only[dG]at Yp;have cC:Ok prog 73 [.str l[k],.int .u8 58] (.sl .own 1 ((dP 58 l[k]).map dR)):=sG l[k] 58 (by omega);have cN:=dX (Hm l[k]) (by simp[Hm];omega);have cP:=Jt (Ab l[k]) (by simp[Ab];omega);have n1:= @LW l k hlt;have n2:=λr=> @LX l k r hlt
   have r1:= @Da l[k];have r2:= @IX l[k];have r3:=λv=> @LU l[k] v
   have r4:=λv=> @LV l[k] v
   have h2:=aBg l[k];have hsg:=iI 58 l[k];have hcg:l[k].count 58<=l[k].length:=pC;rw[<-tL]at n1 n2;generalize Kh:jJ (l.take (k+1))=LZ at*;generalize hrl:qL l[k]=ru at*;generalize Hm l[k]=ky at*;generalize Ab l[k]=vl at*;generalize dP 58 l[k]=ps at*;rcases h2 with h2|⟨h2,hr⟩
   .subst h2;simp only[mS,map_nil,dR]at cC;cases hn:bP ky with
    |false=>rw[hn]at cN;have e2:=n1 (r2 hn);clear r1 r2 r3 r4 n1 n2;have W:=aA hk1 (aA hg (aA hlt ll));refine we ?_;exact hK1 _ ⟨(k+1,v,acc),⟨by simp only;omega,hv⟩,(by simp only;rw[Kh];exact e2.symm)⟩ (aS 4) (by simp only;omega)
    |true=>
     rw[hn]at cN;cases hp:vU vl with
     |none=>rw[qJ hp]at cP;have e2:=n1 (r1 hp);clear r1 r2 r3 r4 n1 n2;have W:=aA hk1 (aA hg (aA hlt ll));refine we ?_;exact hK1 _ ⟨(k+1,v,acc),⟨by simp only;omega,hv⟩,(by simp only;rw[Kh];exact e2.symm)⟩ (aS 4) (by simp only;omega)
     |some x=>
      rw[AY hp]at cP;have cR:=eX x 1 999;by_cases hx:1<=x/\x<=999
      .have hb:(decide ((1:Int)<=x)&&decide (x<=(999:Int)))=true:=by simp;omega
       rw[hb]at cR;have e2:=n2 _ (r4 x hp hn hx) h8;clear r1 r2 r3 r4 n1 n2;have Gv:LZ.map vL=acc.map vL++[vL ⟨ky,x⟩]:=by rw[e2];simp
       have W:=aA hk1 (aA hg (aA hlt (aA ll Ke)));refine we ?_;all_goals exact hK1 _ ⟨(k+1,v+1,LZ),⟨by simp only;omega,by simp only;omega⟩,(by simp only;exact Kh.symm)⟩ (aS 4 (by simp[Gv])) (by simp only;omega)
      .have hb:(decide ((1:Int)<=x)&&decide (x<=(999:Int)))=false:=by simp only[AI,qS];omega
       rw[hb]at cR;have e2:=n1 (r3 x hp hx);clear r1 r2 r3 r4 n1 n2;have W:=aA hk1 (aA hg (aA hlt ll));refine we ?_;exact hK1 _ ⟨(k+1,v,acc),⟨by simp only;omega,hv⟩,(by simp only;rw[Kh];exact e2.symm)⟩ (aS 4) (by simp only;omega)
   .have e2:=n1 hr;have h2i:¬((ps.length:Int)=2):=by omega
    clear r1 r2 r3 r4 n1 n2 cN cP;have W:=aA hk1 (aA hg (aA hlt (aA ll h2i)));refine we ?_;exact hK1 _ ⟨(k+1,v,acc),⟨by simp only;omega,hv⟩,(by simp only;rw[Kh];exact e2.symm)⟩ (aS 4) (by simp only;omega)
  .have ll:¬((acc.length:Int)<8):=by omega
   have hf:=LY (l:=l) (k:=k) (by rw[<-tL];exact h8);rw[<-tL]at hf;rw[hf];have W:=aA hk1 (aA hg (aA hlt (aA ll Ke)));refine we ?_;exact aO results76
 .have Dm:l.take k=l:=eL (by omega);rw[Dm]at tL;subst tL;have W:=hk1;refine we ?_;exact aO results76
def FW(x:mG):Bool:=decide (x.mode=2)&&x.done&&decide (x.code=1)
def kU(l:List mG):List eT:=(l.filter FW).map λx=>qM x.body
def bO(p:aW):List eT:=kU p.aG
theorem Ma{l:List mG}{k:Nat}(h:k<l.length)(ho:FW l[k]=true):kU (l.take (k+1))=kU (l.take k)++[qM l[k].body]:=by unfold kU;rw[eN h,filter_append,oT];simp[ho]
theorem Pe{l:List mG}{k:Nat}(h:k<l.length)(ho:FW l[k]=false):kU (l.take (k+1))=kU (l.take k):=by unfold kU;rw[eN h,filter_append];simp[ho]
theorem Bb(l:List mG):(kU l).length<=l.length:=by unfold kU;rw[As];exact lP _ _
theorem Jw[aB prog][eZ prog][eD prog][oO prog](p:aW)(hs:dL lN p.aG<=1073741824):Ok prog 71 [.agg (aL .view p)] (.sl .own 1 ((bO p).map (cZ .own))):=by
 simp only[dL]at hs;unfold bO;simp only[aL];generalize p.aG=l at*;refine dA aJ func71 ntmps71 ?_;refine nG ?_;refine aY (ι:={q:Nat×Nat×List eT // (q.1<=l.length/\1<=q.2.1)/\q.2.2=kU (l.take q.1)}) (λt o i=>⟨bN t [(10,.int .i64 i.1.1),(3,.obj 1 i.1.2.1)],o.take 1++[⟨true,false,1,i.1.2.1,i.1.2.2.map (cZ .own)⟩]⟩)
  (λi=>l.length-i.1.1) ⟨(0,1,[]),by simp,by simp[kU]⟩ aC ?_
 rintro⟨⟨k,v,acc⟩,⟨hk,hv⟩,tL⟩ K1 hK1;simp only at hk hv tL;simp only[bN,cH,cG,kO,sC,cM,cW]at hK1⊢;have hk1:=vJ (k:=k);by_cases hlt:k<l.length
 .have hg:=aE hlt;have Yp:=gM lN l k hlt;simp only[lN]at Yp;have cP:=FU l[k].body (by omega);have n1:= @Pe l k hlt;have n2:= @Ma l k hlt;have lq:acc.length<=k:=by rw[tL];have:=Bb (l.take k);rw[pN]at this;omega
  have Ke:(acc.map (cZ .own)).length=acc.length:=by simp
  rw[<-tL]at n1 n2;generalize Kh:kU (l.take (k+1))=LZ at*;generalize qM l[k].body=sh at*;unfold FW at n1 n2;by_cases h1:l[k].mode=2
  .cases h2:l[k].done
   .have e2:=n1 (by simp[h2]);have W:=aA hk1 (aA hg (aA hlt (aA h1 h2)));refine wl ?_;all_goals exact hK1 _ ⟨(k+1,v,acc),⟨by simp only;omega,hv⟩,(by simp only;rw[Kh];exact e2.symm)⟩ (aS 2) (by simp only;omega)
   .by_cases h3:l[k].code=1
    .have e2:=n2 (by simp[h1,h2,h3]);have Gv:LZ.map (cZ .own)=acc.map (cZ .own)++[cZ .own sh]:=by rw[e2];simp
     simp only[cZ]at cP;clear n1 n2;generalize acc.map (cZ .own)=g at*;have W:=aA hk1 (aA hg (aA hlt (aA h1 (aA h2 (aA h3 Ke)))));refine wl ?_;all_goals exact hK1 _ ⟨(k+1,v+1,LZ),⟨by simp only;omega,by simp only;omega⟩,(by simp only;exact Kh.symm)⟩ (aS 2 (by simp[Gv])) (by simp only;omega)
    .have e2:=n1 (by simp[h3]);have W:=aA hk1 (aA hg (aA hlt (aA h1 (aA h2 h3))));refine wl ?_;all_goals exact hK1 _ ⟨(k+1,v,acc),⟨by simp only;omega,hv⟩,(by simp only;rw[Kh];exact e2.symm)⟩ (aS 2) (by simp only;omega)
  .have e2:=n1 (by simp[h1]);have W:=aA hk1 (aA hg (aA hlt h1));refine wl ?_;all_goals exact hK1 _ ⟨(k+1,v,acc),⟨by simp only;omega,hv⟩,(by simp only;rw[Kh];exact e2.symm)⟩ (aS 2) (by simp only;omega)
 .have Dm:l.take k=l:=eL (by omega);rw[Dm]at tL;subst tL;have W:=hk1;refine wl ?_;exact aO results71
theorem Jy[aB prog][eZ prog][eD prog](p:aW)(hs:dL lN p.aG<=1073741824):Ok prog 43 [.agg (aL .view p)] (.sl .own 1 ((bO p).map (cZ .own))):=by
 simp only[dL]at hs;unfold bO;simp only[aL];generalize p.aG=l at*;refine dA aJ func43 ntmps43 ?_;refine nG ?_;refine aY (ι:={q:Nat×Nat×List eT // (q.1<=l.length/\1<=q.2.1)/\q.2.2=kU (l.take q.1)}) (λt o i=>⟨bN t [(4,.int .i64 i.1.1),(3,.obj 1 i.1.2.1)],o.take 1++[⟨true,false,1,i.1.2.1,i.1.2.2.map (cZ .own)⟩]⟩)
  (λi=>l.length-i.1.1) ⟨(0,1,[]),by simp,by simp[kU]⟩ aC ?_
 rintro⟨⟨k,v,acc⟩,⟨hk,hv⟩,tL⟩ K1 hK1;simp only at hk hv tL;simp only[bN,cH,cG,kO,sC,cM,cW]at hK1⊢;have hk1:=vJ (k:=k);by_cases hlt:k<l.length
 .have hg:=aE hlt;have Yp:=gM lN l k hlt;simp only[lN]at Yp;have cP:=FV l[k].body (by omega);have n1:= @Pe l k hlt;have n2:= @Ma l k hlt;have lq:acc.length<=k:=by rw[tL];have:=Bb (l.take k);rw[pN]at this;omega
  have Ke:(acc.map (cZ .own)).length=acc.length:=by simp
  rw[<-tL]at n1 n2;generalize Kh:kU (l.take (k+1))=LZ at*;generalize qM l[k].body=sh at*;unfold FW at n1 n2;by_cases h1:l[k].mode=2
  .cases h2:l[k].done
   .have e2:=n1 (by simp[h2]);have W:=aA hk1 (aA hg (aA hlt (aA h1 h2)));refine wl ?_;all_goals exact hK1 _ ⟨(k+1,v,acc),⟨by simp only;omega,hv⟩,(by simp only;rw[Kh];exact e2.symm)⟩ (aS 2) (by simp only;omega)
   .by_cases h3:l[k].code=1
    .have e2:=n2 (by simp[h1,h2,h3]);have Gv:LZ.map (cZ .own)=acc.map (cZ .own)++[cZ .own sh]:=by rw[e2];simp
     simp only[cZ]at cP;clear n1 n2;generalize acc.map (cZ .own)=g at*;have W:=aA hk1 (aA hg (aA hlt (aA h1 (aA h2 (aA h3 Ke)))));refine wl ?_;all_goals exact hK1 _ ⟨(k+1,v+1,LZ),⟨by simp only;omega,by simp only;omega⟩,(by simp only;exact Kh.symm)⟩ (aS 2 (by simp[Gv])) (by simp only;omega)
    .have e2:=n1 (by simp[h3]);have W:=aA hk1 (aA hg (aA hlt (aA h1 (aA h2 h3))));refine wl ?_;all_goals exact hK1 _ ⟨(k+1,v,acc),⟨by simp only;omega,hv⟩,(by simp only;rw[Kh];exact e2.symm)⟩ (aS 2) (by simp only;omega)
  .have e2:=n1 (by simp[h1]);have W:=aA hk1 (aA hg (aA hlt h1));refine wl ?_;all_goals exact hK1 _ ⟨(k+1,v,acc),⟨by simp only;omega,hv⟩,(by simp only;rw[Kh];exact e2.symm)⟩ (aS 2) (by simp only;omega)
 .have Dm:l.take k=l:=eL (by omega);rw[Dm]at tL;subst tL;have W:=hk1;refine wl ?_;exact aO results43
def look{α:Type}(f:α->Option Int)(l:List α)(k:Nat):Option Int:=((l.take k).reverse).findSome? f
theorem Db{α:Type}(f:α->Option Int){l:List α}{k:Nat}(h:k<l.length):look f l (k+1)=match f l[k]with|some x=>some x|none=>look f l k:=by unfold look;rw[eN h,reverse_append];simp only[reverse_cons,reverse_nil,cW,singleton_append,findSome?_cons];cases f l[k]<;>rfl
theorem Dc{α:Type}(f:α->Option Int)(l:List α):look f l 0=none:=rfl
def DL(n:aX)(r:Bt):Option Int:=if r.name=n then some r.color else none
def uO(n:aX)(s:eT):Option Int:=look (DL n) s.rules s.rules.length
def aZ(ss:List eT)(n:aX):Int:=(look (uO n) ss ss.length).getD 0
theorem nT[aB prog](ss:List eT)(n:aX)(hl:ss.length<=1099511627776)(hr:∀x∈ss,x.rules.length<=1099511627776):Ok prog 144 [.sl .view 1 (ss.map (cZ .view)),.str n] (.int .i64 (aZ ss n)):=by
 unfold aZ;refine dA aJ func144 ntmps144 ?_;refine nG ?_;refine aY (ι:={k:Nat // k<=ss.length/\look (uO n) ss ss.length=look (uO n) ss k}) (λt o i=>⟨bN t [(5,.int .i64 ((i.1:Int)-1))],o⟩)
  (λi=>i.1) ⟨ss.length,by simp,rfl⟩ aC ?_
 rintro⟨k,hk,hi⟩ K1 hK1;simp only[bN,cH,cG]at hK1 hi hk⊢;cases k with
 |zero=>rw[hi,Dc];refine nG ?_;exact aO results144
 |succ k=>
  have hlt:k<ss.length:=by omega
  have hk0:(((k+1:Nat):Int)-1)=(k:Int):=by omega
  have hg:=aE hlt;have hk1:i64.wrap ((k:Int)-1)=(k:Int)-1:=by rw[wrap64]<;>omega
  have hrl:=hr _ (mL hlt);have JZ:=Db (uO n) hlt;have hsc:uO n ss[k]=look (DL n) ss[k].rules ss[k].rules.length:=rfl;have hw6:i64.wrap ((ss[k].rules.length:Int)-1)=(ss[k].rules.length:Int)-1:=by rw[wrap64]<;>omega
  rw[hk0];have W:=aA hlt (aA hg hw6);refine wl ?_;refine aY (ι:={m:Nat // m<=ss[k].rules.length/\uO n ss[k]=look (DL n) ss[k].rules m}) (λt o i=>⟨bN t [(6,.int .i64 ((i.1:Int)-1))],o⟩)
   (λi=>i.1) ⟨ss[k].rules.length,by simp,rfl⟩ aC ?_
  rintro⟨m,hm,hj⟩ K2 hK2;simp only[bN,cH,cG]at hK2 hm hj⊢;cases m with
  |zero=>rw[hj,Dc]at JZ;simp only at JZ;have W:=hk1;refine wl ?_;exact hK1 _ ⟨k,by omega,by rw[hi,JZ]⟩ aC (by simp only;omega)
  |succ m=>
   have WG:m<ss[k].rules.length:=by omega
   have Qs:(((m+1:Nat):Int)-1)=(m:Int):=by omega
   have VE:=aE WG;have UB:i64.wrap ((m:Int)-1)=(m:Int)-1:=by rw[wrap64]<;>omega
   have Yq:=Db (DL n) WG;have rF:DL n ss[k].rules[m]=if ss[k].rules[m].name=n then some ss[k].rules[m].color else none:=rfl
   rw[Qs];by_cases hn:ss[k].rules[m].name=n
   .rw [eA hn]at rF;rw[rF]at Yq;simp only at Yq;rw[hj,Yq]at JZ;simp only at JZ;rw[hi,JZ];have W:=aA hlt (aA hg (aA WG (aA VE hn)));refine wl ?_;exact aO results144
   .rw [cU hn]at rF;rw[rF]at Yq;simp only at Yq;have W:=aA hlt (aA hg (aA WG (aA VE (aA hn UB))));repeat' first|refine wg ?_|(refine sq ?_ ?_<;>intro hc<;>try exact hc.elim)|fail
    .exact absurd hc hn
    .exact hK2 _ ⟨m,by omega,by rw[hj,Yq]⟩ aC (by simp only;omega)
theorem nU[aB prog](ss:List eT)(n:aX)(hl:ss.length<=1099511627776)(hr:∀x∈ss,x.rules.length<=1099511627776):Ok prog 116 [.sl .view 1 (ss.map (cZ .view)),.str n] (.int .i64 (aZ ss n)):=by
 unfold aZ;refine dA aJ func116 ntmps116 ?_;refine nG ?_;refine aY (ι:={k:Nat // k<=ss.length/\look (uO n) ss ss.length=look (uO n) ss k}) (λt o i=>⟨bN t [(5,.int .i64 ((i.1:Int)-1))],o⟩)
  (λi=>i.1) ⟨ss.length,by simp,rfl⟩ aC ?_
 rintro⟨k,hk,hi⟩ K1 hK1;simp only[bN,cH,cG]at hK1 hi hk⊢;cases k with
 |zero=>rw[hi,Dc];refine nG ?_;exact aO results116
 |succ k=>
  have hlt:k<ss.length:=by omega
  have hk0:(((k+1:Nat):Int)-1)=(k:Int):=by omega
  have hg:=aE hlt;have hk1:i64.wrap ((k:Int)-1)=(k:Int)-1:=by rw[wrap64]<;>omega
  have hrl:=hr _ (mL hlt);have JZ:=Db (uO n) hlt;have hsc:uO n ss[k]=look (DL n) ss[k].rules ss[k].rules.length:=rfl;have hw6:i64.wrap ((ss[k].rules.length:Int)-1)=(ss[k].rules.length:Int)-1:=by rw[wrap64]<;>omega
  rw[hk0];have W:=aA hlt (aA hg hw6);refine wl ?_;refine aY (ι:={m:Nat // m<=ss[k].rules.length/\uO n ss[k]=look (DL n) ss[k].rules m}) (λt o i=>⟨bN t [(6,.int .i64 ((i.1:Int)-1))],o⟩)
   (λi=>i.1) ⟨ss[k].rules.length,by simp,rfl⟩ aC ?_
  rintro⟨m,hm,hj⟩ K2 hK2;simp only[bN,cH,cG]at hK2 hm hj⊢;cases m with
  |zero=>rw[hj,Dc]at JZ;simp only at JZ;have W:=hk1;refine wl ?_;exact hK1 _ ⟨k,by omega,by rw[hi,JZ]⟩ aC (by simp only;omega)
  |succ m=>
   have WG:m<ss[k].rules.length:=by omega
   have Qs:(((m+1:Nat):Int)-1)=(m:Int):=by omega
   have VE:=aE WG;have UB:i64.wrap ((m:Int)-1)=(m:Int)-1:=by rw[wrap64]<;>omega
   have Yq:=Db (DL n) WG;have rF:DL n ss[k].rules[m]=if ss[k].rules[m].name=n then some ss[k].rules[m].color else none:=rfl
   rw[Qs];by_cases hn:ss[k].rules[m].name=n
   .rw [eA hn]at rF;rw[rF]at Yq;simp only at Yq;rw[hj,Yq]at JZ;simp only at JZ;rw[hi,JZ];have W:=aA hlt (aA hg (aA WG (aA VE hn)));refine wl ?_;exact aO results116
   .rw [cU hn]at rF;rw[rF]at Yq;simp only at Yq;have W:=aA hlt (aA hg (aA WG (aA VE (aA hn UB))));repeat' first|refine wg ?_|(refine sq ?_ ?_<;>intro hc<;>try exact hc.elim)|fail
    .exact absurd hc hn
    .exact hK2 _ ⟨m,by omega,by rw[hj,Yq]⟩ aC (by simp only;omega)
theorem lV[aB prog](b:aV)(n:aX)(hl:b.nodes.length<=1099511627776):Ok prog 143 [.agg (aH .view b),.str n] (.int .i64 (aN b n)):=by
 refine dA aJ func143 ntmps143 ?_;refine bI ?_;refine aY (ι:={k:Nat // k<=b.nodes.length}) (λt o i=>⟨bN t [(11,.int .i64 i.1),(5,.int .i64 ((((b.nodes.take i.1).filter λx=>decide (x.name=n)).length:Nat):Int)),(7,.undef)],o.take 1⟩)
  (λi=>b.nodes.length-i.1) ⟨0,by simp⟩ aC ?_
 rintro⟨k,hk⟩ K1 hK1;simp only[bN,cH,cG,kO,sC]at hK1⊢;have hk1:=vJ (k:=k);have Ip:((b.nodes.take k).filter λx=>decide (x.name=n)).length<=b.nodes.length:=by refine fW (lP _ _) ?_;simp;omega
 by_cases hlt:k<b.nodes.length
 .have hg:=aE hlt;have hst:=LD b n k hlt;generalize ((b.nodes.take k).filter λx=>decide (x.name=n)).length=c at*;have hc1:i64.wrap ((c:Int)+1)=((c+1:Nat):Int):=by rw[wrap64]<;>omega
  by_cases hn:b.nodes[k].name=n
  .have hnb:(b.nodes[k].name == n)=true:=by simpa using hn
   rw[eA hn]at hst;have W:=aA hk1 (aA hc1 (aA hg (aA hlt hnb)));refine we ?_;all_goals exact hK1 _ ⟨k+1,by omega⟩ (aS 1 (by simp) (by simp[hst]) (by simp) (by simp)) (by simp only;omega)
  .have hnb:(b.nodes[k].name == n)=false:=by simpa using hn
   rw[cU hn]at hst;have W:=aA hk1 (aA hc1 (aA hg (aA hlt hnb)));refine we ?_;all_goals exact hK1 _ ⟨k+1,by omega⟩ (aS 1 (by simp) (by simp[hst]) (by simp) (by simp)) (by simp only;omega)
 .have Dm:b.nodes.take k=b.nodes:=eL (by omega);rw[Dm];have W:=hk1;refine we ?_;all_goals try(refine aP ?_;simp[aT,results143,aN])
theorem lW[aB prog](b:aV)(n:aX)(hl:b.nodes.length<=1099511627776):Ok prog 115 [.agg (aH .view b),.str n] (.int .i64 (aN b n)):=by
 refine dA aJ func115 ntmps115 ?_;refine bI ?_;refine aY (ι:={k:Nat // k<=b.nodes.length}) (λt o i=>⟨bN t [(6,.int .i64 i.1),(5,.int .i64 ((((b.nodes.take i.1).filter λx=>decide (x.name=n)).length:Nat):Int))],o⟩)
  (λi=>b.nodes.length-i.1) ⟨0,by simp⟩ aC ?_
 rintro⟨k,hk⟩ K1 hK1;simp only[bN,cH,cG]at hK1⊢;have hk1:=vJ (k:=k);by_cases hlt:k<b.nodes.length
 .have hg:=aE hlt;have hst:=LD b n k hlt;have Ip:((b.nodes.take k).filter λx=>decide (x.name=n)).length<=b.nodes.length:=by
   refine fW (lP _ _) ?_;simp;omega
  generalize ((b.nodes.take k).filter λx=>decide (x.name=n)).length=c at*;have hc1:i64.wrap ((c:Int)+1)=((c+1:Nat):Int):=by rw[wrap64]<;>omega
  by_cases hn:b.nodes[k].name=n
  .have hnb:(b.nodes[k].name == n)=true:=by simpa using hn
   rw[eA hn]at hst;have W:=aA hk1 (aA hc1 (aA hg (aA hlt hnb)));refine we ?_;all_goals exact hK1 _ ⟨k+1,by omega⟩ (aC (by simp) (by simp[hst])) (by simp only;omega)
  .have hnb:(b.nodes[k].name == n)=false:=by simpa using hn
   rw[cU hn]at hst;have W:=aA hk1 (aA hc1 (aA hg (aA hlt hnb)));refine we ?_;all_goals exact hK1 _ ⟨k+1,by omega⟩ (aC (by simp) (by simp[hst])) (by simp only;omega)
 .have Dm:b.nodes.take k=b.nodes:=eL (by omega);rw[Dm];have W:=hk1;refine we ?_;all_goals try(refine aP ?_;simp[aT,results115,aN])
def tN:aX:=[99,111,117,110,116,32]
def yJ:aX:=[108,111,111,107,32]
def FX:aX:=[115,97,121,32]
def bH(b:aV)(ss:List eT)(x:iA):aV×aX×aX:=
 if x.op=1 then(b,x.text.map oH,[])
 else if x.op=2 then(if (1<=b.nodes.length/\b.nodes.length<=39)/\bP x.text=true then({b with nodes:=b.nodes++[⟨x.text,[],0,[]⟩]},[],[])else(b,[],[]))
 else if x.op=3 then(b,[],tN++x.text++[32]++Lib.itoa (aN b x.text))
 else if x.op=4 then(b,[],yJ++x.text++[32]++Lib.itoa (aZ ss x.text))
 else if x.op=5 then(b,[],FX++x.text)
 else(b,[],[])
theorem Mf[aB prog](t:jH)(hs:t.rest.length<=274877906):Ok prog 110 [.agg (bW t)] (.sl .own 4 ((jA t).map (bE .own))):=by
 obtain⟨s⟩:=t;simp only at hs;cases s with
 |nil=>simp only[jA,true_or,eI,map_nil];refine dA aJ func110 ntmps110 ?_;refine bI ?_;exact aO results110
 |cons c r=>
  by_cases hc:c=60
  .subst hc;have he:jA ⟨60::r⟩=[]:=by simp[jA]
   rw[he];refine dA aJ func110 ntmps110 ?_;refine bI ?_;exact aO results110
  .have he:jA ⟨c::r⟩=[⟨3,[],[],c::r⟩]:=by simp[jA,hc]
   rw[he];have hn:¬((c.toNat:Int)=60):=λh=>hc (AG.1 (by simp;omega))
   refine dA aJ func110 ntmps110 ?_;have W:=hn;refine we ?_;exact aO results110
theorem Ch[aB prog](t:jH)(hs:t.rest.length<=274877906):Ok prog 78 [.agg (bW t)] (.sl .own 4 ((jA t).map (bE .own))):=by
 obtain⟨s⟩:=t;simp only at hs;cases s with
 |nil=>simp only[jA,true_or,eI,map_nil];refine dA aJ func78 ntmps78 ?_;refine bI ?_;exact aO results78
 |cons c r=>
  by_cases hc:c=60
  .subst hc;have he:jA ⟨60::r⟩=[]:=by simp[jA]
   rw[he];refine dA aJ func78 ntmps78 ?_;refine bI ?_;exact aO results78
  .have he:jA ⟨c::r⟩=[⟨3,[],[],c::r⟩]:=by simp[jA,hc]
   rw[he];have hn:¬((c.toNat:Int)=60):=λh=>hc (AG.1 (by simp;omega))
   refine dA aJ func78 ntmps78 ?_;have W:=hn;refine we ?_;exact aO results78
def Bo(p:aW):aW:=if p.ended=true then p else {p with queue:=p.queue++jA p.tok,tok:=⟨[]⟩,ended:=true}
theorem Uk(t:jH):(jA t).length<=1:=by unfold jA;split<;>simp
theorem MI[aB prog](a:aW)(hs:aK a<=274877906):Ok prog 101 [.agg (aL .view a)] (.agg (aL .own (Bo a))):=by
 have c1:=gZ a (by omega);simp only[aK,dL,nE]at hs;have c2:=Ch a.tok (by omega);simp only[bW]at c2;have hE:=Uk a.tok;simp only[aL]at c1;unfold Bo;generalize jA a.tok=g at*;by_cases he:a.ended=true
 .rw [eA he];simp only[he]at c1;refine dA aJ func101 ntmps101 ?_;have W:=he;refine we ?_;all_goals try(refine aP ?_;simp[aT,results101])
  all_goals exact he
 .rw [cU he];replace he:a.ended=false:=by simpa using he
  simp only[he]at c1;refine dA aJ func101 ntmps101 ?_;have W:=he;refine we ?_;all_goals try(refine aP ?_;simp[aT,results101])
  all_goals (rw[<-oT];exact nD _)
end Go.Proofs.YtjkdolejalpflaaGreatDoor
