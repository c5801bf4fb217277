/- Proved here: steps towards the statement of this claim. No condition. -/
import Derived.Test.YtjmpjmilndkgfaaGreatDoorZQS1
import Derived.Test.YtjmpjmilndkgfaaGreatDoorZQMK2
set_option linter.all false
set_option maxRecDepth 4000
set_option maxHeartbeats 4000000
namespace Go.Proofs.YtjmpjmilndkgfaaGreatDoor
open Go.Aw Proofs.Tryz List IntKind
theorem JR [aC prog] [dD prog] [eH prog] (s:bF) (hl:s.length<=1073741824):Ok prog 212 [.str s] (.agg (eG .own (tV s))):=by
 have cS:Ok prog 209 [.str s,.int .u8 59] (.sl .own 1 ((dF 59 s).map bW)):=vV s 59 (by omega);have hsm:=AX 59 s;have hsl:=iV 59 s;have hcn:s.count 59<=s.length:=pB;unfold tV;generalize dF 59 s=l at *;have OI:l.length<=1073741825:=by omega
 simp only [eG];refine bR aD func212 ntmps212 ?_;refine bH ?_;refine aL (ι:={q:Nat×Nat×List Ew // (q.1<=l.length/\1<=q.2.1)/\q.2.2=mD (l.take q.1)}) (λt o i=>⟨bD t [(5,.int .i64 i.1.1),(9,.undef)],o.take 1++[⟨true,true,1,0,[[.obj 3 i.1.2.1]]⟩,⟨true,false,1,1,l.map bW⟩,⟨true,false,2,i.1.2.1,i.1.2.2.map zG⟩]⟩)
  (λi=>l.length - i.1.1) ⟨(0,1,[]),by simp,by simp [mD]⟩ (tN 1 0 0 (ob:=⟨true,true,1,0,[[.sl .own 2 []]]⟩) (by rfl) (by rfl) (by rfl) (by simp) (by rfl) (by rfl) (by simp) (by simp [xS,rt,iU])) ?_
 rintro ⟨⟨k,v,acc⟩,⟨hk,hv⟩,vW⟩ K1 hK1;simp only at hk hv vW;simp only [bD,cW,cU,eM,gR,eI,eN] at hK1⊢;have hk1:=oW (k:=k);have OE:(acc.map zG).length=acc.length:=by simp
 by_cases hlt:k < l.length
 .have hg:=aE hlt;by_cases h8:acc.length < 8
  .have h8i:((acc.length:Int) < 8):=by omega
   have M4:=dZ eX l k hlt;simp only [eX] at M4;have cC:Ok prog 209 [.str l[k],.int .u8 58] (.sl .own 1 ((dF 58 l[k]).map bW)):=vV l[k] 58 (by omega);have cN:=fU (LJ l[k]) (by simp [LJ];omega);have cP:=NH (Df l[k]) (by simp [Df];omega);have n1:= @QQ l k hlt;have n2:=λr=> @QR l k r hlt
   have r1:= @Gg l[k];have r2:= @Na l[k];have r3:=λv=> @QO l[k] v
   have r4:=λv=> @QP l[k] v
   have h2:=aK9 l[k];have hsg:=iV 58 l[k];have hcg:l[k].count 58<=l[k].length:=pB;rw [<-vW] at n1 n2;generalize OJ:mD (l.take (k+1))=QT at *;generalize hrl:tT l[k]=ru at *;generalize LJ l[k]=ky at *;generalize Df l[k]=vl at *;generalize dF 58 l[k]=ps at *;rcases h2 with h2|⟨h2,hr⟩
   .subst h2;simp only [mT,EV,bW] at cC;cases hn:dA ky with
    |false=>rw [hn] at cN;have e2:=n1 (r2 hn);clear r1 r2 r3 r4 n1 n2;have W:=aA hk1 (aA hg (aA hlt h8i));refine we ?_;exact hK1 _ ⟨(k+1,v,acc),⟨by simp only;omega,hv⟩,(by simp only;rw [OJ];exact e2.symm)⟩ (aW 4) (by simp only;omega)
    |true=>
     rw [hn] at cN;cases hp:Aa vl with
     |none=>rw [tO hp] at cP;have e2:=n1 (r1 hp);clear r1 r2 r3 r4 n1 n2;have W:=aA hk1 (aA hg (aA hlt h8i));refine we ?_;exact hK1 _ ⟨(k+1,v,acc),⟨by simp only;omega,hv⟩,(by simp only;rw [OJ];exact e2.symm)⟩ (aW 4) (by simp only;omega)
     |some x=>
      rw [Eb hp] at cP;have cR:=gM x 1 999;by_cases hx:1<=x/\x<=999
      .have hb:(decide ((1:Int)<=x)&&decide (x<=(999:Int)))=true:=by simp;omega
       rw [hb] at cR;have e2:=n2 _ (r4 x hp hn hx) h8;clear r1 r2 r3 r4 n1 n2;have hps:QT.map zG=acc.map zG++[zG ⟨ky,x⟩]:=by rw [e2];simp
       have W:=aA hk1 (aA hg (aA hlt (aA h8i OE)));refine we ?_;all_goals exact hK1 _ ⟨(k+1,v+1,QT),⟨by simp only;omega,by simp only;omega⟩,(by simp only;exact OJ.symm)⟩ (aW 4 (by simp [hps])) (by simp only;omega)
      .have hb:(decide ((1:Int)<=x)&&decide (x<=(999:Int)))=false:=by simp only [AI,AD];omega
       rw [hb] at cR;have e2:=n1 (r3 x hp hx);clear r1 r2 r3 r4 n1 n2;have W:=aA hk1 (aA hg (aA hlt h8i));refine we ?_;exact hK1 _ ⟨(k+1,v,acc),⟨by simp only;omega,hv⟩,(by simp only;rw [OJ];exact e2.symm)⟩ (aW 4) (by simp only;omega)
   .have e2:=n1 hr;have h2i:¬((ps.length:Int)=2):=by omega
    clear r1 r2 r3 r4 n1 n2 cN cP;have W:=aA hk1 (aA hg (aA hlt (aA h8i h2i)));refine we ?_;exact hK1 _ ⟨(k+1,v,acc),⟨by simp only;omega,hv⟩,(by simp only;rw [OJ];exact e2.symm)⟩ (aW 4) (by simp only;omega)
  .have h8i:¬((acc.length:Int) < 8):=by omega
   have hf:=QS (l:=l) (k:=k) (by rw [<-vW];exact h8);rw [<-vW] at hf;rw [hf];have W:=aA hk1 (aA hg (aA hlt (aA h8i OE)));refine we ?_;exact aK results212
 .have htk:l.take k=l:=cX (by omega);rw [htk] at vW;subst vW;have W:=hk1;refine we ?_;exact aK results212
def JS (x:kJ):Bool:=decide (x.mode=2)&&x.done&&decide (x.code=1)
def nJ (l:List kJ):List gP:=(l.filter JS).map λx=>tV x.body
def dI (p:aI):List gP:=nJ p.aB
theorem QU {l:List kJ} {k:Nat} (h:k < l.length) (ho:JS l[k]=true):nJ (l.take (k+1))=nJ (l.take k)++[tV l[k].body]:=by unfold nJ;rw [eA h,filter_append,rB];simp [ho]
theorem Vx {l:List kJ} {k:Nat} (h:k < l.length) (ho:JS l[k]=false):nJ (l.take (k+1))=nJ (l.take k):=by unfold nJ;rw [eA h,filter_append];simp [ho]
theorem Ee (l:List kJ):(nJ l).length<=l.length:=by unfold nJ;rw [lR];exact oB _ _
theorem NK [aC prog] [dD prog] [eH prog] [qQ prog] (p:aI) (hs:bV gQ p.aB<=1073741824):Ok prog 230 [.agg (aJ .view p)] (.sl .own 1 ((dI p).map (eG .own))):=by
 simp only [bV] at hs;unfold dI;simp only [aJ];generalize p.aB=l at *;refine bR aD func230 ntmps230 ?_;refine gJ ?_;refine aL (ι:={q:Nat×Nat×List gP // (q.1<=l.length/\1<=q.2.1)/\q.2.2=nJ (l.take q.1)}) (λt o i=>⟨bD t [(10,.int .i64 i.1.1),(3,.obj 1 i.1.2.1)],o.take 1++[⟨true,false,1,i.1.2.1,i.1.2.2.map (eG .own)⟩]⟩)
  (λi=>l.length - i.1.1) ⟨(0,1,[]),by simp,by simp [nJ]⟩ aH ?_
 rintro ⟨⟨k,v,acc⟩,⟨hk,hv⟩,vW⟩ K1 hK1;simp only at hk hv vW;simp only [bD,cW,cU,eM,gR,eI,eN] at hK1⊢;have hk1:=oW (k:=k);by_cases hlt:k < l.length
 .have hg:=aE hlt;have M4:=dZ gQ l k hlt;simp only [gQ] at M4;have cP:=JQ l[k].body (by omega);have n1:= @Vx l k hlt;have n2:= @QU l k hlt;have hal:acc.length<=k:=by rw [vW];have:=Ee (l.take k);rw [oT] at this;omega
  have OE:(acc.map (eG .own)).length=acc.length:=by simp
  rw [<-vW] at n1 n2;generalize OJ:nJ (l.take (k+1))=QT at *;generalize tV l[k].body=sh at *;unfold JS at n1 n2;by_cases h1:l[k].mode=2
  .cases h2:l[k].done
   .have e2:=n1 (by simp [h2]);have W:=aA hk1 (aA hg (aA hlt (aA h1 h2)));refine wl ?_;all_goals exact hK1 _ ⟨(k+1,v,acc),⟨by simp only;omega,hv⟩,(by simp only;rw [OJ];exact e2.symm)⟩ (aW 2) (by simp only;omega)
   .by_cases h3:l[k].code=1
    .have e2:=n2 (by simp [h1,h2,h3]);have hps:QT.map (eG .own)=acc.map (eG .own)++[eG .own sh]:=by rw [e2];simp
     simp only [eG] at cP;clear n1 n2;generalize acc.map (eG .own)=g at *;have W:=aA hk1 (aA hg (aA hlt (aA h1 (aA h2 (aA h3 OE)))));refine wl ?_;all_goals exact hK1 _ ⟨(k+1,v+1,QT),⟨by simp only;omega,by simp only;omega⟩,(by simp only;exact OJ.symm)⟩ (aW 2 (by simp [hps])) (by simp only;omega)
    .have e2:=n1 (by simp [h3]);have W:=aA hk1 (aA hg (aA hlt (aA h1 (aA h2 h3))));refine wl ?_;all_goals exact hK1 _ ⟨(k+1,v,acc),⟨by simp only;omega,hv⟩,(by simp only;rw [OJ];exact e2.symm)⟩ (aW 2) (by simp only;omega)
  .have e2:=n1 (by simp [h1]);have W:=aA hk1 (aA hg (aA hlt h1));refine wl ?_;all_goals exact hK1 _ ⟨(k+1,v,acc),⟨by simp only;omega,hv⟩,(by simp only;rw [OJ];exact e2.symm)⟩ (aW 2) (by simp only;omega)
 .have htk:l.take k=l:=cX (by omega);rw [htk] at vW;subst vW;have W:=hk1;refine wl ?_;exact aK results230
theorem EB [aC prog] [dD prog] [eH prog] (p:aI) (hs:bV gQ p.aB<=1073741824):Ok prog 162 [.agg (aJ .view p)] (.sl .own 1 ((dI p).map (eG .own))):=by
 simp only [bV] at hs;unfold dI;simp only [aJ];generalize p.aB=l at *;refine bR aD func162 ntmps162 ?_;refine gJ ?_;refine aL (ι:={q:Nat×Nat×List gP // (q.1<=l.length/\1<=q.2.1)/\q.2.2=nJ (l.take q.1)}) (λt o i=>⟨bD t [(4,.int .i64 i.1.1),(3,.obj 1 i.1.2.1)],o.take 1++[⟨true,false,1,i.1.2.1,i.1.2.2.map (eG .own)⟩]⟩)
  (λi=>l.length - i.1.1) ⟨(0,1,[]),by simp,by simp [nJ]⟩ aH ?_
 rintro ⟨⟨k,v,acc⟩,⟨hk,hv⟩,vW⟩ K1 hK1;simp only at hk hv vW;simp only [bD,cW,cU,eM,gR,eI,eN] at hK1⊢;have hk1:=oW (k:=k);by_cases hlt:k < l.length
 .have hg:=aE hlt;have M4:=dZ gQ l k hlt;simp only [gQ] at M4;have cP:=JR l[k].body (by omega);have n1:= @Vx l k hlt;have n2:= @QU l k hlt;have hal:acc.length<=k:=by rw [vW];have:=Ee (l.take k);rw [oT] at this;omega
  have OE:(acc.map (eG .own)).length=acc.length:=by simp
  rw [<-vW] at n1 n2;generalize OJ:nJ (l.take (k+1))=QT at *;generalize tV l[k].body=sh at *;unfold JS at n1 n2;by_cases h1:l[k].mode=2
  .cases h2:l[k].done
   .have e2:=n1 (by simp [h2]);have W:=aA hk1 (aA hg (aA hlt (aA h1 h2)));refine wl ?_;all_goals exact hK1 _ ⟨(k+1,v,acc),⟨by simp only;omega,hv⟩,(by simp only;rw [OJ];exact e2.symm)⟩ (aW 2) (by simp only;omega)
   .by_cases h3:l[k].code=1
    .have e2:=n2 (by simp [h1,h2,h3]);have hps:QT.map (eG .own)=acc.map (eG .own)++[eG .own sh]:=by rw [e2];simp
     simp only [eG] at cP;clear n1 n2;generalize acc.map (eG .own)=g at *;have W:=aA hk1 (aA hg (aA hlt (aA h1 (aA h2 (aA h3 OE)))));refine wl ?_;all_goals exact hK1 _ ⟨(k+1,v+1,QT),⟨by simp only;omega,by simp only;omega⟩,(by simp only;exact OJ.symm)⟩ (aW 2 (by simp [hps])) (by simp only;omega)
    .have e2:=n1 (by simp [h3]);have W:=aA hk1 (aA hg (aA hlt (aA h1 (aA h2 h3))));refine wl ?_;all_goals exact hK1 _ ⟨(k+1,v,acc),⟨by simp only;omega,hv⟩,(by simp only;rw [OJ];exact e2.symm)⟩ (aW 2) (by simp only;omega)
  .have e2:=n1 (by simp [h1]);have W:=aA hk1 (aA hg (aA hlt h1));refine wl ?_;all_goals exact hK1 _ ⟨(k+1,v,acc),⟨by simp only;omega,hv⟩,(by simp only;rw [OJ];exact e2.symm)⟩ (aW 2) (by simp only;omega)
 .have htk:l.take k=l:=cX (by omega);rw [htk] at vW;subst vW;have W:=hk1;refine wl ?_;exact aK results162
def look {α:Type} (f:α->Option Int) (l:List α) (k:Nat):Option Int:=((l.take k).reverse).findSome? f
theorem Gh {α:Type} (f:α->Option Int) {l:List α} {k:Nat} (h:k < l.length):look f l (k+1)=match f l[k] with|some x=>some x|none=>look f l k:=by unfold look;rw [eA h,reverse_append];simp only [reverse_cons,reverse_nil,eN,singleton_append,findSome?_cons];cases f l[k]<;>rfl
theorem Gi {α:Type} (f:α->Option Int) (l:List α):look f l 0=none:=rfl
def GX (n:bF) (r:Ew):Option Int:=if r.name=n then some r.color else none
def yG (n:bF) (s:gP):Option Int:=look (GX n) s.rules s.rules.length
def bJ (ss:List gP) (n:bF):Int:=(look (yG n) ss ss.length).getD 0
theorem qV [aC prog] (ss:List gP) (n:bF) (hl:ss.length<=1099511627776) (hr:∀x∈ss,x.rules.length<=1099511627776):Ok prog 289 [.sl .view 1 (ss.map (eG .view)),.str n] (.int .i64 (bJ ss n)):=by
 unfold bJ;refine bR aD func289 ntmps289 ?_;refine gJ ?_;refine aL (ι:={k:Nat // k<=ss.length/\look (yG n) ss ss.length=look (yG n) ss k}) (λt o i=>⟨bD t [(5,.int .i64 ((i.1:Int) - 1))],o⟩)
  (λi=>i.1) ⟨ss.length,by simp,rfl⟩ aH ?_
 rintro ⟨k,hk,hi⟩ K1 hK1;simp only [bD,cW,cU] at hK1 hi hk⊢;cases k with
 |zero=>rw [hi,Gi];refine gJ ?_;exact aK results289
 |succ k=>
  have hlt:k < ss.length:=by omega
  have hk0:(((k+1:Nat):Int) - 1)=(k:Int):=by omega
  have hg:=aE hlt;have hk1:i64.wrap ((k:Int) - 1)=(k:Int) - 1:=by rw [wrap64]<;>omega
  have hrl:=hr _ (fR hlt);have M9:=Gh (yG n) hlt;have hsc:yG n ss[k]=look (GX n) ss[k].rules ss[k].rules.length:=rfl;have hw6:i64.wrap ((ss[k].rules.length:Int) - 1)=(ss[k].rules.length:Int) - 1:=by rw [wrap64]<;>omega
  rw [hk0];have W:=aA hlt (aA hg hw6);refine wl ?_;refine aL (ι:={m:Nat // m<=ss[k].rules.length/\yG n ss[k]=look (GX n) ss[k].rules m}) (λt o i=>⟨bD t [(6,.int .i64 ((i.1:Int) - 1))],o⟩)
   (λi=>i.1) ⟨ss[k].rules.length,by simp,rfl⟩ aH ?_
  rintro ⟨m,hm,hj⟩ K2 hK2;simp only [bD,cW,cU] at hK2 hm hj⊢;cases m with
  |zero=>rw [hj,Gi] at M9;simp only at M9;have W:=hk1;refine wl ?_;exact hK1 _ ⟨k,by omega,by rw [hi,M9]⟩ aH (by simp only;omega)
  |succ m=>
   have UC:m < ss[k].rules.length:=by omega
   have Zl:(((m+1:Nat):Int) - 1)=(m:Int):=by omega
   have hgm:=aE UC;have uu:i64.wrap ((m:Int) - 1)=(m:Int) - 1:=by rw [wrap64]<;>omega
   have N7:=Gh (GX n) UC;have uY:GX n ss[k].rules[m]=if ss[k].rules[m].name=n then some ss[k].rules[m].color else none:=rfl
   rw [Zl];by_cases hn:ss[k].rules[m].name=n
   .rw [eK hn] at uY;rw [uY] at N7;simp only at N7;rw [hj,N7] at M9;simp only at M9;rw [hi,M9];have W:=aA hlt (aA hg (aA UC (aA hgm hn)));refine wl ?_;exact aK results289
   .rw [cY hn] at uY;rw [uY] at N7;simp only at N7;have W:=aA hlt (aA hg (aA UC (aA hgm (aA hn uu))));repeat' first|refine wg ?_|(refine sq ?_ ?_<;>intro hc<;>try exact hc.elim)|fail
    .exact absurd hc hn
    .exact hK2 _ ⟨m,by omega,by rw [hj,N7]⟩ aH (by simp only;omega)
theorem qW [aC prog] (ss:List gP) (n:bF) (hl:ss.length<=1099511627776) (hr:∀x∈ss,x.rules.length<=1099511627776):Ok prog 260 [.sl .view 1 (ss.map (eG .view)),.str n] (.int .i64 (bJ ss n)):=by
 unfold bJ;refine bR aD func260 ntmps260 ?_;refine gJ ?_;refine aL (ι:={k:Nat // k<=ss.length/\look (yG n) ss ss.length=look (yG n) ss k}) (λt o i=>⟨bD t [(5,.int .i64 ((i.1:Int) - 1))],o⟩)
  (λi=>i.1) ⟨ss.length,by simp,rfl⟩ aH ?_
 rintro ⟨k,hk,hi⟩ K1 hK1;simp only [bD,cW,cU] at hK1 hi hk⊢;cases k with
 |zero=>rw [hi,Gi];refine gJ ?_;exact aK results260
 |succ k=>
  have hlt:k < ss.length:=by omega
  have hk0:(((k+1:Nat):Int) - 1)=(k:Int):=by omega
  have hg:=aE hlt;have hk1:i64.wrap ((k:Int) - 1)=(k:Int) - 1:=by rw [wrap64]<;>omega
  have hrl:=hr _ (fR hlt);have M9:=Gh (yG n) hlt;have hsc:yG n ss[k]=look (GX n) ss[k].rules ss[k].rules.length:=rfl;have hw6:i64.wrap ((ss[k].rules.length:Int) - 1)=(ss[k].rules.length:Int) - 1:=by rw [wrap64]<;>omega
  rw [hk0];have W:=aA hlt (aA hg hw6);refine wl ?_;refine aL (ι:={m:Nat // m<=ss[k].rules.length/\yG n ss[k]=look (GX n) ss[k].rules m}) (λt o i=>⟨bD t [(6,.int .i64 ((i.1:Int) - 1))],o⟩)
   (λi=>i.1) ⟨ss[k].rules.length,by simp,rfl⟩ aH ?_
  rintro ⟨m,hm,hj⟩ K2 hK2;simp only [bD,cW,cU] at hK2 hm hj⊢;cases m with
  |zero=>rw [hj,Gi] at M9;simp only at M9;have W:=hk1;refine wl ?_;exact hK1 _ ⟨k,by omega,by rw [hi,M9]⟩ aH (by simp only;omega)
  |succ m=>
   have UC:m < ss[k].rules.length:=by omega
   have Zl:(((m+1:Nat):Int) - 1)=(m:Int):=by omega
   have hgm:=aE UC;have uu:i64.wrap ((m:Int) - 1)=(m:Int) - 1:=by rw [wrap64]<;>omega
   have N7:=Gh (GX n) UC;have uY:GX n ss[k].rules[m]=if ss[k].rules[m].name=n then some ss[k].rules[m].color else none:=rfl
   rw [Zl];by_cases hn:ss[k].rules[m].name=n
   .rw [eK hn] at uY;rw [uY] at N7;simp only at N7;rw [hj,N7] at M9;simp only at M9;rw [hi,M9];have W:=aA hlt (aA hg (aA UC (aA hgm hn)));refine wl ?_;exact aK results260
   .rw [cY hn] at uY;rw [uY] at N7;simp only at N7;have W:=aA hlt (aA hg (aA UC (aA hgm (aA hn uu))));repeat' first|refine wg ?_|(refine sq ?_ ?_<;>intro hc<;>try exact hc.elim)|fail
    .exact absurd hc hn
    .exact hK2 _ ⟨m,by omega,by rw [hj,N7]⟩ aH (by simp only;omega)
theorem nY [aC prog] (b:bC) (n:bF) (hl:b.nodes.length<=1099511627776):Ok prog 288 [.agg (aS .view b),.str n] (.int .i64 (aX b n)):=by
 refine bR aD func288 ntmps288 ?_;refine bH ?_;refine aL (ι:={k:Nat // k<=b.nodes.length}) (λt o i=>⟨bD t [(11,.int .i64 i.1),(5,.int .i64 ((((b.nodes.take i.1).filter λx=>decide (x.name=n)).length:Nat):Int)),(7,.undef)],o.take 1⟩)
  (λi=>b.nodes.length - i.1) ⟨0,by simp⟩ aH ?_
 rintro ⟨k,hk⟩ K1 hK1;simp only [bD,cW,cU,eM,gR] at hK1⊢;have hk1:=oW (k:=k);have zT:((b.nodes.take k).filter λx=>decide (x.name=n)).length<=b.nodes.length:=by refine lO (oB _ _) ?_;simp;omega
 by_cases hlt:k < b.nodes.length
 .have hg:=aE hlt;have hst:=QF b n k hlt;generalize ((b.nodes.take k).filter λx=>decide (x.name=n)).length=c at *;have hc1:i64.wrap ((c:Int)+1)=((c+1:Nat):Int):=by rw [wrap64]<;>omega
  by_cases hn:b.nodes[k].name=n
  .have hnb:(b.nodes[k].name == n)=true:=by simpa using hn
   rw [eK hn] at hst;have W:=aA hk1 (aA hc1 (aA hg (aA hlt hnb)));refine we ?_;all_goals exact hK1 _ ⟨k+1,by omega⟩ (aW 1 (by simp) (by simp [hst]) (by simp) (by simp)) (by simp only;omega)
  .have hnb:(b.nodes[k].name == n)=false:=by simpa using hn
   rw [cY hn] at hst;have W:=aA hk1 (aA hc1 (aA hg (aA hlt hnb)));refine we ?_;all_goals exact hK1 _ ⟨k+1,by omega⟩ (aW 1 (by simp) (by simp [hst]) (by simp) (by simp)) (by simp only;omega)
 .have htk:b.nodes.take k=b.nodes:=cX (by omega);rw [htk];have W:=hk1;refine we ?_;all_goals try(refine aR ?_;simp [aG,results288,aX])
theorem nZ [aC prog] (b:bC) (n:bF) (hl:b.nodes.length<=1099511627776):Ok prog 259 [.agg (aS .view b),.str n] (.int .i64 (aX b n)):=by
 refine bR aD func259 ntmps259 ?_;refine bH ?_;refine aL (ι:={k:Nat // k<=b.nodes.length}) (λt o i=>⟨bD t [(6,.int .i64 i.1),(5,.int .i64 ((((b.nodes.take i.1).filter λx=>decide (x.name=n)).length:Nat):Int))],o⟩)
  (λi=>b.nodes.length - i.1) ⟨0,by simp⟩ aH ?_
 rintro ⟨k,hk⟩ K1 hK1;simp only [bD,cW,cU] at hK1⊢;have hk1:=oW (k:=k);by_cases hlt:k < b.nodes.length
 .have hg:=aE hlt;have hst:=QF b n k hlt;have zT:((b.nodes.take k).filter λx=>decide (x.name=n)).length<=b.nodes.length:=by
   refine lO (oB _ _) ?_;simp;omega
  generalize ((b.nodes.take k).filter λx=>decide (x.name=n)).length=c at *;have hc1:i64.wrap ((c:Int)+1)=((c+1:Nat):Int):=by rw [wrap64]<;>omega
  by_cases hn:b.nodes[k].name=n
  .have hnb:(b.nodes[k].name == n)=true:=by simpa using hn
   rw [eK hn] at hst;have W:=aA hk1 (aA hc1 (aA hg (aA hlt hnb)));refine we ?_;all_goals exact hK1 _ ⟨k+1,by omega⟩ (aH (by simp) (by simp [hst])) (by simp only;omega)
  .have hnb:(b.nodes[k].name == n)=false:=by simpa using hn
   rw [cY hn] at hst;have W:=aA hk1 (aA hc1 (aA hg (aA hlt hnb)));refine we ?_;all_goals exact hK1 _ ⟨k+1,by omega⟩ (aH (by simp) (by simp [hst])) (by simp only;omega)
 .have htk:b.nodes.take k=b.nodes:=cX (by omega);rw [htk];have W:=hk1;refine we ?_;all_goals try(refine aR ?_;simp [aG,results259,aX])
theorem Xi [aC prog] (b:bC) (m:bF) (hs:aP b<=274877906944):Lf prog 215 [.nX (.agg (aS .own b)),.view (.str m)] (.agg (aS .own {b with opens:=oQ b m (b.opens.length - 1)})):=by
 have hn:b.nodes.length<=274877906944/\b.opens.length<=274877906944:=by simp only [aP,bV] at hs;omega
 have Ql:i64.wrap ((b.opens.length:Int) - 1)=(b.opens.length:Int) - 1:=by rw [wrap64]<;>omega
 have hw1:i64.wrap ((b.nodes.length:Int) - 1)=(b.nodes.length:Int) - 1:=by rw [wrap64]<;>omega
 have cI:=λn lo hi=>gM n lo hi
 refine qU aD func215 ntmps215 ?_;have W:=Ql;refine we ?_;refine aL (ι:={q:Int // -1<=q/\q < (b.opens.length:Int)/\oQ b m q.toNat=oQ b m (b.opens.length - 1)}) (λt o i=>⟨bD t [(5,.int .i64 i.1),(6,.undef)],o⟩) (λi=>i.1.toNat) ⟨(b.opens.length:Int) - 1,by omega,by omega,by congr 1;omega⟩ aH ?_;rintro ⟨q,hq1,hq2,Vn⟩ K1 hK1;simp only [bD,cW,cU] at hK1⊢;by_cases h1:(0:Int) < q
 .obtain ⟨k,rfl⟩:∃k:Nat,q=((k+1:Nat):Int):=⟨(q - 1).toNat,by omega⟩;have hlt:k+1 < b.opens.length:=by omega
  have hg:=aE hlt;have uu:i64.wrap (((k+1:Nat):Int) - 1)=((k:Nat):Int):=by rw [wrap64]<;>omega
  rw [show (((k+1:Nat):Int)).toNat=k+1 from by omega] at Vn;generalize hnn:b.opens[k+1]=n at *;cases hh:xJ b m n
  .rw [Ki hg hh] at Vn;by_cases h01:0<=n/\n < (b.nodes.length:Int)
   .obtain ⟨z,rfl⟩:=mN h01.1;have hm:z < b.nodes.length:=by omega
    rw [OT hm] at hh;have hgm:=aE hm;have hne:(b.nodes[z].name == m)=false:=by simpa using hh
    have c1:=cI ((z:Nat):Int) 0 ((b.nodes.length:Int) - 1);rw [show (decide ((0:Int)<=((z:Nat):Int))&&decide (((z:Nat):Int)<=(b.nodes.length:Int) - 1))=true from by simp;omega] at c1;have W:=aA hg (aA uu (aA hw1 (aA hgm (aA hm (aA hne (aA h1 hn))))));have V:=hlt;refine we ?_;all_goals exact hK1 _ ⟨((k:Nat):Int),by omega,by omega,by simpa using Vn⟩ aH (by first|omega|(simp only;omega)|(simp;omega))
   .have c1:=cI n 0 ((b.nodes.length:Int) - 1);rw [show (decide ((0:Int)<=n)&&decide (n<=(b.nodes.length:Int) - 1))=false from by simp;omega] at c1;have W:=aA hg (aA uu (aA hw1 (aA h1 hn)));have V:=hlt;refine we ?_;all_goals exact hK1 _ ⟨((k:Nat):Int),by omega,by omega,by simpa using Vn⟩ aH (by first|omega|(simp only;omega)|(simp;omega))
  .rw [Nk hg hh] at Vn;have h01:0<=n/\n < (b.nodes.length:Int):=tM λh=>by rw [ZA h] at hh;cases hh
   obtain ⟨z,rfl⟩:=mN h01.1;have hm:z < b.nodes.length:=by omega
   rw [OT hm] at hh;have hgm:=aE hm;have hne:(b.nodes[z].name == m)=true:=by simpa using hh
   have c1:=cI ((z:Nat):Int) 0 ((b.nodes.length:Int) - 1);rw [show (decide ((0:Int)<=((z:Nat):Int))&&decide (((z:Nat):Int)<=(b.nodes.length:Int) - 1))=true from by simp;omega] at c1;rw [<-Vn];have W:=aA hg (aA uu (aA hw1 (aA hgm (aA hm (aA hne (aA h1 hn))))));have V:=hlt;refine we ?_;all_goals try(refine ⟨by first|exact .inr rfl|exact .inl rfl,?_⟩;simp [gK,dN,dM,rowOf,results215,map_take])
   all_goals (rw [<-map_take];exact PY _)
 .have hq4:oQ b m (b.opens.length - 1)=b.opens:=by rw [<-Vn,show q.toNat=0 by omega];rfl
  rw [hq4];have W:=h1;refine we ?_;all_goals try(refine ⟨by first|exact .inr rfl|exact .inl rfl,?_⟩;simp [gK,dN,dM,rowOf,results215])
theorem pG [aC prog] (b:bC) (t:bP) (hs:aP b<=274877906944) (ht:bO t<=274877906944):Ok prog 164 [.agg (aS .view b),.agg (bK .view t)] (.iJ [.agg (aS .own (addToken b t).1),.int .i64 (addToken b t).2]):=by
 by_cases hk2:t.kind=2
 .have c1:=kU b hs;have c2:=Xi b t.name hs;rw [Bw hk2];obtain ⟨tk,tn,ta,tx⟩:=t;simp only at hk2 c2;subst hk2;simp only [aS] at c1 c2;generalize oQ b tn (b.opens.length - 1)=oc at *;refine bR aD func164 ntmps164 ?_;have W:=trivial;repeat' first|refine wf ?_|(refine nx ?_;refine sg (hc:=c2) (h:=?_))|(refine sq ?_ ?_<;>intro hc<;>try exact hc.elim)|fail
  exact aK results164
 have c1:=kU b hs;have c2:=TV t.name;have c3:=Ip t.attrs (by simp only [bO,bV] at ht;omega);have hn:b.nodes.length<=274877906944/\b.opens.length<=274877906944:=by simp only [aP,bV] at hs;omega
 have yz:t.attrs.length<=274877906944:=by simp only [bO,bV] at ht;omega
 have other:=FD (b:=b) hk2;have full:=Ha (b:=b) hk2;have new:=Kh (b:=b) hk2;obtain ⟨tk,tn,ta,tx⟩:=t;simp only at hk2 other full new c2 c3 yz;simp only [aS] at c1;by_cases hk:tk=1\/(tk=3/\tx≠[])
 .by_cases Ka:(40:Int)<=(b.nodes.length:Int)
  .rw [full (.inl (by omega))];rcases hk with rfl|⟨rfl,hx⟩
   .refine bR aD func164 ntmps164 ?_;have W:=Ka;refine we ?_;exact aK results164
   .refine bR aD func164 ntmps164 ?_;have W:=aA Ka hx;refine we ?_;exact aK results164
  rcases AH b.opens with ho|⟨os,lo,ho⟩
  .rw [full (.inr (.inl ho))];have hl0z:b.opens.length=0:=by rw [ho];rfl
   rcases hk with rfl|⟨rfl,hx⟩
   .refine bR aD func164 ntmps164 ?_;have W:=aA Ka hl0z;refine we ?_;exact aK results164
   .refine bR aD func164 ntmps164 ?_;have W:=aA Ka (aA hx hl0z);refine we ?_;exact aK results164
  have hne:b.opens≠[]:=by rw [ho];simp
  have hlast:b.opens.getLastD 0=lo:=by rw [ho];simp
  have hlen:b.opens.length=os.length+1:=by rw [ho];simp
  have hl0z:¬b.opens.length=0:=by omega
  have hlt:os.length < b.opens.length:=by omega
  have hg:b.opens[os.length]? =some lo:=by rw [ho];simp
  have hw:i64.wrap ((b.opens.length:Int) - 1)=((os.length:Nat):Int):=by rw [wrap64]<;>omega
  clear ho hlen;rcases hk with rfl|⟨rfl,hx⟩
  .have hnw:rW b ⟨1,tn,ta,tx⟩=⟨tn,[],lo,ta⟩:=by unfold rW;rw [hlast];simp
   cases hvo:Ej tn
   .rw [hvo] at c2;have hop:mR ⟨1,tn,ta,tx⟩=true:=by simp [mR,hvo]
    by_cases h8:(8:Int)<=(b.opens.length:Int)
    .rw [full (.inr (.inr ⟨hop,by omega⟩))];refine bR aD func164 ntmps164 ?_;have W:=aA Ka (aA hl0z h8);refine we ?_;exact aK results164
    .rw [new (.inl rfl) (by rintro (h|h|⟨_,h⟩);omega;exact hne h;omega),eK hop,hnw];obtain ⟨l0,hl0⟩:∃l,l=b.nodes++[(⟨tn,[],lo,ta⟩:gF)]:=⟨_,rfl⟩;have hap:b.nodes.map (dE .own)++[[.str tn,.str [],.int .i64 lo,.sl .own 2 (ta.map gU)]]=l0.map (dE .own):=by rw [hl0];simp
     obtain ⟨o0,ho0⟩:∃l,l=b.opens++[((b.nodes.length:Nat):Int)]:=⟨_,rfl⟩;have hao:b.opens.map jE++[[.int .i64 ((b.nodes.length:Nat):Int)]]=o0.map jE:=by rw [ho0];simp
     rw [<-hl0,<-ho0];clear hl0 ho0;refine bR aD func164 ntmps164 ?_;have W:=aA Ka (aA hl0z (aA h8 (aA hg (aA hw (aA hn (aA yz (aA hap hao)))))));have V:=hlt;refine we ?_;exact aK results164
   .rw [hvo] at c2;have hop:mR ⟨1,tn,ta,tx⟩=false:=by simp [mR,hvo]
    rw [new (.inl rfl) (by rintro (h|h|⟨h,_⟩);omega;exact hne h;(rw [hop] at h;cases h)),cY (by rw [hop];decide),hnw];obtain ⟨l0,hl0⟩:∃l,l=b.nodes++[(⟨tn,[],lo,ta⟩:gF)]:=⟨_,rfl⟩;have hap:b.nodes.map (dE .own)++[[.str tn,.str [],.int .i64 lo,.sl .own 2 (ta.map gU)]]=l0.map (dE .own):=by rw [hl0];simp
    rw [<-hl0];clear hl0;refine bR aD func164 ntmps164 ?_;have W:=aA Ka (aA hl0z (aA hg (aA hw (aA hn (aA yz hap)))));have V:=hlt;refine we ?_;exact aK results164
  .have hnw:rW b ⟨3,tn,ta,tx⟩=⟨[],tx,lo,[]⟩:=by unfold rW;rw [hlast];simp
   have hop:mR ⟨3,tn,ta,tx⟩=false:=by simp [mR]
   rw [new (.inr ⟨rfl,hx⟩) (by rintro (h|h|⟨h,_⟩);omega;exact hne h;(rw [hop] at h;cases h)),cY (by rw [hop];decide),hnw];obtain ⟨l0,hl0⟩:∃l,l=b.nodes++[(⟨[],tx,lo,[]⟩:gF)]:=⟨_,rfl⟩;have hap:b.nodes.map (dE .own)++[[.str [],.str tx,.int .i64 lo,.sl .own 2 []]]=l0.map (dE .own):=by rw [hl0];simp
   rw [<-hl0];clear hl0;have hxb:(tx != [])=true:=by simpa using hx
   refine tX aD [15] func164 ntmps164 ?_;have W:=aA Ka (aA hl0z (aA hxb (aA hg (aA hw (aA hn hap)))));have V:=hlt;repeat' first|refine wf ?_|(refine sq ?_ ?_<;>intro hc<;>try exact hc.elim)|fail
   all_goals first|(exact (hx (by assumption)).elim)|refine go_openB 6 0 3 (by rfl) (by rfl) (by rfl) ?_
   have W:=aA Ka (aA hl0z (aA hxb (aA hg (aA hw (aA hn hap)))));have V:=hlt;refine we ?_;exact aK results164
 .have h1:¬tk=1:=λh=>hk (.inl h)
  have hoth:addToken b ⟨tk,tn,ta,tx⟩=(b, -1):=other h1 (λh3=>tM λh=>hk (.inr ⟨h3,h⟩));rw [hoth];by_cases Ka:(40:Int)<=(b.nodes.length:Int)
  .refine bR aD func164 ntmps164 ?_;have W:=aA hk2 (aA h1 Ka);refine we ?_;exact aK results164
  rcases AH b.opens with ho|⟨os,lo,ho⟩
  .have hl0z:b.opens.length=0:=by rw [ho];rfl
   refine bR aD func164 ntmps164 ?_;have W:=aA hk2 (aA h1 (aA Ka hl0z));refine we ?_;exact aK results164
  have hlen:b.opens.length=os.length+1:=by rw [ho];simp
  have hl0z:¬b.opens.length=0:=by omega
  have hlt:os.length < b.opens.length:=by omega
  have hg:b.opens[os.length]? =some lo:=by rw [ho];simp
  have hw:i64.wrap ((b.opens.length:Int) - 1)=((os.length:Nat):Int):=by rw [wrap64]<;>omega
  clear ho hlen;by_cases h3:tk=3
  .have hx:tx=[]:=tM λh=>hk (.inr ⟨h3,h⟩)
   subst h3;subst hx;refine bR aD func164 ntmps164 ?_;have W:=aA Ka (aA hl0z (aA hg (aA hw hn)));have V:=hlt;refine we ?_;exact aK results164
  .refine bR aD func164 ntmps164 ?_;have W:=aA hk2 (aA h1 (aA h3 (aA Ka (aA hl0z (aA hg (aA hw hn))))));have V:=hlt;refine we ?_;exact aK results164
theorem Ul [aC prog] (l0:List bP) (k:Int) (h0:0<=k) (hl:k+(aQ jN l0:Nat)<=4611686018427387000) (OI:l0.length<=4611686018427387904) (hla:∀x∈l0,x.attrs.length<=4611686018427387904):
  Ok prog 54 [.sl .view 4 ((vF sV jN k l0).map (bK .view)),.int .i64 k] (.int .i64 (k+(aQ jN l0:Nat))):=by
 have hget:∀j (h:j < l0.length),(vF sV jN k l0)[j]? =some (sV (k+(aQ jN (l0.take j):Nat)) l0[j]):=λj h=>by rw [aE (by rw [fM];exact h),pR]
 generalize hu:vF sV jN k l0=l at *;have hlen:l.length=l0.length:=by rw [<-hu,fM]
 refine bR aD func54 ntmps54 ?_;refine gJ ?_;refine aL (ι:={j:Nat // j<=l0.length}) (λt o i=>⟨bD t [(1,.int .i64 (k+(aQ jN (l0.take i.1):Nat))),(5,.int .i64 i.1)],o⟩)
  (λi=>l0.length - i.1) ⟨0,by simp⟩ (aH (by simp) (by simp [aQ])) ?_
 rintro ⟨j,hj⟩ K1 hK1;simp only [bD,cW,cU] at hK1⊢;have hj1:i64.wrap ((j:Int)+1)=((j+1:Nat):Int):=by rw [wrap64]<;>omega
 have hle:=dK jN l0 (j+1);by_cases hlt:j < l0.length
 .have hts:=dC jN l0 j hlt;have hg:l[j]? =some (sV (k+(aQ jN (l0.take j):Nat)) l0[j]):=hget j hlt;have hcx:jN l0[j]=3+aQ (λ_=>2) l0[j].attrs:=rfl;have hax:=hla _ (fR hlt);generalize hq:k+(aQ jN (l0.take j):Nat)=q at *;have e2:q+1+1=q+2:=by omega
  simp only [sV,Am] at hg;have W:=aA hlen (aA hj1 (aA hg e2));have V:=aA hlen (aA hj1 (aA hg (aA hlt e2)));repeat' first|refine wg ?_|(refine nx ?_;first|refine sk (hc:=KS l0[j].attrs _ (by omega) (by omega) (by omega)) (h:=?_)|refine sk (hc:=kM _ (by omega)) (h:=?_))|(refine sq ?_ ?_<;>intro hc<;>try exact hc.elim)|fail
  all_goals first|(exfalso;omega)|refine hK1 _ ⟨j+1,by omega⟩ (aH (by simp) ?_) (by simp only;omega)
  all_goals (simp;omega)
 .have htk:l0.take j=l0:=cX (by omega);have hjl:j=l0.length:=by omega
  rw [htk] at *;have W:=aA hlen hj1;refine wl ?_;exact aK results54
theorem XA [aC prog] (l0:List gF) (k:Int) (h0:0<=k) (hl:k+(aQ oU l0:Nat)<=4611686018427387000) (OI:l0.length<=4611686018427387904) (hla:∀x∈l0,x.attrs.length<=4611686018427387904):
  Ok prog 100 [.sl .view 4 ((vF mkNode oU k l0).map (dE .view)),.int .i64 k] (.int .i64 (k+(aQ oU l0:Nat))):=by
 have hget:∀j (h:j < l0.length),(vF mkNode oU k l0)[j]? =some (mkNode (k+(aQ oU (l0.take j):Nat)) l0[j]):=λj h=>by rw [aE (by rw [fM];exact h),pR]
 generalize hu:vF mkNode oU k l0=l at *;have hlen:l.length=l0.length:=by rw [<-hu,fM]
 refine bR aD func100 ntmps100 ?_;refine gJ ?_;refine aL (ι:={j:Nat // j<=l0.length}) (λt o i=>⟨bD t [(1,.int .i64 (k+(aQ oU (l0.take i.1):Nat))),(5,.int .i64 i.1)],o⟩)
  (λi=>l0.length - i.1) ⟨0,by simp⟩ (aH (by simp) (by simp [aQ])) ?_
 rintro ⟨j,hj⟩ K1 hK1;simp only [bD,cW,cU] at hK1⊢;have hj1:i64.wrap ((j:Int)+1)=((j+1:Nat):Int):=by rw [wrap64]<;>omega
 have hle:=dK oU l0 (j+1);by_cases hlt:j < l0.length
 .have hts:=dC oU l0 j hlt;have hg:l[j]? =some (mkNode (k+(aQ oU (l0.take j):Nat)) l0[j]):=hget j hlt;have hcx:oU l0[j]=3+aQ (λ_=>2) l0[j].attrs:=rfl;have hax:=hla _ (fR hlt);generalize hq:k+(aQ oU (l0.take j):Nat)=q at *;have e2:q+1+1=q+2:=by omega
  have e3:q+2+1=q+3:=by omega
  simp only [mkNode,Am] at hg;have W:=aA hlen (aA hj1 (aA hg (aA e2 e3)));have V:=aA hlen (aA hj1 (aA hg (aA hlt (aA e2 e3))));repeat' first|refine wg ?_|(refine nx ?_;first|refine sk (hc:=KS l0[j].attrs _ (by omega) (by omega) (by omega)) (h:=?_)|refine sk (hc:=kM _ (by omega)) (h:=?_))|(refine sq ?_ ?_<;>intro hc<;>try exact hc.elim)|fail
  all_goals first|(exfalso;omega)|refine hK1 _ ⟨j+1,by omega⟩ (aH (by simp) ?_) (by simp only;omega)
  all_goals (simp;omega)
 .have htk:l0.take j=l0:=cX (by omega);have hjl:j=l0.length:=by omega
  rw [htk] at *;have W:=aA hlen hj1;refine wl ?_;exact aK results100
end Go.Proofs.YtjmpjmilndkgfaaGreatDoor
