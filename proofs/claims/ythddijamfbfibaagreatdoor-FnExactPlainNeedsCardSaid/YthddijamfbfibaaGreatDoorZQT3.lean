/- Proved here: steps towards the statement of this claim. No condition. -/
import Derived.Test.YthddijamfbfibaaGreatDoorZQS1
import Derived.Test.YthddijamfbfibaaGreatDoorZQQ2
import Derived.Shelf.SlSortCmp.NoneTotal
set_option linter.all false
set_option maxRecDepth 4000
set_option maxHeartbeats 4000000
namespace Go.Proofs.YthddijamfbfibaaGreatDoor
open Go.Aw Proofs.Tryz List IntKind
def Oh(p:bB):bB:=p.take (iK 58 p)
def El(p:bB):bB:=p.drop (iK 58 p+1)
def vQ(p:bB):Option FM:=match Ba (El p)with
 |some v=>if cZ (Oh p)=true/\1<=v/\v<=999 then some ⟨Oh p,v⟩else none
 |none=>none
def mU(l:List bB):List FM:=(l.filterMap vQ).take 8
def vR(s:bB):gT:=⟨mU (dE 59 s)⟩
theorem IE{p:bB}(h:Ba (El p)=none):vQ p=none:=by rw[vQ,h]
theorem Pz{p:bB}(h:cZ (Oh p)=false):vQ p=none:=by
 unfold vQ;split
 .rw [cY (by simp[h])]
 .rfl
theorem TQ{p:bB}{v:Int}(h:Ba (El p)=some v)(h1:¬(1<=v/\v<=999)):vQ p=none:=by rw[vQ,h];exact cY (λh=>h1 h.2)
theorem TR{p:bB}{v:Int}(h:Ba (El p)=some v)(hn:cZ (Oh p)=true)(h1:1<=v/\v<=999):vQ p=some ⟨Oh p,v⟩:=by rw[vQ,h];exact eK ⟨hn,h1⟩
theorem TS{l:List bB}{k:Nat}(h:k<l.length)(hr:vQ l[k]=none):mU (l.take (k+1))=mU (l.take k):=by unfold mU;rw[eJ h,filterMap_append];simp[hr]
theorem TT{l:List bB}{k:Nat}{r:FM}(h:k<l.length)(hr:vQ l[k]=some r)(h8:(mU (l.take k)).length<8):mU (l.take (k+1))=mU (l.take k)++[r]:=by unfold mU at*;rw[eJ h,filterMap_append];simp only[oT]at h8;simp only[filterMap_cons,hr,filterMap_nil];generalize (l.take k).filterMap vQ=x at*;rw[cX (l:=x++[r]) (by simp;omega),cX (l:=x) (by omega)]
theorem TU{l:List bB}{k:Nat}(h8:¬(mU (l.take k)).length<8):mU l=mU (l.take k):=by
 unfold mU at*;conv=>lhs;rw[<-oA k l,filterMap_append]
 simp only[oT]at h8;rw[BW (by omega)]
theorem oh{l:List bB}{k:Nat}(h8:¬(mU (l.take k)).length<8):mU (l.take (k+1))=mU (l.take k):=by have:= @TU (l.take (k+1)) k;rw[take_take,DS (by omega)]at this;exact this h8
theorem oo(l:List bB):(mU l).length<=8:=by unfold mU;simp;omega
theorem K7{p:bB}{x:UInt8}(hx:x∈El p)(h:x=58):Ba (El p)=none:=by obtain⟨k,hk,e⟩:=mem_iff_getElem.1 hx;refine nz hk ?_;rw[e,h];decide
theorem aPr(p:bB):(dE 58 p=[Oh p,El p])\/((dE 58 p).length≠2/\vQ p=none):=by
 rw[vP];by_cases h:iK 58 p<p.length
 .rw [eK h];by_cases h2:∀x∈El p,x≠58
  .left;rw[show p.drop (iK 58 p+1)=El p from rfl,BU _ _ h2];rfl
  .right;have⟨x,hx⟩:=Classical.not_forall.1 h2;have⟨hm,hne⟩:=Classical.not_imp.1 hx;have aTa:=Ft.1 hne;refine⟨?_,IE (K7 hm aTa)⟩;rw[show p.drop (iK 58 p+1)=El p from rfl,eN,iV];have:0<(El p).count 58:=count_pos_iff.2 (aTa▸hm);omega
 .right;rw[cY h];refine⟨by simp,IE ?_⟩;have e:El p=[]:=by unfold El;exact drop_eq_nil_of_le (by omega)
  rw[e];exact XQ (by simp)
theorem Ma[aB prog][bQ prog][dM prog][oO prog](s:bB)(hl:s.length<=1073741824):Ok prog 312 [.str s] (.agg (dZ .own (vR s))):=by
 have cS:=XT s 59 (by omega);have hsm:=BK 59 s;have hsl:=iV 59 s;have hcn:s.count 59<=s.length:=pP;unfold vR;generalize dE 59 s=l at*;have hll:l.length<=1073741825:=by omega
 simp only[dZ];refine bM aG func312 ntmps312 ?_;refine aZ ?_;refine aM (ι:={q:Nat×Nat×List FM // (q.1<=l.length/\1<=q.2.1)/\q.2.2=mU (l.take q.1)}) (λt o i=>⟨bC t [(15,.int .i64 i.1.1),(11,.undef)],o.take 1++[⟨true,true,1,0,[[.obj 3 i.1.2.1]]⟩,⟨true,false,1,1,l.map dC⟩,⟨true,false,2,i.1.2.1,i.1.2.2.map Ao⟩]⟩)
  (λi=>l.length-i.1.1) ⟨(0,1,[]),by simp,by simp[mU]⟩ (vN 1 0 0 (ob:=⟨true,true,1,0,[[.sl .own 2 []]]⟩) (by rfl) (by rfl) (by rfl) (by simp) (by rfl) (by rfl) (by simp) (by simp[xO,rt,iU])) ?_
 rintro⟨⟨k,v,acc⟩,⟨hk,hv⟩,xJ⟩ K1 hK1;simp only at hk hv xJ;simp only[bC,cW,cU,eL,fW,eA,eM]at hK1⊢;have hk1:=oQ (k:=k);by_cases hlt:k<l.length
 .have hg:=aE hlt;have hwz:=dI gJ l k hlt;simp only[gJ]at hwz;have cC:=Ab l[k] 58 (by omega);have cN:=gL (Oh l[k]) (by simp[Oh];omega);have cP:=Qs (El l[k]) (by simp[El];omega);change Ok _ _ _ (.gM [.str (Oh l[k]),.str (El l[k]),.bool (decide (iK 58 l[k]<l[k].length))])at cC;have n1:= @TS l k hlt;have n2:=λr=> @TT l k r hlt
  have n3:= @oh l k;have r1:= @IE l[k];have r2:= @Pz l[k];have r3:=λv=> @TQ l[k] v
  have r4:=λv=> @TR l[k] v
  have ha8:=oo (l.take k);rw[<-xJ]at n1 n2 n3 ha8;generalize Rk:mU (l.take (k+1))=TV at*;generalize hrl:vQ l[k]=ru at*;generalize decide (iK 58 l[k]<l[k].length)=b1 at*;generalize Oh l[k]=ky at*;generalize El l[k]=vl at*;cases hp:Ba vl with
  |none=>rw[vO hp]at cP;have e2:=n1 (r1 hp);clear r1 r2 r3 r4 n1 n2 n3;have W:=aA hk1 (aA hg hlt);refine we ?_;exact hK1 _ ⟨(k+1,v,acc),⟨by simp only;omega,hv⟩,(by simp only;rw[Rk];exact e2.symm)⟩ (aT 4) (by simp only;omega)
  |some x=>
   rw[Fh hp]at cP;cases hn:cZ ky with
   |false=>rw[hn]at cN;have e2:=n1 (r2 hn);clear r1 r2 r3 r4 n1 n2 n3;have W:=aA hk1 (aA hg hlt);refine we ?_;exact hK1 _ ⟨(k+1,v,acc),⟨by simp only;omega,hv⟩,(by simp only;rw[Rk];exact e2.symm)⟩ (aT 4) (by simp only;omega)
   |true=>
    rw[hn]at cN;have cR:=jR x 1 999;by_cases hx:1<=x/\x<=999
    .have hb:(decide ((1:Int)<=x)&&decide (x<=(999:Int)))=true:=by simp;omega
     rw[hb]at cR;have hr:=r4 x hp hn hx;by_cases h8:acc.length<8
     .have h8i:((acc.length:Int)<8):=by omega
      have e2:=n2 _ hr h8;clear r1 r2 r3 r4 n1 n2 n3;have hps:TV.map Ao=acc.map Ao++[Ao ⟨ky,x⟩]:=by rw[e2];simp
      have IQ:(acc.map Ao).length=acc.length:=by simp
      have W:=aA hk1 (aA hg (aA hlt h8i));refine we ?_;exact hK1 _ ⟨(k+1,v+1,TV),⟨by simp only;omega,by simp only;omega⟩,(by simp only;exact Rk.symm)⟩ (aT 4 (by simp[hps])) (by simp only;omega)
     .have h8i:¬((acc.length:Int)<8):=by omega
      have e2:=n3 h8;clear r1 r2 r3 r4 n1 n2 n3;have W:=aA hk1 (aA hg (aA hlt h8i));refine we ?_;exact hK1 _ ⟨(k+1,v,acc),⟨by simp only;omega,hv⟩,(by simp only;rw[Rk];exact e2.symm)⟩ (aT 4) (by simp only;omega)
    .have hb:(decide ((1:Int)<=x)&&decide (x<=(999:Int)))=false:=by simp only[sC,pA];omega
     rw[hb]at cR;have e2:=n1 (r3 x hp hx);clear r1 r2 r3 r4 n1 n2 n3;have W:=aA hk1 (aA hg hlt);refine we ?_;exact hK1 _ ⟨(k+1,v,acc),⟨by simp only;omega,hv⟩,(by simp only;rw[Rk];exact e2.symm)⟩ (aT 4) (by simp only;omega)
 .have htk:l.take k=l:=cX (by omega);rw[htk]at xJ;subst xJ;have W:=hk1;refine we ?_;exact aF results312
end Go.Proofs.YthddijamfbfibaaGreatDoor
set_option maxRecDepth 4000
set_option maxHeartbeats 4000000
namespace Go.Proofs.YthddijamfbfibaaGreatDoor
open Go.Aw Proofs.Tryz List IntKind
theorem Mc[aB prog][bQ prog][dM prog](s:bB)(hl:s.length<=1073741824):Ok prog 245 [.str s] (.agg (dZ .own (vR s))):=by
 have cS:Ok prog 115 [.str s,.int .u8 59] (.sl .own 1 ((dE 59 s).map dC)):=xG s 59 (by omega);have hsm:=BK 59 s;have hsl:=iV 59 s;have hcn:s.count 59<=s.length:=pP;unfold vR;generalize dE 59 s=l at*;have hll:l.length<=1073741825:=by omega
 simp only[dZ];refine bM aG func245 ntmps245 ?_;refine aZ ?_;refine aM (ι:={q:Nat×Nat×List FM // (q.1<=l.length/\1<=q.2.1)/\q.2.2=mU (l.take q.1)}) (λt o i=>⟨bC t [(5,.int .i64 i.1.1),(9,.undef)],o.take 1++[⟨true,true,1,0,[[.obj 3 i.1.2.1]]⟩,⟨true,false,1,1,l.map dC⟩,⟨true,false,2,i.1.2.1,i.1.2.2.map Ao⟩]⟩)
  (λi=>l.length-i.1.1) ⟨(0,1,[]),by simp,by simp[mU]⟩ (vN 1 0 0 (ob:=⟨true,true,1,0,[[.sl .own 2 []]]⟩) (by rfl) (by rfl) (by rfl) (by simp) (by rfl) (by rfl) (by simp) (by simp[xO,rt,iU])) ?_
 rintro⟨⟨k,v,acc⟩,⟨hk,hv⟩,xJ⟩ K1 hK1;simp only at hk hv xJ;simp only[bC,cW,cU,eL,fW,eA,eM]at hK1⊢;have hk1:=oQ (k:=k);have IQ:(acc.map Ao).length=acc.length:=by simp
 by_cases hlt:k<l.length
 .have hg:=aE hlt;by_cases h8:acc.length<8
  .have h8i:((acc.length:Int)<8):=by omega
   have hwz:=dI gJ l k hlt;simp only[gJ]at hwz;have cC:Ok prog 115 [.str l[k],.int .u8 58] (.sl .own 1 ((dE 58 l[k]).map dC)):=xG l[k] 58 (by omega);have cN:=fD (Oh l[k]) (by simp[Oh];omega);have cP:=Qr (El l[k]) (by simp[El];omega);have n1:= @TS l k hlt;have n2:=λr=> @TT l k r hlt
   have r1:= @IE l[k];have r2:= @Pz l[k];have r3:=λv=> @TQ l[k] v
   have r4:=λv=> @TR l[k] v
   have h2:=aPr l[k];have hsg:=iV 58 l[k];have hcg:l[k].count 58<=l[k].length:=pP;rw[<-xJ]at n1 n2;generalize Rk:mU (l.take (k+1))=TV at*;generalize hrl:vQ l[k]=ru at*;generalize Oh l[k]=ky at*;generalize El l[k]=vl at*;generalize dE 58 l[k]=ps at*;rcases h2 with h2|⟨h2,hr⟩
   .subst h2;simp only[mB,DG,dC]at cC;cases hn:cZ ky with
    |false=>rw[hn]at cN;have e2:=n1 (r2 hn);clear r1 r2 r3 r4 n1 n2;have W:=aA hk1 (aA hg (aA hlt h8i));refine we ?_;exact hK1 _ ⟨(k+1,v,acc),⟨by simp only;omega,hv⟩,(by simp only;rw[Rk];exact e2.symm)⟩ (aT 4) (by simp only;omega)
    |true=>
     rw[hn]at cN;cases hp:Ba vl with
     |none=>rw[vO hp]at cP;have e2:=n1 (r1 hp);clear r1 r2 r3 r4 n1 n2;have W:=aA hk1 (aA hg (aA hlt h8i));refine we ?_;exact hK1 _ ⟨(k+1,v,acc),⟨by simp only;omega,hv⟩,(by simp only;rw[Rk];exact e2.symm)⟩ (aT 4) (by simp only;omega)
     |some x=>
      rw[Fh hp]at cP;have cR:=gH x 1 999;by_cases hx:1<=x/\x<=999
      .have hb:(decide ((1:Int)<=x)&&decide (x<=(999:Int)))=true:=by simp;omega
       rw[hb]at cR;have e2:=n2 _ (r4 x hp hn hx) h8;clear r1 r2 r3 r4 n1 n2;have hps:TV.map Ao=acc.map Ao++[Ao ⟨ky,x⟩]:=by rw[e2];simp
       have W:=aA hk1 (aA hg (aA hlt (aA h8i IQ)));refine we ?_;all_goals exact hK1 _ ⟨(k+1,v+1,TV),⟨by simp only;omega,by simp only;omega⟩,(by simp only;exact Rk.symm)⟩ (aT 4 (by simp[hps])) (by simp only;omega)
      .have hb:(decide ((1:Int)<=x)&&decide (x<=(999:Int)))=false:=by simp only[sC,pA];omega
       rw[hb]at cR;have e2:=n1 (r3 x hp hx);clear r1 r2 r3 r4 n1 n2;have W:=aA hk1 (aA hg (aA hlt h8i));refine we ?_;exact hK1 _ ⟨(k+1,v,acc),⟨by simp only;omega,hv⟩,(by simp only;rw[Rk];exact e2.symm)⟩ (aT 4) (by simp only;omega)
   .have e2:=n1 hr;have h2i:¬((ps.length:Int)=2):=by omega
    clear r1 r2 r3 r4 n1 n2 cN cP;have W:=aA hk1 (aA hg (aA hlt (aA h8i h2i)));refine we ?_;exact hK1 _ ⟨(k+1,v,acc),⟨by simp only;omega,hv⟩,(by simp only;rw[Rk];exact e2.symm)⟩ (aT 4) (by simp only;omega)
  .have h8i:¬((acc.length:Int)<8):=by omega
   have hf:=TU (l:=l) (k:=k) (by rw[<-xJ];exact h8);rw[<-xJ]at hf;rw[hf];have W:=aA hk1 (aA hg (aA hlt (aA h8i IQ)));refine we ?_;exact aF results245
 .have htk:l.take k=l:=cX (by omega);rw[htk]at xJ;subst xJ;have W:=hk1;refine we ?_;exact aF results245
end Go.Proofs.YthddijamfbfibaaGreatDoor
set_option maxRecDepth 4000
set_option maxHeartbeats 4000000
namespace Go.Proofs.YthddijamfbfibaaGreatDoor
open Go.Aw Proofs.Tryz List IntKind
def Md(x:pR):Bool:=decide (x.mode=2)&&x.done&&decide (x.code=1)
def nY(l:List pR):List gT:=(l.filter Md).map λx=>vR x.body
def dG(p:aI):List gT:=nY p.aC
theorem TW{l:List pR}{k:Nat}(h:k<l.length)(ho:Md l[k]=true):nY (l.take (k+1))=nY (l.take k)++[vR l[k].body]:=by unfold nY;rw[eJ h,filter_append,oY];simp[ho]
theorem XU{l:List pR}{k:Nat}(h:k<l.length)(ho:Md l[k]=false):nY (l.take (k+1))=nY (l.take k):=by unfold nY;rw[eJ h,filter_append];simp[ho]
theorem Fp(l:List pR):(nY l).length<=l.length:=by unfold nY;rw[mL];exact oB _ _
theorem Qt[aB prog][bQ prog][dM prog][oO prog](p:aI)(hs:bP lJ p.aC<=1073741824):Ok prog 268 [.agg (aJ .view p)] (.sl .own 1 ((dG p).map (dZ .own))):=by
 simp only[bP]at hs;unfold dG;simp only[aJ];generalize p.aC=l at*;refine bM aG func268 ntmps268 ?_;refine gV ?_;refine aM (ι:={q:Nat×Nat×List gT // (q.1<=l.length/\1<=q.2.1)/\q.2.2=nY (l.take q.1)}) (λt o i=>⟨bC t [(10,.int .i64 i.1.1),(3,.obj 1 i.1.2.1)],o.take 1++[⟨true,false,1,i.1.2.1,i.1.2.2.map (dZ .own)⟩]⟩)
  (λi=>l.length-i.1.1) ⟨(0,1,[]),by simp,by simp[nY]⟩ aK ?_
 rintro⟨⟨k,v,acc⟩,⟨hk,hv⟩,xJ⟩ K1 hK1;simp only at hk hv xJ;simp only[bC,cW,cU,eL,fW,eA,eM]at hK1⊢;have hk1:=oQ (k:=k);by_cases hlt:k<l.length
 .have hg:=aE hlt;have hwz:=dI lJ l k hlt;simp only[lJ]at hwz;have cP:=Ma l[k].body (by omega);have n1:= @XU l k hlt;have n2:= @TW l k hlt;have hal:acc.length<=k:=by rw[xJ];have:=Fp (l.take k);rw[oT]at this;omega
  have IQ:(acc.map (dZ .own)).length=acc.length:=by simp
  rw[<-xJ]at n1 n2;generalize Rk:nY (l.take (k+1))=TV at*;generalize vR l[k].body=sh at*;unfold Md at n1 n2;by_cases h1:l[k].mode=2
  .cases h2:l[k].done
   .have e2:=n1 (by simp[h2]);have W:=aA hk1 (aA hg (aA hlt (aA h1 h2)));refine wl ?_;all_goals exact hK1 _ ⟨(k+1,v,acc),⟨by simp only;omega,hv⟩,(by simp only;rw[Rk];exact e2.symm)⟩ (aT 2) (by simp only;omega)
   .by_cases h3:l[k].code=1
    .have e2:=n2 (by simp[h1,h2,h3]);have hps:TV.map (dZ .own)=acc.map (dZ .own)++[dZ .own sh]:=by rw[e2];simp
     simp only[dZ]at cP;clear n1 n2;generalize acc.map (dZ .own)=g at*;have W:=aA hk1 (aA hg (aA hlt (aA h1 (aA h2 (aA h3 IQ)))));refine wl ?_;all_goals exact hK1 _ ⟨(k+1,v+1,TV),⟨by simp only;omega,by simp only;omega⟩,(by simp only;exact Rk.symm)⟩ (aT 2 (by simp[hps])) (by simp only;omega)
    .have e2:=n1 (by simp[h3]);have W:=aA hk1 (aA hg (aA hlt (aA h1 (aA h2 h3))));refine wl ?_;all_goals exact hK1 _ ⟨(k+1,v,acc),⟨by simp only;omega,hv⟩,(by simp only;rw[Rk];exact e2.symm)⟩ (aT 2) (by simp only;omega)
  .have e2:=n1 (by simp[h1]);have W:=aA hk1 (aA hg (aA hlt h1));refine wl ?_;all_goals exact hK1 _ ⟨(k+1,v,acc),⟨by simp only;omega,hv⟩,(by simp only;rw[Rk];exact e2.symm)⟩ (aT 2) (by simp only;omega)
 .have htk:l.take k=l:=cX (by omega);rw[htk]at xJ;subst xJ;have W:=hk1;refine wl ?_;exact aF results268
theorem FT[aB prog][bQ prog][dM prog](p:aI)(hs:bP lJ p.aC<=1073741824):Ok prog 185 [.agg (aJ .view p)] (.sl .own 1 ((dG p).map (dZ .own))):=by
 simp only[bP]at hs;unfold dG;simp only[aJ];generalize p.aC=l at*;refine bM aG func185 ntmps185 ?_;refine gV ?_;refine aM (ι:={q:Nat×Nat×List gT // (q.1<=l.length/\1<=q.2.1)/\q.2.2=nY (l.take q.1)}) (λt o i=>⟨bC t [(4,.int .i64 i.1.1),(3,.obj 1 i.1.2.1)],o.take 1++[⟨true,false,1,i.1.2.1,i.1.2.2.map (dZ .own)⟩]⟩)
  (λi=>l.length-i.1.1) ⟨(0,1,[]),by simp,by simp[nY]⟩ aK ?_
 rintro⟨⟨k,v,acc⟩,⟨hk,hv⟩,xJ⟩ K1 hK1;simp only at hk hv xJ;simp only[bC,cW,cU,eL,fW,eA,eM]at hK1⊢;have hk1:=oQ (k:=k);by_cases hlt:k<l.length
 .have hg:=aE hlt;have hwz:=dI lJ l k hlt;simp only[lJ]at hwz;have cP:=Mc l[k].body (by omega);have n1:= @XU l k hlt;have n2:= @TW l k hlt;have hal:acc.length<=k:=by rw[xJ];have:=Fp (l.take k);rw[oT]at this;omega
  have IQ:(acc.map (dZ .own)).length=acc.length:=by simp
  rw[<-xJ]at n1 n2;generalize Rk:nY (l.take (k+1))=TV at*;generalize vR l[k].body=sh at*;unfold Md at n1 n2;by_cases h1:l[k].mode=2
  .cases h2:l[k].done
   .have e2:=n1 (by simp[h2]);have W:=aA hk1 (aA hg (aA hlt (aA h1 h2)));refine wl ?_;all_goals exact hK1 _ ⟨(k+1,v,acc),⟨by simp only;omega,hv⟩,(by simp only;rw[Rk];exact e2.symm)⟩ (aT 2) (by simp only;omega)
   .by_cases h3:l[k].code=1
    .have e2:=n2 (by simp[h1,h2,h3]);have hps:TV.map (dZ .own)=acc.map (dZ .own)++[dZ .own sh]:=by rw[e2];simp
     simp only[dZ]at cP;clear n1 n2;generalize acc.map (dZ .own)=g at*;have W:=aA hk1 (aA hg (aA hlt (aA h1 (aA h2 (aA h3 IQ)))));refine wl ?_;all_goals exact hK1 _ ⟨(k+1,v+1,TV),⟨by simp only;omega,by simp only;omega⟩,(by simp only;exact Rk.symm)⟩ (aT 2 (by simp[hps])) (by simp only;omega)
    .have e2:=n1 (by simp[h3]);have W:=aA hk1 (aA hg (aA hlt (aA h1 (aA h2 h3))));refine wl ?_;all_goals exact hK1 _ ⟨(k+1,v,acc),⟨by simp only;omega,hv⟩,(by simp only;rw[Rk];exact e2.symm)⟩ (aT 2) (by simp only;omega)
  .have e2:=n1 (by simp[h1]);have W:=aA hk1 (aA hg (aA hlt h1));refine wl ?_;all_goals exact hK1 _ ⟨(k+1,v,acc),⟨by simp only;omega,hv⟩,(by simp only;rw[Rk];exact e2.symm)⟩ (aT 2) (by simp only;omega)
 .have htk:l.take k=l:=cX (by omega);rw[htk]at xJ;subst xJ;have W:=hk1;refine wl ?_;exact aF results185
end Go.Proofs.YthddijamfbfibaaGreatDoor
set_option maxRecDepth 4000
set_option maxHeartbeats 4000000
namespace Go.Proofs.YthddijamfbfibaaGreatDoor
open Go.Aw Proofs.Tryz List IntKind
def look{α:Type}(f:α->Option Int)(l:List α)(k:Nat):Option Int:=((l.take k).reverse).findSome? f
theorem IG{α:Type}(f:α->Option Int){l:List α}{k:Nat}(h:k<l.length):look f l (k+1)=match f l[k]with|some x=>some x|none=>look f l k:=by unfold look;rw[eJ h,reverse_append];simp only[reverse_cons,reverse_nil,eM,singleton_append,findSome?_cons];cases f l[k]<;>rfl
theorem II{α:Type}(f:α->Option Int)(l:List α):look f l 0=none:=rfl
def Jt(n:bB)(r:FM):Option Int:=if r.name=n then some r.color else none
def zR(n:bB)(s:gT):Option Int:=look (Jt n) s.rules s.rules.length
def bJ(ss:List gT)(n:bB):Int:=(look (zR n) ss ss.length).getD 0
theorem tC[aB prog](ss:List gT)(n:bB)(hl:ss.length<=1099511627776)(hr:∀x∈ss,x.rules.length<=1099511627776):Ok prog 331 [.sl .view 1 (ss.map (dZ .view)),.str n] (.int .i64 (bJ ss n)):=by
 unfold bJ;refine bM aG func331 ntmps331 ?_;refine gV ?_;refine aM (ι:={k:Nat // k<=ss.length/\look (zR n) ss ss.length=look (zR n) ss k}) (λt o i=>⟨bC t [(5,.int .i64 ((i.1:Int)-1))],o⟩)
  (λi=>i.1) ⟨ss.length,by simp,rfl⟩ aK ?_
 rintro⟨k,hk,hi⟩ K1 hK1;simp only[bC,cW,cU]at hK1 hi hk⊢;cases k with
 |zero=>rw[hi,II];refine gV ?_;exact aF results331
 |succ k=>
  have hlt:k<ss.length:=by omega
  have hk0:(((k+1:Nat):Int)-1)=(k:Int):=by omega
  have hg:=aE hlt;have hk1:i64.wrap ((k:Int)-1)=(k:Int)-1:=by rw[wrap64]<;>omega
  have hrl:=hr _ (fS hlt);have KW:=IG (zR n) hlt;have hsc:zR n ss[k]=look (Jt n) ss[k].rules ss[k].rules.length:=rfl;have hw6:i64.wrap ((ss[k].rules.length:Int)-1)=(ss[k].rules.length:Int)-1:=by rw[wrap64]<;>omega
  rw[hk0];have W:=aA hlt (aA hg hw6);refine wl ?_;refine aM (ι:={m:Nat // m<=ss[k].rules.length/\zR n ss[k]=look (Jt n) ss[k].rules m}) (λt o i=>⟨bC t [(6,.int .i64 ((i.1:Int)-1))],o⟩)
   (λi=>i.1) ⟨ss[k].rules.length,by simp,rfl⟩ aK ?_
  rintro⟨m,hm,hj⟩ K2 hK2;simp only[bC,cW,cU]at hK2 hm hj⊢;cases m with
  |zero=>rw[hj,II]at KW;simp only at KW;have W:=hk1;refine wl ?_;exact hK1 _ ⟨k,by omega,by rw[hi,KW]⟩ aK (by simp only;omega)
  |succ m=>
   have hlm:m<ss[k].rules.length:=by omega
   have ou:(((m+1:Nat):Int)-1)=(m:Int):=by omega
   have hgm:=aE hlm;have V3:i64.wrap ((m:Int)-1)=(m:Int)-1:=by rw[wrap64]<;>omega
   have hlr:=IG (Jt n) hlm;have wL:Jt n ss[k].rules[m]=if ss[k].rules[m].name=n then some ss[k].rules[m].color else none:=rfl
   rw[ou];by_cases hn:ss[k].rules[m].name=n
   .rw [eK hn]at wL;rw[wL]at hlr;simp only at hlr;rw[hj,hlr]at KW;simp only at KW;rw[hi,KW];have W:=aA hlt (aA hg (aA hlm (aA hgm hn)));refine wl ?_;exact aF results331
   .rw [cY hn]at wL;rw[wL]at hlr;simp only at hlr;have W:=aA hlt (aA hg (aA hlm (aA hgm (aA hn V3))));repeat' first|refine wg ?_|(refine sq ?_ ?_<;>intro hc<;>try exact hc.elim)|fail
    .exact absurd hc hn
    .exact hK2 _ ⟨m,by omega,by rw[hj,hlr]⟩ aK (by simp only;omega)
theorem tF[aB prog](ss:List gT)(n:bB)(hl:ss.length<=1099511627776)(hr:∀x∈ss,x.rules.length<=1099511627776):Ok prog 297 [.sl .view 1 (ss.map (dZ .view)),.str n] (.int .i64 (bJ ss n)):=by
 unfold bJ;refine bM aG func297 ntmps297 ?_;refine gV ?_;refine aM (ι:={k:Nat // k<=ss.length/\look (zR n) ss ss.length=look (zR n) ss k}) (λt o i=>⟨bC t [(5,.int .i64 ((i.1:Int)-1))],o⟩)
  (λi=>i.1) ⟨ss.length,by simp,rfl⟩ aK ?_
 rintro⟨k,hk,hi⟩ K1 hK1;simp only[bC,cW,cU]at hK1 hi hk⊢;cases k with
 |zero=>rw[hi,II];refine gV ?_;exact aF results297
 |succ k=>
  have hlt:k<ss.length:=by omega
  have hk0:(((k+1:Nat):Int)-1)=(k:Int):=by omega
  have hg:=aE hlt;have hk1:i64.wrap ((k:Int)-1)=(k:Int)-1:=by rw[wrap64]<;>omega
  have hrl:=hr _ (fS hlt);have KW:=IG (zR n) hlt;have hsc:zR n ss[k]=look (Jt n) ss[k].rules ss[k].rules.length:=rfl;have hw6:i64.wrap ((ss[k].rules.length:Int)-1)=(ss[k].rules.length:Int)-1:=by rw[wrap64]<;>omega
  rw[hk0];have W:=aA hlt (aA hg hw6);refine wl ?_;refine aM (ι:={m:Nat // m<=ss[k].rules.length/\zR n ss[k]=look (Jt n) ss[k].rules m}) (λt o i=>⟨bC t [(6,.int .i64 ((i.1:Int)-1))],o⟩)
   (λi=>i.1) ⟨ss[k].rules.length,by simp,rfl⟩ aK ?_
  rintro⟨m,hm,hj⟩ K2 hK2;simp only[bC,cW,cU]at hK2 hm hj⊢;cases m with
  |zero=>rw[hj,II]at KW;simp only at KW;have W:=hk1;refine wl ?_;exact hK1 _ ⟨k,by omega,by rw[hi,KW]⟩ aK (by simp only;omega)
  |succ m=>
   have hlm:m<ss[k].rules.length:=by omega
   have ou:(((m+1:Nat):Int)-1)=(m:Int):=by omega
   have hgm:=aE hlm;have V3:i64.wrap ((m:Int)-1)=(m:Int)-1:=by rw[wrap64]<;>omega
   have hlr:=IG (Jt n) hlm;have wL:Jt n ss[k].rules[m]=if ss[k].rules[m].name=n then some ss[k].rules[m].color else none:=rfl
   rw[ou];by_cases hn:ss[k].rules[m].name=n
   .rw [eK hn]at wL;rw[wL]at hlr;simp only at hlr;rw[hj,hlr]at KW;simp only at KW;rw[hi,KW];have W:=aA hlt (aA hg (aA hlm (aA hgm hn)));refine wl ?_;exact aF results297
   .rw [cY hn]at wL;rw[wL]at hlr;simp only at hlr;have W:=aA hlt (aA hg (aA hlm (aA hgm (aA hn V3))));repeat' first|refine wg ?_|(refine sq ?_ ?_<;>intro hc<;>try exact hc.elim)|fail
    .exact absurd hc hn
    .exact hK2 _ ⟨m,by omega,by rw[hj,hlr]⟩ aK (by simp only;omega)
end Go.Proofs.YthddijamfbfibaaGreatDoor
set_option maxRecDepth 4000
set_option maxHeartbeats 4000000
namespace Go.Proofs.YthddijamfbfibaaGreatDoor
open Go.Aw Proofs.Tryz List IntKind
theorem pW[aB prog](b:bE)(n:bB)(hl:b.nodes.length<=1099511627776):Ok prog 330 [.agg (aV .view b),.str n] (.int .i64 (aX b n)):=by
 refine bM aG func330 ntmps330 ?_;refine aZ ?_;refine aM (ι:={k:Nat // k<=b.nodes.length}) (λt o i=>⟨bC t [(11,.int .i64 i.1),(5,.int .i64 ((((b.nodes.take i.1).filter λx=>decide (x.name=n)).length:Nat):Int)),(7,.undef)],o.take 1⟩)
  (λi=>b.nodes.length-i.1) ⟨0,by simp⟩ aK ?_
 rintro⟨k,hk⟩ K1 hK1;simp only[bC,cW,cU,eL,fW]at hK1⊢;have hk1:=oQ (k:=k);have hcl:((b.nodes.take k).filter λx=>decide (x.name=n)).length<=b.nodes.length:=by refine lB (oB _ _) ?_;simp;omega
 by_cases hlt:k<b.nodes.length
 .have hg:=aE hlt;have hst:=TL b n k hlt;generalize ((b.nodes.take k).filter λx=>decide (x.name=n)).length=c at*;have hc1:i64.wrap ((c:Int)+1)=((c+1:Nat):Int):=by rw[wrap64]<;>omega
  by_cases hn:b.nodes[k].name=n
  .have hnb:(b.nodes[k].name == n)=true:=by simpa using hn
   rw[eK hn]at hst;have W:=aA hk1 (aA hc1 (aA hg (aA hlt hnb)));refine we ?_;all_goals exact hK1 _ ⟨k+1,by omega⟩ (aT 1 (by simp) (by simp[hst]) (by simp) (by simp)) (by simp only;omega)
  .have hnb:(b.nodes[k].name == n)=false:=by simpa using hn
   rw[cY hn]at hst;have W:=aA hk1 (aA hc1 (aA hg (aA hlt hnb)));refine we ?_;all_goals exact hK1 _ ⟨k+1,by omega⟩ (aT 1 (by simp) (by simp[hst]) (by simp) (by simp)) (by simp only;omega)
 .have htk:b.nodes.take k=b.nodes:=cX (by omega);rw[htk];have W:=hk1;refine we ?_;all_goals try(refine aR ?_;simp[aP,results330,aX])
theorem pX[aB prog](b:bE)(n:bB)(hl:b.nodes.length<=1099511627776):Ok prog 296 [.agg (aV .view b),.str n] (.int .i64 (aX b n)):=by
 refine bM aG func296 ntmps296 ?_;refine aZ ?_;refine aM (ι:={k:Nat // k<=b.nodes.length}) (λt o i=>⟨bC t [(6,.int .i64 i.1),(5,.int .i64 ((((b.nodes.take i.1).filter λx=>decide (x.name=n)).length:Nat):Int))],o⟩)
  (λi=>b.nodes.length-i.1) ⟨0,by simp⟩ aK ?_
 rintro⟨k,hk⟩ K1 hK1;simp only[bC,cW,cU]at hK1⊢;have hk1:=oQ (k:=k);by_cases hlt:k<b.nodes.length
 .have hg:=aE hlt;have hst:=TL b n k hlt;have hcl:((b.nodes.take k).filter λx=>decide (x.name=n)).length<=b.nodes.length:=by
   refine lB (oB _ _) ?_;simp;omega
  generalize ((b.nodes.take k).filter λx=>decide (x.name=n)).length=c at*;have hc1:i64.wrap ((c:Int)+1)=((c+1:Nat):Int):=by rw[wrap64]<;>omega
  by_cases hn:b.nodes[k].name=n
  .have hnb:(b.nodes[k].name == n)=true:=by simpa using hn
   rw[eK hn]at hst;have W:=aA hk1 (aA hc1 (aA hg (aA hlt hnb)));refine we ?_;all_goals exact hK1 _ ⟨k+1,by omega⟩ (aK (by simp) (by simp[hst])) (by simp only;omega)
  .have hnb:(b.nodes[k].name == n)=false:=by simpa using hn
   rw[cY hn]at hst;have W:=aA hk1 (aA hc1 (aA hg (aA hlt hnb)));refine we ?_;all_goals exact hK1 _ ⟨k+1,by omega⟩ (aK (by simp) (by simp[hst])) (by simp only;omega)
 .have htk:b.nodes.take k=b.nodes:=cX (by omega);rw[htk];have W:=hk1;refine we ?_;all_goals try(refine aR ?_;simp[aP,results296,aX])
end Go.Proofs.YthddijamfbfibaaGreatDoor
set_option maxRecDepth 4000
set_option maxHeartbeats 4000000
namespace Go.Proofs.YthddijamfbfibaaGreatDoor
open Go.Aw Proofs.Tryz List IntKind
theorem GX[aB prog](t:nM)(hs:t.rest.length<=274877906):Ok prog 98 [.agg (dP t)] (.sl .own 4 ((kM t).map (cB .own))):=by
 obtain⟨s⟩:=t;simp only at hs;cases s with
 |nil=>simp only[kM,true_or,gE,DG];refine bM aG func98 ntmps98 ?_;refine aZ ?_;exact aF results98
 |cons c r=>
  by_cases hc:c=60
  .subst hc;have he:kM ⟨60::r⟩=[]:=by simp[kM]
   rw[he];refine bM aG func98 ntmps98 ?_;refine aZ ?_;exact aF results98
  .have he:kM ⟨c::r⟩=[⟨3,[],[],c::r⟩]:=by simp[kM,hc]
   rw[he];have hn:¬((c.toNat:Int)=60):=λh=>hc (CD.1 (by simp;omega))
   refine bM aG func98 ntmps98 ?_;have W:=hn;refine we ?_;exact aF results98
theorem GY[aB prog](t:nM)(hs:t.rest.length<=274877906):Ok prog 74 [.agg (dP t)] (.sl .own 4 ((kM t).map (cB .own))):=by
 obtain⟨s⟩:=t;simp only at hs;cases s with
 |nil=>simp only[kM,true_or,gE,DG];refine bM aG func74 ntmps74 ?_;refine aZ ?_;exact aF results74
 |cons c r=>
  by_cases hc:c=60
  .subst hc;have he:kM ⟨60::r⟩=[]:=by simp[kM]
   rw[he];refine bM aG func74 ntmps74 ?_;refine aZ ?_;exact aF results74
  .have he:kM ⟨c::r⟩=[⟨3,[],[],c::r⟩]:=by simp[kM,hc]
   rw[he];have hn:¬((c.toNat:Int)=60):=λh=>hc (CD.1 (by simp;omega))
   refine bM aG func74 ntmps74 ?_;have W:=hn;refine we ?_;exact aF results74
end Go.Proofs.YthddijamfbfibaaGreatDoor
set_option maxRecDepth 4000
set_option maxHeartbeats 4000000
namespace Go.Proofs.YthddijamfbfibaaGreatDoor
open Go.Aw Proofs.Tryz List IntKind
theorem UE:∀{a b c:List UInt8},Op.bytesLess a b=true->Op.bytesLess b c=true->Op.bytesLess a c=true
 |_,[],_,h,_=>by simp[Op.bytesLess]at h
 |_,_::_,[],_,h=>by simp[Op.bytesLess]at h
 |[],_::_,_::_,_,_=>by simp[Op.bytesLess]
 |x::a,y::b,z::c,h1,h2=>by
  simp only[Op.bytesLess,rL,eI,fN,tP]at h1 h2⊢;rcases h1 with h1|⟨rfl,h1⟩
  .rcases h2 with h2|⟨rfl,h2⟩
   .exact .inl (UInt8.lt_trans h1 h2)
   .exact .inl h1
  .rcases h2 with h2|⟨rfl,h2⟩
   .exact .inl h2
   .exact .inr ⟨rfl,UE h1 h2⟩
theorem Q5:∀{a b:List UInt8},a≠b->Op.bytesLess a b=false->Op.bytesLess b a=true
 |[],[],h,_=>(h rfl).elim
 |[],_::_,_,h=>by simp[Op.bytesLess]at h
 |_::_,[],_,_=>by simp[Op.bytesLess]
 |x::a,y::b,hne,h=>by
  simp only[Op.bytesLess,Bool.or_eq_false_iff,sC,pA,rK,rL,eI,fN,tP]at h⊢;by_cases e:x=y
  .subst e;exact .inr ⟨rfl,Q5 (λh=>hne (by rw[h])) (h.2.resolve_left λh=>h rfl)⟩
  .exact .inl (by rcases UInt8.lt_or_lt_of_ne e with h1|h1;exact(h.1 h1).elim;exact h1)
def uS(a b:aD):Bool:=Op.bytesLess a.host b.host || (a.host == b.host&&Op.bytesLess a.path b.path)
theorem BN(a:aD):uS a a=false:=by simp[uS,Ae]
theorem aIg(a b:aD):kG a b= -1↔uS a b=true:=by
 rw[Hu];by_cases e:a=b
 .subst e;simp[BN]
 .rw [cY e];change (if uS a b=true then(-1:Int)else 1)= -1↔_;split<;>simp_all
theorem Rq(a b:aD):kG a b<0↔uS a b=true:=by
 rw[<-aIg];have:=Hu a b;split at this
 .omega
 .split at this<;>omega
theorem vY{a b c:aD}(h1:uS a b=true)(h2:uS b c=true):uS a c=true:=by
 simp only[uS,rL,eI,tP]at h1 h2⊢;rcases h1 with h1|⟨e1,h1⟩
 .rcases h2 with h2|⟨e2,h2⟩
  .exact .inl (UE h1 h2)
  .exact .inl (e2▸h1)
 .rcases h2 with h2|⟨e2,h2⟩
  .exact .inl (e1▸h2)
  .exact .inr ⟨e1.trans e2,UE h1 h2⟩
theorem EB{a b:aD}(hne:a≠b)(h:uS a b=false):uS b a=true:=by
 simp only[uS,Bool.or_eq_false_iff,sC,rL,eI,tP,rK]at h⊢;by_cases e:a.host=b.host
 .refine .inr ⟨e.symm,Q5 (λh2=>hne ?_) (h.2.resolve_left λh=>h e)⟩
  obtain⟨x,y⟩:=a;obtain⟨z,w⟩:=b;simp_all
 .exact .inl (Q5 e h.1)
theorem ask_cases(p:aI)(a:aD):(eT p a=p/\∃m,p.aO[wU p.aO a]? =some m/\m.to=a)\/(eT p a={p with aO:=wJ p a (wU p.aO a)}/\∀m,p.aO[wU p.aO a]? =some m->m.to≠a):=by
 unfold eT;split
 .rename_i m hm;split
  .rename_i e;exact .inl ⟨rfl,m,hm,e⟩
  .rename_i e;refine .inr ⟨rfl,λx hx=> ?_⟩;rw[hm]at hx;exact cQ hx▸e
 .rename_i hm;refine .inr ⟨rfl,λx hx=> ?_⟩;rw[hm]at hx;cases hx
end Go.Proofs.YthddijamfbfibaaGreatDoor
set_option maxRecDepth 4000
set_option maxHeartbeats 4000000
namespace Go.Proofs.YthddijamfbfibaaGreatDoor
open Go.Aw Proofs.Tryz List IntKind
def upA(l:List aD):Prop:=l.Pairwise λa b=>uS a b=true
theorem aQb{l:List aD}{a:aD}{k:Nat}(h:upA l)(hk:k<=l.length)(hd:∀x∈l.drop k,uS a x=true)(ht:∀y,0<k->l[k-1]? =some y->uS y a=true):upA (l.take k++a::l.drop k):=by
 unfold upA at*;have h1:∀x∈l.take k,uS x a=true:=by
  intro x hx;obtain⟨j,hj,rfl⟩:=FG hx;rw[oT]at hj;rw[getElem_take];have hk0:0<k:=by omega
  have hy:=ht l[k-1] hk0 (aE (by omega));rw[pairwise_iff_getElem]at h;by_cases e:j=k-1
  .subst e;exact hy
  .exact vY (h j (k-1) (by omega) (by omega) (by omega)) hy
 rw[pairwise_append];refine⟨h.sublist (take_sublist _ _),pairwise_cons.2 ⟨hd,h.sublist (drop_sublist _ _)⟩,?_⟩;intro x hx y hy;rcases gS.1 hy with rfl|hy
 .exact h1 x hx
 .exact vY (h1 x hx) (hd y hy)
theorem aMj{l:List aD}{a:aD}{k:Nat}{x:aD}(hx:x∈l.take k++a::l.drop k):x∈l\/x=a:=by
 rcases eW.1 hx with h|h
 .exact .inl (sE h)
 .rcases gS.1 h with h|h
  .exact .inr h
  .exact .inl (AI h)
theorem aMk{a b:aD}(h:¬kG a b<0)(hne:a≠b):uS b a=true:=by
 refine EB hne ?_;cases e:uS a b with
 |false=>rfl
 |true=>exact absurd ((Rq a b).2 e) h
end Go.Proofs.YthddijamfbfibaaGreatDoor
set_option maxRecDepth 8000
set_option maxHeartbeats 4000000
namespace Go.Proofs.YthddijamfbfibaaGreatDoor
open Go.Aw Go.Sort Go.Shelf Go.RowKit Go.Lib Proofs.Tryz List IntKind
theorem Rs(a b:aD):ltOf kG a b=uS a b:=by
 unfold ltOf;cases h:uS a b
 .rw [pA,Rq,h];simp
 .rw [decide_eq_true_iff,Rq,h]
theorem aQd:SWO (ltOf kG):=by
 refine⟨λx=> ?_,λx y z h1 h2=> ?_,λx y z h1 h2=> ?_⟩
 .rw [Rs];exact BN x
 .rw [Rs]at*;exact vY h1 h2
 .rw [Rs]at*;by_cases e1:x=y
  .rw [e1];exact h2
  .by_cases e2:y=z
   .rw [<-e2];exact h1
   .have h3:=vY (EB e2 h2) (EB e1 h1);cases h4:uS x z
    .rfl
    .have:=vY h4 h3;rw[BN]at this;cases this
def Ga(l:List aD):List aD:=(pdq (ltOf kG) l.toArray 0 l.toArray.size (Lib.bitLen l.toArray.size) true true).toList
theorem KS(l:List aD):(Ga l).Perm l:=by have h:=(pdq_sorts (ltOf kG) aQd l.toArray 0 l.toArray.size (Lib.bitLen l.toArray.size) true true (Fo _) (eC _) (Or.inl rfl)).1;unfold Ga;generalize pdq (ltOf kG) l.toArray 0 l.toArray.size (Lib.bitLen l.toArray.size) true true=d at h;obtain⟨h1,_,h3⟩:=h;rw[<-h1]at h3;simp only[Array.extract_size]at h3;rw[h1]at h3;simpa using h3
theorem EC(l:List aD):(Ga l).length=l.length:=(KS l).length_eq
theorem aIh(x:aD):∀v∈iJ x,v.oneCell'=true:=by intro v hv;simp only[iJ,gS,Bs,Gk]at hv;rcases hv with rfl|rfl<;>rfl
theorem Q7(x y:aD)(W:World):Calls prog 103 #[.agg (iJ x).toArray,.agg (iJ y).toArray] W λe w'=>e= .returned (.int .i64 (kG x y))/\∃q os',w'=grow (W.drewN q) os':=by
 have c1:=λW'=>Any.strings_Compare Tryz.Laysx106 ⟨x.host.toArray⟩ ⟨y.host.toArray⟩ W'
 have c2:=λW'=>Any.strings_Compare Tryz.Laysx106 ⟨x.path.toArray⟩ ⟨y.path.toArray⟩ W'
 change∀W',Calls prog 175 _ _ _ at c1 c2;unfold kG;simp only[toList_toArray]at c1 c2;generalize Lib.compareBytes x.host y.host=r at*;generalize Lib.compareBytes x.path y.path=s at*;simp only[iJ,encStr];by_cases hr:r=0
 .subst hr
  go_enter func103,ntmps103
  go_wp2_with (go_at_call 175;first|(refine(c1 _).mono ?_;rintro e w' ⟨rfl,rfl⟩)|(refine(c2 _).mono ?_;rintro e w' ⟨rfl,rfl⟩))
  go_ret
  exact⟨rfl,0,_,by rw[alloc_eq_grow,alloc_eq_grow,grow_grow];rfl⟩
 .rw [eK hr]
  go_enter func103,ntmps103
  go_wp2_with (go_at_call 175;first|(refine(c1 _).mono ?_;rintro e w' ⟨rfl,rfl⟩)|(refine(c2 _).mono ?_;rintro e w' ⟨rfl,rfl⟩))
  all_goals first
   |(go_ret;exact⟨rfl,0,_,by rw[alloc_eq_grow,alloc_eq_grow,grow_grow];rfl⟩)
   |(exfalso;simp_all)
theorem aIi[aB prog](l:List aD)(hl:l.length<4611686018427387904):OkM prog 102 (.sl .own 2 (l.map aH)) (.sl .own 2 ((Ga l).map aH)) [.fn 103 []] (.gM []):=by have eg:∀args w,(callFunc 103 args).run prog w= .ok (.enter 103 args) w:=enters_of func103 (by kernel_rfl) rfl;refine aC7 EC (λb off cap zs w hH hb hz=> ?_) (λp cap w=>AnyF.slices_SortFunc_none Tryz.sortAd p cap _ w) l hl;have h:=AnyQ.slices_SortFunc_eq Tryz.sortAd 2 Tryz.isAgg43 Tryz.sizeOf43 iJ (λ_=>rfl) aIh kG aQd 103 #[] b off cap zs.toArray w eg (λ_ _ _ _ x y=>Q7 x y _) hH hb hz;unfold Ga;simpa using h
end Go.Proofs.YthddijamfbfibaaGreatDoor
