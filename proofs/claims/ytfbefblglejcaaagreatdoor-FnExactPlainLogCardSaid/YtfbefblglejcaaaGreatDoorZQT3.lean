/- Proved here: steps towards the statement of this claim. No condition. -/
import Derived.Test.YtfbefblglejcaaaGreatDoorZQU4
import Derived.Test.YtfbefblglejcaaaGreatDoorZQU7
set_option linter.all false
set_option maxRecDepth 100000
set_option maxHeartbeats 4000000
namespace Go.Proofs.YtfbefblglejcaaaGreatDoor
open Go.Aw Proofs.Tryz List IntKind
def NJ(p:bB):bB:=p.take (iH 58 p)
def DZ(p:bB):bB:=p.drop (iH 58 p+1)
def vL(p:bB):Option Fv:=match AJ (DZ p)with
 |some v=>if dA (NJ p)=true/\1<=v/\v<=999 then some ⟨NJ p,v⟩else none
 |none=>none
def mO(l:List bB):List Fv:=(l.filterMap vL).take 8
def vM(s:bB):gQ:=⟨mO (dE 59 s)⟩
theorem Ig{p:bB}(h:AJ (DZ p)=none):vL p=none:=by rw[vL,h]
theorem OW{p:bB}(h:dA (NJ p)=false):vL p=none:=by
 unfold vL;split
 .rw [cX (by simp[h])]
 .rfl
theorem Ti{p:bB}{v:Int}(h:AJ (DZ p)=some v)(h1:¬(1<=v/\v<=999)):vL p=none:=by rw[vL,h];exact cX (λh=>h1 h.2)
theorem Tj{p:bB}{v:Int}(h:AJ (DZ p)=some v)(hn:dA (NJ p)=true)(h1:1<=v/\v<=999):vL p=some ⟨NJ p,v⟩:=by rw[vL,h];exact eK ⟨hn,h1⟩
theorem Tk{l:List bB}{k:Nat}(h:k<l.length)(hr:vL l[k]=none):mO (l.take (k+1))=mO (l.take k):=by unfold mO;rw[eI h,filterMap_append];simp[hr]
theorem Tm{l:List bB}{k:Nat}{r:Fv}(h:k<l.length)(hr:vL l[k]=some r)(h8:(mO (l.take k)).length<8):mO (l.take (k+1))=mO (l.take k)++[r]:=by unfold mO at*;rw[eI h,filterMap_append];simp only[oS]at h8;simp only[filterMap_cons,hr,filterMap_nil];generalize (l.take k).filterMap vL=x at*;rw[cY (l:=x++[r]) (by simp;omega),cY (l:=x) (by omega)]
theorem Tn{l:List bB}{k:Nat}(h8:¬(mO (l.take k)).length<8):mO l=mO (l.take k):=by
 unfold mO at*;conv=>lhs;rw[<-oA k l,filterMap_append]
 simp only[oS]at h8;rw[Bx (by omega)]
theorem gz{l:List bB}{k:Nat}(h8:¬(mO (l.take k)).length<8):mO (l.take (k+1))=mO (l.take k):=by have:= @Tn (l.take (k+1)) k;rw[take_take,DG (by omega)]at this;exact this h8
theorem ib(l:List bB):(mO l).length<=8:=by unfold mO;simp;omega
theorem zf{p:bB}{x:UInt8}(hx:x∈DZ p)(h:x=58):AJ (DZ p)=none:=by obtain⟨k,hk,e⟩:=mem_iff_getElem.1 hx;refine gy hk ?_;rw[e,h];decide
theorem aNt(p:bB):(dE 58 p=[NJ p,DZ p])\/((dE 58 p).length≠2/\vL p=none):=by
 rw[vK];by_cases h:iH 58 p<p.length
 .rw [eK h];by_cases h2:∀x∈DZ p,x≠58
  .left;rw[show p.drop (iH 58 p+1)=DZ p from rfl,BH _ _ h2];rfl
  .right;have⟨x,hx⟩:=Classical.not_forall.1 h2;have⟨hm,hne⟩:=Classical.not_imp.1 hx;have aQ7:=Ek.1 hne;refine⟨?_,Ig (zf hm aQ7)⟩;rw[show p.drop (iH 58 p+1)=DZ p from rfl,eN,iQ];have:0<(DZ p).count 58:=count_pos_iff.2 (aQ7▸hm);omega
 .right;rw[cX h];refine⟨by simp,Ig ?_⟩;have e:DZ p=[]:=by unfold DZ;exact drop_eq_nil_of_le (by omega)
  rw[e];exact WC (by simp)
theorem LF[aC prog][bP prog][dL prog][oK prog](s:bB)(hl:s.length<=1073741824):Ok prog 286 [.str s] (.agg (dZ .own (vM s))):=by
 have cS:=WG s 59 (by omega);have hsm:=Bz 59 s;have hsl:=iQ 59 s;have hcn:s.count 59<=s.length:=pH;unfold vM;generalize dE 59 s=l at*;have hll:l.length<=1073741825:=by omega
 simp only[dZ];refine bM aF func286 ntmps286 ?_;refine aY ?_;refine aO (ι:={q:Nat×Nat×List Fv // (q.1<=l.length/\1<=q.2.1)/\q.2.2=mO (l.take q.1)}) (λt o i=>⟨bC t [(15,.int .i64 i.1.1),(11,.undef)],o.take 1++[⟨true,true,1,0,[[.obj 3 i.1.2.1]]⟩,⟨true,false,1,1,l.map bW⟩,⟨true,false,2,i.1.2.1,i.1.2.2.map Af⟩]⟩)
  (λi=>l.length-i.1.1) ⟨(0,1,[]),by simp,by simp[mO]⟩ (vI 1 0 0 (ob:=⟨true,true,1,0,[[.sl .own 2 []]]⟩) (by rfl) (by rfl) (by rfl) (by simp) (by rfl) (by rfl) (by simp) (by simp[xR,rt,iP])) ?_
 rintro⟨⟨k,v,acc⟩,⟨hk,hv⟩,xD⟩ K1 hK1;simp only at hk hv xD;simp only[bC,cW,cU,eL,fX,eA,eM]at hK1⊢;have hk1:=oQ (k:=k);by_cases hlt:k<l.length
 .have hg:=aE hlt;have hwz:=dK gG l k hlt;simp only[gG]at hwz;have cC:=zW l[k] 58 (by omega);have cN:=gL (NJ l[k]) (by simp[NJ];omega);have cP:=PU (DZ l[k]) (by simp[DZ];omega);change Ok _ _ _ (.gT [.str (NJ l[k]),.str (DZ l[k]),.bool (decide (iH 58 l[k]<l[k].length))])at cC;have n1:= @Tk l k hlt;have n2:=λr=> @Tm l k r hlt
  have n3:= @gz l k;have r1:= @Ig l[k];have r2:= @OW l[k];have r3:=λv=> @Ti l[k] v
  have r4:=λv=> @Tj l[k] v
  have ha8:=ib (l.take k);rw[<-xD]at n1 n2 n3 ha8;generalize QK:mO (l.take (k+1))=Tp at*;generalize hrl:vL l[k]=ru at*;generalize decide (iH 58 l[k]<l[k].length)=b1 at*;generalize NJ l[k]=ky at*;generalize DZ l[k]=vl at*;cases hp:AJ vl with
  |none=>rw[vJ hp]at cP;have e2:=n1 (r1 hp);clear r1 r2 r3 r4 n1 n2 n3;have W:=aA hk1 (aA hg hlt);refine we ?_;exact hK1 _ ⟨(k+1,v,acc),⟨by simp only;omega,hv⟩,(by simp only;rw[QK];exact e2.symm)⟩ (aV 4) (by simp only;omega)
  |some x=>
   rw[ER hp]at cP;cases hn:dA ky with
   |false=>rw[hn]at cN;have e2:=n1 (r2 hn);clear r1 r2 r3 r4 n1 n2 n3;have W:=aA hk1 (aA hg hlt);refine we ?_;exact hK1 _ ⟨(k+1,v,acc),⟨by simp only;omega,hv⟩,(by simp only;rw[QK];exact e2.symm)⟩ (aV 4) (by simp only;omega)
   |true=>
    rw[hn]at cN;have cR:=jM x 1 999;by_cases hx:1<=x/\x<=999
    .have hb:(decide ((1:Int)<=x)&&decide (x<=(999:Int)))=true:=by simp;omega
     rw[hb]at cR;have hr:=r4 x hp hn hx;by_cases h8:acc.length<8
     .have h8i:((acc.length:Int)<8):=by omega
      have e2:=n2 _ hr h8;clear r1 r2 r3 r4 n1 n2 n3;have hps:Tp.map Af=acc.map Af++[Af ⟨ky,x⟩]:=by rw[e2];simp
      have KF:(acc.map Af).length=acc.length:=by simp
      have W:=aA hk1 (aA hg (aA hlt h8i));refine we ?_;exact hK1 _ ⟨(k+1,v+1,Tp),⟨by simp only;omega,by simp only;omega⟩,(by simp only;exact QK.symm)⟩ (aV 4 (by simp[hps])) (by simp only;omega)
     .have h8i:¬((acc.length:Int)<8):=by omega
      have e2:=n3 h8;clear r1 r2 r3 r4 n1 n2 n3;have W:=aA hk1 (aA hg (aA hlt h8i));refine we ?_;exact hK1 _ ⟨(k+1,v,acc),⟨by simp only;omega,hv⟩,(by simp only;rw[QK];exact e2.symm)⟩ (aV 4) (by simp only;omega)
    .have hb:(decide ((1:Int)<=x)&&decide (x<=(999:Int)))=false:=by simp only[tW,rB];omega
     rw[hb]at cR;have e2:=n1 (r3 x hp hx);clear r1 r2 r3 r4 n1 n2 n3;have W:=aA hk1 (aA hg hlt);refine we ?_;exact hK1 _ ⟨(k+1,v,acc),⟨by simp only;omega,hv⟩,(by simp only;rw[QK];exact e2.symm)⟩ (aV 4) (by simp only;omega)
 .have htk:l.take k=l:=cY (by omega);rw[htk]at xD;subst xD;have W:=hk1;refine we ?_;exact aD results286
theorem LH[aC prog][bP prog][dL prog](s:bB)(hl:s.length<=1073741824):Ok prog 223 [.str s] (.agg (dZ .own (vM s))):=by
 have cS:Ok prog 105 [.str s,.int .u8 59] (.sl .own 1 ((dE 59 s).map bW)):=xB s 59 (by omega);have hsm:=Bz 59 s;have hsl:=iQ 59 s;have hcn:s.count 59<=s.length:=pH;unfold vM;generalize dE 59 s=l at*;have hll:l.length<=1073741825:=by omega
 simp only[dZ];refine bM aF func223 ntmps223 ?_;refine aY ?_;refine aO (ι:={q:Nat×Nat×List Fv // (q.1<=l.length/\1<=q.2.1)/\q.2.2=mO (l.take q.1)}) (λt o i=>⟨bC t [(5,.int .i64 i.1.1),(9,.undef)],o.take 1++[⟨true,true,1,0,[[.obj 3 i.1.2.1]]⟩,⟨true,false,1,1,l.map bW⟩,⟨true,false,2,i.1.2.1,i.1.2.2.map Af⟩]⟩)
  (λi=>l.length-i.1.1) ⟨(0,1,[]),by simp,by simp[mO]⟩ (vI 1 0 0 (ob:=⟨true,true,1,0,[[.sl .own 2 []]]⟩) (by rfl) (by rfl) (by rfl) (by simp) (by rfl) (by rfl) (by simp) (by simp[xR,rt,iP])) ?_
 rintro⟨⟨k,v,acc⟩,⟨hk,hv⟩,xD⟩ K1 hK1;simp only at hk hv xD;simp only[bC,cW,cU,eL,fX,eA,eM]at hK1⊢;have hk1:=oQ (k:=k);have KF:(acc.map Af).length=acc.length:=by simp
 by_cases hlt:k<l.length
 .have hg:=aE hlt;by_cases h8:acc.length<8
  .have h8i:((acc.length:Int)<8):=by omega
   have hwz:=dK gG l k hlt;simp only[gG]at hwz;have cC:Ok prog 105 [.str l[k],.int .u8 58] (.sl .own 1 ((dE 58 l[k]).map bW)):=xB l[k] 58 (by omega);have cN:=fD (NJ l[k]) (by simp[NJ];omega);have cP:=PT (DZ l[k]) (by simp[DZ];omega);have n1:= @Tk l k hlt;have n2:=λr=> @Tm l k r hlt
   have r1:= @Ig l[k];have r2:= @OW l[k];have r3:=λv=> @Ti l[k] v
   have r4:=λv=> @Tj l[k] v
   have h2:=aNt l[k];have hsg:=iQ 58 l[k];have hcg:l[k].count 58<=l[k].length:=pH;rw[<-xD]at n1 n2;generalize QK:mO (l.take (k+1))=Tp at*;generalize hrl:vL l[k]=ru at*;generalize NJ l[k]=ky at*;generalize DZ l[k]=vl at*;generalize dE 58 l[k]=ps at*;rcases h2 with h2|⟨h2,hr⟩
   .subst h2;simp only[mC,DE,bW]at cC;cases hn:dA ky with
    |false=>rw[hn]at cN;have e2:=n1 (r2 hn);clear r1 r2 r3 r4 n1 n2;have W:=aA hk1 (aA hg (aA hlt h8i));refine we ?_;exact hK1 _ ⟨(k+1,v,acc),⟨by simp only;omega,hv⟩,(by simp only;rw[QK];exact e2.symm)⟩ (aV 4) (by simp only;omega)
    |true=>
     rw[hn]at cN;cases hp:AJ vl with
     |none=>rw[vJ hp]at cP;have e2:=n1 (r1 hp);clear r1 r2 r3 r4 n1 n2;have W:=aA hk1 (aA hg (aA hlt h8i));refine we ?_;exact hK1 _ ⟨(k+1,v,acc),⟨by simp only;omega,hv⟩,(by simp only;rw[QK];exact e2.symm)⟩ (aV 4) (by simp only;omega)
     |some x=>
      rw[ER hp]at cP;have cR:=gI x 1 999;by_cases hx:1<=x/\x<=999
      .have hb:(decide ((1:Int)<=x)&&decide (x<=(999:Int)))=true:=by simp;omega
       rw[hb]at cR;have e2:=n2 _ (r4 x hp hn hx) h8;clear r1 r2 r3 r4 n1 n2;have hps:Tp.map Af=acc.map Af++[Af ⟨ky,x⟩]:=by rw[e2];simp
       have W:=aA hk1 (aA hg (aA hlt (aA h8i KF)));refine we ?_;all_goals exact hK1 _ ⟨(k+1,v+1,Tp),⟨by simp only;omega,by simp only;omega⟩,(by simp only;exact QK.symm)⟩ (aV 4 (by simp[hps])) (by simp only;omega)
      .have hb:(decide ((1:Int)<=x)&&decide (x<=(999:Int)))=false:=by simp only[tW,rB];omega
       rw[hb]at cR;have e2:=n1 (r3 x hp hx);clear r1 r2 r3 r4 n1 n2;have W:=aA hk1 (aA hg (aA hlt h8i));refine we ?_;exact hK1 _ ⟨(k+1,v,acc),⟨by simp only;omega,hv⟩,(by simp only;rw[QK];exact e2.symm)⟩ (aV 4) (by simp only;omega)
   .have e2:=n1 hr;have h2i:¬((ps.length:Int)=2):=by omega
    clear r1 r2 r3 r4 n1 n2 cN cP;have W:=aA hk1 (aA hg (aA hlt (aA h8i h2i)));refine we ?_;exact hK1 _ ⟨(k+1,v,acc),⟨by simp only;omega,hv⟩,(by simp only;rw[QK];exact e2.symm)⟩ (aV 4) (by simp only;omega)
  .have h8i:¬((acc.length:Int)<8):=by omega
   have hf:=Tn (l:=l) (k:=k) (by rw[<-xD];exact h8);rw[<-xD]at hf;rw[hf];have W:=aA hk1 (aA hg (aA hlt (aA h8i KF)));refine we ?_;exact aD results223
 .have htk:l.take k=l:=cY (by omega);rw[htk]at xD;subst xD;have W:=hk1;refine we ?_;exact aD results223
def LJ(x:pJ):Bool:=decide (x.mode=2)&&x.done&&decide (x.code=1)
def nW(l:List pJ):List gQ:=(l.filter LJ).map λx=>vM x.body
def dG(p:aG):List gQ:=nW p.aB
theorem Tq{l:List pJ}{k:Nat}(h:k<l.length)(ho:LJ l[k]=true):nW (l.take (k+1))=nW (l.take k)++[vM l[k].body]:=by unfold nW;rw[eI h,filter_append,oT];simp[ho]
theorem WH{l:List pJ}{k:Nat}(h:k<l.length)(ho:LJ l[k]=false):nW (l.take (k+1))=nW (l.take k):=by unfold nW;rw[eI h,filter_append];simp[ho]
theorem ET(l:List pJ):(nW l).length<=l.length:=by unfold nW;rw[oY];exact oB _ _
theorem PV[aC prog][bP prog][dL prog][oK prog](p:aG)(hs:bQ kZ p.aB<=1073741824):Ok prog 247 [.agg (aH .view p)] (.sl .own 1 ((dG p).map (dZ .own))):=by
 simp only[bQ]at hs;unfold dG;simp only[aH];generalize p.aB=l at*;refine bM aF func247 ntmps247 ?_;refine iF ?_;refine aO (ι:={q:Nat×Nat×List gQ // (q.1<=l.length/\1<=q.2.1)/\q.2.2=nW (l.take q.1)}) (λt o i=>⟨bC t [(10,.int .i64 i.1.1),(3,.obj 1 i.1.2.1)],o.take 1++[⟨true,false,1,i.1.2.1,i.1.2.2.map (dZ .own)⟩]⟩)
  (λi=>l.length-i.1.1) ⟨(0,1,[]),by simp,by simp[nW]⟩ aJ ?_
 rintro⟨⟨k,v,acc⟩,⟨hk,hv⟩,xD⟩ K1 hK1;simp only at hk hv xD;simp only[bC,cW,cU,eL,fX,eA,eM]at hK1⊢;have hk1:=oQ (k:=k);by_cases hlt:k<l.length
 .have hg:=aE hlt;have hwz:=dK kZ l k hlt;simp only[kZ]at hwz;have cP:=LF l[k].body (by omega);have n1:= @WH l k hlt;have n2:= @Tq l k hlt;have hal:acc.length<=k:=by rw[xD];have:=ET (l.take k);rw[oS]at this;omega
  have KF:(acc.map (dZ .own)).length=acc.length:=by simp
  rw[<-xD]at n1 n2;generalize QK:nW (l.take (k+1))=Tp at*;generalize vM l[k].body=sh at*;unfold LJ at n1 n2;by_cases h1:l[k].mode=2
  .cases h2:l[k].done
   .have e2:=n1 (by simp[h2]);have W:=aA hk1 (aA hg (aA hlt (aA h1 h2)));refine wl ?_;all_goals exact hK1 _ ⟨(k+1,v,acc),⟨by simp only;omega,hv⟩,(by simp only;rw[QK];exact e2.symm)⟩ (aV 2) (by simp only;omega)
   .by_cases h3:l[k].code=1
    .have e2:=n2 (by simp[h1,h2,h3]);have hps:Tp.map (dZ .own)=acc.map (dZ .own)++[dZ .own sh]:=by rw[e2];simp
     simp only[dZ]at cP;clear n1 n2;generalize acc.map (dZ .own)=g at*;have W:=aA hk1 (aA hg (aA hlt (aA h1 (aA h2 (aA h3 KF)))));refine wl ?_;all_goals exact hK1 _ ⟨(k+1,v+1,Tp),⟨by simp only;omega,by simp only;omega⟩,(by simp only;exact QK.symm)⟩ (aV 2 (by simp[hps])) (by simp only;omega)
    .have e2:=n1 (by simp[h3]);have W:=aA hk1 (aA hg (aA hlt (aA h1 (aA h2 h3))));refine wl ?_;all_goals exact hK1 _ ⟨(k+1,v,acc),⟨by simp only;omega,hv⟩,(by simp only;rw[QK];exact e2.symm)⟩ (aV 2) (by simp only;omega)
  .have e2:=n1 (by simp[h1]);have W:=aA hk1 (aA hg (aA hlt h1));refine wl ?_;all_goals exact hK1 _ ⟨(k+1,v,acc),⟨by simp only;omega,hv⟩,(by simp only;rw[QK];exact e2.symm)⟩ (aV 2) (by simp only;omega)
 .have htk:l.take k=l:=cY (by omega);rw[htk]at xD;subst xD;have W:=hk1;refine wl ?_;exact aD results247
theorem FC[aC prog][bP prog][dL prog](p:aG)(hs:bQ kZ p.aB<=1073741824):Ok prog 172 [.agg (aH .view p)] (.sl .own 1 ((dG p).map (dZ .own))):=by
 simp only[bQ]at hs;unfold dG;simp only[aH];generalize p.aB=l at*;refine bM aF func172 ntmps172 ?_;refine iF ?_;refine aO (ι:={q:Nat×Nat×List gQ // (q.1<=l.length/\1<=q.2.1)/\q.2.2=nW (l.take q.1)}) (λt o i=>⟨bC t [(4,.int .i64 i.1.1),(3,.obj 1 i.1.2.1)],o.take 1++[⟨true,false,1,i.1.2.1,i.1.2.2.map (dZ .own)⟩]⟩)
  (λi=>l.length-i.1.1) ⟨(0,1,[]),by simp,by simp[nW]⟩ aJ ?_
 rintro⟨⟨k,v,acc⟩,⟨hk,hv⟩,xD⟩ K1 hK1;simp only at hk hv xD;simp only[bC,cW,cU,eL,fX,eA,eM]at hK1⊢;have hk1:=oQ (k:=k);by_cases hlt:k<l.length
 .have hg:=aE hlt;have hwz:=dK kZ l k hlt;simp only[kZ]at hwz;have cP:=LH l[k].body (by omega);have n1:= @WH l k hlt;have n2:= @Tq l k hlt;have hal:acc.length<=k:=by rw[xD];have:=ET (l.take k);rw[oS]at this;omega
  have KF:(acc.map (dZ .own)).length=acc.length:=by simp
  rw[<-xD]at n1 n2;generalize QK:nW (l.take (k+1))=Tp at*;generalize vM l[k].body=sh at*;unfold LJ at n1 n2;by_cases h1:l[k].mode=2
  .cases h2:l[k].done
   .have e2:=n1 (by simp[h2]);have W:=aA hk1 (aA hg (aA hlt (aA h1 h2)));refine wl ?_;all_goals exact hK1 _ ⟨(k+1,v,acc),⟨by simp only;omega,hv⟩,(by simp only;rw[QK];exact e2.symm)⟩ (aV 2) (by simp only;omega)
   .by_cases h3:l[k].code=1
    .have e2:=n2 (by simp[h1,h2,h3]);have hps:Tp.map (dZ .own)=acc.map (dZ .own)++[dZ .own sh]:=by rw[e2];simp
     simp only[dZ]at cP;clear n1 n2;generalize acc.map (dZ .own)=g at*;have W:=aA hk1 (aA hg (aA hlt (aA h1 (aA h2 (aA h3 KF)))));refine wl ?_;all_goals exact hK1 _ ⟨(k+1,v+1,Tp),⟨by simp only;omega,by simp only;omega⟩,(by simp only;exact QK.symm)⟩ (aV 2 (by simp[hps])) (by simp only;omega)
    .have e2:=n1 (by simp[h3]);have W:=aA hk1 (aA hg (aA hlt (aA h1 (aA h2 h3))));refine wl ?_;all_goals exact hK1 _ ⟨(k+1,v,acc),⟨by simp only;omega,hv⟩,(by simp only;rw[QK];exact e2.symm)⟩ (aV 2) (by simp only;omega)
  .have e2:=n1 (by simp[h1]);have W:=aA hk1 (aA hg (aA hlt h1));refine wl ?_;all_goals exact hK1 _ ⟨(k+1,v,acc),⟨by simp only;omega,hv⟩,(by simp only;rw[QK];exact e2.symm)⟩ (aV 2) (by simp only;omega)
 .have htk:l.take k=l:=cY (by omega);rw[htk]at xD;subst xD;have W:=hk1;refine wl ?_;exact aD results172
def look{α:Type}(f:α->Option Int)(l:List α)(k:Nat):Option Int:=((l.take k).reverse).findSome? f
theorem Ih{α:Type}(f:α->Option Int){l:List α}{k:Nat}(h:k<l.length):look f l (k+1)=match f l[k]with|some x=>some x|none=>look f l k:=by unfold look;rw[eI h,reverse_append];simp only[reverse_cons,reverse_nil,eM,singleton_append,findSome?_cons];cases f l[k]<;>rfl
theorem Ii{α:Type}(f:α->Option Int)(l:List α):look f l 0=none:=rfl
def Jf(n:bB)(r:Fv):Option Int:=if r.name=n then some r.color else none
def zM(n:bB)(s:gQ):Option Int:=look (Jf n) s.rules s.rules.length
def bJ(ss:List gQ)(n:bB):Int:=(look (zM n) ss ss.length).getD 0
theorem sQ[aC prog](ss:List gQ)(n:bB)(hl:ss.length<=1099511627776)(hr:∀x∈ss,x.rules.length<=1099511627776):Ok prog 305 [.sl .view 1 (ss.map (dZ .view)),.str n] (.int .i64 (bJ ss n)):=by
 unfold bJ;refine bM aF func305 ntmps305 ?_;refine iF ?_;refine aO (ι:={k:Nat // k<=ss.length/\look (zM n) ss ss.length=look (zM n) ss k}) (λt o i=>⟨bC t [(5,.int .i64 ((i.1:Int)-1))],o⟩)
  (λi=>i.1) ⟨ss.length,by simp,rfl⟩ aJ ?_
 rintro⟨k,hk,hi⟩ K1 hK1;simp only[bC,cW,cU]at hK1 hi hk⊢;cases k with
 |zero=>rw[hi,Ii];refine iF ?_;exact aD results305
 |succ k=>
  have hlt:k<ss.length:=by omega
  have hk0:(((k+1:Nat):Int)-1)=(k:Int):=by omega
  have hg:=aE hlt;have hk1:i64.wrap ((k:Int)-1)=(k:Int)-1:=by rw[wrap64]<;>omega
  have hrl:=hr _ (fS hlt);have KH:=Ih (zM n) hlt;have hsc:zM n ss[k]=look (Jf n) ss[k].rules ss[k].rules.length:=rfl;have hw6:i64.wrap ((ss[k].rules.length:Int)-1)=(ss[k].rules.length:Int)-1:=by rw[wrap64]<;>omega
  rw[hk0];have W:=aA hlt (aA hg hw6);refine wl ?_;refine aO (ι:={m:Nat // m<=ss[k].rules.length/\zM n ss[k]=look (Jf n) ss[k].rules m}) (λt o i=>⟨bC t [(6,.int .i64 ((i.1:Int)-1))],o⟩)
   (λi=>i.1) ⟨ss[k].rules.length,by simp,rfl⟩ aJ ?_
  rintro⟨m,hm,hj⟩ K2 hK2;simp only[bC,cW,cU]at hK2 hm hj⊢;cases m with
  |zero=>rw[hj,Ii]at KH;simp only at KH;have W:=hk1;refine wl ?_;exact hK1 _ ⟨k,by omega,by rw[hi,KH]⟩ aJ (by simp only;omega)
  |succ m=>
   have VA:m<ss[k].rules.length:=by omega
   have ic:(((m+1:Nat):Int)-1)=(m:Int):=by omega
   have hgm:=aE VA;have G6:i64.wrap ((m:Int)-1)=(m:Int)-1:=by rw[wrap64]<;>omega
   have hlr:=Ih (Jf n) VA;have wK:Jf n ss[k].rules[m]=if ss[k].rules[m].name=n then some ss[k].rules[m].color else none:=rfl
   rw[ic];by_cases hn:ss[k].rules[m].name=n
   .rw [eK hn]at wK;rw[wK]at hlr;simp only at hlr;rw[hj,hlr]at KH;simp only at KH;rw[hi,KH];have W:=aA hlt (aA hg (aA VA (aA hgm hn)));refine wl ?_;exact aD results305
   .rw [cX hn]at wK;rw[wK]at hlr;simp only at hlr;have W:=aA hlt (aA hg (aA VA (aA hgm (aA hn G6))));repeat' first|refine wg ?_|(refine sq ?_ ?_<;>intro hc<;>try exact hc.elim)|fail
    .exact absurd hc hn
    .exact hK2 _ ⟨m,by omega,by rw[hj,hlr]⟩ aJ (by simp only;omega)
theorem sS[aC prog](ss:List gQ)(n:bB)(hl:ss.length<=1099511627776)(hr:∀x∈ss,x.rules.length<=1099511627776):Ok prog 271 [.sl .view 1 (ss.map (dZ .view)),.str n] (.int .i64 (bJ ss n)):=by
 unfold bJ;refine bM aF func271 ntmps271 ?_;refine iF ?_;refine aO (ι:={k:Nat // k<=ss.length/\look (zM n) ss ss.length=look (zM n) ss k}) (λt o i=>⟨bC t [(5,.int .i64 ((i.1:Int)-1))],o⟩)
  (λi=>i.1) ⟨ss.length,by simp,rfl⟩ aJ ?_
 rintro⟨k,hk,hi⟩ K1 hK1;simp only[bC,cW,cU]at hK1 hi hk⊢;cases k with
 |zero=>rw[hi,Ii];refine iF ?_;exact aD results271
 |succ k=>
  have hlt:k<ss.length:=by omega
  have hk0:(((k+1:Nat):Int)-1)=(k:Int):=by omega
  have hg:=aE hlt;have hk1:i64.wrap ((k:Int)-1)=(k:Int)-1:=by rw[wrap64]<;>omega
  have hrl:=hr _ (fS hlt);have KH:=Ih (zM n) hlt;have hsc:zM n ss[k]=look (Jf n) ss[k].rules ss[k].rules.length:=rfl;have hw6:i64.wrap ((ss[k].rules.length:Int)-1)=(ss[k].rules.length:Int)-1:=by rw[wrap64]<;>omega
  rw[hk0];have W:=aA hlt (aA hg hw6);refine wl ?_;refine aO (ι:={m:Nat // m<=ss[k].rules.length/\zM n ss[k]=look (Jf n) ss[k].rules m}) (λt o i=>⟨bC t [(6,.int .i64 ((i.1:Int)-1))],o⟩)
   (λi=>i.1) ⟨ss[k].rules.length,by simp,rfl⟩ aJ ?_
  rintro⟨m,hm,hj⟩ K2 hK2;simp only[bC,cW,cU]at hK2 hm hj⊢;cases m with
  |zero=>rw[hj,Ii]at KH;simp only at KH;have W:=hk1;refine wl ?_;exact hK1 _ ⟨k,by omega,by rw[hi,KH]⟩ aJ (by simp only;omega)
  |succ m=>
   have VA:m<ss[k].rules.length:=by omega
   have ic:(((m+1:Nat):Int)-1)=(m:Int):=by omega
   have hgm:=aE VA;have G6:i64.wrap ((m:Int)-1)=(m:Int)-1:=by rw[wrap64]<;>omega
   have hlr:=Ih (Jf n) VA;have wK:Jf n ss[k].rules[m]=if ss[k].rules[m].name=n then some ss[k].rules[m].color else none:=rfl
   rw[ic];by_cases hn:ss[k].rules[m].name=n
   .rw [eK hn]at wK;rw[wK]at hlr;simp only at hlr;rw[hj,hlr]at KH;simp only at KH;rw[hi,KH];have W:=aA hlt (aA hg (aA VA (aA hgm hn)));refine wl ?_;exact aD results271
   .rw [cX hn]at wK;rw[wK]at hlr;simp only at hlr;have W:=aA hlt (aA hg (aA VA (aA hgm (aA hn G6))));repeat' first|refine wg ?_|(refine sq ?_ ?_<;>intro hc<;>try exact hc.elim)|fail
    .exact absurd hc hn
    .exact hK2 _ ⟨m,by omega,by rw[hj,hlr]⟩ aJ (by simp only;omega)
theorem pO[aC prog](b:bE)(n:bB)(hl:b.nodes.length<=1099511627776):Ok prog 304 [.agg (aU .view b),.str n] (.int .i64 (aX b n)):=by
 refine bM aF func304 ntmps304 ?_;refine aY ?_;refine aO (ι:={k:Nat // k<=b.nodes.length}) (λt o i=>⟨bC t [(11,.int .i64 i.1),(5,.int .i64 ((((b.nodes.take i.1).filter λx=>decide (x.name=n)).length:Nat):Int)),(7,.undef)],o.take 1⟩)
  (λi=>b.nodes.length-i.1) ⟨0,by simp⟩ aJ ?_
 rintro⟨k,hk⟩ K1 hK1;simp only[bC,cW,cU,eL,fX]at hK1⊢;have hk1:=oQ (k:=k);have hcl:((b.nodes.take k).filter λx=>decide (x.name=n)).length<=b.nodes.length:=by refine kO (oB _ _) ?_;simp;omega
 by_cases hlt:k<b.nodes.length
 .have hg:=aE hlt;have hst:=Tc b n k hlt;generalize ((b.nodes.take k).filter λx=>decide (x.name=n)).length=c at*;have hc1:i64.wrap ((c:Int)+1)=((c+1:Nat):Int):=by rw[wrap64]<;>omega
  by_cases hn:b.nodes[k].name=n
  .have hnb:(b.nodes[k].name == n)=true:=by simpa using hn
   rw[eK hn]at hst;have W:=aA hk1 (aA hc1 (aA hg (aA hlt hnb)));refine we ?_;all_goals exact hK1 _ ⟨k+1,by omega⟩ (aV 1 (by simp) (by simp[hst]) (by simp) (by simp)) (by simp only;omega)
  .have hnb:(b.nodes[k].name == n)=false:=by simpa using hn
   rw[cX hn]at hst;have W:=aA hk1 (aA hc1 (aA hg (aA hlt hnb)));refine we ?_;all_goals exact hK1 _ ⟨k+1,by omega⟩ (aV 1 (by simp) (by simp[hst]) (by simp) (by simp)) (by simp only;omega)
 .have htk:b.nodes.take k=b.nodes:=cY (by omega);rw[htk];have W:=hk1;refine we ?_;all_goals try(refine aQ ?_;simp[aP,results304,aX])
theorem pQ[aC prog](b:bE)(n:bB)(hl:b.nodes.length<=1099511627776):Ok prog 270 [.agg (aU .view b),.str n] (.int .i64 (aX b n)):=by
 refine bM aF func270 ntmps270 ?_;refine aY ?_;refine aO (ι:={k:Nat // k<=b.nodes.length}) (λt o i=>⟨bC t [(6,.int .i64 i.1),(5,.int .i64 ((((b.nodes.take i.1).filter λx=>decide (x.name=n)).length:Nat):Int))],o⟩)
  (λi=>b.nodes.length-i.1) ⟨0,by simp⟩ aJ ?_
 rintro⟨k,hk⟩ K1 hK1;simp only[bC,cW,cU]at hK1⊢;have hk1:=oQ (k:=k);by_cases hlt:k<b.nodes.length
 .have hg:=aE hlt;have hst:=Tc b n k hlt;have hcl:((b.nodes.take k).filter λx=>decide (x.name=n)).length<=b.nodes.length:=by
   refine kO (oB _ _) ?_;simp;omega
  generalize ((b.nodes.take k).filter λx=>decide (x.name=n)).length=c at*;have hc1:i64.wrap ((c:Int)+1)=((c+1:Nat):Int):=by rw[wrap64]<;>omega
  by_cases hn:b.nodes[k].name=n
  .have hnb:(b.nodes[k].name == n)=true:=by simpa using hn
   rw[eK hn]at hst;have W:=aA hk1 (aA hc1 (aA hg (aA hlt hnb)));refine we ?_;all_goals exact hK1 _ ⟨k+1,by omega⟩ (aJ (by simp) (by simp[hst])) (by simp only;omega)
  .have hnb:(b.nodes[k].name == n)=false:=by simpa using hn
   rw[cX hn]at hst;have W:=aA hk1 (aA hc1 (aA hg (aA hlt hnb)));refine we ?_;all_goals exact hK1 _ ⟨k+1,by omega⟩ (aJ (by simp) (by simp[hst])) (by simp only;omega)
 .have htk:b.nodes.take k=b.nodes:=cY (by omega);rw[htk];have W:=hk1;refine we ?_;all_goals try(refine aQ ?_;simp[aP,results270,aX])
def yN:bB:=[99,111,117,110,116,32]
def CY:bB:=[108,111,111,107,32]
def LK:bB:=[115,97,121,32]
def bU(b:bE)(ss:List gQ)(x:jT):bE×bB×bB:=
 if x.op=1 then(b,x.text.map tL,[])
 else if x.op=2 then(if (1<=b.nodes.length/\b.nodes.length<=39)/\dA x.text=true then({b with nodes:=b.nodes++[⟨x.text,[],0,[]⟩]},[],[])else(b,[],[]))
 else if x.op=3 then(b,[],yN++x.text++[32]++Lib.itoa (aX b x.text))
 else if x.op=4 then(b,[],CY++x.text++[32]++Lib.itoa (bJ ss x.text))
 else if x.op=5 then(b,[],LK++x.text)
 else(b,[],[])
theorem iG[aC prog](a:aG)(hs:aI a<=274877906944):Ok prog 87 [.agg (aH .view a)] (.agg (aH .own a)):=by simp only[aI]at hs;have c1:=Jb a.bD (by omega);have c2:=UW a.queue (by omega);have c3:=kP a.builder (by omega);simp only[bQ]at hs;simp only[bN]at c1;simp only[aU]at c3;refine bM aF func87 ntmps87 ?_;refine aY ?_;exact aD results87
theorem gK[aC prog](a:aG)(hs:aI a<=274877906944):Ok prog 65 [.agg (aH .view a)] (.agg (aH .own a)):=by simp only[aI]at hs;have c1:=UY a.bD (by omega);have c2:=UX a.queue (by omega);have c3:=kQ a.builder (by omega);simp only[bQ]at hs;simp only[bN]at c1;simp only[aU]at c3;refine bM aF func65 ntmps65 ?_;refine aY ?_;exact aD results65
def EZ(n:bB):Bool:=decide (n=[105,109,103]) || decide (n=[108,105,110,107])
def yR(b:bE)(m:bB)(n:Int):Bool:=decide (0<=n)&&(b.nodes[n.toNat]?).any λx=>decide (x.name=m)
def qE(b:bE)(m:bB):Nat->List Int
 |0=>b.opens
 |i+1=>if (b.opens[i+1]?).any (yR b m)then b.opens.take (i+1)else qE b m i
def nD(t:bT):Bool:=decide (t.kind=1)&& !EZ t.name
def uB(b:bE)(t:bT):jK:=if t.kind=1 then⟨t.name,[],b.opens.getLastD 0,t.attrs⟩else⟨[],t.text,b.opens.getLastD 0,[]⟩
def addToken(b:bE)(t:bT):bE×Int:=
 if t.kind=2 then({b with opens:=qE b t.name (b.opens.length-1)}, -1)
 else if¬(t.kind=1\/(t.kind=3/\t.text≠[]))then(b, -1)
 else if 40<=b.nodes.length\/b.opens=[]\/(nD t=true/\8<=b.opens.length)then(b, -1)
 else({nodes:=b.nodes++[uB b t],opens:=if nD t=true then b.opens++[((b.nodes.length:Nat):Int)]else b.opens},((b.nodes.length:Nat):Int))
theorem Pg(b:bE)(m:bB):∀k,(qE b m k).length<=b.opens.length
 |0=>eE _
 |k+1=>by
  unfold qE;split
  .simp;omega
  .exact Pg b m k
theorem Vf[aC prog](n:bB):Ok prog 249 [.str n] (.bool (EZ n)):=by
 unfold EZ;refine bM aF func249 ntmps249 ?_;have W:=trivial;repeat' first|refine wf ?_|(refine sq ?_ ?_<;>intro hc<;>try exact hc.elim)|fail
 all_goals try(refine aQ ?_;simp[aP,results249])
 all_goals first|(simp[hc];done)|(rw[Bool.eq_iff_iff];simp[hc])
theorem Vg[aC prog](n:bB):Ok prog 225 [.str n] (.bool (EZ n)):=by
 unfold EZ;refine bM aF func225 ntmps225 ?_;have W:=trivial;repeat' first|refine wf ?_|(refine sq ?_ ?_<;>intro hc<;>try exact hc.elim)|fail
 all_goals try(refine aQ ?_;simp[aP,results225])
 all_goals first|(simp[hc];done)|(rw[Bool.eq_iff_iff];simp[hc])
theorem jb{b:bE}{m:bB}{n:Int}(h:¬(0<=n/\n<(b.nodes.length:Int))):yR b m n=false:=by
 unfold yR;by_cases h0:0<=n
 .rw [pB (by omega)];simp
 .simp [h0]
theorem QM{b:bE}{m:bB}{k:Nat}(h:k<b.nodes.length):yR b m ((k:Nat):Int)=decide (b.nodes[k].name=m):=by unfold yR;simp[aE h]
theorem aBm[aC prog](l:List dX)(m:dX)(i:Nat)(hi:i<l.length)(hn:l.length<=1099511627776):MP prog 267 [.oM (.sl .own 5 (l.map eX)),.view (.int .i64 i),.oM (.sl .own 5 [eX m])] (.sl .own 5 ((l.take i++m::l.drop i).map eX)):=by
 have h:=aJq (P:=prog) (f:=267) (n:=l.length) (i:=i) (k:=5) (l:=l.map eX) (x:=eX m) (by simp) hi (by simp[all_map,Fy]) (by simp[Fy])
  (λw b off c C e fz olds news vb voff vc Cv ev YX hb hz hc hol h1o hfit hnc hmax hne hvb hzv hcv hnl PY=>by
   by_cases hr:l.length+1<=c
   .exact Yl w b off l.length c i vb voff vc C Cv e ev fz YX olds news hi hr hb hz hc hol h1o hfit hmax hne hvb hzv hcv hnl PY
   .exact jc w b off l.length c i vb voff vc C Cv e ev fz YX olds news hi (by omega) hn hb hz hc hol h1o hfit hnc hmax hne hvb hzv hcv hnl PY)
 rw[<-map_take,<-map_drop,rN]at h;simpa using h
theorem zx[aC prog](l:List dX)(m:dX)(hn:l.length<=1099511627776):MP prog 267 [.oM (.sl .own 5 (l.map eX)),.view (.int .i64 l.length),.oM (.sl .own 5 [eX m])] (.sl .own 5 ((l++[m]).map eX)):=by
 have h:=dz (P:=prog) (f:=267) (n:=l.length) (k:=5) (l:=l.map eX) (x:=eX m) (by simp) (by simp[all_map,Fy]) (by simp[Fy])
  (λw base bb c olds news vb voff vc hol hnc hmax hcv hnl PY hor=>by
   obtain⟨inf,Ka,hq⟩:=tD.1 (show(prog.info? 180).map (λi=>(i.size,i.bytes))=some (5,64)by kernel_rfl);obtain⟨hsz,hby⟩:=Prod.mk.inj hq;obtain⟨z,hz0,hzc⟩:=Ab Tryz.zsz180 Ka;have aGi:c<=9223372036854775807:=hmax;have holds:∀w',w'.heap=w.heap->(Builtin.firstCells inf.size l.length (.slice base l.length c)).run prog w'= .ok olds.toArray w':=by
    intro w' G5;rcases hor with⟨h0,h1⟩|⟨off,C,e,fz,rfl,hb,hz,hc,hfit⟩
    .rw [h0]at hol⊢;obtain rfl:=lO (by simpa using hol);cases base with
     |none=>simp[Builtin.firstCells]
     |some a'=>simp[Builtin.firstCells,loadCells,loadCellsFrom]
    .rw [hsz];exact kK hol (hc.heap G5)
   obtain⟨hroom,aCm⟩:=Jz (P:=prog) (w:=w) (tS:=63) (xT:=63) (ty:=63) Tryz.underlying63 ⟨_,Tryz.underlying63,λk h=>by cases h⟩ Ka hz0 (base:=base) (sLen:=l.length) (sCap:=c) (n:=1) (x:= .slice (some ⟨vb,voff,none⟩) 1 vc)
    (by simp[Builtin.lenOf]) (news:=news) (olds:=olds) (λw' G5=>by rw[hsz];exact kK (by omega) (hcv.heap G5)) holds (by rw[hby];omega) (by omega)
   by_cases hr:l.length+1<=c
   .rcases hor with⟨h0,h1⟩|⟨off,C,e,fz,rfl,hb,hz,hc,hfit⟩
    .omega
    .have hst:=uH (P:=prog) (off:=off+l.length*5) hb hz (by rw[hnl];have:=lA 5 hr;omega) PY;have hrun:=hroom hr _ (by rw[hsz];simpa [addr_add]using hst);obtain⟨C',hI⟩:=XZ (k:=5) hb hz hc hol hnl hr hfit hmax;exact Jj w _ l.length c vb voff vc _ _ _ hnc aGi (λh=>by cases h) (λty=>hrun) ⟨_,_,_,_,_,_,_,rfl,hI⟩
   .have hrun:=aCm (by omega);have hgc:=grownCap_ge w (l.length+1) c 180;have hgm:grownCap w (l.length+1) c 180<=maxLen:=DM _ _ _ _ (by simp[maxLen];omega);obtain⟨C',hI⟩:=Ya (w:=w) (b:=bb) (n:=l.length) (k:=5) (cap:=grownCap w (l.length+1) c 180) (e:=180) (olds:=olds) (news:=news) (ROW:=olds.toArray++news.toArray++Builtin.zeroCells z.cells (grownCap w (l.length+1) c 180-(l.length+1)))
     (λj v hv=>by
      rw[show olds.toArray++news.toArray=(olds++news).toArray by simp,tB (by simpa using(cH.1 hv).1)];simpa using hv)
     (by simp only[Array.size_append,size_toArray,size_zeroCells,hzc,hol,hnl];omega) hgc hgm
    exact Jj w _ l.length c vb voff vc _ _ _ hnc aGi (λh=>by
     subst h;rcases hor with⟨h0,h1⟩|⟨off,C,e,fz,h,_⟩
     .exact h0
     .cases h) (λty=>hrun) ⟨_,_,_,_,_,_,_,rfl,hI⟩)
 simpa using h
theorem WQ[aC prog](l:List dX)(m:dX)(i:Nat)(hi:i<=l.length)(hn:l.length<=1099511627776):MP prog 267 [.oM (.sl .own 5 (l.map eX)),.view (.int .i64 i),.oM (.sl .own 5 [eX m])] (.sl .own 5 ((l.take i++m::l.drop i).map eX)):=by
 by_cases h:i<l.length
 .exact aBm l m i h hn
 .obtain rfl:i=l.length:=by omega
  simpa using zx l m hn
end Go.Proofs.YtfbefblglejcaaaGreatDoor
