/- Proved here: steps towards the statement of this claim. No condition. -/
import Derived.Test.YtnkpkklemmgapaaGreatDoorZQT1
import Derived.Test.YtnkpkklemmgapaaGreatDoorZS1
import Derived.Test.YtnkpkklemmgapaaGreatDoorZQQ2
set_option linter.all false
set_option maxRecDepth 4000
set_option maxHeartbeats 4000000
namespace Go.Proofs.YtnkpkklemmgapaaGreatDoor
open Go.Aw Proofs.Tryz List IntKind
theorem F8(s:aU)(k:Nat)(h:k<s.length):(bA s)[k]? =some [.int .u8 s[k].toNat]:=by simp[bA,h]
theorem JR:∀s:aU,bytesOf (bA s)=some s
 |[]=>rfl
 |c::s=>by have ih:=JR s;simp only[bA,lA]at ih⊢;simp only[bytesOf,ih,mA,pD];simp
@[simp] theorem aNe(f:Tg->Option Tg)(b:Bool)(l:aU):iI f b (bA l)=bA l:=by
 induction l with
 |nil=>rfl
 |cons x l ih=>simp only[bA,lA,iI,qD,rt]at ih⊢;rw[ih]
def Cj(s:aU)(k:Nat):aU:=(s.take k).map Ch++s.drop k
theorem XY(s:aU)(k:Nat):(Cj s k).length=s.length:=by unfold Cj;rw[eM,oT,oY,AI];omega
theorem XZ(s:aU)(k:Nat)(h:k<s.length):(Cj s k)[k]? =some s[k]:=by unfold Cj;rw[mL (by rw[oT,oY];omega)];simp[show min k s.length=k by omega,aE h]
theorem Ya(s:aU)(k:Nat)(h:k<s.length):(Cj s k).set k (Ch s[k])=Cj s (k+1):=by
 unfold Cj;have hl:((s.take k).map Ch).length=k:=by simp;omega
 rw[Fm _ _ (by omega),hl,DS,oS h,cJ,eL h,oX];simp
theorem F9(s:aU)(k:Nat)(h:k<s.length)(hm:Ch s[k]=s[k]):Cj s (k+1)=Cj s k:=by
 rw[<-Ya s k h,hm];have e:=XZ s k h;refine AK λi=> ?_
 rw[DO];split
 .rename_i hi;subst hi;rw[eW (by rw[XY];exact h)];exact e.symm
 .rfl
theorem Yb(l:aU)(k:Nat)(c:UInt8):(bA l).set k [.int .u8 c.toNat]=bA (l.set k c):=by simp[bA,map_set]
theorem oK[aB prog](s:aU)(hl:s.length<=1099511627776):Ok prog 246 [.str s] (.str (s.map Ch)):=by
 refine dL aO func246 ntmps246 ?_;have W:=trivial;repeat' first|refine wf ?_|(refine nx ?_;refine sb ?_)|(refine sq ?_ ?_<;>intro hc<;>try exact hc.elim)|fail
 refine aI (ι:={k:Nat // k<=s.length}) (λt o i=>⟨bH t [(4,.int .i64 i.1)],[⟨true,false,1,1,bA (Cj s i.1)⟩]⟩)
  (λi=>s.length-i.1) ⟨0,by simp⟩ (aG (by simp[Cj]) (by simp)) ?_
 rintro⟨k,hk⟩ K1 hK1;simp only[bH,cH,cJ]at hK1⊢;have hk1:=rE (k:=k);by_cases hlt:k<s.length
 .have hul:=XY s k;have hug:=XZ s k hlt;have hbl:=lN (Cj s k);have hg:(bA (Cj s k))[k]? =some [.int .u8 s[k].toNat]:=by rw[F8 _ _ (by omega)];rw[aE (by omega)]at hug;rw[cU hug]
  have Y6:k<(bA (Cj s k)).length:=by omega
  have hs1:=Ya s k hlt;have iH:=F9 s k hlt;by_cases h1:s[k]=91
  .have h1i:((s[k].toNat:Nat):Int)=91:=by rw[h1];rfl
   have hset:(bA (Cj s k)).set k [.int .u8 60]=bA (Cj s (k+1)):=by rw[<-hs1,<-Yb];simp[Ch,h1]
   have W:=aA hk1 (aA hg (aA hbl (aA hul (aA h1i hset))));have V:=aA Y6 hlt;repeat' first|refine wf ?_|(refine nx ?_;refine sb ?_)|(refine sq ?_ ?_<;>intro hc<;>try exact hc.elim)|fail
   all_goals exact hK1 _ ⟨k+1,by omega⟩ aG (by simp only;omega)
  .have h1i:¬((s[k].toNat:Nat):Int)=91:=λh=>h1 (UInt8.toNat.inj (by exact_mod_cast h))
   by_cases h2:s[k]=93
   .have h2i:((s[k].toNat:Nat):Int)=93:=by rw[h2];rfl
    have hset:(bA (Cj s k)).set k [.int .u8 62]=bA (Cj s (k+1)):=by rw[<-hs1,<-Yb];simp[Ch,h2]
    have W:=aA hk1 (aA hg (aA hbl (aA hul (aA h1i (aA h2i hset)))));have V:=aA Y6 hlt;repeat' first|refine wf ?_|(refine nx ?_;refine sb ?_)|(refine sq ?_ ?_<;>intro hc<;>try exact hc.elim)|fail
    all_goals exact hK1 _ ⟨k+1,by omega⟩ aG (by simp only;omega)
   .have h2i:¬((s[k].toNat:Nat):Int)=93:=λh=>h2 (UInt8.toNat.inj (by exact_mod_cast h))
    have hsm:=iH (by simp[Ch,h1,h2]);have W:=aA hk1 (aA hg (aA hbl (aA hul (aA h1i h2i))));have V:=aA Y6 hlt;repeat' first|refine wf ?_|(refine nx ?_;refine sb ?_)|(refine sq ?_ ?_<;>intro hc<;>try exact hc.elim)|fail
    all_goals exact hK1 _ ⟨k+1,by omega⟩ (aG (by simp[hsm]) (by simp)) (by simp only;omega)
 .have hk2:k=s.length:=by omega
  have hup:Cj s k=s.map Ch:=by simp[Cj,hk2]
  have hul:(s.map Ch).length=s.length:=by simp
  have hbl:=lN (s.map Ch);have hbo:=JR (s.map Ch);rw[hup];have hnk:¬k<s.length:=hlt;have W:=aA hk1 (aA hbl (aA hul hbo));repeat' first|refine wf ?_|(refine nx ?_;refine sb ?_)|(refine sq ?_ ?_<;>intro hc<;>try exact hc.elim)|fail
  exact aR results246
def bO(b:aY)(n:aU):Int:=(((b.nodes.filter λx=>decide (x.name=n)).length:Nat):Int)
theorem il(b:aY)(n:aU)(k:Nat)(h:k<b.nodes.length):((b.nodes.take (k+1)).filter λx=>decide (x.name=n)).length=((b.nodes.take k).filter λx=>decide (x.name=n)).length+(if b.nodes[k].name=n then 1 else 0):=by rw[eL h,filter_append,eM];congr 1;by_cases hn:b.nodes[k].name=n<;>simp[hn]
def LD(p:aU):aU:=p.take (kC 58 p)
def Cn(p:aU):aU:=p.drop (kC 58 p+1)
def rF(p:aU):Option nZ:=match yX (Cn p)with
 |some v=>if dJ (LD p)=true/\1<=v/\v<=999 then some ⟨LD p,v⟩else none
 |none=>none
def kP(l:List aU):List nZ:=(l.filterMap rF).take 8
def rG(s:aU):bW:=⟨kP (dP 59 s)⟩
theorem FZ{p:aU}(h:yX (Cn p)=none):rF p=none:=by rw[rF,h]
theorem MH{p:aU}(h:dJ (LD p)=false):rF p=none:=by
 unfold rF;split
 .rw [eK (by simp[h])]
 .rfl
theorem PR{p:aU}{v:Int}(h:yX (Cn p)=some v)(h1:¬(1<=v/\v<=999)):rF p=none:=by rw[rF,h];exact eK (λh=>h1 h.2)
theorem PS{p:aU}{v:Int}(h:yX (Cn p)=some v)(hn:dJ (LD p)=true)(h1:1<=v/\v<=999):rF p=some ⟨LD p,v⟩:=by rw[rF,h];exact eW ⟨hn,h1⟩
theorem PT{l:List aU}{k:Nat}(h:k<l.length)(hr:rF l[k]=none):kP (l.take (k+1))=kP (l.take k):=by unfold kP;rw[eL h,filterMap_append];simp[hr]
theorem PU{l:List aU}{k:Nat}{r:nZ}(h:k<l.length)(hr:rF l[k]=some r)(h8:(kP (l.take k)).length<8):kP (l.take (k+1))=kP (l.take k)++[r]:=by unfold kP at*;rw[eL h,filterMap_append];simp only[oY]at h8;simp only[filterMap_cons,hr,filterMap_nil];generalize (l.take k).filterMap rF=x at*;rw[eJ (l:=x++[r]) (by simp;omega),eJ (l:=x) (by omega)]
theorem PV{l:List aU}{k:Nat}(h8:¬(kP (l.take k)).length<8):kP l=kP (l.take k):=by
 unfold kP at*;conv=>lhs;rw[<-mN k l,filterMap_append]
 simp only[oY]at h8;rw[AT (by omega)]
theorem Yg{l:List aU}{k:Nat}(h8:¬(kP (l.take k)).length<8):kP (l.take (k+1))=kP (l.take k):=by have:= @PV (l.take (k+1)) k;rw[take_take,DA (by omega)]at this;exact this h8
theorem JS(l:List aU):(kP l).length<=8:=by unfold kP;simp;omega
theorem jf{p:aU}{x:UInt8}(hx:x∈Cn p)(h:x=58):yX (Cn p)=none:=by obtain⟨k,hk,e⟩:=mem_iff_getElem.1 hx;refine Yd hk ?_;rw[e,h];decide
theorem aLr(p:aU):(dP 58 p=[LD p,Cn p])\/((dP 58 p).length≠2/\rF p=none):=by
 rw[vR];by_cases h:kC 58 p<p.length
 .rw [eW h];by_cases h2:∀x∈Cn p,x≠58
  .left;rw[show p.drop (kC 58 p+1)=Cn p from rfl,Ew _ _ h2];rfl
  .right;have⟨x,hx⟩:=Classical.not_forall.1 h2;have⟨hm,hne⟩:=Classical.not_imp.1 hx;have aO7:=DM.1 hne;refine⟨?_,FZ (jf hm aO7)⟩;rw[show p.drop (kC 58 p+1)=Cn p from rfl,dT,jU];have:0<(Cn p).count 58:=count_pos_iff.2 (aO7▸hm);omega
 .right;rw[eK h];refine⟨by simp,FZ ?_⟩;have e:Cn p=[]:=by unfold Cn;exact drop_eq_nil_of_le (by omega)
  rw[e];exact Uk (by simp)
theorem JU[aB prog][dY prog][eO prog][pM prog](s:aU)(hl:s.length<=1073741824):Ok prog 53 [.str s] (.agg (bX .own (rG s))):=by
 have cS:=G9 s 59 (by omega);have hsm:=Cm 59 s;have hsl:=jU 59 s;have hcn:s.count 59<=s.length:=tB;unfold rG;generalize dP 59 s=l at*;have hll:l.length<=1073741825:=by omega
 simp only[bX];refine dL aO func53 ntmps53 ?_;refine dH ?_;refine aI (ι:={q:Nat×Nat×List nZ // (q.1<=l.length/\1<=q.2.1)/\q.2.2=kP (l.take q.1)}) (λt o i=>⟨bH t [(15,.int .i64 i.1.1),(11,.undef)],o.take 1++[⟨true,true,1,0,[[.obj 3 i.1.2.1]]⟩,⟨true,false,1,1,l.map dQ⟩,⟨true,false,2,i.1.2.1,i.1.2.2.map kM⟩]⟩)
  (λi=>l.length-i.1.1) ⟨(0,1,[]),by simp,by simp[kP]⟩ (pR 1 0 0 (ob:=⟨true,true,1,0,[[.sl .own 2 []]]⟩) (by rfl) (by rfl) (by rfl) (by simp) (by rfl) (by rfl) (by simp) (by simp[qD,rt,gU])) ?_
 rintro⟨⟨k,v,acc⟩,⟨hk,hv⟩,xP⟩ K1 hK1;simp only at hk hv xP;simp only[bH,cH,cJ,fL,lE,cW,cY]at hK1⊢;have hk1:=rE (k:=k);by_cases hlt:k<l.length
 .have hg:=aE hlt;have hwz:=dD dI l k hlt;simp only[dI]at hwz;have cC:=Sg l[k] 58 (by omega);have cN:=BN (LD l[k]) (by simp[LD];omega);have cP:=Nz (Cn l[k]) (by simp[Cn];omega);change Ok _ _ _ (.iP [.str (LD l[k]),.str (Cn l[k]),.bool (decide (kC 58 l[k]<l[k].length))])at cC;have n1:= @PT l k hlt;have n2:=λr=> @PU l k r hlt
  have n3:= @Yg l k;have r1:= @FZ l[k];have r2:= @MH l[k];have r3:=λv=> @PR l[k] v
  have r4:=λv=> @PS l[k] v
  have ha8:=JS (l.take k);rw[<-xP]at n1 n2 n3 ha8;generalize Ry:kP (l.take (k+1))=PW at*;generalize hrl:rF l[k]=ru at*;generalize decide (kC 58 l[k]<l[k].length)=b1 at*;generalize LD l[k]=ky at*;generalize Cn l[k]=vl at*;cases hp:yX vl with
  |none=>rw[tH hp]at cP;have e2:=n1 (r1 hp);clear r1 r2 r3 r4 n1 n2 n3;have W:=aA hk1 (aA hg hlt);refine we ?_;exact hK1 _ ⟨(k+1,v,acc),⟨by simp only;omega,hv⟩,(by simp only;rw[Ry];exact e2.symm)⟩ (aL 4) (by simp only;omega)
  |some x=>
   rw[De hp]at cP;cases hn:dJ ky with
   |false=>rw[hn]at cN;have e2:=n1 (r2 hn);clear r1 r2 r3 r4 n1 n2 n3;have W:=aA hk1 (aA hg hlt);refine we ?_;exact hK1 _ ⟨(k+1,v,acc),⟨by simp only;omega,hv⟩,(by simp only;rw[Ry];exact e2.symm)⟩ (aL 4) (by simp only;omega)
   |true=>
    rw[hn]at cN;have cR:=Ck x 1 999;by_cases hx:1<=x/\x<=999
    .have hb:(decide ((1:Int)<=x)&&decide (x<=(999:Int)))=true:=by simp;omega
     rw[hb]at cR;have hr:=r4 x hp hn hx;by_cases h8:acc.length<8
     .have h8i:((acc.length:Int)<8):=by omega
      have e2:=n2 _ hr h8;clear r1 r2 r3 r4 n1 n2 n3;have hps:PW.map kM=acc.map kM++[kM ⟨ky,x⟩]:=by rw[e2];simp
      have Lr:(acc.map kM).length=acc.length:=by simp
      have W:=aA hk1 (aA hg (aA hlt h8i));refine we ?_;exact hK1 _ ⟨(k+1,v+1,PW),⟨by simp only;omega,by simp only;omega⟩,(by simp only;exact Ry.symm)⟩ (aL 4 (by simp[hps])) (by simp only;omega)
     .have h8i:¬((acc.length:Int)<8):=by omega
      have e2:=n3 h8;clear r1 r2 r3 r4 n1 n2 n3;have W:=aA hk1 (aA hg (aA hlt h8i));refine we ?_;exact hK1 _ ⟨(k+1,v,acc),⟨by simp only;omega,hv⟩,(by simp only;rw[Ry];exact e2.symm)⟩ (aL 4) (by simp only;omega)
    .have hb:(decide ((1:Int)<=x)&&decide (x<=(999:Int)))=false:=by simp only[rN,pL];omega
     rw[hb]at cR;have e2:=n1 (r3 x hp hx);clear r1 r2 r3 r4 n1 n2 n3;have W:=aA hk1 (aA hg hlt);refine we ?_;exact hK1 _ ⟨(k+1,v,acc),⟨by simp only;omega,hv⟩,(by simp only;rw[Ry];exact e2.symm)⟩ (aL 4) (by simp only;omega)
 .have htk:l.take k=l:=eJ (by omega);rw[htk]at xP;subst xP;have W:=hk1;refine we ?_;exact aR results53
theorem JV[aB prog][dY prog][eO prog](s:aU)(hl:s.length<=1073741824):Ok prog 62 [.str s] (.agg (bX .own (rG s))):=by
 have cS:Ok prog 93 [.str s,.int .u8 59] (.sl .own 1 ((dP 59 s).map dQ)):=vI s 59 (by omega);have hsm:=Cm 59 s;have hsl:=jU 59 s;have hcn:s.count 59<=s.length:=tB;unfold rG;generalize dP 59 s=l at*;have hll:l.length<=1073741825:=by omega
 simp only[bX];refine dL aO func62 ntmps62 ?_;refine dH ?_;refine aI (ι:={q:Nat×Nat×List nZ // (q.1<=l.length/\1<=q.2.1)/\q.2.2=kP (l.take q.1)}) (λt o i=>⟨bH t [(5,.int .i64 i.1.1),(9,.undef)],o.take 1++[⟨true,true,1,0,[[.obj 3 i.1.2.1]]⟩,⟨true,false,1,1,l.map dQ⟩,⟨true,false,2,i.1.2.1,i.1.2.2.map kM⟩]⟩)
  (λi=>l.length-i.1.1) ⟨(0,1,[]),by simp,by simp[kP]⟩ (pR 1 0 0 (ob:=⟨true,true,1,0,[[.sl .own 2 []]]⟩) (by rfl) (by rfl) (by rfl) (by simp) (by rfl) (by rfl) (by simp) (by simp[qD,rt,gU])) ?_
 rintro⟨⟨k,v,acc⟩,⟨hk,hv⟩,xP⟩ K1 hK1;simp only at hk hv xP;simp only[bH,cH,cJ,fL,lE,cW,cY]at hK1⊢;have hk1:=rE (k:=k);have Lr:(acc.map kM).length=acc.length:=by simp
 by_cases hlt:k<l.length
 .have hg:=aE hlt;by_cases h8:acc.length<8
  .have h8i:((acc.length:Int)<8):=by omega
   have hwz:=dD dI l k hlt;simp only[dI]at hwz;have cC:Ok prog 93 [.str l[k],.int .u8 58] (.sl .own 1 ((dP 58 l[k]).map dQ)):=vI l[k] 58 (by omega);have cN:=dZ (LD l[k]) (by simp[LD];omega);have cP:=Ny (Cn l[k]) (by simp[Cn];omega);have n1:= @PT l k hlt;have n2:=λr=> @PU l k r hlt
   have r1:= @FZ l[k];have r2:= @MH l[k];have r3:=λv=> @PR l[k] v
   have r4:=λv=> @PS l[k] v
   have h2:=aLr l[k];have hsg:=jU 58 l[k];have hcg:l[k].count 58<=l[k].length:=tB;rw[<-xP]at n1 n2;generalize Ry:kP (l.take (k+1))=PW at*;generalize hrl:rF l[k]=ru at*;generalize LD l[k]=ky at*;generalize Cn l[k]=vl at*;generalize dP 58 l[k]=ps at*;rcases h2 with h2|⟨h2,hr⟩
   .subst h2;simp only[lA,Ds,dQ]at cC;cases hn:dJ ky with
    |false=>rw[hn]at cN;have e2:=n1 (r2 hn);clear r1 r2 r3 r4 n1 n2;have W:=aA hk1 (aA hg (aA hlt h8i));refine we ?_;exact hK1 _ ⟨(k+1,v,acc),⟨by simp only;omega,hv⟩,(by simp only;rw[Ry];exact e2.symm)⟩ (aL 4) (by simp only;omega)
    |true=>
     rw[hn]at cN;cases hp:yX vl with
     |none=>rw[tH hp]at cP;have e2:=n1 (r1 hp);clear r1 r2 r3 r4 n1 n2;have W:=aA hk1 (aA hg (aA hlt h8i));refine we ?_;exact hK1 _ ⟨(k+1,v,acc),⟨by simp only;omega,hv⟩,(by simp only;rw[Ry];exact e2.symm)⟩ (aL 4) (by simp only;omega)
     |some x=>
      rw[De hp]at cP;have cR:=eX x 1 999;by_cases hx:1<=x/\x<=999
      .have hb:(decide ((1:Int)<=x)&&decide (x<=(999:Int)))=true:=by simp;omega
       rw[hb]at cR;have e2:=n2 _ (r4 x hp hn hx) h8;clear r1 r2 r3 r4 n1 n2;have hps:PW.map kM=acc.map kM++[kM ⟨ky,x⟩]:=by rw[e2];simp
       have W:=aA hk1 (aA hg (aA hlt (aA h8i Lr)));refine we ?_;all_goals exact hK1 _ ⟨(k+1,v+1,PW),⟨by simp only;omega,by simp only;omega⟩,(by simp only;exact Ry.symm)⟩ (aL 4 (by simp[hps])) (by simp only;omega)
      .have hb:(decide ((1:Int)<=x)&&decide (x<=(999:Int)))=false:=by simp only[rN,pL];omega
       rw[hb]at cR;have e2:=n1 (r3 x hp hx);clear r1 r2 r3 r4 n1 n2;have W:=aA hk1 (aA hg (aA hlt h8i));refine we ?_;exact hK1 _ ⟨(k+1,v,acc),⟨by simp only;omega,hv⟩,(by simp only;rw[Ry];exact e2.symm)⟩ (aL 4) (by simp only;omega)
   .have e2:=n1 hr;have h2i:¬((ps.length:Int)=2):=by omega
    clear r1 r2 r3 r4 n1 n2 cN cP;have W:=aA hk1 (aA hg (aA hlt (aA h8i h2i)));refine we ?_;exact hK1 _ ⟨(k+1,v,acc),⟨by simp only;omega,hv⟩,(by simp only;rw[Ry];exact e2.symm)⟩ (aL 4) (by simp only;omega)
  .have h8i:¬((acc.length:Int)<8):=by omega
   have hf:=PV (l:=l) (k:=k) (by rw[<-xP];exact h8);rw[<-xP]at hf;rw[hf];have W:=aA hk1 (aA hg (aA hlt (aA h8i Lr)));refine we ?_;exact aR results62
 .have htk:l.take k=l:=eJ (by omega);rw[htk]at xP;subst xP;have W:=hk1;refine we ?_;exact aR results62
def JW(x:nK):Bool:=decide (x.mode=2)&&x.done&&decide (x.code=1)
def kQ(l:List nK):List bW:=(l.filter JW).map λx=>rG x.body
def bF(p:aC):List bW:=kQ p.aF
theorem PX{l:List nK}{k:Nat}(h:k<l.length)(ho:JW l[k]=true):kQ (l.take (k+1))=kQ (l.take k)++[rG l[k].body]:=by unfold kQ;rw[eL h,filter_append,oX];simp[ho]
theorem Uo{l:List nK}{k:Nat}(h:k<l.length)(ho:JW l[k]=false):kQ (l.take (k+1))=kQ (l.take k):=by unfold kQ;rw[eL h,filter_append];simp[ho]
theorem wK(l:List nK):(kQ l).length<=l.length:=by unfold kQ;rw[oT];exact sL _ _
theorem DR[aB prog][dY prog][eO prog][pM prog](p:aC)(hs:bV iU p.aF<=1073741824):Ok prog 21 [.agg (aQ .view p)] (.sl .own 1 ((bF p).map (bX .own))):=by
 simp only[bV]at hs;unfold bF;simp only[aQ];generalize p.aF=l at*;refine dL aO func21 ntmps21 ?_;refine oU ?_;refine aI (ι:={q:Nat×Nat×List bW // (q.1<=l.length/\1<=q.2.1)/\q.2.2=kQ (l.take q.1)}) (λt o i=>⟨bH t [(10,.int .i64 i.1.1),(3,.obj 1 i.1.2.1)],o.take 1++[⟨true,false,1,i.1.2.1,i.1.2.2.map (bX .own)⟩]⟩)
  (λi=>l.length-i.1.1) ⟨(0,1,[]),by simp,by simp[kQ]⟩ aG ?_
 rintro⟨⟨k,v,acc⟩,⟨hk,hv⟩,xP⟩ K1 hK1;simp only at hk hv xP;simp only[bH,cH,cJ,fL,lE,cW,cY]at hK1⊢;have hk1:=rE (k:=k);by_cases hlt:k<l.length
 .have hg:=aE hlt;have hwz:=dD iU l k hlt;simp only[iU]at hwz;have cP:=JU l[k].body (by omega);have n1:= @Uo l k hlt;have n2:= @PX l k hlt;have hal:acc.length<=k:=by rw[xP];have:=wK (l.take k);rw[oY]at this;omega
  have Lr:(acc.map (bX .own)).length=acc.length:=by simp
  rw[<-xP]at n1 n2;generalize Ry:kQ (l.take (k+1))=PW at*;generalize rG l[k].body=sh at*;unfold JW at n1 n2;by_cases h1:l[k].mode=2
  .cases h2:l[k].done
   .have e2:=n1 (by simp[h2]);have W:=aA hk1 (aA hg (aA hlt (aA h1 h2)));refine wl ?_;all_goals exact hK1 _ ⟨(k+1,v,acc),⟨by simp only;omega,hv⟩,(by simp only;rw[Ry];exact e2.symm)⟩ (aL 2) (by simp only;omega)
   .by_cases h3:l[k].code=1
    .have e2:=n2 (by simp[h1,h2,h3]);have hps:PW.map (bX .own)=acc.map (bX .own)++[bX .own sh]:=by rw[e2];simp
     simp only[bX]at cP;clear n1 n2;generalize acc.map (bX .own)=g at*;have W:=aA hk1 (aA hg (aA hlt (aA h1 (aA h2 (aA h3 Lr)))));refine wl ?_;all_goals exact hK1 _ ⟨(k+1,v+1,PW),⟨by simp only;omega,by simp only;omega⟩,(by simp only;exact Ry.symm)⟩ (aL 2 (by simp[hps])) (by simp only;omega)
    .have e2:=n1 (by simp[h3]);have W:=aA hk1 (aA hg (aA hlt (aA h1 (aA h2 h3))));refine wl ?_;all_goals exact hK1 _ ⟨(k+1,v,acc),⟨by simp only;omega,hv⟩,(by simp only;rw[Ry];exact e2.symm)⟩ (aL 2) (by simp only;omega)
  .have e2:=n1 (by simp[h1]);have W:=aA hk1 (aA hg (aA hlt h1));refine wl ?_;all_goals exact hK1 _ ⟨(k+1,v,acc),⟨by simp only;omega,hv⟩,(by simp only;rw[Ry];exact e2.symm)⟩ (aL 2) (by simp only;omega)
 .have htk:l.take k=l:=eJ (by omega);rw[htk]at xP;subst xP;have W:=hk1;refine wl ?_;exact aR results21
theorem yY[aB prog][dY prog][eO prog](p:aC)(hs:bV iU p.aF<=1073741824):Ok prog 34 [.agg (aQ .view p)] (.sl .own 1 ((bF p).map (bX .own))):=by
 simp only[bV]at hs;unfold bF;simp only[aQ];generalize p.aF=l at*;refine dL aO func34 ntmps34 ?_;refine oU ?_;refine aI (ι:={q:Nat×Nat×List bW // (q.1<=l.length/\1<=q.2.1)/\q.2.2=kQ (l.take q.1)}) (λt o i=>⟨bH t [(4,.int .i64 i.1.1),(3,.obj 1 i.1.2.1)],o.take 1++[⟨true,false,1,i.1.2.1,i.1.2.2.map (bX .own)⟩]⟩)
  (λi=>l.length-i.1.1) ⟨(0,1,[]),by simp,by simp[kQ]⟩ aG ?_
 rintro⟨⟨k,v,acc⟩,⟨hk,hv⟩,xP⟩ K1 hK1;simp only at hk hv xP;simp only[bH,cH,cJ,fL,lE,cW,cY]at hK1⊢;have hk1:=rE (k:=k);by_cases hlt:k<l.length
 .have hg:=aE hlt;have hwz:=dD iU l k hlt;simp only[iU]at hwz;have cP:=JV l[k].body (by omega);have n1:= @Uo l k hlt;have n2:= @PX l k hlt;have hal:acc.length<=k:=by rw[xP];have:=wK (l.take k);rw[oY]at this;omega
  have Lr:(acc.map (bX .own)).length=acc.length:=by simp
  rw[<-xP]at n1 n2;generalize Ry:kQ (l.take (k+1))=PW at*;generalize rG l[k].body=sh at*;unfold JW at n1 n2;by_cases h1:l[k].mode=2
  .cases h2:l[k].done
   .have e2:=n1 (by simp[h2]);have W:=aA hk1 (aA hg (aA hlt (aA h1 h2)));refine wl ?_;all_goals exact hK1 _ ⟨(k+1,v,acc),⟨by simp only;omega,hv⟩,(by simp only;rw[Ry];exact e2.symm)⟩ (aL 2) (by simp only;omega)
   .by_cases h3:l[k].code=1
    .have e2:=n2 (by simp[h1,h2,h3]);have hps:PW.map (bX .own)=acc.map (bX .own)++[bX .own sh]:=by rw[e2];simp
     simp only[bX]at cP;clear n1 n2;generalize acc.map (bX .own)=g at*;have W:=aA hk1 (aA hg (aA hlt (aA h1 (aA h2 (aA h3 Lr)))));refine wl ?_;all_goals exact hK1 _ ⟨(k+1,v+1,PW),⟨by simp only;omega,by simp only;omega⟩,(by simp only;exact Ry.symm)⟩ (aL 2 (by simp[hps])) (by simp only;omega)
    .have e2:=n1 (by simp[h3]);have W:=aA hk1 (aA hg (aA hlt (aA h1 (aA h2 h3))));refine wl ?_;all_goals exact hK1 _ ⟨(k+1,v,acc),⟨by simp only;omega,hv⟩,(by simp only;rw[Ry];exact e2.symm)⟩ (aL 2) (by simp only;omega)
  .have e2:=n1 (by simp[h1]);have W:=aA hk1 (aA hg (aA hlt h1));refine wl ?_;all_goals exact hK1 _ ⟨(k+1,v,acc),⟨by simp only;omega,hv⟩,(by simp only;rw[Ry];exact e2.symm)⟩ (aL 2) (by simp only;omega)
 .have htk:l.take k=l:=eJ (by omega);rw[htk]at xP;subst xP;have W:=hk1;refine wl ?_;exact aR results34
def look{α:Type}(f:α->Option Int)(l:List α)(k:Nat):Option Int:=((l.take k).reverse).findSome? f
theorem Ga{α:Type}(f:α->Option Int){l:List α}{k:Nat}(h:k<l.length):look f l (k+1)=match f l[k]with|some x=>some x|none=>look f l k:=by unfold look;rw[eL h,reverse_append];simp only[reverse_cons,reverse_nil,cY,singleton_append,findSome?_cons];cases f l[k]<;>rfl
theorem Gb{α:Type}(f:α->Option Int)(l:List α):look f l 0=none:=rfl
def Co(n:aU)(r:nZ):Option Int:=if r.name=n then some r.color else none
def tJ(n:aU)(s:bW):Option Int:=look (Co n) s.rules s.rules.length
def bG(ss:List bW)(n:aU):Int:=(look (tJ n) ss ss.length).getD 0
theorem EG[aB prog](ss:List bW)(n:aU)(hl:ss.length<=1099511627776)(hr:∀x∈ss,x.rules.length<=1099511627776):Ok prog 52 [.sl .view 1 (ss.map (bX .view)),.str n] (.int .i64 (bG ss n)):=by
 unfold bG;refine dL aO func52 ntmps52 ?_;refine oU ?_;refine aI (ι:={k:Nat // k<=ss.length/\look (tJ n) ss ss.length=look (tJ n) ss k}) (λt o i=>⟨bH t [(5,.int .i64 ((i.1:Int)-1))],o⟩)
  (λi=>i.1) ⟨ss.length,by simp,rfl⟩ aG ?_
 rintro⟨k,hk,hi⟩ K1 hK1;simp only[bH,cH,cJ]at hK1 hi hk⊢;cases k with
 |zero=>rw[hi,Gb];refine oU ?_;exact aR results52
 |succ k=>
  have hlt:k<ss.length:=by omega
  have hk0:(((k+1:Nat):Int)-1)=(k:Int):=by omega
  have hg:=aE hlt;have hk1:i64.wrap ((k:Int)-1)=(k:Int)-1:=by rw[wrap64]<;>omega
  have hrl:=hr _ (hI hlt);have Mq:=Ga (tJ n) hlt;have hsc:tJ n ss[k]=look (Co n) ss[k].rules ss[k].rules.length:=rfl;have hw6:i64.wrap ((ss[k].rules.length:Int)-1)=(ss[k].rules.length:Int)-1:=by rw[wrap64]<;>omega
  rw[hk0];have W:=aA hlt (aA hg hw6);refine wl ?_;refine aI (ι:={m:Nat // m<=ss[k].rules.length/\tJ n ss[k]=look (Co n) ss[k].rules m}) (λt o i=>⟨bH t [(6,.int .i64 ((i.1:Int)-1))],o⟩)
   (λi=>i.1) ⟨ss[k].rules.length,by simp,rfl⟩ aG ?_
  rintro⟨m,hm,hj⟩ K2 hK2;simp only[bH,cH,cJ]at hK2 hm hj⊢;cases m with
  |zero=>rw[hj,Gb]at Mq;simp only at Mq;have W:=hk1;refine wl ?_;exact hK1 _ ⟨k,by omega,by rw[hi,Mq]⟩ aG (by simp only;omega)
  |succ m=>
   have OQ:m<ss[k].rules.length:=by omega
   have hm0:(((m+1:Nat):Int)-1)=(m:Int):=by omega
   have hgm:=aE OQ;have Hw:i64.wrap ((m:Int)-1)=(m:Int)-1:=by rw[wrap64]<;>omega
   have H5:=Ga (Co n) OQ;have sK:Co n ss[k].rules[m]=if ss[k].rules[m].name=n then some ss[k].rules[m].color else none:=rfl
   rw[hm0];by_cases hn:ss[k].rules[m].name=n
   .rw [eW hn]at sK;rw[sK]at H5;simp only at H5;rw[hj,H5]at Mq;simp only at Mq;rw[hi,Mq];have W:=aA hlt (aA hg (aA OQ (aA hgm hn)));refine wl ?_;exact aR results52
   .rw [eK hn]at sK;rw[sK]at H5;simp only at H5;have W:=aA hlt (aA hg (aA OQ (aA hgm (aA hn Hw))));repeat' first|refine wg ?_|(refine sq ?_ ?_<;>intro hc<;>try exact hc.elim)|fail
    .exact absurd hc hn
    .exact hK2 _ ⟨m,by omega,by rw[hj,H5]⟩ aG (by simp only;omega)
theorem mD[aB prog](ss:List bW)(n:aU)(hl:ss.length<=1099511627776)(hr:∀x∈ss,x.rules.length<=1099511627776):Ok prog 28 [.sl .view 1 (ss.map (bX .view)),.str n] (.int .i64 (bG ss n)):=by
 unfold bG;refine dL aO func28 ntmps28 ?_;refine oU ?_;refine aI (ι:={k:Nat // k<=ss.length/\look (tJ n) ss ss.length=look (tJ n) ss k}) (λt o i=>⟨bH t [(5,.int .i64 ((i.1:Int)-1))],o⟩)
  (λi=>i.1) ⟨ss.length,by simp,rfl⟩ aG ?_
 rintro⟨k,hk,hi⟩ K1 hK1;simp only[bH,cH,cJ]at hK1 hi hk⊢;cases k with
 |zero=>rw[hi,Gb];refine oU ?_;exact aR results28
 |succ k=>
  have hlt:k<ss.length:=by omega
  have hk0:(((k+1:Nat):Int)-1)=(k:Int):=by omega
  have hg:=aE hlt;have hk1:i64.wrap ((k:Int)-1)=(k:Int)-1:=by rw[wrap64]<;>omega
  have hrl:=hr _ (hI hlt);have Mq:=Ga (tJ n) hlt;have hsc:tJ n ss[k]=look (Co n) ss[k].rules ss[k].rules.length:=rfl;have hw6:i64.wrap ((ss[k].rules.length:Int)-1)=(ss[k].rules.length:Int)-1:=by rw[wrap64]<;>omega
  rw[hk0];have W:=aA hlt (aA hg hw6);refine wl ?_;refine aI (ι:={m:Nat // m<=ss[k].rules.length/\tJ n ss[k]=look (Co n) ss[k].rules m}) (λt o i=>⟨bH t [(6,.int .i64 ((i.1:Int)-1))],o⟩)
   (λi=>i.1) ⟨ss[k].rules.length,by simp,rfl⟩ aG ?_
  rintro⟨m,hm,hj⟩ K2 hK2;simp only[bH,cH,cJ]at hK2 hm hj⊢;cases m with
  |zero=>rw[hj,Gb]at Mq;simp only at Mq;have W:=hk1;refine wl ?_;exact hK1 _ ⟨k,by omega,by rw[hi,Mq]⟩ aG (by simp only;omega)
  |succ m=>
   have OQ:m<ss[k].rules.length:=by omega
   have hm0:(((m+1:Nat):Int)-1)=(m:Int):=by omega
   have hgm:=aE OQ;have Hw:i64.wrap ((m:Int)-1)=(m:Int)-1:=by rw[wrap64]<;>omega
   have H5:=Ga (Co n) OQ;have sK:Co n ss[k].rules[m]=if ss[k].rules[m].name=n then some ss[k].rules[m].color else none:=rfl
   rw[hm0];by_cases hn:ss[k].rules[m].name=n
   .rw [eW hn]at sK;rw[sK]at H5;simp only at H5;rw[hj,H5]at Mq;simp only at Mq;rw[hi,Mq];have W:=aA hlt (aA hg (aA OQ (aA hgm hn)));refine wl ?_;exact aR results28
   .rw [eK hn]at sK;rw[sK]at H5;simp only at H5;have W:=aA hlt (aA hg (aA OQ (aA hgm (aA hn Hw))));repeat' first|refine wg ?_|(refine sq ?_ ?_<;>intro hc<;>try exact hc.elim)|fail
    .exact absurd hc hn
    .exact hK2 _ ⟨m,by omega,by rw[hj,H5]⟩ aG (by simp only;omega)
theorem nD[aB prog](b:aY)(n:aU)(hl:b.nodes.length<=1099511627776):Ok prog 247 [.agg (aW .view b),.str n] (.int .i64 (bO b n)):=by
 refine dL aO func247 ntmps247 ?_;refine dH ?_;refine aI (ι:={k:Nat // k<=b.nodes.length}) (λt o i=>⟨bH t [(6,.int .i64 i.1),(5,.int .i64 ((((b.nodes.take i.1).filter λx=>decide (x.name=n)).length:Nat):Int))],o⟩)
  (λi=>b.nodes.length-i.1) ⟨0,by simp⟩ aG ?_
 rintro⟨k,hk⟩ K1 hK1;simp only[bH,cH,cJ]at hK1⊢;have hk1:=rE (k:=k);by_cases hlt:k<b.nodes.length
 .have hg:=aE hlt;have hst:=il b n k hlt;have Ea:((b.nodes.take k).filter λx=>decide (x.name=n)).length<=b.nodes.length:=by
   refine kO (sL _ _) ?_;simp;omega
  generalize ((b.nodes.take k).filter λx=>decide (x.name=n)).length=c at*;have WB:i64.wrap ((c:Int)+1)=((c+1:Nat):Int):=by rw[wrap64]<;>omega
  by_cases hn:b.nodes[k].name=n
  .have hnb:(b.nodes[k].name == n)=true:=by simpa using hn
   rw[eW hn]at hst;have W:=aA hk1 (aA WB (aA hg (aA hlt hnb)));refine we ?_;all_goals exact hK1 _ ⟨k+1,by omega⟩ (aG (by simp) (by simp[hst])) (by simp only;omega)
  .have hnb:(b.nodes[k].name == n)=false:=by simpa using hn
   rw[eK hn]at hst;have W:=aA hk1 (aA WB (aA hg (aA hlt hnb)));refine we ?_;all_goals exact hK1 _ ⟨k+1,by omega⟩ (aG (by simp) (by simp[hst])) (by simp only;omega)
 .have htk:b.nodes.take k=b.nodes:=eJ (by omega);rw[htk];have W:=hk1;refine we ?_;all_goals try(refine aZ ?_;simp[aX,results247,bO])
theorem K4(s b:aU):aP (addrOf s b)<=s.length+b.length:=by have:=xK 47 s;unfold addrOf;split<;>simp[aP]<;>omega
theorem VH(s b:aU):aP (cB s b).1<=s.length+b.length:=by
 have:=K4 s b;unfold cB;split
 .exact this
 .simp [aP,Aj]
def aDg(b:aU)(t:bU):Option gG:=if (Uy t b).2=true then some (Uy t b).1 else none
def jm(l:List bU)(b:aU):List gG:=l.filterMap (aDg b)
@[simp] theorem aDh(b:aU):jm [] b=[]:=rfl
theorem NC(p:fU)(r:gG):iW p r=1\/iW p r=2:=by unfold iW;split<;>simp
def gN(p:aC)(mode:Int)(tu digest:aU)(node:Int):aC×Int:=
 if 20<=p.aF.length\/fK mode=0 then(p, -1)
 else if (cB tu p.addr.host).2=false\/iW p.bM ⟨fK mode,(cB tu p.addr.host).1,p.addr.host,digest⟩≠1 then
  ({p with aF:=p.aF++[(⟨mode,(cB tu p.addr.host).1,digest,node,true,2,[]⟩:nK)]},((p.aF.length:Nat):Int))
 else({p with aF:=p.aF++[(⟨mode,(cB tu p.addr.host).1,digest,node,false,0,[]⟩:nK)]},((p.aF.length:Nat):Int))
theorem Kh{p:aC}{mode:Int}{tu digest:aU}{node:Int}(h:20<=p.aF.length\/fK mode=0):gN p mode tu digest node=(p, -1):=by unfold gN;rw[eW h]
theorem Yr{p:aC}{mode:Int}{tu digest:aU}{node:Int}(h:¬(20<=p.aF.length\/fK mode=0))(h2:(cB tu p.addr.host).2=false\/iW p.bM ⟨fK mode,(cB tu p.addr.host).1,p.addr.host,digest⟩≠1):
  gN p mode tu digest node=({p with aF:=p.aF++[(⟨mode,(cB tu p.addr.host).1,digest,node,true,2,[]⟩:nK)]},((p.aF.length:Nat):Int)):=by unfold gN;rw[eK h,eW h2]
theorem VM{p:aC}{mode:Int}{tu digest:aU}{node:Int}(h:¬(20<=p.aF.length\/fK mode=0))(h1:(cB tu p.addr.host).2=true)(h2:iW p.bM ⟨fK mode,(cB tu p.addr.host).1,p.addr.host,digest⟩=1):
  gN p mode tu digest node=({p with aF:=p.aF++[(⟨mode,(cB tu p.addr.host).1,digest,node,false,0,[]⟩:nK)]},((p.aF.length:Nat):Int)):=by
 unfold gN;rw[eK h,eK (by rintro(h3|h3);rw[h1]at h3;cases h3;exact h3 h2)]
theorem wO[aB prog](p:aC)(mode:Int)(tu digest:aU)(node:Int)(hs:aM p<=274877906944)(hto:tu.length<=274877906944)(hd:digest.length<=274877906944):Ok prog 228 [.agg (aQ .view p),.int .i64 mode,.str tu,.str digest,.int .i64 node] (.iP [.agg (aQ .own (gN p mode tu digest node).1),.int .i64 (gN p mode tu digest node).2]):=by
 have c1:=fQ p hs;simp only[aQ]at c1;have hsl:p.addr.host.length<=274877906944:=by simp only[aM,aP]at hs;omega
 have Yt:gF p.bM<=1099511627776:=by simp only[aM]at hs;omega
 have ZO:p.aF.length<=274877906944:=by simp only[aM,bV]at hs;omega
 have c2:=wN mode;have c3:=xN tu p.addr.host (by omega);by_cases UB:(20:Int)<=(p.aF.length:Int)
 .rw [Kh (.inl (by omega))];refine dL aO func228 ntmps228 ?_;have W:=UB;refine we ?_;exact aR results228
 by_cases hk:fK mode=0
 .rw [Kh (.inr hk)];rw[hk]at c2;refine dL aO func228 ntmps228 ?_;have W:=UB;refine we ?_;exact aR results228
 have Rt:¬(20<=p.aF.length\/fK mode=0):=by rintro(h|h);omega;exact hk h
 have hsz:=VH tu p.addr.host;have pU:=Yr (tu:=tu) (digest:=digest) (node:=node) Rt;have hgood:=VM (tu:=tu) (digest:=digest) (node:=node) Rt;have c5:=uM p.bM ⟨fK mode,(cB tu p.addr.host).1,p.addr.host,digest⟩ Yt (by simp only[qK];omega);have h12:=NC p.bM ⟨fK mode,(cB tu p.addr.host).1,p.addr.host,digest⟩;have c4:=λl' BU hl2=>vJ {p with aF:=l'} (p.aF.length:Int) (by omega) BU hl2
 have hr:∀s,qG {p with aF:=p.aF++[s]} (p.aF.length:Int)=⟨fK s.mode,s.to,p.addr.host,s.digest⟩:=λs=>by simp[qG,jJ]
 generalize hkm:fK mode=km at*;generalize cB tu p.addr.host=pa at*;obtain⟨a,ok⟩:=pa;simp only at c3 c5 h12 hsz pU hgood;obtain⟨s0,hs0⟩:∃s:nK,s=⟨mode,a,digest,node,false,0,[]⟩:=⟨_,rfl⟩;obtain⟨l0,hl0⟩:∃l,l=p.aF++[s0]:=⟨_,rfl⟩;obtain⟨l3,hl3⟩:∃l:List nK,l=p.aF++[⟨mode,a,digest,node,true,2,[]⟩]:=⟨_,rfl⟩;have hap:p.aF.map xC++[[.int .i64 mode,.str a.host,.str a.path,.str digest,.int .i64 node,.bool false,.int .i64 0,.str []]]=l0.map xC:=by rw[hl0,hs0];simp
 have hg:l0[p.aF.length]? =some s0:=by rw[hl0];simp
 have hln:l0.length=p.aF.length+1:=by rw[hl0];simp
 have hset:∀h,(l0.map xC).set p.aF.length [.int .i64 (l0[p.aF.length]'h).mode,.str (l0[p.aF.length]'h).to.host,.str (l0[p.aF.length]'h).to.path,.str (l0[p.aF.length]'h).digest,.int .i64 (l0[p.aF.length]'h).node,.bool true,.int .i64 2,.str (l0[p.aF.length]'h).body]=l3.map xC:=by
  intro h;have e:l0[p.aF.length]'h=s0:=by rw[aE h]at hg;exact cU hg
  rw[e,hl0,hl3,hs0,oX,oX,Fm _ _ (by simp)];simp
 have c4:=c4 l0 (by rw[hln];omega) (by rw[hln];omega);rw[show qG {p with aF:=l0} (p.aF.length:Int)=⟨km,a,p.addr.host,digest⟩by rw[hl0,hr,hs0];simp[hkm]]at c4;simp only[aQ,gW]at c4;simp only[dK,gW]at c5;rw[<-hl3]at pU;rw[<-hs0,<-hl0]at hgood;have F5:p.aF.length<l0.length:=by omega
 clear hs0 hl0 hl3 hr hkm Rt;cases ok
 .rw [pU (.inl rfl)];clear pU hgood h12;refine dL aO func228 ntmps228 ?_;have W:=aA UB (aA hk (aA hg (aA hap F5)));refine we ?_;all_goals try(refine aZ ?_;simp[aX,results228])
  all_goals exact hset _
 .rcases h12 with h|h
  .rw [hgood rfl h];rw[h]at c5;clear pU hgood h;refine dL aO func228 ntmps228 ?_;have W:=aA UB (aA hk (aA hg (aA hap F5)));refine we ?_;all_goals try(refine aZ ?_;simp[aX,results228])
   all_goals exact hset _
  .rw [pU (.inr (by rw[h];decide))];rw[h]at c5;clear pU hgood h;refine dL aO func228 ntmps228 ?_;have W:=aA UB (aA hk (aA hg (aA hap F5)));refine we ?_;all_goals try(refine aZ ?_;simp[aX,results228])
   all_goals exact hset _
def jS(ss:List bW)(l:List gV):Nat->Int->Int
 |0,_=>0
 |f+1,a=>if 0<=a then(match l[a.toNat]? with
   |some x=>if bG ss x.name≠0 then bG ss x.name else jS ss l f x.parent
   |none=>0)else 0
theorem Np(ss:List bW)(l:List gV)(f:Nat){a:Int}(h:¬0<=a):jS ss l f a=0:=by
 cases f with
 |zero=>rfl
 |succ f=>rw[jS,eK h]
theorem Nq(ss:List bW)(l:List gV)(f:Nat){m:Nat}(h:¬m<l.length):jS ss l f (m:Int)=0:=by
 cases f with
 |zero=>rfl
 |succ f=>rw[jS,eW (by omega),pD,pP (by omega)]
theorem Rk(ss:List bW)(l:List gV)(f:Nat){m:Nat}(h:m<l.length):jS ss l (f+1) (m:Int)=if bG ss l[m].name≠0 then bG ss l[m].name else jS ss l f l[m].parent:=by rw[jS,eW (by omega),pD,aE h]
theorem Rl[aB prog](ss:List bW)(b:aY)(a0:Int)(hl:ss.length<=1099511627776)(hr:∀x∈ss,x.rules.length<=1099511627776)(hb:b.nodes.length<=1099511627776):
  Ok prog 26 [.sl .view 1 (ss.map (bX .view)),.agg (aW .view b),.int .i64 a0] (.int .i64 (jS ss b.nodes 40 a0)):=by
 obtain⟨l,opens⟩:=b;simp only at hb⊢;simp only[aW];refine dL aO func26 ntmps26 ?_;have W:=trivial;repeat' first|refine st ?_|(refine nx ?_;refine so ?_)|(refine cx ?_;refine sc (λhc=>?_) (λhc=>?_)<;>try exact hc.elim)|(refine lx ?_;refine sp (λhc=>?_) (λhc=>?_)<;>try exact hc.elim)|refine sx ?_ ?_|refine sy ?_ ?_|fail
 refine aI (ι:={q:Nat×Int // q.1<=40/\jS ss l 40 a0=jS ss l (40-q.1) q.2}) (λt o i=>⟨bH t [(7,.int .i64 i.1.1),(2,.int .i64 i.1.2)],o⟩)
  (λi=>40-i.1.1) ⟨(0,a0),by simp,rfl⟩ aG ?_
 rintro⟨⟨k,a⟩,hk,hi⟩ K1 hK1;simp only at hk hi;simp only[bH,cH,cJ]at hK1⊢;have hk1:=rE (k:=k);by_cases hlt:k<40
 .have hki:(k:Int)<40:=by omega
  by_cases h0:0<=a
  .obtain ⟨m,rfl⟩:=iS h0;by_cases hm:m<l.length
   .have hg:=aE hm;have cC:=EG ss l[m].name hl hr;obtain⟨f,hf⟩:∃f,40-k=f+1:=⟨39-k,by omega⟩;rw[hf,Rk ss l f hm]at hi;by_cases hc0:bG ss l[m].name=0
    .rw [eK (by simpa using hc0)]at hi;rw[hc0]at cC;have W:=aA hk1 (aA hki (aA hm hg));repeat' first|refine st ?_|(refine nx ?_;refine so ?_)|(refine cx ?_;refine sc (λhc=>?_) (λhc=>?_)<;>try exact hc.elim)|(refine lx ?_;refine sp (λhc=>?_) (λhc=>?_)<;>try exact hc.elim)|refine sx ?_ ?_|refine sy ?_ ?_|fail
     exact hK1 _ ⟨(k+1,l[m].parent),by simp only;omega,by simp only;rw[hi];congr 1;omega⟩ aG (by simp only;omega)
    .rw [eW hc0]at hi;rw[hi];generalize bG ss l[m].name=c at*;have W:=aA hk1 (aA hki (aA hm (aA hg hc0)));repeat' first|refine st ?_|(refine nx ?_;refine so ?_)|(refine cx ?_;refine sc (λhc=>?_) (λhc=>?_)<;>try exact hc.elim)|(refine lx ?_;refine sp (λhc=>?_) (λhc=>?_)<;>try exact hc.elim)|refine sx ?_ ?_|refine sy ?_ ?_|fail
     all_goals (try exact aR results26)
   .rw [hi,Nq ss l _ hm];have hmi:¬(m:Int)<(l.length:Int):=by omega
    have W:=aA hki hmi;repeat' first|refine st ?_|(refine nx ?_;refine so ?_)|(refine cx ?_;refine sc (λhc=>?_) (λhc=>?_)<;>try exact hc.elim)|(refine lx ?_;refine sp (λhc=>?_) (λhc=>?_)<;>try exact hc.elim)|refine sx ?_ ?_|refine sy ?_ ?_|fail
    all_goals (try exact aR results26)
  .rw [hi,Np ss l _ h0];have W:=aA hki h0;repeat' first|refine st ?_|(refine nx ?_;refine so ?_)|(refine cx ?_;refine sc (λhc=>?_) (λhc=>?_)<;>try exact hc.elim)|(refine lx ?_;refine sp (λhc=>?_) (λhc=>?_)<;>try exact hc.elim)|refine sx ?_ ?_|refine sy ?_ ?_|fail
   all_goals (try exact aR results26)
 .have hke:k=40:=by omega
  subst hke;have hz:jS ss l 40 a0=0:=by rw[hi];rfl
  rw[hz];have W:=trivial;repeat' first|refine st ?_|(refine nx ?_;refine so ?_)|(refine cx ?_;refine sc (λhc=>?_) (λhc=>?_)<;>try exact hc.elim)|(refine lx ?_;refine sp (λhc=>?_) (λhc=>?_)<;>try exact hc.elim)|refine sx ?_ ?_|refine sy ?_ ?_|fail
  all_goals (try exact aR results26)
theorem Rm[aB prog](ss:List bW)(b:aY)(a0:Int)(hl:ss.length<=1099511627776)(hr:∀x∈ss,x.rules.length<=1099511627776)(hb:b.nodes.length<=1099511627776):
  Ok prog 9 [.sl .view 1 (ss.map (bX .view)),.agg (aW .view b),.int .i64 a0] (.int .i64 (jS ss b.nodes 40 a0)):=by
 obtain⟨l,opens⟩:=b;simp only at hb⊢;simp only[aW];refine dL aO func9 ntmps9 ?_;have W:=trivial;repeat' first|refine st ?_|(refine nx ?_;refine so ?_)|(refine cx ?_;refine sc (λhc=>?_) (λhc=>?_)<;>try exact hc.elim)|(refine lx ?_;refine sp (λhc=>?_) (λhc=>?_)<;>try exact hc.elim)|refine sx ?_ ?_|refine sy ?_ ?_|fail
 refine aI (ι:={q:Nat×Int // q.1<=40/\jS ss l 40 a0=jS ss l (40-q.1) q.2}) (λt o i=>⟨bH t [(7,.int .i64 i.1.1),(2,.int .i64 i.1.2)],o⟩)
  (λi=>40-i.1.1) ⟨(0,a0),by simp,rfl⟩ aG ?_
 rintro⟨⟨k,a⟩,hk,hi⟩ K1 hK1;simp only at hk hi;simp only[bH,cH,cJ]at hK1⊢;have hk1:=rE (k:=k);have hw:i64.wrap ((l.length:Int)-1)=(l.length:Int)-1:=by rw[wrap64]<;>omega
 have cI:=eX a 0 ((l.length:Int)-1);by_cases hlt:k<40
 .have hki:(k:Int)<40:=by omega
  by_cases h0:0<=a
  .obtain ⟨m,rfl⟩:=iS h0;by_cases hm:m<l.length
   .have hg:=aE hm;have hb1:(decide ((0:Int)<=(m:Int))&&decide ((m:Int)<=(l.length:Int)-1))=true:=by simp;omega
    rw[hb1]at cI;have cC:=mD ss l[m].name hl hr;obtain⟨f,hf⟩:∃f,40-k=f+1:=⟨39-k,by omega⟩;rw[hf,Rk ss l f hm]at hi;by_cases hc0:bG ss l[m].name=0
    .rw [eK (by simpa using hc0)]at hi;rw[hc0]at cC;have W:=aA hk1 (aA hki (aA hm (aA hg hw)));repeat' first|refine st ?_|(refine nx ?_;refine so ?_)|(refine cx ?_;refine sc (λhc=>?_) (λhc=>?_)<;>try exact hc.elim)|(refine lx ?_;refine sp (λhc=>?_) (λhc=>?_)<;>try exact hc.elim)|refine sx ?_ ?_|refine sy ?_ ?_|fail
     exact hK1 _ ⟨(k+1,l[m].parent),by simp only;omega,by simp only;rw[hi];congr 1;omega⟩ aG (by simp only;omega)
    .rw [eW hc0]at hi;rw[hi];generalize bG ss l[m].name=c at*;have W:=aA hk1 (aA hki (aA hm (aA hg (aA hw hc0))));repeat' first|refine st ?_|(refine nx ?_;refine so ?_)|(refine cx ?_;refine sc (λhc=>?_) (λhc=>?_)<;>try exact hc.elim)|(refine lx ?_;refine sp (λhc=>?_) (λhc=>?_)<;>try exact hc.elim)|refine sx ?_ ?_|refine sy ?_ ?_|fail
     all_goals (try exact aR results9)
   .rw [hi,Nq ss l _ hm];have hb1:(decide ((0:Int)<=(m:Int))&&decide ((m:Int)<=(l.length:Int)-1))=false:=by simp only[rN,pL];omega
    rw[hb1]at cI;have W:=aA hki hw;repeat' first|refine st ?_|(refine nx ?_;refine so ?_)|(refine cx ?_;refine sc (λhc=>?_) (λhc=>?_)<;>try exact hc.elim)|(refine lx ?_;refine sp (λhc=>?_) (λhc=>?_)<;>try exact hc.elim)|refine sx ?_ ?_|refine sy ?_ ?_|fail
    all_goals (try exact aR results9)
  .rw [hi,Np ss l _ h0];have hb1:(decide ((0:Int)<=a)&&decide (a<=(l.length:Int)-1))=false:=by simp only[rN,pL];omega
   rw[hb1]at cI;have W:=aA hki hw;repeat' first|refine st ?_|(refine nx ?_;refine so ?_)|(refine cx ?_;refine sc (λhc=>?_) (λhc=>?_)<;>try exact hc.elim)|(refine lx ?_;refine sp (λhc=>?_) (λhc=>?_)<;>try exact hc.elim)|refine sx ?_ ?_|refine sy ?_ ?_|fail
   all_goals (try exact aR results9)
 .have hke:k=40:=by omega
  subst hke;have hz:jS ss l 40 a0=0:=by rw[hi];rfl
  rw[hz];have W:=trivial;repeat' first|refine st ?_|(refine nx ?_;refine so ?_)|(refine cx ?_;refine sc (λhc=>?_) (λhc=>?_)<;>try exact hc.elim)|(refine lx ?_;refine sp (λhc=>?_) (λhc=>?_)<;>try exact hc.elim)|refine sx ?_ ?_|refine sy ?_ ?_|fail
  all_goals (try exact aR results9)
def jY(x:nZ):aU:=x.name++(58::Lib.itoa x.color)
def jI(x:bW):aU:=Lib.join (iO jY x.rules) [59]
theorem ZI(x:nZ)(h:Iq x):(jY x).length<=21+sG x:=by have:=jM x.color h.1 h.2;unfold jY sG;simp only[eM,dT];omega
theorem KQ:∀(l:List nZ),(∀y∈l,Iq y)->((iO jY l).map (λx=>x.length)).sum<=21*l.length+bB sG l
 |[],_=>by simp[iO,bB]
 |x::l,h=>by have h1:=ZI x (h x (by simp));have ih:=KQ l (λy hy=>h y (by simp[hy]));simp only[iO,lA,sum_cons,bB,dT]at ih⊢;omega
theorem zB(b:bW)(h:∀y∈b.rules,Iq y):(jI b).length<=22*b.rules.length+bB sG b.rules:=by have h1:=XC (iO jY b.rules) [59];have h2:=KQ b.rules h;have h3:=fG jY b.rules;simp only[As,h3]at h1;unfold jI;omega
theorem qw(l:List nZ)(k:Nat)(h:k<l.length):Lib.join (iO jY (l.take (k+1))) [59]=if k=0 then jY l[k]else Lib.join (iO jY (l.take k)) [59]++[59]++jY l[k]:=by
 rw[nC jY l k h,TS];have hl:=fG jY (l.take k);by_cases h0:k=0
 .subst h0;simp
 .have hne:¬iO jY (l.take k)=[]:=λe=>by
   rw[e]at hl;simp at hl;omega
  rw[eK hne,eK h0]
theorem T9(b:bW)(k:Nat)(h:∀y∈b.rules,Iq y):(Lib.join (iO jY (b.rules.take k)) [59]).length<=22*b.rules.length+bB sG b.rules:=by
 have:=zB ⟨b.rules.take k⟩ (λy hy=>h y (pC hy));have h2:bB sG (b.rules.take k)<=bB sG b.rules:=uA sG b.rules k;have h3:(b.rules.take k).length<=b.rules.length:=by simp;omega
 unfold jI at this;simp only at this;omega
theorem Jj[aB prog][eO prog](b:bW)(hl:bV sG b.rules<=33554432)(hr:∀y∈b.rules,Iq y):Ok prog 41 [.agg (bX .view b)] (.str (jI b)):=by
 simp only[bV]at hl;refine dL aO func41 ntmps41 ?_;have W:=trivial;repeat' first|refine st ?_|(refine nx ?_;refine so ?_)|(refine cx ?_;refine sc (λhc=>?_) (λhc=>?_)<;>try exact hc.elim)|(refine lx ?_;refine sp (λhc=>?_) (λhc=>?_)<;>try exact hc.elim)|refine sx ?_ ?_|refine sy ?_ ?_|fail
 refine aI (ι:={k:Nat // k<=b.rules.length}) (λt o i=>⟨bH t [(4,.int .i64 i.1),(3,.str (Lib.join (iO jY (b.rules.take i.1)) [59]))],o⟩)
  (λi=>b.rules.length-i.1) ⟨0,by simp⟩ (aG (by simp) (by simp[Lib.join_nil])) ?_
 rintro⟨k,hk⟩ K1 hK1;simp only[bH,cH,cJ]at hK1⊢;have hk1:=rE (k:=k);by_cases hlt:k<b.rules.length
 .have hg:=aE hlt;have hps:=qw b.rules k hlt;have hpl:=T9 b k hr;have hz:=dD sG b.rules k hlt;simp only[sG]at hz;have WH:=hr b.rules[k] (hI hlt);have c1:=dW b.rules[k].color WH;have hil:=jM b.rules[k].color WH.1 WH.2;have Xq:jY b.rules[k]=b.rules[k].name++(58::Lib.itoa b.rules[k].color):=rfl;rw[Xq]at hps;clear Xq;generalize Lib.itoa b.rules[k].color=q at*;have hg0:k=0->Lib.join (iO jY (b.rules.take k)) [59]=[]:=λe=>by subst e;rfl
  generalize Lib.join (iO jY (b.rules.take k)) [59]=g at*;by_cases h0:k=0
  .have e0:=hg0 h0;rw[eW h0]at hps;subst e0;subst h0;have W:=aA hk1 (aA hg hlt);repeat' first|refine st ?_|(refine nx ?_;refine so ?_)|(refine cx ?_;refine sc (λhc=>?_) (λhc=>?_)<;>try exact hc.elim)|(refine lx ?_;refine sp (λhc=>?_) (λhc=>?_)<;>try exact hc.elim)|refine sx ?_ ?_|refine sy ?_ ?_|fail
   all_goals refine hK1 _ ⟨0+1,by omega⟩ (aG (by simp) (by simp[hps])) (by simp only;omega)
  .rw [eK h0]at hps;have h0':0<k:=by omega
   have W:=aA hk1 (aA hg (aA hlt h0'));repeat' first|refine st ?_|(refine nx ?_;refine so ?_)|(refine cx ?_;refine sc (λhc=>?_) (λhc=>?_)<;>try exact hc.elim)|(refine lx ?_;refine sp (λhc=>?_) (λhc=>?_)<;>try exact hc.elim)|refine sx ?_ ?_|refine sy ?_ ?_|fail
   all_goals refine hK1 _ ⟨k+1,by omega⟩ (aG (by simp) (by simp[hps])) (by simp only;omega)
 .have htk:b.rules.take k=b.rules:=eJ (by omega);rw[htk];have W:=hk1;repeat' first|refine st ?_|(refine nx ?_;refine so ?_)|(refine cx ?_;refine sc (λhc=>?_) (λhc=>?_)<;>try exact hc.elim)|(refine lx ?_;refine sp (λhc=>?_) (λhc=>?_)<;>try exact hc.elim)|refine sx ?_ ?_|refine sy ?_ ?_|fail
  all_goals try(refine aZ ?_;simp[aX,results41,jI])
theorem Jk[aB prog][eO prog](b:bW)(hl:bV sG b.rules<=33554432)(hr:∀y∈b.rules,Iq y):Ok prog 38 [.agg (bX .view b)] (.str (jI b)):=by
 have hj:=vz (iO jY b.rules) [59] (by rw[fG];simp only[bV]at hl;omega) (by have:=zB b hr;unfold jI at this;simp only[bV]at hl;omega);simp only[bV]at hl;refine dL aO func38 ntmps38 ?_;have W:=trivial;repeat' first|refine st ?_|(refine nx ?_;refine so ?_)|(refine cx ?_;refine sc (λhc=>?_) (λhc=>?_)<;>try exact hc.elim)|(refine lx ?_;refine sp (λhc=>?_) (λhc=>?_)<;>try exact hc.elim)|refine sx ?_ ?_|refine sy ?_ ?_|fail
 refine aI (ι:={q:Nat×Nat // q.1<=b.rules.length/\1<=q.2}) (λt o i=>⟨bH t [(3,.obj 1 i.1.2),(10,.int .i64 i.1.1),(5,.undef)],o.take 1++[⟨true,false,1,i.1.2,(iO jY (b.rules.take i.1.1)).map dQ⟩]⟩)
  (λi=>b.rules.length-i.1.1) ⟨(0,1),by simp,by first|(simp;done)|(simp only;omega)⟩ aG ?_
 rintro⟨⟨k,v⟩,hk,hv⟩ K1 hK1;simp only at hk hv;simp only[bH,cH,cJ,fL,lE,cW,cY]at hK1⊢;have hk1:=rE (k:=k);by_cases hlt:k<b.rules.length
 .have hg:=aE hlt;have hps:=nC jY b.rules k hlt;have hpl:=fG jY (b.rules.take k);have htl:(b.rules.take k).length=k:=by simp;omega
  have WH:=hr b.rules[k] (hI hlt);have hz:=dD sG b.rules k hlt;simp only[sG]at hz;have c1:=xM b.rules[k].color WH;have hil:=jM b.rules[k].color WH.1 WH.2;have Xq:jY b.rules[k]=b.rules[k].name++(58::Lib.itoa b.rules[k].color):=rfl;rw[Xq]at hps;clear Xq;generalize Lib.itoa b.rules[k].color=q at*;generalize iO jY (b.rules.take k)=g at*;have W:=aA hk1 (aA hg hlt);repeat' first|refine st ?_|(refine nx ?_;refine so ?_)|(refine cx ?_;refine sc (λhc=>?_) (λhc=>?_)<;>try exact hc.elim)|(refine lx ?_;refine sp (λhc=>?_) (λhc=>?_)<;>try exact hc.elim)|refine sx ?_ ?_|refine sy ?_ ?_|fail
  all_goals refine hK1 _ ⟨(k+1,v+1),by simp only;omega,by simp only;omega⟩ (aL 2 (by simp[hps])) (by simp only;omega)
 .have htk:b.rules.take k=b.rules:=eJ (by omega);rw[htk];have W:=hk1;have c0:=hj;repeat' first|refine st ?_|(refine nx ?_;refine so ?_)|(refine cx ?_;refine sc (λhc=>?_) (λhc=>?_)<;>try exact hc.elim)|(refine lx ?_;refine sp (λhc=>?_) (λhc=>?_)<;>try exact hc.elim)|refine sx ?_ ?_|refine sy ?_ ?_|fail
  all_goals try(refine aZ ?_;simp[aX,results38,jI])
theorem Rp{a b:aY}:a=b↔a.nodes=b.nodes/\a.opens=b.opens:=by cases a;cases b;simp
theorem FC[aB prog](a b:aY)(hl:bV gK a.nodes<=1099511627776)(hl2:a.opens.length<=1099511627776):Ok prog 35 [.agg (aW .view a),.agg (aW .view b)] (.bool (decide (a=b))):=by
 have c0:=ZJ a.opens b.opens hl2;simp only[bV]at hl;rw[show decide (a=b)=decide (a.nodes=b.nodes/\a.opens=b.opens)by rw[pB];exact Rp];by_cases q1:a.nodes.length=b.nodes.length
 .by_cases q2:a.opens=b.opens
  .rw [Bm q2]at c0;rw[show decide (a.nodes=b.nodes/\a.opens=b.opens)=decide (a.nodes=b.nodes)by simp[q2]];refine dL aO func35 ntmps35 ?_;have W:=q1;repeat' first|refine st ?_|(refine nx ?_;refine so ?_)|(refine cx ?_;refine sc (λhc=>?_) (λhc=>?_)<;>try exact hc.elim)|(refine lx ?_;refine sp (λhc=>?_) (λhc=>?_)<;>try exact hc.elim)|refine sx ?_ ?_|refine sy ?_ ?_|fail
   refine aI (ι:={k:Nat // k<=b.nodes.length/\a.nodes.take k=b.nodes.take k}) (λt o i=>⟨bH t [(5,.int .i64 i.1)],o⟩)
    (λi=>b.nodes.length-i.1) ⟨0,by simp,by simp⟩ aG ?_
   rintro⟨k,hk,hi⟩ K1 hK1;simp only[bH,cH,cJ]at hK1⊢;have hk1:=rE (k:=k);by_cases hlt:k<b.nodes.length
   .have hg:=aE hlt;have Jm:k<a.nodes.length:=by omega
    have hg2:=aE Jm;have hz:=dD gK a.nodes k Jm;simp only[gK,bV]at hz;have c1:=ZL a.nodes[k] b.nodes[k] (by omega);simp only[fC]at c1;have W:=aA hk1 (aA hg (aA hg2 (aA q1 (aA hlt Jm))));repeat' first|refine st ?_|(refine nx ?_;refine so ?_)|(refine cx ?_;refine sc (λhc=>?_) (λhc=>?_)<;>try exact hc.elim)|(refine lx ?_;refine sp (λhc=>?_) (λhc=>?_)<;>try exact hc.elim)|refine sx ?_ ?_|refine sy ?_ ?_|fail
    .all_goals try(refine aZ ?_;simp[aX,results35])
     exact Hf Jm hlt (by simpa using hc)
    .exact hK1 _ ⟨k+1,by omega,lV hi Jm hlt (by simpa using hc)⟩ aG (by simp only;omega)
   .have W:=aA hk1 q1;repeat' first|refine st ?_|(refine nx ?_;refine so ?_)|(refine cx ?_;refine sc (λhc=>?_) (λhc=>?_)<;>try exact hc.elim)|(refine lx ?_;refine sp (λhc=>?_) (λhc=>?_)<;>try exact hc.elim)|refine sx ?_ ?_|refine sy ?_ ?_|fail
    all_goals try(refine aZ ?_;simp[aX,results35])
    exact mZ q1 (by omega) hi
  .rw [decide_eq_false q2]at c0;refine dL aO func35 ntmps35 ?_;have W:=q1;repeat' first|refine st ?_|(refine nx ?_;refine so ?_)|(refine cx ?_;refine sc (λhc=>?_) (λhc=>?_)<;>try exact hc.elim)|(refine lx ?_;refine sp (λhc=>?_) (λhc=>?_)<;>try exact hc.elim)|refine sx ?_ ?_|refine sy ?_ ?_|fail
   all_goals try(refine aZ ?_;simp[aX,results35])
   all_goals simp[q2]
 .have q5:¬a.nodes=b.nodes:=λh=>q1 (by rw[h])
  refine dL aO func35 ntmps35 ?_;have W:=q1;repeat' first|refine st ?_|(refine nx ?_;refine so ?_)|(refine cx ?_;refine sc (λhc=>?_) (λhc=>?_)<;>try exact hc.elim)|(refine lx ?_;refine sp (λhc=>?_) (λhc=>?_)<;>try exact hc.elim)|refine sx ?_ ?_|refine sy ?_ ?_|fail
  all_goals try(refine aZ ?_;simp[aX,results35])
  all_goals first|(simp[q5];done)|omega
theorem FD[aB prog](a b:aY)(hl:bV gK a.nodes<=1099511627776)(hl2:a.opens.length<=1099511627776):Ok prog 29 [.agg (aW .view a),.agg (aW .view b)] (.bool (decide (a=b))):=by
 have c0:=ZK a.opens b.opens hl2;have c1:=LZ a.nodes b.nodes hl;rw[show decide (a=b)=decide (a.nodes=b.nodes/\a.opens=b.opens)by rw[pB];exact Rp];refine dL aO func29 ntmps29 ?_;have W:=trivial;repeat' first|refine st ?_|(refine nx ?_;refine so ?_)|(refine cx ?_;refine sc (λhc=>?_) (λhc=>?_)<;>try exact hc.elim)|(refine lx ?_;refine sp (λhc=>?_) (λhc=>?_)<;>try exact hc.elim)|refine sx ?_ ?_|refine sy ?_ ?_|fail
 all_goals try(refine aZ ?_;simp[aX,results29])
 all_goals simp_all
theorem SI[aB prog](a b:bW)(hl:a.rules.length<=1099511627776):Ok prog 31 [.agg (bX .view a),.agg (bX .view b)] (.bool (decide (a=b))):=by
 have c0:=Wo a.rules b.rules hl;rw[show decide (a=b)=decide (a.rules=b.rules)by rw[pB];cases a;cases b;simp];refine dL aO func31 ntmps31 ?_;have W:=trivial;repeat' first|refine st ?_|(refine nx ?_;refine so ?_)|(refine cx ?_;refine sc (λhc=>?_) (λhc=>?_)<;>try exact hc.elim)|(refine lx ?_;refine sp (λhc=>?_) (λhc=>?_)<;>try exact hc.elim)|refine sx ?_ ?_|refine sy ?_ ?_|fail
 all_goals (try exact aR results31)
theorem Rq[aB prog](a b:bW)(hl:a.rules.length<=1099511627776):Ok prog 37 [.sl .view 1 [bX .view a],.sl .view 1 [bX .view b]] (.bool (decide (a=b))):=by
 rw[show decide (a=b)=decide (a.rules=b.rules)by rw[pB];cases a;cases b;simp];refine dL aO func37 ntmps37 ?_;have W:=trivial;repeat' first|refine st ?_|(refine nx ?_;refine so ?_)|(refine cx ?_;refine sc (λhc=>?_) (λhc=>?_)<;>try exact hc.elim)|(refine lx ?_;refine sp (λhc=>?_) (λhc=>?_)<;>try exact hc.elim)|refine sx ?_ ?_|refine sy ?_ ?_|fail
 refine aI (ι:={k:Nat // k<=1/\(k=1->a.rules=b.rules)}) (λt o i=>⟨bH t [(5,.int .i64 i.1),(6,.undef)],o⟩)
  (λi=>1-i.1) ⟨0,by simp⟩ aG ?_
 rintro⟨k,hk,hi⟩ K1 hK1;simp only[bH,cH,cJ]at hK1⊢;obtain rfl|rfl:k=0\/k=1:=by omega
 .by_cases hlen:a.rules.length=b.rules.length
  .have W:=hlen;repeat' first|refine st ?_|(refine nx ?_;refine so ?_)|(refine cx ?_;refine sc (λhc=>?_) (λhc=>?_)<;>try exact hc.elim)|(refine lx ?_;refine sp (λhc=>?_) (λhc=>?_)<;>try exact hc.elim)|refine sx ?_ ?_|refine sy ?_ ?_|fail
   have hK0:=hK1;clear hK1;refine aI (ι:={k:Nat // k<=b.rules.length/\a.rules.take k=b.rules.take k}) (λt o i=>⟨bH t [(6,.int .i64 i.1)],o⟩)
    (λi=>b.rules.length-i.1) ⟨0,by simp,by simp⟩ aG ?_
   rintro⟨k,hk,hi⟩ K1 hK1;simp only[bH,cH,cJ]at hK1⊢;have hk1:=rE (k:=k);by_cases hlt:k<b.rules.length
   .have hg:=aE hlt;have Jm:k<a.rules.length:=by omega
    have hg2:=aE Jm;have W:=aA hk1 (aA hg (aA hg2 (aA hlen (aA hlt Jm))));repeat' first|refine st ?_|(refine nx ?_;first|refine so ?_|refine sk (hc:=za (a.rules[k]'(by omega)) b.rules[k]) (h:=?_))|(refine cx ?_;refine sc (λhc=>?_) (λhc=>?_)<;>try exact hc.elim)|(refine lx ?_;refine sp (λhc=>?_) (λhc=>?_)<;>try exact hc.elim)|refine sx ?_ ?_|refine sy ?_ ?_|fail
    .all_goals try(refine aZ ?_;simp[aX,results37])
     exact Hf Jm hlt hc
    .exact hK1 _ ⟨k+1,by omega,lV hi Jm hlt hc⟩ aG (by simp only;omega)
   .have he:=mZ hlen (by omega) hi;have hk2:i64.wrap ((0:Int)+1)=1:=by rw[wrap64]<;>omega
    have W:=aA hk1 (aA hlen hk2);repeat' first|refine st ?_|(refine nx ?_;refine so ?_)|(refine cx ?_;refine sc (λhc=>?_) (λhc=>?_)<;>try exact hc.elim)|(refine lx ?_;refine sp (λhc=>?_) (λhc=>?_)<;>try exact hc.elim)|refine sx ?_ ?_|refine sy ?_ ?_|fail
    refine hK0 _ ⟨1,by omega,λ_=>he⟩ aG (by simp only;omega)
  .have q5:¬a.rules=b.rules:=λh=>hlen (by rw[h])
   have W:=hlen;repeat' first|refine st ?_|(refine nx ?_;refine so ?_)|(refine cx ?_;refine sc (λhc=>?_) (λhc=>?_)<;>try exact hc.elim)|(refine lx ?_;refine sp (λhc=>?_) (λhc=>?_)<;>try exact hc.elim)|refine sx ?_ ?_|refine sy ?_ ?_|fail
   all_goals try(refine aZ ?_;simp[aX,results37])
   all_goals first|(simp[q5];done)|omega|(exfalso;omega)|fail
 .have W:=trivial;repeat' first|refine st ?_|(refine nx ?_;refine so ?_)|(refine cx ?_;refine sc (λhc=>?_) (λhc=>?_)<;>try exact hc.elim)|(refine lx ?_;refine sp (λhc=>?_) (λhc=>?_)<;>try exact hc.elim)|refine sx ?_ ?_|refine sy ?_ ?_|fail
  all_goals try(refine aZ ?_;simp[aX,results37])
  all_goals exact hi rfl
theorem UW{a b:mI}:a=b↔a.builder=b.builder/\a.log=b.log/\a.dV=b.dV/\a.sN=b.sN/\a.jZ=b.jZ:=by cases a;cases b;simp
theorem Gw[aB prog](a b:mI)(hl:mO a<=33554432):Ok prog 12 [.agg (dC .view a),.agg (dC .view b)] (.bool (decide (a=b))):=by
 simp only[mO,aS,xZ]at hl;have c1:=FC a.builder b.builder (by omega) (by omega);have c2:=Nr a.log b.log (by simp only[bV]at hl;omega);have c3:=Nr a.dV b.dV (by simp only[bV]at hl;omega);have c4:=Rq a.sN b.sN (by simp only[bV]at hl;omega);rw[show decide (a=b)=decide (a.builder=b.builder/\a.log=b.log/\a.dV=b.dV/\a.sN=b.sN/\a.jZ=b.jZ)by rw[pB];exact UW];refine dL aO func12 ntmps12 ?_;have W:=trivial;repeat' first|refine st ?_|(refine nx ?_;refine so ?_)|(refine cx ?_;refine sc (λhc=>?_) (λhc=>?_)<;>try exact hc.elim)|(refine lx ?_;refine sp (λhc=>?_) (λhc=>?_)<;>try exact hc.elim)|refine sx ?_ ?_|refine sy ?_ ?_|fail
 all_goals try(refine aZ ?_;simp[aX,results12])
 all_goals simp_all
 all_goals (cases a.jZ<;>cases b.jZ<;>rfl)
theorem zI[aB prog](a b:mI)(hl:mO a<=33554432):Ok prog 10 [.agg (dC .view a),.agg (dC .view b)] (.bool (decide (a=b))):=by
 simp only[mO,aS,xZ]at hl;have c1:=FD a.builder b.builder (by omega) (by omega);have c2:=Ns a.log b.log (by simp only[bV]at hl;omega);have c3:=Ns a.dV b.dV (by simp only[bV]at hl;omega);have c4:=SI a.sN b.sN (by simp only[bV]at hl;omega);rw[show decide (a=b)=decide (a.builder=b.builder/\a.log=b.log/\a.dV=b.dV/\a.sN=b.sN/\a.jZ=b.jZ)by rw[pB];exact UW];refine dL aO func10 ntmps10 ?_;have W:=trivial;repeat' first|refine st ?_|(refine nx ?_;refine so ?_)|(refine cx ?_;refine sc (λhc=>?_) (λhc=>?_)<;>try exact hc.elim)|(refine lx ?_;refine sp (λhc=>?_) (λhc=>?_)<;>try exact hc.elim)|refine sx ?_ ?_|refine sy ?_ ?_|fail
 all_goals try(refine aZ ?_;simp[aX,results10])
 all_goals simp_all
 all_goals (cases a.jZ<;>cases b.jZ<;>rfl)
end Go.Proofs.YtnkpkklemmgapaaGreatDoor
