/- Proved here: steps towards the statement of this claim. No condition. -/
import Derived.Test.YthddijamfbfibaaGreatDoorZP2
import Derived.Test.YthddijamfbfibaaGreatDoorZQQ2
set_option linter.all false
set_option maxRecDepth 4000
set_option maxHeartbeats 4000000
namespace Go.Proofs.YthddijamfbfibaaGreatDoor
open Go.Aw Proofs.Tryz List IntKind
theorem L8[aB prog]:Ok prog 310 [.int .i64 1] (.str [119,114,105,116,101]):=by have c0:=jR 1 1 5;simp only[Int.reduceLE,CT,GO]at c0;refine bM aG func310 ntmps310 ?_;refine aZ ?_;exact aF results310
theorem L9[aB prog]:Ok prog 310 [.int .i64 2] (.str [97,100,100]):=by have c0:=jR 2 1 5;simp only[Int.reduceLE,CT,GO]at c0;refine bM aG func310 ntmps310 ?_;refine aZ ?_;exact aF results310
theorem M0[aB prog]:Ok prog 310 [.int .i64 3] (.str [99,111,117,110,116]):=by have c0:=jR 3 1 5;simp only[Int.reduceLE,CT,GO]at c0;refine bM aG func310 ntmps310 ?_;refine aZ ?_;exact aF results310
theorem M3[aB prog]:Ok prog 310 [.int .i64 4] (.str [108,111,111,107]):=by have c0:=jR 4 1 5;simp only[Int.reduceLE,CT,GO]at c0;refine bM aG func310 ntmps310 ?_;refine aZ ?_;exact aF results310
theorem M4[aB prog]:Ok prog 310 [.int .i64 5] (.str [115,97,121]):=by have c0:=jR 5 1 5;simp only[Int.reduceLE,CT,GO]at c0;refine bM aG func310 ntmps310 ?_;refine aZ ?_;exact aF results310
theorem aTj(op:Nat):∀x∈wd op,x≠32:=by
 have h:(wd op).all (λx=>decide (x≠32))=true:=by unfold wd;split<;>decide
 intro x hx;simpa using fR.1 h x hx
theorem aLw{s:bB}{op:Nat}(hk:iK 32 s<s.length)(hw:s.take (iK 32 s)=wd op):lW s op=some (⟨op,s.drop (iK 32 s+1)⟩,iG op (s.drop (iK 32 s+1))):=by
 have hL:(wd op).length=iK 32 s:=by rw[<-hw];simp;omega
 have h2:s.take ((wd op).length+1)=wd op++[32]:=by rw[hL,eJ hk,hw,Y9 hk]
 rw[zS (by omega) h2,hL]
theorem aLx{s:bB}{op:Nat}(h:¬(iK 32 s<s.length/\s.take (iK 32 s)=wd op)):lW s op=none:=by
 refine qH λ⟨h1,h2⟩=>h ?_
 have hlt:(wd op).length<s.length:=by omega
 have ht:s.take (wd op).length=wd op:=by have:=zE (List.take (wd op).length) h2;simpa [take_take]using this
 have hg:s[(wd op).length]=32:=by have:=zE (λl=>l[(wd op).length]?) h2;simp only[kO (eC _),tR,tE]at this;rw[Bx,eK (by omega),aE hlt]at this;exact cQ this
 have hi:iK 32 s=(wd op).length:=zm hlt hg (by rw[ht];exact aTj op);rw[hi];exact⟨hlt,ht⟩
theorem BL{s:bB}(h:∀j,1<=j->j<6->lW s j=none):dA s=(⟨0,[]⟩,false):=by simp[dA,h 1 (by omega) (by omega),h 2 (by omega) (by omega),h 3 (by omega) (by omega),h 4 (by omega) (by omega),h 5 (by omega) (by omega)]
def mV(p:jW×Bool):jW:=if p.2=true then p.1 else⟨0,[]⟩
theorem Zv[aB prog](s:bB)(hl:s.length<=1099511627776):Ok prog 266 [.str s] (.gM [.agg (lS (mV (dA s))),.bool (dA s).2]):=by
 have hC:=Ab s 32 (by omega);have hle:=vI 32 s;have c1:=L8;have c2:=L9;have c3:=M0;have c4:=M3;have c5:=M4;have cN:=gL (s.drop (iK 32 s+1)) (by simp;omega);have ht:∀op,iK 32 s<s.length->s.take (iK 32 s)=wd op->lW s op=some (⟨op,s.drop (iK 32 s+1)⟩,iG op (s.drop (iK 32 s+1))):=λop=>aLw
 have hf:∀op,¬(iK 32 s<s.length/\s.take (iK 32 s)=wd op)->lW s op=none:=λop=>aLx
 generalize iK 32 s=p at*;generalize aYm:s.take p=word at*;generalize aTk:s.drop (p+1)=text at*;have htl:text.length<=s.length:=by rw[<-aTk];simp
 refine bM aG func266 ntmps266 ?_;refine aZ ?_;refine aM (ι:={i:Nat // (1<=i/\i<=6)/\∀j,1<=j->j<i->lW s j=none}) (λt o i=>⟨bC t [(7,.int .i64 i.1),(8,.undef)],o⟩) (λi=>6-i.1) ⟨1,by simp,λj h1 h2=>by omega⟩ aK ?_;rintro⟨k,⟨hk,hk6⟩,hn⟩ K1 hK1;try simp only at hk hk6 hn
 simp only[bC,cW,cU]at hK1⊢;obtain rfl|rfl|rfl|rfl|rfl|rfl:k=1\/k=2\/k=3\/k=4\/k=5\/k=6:=by omega
 .by_cases hw:word=[119,114,105,116,101]
  .by_cases hp:p<s.length
   .have hr:dA s=(⟨1,text⟩,iG 1 text):=by simp[dA,ht 1 hp hw]
    rw[hr];rw[tA hp]at hC;clear hr hf ht hn;subst hw;by_cases h3:(text.length:Int)<=60
    .have hg:iG 1 text=true:=by simp[iG,Fs];omega
     have h4:¬(60:Int)<(text.length:Int):=by omega
     rw[hg];have W:=aA hp (aA h3 h4);refine we ?_;all_goals try(refine aR ?_;simp[aP,results266,mV])
    .have hg:iG 1 text=false:=by simp[iG,Fs];omega
     have h4:(60:Int)<(text.length:Int):=by omega
     rw[hg];have W:=aA hp (aA h3 h4);refine we ?_;all_goals try(refine aR ?_;simp[aP,results266,mV])
   .have hr:dA s=(⟨0,[]⟩,false):=BL λj _ _=>hf j λh=>hp h.1
    rw[hr];rw[AM hp]at hC;clear hr hf ht hn;subst hw;have XH:s.length<=p:=by omega
    have W:=aA hp XH;refine we ?_;all_goals try(refine aR ?_;simp[aP,results266,mV])
  .have hx:=hf 1 λh=>hw h.2
   have hb:(([119,114,105,116,101]:bB) == word)=false:=by simpa using λh=>hw h.symm
   have hw2:¬[119,114,105,116,101]=word:=λh=>hw h.symm
   clear hf ht;have W:=aA hw (aA hw2 hb);refine we ?_;exact hK1 _ ⟨2,by omega,nO hn hx⟩ aK (by simp only;omega)
 .by_cases hw:word=[97,100,100]
  .by_cases hp:p<s.length
   .have hr:dA s=(⟨2,text⟩,iG 2 text):=by simp[dA,hn 1 (by omega) (by omega),ht 2 hp hw]
    rw[hr];rw[tA hp]at hC;clear hr hf ht hn;subst hw;have hg:iG 2 text=cZ text:=rfl;rw[hg];generalize cZ text=b at*;cases b
    .have W:=hp;refine we ?_;all_goals try(refine aR ?_;simp[aP,results266,mV])
    .have W:=hp;refine we ?_;all_goals try(refine aR ?_;simp[aP,results266,mV])
   .have hr:dA s=(⟨0,[]⟩,false):=BL λj _ _=>hf j λh=>hp h.1
    rw[hr];rw[AM hp]at hC;clear hr hf ht hn;subst hw;have XH:s.length<=p:=by omega
    have W:=aA hp XH;refine we ?_;all_goals try(refine aR ?_;simp[aP,results266,mV])
  .have hx:=hf 2 λh=>hw h.2
   have hb:(([97,100,100]:bB) == word)=false:=by simpa using λh=>hw h.symm
   have hw2:¬[97,100,100]=word:=λh=>hw h.symm
   clear hf ht;have W:=aA hw (aA hw2 hb);refine we ?_;exact hK1 _ ⟨3,by omega,nO hn hx⟩ aK (by simp only;omega)
 .by_cases hw:word=[99,111,117,110,116]
  .by_cases hp:p<s.length
   .have hr:dA s=(⟨3,text⟩,iG 3 text):=by simp[dA,hn 1 (by omega) (by omega),hn 2 (by omega) (by omega),ht 3 hp hw]
    rw[hr];rw[tA hp]at hC;clear hr hf ht hn;subst hw;have hg:iG 3 text=cZ text:=rfl;rw[hg];generalize cZ text=b at*;cases b
    .have W:=hp;refine we ?_;all_goals try(refine aR ?_;simp[aP,results266,mV])
    .have W:=hp;refine we ?_;all_goals try(refine aR ?_;simp[aP,results266,mV])
   .have hr:dA s=(⟨0,[]⟩,false):=BL λj _ _=>hf j λh=>hp h.1
    rw[hr];rw[AM hp]at hC;clear hr hf ht hn;subst hw;have XH:s.length<=p:=by omega
    have W:=aA hp XH;refine we ?_;all_goals try(refine aR ?_;simp[aP,results266,mV])
  .have hx:=hf 3 λh=>hw h.2
   have hb:(([99,111,117,110,116]:bB) == word)=false:=by simpa using λh=>hw h.symm
   have hw2:¬[99,111,117,110,116]=word:=λh=>hw h.symm
   clear hf ht;have W:=aA hw (aA hw2 hb);refine we ?_;exact hK1 _ ⟨4,by omega,nO hn hx⟩ aK (by simp only;omega)
 .by_cases hw:word=[108,111,111,107]
  .by_cases hp:p<s.length
   .have hr:dA s=(⟨4,text⟩,iG 4 text):=by simp[dA,hn 1 (by omega) (by omega),hn 2 (by omega) (by omega),hn 3 (by omega) (by omega),ht 4 hp hw]
    rw[hr];rw[tA hp]at hC;clear hr hf ht hn;subst hw;have hg:iG 4 text=cZ text:=rfl;rw[hg];generalize cZ text=b at*;cases b
    .have W:=hp;refine we ?_;all_goals try(refine aR ?_;simp[aP,results266,mV])
    .have W:=hp;refine we ?_;all_goals try(refine aR ?_;simp[aP,results266,mV])
   .have hr:dA s=(⟨0,[]⟩,false):=BL λj _ _=>hf j λh=>hp h.1
    rw[hr];rw[AM hp]at hC;clear hr hf ht hn;subst hw;have XH:s.length<=p:=by omega
    have W:=aA hp XH;refine we ?_;all_goals try(refine aR ?_;simp[aP,results266,mV])
  .have hx:=hf 4 λh=>hw h.2
   have hb:(([108,111,111,107]:bB) == word)=false:=by simpa using λh=>hw h.symm
   have hw2:¬[108,111,111,107]=word:=λh=>hw h.symm
   clear hf ht;have W:=aA hw (aA hw2 hb);refine we ?_;exact hK1 _ ⟨5,by omega,nO hn hx⟩ aK (by simp only;omega)
 .by_cases hw:word=[115,97,121]
  .by_cases hp:p<s.length
   .have hr:dA s=(⟨5,text⟩,iG 5 text):=by simp[dA,hn 1 (by omega) (by omega),hn 2 (by omega) (by omega),hn 3 (by omega) (by omega),hn 4 (by omega) (by omega),ht 5 hp hw]
    rw[hr];rw[tA hp]at hC;clear hr hf ht hn;subst hw;by_cases h3:(text.length:Int)<=60
    .have hg:iG 5 text=true:=by simp[iG,Fs];omega
     have h4:¬(60:Int)<(text.length:Int):=by omega
     rw[hg];have W:=aA hp (aA h3 h4);refine we ?_;all_goals try(refine aR ?_;simp[aP,results266,mV])
    .have hg:iG 5 text=false:=by simp[iG,Fs];omega
     have h4:(60:Int)<(text.length:Int):=by omega
     rw[hg];have W:=aA hp (aA h3 h4);refine we ?_;all_goals try(refine aR ?_;simp[aP,results266,mV])
   .have hr:dA s=(⟨0,[]⟩,false):=BL λj _ _=>hf j λh=>hp h.1
    rw[hr];rw[AM hp]at hC;clear hr hf ht hn;subst hw;have XH:s.length<=p:=by omega
    have W:=aA hp XH;refine we ?_;all_goals try(refine aR ?_;simp[aP,results266,mV])
  .have hx:=hf 5 λh=>hw h.2
   have hb:(([115,97,121]:bB) == word)=false:=by simpa using λh=>hw h.symm
   have hw2:¬[115,97,121]=word:=λh=>hw h.symm
   clear hf ht;have W:=aA hw (aA hw2 hb);refine we ?_;exact hK1 _ ⟨6,by omega,nO hn hx⟩ aK (by simp only;omega)
 .have hr:dA s=(⟨0,[]⟩,false):=BL λj h1 h2=>hn j h1 h2
  rw[hr];clear hr hf ht hn;refine aZ ?_;all_goals try(refine aR ?_;simp[aP,results266,mV])
theorem Rl(c:UInt8):∀s:bB,∀p∈dE c s,p.length<=s.length
 |[],p,h=>by simp only[dE,rS]at h;subst h;simp
 |x::s,p,h=>by
  have ih:=Rl c s;simp only[dE]at h;split at h
  .rcases gS.1 h with rfl|h
   .simp
   .have:=ih p h;simp;omega
  .split at h
   .rename_i h0;exact absurd h0 (rH c s)
   .rename_i q r h0;rw[h0]at ih;rcases gS.1 h with rfl|h
    .have:=ih q (by simp);simp;omega
    .have:=ih p (by simp[h]);simp;omega
def fZ(s:bB):List jW×Bool:=
 if s=[]then([],true)else if ((dE 59 s).all λp=>(dA p).2)=true/\(dE 59 s).length<=6 then((dE 59 s).map λp=>(dA p).1,true)else([],false)
theorem Ub{s:bB}{k:Nat}(h0:s≠[])(hk:k<(dE 59 s).length)(h:(dA (dE 59 s)[k]).2=false):fZ s=([],false):=by unfold fZ;rw[cY h0,cY];rintro⟨h1,_⟩;have:=fR.1 h1 _ (fS hk);rw[h]at this;cases this
theorem PD{s:bB}(h0:s≠[])(h:6<(dE 59 s).length):fZ s=([],false):=by unfold fZ;rw[cY h0,cY];rintro⟨_,h1⟩;omega
theorem PE{s:bB}(h0:s≠[])(h1:∀p∈dE 59 s,(dA p).2=true)(h2:(dE 59 s).length<=6):fZ s=((dE 59 s).map λp=>(dA p).1,true):=by unfold fZ;rw[cY h0,eK ⟨fR.2 h1,h2⟩]
theorem XX{l:List bB}{k:Nat}(hk:k<l.length)(h:∀p∈l.take k,(dA p).2=true)(h1:(dA l[k]).2=true):∀p∈l.take (k+1),(dA p).2=true:=by
 intro p hp;rw[eJ hk]at hp;rcases eW.1 hp with hp|hp
 .exact h p hp
 .rw [rS.1 hp];exact h1
theorem qa{α β:Type}(f:α->β)(l:List α)(k:Nat)(h:k<l.length):(l.take (k+1)).map f=(l.take k).map f++[f l[k]]:=by rw[eJ h,oY];rfl
def eSp(p:bB):List AV:=lS (dA p).1
theorem aAs(l:List bB):(l.map λp=>(dA p).1).map lS=l.map eSp:=by rw[map_map];rfl
theorem Ch[aB prog][bQ prog](s:bB)(hl:s.length<=1073741824):Ok prog 183 [.str s] (.gM [.sl .own 2 ((fZ s).1.map lS),.bool (fZ s).2]):=by
 by_cases h0:s=[]
 .subst h0;have hr:fZ []=([],true):=rfl;rw[hr];refine bM aG func183 ntmps183 ?_;refine aZ ?_;exact aF results183
 .have cS:Ok prog 115 [.str s,.int .u8 59] (.sl .own 1 ((dE 59 s).map dC)):=xG s 59 (by omega);have hb0:(s == ([]:bB))=false:=by simp[h0]
  have hle:=Rl 59 s;have hn:=iV 59 s;have hcn:s.count 59<=s.length:=pP;have hb:=λk hk=>Ub (k:=k) h0 hk
  have xg:=PD h0;have hgd:=PE h0;have hne:=rH 59 s;generalize dE 59 s=l at*;have hll:l.length<=1073741825:=by omega
  have hl0:0<l.length:=Dg.2 hne;generalize fZ s=g at*;refine bM aG func183 ntmps183 ?_;have W:=aA h0 hb0;refine we ?_;refine aM (ι:={q:Nat×Nat // (q.1<=l.length/\1<=q.2)/\(∀p∈l.take q.1,(dA p).2=true)/\(0<q.1->l.length<=6)}) (λt o i=>⟨bC t [(6,.int .i64 i.1.1),(4,.obj 0 i.1.2),(7,.undef),(8,.undef)],[⟨true,false,2,i.1.2,(l.take i.1.1).map eSp⟩]++o.drop 1⟩)
   (λi=>l.length-i.1.1) ⟨(0,1),by simp,by simp,by simp⟩ aK ?_
  rintro⟨⟨k,v⟩,⟨hk,hv⟩,hgood,aLy⟩ K1 hK1;simp only at hk hv hgood aLy;simp only[bC,cW,cU,pL,AW,eA,eM]at hK1⊢;have hk1:=oQ (k:=k);by_cases hlt:k<l.length
  .have hg:=aE hlt;have c1:=aCw l[k] (by have:=hle _ (fS hlt);omega);have hps:=qa eSp l k hlt;have hx:eSp l[k]=lS (dA l[k]).1:=rfl;have IQ:((l.take k).map eSp).length=k:=by simp;omega
   have hbk:=hb k hlt;have Es:=XX hlt hgood;simp only[lS]at c1;generalize (l.take k).map eSp=rows at*;generalize dA l[k]=x at*;obtain⟨x,ok⟩:=x;simp only[lS]at c1 hbk Es hps hx;rw[hx]at hps;cases ok with
   |false=>have hr:=hbk rfl;subst hr;have W:=aA hk1 (aA hg hlt);refine we ?_;exact aF results183
   |true=>
    by_cases h6:6<l.length
    .have hr:=xg h6;subst hr;have h6i:(6:Int)<(l.length:Int):=by omega
     have W:=aA hk1 (aA hg (aA hlt h6i));refine we ?_;exact aF results183
    .have h6i:¬(6:Int)<(l.length:Int):=by omega
     have W:=aA hk1 (aA hg (aA hlt (aA IQ h6i)));refine we ?_;all_goals exact hK1 _ ⟨(k+1,v+1),⟨by simp only;omega,by simp only;omega⟩,Es rfl,λ_=>by omega⟩ (aT 2 (by simp[hps])) (by simp only;omega)
  .have htk:l.take k=l:=cX (by omega);rw[htk]at hgood⊢;have hr:=hgd hgood (aLy (by omega));subst hr;simp only[aAs];have W:=hk1;refine we ?_;all_goals try(refine aR ?_;simp[aP,results183])
   all_goals exact eD _ (by intro x;rfl) l
theorem qb[aB prog][bQ prog](s:bB)(c:UInt8)(hs:s.length<4294967281):Ok prog 150 [.str s,.str [c]] (.sl .own 1 ((dE c s).map dC)):=SE Tryz.laysM146 (by kernel_rfl) s c hs
theorem Ci[aB prog][bQ prog](s:bB)(hl:s.length<=1073741824):Ok prog 210 [.str s] (.gM [.sl .own 2 ((fZ s).1.map lS),.bool (fZ s).2]):=by
 by_cases h0:s=[]
 .subst h0;have hr:fZ []=([],true):=rfl;rw[hr];refine bM aG func210 ntmps210 ?_;refine aZ ?_;exact aF results210
 .have cS:=qb s 59 (by omega);have hb0:(s == ([]:bB))=false:=by simp[h0]
  have hle:=Rl 59 s;have hn:=iV 59 s;have hcn:s.count 59<=s.length:=pP;have hb:=λk hk=>Ub (k:=k) h0 hk
  have xg:=PD h0;have hgd:=PE h0;have hne:=rH 59 s;generalize dE 59 s=l at*;have hll:l.length<=1073741825:=by omega
  have hl0:0<l.length:=Dg.2 hne;generalize fZ s=g at*;refine bM aG func210 ntmps210 ?_;have W:=aA h0 hb0;refine we ?_;refine aM (ι:={q:Nat×Nat // (q.1<=l.length/\1<=q.2)/\(∀p∈l.take q.1,(dA p).2=true)/\q.1<=6}) (λt o i=>⟨bC t [(16,.int .i64 i.1.1),(4,.obj 0 i.1.2),(6,.undef),(7,.undef),(8,.undef)],[⟨true,false,2,i.1.2,(l.take i.1.1).map eSp⟩]++o.drop 1⟩)
   (λi=>l.length-i.1.1) ⟨(0,1),by simp,by simp,by simp⟩ aK ?_
  rintro⟨⟨k,v⟩,⟨hk,hv⟩,hgood,aLy⟩ K1 hK1;simp only at hk hv hgood aLy;simp only[bC,cW,cU,pL,AW,eA,eM]at hK1⊢;have hk1:=oQ (k:=k);by_cases hlt:k<l.length
  .have hg:=aE hlt;have c1:=Zv l[k] (by have:=hle _ (fS hlt);omega);have hps:=qa eSp l k hlt;have hx:eSp l[k]=lS (dA l[k]).1:=rfl;have IQ:((l.take k).map eSp).length=k:=by simp;omega
   have hbk:=hb k hlt;have Es:=XX hlt hgood;simp only[lS]at c1;generalize (l.take k).map eSp=rows at*;generalize dA l[k]=x at*;obtain⟨x,ok⟩:=x;simp only[lS]at hbk Es hps hx;rw[hx]at hps;cases ok with
   |false=>have hr:=hbk rfl;subst hr;simp only[mV,lS,eS,hM]at c1;have W:=aA hk1 (aA hg hlt);refine we ?_;exact aF results210
   |true=>
    simp only[mV,lS,gE]at c1;by_cases h6:k=6
    .have hr:=xg (by omega);subst hr;have h6b:((k:Int) == 6)=true:=by simp;omega
     clear h6;have W:=aA hk1 (aA hg (aA hlt (aA IQ h6b)));refine we ?_;exact aF results210
    .have h6i:¬(k:Int)=6:=by omega
     have h6b:((k:Int) == 6)=false:=by simpa using h6i
     have W:=aA hk1 (aA hg (aA hlt (aA IQ (aA h6i h6b))));refine we ?_;all_goals exact hK1 _ ⟨(k+1,v+1),⟨by simp only;omega,by simp only;omega⟩,Es rfl,by simp only;omega⟩ (aT 2 (by simp[hps])) (by simp only;omega)
  .have htk:l.take k=l:=cX (by omega);rw[htk]at hgood⊢;have hr:=hgd hgood (by omega);subst hr;simp only[aAs];have W:=hk1;refine we ?_;all_goals try(refine aR ?_;simp[aP,results210])
   all_goals exact eD _ (by intro x;rfl) l
def Bf:bB:=[105,109,112,111,114,116,32]
def oP(base:bB):List bB->Option (List aD×List bB)
 |[]=>some ([],[])
 |p::ps=>if CJ Bf p=true then(if (bY (p.drop 7) base).2=true then(oP base ps).map (λq=>((bY (p.drop 7) base).1::q.1,q.2))else none)else some ([],p::ps)
def bH(body base:bB):List aD×List jW×Bool:=
 match oP base (dE 59 body)with
 |none=>([],[],false)
 |some (l,r)=>if (fZ (Lib.join r [59])).2=true then(l,(fZ (Lib.join r [59])).1,true)else([],[],false)
def zU(base:bB)(l:List bB)(acc:List aD)(r:List bB):Prop:=oP base l=(oP base r).map λq=>(acc++q.1,q.2)
theorem Mv(base:bB)(l:List bB):zU base l [] l:=by unfold zU;cases oP base l<;>simp
theorem Uj{base:bB}{l:List bB}{acc:List aD}{p:bB}{ps:List bB}(h:zU base l acc (p::ps))(h1:CJ Bf p=true)(h2:(bY (p.drop 7) base).2=false):oP base l=none:=by unfold zU at h;rw[h];simp[oP,h1,h2]
theorem PQ{base:bB}{l:List bB}{acc:List aD}{p:bB}{ps:List bB}(h:zU base l acc (p::ps))(h1:CJ Bf p=true)(h2:(bY (p.drop 7) base).2=true):zU base l (acc++[(bY (p.drop 7) base).1]) ps:=by unfold zU at h⊢;rw[h];simp only[oP,h1,h2,gE];cases oP base ps<;>simp
theorem Uk{base:bB}{l:List bB}{acc:List aD}(h:zU base l acc []):oP base l=some (acc,[]):=by unfold zU at h;rw[h];simp[oP]
theorem PR{base:bB}{l:List bB}{acc:List aD}{p:bB}{ps:List bB}(h:zU base l acc (p::ps))(h1:CJ Bf p=false):oP base l=some (acc,p::ps):=by unfold zU at h;rw[h];simp[oP,h1]
theorem Oy(c:UInt8):∀s:bB,Lib.join (dE c s) [c]=s
 |[]=>by simp[dE,Lib.join_one]
 |x::s=>by
  have ih:=Oy c s;simp only[dE];split
  .rename_i h;subst h;cases hs:dE x s with
   |nil=>exact absurd hs (rH x s)
   |cons p r=>rw[hs]at ih;simp only[Lib.join,intercalate]at ih⊢;simp only[intersperse,pT,eM,singleton_append]at ih⊢;rw[ih]
  .split
   .rename_i h0;exact absurd h0 (rH c s)
   .rename_i p r h0;rw[h0]at ih;simp only[Lib.join,intercalate]at ih⊢;cases r with
    |nil=>simp only[intersperse,pT,flatten_nil,fX]at ih⊢;rw[ih]
    |cons q r=>simp only[intersperse,pT,eA]at ih⊢;rw[ih]
theorem aH6[aB prog][bQ prog](l:List bB)(sep:bB)(hl:l.length<=140737488355328)(hs:(Lib.join l sep).length<=140737488355328):
  Ok prog 208 [.sl .view 1 (l.map dC),.str sep] (.str (Lib.join l sep)):=Z0 Tryz.lays156 Tryz.Builder_Extra_156 l sep hl hs
theorem ZA(x:bB)(xs:List bB)(c:UInt8):(Lib.join xs [c]).length<=(Lib.join (x::xs) [c]).length:=by
 cases xs with
 |nil=>simp[Lib.join_nil]
 |cons y ys=>simp only[Lib.join,intercalate,intersperse,pT,eR];omega
theorem Mw(c:UInt8):∀(k:Nat) (l:List bB),(Lib.join (l.drop k) [c]).length<=(Lib.join l [c]).length
 |0,l=>by simp
 |_+1,[]=>by simp
 |k+1,x::xs=>by rw[pL];exact lB (Mw c k xs) (ZA x xs c)
theorem aC2[aB prog][bQ prog]{s:bB}(hl:s.length<=1099511627776)(h:CJ Bf s=false):Ok prog 222 [.str s,.str [105,109,112,111,114,116,32]] (.gM [.str s,.bool false]):=by have c:=Fb s Bf hl (by simp[Bf]);rw[h]at c;exact c
theorem N8[aB prog][bQ prog]{s:bB}(hl:s.length<=1099511627776)(h:CJ Bf s=true):Ok prog 222 [.str s,.str [105,109,112,111,114,116,32]] (.gM [.str (s.drop 7),.bool true]):=by have c:=Fb s Bf hl (by simp[Bf]);rw[h]at c;exact c
theorem uG[aB prog][bQ prog](body base:bB)(hl:body.length<=1073741824)(hb:base.length<=1073741824):Ok prog 220 [.str body,.str base] (.gM [.sl .own 2 ((bH body base).1.map aH),.sl .own 2 ((bH body base).2.1.map lS),.bool (bH body base).2.2]):=by
 have cS:=qb body 59 (by omega);have hle:=Rl 59 body;have hst:=Mv base (dE 59 body);have hn:=iV 59 body;have hcn:body.count 59<=body.length:=pP;have hll:(dE 59 body).length<=1073741825:=by omega
 have jK:∀acc r,oP base (dE 59 body)=some (acc,r)->∀ls ok,fZ (Lib.join r [59])=(ls,ok)->bH body base=if ok=true then(acc,ls,true)else([],[],false):=by intro acc r h1 ls ok h2;unfold bH;rw[h1];simp only[h2]
 have Cf:oP base (dE 59 body)=none->bH body base=([],[],false):=by intro h1;unfold bH;rw[h1]
 generalize bH body base=g at*;have hjl:(Lib.join (dE 59 body) [59]).length<=1073741824:=by rw[Oy];exact hl
 generalize dE 59 body=l at*;refine bM aG func220 ntmps220 ?_;refine aZ ?_;refine aM (ι:={q:Nat×List aD×Nat // (q.1<=l.length/\1<=q.2.2)/\q.2.1.length=q.1/\zU base l q.2.1 (l.drop q.1)}) (λt o i=>⟨bC t [(7,.obj 0 (i.1.1+1)),(8,.obj 1 i.1.2.2),(9,.undef),(10,.undef),(11,.undef),(12,.undef)],[⟨true,false,1,i.1.1+1,(l.drop i.1.1).map dC⟩,⟨true,false,2,i.1.2.2,i.1.2.1.map aH⟩]⟩)
  (λi=>l.length-i.1.1) ⟨(0,[],1),by simp,by simp,by simpa using hst⟩ aK ?_
 rintro⟨⟨k,acc,v⟩,⟨hk,hv⟩,xJ,rO⟩ K1 hK1;simp only at hk hv xJ rO;simp only[bC,cW,cU]at hK1⊢;have hjd:=Mw 59 k l;have hdl:(l.drop k).length<=1073741825:=by simp;omega
 have cJ:=aH6 (l.drop k) [59] (by omega) (by omega);have cP:=Ci (Lib.join (l.drop k) [59]) (by omega);by_cases hlt:k<l.length
 .have hd:l.drop k=l[k]::l.drop (k+1):=mC hlt;have hpl:=hle _ (fS hlt);have c2:=zP (l[k].drop 7) base (by simp;omega);simp only[aH]at c2;rw[hd]at rO cJ cP hdl⊢;generalize hps:l.drop (k+1)=ps at*;generalize l[k]=p at*;simp only[eN]at hdl;cases hp:CJ Bf p with
  |false=>
   have hs:=PR rO hp;have c1:=aC2 (by omega) hp;have hr:=jK _ _ hs;clear hp hs rO hst hK1;have hdp:(0:Int)<(ps.length:Int)+1:=by omega
   generalize Lib.join (p::ps) [59]=J2 at*;generalize fZ J2=q at*;obtain⟨ls,ok⟩:=q;have hr:=hr ls ok rfl;subst hr;simp only at cP;cases ok
   .simp only[eS,hM];have W:=hdp;refine we ?_;exact aF results220
   .simp only[gE];have W:=hdp;refine we ?_;exact aF results220
  |true=>
   have jZ:=Uj rO hp;have hnext:=PQ rO hp;have c1:=N8 (by omega) hp;clear hp;have hdp:(0:Int)<(ps.length:Int)+1:=by omega
   generalize bY (p.drop 7) base=pa at*;obtain⟨a,ok⟩:=pa;simp only at c2 jZ hnext;have htk:List.take ps.length (ps.map dC)=ps.map dC:=cX (by simp);cases ok with
   |false=>have hr:=Cf (jZ rfl);subst hr;have W:=hdp;refine we ?_;exact aF results220
   |true=>have W:=hdp;refine we ?_;all_goals exact hK1 _ ⟨(k+1,acc++[a],v+1),⟨by simp only;omega,by simp only;omega⟩,by simp;omega,by simp only[hps];exact hnext rfl⟩ (aT 2 (by simp[hps,htk])) (by simp only;omega)
 .have hd:l.drop k=[]:=AH (by omega);rw[hd]at rO cJ cP⊢;have hr:=jK _ _ (Uk rO) [] true rfl;subst hr;have hq:fZ []=([],true):=rfl;simp only[Lib.join_nil,hq,DG,gE]at cJ cP⊢;refine aZ ?_;exact aF results220
theorem Ul(c:UInt8)(s:bB):dE c s=s.take (iK c s)::(if iK c s<s.length then dE c (s.drop (iK c s+1))else []):=by
 rw[NJ];have h:=vI c s;split
 .rfl
 .rw [cX (by omega)]
theorem aH7{p s:bB}{k:Nat}(h:CJ p (s.take k)=true):CJ p s=true:=by simp only[CJ,eI,fN,tP,take_take,oT]at h⊢;obtain⟨h1,h2⟩:=h;rw[DS (by omega)]at h2;exact⟨by omega,h2⟩
theorem aH8{s:bB}(h:CJ Bf s=true):7<=iK 59 s:=by
 simp only[CJ,eI,fN,tP]at h;obtain⟨h1,h2⟩:=h;have h3:s=Bf++s.drop 7:=by have:=oA 7 s;rw[show Bf.length=7 from rfl]at h2;rw[h2]at this;exact this.symm
 rw[h3,LA 59 Bf _ (by decide)];simp[Bf]
theorem aC3{s:bB}(h:CJ Bf s=true):CJ Bf (s.take (iK 59 s))=true:=by have h7:=aH8 h;have hle:=vI 59 s;simp only[CJ,eI,fN,tP,take_take,oT,show Bf.length=7 from rfl]at h⊢;rw[DS h7];exact⟨by omega,h.2⟩
theorem xM[aB prog][bQ prog](body base:bB)(hl:body.length<=1073741824)(hb:base.length<=1073741824):Ok prog 193 [.str body,.str base] (.gM [.sl .own 2 ((bH body base).1.map aH),.sl .own 2 ((bH body base).2.1.map lS),.bool (bH body base).2.2]):=by
 have hst:=Mv base (dE 59 body);have hn:=iV 59 body;have hcn:body.count 59<=body.length:=pP;have hll:(dE 59 body).length<=1073741825:=by omega
 have jK:∀acc r,oP base (dE 59 body)=some (acc,r)->∀ls ok,fZ (Lib.join r [59])=(ls,ok)->bH body base=if ok=true then(acc,ls,true)else([],[],false):=by intro acc r h1 ls ok h2;unfold bH;rw[h1];simp only[h2]
 have Cf:oP base (dE 59 body)=none->bH body base=([],[],false):=by intro h1;unfold bH;rw[h1]
 generalize bH body base=g at*;have hi0:dE 59 body=dE 59 body\/(dE 59 body=[]/\body=[]):= .inl rfl;generalize hL:dE 59 body=l at hst hn hll jK Cf hi0;refine bM aG func193 ntmps193 ?_;refine aZ ?_;refine aM (ι:={q:bB×List bB×List aD×Nat // (q.1.length<=body.length/\1<=q.2.2.2)/\(q.2.1=dE 59 q.1\/(q.2.1=[]/\q.1=[]))/\q.2.2.1.length+q.2.1.length<=l.length/\zU base l q.2.2.1 q.2.1}) (λt o i=>⟨bC t [(8,.str i.1.1),(7,.obj 0 i.1.2.2.2),(9,.undef),(10,.undef),(11,.undef)],[⟨true,false,2,i.1.2.2.2,i.1.2.2.1.map aH⟩]⟩)
  (λi=>i.1.2.1.length) ⟨(body,l,[],1),by simp,.inl hL.symm,by simp,hst⟩ aK ?_
 rintro⟨⟨rest,parts,acc,v⟩,⟨hrl,hv⟩,AY,hac,rO⟩ K1 hK1;simp only at hrl hv AY hac rO;simp only[bC,cW,cU]at hK1⊢;have aTv:Lib.join parts [59]=rest:=by
  rcases AY with rfl|⟨rfl,rfl⟩
  .exact Oy 59 rest
  .rfl
 cases hp:CJ Bf rest with
 |false=>
  have hs:oP base l=some (acc,parts):=by
   rcases AY with rfl|⟨rfl,rfl⟩
   .rw [Ul]at rO⊢;refine PR rO ?_;cases h:CJ Bf (rest.take (iK 59 rest))with
    |false=>rfl
    |true=>rw[aH7 h]at hp;cases hp
   .exact Uk rO
  have hr:=jK _ _ hs;rw[aTv]at hr;have cP:=Ch rest (by omega);generalize fZ rest=q at*;obtain⟨ls,ok⟩:=q;have hr:=hr ls ok rfl;subst hr;simp only at cP;clear hK1 hs jK Cf rO;by_cases h7:(7:Int)<=(rest.length:Int)
  .have he:(rest.take 7 == ([105,109,112,111,114,116,32]:bB))=false:=by
    simp only[CJ,show Bf.length=7 from rfl,sC,pA]at hp;rcases hp with hp|hp
    .omega
    .exact hp
   clear hp;cases ok
   .simp only[eS,hM];have W:=aA h7 he;refine we ?_;exact aF results193
   .simp only[gE];have W:=aA h7 he;refine we ?_;exact aF results193
  .clear hp;cases ok
   .simp only[eS,hM];have W:=h7;refine we ?_;exact aF results193
   .simp only[gE];have W:=h7;refine we ?_;exact aF results193
 |true=>
  have h7n:=Tx hp;have h7:(7:Int)<=(rest.length:Int):=by simp only[show Bf.length=7 from rfl]at h7n;omega
  have he:(rest.take 7 == ([105,109,112,111,114,116,32]:bB))=true:=by simp only[CJ,show Bf.length=7 from rfl,eI]at hp;exact hp.2
  have hpt:=aC3 hp;have hix:=aH8 hp;have hxl:=vI 59 rest;have hsg:parts=dE 59 rest:=by
   rcases AY with h|⟨_,h⟩
   .exact h
   .subst h;simp at h7
  rw[Ul]at hsg;have cI:Ok prog 130 [.str rest,.int .u8 59] (.int .i64 (iK 59 rest:Nat)):=Ku rest 59 (by omega);generalize iK 59 rest=k at*;subst hsg;have c2:=zO ((rest.take k).drop 7) base (by simp;omega);simp only[aH]at c2;have jZ:=Uj rO hpt;have hnext:=PQ rO hpt;have cM:=aGz (rest.length:Int) ((k:Int)+1);have hk7:(7:Int)<=(k:Int):=by omega
  have hkl:(k:Int)<=(rest.length:Int):=by omega
  generalize bY ((rest.take k).drop 7) base=pa at*;obtain⟨a,ok⟩:=pa;simp only at c2 jZ hnext;clear hp hpt;cases ok with
  |false=>have hr:=Cf (jZ rfl);subst hr;clear hK1;have W:=aA h7 (aA he (aA hk7 hkl));refine we ?_;exact aF results193
  |true=>
   by_cases hkk:k<rest.length
   .have hm:min (rest.length:Int) ((k:Int)+1)=((k+1:Nat):Int):=by omega
    rw[hm]at cM;have hk1:=oQ (k:=k);rw[eK hkk]at hnext hac;have W:=aA h7 (aA he (aA hk7 (aA hkl hk1)));refine we ?_;all_goals exact hK1 _ ⟨(rest.drop (k+1),dE 59 (rest.drop (k+1)),acc++[a],v+1),⟨by simp;omega,by simp only;omega⟩,.inl rfl,by simp at hac⊢;omega,hnext rfl⟩ (aT 1) (by simp[eK hkk])
   .have hm:min (rest.length:Int) ((k:Int)+1)=(rest.length:Int):=by omega
    rw[hm]at cM;rw[cY hkk]at hnext hac;have W:=aA h7 (aA he (aA hk7 hkl));refine we ?_;all_goals exact hK1 _ ⟨([],[],acc++[a],v+1),⟨by simp,by simp only;omega⟩,.inr ⟨rfl,rfl⟩,by simp at hac⊢;omega,hnext rfl⟩ (aT 1) (by simp)
def iO(p:aI)(a:aD):List aD:=
 match p.aO.find? (kW a)with
 |some m=>if m.done=true/\m.code=1 then(bH m.body a.host).1 else []
 |none=>[]
def vC(p:aI):List aD:=p.aO.flatMap λm=>(bH m.body m.to.host).1
def gI(p:aI):Nat->aD->List aD->List aD->List aD×List aD
 |0,_,seen,out=>(seen,out)
 |n+1,a,seen,out=>if seen.any (iA a)=true then(seen,out)else
   (((iO p a).foldl (λs b=>gI p n b s.1 s.2) (seen++[a],out)).1,((iO p a).foldl (λs b=>gI p n b s.1 s.2) (seen++[a],out)).2++[a])
def sD(p:aI)(seen:List aD):Nat:=(p.aO.filter λm=> !seen.any (iA m.to)).length
def dW(p:aI)(n:Nat)(l:List aD)(s:List aD×List aD):List aD×List aD:=l.foldl (λs b=>gI p n b s.1 s.2) s
theorem Hy(p:aI)(n:Nat)(l:List aD)(b:aD)(s:List aD×List aD):dW p n (l++[b]) s=gI p n b (dW p n l s).1 (dW p n l s).2:=by simp[dW]
theorem yV{l:List aD}{a:aD}:l.any (iA a)=true↔a∈l:=by simp[iA]
theorem KF(p:aI)(a:aD):∀b∈iO p a,b∈vC p:=by
 intro b hb;unfold iO at hb;split at hb
 .rename_i m hm;split at hb
  .have h1:=Fk hm;have h2:=pB hm;simp only[kW,fN]at h1;subst h1;exact Fm.2 ⟨m,h2,hb⟩
  .cases hb
 .cases hb
theorem N9{p:aI}{a:aD}(h:iO p a≠[]):∃m∈p.aO,m.to=a:=by
 unfold iO at h;split at h
 .rename_i m hm;have h1:=Fk hm;simp only[kW,fN]at h1;exact⟨m,pB hm,h1⟩
 .exact absurd rfl h
structure Seen(U:List aD)(s:List aD × List aD): Prop where
  nd:s.1.Nodup
  sub:∀ x ∈ s.1, x ∈ U
  ond:s.2.Nodup
  qm:∀ x ∈ s.2, x ∈ s.1
theorem PS{p:aI}{s s':List aD}(h:∀x∈s,x∈s'):sD p s'<=sD p s:=by
 unfold sD;have:∀l:List dX,(l.filter λm=> !s'.any (iA m.to)).length<=(l.filter λm=> !s.any (iA m.to)).length:=by
  intro l;induction l with
  |nil=>simp
  |cons m l ih=>
   simp only[filter_cons];by_cases h1:s.any (iA m.to)=true
   .have h2:s'.any (iA m.to)=true:=yV.2 (h _ (yV.1 h1));simp[h1,h2,ih]
   .simp only[AD]at h1;simp only[h1];split<;>simp<;>omega
 exact this p.aO
theorem Ye{p:aI}{s:List aD}{a:aD}(h:¬s.any (iA a)=true)(hm:∃m∈p.aO,m.to=a):sD p (s++[a])<sD p s:=by
 obtain⟨m,hm,rfl⟩:=hm;unfold sD;have key:∀l:List dX,(l.filter λx=> !(s++[m.to]).any (iA x.to)).length<=(l.filter λx=> !s.any (iA x.to)).length/\(m∈l->(l.filter λx=> !(s++[m.to]).any (iA x.to)).length<(l.filter λx=> !s.any (iA x.to)).length):=by
  intro l;induction l with
  |nil=>simp
  |cons x l ih=>
   simp only[filter_cons];by_cases h1:s.any (iA x.to)=true
   .have h2:(s++[m.to]).any (iA x.to)=true:=yV.2 (oE _ (yV.1 h1));simp only[h1,h2,DQ,eS,hM];refine⟨ih.1,λhmem=> ?_⟩;rcases gS.1 hmem with rfl|hmem
    .exact absurd h1 h
    .exact ih.2 hmem
   .by_cases h2:(s++[m.to]).any (iA x.to)=true
    .simp only[AD]at h1;simp only[h1,h2,DQ,eS,hM,Ge,gE,eN];exact⟨by omega,λ_=>by omega⟩
    .have h2':=h2;simp only[AD]at h1 h2;simp only[h1,h2,Ge,gE,eN];refine⟨by omega,λhmem=> ?_⟩;rcases gS.1 hmem with rfl|hmem
     .exact absurd (yV.2 (by simp)) h2'
     .have:=ih.2 hmem;omega
 exact(key p.aO).2 hm
theorem Fz{p:aI}{U:List aD}(hU:∀x∈vC p,x∈U):∀(n:Nat) (a:aD) (s:List aD×List aD),a∈U->Seen U s->Seen U (gI p n a s.1 s.2)/\(∀x∈s.1,x∈(gI p n a s.1 s.2).1)
 |0,a,s,_,hs=>by simp only[gI];exact⟨hs,λ_ h=>h⟩
 |n+1,a,s,ha,hs=>by
  simp only[gI];split
  .exact ⟨hs,λ_ h=>h⟩
  .rename_i hn;have hna:a∉s.1:=λh=>hn (yV.2 h)
   have key:∀(l:List aD) (q:List aD×List aD),(∀x∈l,x∈U)->Seen U q->(a∈q.1/\a∉q.2)->Seen U (l.foldl (λs b=>gI p n b s.1 s.2) q)/\(∀x∈q.1,x∈(l.foldl (λs b=>gI p n b s.1 s.2) q).1)/\a∉(l.foldl (λs b=>gI p n b s.1 s.2) q).2:=by
    intro l;induction l with
    |nil=>intro q _ hq ha;exact⟨hq,λ_ h=>h,ha.2⟩
    |cons b l ih=>intro q hl hq haq;obtain⟨h1,h2⟩:=Fz hU n b q (hl b (by simp)) hq;have h3:a∉(gI p n b q.1 q.2).2:=Yf n b q haq.1 haq.2;obtain⟨h4,h5,h6⟩:=ih (gI p n b q.1 q.2) (λx hx=>hl x (by simp[hx])) h1 ⟨h2 a haq.1,h3⟩;exact⟨h4,λx hx=>h5 x (h2 x hx),h6⟩
   have hs1:Seen U (s.1++[a],s.2):=⟨gO.2 ⟨hs.nd,by simp,λx hx y hy e=>hna (by simp at hy;subst hy;subst e;exact hx)⟩,λx hx=>by
    rcases eW.1 hx with h|h
    .exact hs.sub x h
    .simp at h;subst h;exact ha,hs.ond,λx hx=>oE _ (hs.qm x hx)⟩
   obtain⟨h1,h2,h3⟩:=key (iO p a) (s.1++[a],s.2) (λx hx=>hU x (KF p a x hx)) hs1 ⟨by simp,λh=>hna (hs.qm a h)⟩;refine⟨⟨h1.nd,h1.sub,?_,?_⟩,λx hx=>h2 x (oE _ hx)⟩
   .exact gO.2 ⟨h1.ond,by simp,λx hx y hy e=>h3 (by simp at hy;subst hy;subst e;exact hx)⟩
   .intro x hx;rcases eW.1 hx with h|h
    .exact h1.qm x h
    .simp at h;subst h;exact h2 x (by simp)
where
 Yf {p:aI} {a:aD}:∀(n:Nat) (b:aD) (q:List aD×List aD),a∈q.1->a∉q.2->a∉(gI p n b q.1 q.2).2
  |0,b,q,h1,h2=>by simpa only[gI]using h2
  |n+1,b,q,h1,h2=>by
   simp only[gI];split
   .exact h2
   .rename_i hn;have hne:a≠b:=λe=>hn (yV.2 (e▸h1))
    have key:∀(l:List aD) (q:List aD×List aD),a∈q.1->a∉q.2->a∉(l.foldl (λs b=>gI p n b s.1 s.2) q).2:=by
     intro l;induction l with
     |nil=>intro q _ h;exact h
     |cons c l ih=>intro q h1 h2;exact ih _ (qo n c q h1) (Yf n c q h1 h2)
    intro hm;rcases eW.1 hm with h|h
    .exact key (iO p b) (q.1++[b],q.2) (oE _ h1) h2 h
    .simp at h;exact hne h
 qo {p:aI} {a:aD}:∀(n:Nat) (b:aD) (q:List aD×List aD),a∈q.1->a∈(gI p n b q.1 q.2).1
  |0,b,q,h1=>by simpa only[gI]using h1
  |n+1,b,q,h1=>by
   simp only[gI];split
   .exact h1
   .have key:∀(l:List aD) (q:List aD×List aD),a∈q.1->a∈(l.foldl (λs b=>gI p n b s.1 s.2) q).1:=by
     intro l;induction l with
     |nil=>intro q h;exact h
     |cons c l ih=>intro q h1;exact ih _ (qo n c q h1)
    exact key (iO p b) (q.1++[b],q.2) (oE _ h1)
theorem Ez{α:Type}(f:α->Nat):∀(l U:List α),l.Nodup->(∀x∈l,x∈U)->aY f l<=aY f U/\l.length<=U.length
 |[],U,_,_=>by simp[aY]
 |x::l,U,hn,hs=>by
  simp only[lR]at hn;obtain⟨U1,U2,rfl⟩:=append_of_mem (hs x (by simp));have ih:=Ez f l (U1++U2) hn.2 (λy hy=>by
   have:=hs y (by simp[hy]);simp only[eW,gS]at this⊢;rcases this with h|h|h
   .exact .inl h
   .subst h;exact absurd hy hn.1
   .exact .inr h)
  have e:∀(A B:List α),aY f (A++B)=aY f A+aY f B:=by
   intro A B;induction A with
   |nil=>simp[aY]
   |cons a A ih=>simp only[eA,aY,ih];omega
  simp only[e,aY,eR,eN]at ih⊢;omega
end Go.Proofs.YthddijamfbfibaaGreatDoor
