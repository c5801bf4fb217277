/- Proved here: steps towards the statement of this claim. No condition. -/
import Derived.Test.YtjmpjmilndkgfaaGreatDoorZQT4
import Derived.Test.YtjmpjmilndkgfaaGreatDoorZP2
set_option linter.all false
set_option maxRecDepth 4000
set_option maxHeartbeats 4000000
namespace Go.Proofs.YtjmpjmilndkgfaaGreatDoor
open Go.Aw Proofs.Tryz List IntKind
def wZ:bF:=[99,111,117,110,116,32]
def Cf:bF:=[108,111,111,107,32]
def JU:bF:=[115,97,121,32]
def bX (b:bC) (ss:List gP) (x:jP):bC×bF×bF:=
 if x.op=1 then (b,x.text.map rO,[])
 else if x.op=2 then (if (1<=b.nodes.length/\b.nodes.length<=39)/\dA x.text=true then ({b with nodes:=b.nodes++[⟨x.text,[],0,[]⟩]},[],[]) else (b,[],[]))
 else if x.op=3 then (b,[],wZ++x.text++[32]++Lib.itoa (aX b x.text))
 else if x.op=4 then (b,[],Cf++x.text++[32]++Lib.itoa (bJ ss x.text))
 else if x.op=5 then (b,[],JU++x.text)
 else (b,[],[])
theorem ow [aC prog]:Ok prog 252 [.int .i64 1] (.str [119,114,105,116,101]):=by have c0:=jT 1 1 5;simp only [Int.reduceLE,DO,Fk] at c0;refine bR aD func252 ntmps252 ?_;refine bH ?_;exact aK results252
theorem oz [aC prog]:Ok prog 252 [.int .i64 2] (.str [97,100,100]):=by have c0:=jT 2 1 5;simp only [Int.reduceLE,DO,Fk] at c0;refine bR aD func252 ntmps252 ?_;refine bH ?_;exact aK results252
theorem pg [aC prog]:Ok prog 252 [.int .i64 3] (.str [99,111,117,110,116]):=by have c0:=jT 3 1 5;simp only [Int.reduceLE,DO,Fk] at c0;refine bR aD func252 ntmps252 ?_;refine bH ?_;exact aK results252
theorem pq [aC prog]:Ok prog 252 [.int .i64 4] (.str [108,111,111,107]):=by have c0:=jT 4 1 5;simp only [Int.reduceLE,DO,Fk] at c0;refine bR aD func252 ntmps252 ?_;refine bH ?_;exact aK results252
theorem qa [aC prog]:Ok prog 252 [.int .i64 5] (.str [115,97,121]):=by have c0:=jT 5 1 5;simp only [Int.reduceLE,DO,Fk] at c0;refine bR aD func252 ntmps252 ?_;refine bH ?_;exact aK results252
theorem aO6 (op:Nat):∀x∈wd op,x≠32:=by
 have h:(wd op).all (λx=>decide (x≠32))=true:=by unfold wd;split<;>decide
 intro x hx;simpa using fS.1 h x hx
theorem aHq {s:bF} {op:Nat} (hk:iL 32 s < s.length) (hw:s.take (iL 32 s)=wd op):lK s op=some (⟨op,s.drop (iL 32 s+1)⟩,iG op (s.drop (iL 32 s+1))):=by
 have hL:(wd op).length=iL 32 s:=by rw [<-hw];simp;omega
 have h2:s.take ((wd op).length+1)=wd op++[32]:=by rw [hL,eA hk,hw,xk hk]
 rw [yI (by omega) h2,hL]
theorem aHr {s:bF} {op:Nat} (h:¬(iL 32 s < s.length/\s.take (iL 32 s)=wd op)):lK s op=none:=by
 refine oK λ⟨h1,h2⟩=>h ?_
 have hlt:(wd op).length < s.length:=by omega
 have ht:s.take (wd op).length=wd op:=by have:=An (List.take (wd op).length) h2;simpa [take_take] using this
 have hg:s[(wd op).length]=32:=by have:=An (λl=>l[(wd op).length]?) h2;simp only [hY (eE _),xF,sL] at this;rw [AT,eK (by omega),aE hlt] at this;exact cQ this
 have hi:iL 32 s=(wd op).length:=jd hlt hg (by rw [ht];exact aO6 op);rw [hi];exact ⟨hlt,ht⟩
theorem AY {s:bF} (h:∀j,1<=j->j < 6->lK s j=none):cZ s=(⟨0,[]⟩,false):=by simp [cZ,h 1 (by omega) (by omega),h 2 (by omega) (by omega),h 3 (by omega) (by omega),h 4 (by omega) (by omega),h 5 (by omega) (by omega)]
def mE (p:jP×Bool):jP:=if p.2=true then p.1 else ⟨0,[]⟩
theorem Xe [aC prog] (s:bF) (hl:s.length<=1099511627776):Ok prog 200 [.str s] (.iJ [.agg (lJ (mE (cZ s))),.bool (cZ s).2]):=by
 have hC:=yT s 32 (by omega);have hle:=tL 32 s;have c1:=ow;have c2:=oz;have c3:=pg;have c4:=pq;have c5:=qa;have cN:=gZ (s.drop (iL 32 s+1)) (by simp;omega);have ht:∀op,iL 32 s < s.length->s.take (iL 32 s)=wd op->lK s op=some (⟨op,s.drop (iL 32 s+1)⟩,iG op (s.drop (iL 32 s+1))):=λop=>aHq
 have hf:∀op,¬(iL 32 s < s.length/\s.take (iL 32 s)=wd op)->lK s op=none:=λop=>aHr
 generalize iL 32 s=p at *;generalize aUe:s.take p=word at *;generalize aO7:s.drop (p+1)=text at *;have htl:text.length<=s.length:=by rw [<-aO7];simp
 refine bR aD func200 ntmps200 ?_;refine bH ?_;refine aL (ι:={i:Nat // (1<=i/\i<=6)/\∀j,1<=j->j < i->lK s j=none}) (λt o i=>⟨bD t [(7,.int .i64 i.1),(8,.undef)],o⟩) (λi=>6 - i.1) ⟨1,by simp,λj h1 h2=>by omega⟩ aH ?_;rintro ⟨k,⟨hk,hk6⟩,hn⟩ K1 hK1;try simp only at hk hk6 hn
 simp only [bD,cW,cU] at hK1⊢;obtain rfl|rfl|rfl|rfl|rfl|rfl:k=1\/k=2\/k=3\/k=4\/k=5\/k=6:=by omega
 .by_cases hw:word=[119,114,105,116,101]
  .by_cases hp:p < s.length
   .have hr:cZ s=(⟨1,text⟩,iG 1 text):=by simp [cZ,ht 1 hp hw]
    rw [hr];rw [sB hp] at hC;clear hr hf ht hn;subst hw;by_cases h3:(text.length:Int)<=60
    .have hg:iG 1 text=true:=by simp [iG,Eh];omega
     have h4:¬(60:Int) < (text.length:Int):=by omega
     rw [hg];have W:=aA hp (aA h3 h4);refine we ?_;all_goals try(refine aR ?_;simp [aG,results200,mE])
    .have hg:iG 1 text=false:=by simp [iG,Eh];omega
     have h4:(60:Int) < (text.length:Int):=by omega
     rw [hg];have W:=aA hp (aA h3 h4);refine we ?_;all_goals try(refine aR ?_;simp [aG,results200,mE])
   .have hr:cZ s=(⟨0,[]⟩,false):=AY λj _ _=>hf j λh=>hp h.1
    rw [hr];rw [AE hp] at hC;clear hr hf ht hn;subst hw;have UY:s.length<=p:=by omega
    have W:=aA hp UY;refine we ?_;all_goals try(refine aR ?_;simp [aG,results200,mE])
  .have hx:=hf 1 λh=>hw h.2
   have hb:(([119,114,105,116,101]:bF) == word)=false:=by simpa using λh=>hw h.symm
   have hw2:¬[119,114,105,116,101]=word:=λh=>hw h.symm
   clear hf ht;have W:=aA hw (aA hw2 hb);refine we ?_;exact hK1 _ ⟨2,by omega,mY hn hx⟩ aH (by simp only;omega)
 .by_cases hw:word=[97,100,100]
  .by_cases hp:p < s.length
   .have hr:cZ s=(⟨2,text⟩,iG 2 text):=by simp [cZ,hn 1 (by omega) (by omega),ht 2 hp hw]
    rw [hr];rw [sB hp] at hC;clear hr hf ht hn;subst hw;have hg:iG 2 text=dA text:=rfl;rw [hg];generalize dA text=b at *;cases b
    .have W:=hp;refine we ?_;all_goals try(refine aR ?_;simp [aG,results200,mE])
    .have W:=hp;refine we ?_;all_goals try(refine aR ?_;simp [aG,results200,mE])
   .have hr:cZ s=(⟨0,[]⟩,false):=AY λj _ _=>hf j λh=>hp h.1
    rw [hr];rw [AE hp] at hC;clear hr hf ht hn;subst hw;have UY:s.length<=p:=by omega
    have W:=aA hp UY;refine we ?_;all_goals try(refine aR ?_;simp [aG,results200,mE])
  .have hx:=hf 2 λh=>hw h.2
   have hb:(([97,100,100]:bF) == word)=false:=by simpa using λh=>hw h.symm
   have hw2:¬[97,100,100]=word:=λh=>hw h.symm
   clear hf ht;have W:=aA hw (aA hw2 hb);refine we ?_;exact hK1 _ ⟨3,by omega,mY hn hx⟩ aH (by simp only;omega)
 .by_cases hw:word=[99,111,117,110,116]
  .by_cases hp:p < s.length
   .have hr:cZ s=(⟨3,text⟩,iG 3 text):=by simp [cZ,hn 1 (by omega) (by omega),hn 2 (by omega) (by omega),ht 3 hp hw]
    rw [hr];rw [sB hp] at hC;clear hr hf ht hn;subst hw;have hg:iG 3 text=dA text:=rfl;rw [hg];generalize dA text=b at *;cases b
    .have W:=hp;refine we ?_;all_goals try(refine aR ?_;simp [aG,results200,mE])
    .have W:=hp;refine we ?_;all_goals try(refine aR ?_;simp [aG,results200,mE])
   .have hr:cZ s=(⟨0,[]⟩,false):=AY λj _ _=>hf j λh=>hp h.1
    rw [hr];rw [AE hp] at hC;clear hr hf ht hn;subst hw;have UY:s.length<=p:=by omega
    have W:=aA hp UY;refine we ?_;all_goals try(refine aR ?_;simp [aG,results200,mE])
  .have hx:=hf 3 λh=>hw h.2
   have hb:(([99,111,117,110,116]:bF) == word)=false:=by simpa using λh=>hw h.symm
   have hw2:¬[99,111,117,110,116]=word:=λh=>hw h.symm
   clear hf ht;have W:=aA hw (aA hw2 hb);refine we ?_;exact hK1 _ ⟨4,by omega,mY hn hx⟩ aH (by simp only;omega)
 .by_cases hw:word=[108,111,111,107]
  .by_cases hp:p < s.length
   .have hr:cZ s=(⟨4,text⟩,iG 4 text):=by simp [cZ,hn 1 (by omega) (by omega),hn 2 (by omega) (by omega),hn 3 (by omega) (by omega),ht 4 hp hw]
    rw [hr];rw [sB hp] at hC;clear hr hf ht hn;subst hw;have hg:iG 4 text=dA text:=rfl;rw [hg];generalize dA text=b at *;cases b
    .have W:=hp;refine we ?_;all_goals try(refine aR ?_;simp [aG,results200,mE])
    .have W:=hp;refine we ?_;all_goals try(refine aR ?_;simp [aG,results200,mE])
   .have hr:cZ s=(⟨0,[]⟩,false):=AY λj _ _=>hf j λh=>hp h.1
    rw [hr];rw [AE hp] at hC;clear hr hf ht hn;subst hw;have UY:s.length<=p:=by omega
    have W:=aA hp UY;refine we ?_;all_goals try(refine aR ?_;simp [aG,results200,mE])
  .have hx:=hf 4 λh=>hw h.2
   have hb:(([108,111,111,107]:bF) == word)=false:=by simpa using λh=>hw h.symm
   have hw2:¬[108,111,111,107]=word:=λh=>hw h.symm
   clear hf ht;have W:=aA hw (aA hw2 hb);refine we ?_;exact hK1 _ ⟨5,by omega,mY hn hx⟩ aH (by simp only;omega)
 .by_cases hw:word=[115,97,121]
  .by_cases hp:p < s.length
   .have hr:cZ s=(⟨5,text⟩,iG 5 text):=by simp [cZ,hn 1 (by omega) (by omega),hn 2 (by omega) (by omega),hn 3 (by omega) (by omega),hn 4 (by omega) (by omega),ht 5 hp hw]
    rw [hr];rw [sB hp] at hC;clear hr hf ht hn;subst hw;by_cases h3:(text.length:Int)<=60
    .have hg:iG 5 text=true:=by simp [iG,Eh];omega
     have h4:¬(60:Int) < (text.length:Int):=by omega
     rw [hg];have W:=aA hp (aA h3 h4);refine we ?_;all_goals try(refine aR ?_;simp [aG,results200,mE])
    .have hg:iG 5 text=false:=by simp [iG,Eh];omega
     have h4:(60:Int) < (text.length:Int):=by omega
     rw [hg];have W:=aA hp (aA h3 h4);refine we ?_;all_goals try(refine aR ?_;simp [aG,results200,mE])
   .have hr:cZ s=(⟨0,[]⟩,false):=AY λj _ _=>hf j λh=>hp h.1
    rw [hr];rw [AE hp] at hC;clear hr hf ht hn;subst hw;have UY:s.length<=p:=by omega
    have W:=aA hp UY;refine we ?_;all_goals try(refine aR ?_;simp [aG,results200,mE])
  .have hx:=hf 5 λh=>hw h.2
   have hb:(([115,97,121]:bF) == word)=false:=by simpa using λh=>hw h.symm
   have hw2:¬[115,97,121]=word:=λh=>hw h.symm
   clear hf ht;have W:=aA hw (aA hw2 hb);refine we ?_;exact hK1 _ ⟨6,by omega,mY hn hx⟩ aH (by simp only;omega)
 .have hr:cZ s=(⟨0,[]⟩,false):=AY λj h1 h2=>hn j h1 h2
  rw [hr];clear hr hf ht hn;refine bH ?_;all_goals try(refine aR ?_;simp [aG,results200,mE])
theorem OP (c:UInt8):∀s:bF,∀p∈dF c s,p.length<=s.length
 |[],p,h=>by simp only [dF,sA] at h;subst h;simp
 |x::s,p,h=>by
  have ih:=OP c s;simp only [dF] at h;split at h
  .rcases lB.1 h with rfl|h
   .simp
   .have:=ih p h;simp;omega
  .split at h
   .rename_i h0;exact absurd h0 (pQ c s)
   .rename_i q r h0;rw [h0] at ih;rcases lB.1 h with rfl|h
    .have:=ih q (by simp);simp;omega
    .have:=ih p (by simp [h]);simp;omega
def fZ (s:bF):List jP×Bool:=
 if s=[] then ([],true) else if ((dF 59 s).all λp=>(cZ p).2)=true/\(dF 59 s).length<=6 then ((dF 59 s).map λp=>(cZ p).1,true) else ([],false)
theorem Re {s:bF} {k:Nat} (h0:s≠[]) (hk:k < (dF 59 s).length) (h:(cZ (dF 59 s)[k]).2=false):fZ s=([],false):=by unfold fZ;rw [cY h0,cY];rintro ⟨h1,_⟩;have:=fS.1 h1 _ (fR hk);rw [h] at this;cases this
theorem Nb {s:bF} (h0:s≠[]) (h:6 < (dF 59 s).length):fZ s=([],false):=by unfold fZ;rw [cY h0,cY];rintro ⟨_,h1⟩;omega
theorem Nc {s:bF} (h0:s≠[]) (h1:∀p∈dF 59 s,(cZ p).2=true) (h2:(dF 59 s).length<=6):fZ s=((dF 59 s).map λp=>(cZ p).1,true):=by unfold fZ;rw [cY h0,eK ⟨fS.2 h1,h2⟩]
theorem VC {l:List bF} {k:Nat} (hk:k < l.length) (h:∀p∈l.take k,(cZ p).2=true) (h1:(cZ l[k]).2=true):∀p∈l.take (k+1),(cZ p).2=true:=by
 intro p hp;rw [eA hk] at hp;rcases fL.1 hp with hp|hp
 .exact h p hp
 .rw [sA.1 hp];exact h1
theorem Zv {α β:Type} (f:α->β) (l:List α) (k:Nat) (h:k < l.length):(l.take (k+1)).map f=(l.take k).map f++[f l[k]]:=by rw [eA h,rB];rfl
def eSp (p:bF):List AV:=lJ (cZ p).1
theorem yu (l:List bF):(l.map λp=>(cZ p).1).map lJ=l.map eSp:=by rw [map_map];rfl
theorem Bj [aC prog] [dD prog] (s:bF) (hl:s.length<=1073741824):Ok prog 160 [.str s] (.iJ [.sl .own 2 ((fZ s).1.map lJ),.bool (fZ s).2]):=by
 by_cases h0:s=[]
 .subst h0;have hr:fZ []=([],true):=rfl;rw [hr];refine bR aD func160 ntmps160 ?_;refine bH ?_;exact aK results160
 .have cS:Ok prog 209 [.str s,.int .u8 59] (.sl .own 1 ((dF 59 s).map bW)):=vV s 59 (by omega);have hb0:(s == ([]:bF))=false:=by simp [h0]
  have hle:=OP 59 s;have hn:=iV 59 s;have hcn:s.count 59<=s.length:=pB;have hb:=λk hk=>Re (k:=k) h0 hk
  have bu:=Nb h0;have hgd:=Nc h0;have hne:=pQ 59 s;generalize dF 59 s=l at *;have OI:l.length<=1073741825:=by omega
  have hl0:0 < l.length:=CD.2 hne;generalize fZ s=g at *;refine bR aD func160 ntmps160 ?_;have W:=aA h0 hb0;refine we ?_;refine aL (ι:={q:Nat×Nat // (q.1<=l.length/\1<=q.2)/\(∀p∈l.take q.1,(cZ p).2=true)/\(0 < q.1->l.length<=6)}) (λt o i=>⟨bD t [(6,.int .i64 i.1.1),(4,.obj 0 i.1.2),(7,.undef),(8,.undef)],[⟨true,false,2,i.1.2,(l.take i.1.1).map eSp⟩]++o.drop 1⟩)
   (λi=>l.length - i.1.1) ⟨(0,1),by simp,by simp,by simp⟩ aH ?_
  rintro ⟨⟨k,v⟩,⟨hk,hv⟩,hgood,aHs⟩ K1 hK1;simp only at hk hv hgood aHs;simp only [bD,cW,cU,rI,CM,eI,eN] at hK1⊢;have hk1:=oW (k:=k);by_cases hlt:k < l.length
  .have hg:=aE hlt;have c1:=O4 l[k] (by have:=hle _ (fR hlt);omega);have hps:=Zv eSp l k hlt;have hx:eSp l[k]=lJ (cZ l[k]).1:=rfl;have OE:((l.take k).map eSp).length=k:=by simp;omega
   have hbk:=hb k hlt;have Dl:=VC hlt hgood;simp only [lJ] at c1;generalize (l.take k).map eSp=rows at *;generalize cZ l[k]=x at *;obtain ⟨x,ok⟩:=x;simp only [lJ] at c1 hbk Dl hps hx;rw [hx] at hps;cases ok with
   |false=>have hr:=hbk rfl;subst hr;have W:=aA hk1 (aA hg hlt);refine we ?_;exact aK results160
   |true=>
    by_cases h6:6 < l.length
    .have hr:=bu h6;subst hr;have h6i:(6:Int) < (l.length:Int):=by omega
     have W:=aA hk1 (aA hg (aA hlt h6i));refine we ?_;exact aK results160
    .have h6i:¬(6:Int) < (l.length:Int):=by omega
     have W:=aA hk1 (aA hg (aA hlt (aA OE h6i)));refine we ?_;all_goals exact hK1 _ ⟨(k+1,v+1),⟨by simp only;omega,by simp only;omega⟩,Dl rfl,λ_=>by omega⟩ (aW 2 (by simp [hps])) (by simp only;omega)
  .have htk:l.take k=l:=cX (by omega);rw [htk] at hgood⊢;have hr:=hgd hgood (aHs (by omega));subst hr;simp only [yu];have W:=hk1;refine we ?_;all_goals try(refine aR ?_;simp [aG,results160])
   all_goals exact eY _ (by intro x;rfl) l
theorem Zw [aC prog] [dD prog] (s:bF) (c:UInt8) (hs:s.length < 4294967281):Ok prog 148 [.str s,.str [c]] (.sl .own 1 ((dF c s).map bW)):=Qe Tryz.laysM146 (by kernel_rfl) s c hs
theorem Bl [aC prog] [dD prog] (s:bF) (hl:s.length<=1073741824):Ok prog 151 [.str s] (.iJ [.sl .own 2 ((fZ s).1.map lJ),.bool (fZ s).2]):=by
 by_cases h0:s=[]
 .subst h0;have hr:fZ []=([],true):=rfl;rw [hr];refine bR aD func151 ntmps151 ?_;refine bH ?_;exact aK results151
 .have cS:=Zw s 59 (by omega);have hb0:(s == ([]:bF))=false:=by simp [h0]
  have hle:=OP 59 s;have hn:=iV 59 s;have hcn:s.count 59<=s.length:=pB;have hb:=λk hk=>Re (k:=k) h0 hk
  have bu:=Nb h0;have hgd:=Nc h0;have hne:=pQ 59 s;generalize dF 59 s=l at *;have OI:l.length<=1073741825:=by omega
  have hl0:0 < l.length:=CD.2 hne;generalize fZ s=g at *;refine bR aD func151 ntmps151 ?_;have W:=aA h0 hb0;refine we ?_;refine aL (ι:={q:Nat×Nat // (q.1<=l.length/\1<=q.2)/\(∀p∈l.take q.1,(cZ p).2=true)/\q.1<=6}) (λt o i=>⟨bD t [(16,.int .i64 i.1.1),(4,.obj 0 i.1.2),(6,.undef),(7,.undef),(8,.undef)],[⟨true,false,2,i.1.2,(l.take i.1.1).map eSp⟩]++o.drop 1⟩)
   (λi=>l.length - i.1.1) ⟨(0,1),by simp,by simp,by simp⟩ aH ?_
  rintro ⟨⟨k,v⟩,⟨hk,hv⟩,hgood,aHs⟩ K1 hK1;simp only at hk hv hgood aHs;simp only [bD,cW,cU,rI,CM,eI,eN] at hK1⊢;have hk1:=oW (k:=k);by_cases hlt:k < l.length
  .have hg:=aE hlt;have c1:=Xe l[k] (by have:=hle _ (fR hlt);omega);have hps:=Zv eSp l k hlt;have hx:eSp l[k]=lJ (cZ l[k]).1:=rfl;have OE:((l.take k).map eSp).length=k:=by simp;omega
   have hbk:=hb k hlt;have Dl:=VC hlt hgood;simp only [lJ] at c1;generalize (l.take k).map eSp=rows at *;generalize cZ l[k]=x at *;obtain ⟨x,ok⟩:=x;simp only [lJ] at hbk Dl hps hx;rw [hx] at hps;cases ok with
   |false=>have hr:=hbk rfl;subst hr;simp only [mE,lJ,eS,gS] at c1;have W:=aA hk1 (aA hg hlt);refine we ?_;exact aK results151
   |true=>
    simp only [mE,lJ,gE] at c1;by_cases h6:k=6
    .have hr:=bu (by omega);subst hr;have h6b:((k:Int) == 6)=true:=by simp;omega
     clear h6;have W:=aA hk1 (aA hg (aA hlt (aA OE h6b)));refine we ?_;exact aK results151
    .have h6i:¬(k:Int)=6:=by omega
     have h6b:((k:Int) == 6)=false:=by simpa using h6i
     have W:=aA hk1 (aA hg (aA hlt (aA OE (aA h6i h6b))));refine we ?_;all_goals exact hK1 _ ⟨(k+1,v+1),⟨by simp only;omega,by simp only;omega⟩,Dl rfl,by simp only;omega⟩ (aW 2 (by simp [hps])) (by simp only;omega)
  .have htk:l.take k=l:=cX (by omega);rw [htk] at hgood⊢;have hr:=hgd hgood (by omega);subst hr;simp only [yu];have W:=hk1;refine we ?_;all_goals try(refine aR ?_;simp [aG,results151])
   all_goals exact eY _ (by intro x;rfl) l
def Ae:bF:=[105,109,112,111,114,116,32]
def nQ (base:bF):List bF->Option (List aT×List bF)
 |[]=>some ([],[])
 |p::ps=>if BL Ae p=true then (if (bZ (p.drop 7) base).2=true then (nQ base ps).map (λq=>((bZ (p.drop 7) base).1::q.1,q.2)) else none) else some ([],p::ps)
def bI (body base:bF):List aT×List jP×Bool:=
 match nQ base (dF 59 body) with
 |none=>([],[],false)
 |some (l,r)=>if (fZ (Lib.join r [59])).2=true then (l,(fZ (Lib.join r [59])).1,true) else ([],[],false)
def yL (base:bF) (l:List bF) (acc:List aT) (r:List bF):Prop:=nQ base l=(nQ base r).map λq=>(acc++q.1,q.2)
theorem Ko (base:bF) (l:List bF):yL base l [] l:=by unfold yL;cases nQ base l<;>simp
theorem Ro {base:bF} {l:List bF} {acc:List aT} {p:bF} {ps:List bF} (h:yL base l acc (p::ps)) (h1:BL Ae p=true) (h2:(bZ (p.drop 7) base).2=false):nQ base l=none:=by unfold yL at h;rw [h];simp [nQ,h1,h2]
theorem Nl {base:bF} {l:List bF} {acc:List aT} {p:bF} {ps:List bF} (h:yL base l acc (p::ps)) (h1:BL Ae p=true) (h2:(bZ (p.drop 7) base).2=true):yL base l (acc++[(bZ (p.drop 7) base).1]) ps:=by unfold yL at h⊢;rw [h];simp only [nQ,h1,h2,gE];cases nQ base ps<;>simp
theorem Rp {base:bF} {l:List bF} {acc:List aT} (h:yL base l acc []):nQ base l=some (acc,[]):=by unfold yL at h;rw [h];simp [nQ]
theorem Nn {base:bF} {l:List bF} {acc:List aT} {p:bF} {ps:List bF} (h:yL base l acc (p::ps)) (h1:BL Ae p=false):nQ base l=some (acc,p::ps):=by unfold yL at h;rw [h];simp [nQ,h1]
theorem Mh (c:UInt8):∀s:bF,Lib.join (dF c s) [c]=s
 |[]=>by simp [dF,Lib.join_one]
 |x::s=>by
  have ih:=Mh c s;simp only [dF];split
  .rename_i h;subst h;cases hs:dF x s with
   |nil=>exact absurd hs (pQ x s)
   |cons p r=>rw [hs] at ih;simp only [Lib.join,intercalate] at ih⊢;simp only [intersperse,pH,eN,singleton_append] at ih⊢;rw [ih]
  .split
   .rename_i h0;exact absurd h0 (pQ c s)
   .rename_i p r h0;rw [h0] at ih;simp only [Lib.join,intercalate] at ih⊢;cases r with
    |nil=>simp only [intersperse,pH,flatten_nil,fX] at ih⊢;rw [ih]
    |cons q r=>simp only [intersperse,pH,eI] at ih⊢;rw [ih]
theorem aD8 [aC prog] [dD prog] (l:List bF) (sep:bF) (hl:l.length<=140737488355328) (hs:(Lib.join l sep).length<=140737488355328):
  Ok prog 152 [.sl .view 1 (l.map bW),.str sep] (.str (Lib.join l sep)):=xm Tryz.lays156 Tryz.Builder_Extra_156 l sep hl hs
theorem Xl (x:bF) (xs:List bF) (c:UInt8):(Lib.join xs [c]).length<=(Lib.join (x::xs) [c]).length:=by
 cases xs with
 |nil=>simp [Lib.join_nil]
 |cons y ys=>simp only [Lib.join,intercalate,intersperse,pH,eR];omega
theorem Kq (c:UInt8):∀(k:Nat) (l:List bF),(Lib.join (l.drop k) [c]).length<=(Lib.join l [c]).length
 |0,l=>by simp
 |_+1,[]=>by simp
 |k+1,x::xs=>by rw [rI];exact lO (Kq c k xs) (Xl x xs c)
theorem Q5 [aC prog] [dD prog] {s:bF} (hl:s.length<=1099511627776) (h:BL Ae s=false):Ok prog 149 [.str s,.str [105,109,112,111,114,116,32]] (.iJ [.str s,.bool false]):=by have c:=Ec s Ae hl (by simp [Ae]);rw [h] at c;exact c
theorem qm [aC prog] [dD prog] {s:bF} (hl:s.length<=1099511627776) (h:BL Ae s=true):Ok prog 149 [.str s,.str [105,109,112,111,114,116,32]] (.iJ [.str (s.drop 7),.bool true]):=by have c:=Ec s Ae hl (by simp [Ae]);rw [h] at c;exact c
theorem rY [aC prog] [dD prog] (body base:bF) (hl:body.length<=1073741824) (hb:base.length<=1073741824):Ok prog 87 [.str body,.str base] (.iJ [.sl .own 2 ((bI body base).1.map aO),.sl .own 2 ((bI body base).2.1.map lJ),.bool (bI body base).2.2]):=by
 have cS:=Zw body 59 (by omega);have hle:=OP 59 body;have hst:=Ko base (dF 59 body);have hn:=iV 59 body;have hcn:body.count 59<=body.length:=pB;have OI:(dF 59 body).length<=1073741825:=by omega
 have jK:∀acc r,nQ base (dF 59 body)=some (acc,r)->∀ls ok,fZ (Lib.join r [59])=(ls,ok)->bI body base=if ok=true then (acc,ls,true) else ([],[],false):=by intro acc r h1 ls ok h2;unfold bI;rw [h1];simp only [h2]
 have Bh:nQ base (dF 59 body)=none->bI body base=([],[],false):=by intro h1;unfold bI;rw [h1]
 generalize bI body base=g at *;have hjl:(Lib.join (dF 59 body) [59]).length<=1073741824:=by rw [Mh];exact hl
 generalize dF 59 body=l at *;refine bR aD func87 ntmps87 ?_;refine bH ?_;refine aL (ι:={q:Nat×List aT×Nat // (q.1<=l.length/\1<=q.2.2)/\q.2.1.length=q.1/\yL base l q.2.1 (l.drop q.1)}) (λt o i=>⟨bD t [(7,.obj 0 (i.1.1+1)),(8,.obj 1 i.1.2.2),(9,.undef),(10,.undef),(11,.undef),(12,.undef)],[⟨true,false,1,i.1.1+1,(l.drop i.1.1).map bW⟩,⟨true,false,2,i.1.2.2,i.1.2.1.map aO⟩]⟩)
  (λi=>l.length - i.1.1) ⟨(0,[],1),by simp,by simp,by simpa using hst⟩ aH ?_
 rintro ⟨⟨k,acc,v⟩,⟨hk,hv⟩,vW,sO⟩ K1 hK1;simp only at hk hv vW sO;simp only [bD,cW,cU] at hK1⊢;have hjd:=Kq 59 k l;have hdl:(l.drop k).length<=1073741825:=by simp;omega
 have cJ:=aD8 (l.drop k) [59] (by omega) (by omega);have cP:=Bl (Lib.join (l.drop k) [59]) (by omega);by_cases hlt:k < l.length
 .have hd:l.drop k=l[k]::l.drop (k+1):=mL hlt;have hpl:=hle _ (fR hlt);have c2:=yF (l[k].drop 7) base (by simp;omega);simp only [aO] at c2;rw [hd] at sO cJ cP hdl⊢;generalize hps:l.drop (k+1)=ps at *;generalize l[k]=p at *;simp only [eL] at hdl;cases hp:BL Ae p with
  |false=>
   have hs:=Nn sO hp;have c1:=Q5 (by omega) hp;have hr:=jK _ _ hs;clear hp hs sO hst hK1;have hdp:(0:Int) < (ps.length:Int)+1:=by omega
   generalize Lib.join (p::ps) [59]=J2 at *;generalize fZ J2=q at *;obtain ⟨ls,ok⟩:=q;have hr:=hr ls ok rfl;subst hr;simp only at cP;cases ok
   .simp only [eS,gS];have W:=hdp;refine we ?_;exact aK results87
   .simp only [gE];have W:=hdp;refine we ?_;exact aK results87
  |true=>
   have jU:=Ro sO hp;have hnext:=Nl sO hp;have c1:=qm (by omega) hp;clear hp;have hdp:(0:Int) < (ps.length:Int)+1:=by omega
   generalize bZ (p.drop 7) base=pa at *;obtain ⟨a,ok⟩:=pa;simp only at c2 jU hnext;have htk:List.take ps.length (ps.map bW)=ps.map bW:=cX (by simp);cases ok with
   |false=>have hr:=Bh (jU rfl);subst hr;have W:=hdp;refine we ?_;exact aK results87
   |true=>have W:=hdp;refine we ?_;all_goals exact hK1 _ ⟨(k+1,acc++[a],v+1),⟨by simp only;omega,by simp only;omega⟩,by simp;omega,by simp only [hps];exact hnext rfl⟩ (aW 2 (by simp [hps,htk])) (by simp only;omega)
 .have hd:l.drop k=[]:=Ax (by omega);rw [hd] at sO cJ cP⊢;have hr:=jK _ _ (Rp sO) [] true rfl;subst hr;have hq:fZ []=([],true):=rfl;simp only [Lib.join_nil,hq,EV,gE] at cJ cP⊢;refine bH ?_;exact aK results87
theorem Rq (c:UInt8) (s:bF):dF c s=s.take (iL c s)::(if iL c s < s.length then dF c (s.drop (iL c s+1)) else []):=by
 rw [Ls];have h:=tL c s;split
 .rfl
 .rw [cX (by omega)]
theorem aD9 {p s:bF} {k:Nat} (h:BL p (s.take k)=true):BL p s=true:=by simp only [BL,eJ,fN,Bm,take_take,oT] at h⊢;obtain ⟨h1,h2⟩:=h;rw [DA (by omega)] at h2;exact ⟨by omega,h2⟩
theorem aEa {s:bF} (h:BL Ae s=true):7<=iL 59 s:=by
 simp only [BL,eJ,fN,Bm] at h;obtain ⟨h1,h2⟩:=h;have h3:s=Ae++s.drop 7:=by have:=oA 7 s;rw [show Ae.length=7 from rfl] at h2;rw [h2] at this;exact this.symm
 rw [h3,JE 59 Ae _ (by decide)];simp [Ae]
theorem Q6 {s:bF} (h:BL Ae s=true):BL Ae (s.take (iL 59 s))=true:=by have h7:=aEa h;have hle:=tL 59 s;simp only [BL,eJ,fN,Bm,take_take,oT,show Ae.length=7 from rfl] at h⊢;rw [DA h7];exact ⟨by omega,h.2⟩
end Go.Proofs.YtjmpjmilndkgfaaGreatDoor
