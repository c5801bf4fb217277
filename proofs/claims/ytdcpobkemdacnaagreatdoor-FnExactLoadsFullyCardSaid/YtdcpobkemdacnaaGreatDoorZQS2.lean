/- Proved here: steps towards the statement of this claim. No condition. -/
import Derived.Test.YtdcpobkemdacnaaGreatDoorZQU7
set_option linter.all false
set_option maxRecDepth 4000
set_option maxHeartbeats 4000000
namespace Go.Proofs.YtdcpobkemdacnaaGreatDoor
open Go.Aw Proofs.Tryz List IntKind
theorem ZT {w:bB} (h:(dG 61 w).length=2):iL 61 w < w.length/\dG 61 w=[tJ w,wK w]:=by
 rw [vF] at h⊢;by_cases hi:iL 61 w < w.length
 .rw [eI hi] at h⊢;refine ⟨hi,?_⟩;rw [vF] at h⊢;by_cases h2:iL 61 (w.drop (iL 61 w+1)) < (w.drop (iL 61 w+1)).length
  .rw [eI h2] at h;have:=qL 61 ((w.drop (iL 61 w+1)).drop (iL 61 (w.drop (iL 61 w+1))+1));have hl:=Cl.2 this;simp only [eN] at h;omega
  .rw [cX h2];have hle:=uX 61 (w.drop (iL 61 w+1));rw [cY (l:=w.drop (iL 61 w+1)) (by omega)];rfl
 .rw [cX hi] at h;simp at h
theorem ZU {w:bB} (h:iL 61 w < w.length) (hv:isValue (wK w)=true):(dG 61 w).length=2:=by
 have Dc:∀x∈wK w,x≠61:=by intro x hx;simp only [isValue,eJ] at hv;have:=fW.1 hv.1 x hx;rintro rfl;simp [wU] at this
 rw [vF,eI h];have:=Bl 61 (wK w) Dc;unfold wK at this;rw [this];rfl
theorem XI [aC prog] [bR prog] (s:bB) (hl:s.length<=1099511627776):Ok prog 113 [.str s] (.gZ [.agg (cB .own (rG s).1),.bool (rG s).2]):=by
 by_cases h60:(60:Int) < (s.length:Int)
 .have hr:rG s=(eG,false):=by unfold rG;rw [eI (by omega)]
  rw [hr];refine xL aD func113 ntmps113 ?_;have W:=h60;refine we ?_;all_goals try(first|(refine ⟨.inr rfl,.inl ?_⟩;simp [aH,results113,eG];done)|(refine ⟨.inr rfl,.inr (dA ?_)⟩;simp [AS.vV,AS.uS,AS.rv,results113,eG];done)|(refine ⟨.inr rfl,.inl ?_⟩;simp [aH,results113,eG]))
 cases hp:BU [47] s;case true=>
  have c1:=fG (s.drop 1) (by simp;omega);have hlen:=Rt hp;simp only [eN,eW,lA] at hlen;cases s with
  |nil=>simp at hlen
  |cons x s1=>
   obtain rfl:x=47:=by simpa [BU] using hp
   have h61:¬(60:Int) < (s1.length:Int)+1:=by simp only [eN] at h60;omega
   simp only [pB,AF] at c1;cases hn:dB s1
   .have hr:rG (47::s1)=(eG,false):=by unfold rG;rw [cX (by omega),eI hp];simp [hn]
    rw [hr];rw [hn] at c1;clear hp;refine xL aD func113 ntmps113 ?_;have W:=h61;refine we ?_;all_goals try(first|(refine ⟨.inr rfl,.inl ?_⟩;simp [aH,results113,eG];done)|(refine ⟨.inr rfl,.inr (dA ?_)⟩;simp [AS.vV,AS.uS,AS.rv,results113,eG];done)|(refine ⟨.inr rfl,.inl ?_⟩;simp [aH,results113,eG]))
   .have hr:rG (47::s1)=(⟨2,s1,[],[]⟩,true):=by unfold rG;rw [cX (by omega),eI hp];simp [hn]
    rw [hr];rw [hn] at c1;clear hp;refine xL aD func113 ntmps113 ?_;have W:=h61;refine we ?_;all_goals try(first|(refine ⟨.inr rfl,.inl ?_⟩;simp [aH,results113];done)|(refine ⟨.inr rfl,.inr (dA ?_)⟩;simp [AS.vV,AS.uS,AS.rv,results113];done)|(refine ⟨.inr rfl,.inl ?_⟩;simp [aH,results113]))
 case false=>
  have hr:rG s=ET (s.take (iL 32 s)) (if iL 32 s < s.length then dG 32 (s.drop (iL 32 s+1)) else []):=by unfold rG;rw [cX (by omega),cX (by rw [hp];simp)]
  have c2:Ok prog 97 [.str s,.int .u8 32] (.sl .own 1 ((dG 32 s).map dD)):=wX s 32 (by omega);have hsl:=iW 32 s;have hcn:s.count 32<=s.length:=pD;have hsm:=Bc 32 s;rw [hr];have c1:=fG (s.take (iL 32 s)) (by simp;omega);have hLc:=vF 32 s;generalize (if iL 32 s < s.length then dG 32 (s.drop (iL 32 s+1)) else [])=ws at *;generalize s.take (iL 32 s)=w0 at *;generalize dG 32 s=L at *;have hL0:L[0]? =some w0:=by rw [hLc];rfl
  have hLd:L.drop 1=ws:=by rw [hLc];rfl
  have hLl:L.length=ws.length+1:=by rw [hLc];rfl
  have Bv:=λh=>RL (w0:=w0) (ws:=ws) h
  have KN:=λl=>RN (w0:=w0) (ws:=ws) (l:=l)
  have Dc:=RJ (w0:=w0) (ws:=ws);generalize ET w0 ws=res at *;clear hr hLc;have aLq:s=[]\/∃x r,s=x::r/\¬((x.toNat:Int)=47):=by
   cases s with
   |nil=>exact .inl rfl
   |cons x r=>refine .inr ⟨x,r,rfl,λh=> ?_⟩;have:x=47:=BE.1 (by simp;omega);subst this;simp [BU] at hp
  clear hp;rcases aLq with rfl|⟨x,r,rfl,hx⟩
  .refine xL aD func113 ntmps113 ?_;have W:=aA h60 hL0;refine we ?_;refine aP (ι:={q:Nat×Nat×List oL // (q.1<=L.length/\1<=q.2.1)/\q.2.2.length+1=q.1/\iF ws []=iF (L.drop q.1) q.2.2}) (λt o i=>⟨bE t [(6,.int .i64 i.1.1),(35,.undef)],[⟨true,true,4,0,[[.int .i64 0,.str [],.sl .own 2 [],.str []]]⟩,⟨true,false,1,1,L.map dD⟩,⟨true,true,4,0,[[.int .i64 1,.str w0,.obj 3 i.1.2.1,.str []]]⟩,⟨true,false,2,i.1.2.1,i.1.2.2.map uL⟩]⟩)
    (λi=>L.length - i.1.1) ⟨(1,1,[]),by simp only;omega,by simp,by rw [hLd]⟩ (vD 2 0 2 (ob:=⟨true,true,4,0,[[.int .i64 1,.str w0,.sl .own 2 [],.str []]]⟩) (by rfl) (by rfl) (by rfl) (by simp) (by rfl) (by rfl) (by simp) (by simp [xM,rt,jV])) ?_
   rintro ⟨⟨k,v,acc⟩,⟨hk,hv⟩,wZ,qO⟩ K1 hK1;simp only at hk hv wZ qO;simp only [bE,cW,cU] at hK1⊢;have hk1:=oW (k:=k);by_cases hlt:k < L.length
   .have hg:=aE hlt;have Q8:=dO gM L k hlt;rw [mL hlt] at qO;simp only [gM] at Q8;have cS:Ok prog 97 [.str L[k],.int .u8 61] (.sl .own 1 ((dG 61 L[k]).map dD)):=wX L[k] 61 (by omega);have cN:=fG (tJ L[k]) (by simp [tJ];omega);have cV:=xX (wK L[k]) (by simp [wK];omega);have cF:=kX acc (tJ L[k]) (by omega);have jZ:(decide (iL 61 L[k] < L[k].length)&&dB (tJ L[k])&&isValue (wK L[k])&& !(aW acc (tJ L[k])).2)=false->res=(eG,false):=λh=>Bv (by rw [qO];simp only [iF];rw [h];rfl)
    have hnext:(decide (iL 61 L[k] < L[k].length)&&dB (tJ L[k])&&isValue (wK L[k])&& !(aW acc (tJ L[k])).2)=true->iF ws []=iF (L.drop (k+1)) (acc++[⟨tJ L[k],wK L[k]⟩]):=λh=>by rw [qO];simp only [iF];rw [eI h]
    have qz:=ZT (w:=L[k]);have hback:=ZU (w:=L[k]);have ML:=iW 61 L[k];have hsc:L[k].count 61<=L[k].length:=pD;clear qO Bv KN Dc;by_cases h2:(dG 61 L[k]).length=2
    .obtain ⟨hi,hsg⟩:=qz h2;rw [hsg] at cS;simp only [mA,Dg,dD] at cS;rw [rL hi] at jZ hnext;clear qz hback h2 hsg ML hsc hi;generalize dB (tJ L[k])=b2 at *;generalize isValue (wK L[k])=b3 at *;generalize aW acc (tJ L[k])=fa at *;obtain ⟨fv,b4⟩:=fa;generalize tJ L[k]=ky at *;generalize wK L[k]=vl at *;simp only at cF jZ hnext;cases b2
     .rw [jZ (by simp)];clear jZ hnext hK1;have W:=aA hk1 (aA hg hlt);refine we ?_;all_goals try(first|(refine ⟨.inr rfl,.inl ?_⟩;simp [aH,results113,eG];done)|(refine ⟨.inr rfl,.inr (dA ?_)⟩;simp [AS.vV,AS.uS,AS.rv,results113,eG];done)|(refine ⟨.inr rfl,.inl ?_⟩;simp [aH,results113,eG]))
     cases b3
     .rw [jZ (by simp)];clear jZ hnext hK1;have W:=aA hk1 (aA hg hlt);refine we ?_;all_goals try(first|(refine ⟨.inr rfl,.inl ?_⟩;simp [aH,results113,eG];done)|(refine ⟨.inr rfl,.inr (dA ?_)⟩;simp [AS.vV,AS.uS,AS.rv,results113,eG];done)|(refine ⟨.inr rfl,.inl ?_⟩;simp [aH,results113,eG]))
     cases b4
     .have hn2:=hnext (by simp);clear jZ hnext;have W:=aA hk1 (aA hg hlt);refine we ?_;all_goals refine hK1 _ ⟨(k+1,v+1,acc++[⟨ky,vl⟩]),⟨by simp only;omega,by simp only;omega⟩,by simp;omega,hn2⟩ (aX 4) (by simp only;omega)
     .rw [jZ (by simp)];clear jZ hnext hK1;have W:=aA hk1 (aA hg hlt);refine we ?_;all_goals try(first|(refine ⟨.inr rfl,.inl ?_⟩;simp [aH,results113,eG];done)|(refine ⟨.inr rfl,.inr (dA ?_)⟩;simp [AS.vV,AS.uS,AS.rv,results113,eG];done)|(refine ⟨.inr rfl,.inl ?_⟩;simp [aH,results113,eG]))
    .have jU:res=(eG,false):=jZ (by
      cases hi:decide (iL 61 L[k] < L[k].length)
      .simp
      .cases X8:isValue (wK L[k])
       .simp
       .exact absurd (hback (of_decide_eq_true hi) X8) h2)
     rw [jU];have h2':¬(((dG 61 L[k]).length:Int)=2):=by omega
     clear jZ hnext hK1 qz hback jU h2;generalize dG 61 L[k]=sg at *;have W:=aA hk1 (aA hg (aA hlt h2'));refine we ?_;all_goals try(first|(refine ⟨.inr rfl,.inl ?_⟩;simp [aH,results113,eG];done)|(refine ⟨.inr rfl,.inr (dA ?_)⟩;simp [AS.vV,AS.uS,AS.rv,results113,eG];done)|(refine ⟨.inr rfl,.inl ?_⟩;simp [aH,results113,eG]))
   .have Fh:L.drop k=[]:=AK (by omega);rw [Fh] at qO;have hal:=Ex ws [] acc (by rw [qO];rfl);have hs2:=λh1 h2=>KN acc h1 h2 (by rw [qO];rfl)
    clear hK1 qO KN Bv;cases hn:dB w0
    .rw [Dc (by rw [hn];simp)];rw [hn] at c1;have W:=hk1;refine we ?_;all_goals try(first|(refine ⟨.inr rfl,.inl ?_⟩;simp [aH,results113,eG];done)|(refine ⟨.inr rfl,.inr (dA ?_)⟩;simp [AS.vV,AS.uS,AS.rv,results113,eG];done)|(refine ⟨.inr rfl,.inl ?_⟩;simp [aH,results113,eG]))
    .rw [hn] at c1;by_cases h4:(4:Int) < (acc.length:Int)
     .exfalso;simp only [eW,count_nil] at hal hsl;omega
     .rw [hs2 hn (by simp only [eW] at hal;omega)];have W:=aA hk1 h4;refine we ?_;all_goals try(first|(refine ⟨.inr rfl,.inl ?_⟩;simp [aH,results113];done)|(refine ⟨.inr rfl,.inr (dA ?_)⟩;simp [AS.vV,AS.uS,AS.rv,results113];done)|(refine ⟨.inr rfl,.inl ?_⟩;simp [aH,results113]))
  .have h61:¬(60:Int) < (r.length:Int)+1:=by simp only [eN] at h60;omega
   refine xL aD func113 ntmps113 ?_;have W:=aA h61 (aA hx hL0);refine we ?_;refine aP (ι:={q:Nat×Nat×List oL // (q.1<=L.length/\1<=q.2.1)/\q.2.2.length+1=q.1/\iF ws []=iF (L.drop q.1) q.2.2}) (λt o i=>⟨bE t [(6,.int .i64 i.1.1),(35,.undef)],[⟨true,true,4,0,[[.int .i64 0,.str [],.sl .own 2 [],.str []]]⟩,⟨true,false,1,1,L.map dD⟩,⟨true,true,4,0,[[.int .i64 1,.str w0,.obj 3 i.1.2.1,.str []]]⟩,⟨true,false,2,i.1.2.1,i.1.2.2.map uL⟩]⟩)
    (λi=>L.length - i.1.1) ⟨(1,1,[]),by simp only;omega,by simp,by rw [hLd]⟩ (vD 2 0 2 (ob:=⟨true,true,4,0,[[.int .i64 1,.str w0,.sl .own 2 [],.str []]]⟩) (by rfl) (by rfl) (by rfl) (by simp) (by rfl) (by rfl) (by simp) (by simp [xM,rt,jV])) ?_
   rintro ⟨⟨k,v,acc⟩,⟨hk,hv⟩,wZ,qO⟩ K1 hK1;simp only at hk hv wZ qO;simp only [bE,cW,cU] at hK1⊢;have hk1:=oW (k:=k);by_cases hlt:k < L.length
   .have hg:=aE hlt;have Q8:=dO gM L k hlt;rw [mL hlt] at qO;simp only [gM] at Q8;have cS:Ok prog 97 [.str L[k],.int .u8 61] (.sl .own 1 ((dG 61 L[k]).map dD)):=wX L[k] 61 (by omega);have cN:=fG (tJ L[k]) (by simp [tJ];omega);have cV:=xX (wK L[k]) (by simp [wK];omega);have cF:=kX acc (tJ L[k]) (by omega);have jZ:(decide (iL 61 L[k] < L[k].length)&&dB (tJ L[k])&&isValue (wK L[k])&& !(aW acc (tJ L[k])).2)=false->res=(eG,false):=λh=>Bv (by rw [qO];simp only [iF];rw [h];rfl)
    have hnext:(decide (iL 61 L[k] < L[k].length)&&dB (tJ L[k])&&isValue (wK L[k])&& !(aW acc (tJ L[k])).2)=true->iF ws []=iF (L.drop (k+1)) (acc++[⟨tJ L[k],wK L[k]⟩]):=λh=>by rw [qO];simp only [iF];rw [eI h]
    have qz:=ZT (w:=L[k]);have hback:=ZU (w:=L[k]);have ML:=iW 61 L[k];have hsc:L[k].count 61<=L[k].length:=pD;clear qO Bv KN Dc;by_cases h2:(dG 61 L[k]).length=2
    .obtain ⟨hi,hsg⟩:=qz h2;rw [hsg] at cS;simp only [mA,Dg,dD] at cS;rw [rL hi] at jZ hnext;clear qz hback h2 hsg ML hsc hi;generalize dB (tJ L[k])=b2 at *;generalize isValue (wK L[k])=b3 at *;generalize aW acc (tJ L[k])=fa at *;obtain ⟨fv,b4⟩:=fa;generalize tJ L[k]=ky at *;generalize wK L[k]=vl at *;simp only at cF jZ hnext;cases b2
     .rw [jZ (by simp)];clear jZ hnext hK1;have W:=aA hk1 (aA hg hlt);refine we ?_;all_goals try(first|(refine ⟨.inr rfl,.inl ?_⟩;simp [aH,results113,eG];done)|(refine ⟨.inr rfl,.inr (dA ?_)⟩;simp [AS.vV,AS.uS,AS.rv,results113,eG];done)|(refine ⟨.inr rfl,.inl ?_⟩;simp [aH,results113,eG]))
     cases b3
     .rw [jZ (by simp)];clear jZ hnext hK1;have W:=aA hk1 (aA hg hlt);refine we ?_;all_goals try(first|(refine ⟨.inr rfl,.inl ?_⟩;simp [aH,results113,eG];done)|(refine ⟨.inr rfl,.inr (dA ?_)⟩;simp [AS.vV,AS.uS,AS.rv,results113,eG];done)|(refine ⟨.inr rfl,.inl ?_⟩;simp [aH,results113,eG]))
     cases b4
     .have hn2:=hnext (by simp);clear jZ hnext;have W:=aA hk1 (aA hg hlt);refine we ?_;all_goals refine hK1 _ ⟨(k+1,v+1,acc++[⟨ky,vl⟩]),⟨by simp only;omega,by simp only;omega⟩,by simp;omega,hn2⟩ (aX 4) (by simp only;omega)
     .rw [jZ (by simp)];clear jZ hnext hK1;have W:=aA hk1 (aA hg hlt);refine we ?_;all_goals try(first|(refine ⟨.inr rfl,.inl ?_⟩;simp [aH,results113,eG];done)|(refine ⟨.inr rfl,.inr (dA ?_)⟩;simp [AS.vV,AS.uS,AS.rv,results113,eG];done)|(refine ⟨.inr rfl,.inl ?_⟩;simp [aH,results113,eG]))
    .have jU:res=(eG,false):=jZ (by
      cases hi:decide (iL 61 L[k] < L[k].length)
      .simp
      .cases X8:isValue (wK L[k])
       .simp
       .exact absurd (hback (of_decide_eq_true hi) X8) h2)
     rw [jU];have h2':¬(((dG 61 L[k]).length:Int)=2):=by omega
     clear jZ hnext hK1 qz hback jU h2;generalize dG 61 L[k]=sg at *;have W:=aA hk1 (aA hg (aA hlt h2'));refine we ?_;all_goals try(first|(refine ⟨.inr rfl,.inl ?_⟩;simp [aH,results113,eG];done)|(refine ⟨.inr rfl,.inr (dA ?_)⟩;simp [AS.vV,AS.uS,AS.rv,results113,eG];done)|(refine ⟨.inr rfl,.inl ?_⟩;simp [aH,results113,eG]))
   .have Fh:L.drop k=[]:=AK (by omega);rw [Fh] at qO;have hal:=Ex ws [] acc (by rw [qO];rfl);have hs2:=λh1 h2=>KN acc h1 h2 (by rw [qO];rfl)
    clear hK1 qO KN Bv;cases hn:dB w0
    .rw [Dc (by rw [hn];simp)];rw [hn] at c1;have W:=hk1;refine we ?_;all_goals try(first|(refine ⟨.inr rfl,.inl ?_⟩;simp [aH,results113,eG];done)|(refine ⟨.inr rfl,.inr (dA ?_)⟩;simp [AS.vV,AS.uS,AS.rv,results113,eG];done)|(refine ⟨.inr rfl,.inl ?_⟩;simp [aH,results113,eG]))
    .rw [hn] at c1;by_cases h4:(4:Int) < (acc.length:Int)
     .rw [Dc (by simp only [eW] at hal;omega)];have W:=aA hk1 h4;refine we ?_;all_goals try(first|(refine ⟨.inr rfl,.inl ?_⟩;simp [aH,results113,eG];done)|(refine ⟨.inr rfl,.inr (dA ?_)⟩;simp [AS.vV,AS.uS,AS.rv,results113,eG];done)|(refine ⟨.inr rfl,.inl ?_⟩;simp [aH,results113,eG]))
     .rw [hs2 hn (by simp only [eW] at hal;omega)];have W:=aA hk1 h4;refine we ?_;all_goals try(first|(refine ⟨.inr rfl,.inl ?_⟩;simp [aH,results113];done)|(refine ⟨.inr rfl,.inr (dA ?_)⟩;simp [AS.vV,AS.uS,AS.rv,results113];done)|(refine ⟨.inr rfl,.inl ?_⟩;simp [aH,results113]))
theorem Iq [aC prog] [bR prog] (s:bB) (c:UInt8):Ok prog 149 [.str s,.int .u8 c.toNat] (.int .i64 (YO c s)):=by have h1:=Au s c;refine bO aD func149 ntmps149 ?_;refine aZ ?_;exact aF results149
def Cz (t:bV×Bool):List bV:=if t.2=true then [t.1] else []
def jB (x:bB):Option (List bV×bB):=
 if 0 < iL 60 x/\iL 60 x < x.length then some ([⟨3,[],[],x.take (iL 60 x)⟩],x.drop (iL 60 x))
 else if iL 60 x≠0\/iL 62 x=x.length then none
 else some (Cz (rG ((x.take (iL 62 x)).drop 1)),x.drop (iL 62 x+1))
theorem FZ {x:bB} {ts:List bV} {y:bB} (h:jB x=some (ts,y)):y.length < x.length/\ts.length<=1/\bH bX ts+y.length<=x.length:=by
 unfold jB at h;split at h
 .rename_i hc;simp only [eC,oE] at h;obtain ⟨rfl,rfl⟩:=h;simp [bH,bX,bT];omega
 .split at h
  .cases h
  .rename_i hc;have h62:=uX 62 x;simp only [eC,oE] at h;obtain ⟨rfl,rfl⟩:=h;have hz:=aDq ((x.take (iL 62 x)).drop 1);simp only [zE,oR] at hz;generalize rG ((x.take (iL 62 x)).drop 1)=tg at *;unfold Cz;split<;>simp [bH]<;>omega
def Ga:Nat->bB->List bV×bB
 |0,x=>([],x)
 |n+1,x=>match jB x with
  |none=>([],x)
  |some (ts,y)=>(ts++(Ga n y).1,(Ga n y).2)
def feed (x:bB):List bV×bB:=Ga x.length x
theorem Ez:∀(n:Nat) (x:bB),x.length<=n->Ga n x=Ga x.length x
 |0,x,h=>by rw [show x.length=0 by omega]
 |n+1,x,h=>by
  cases hs:jB x with
  |none=>
   cases hx:x.length with
   |zero=>simp [Ga,hs]
   |succ m=>simp [Ga,hs]
  |some q=>
   obtain ⟨ts,y⟩:=q;have hlt:=(FZ hs).1;cases hx:x.length with
   |zero=>omega
   |succ m=>simp only [Ga,hs];rw [Ez n y (by omega),Ez m y (by omega)]
theorem Dz {x:bB} {ts:List bV} {y:bB} (h:jB x=some (ts,y)):feed x=(ts++(feed y).1,(feed y).2):=by
 have hlt:=(FZ h).1;unfold feed;cases hx:x.length with
 |zero=>omega
 |succ m=>simp only [Ga,h];rw [Ez m y (by omega)]
theorem DC {x:bB} (h:jB x=none):feed x=([],x):=by
 unfold feed;cases hx:x.length with
 |zero=>simp [Ga]
 |succ m=>simp [Ga,h]
theorem CB:∀(n:Nat) (x:bB),x.length<=n->(feed x).1.length+(feed x).2.length<=x.length/\bH bX (feed x).1+(feed x).2.length<=x.length
 |n,x,h=>by
  cases hs:jB x with
  |none=>rw [DC hs];simp [bH]
  |some q=>
   obtain ⟨ts,y⟩:=q;obtain ⟨h1,h2,h3⟩:=FZ hs;rw [Dz hs];cases n with
   |zero=>omega
   |succ n=>
    obtain ⟨i1,i2⟩:=CB n y (by omega);have hj:∀a b:List bV,bH bX (a++b)=bH bX a+bH bX b:=by
     intro a b;induction a with
     |nil=>simp [bH]
     |cons x xs ih=>simp only [eA,bH,ih];omega
    simp only [eR,hj];omega
theorem zn {x:bB} (h0:iL 60 x=0) (h1:iL 62 x < x.length):1<=iL 62 x:=by
 cases x with
 |nil=>simp at h1
 |cons c r=>
  rw [Bj] at h0⊢;by_cases hc:c=60
  .subst hc;rw [cX (by decide)];omega
  .rw [cX hc] at h0;omega
theorem EW [aC prog] [bR prog] (t:mY) (s:bB) (hl:t.rest.length+s.length<=274877906944):Ok prog 61 [.agg (dR t),.str s] (.gZ [.sl .own 4 ((feed (t.rest++s)).1.map (cB .own)),.agg [.str (feed (t.rest++s)).2]]):=by
 obtain ⟨rest⟩:=t;simp only at hl⊢;have hx0:(rest++s).length<=274877906944:=by simp;omega
 have hj:rest.length+s.length<=9223372036854775807:=by omega
 generalize hx:rest++s=x0 at *;generalize hF:feed x0=F at *;refine bO aD func61 ntmps61 ?_;have W:=aA hj hx;refine we ?_;refine aP (ι:={q:bB×List bV×Nat // (q.2.1.length+q.1.length<=x0.length/\1<=q.2.2)/\F=(q.2.1++(feed q.1).1,(feed q.1).2)}) (λt o i=>⟨bE t [(6,.obj 2 i.1.2.2),(7,.str i.1.1)],[⟨true,true,1,0,[[.str rest]]⟩,⟨true,true,1,0,[[.str []]]⟩,⟨true,false,4,i.1.2.2,i.1.2.1.map (cB .own)⟩]⟩)
  (λi=>i.1.1.length) ⟨(x0,[],1),by simp,by simp [hF]⟩ aO ?_
 rintro ⟨⟨x,acc,v⟩,⟨hal,hv⟩,qO⟩ K1 hK1;simp only at hal hv qO;simp only [bE,cW,cU] at hK1⊢;have cK:Ok prog 112 [.str x,.int .u8 60] (.int .i64 (iL 60 x:Nat)):=Jr x 60 (by omega);have cE:Ok prog 112 [.str x,.int .u8 62] (.int .i64 (iL 62 x:Nat)):=Jr x 62 (by omega);have hkl:=uX 60 x;have hel:=uX 62 x;have h1e:=zn (x:=x);have cT:=XI ((x.take (iL 62 x)).drop 1) (by simp;omega);simp only [cB,drop_one] at cT;have hst:jB x=_:=rfl;unfold jB at hst;by_cases hA:0 < iL 60 x/\iL 60 x < x.length
 .have DT:jB x=some ([⟨3,[],[],x.take (iL 60 x)⟩],x.drop (iL 60 x)):=by unfold jB;rw [eI hA]
  rw [Dz DT] at qO;have hA1:(0:Int) < ((iL 60 x:Nat):Int):=by omega
  have hA2:((iL 60 x:Nat):Int) < (x.length:Int):=by omega
  clear hst DT cT cE h1e hel;generalize iL 60 x=k at *;have hb1:(acc.length+1) * 64<=140737488355328:=by omega
  have W:=aA hA1 (aA hA2 hb1);refine we ?_;all_goals refine hK1 _ ⟨(x.drop k,acc++[⟨3,[],[],x.take k⟩],v+1),⟨by simp;omega,by simp only;omega⟩,by rw [qO];simp⟩ (aX 3) (by simp;omega)
 .by_cases hB:iL 60 x≠0\/iL 62 x=x.length
  .have DT:jB x=none:=by unfold jB;rw [cX hA,eI hB]
   rw [DC DT] at qO;subst qO;clear hst DT cT h1e hK1;by_cases hk0:iL 60 x=0
   .have hee:iL 62 x=x.length:=by rcases hB with h|h;exact absurd hk0 h;exact h
    rw [hk0] at cK;rw [hee] at cE;clear hA hB;refine aZ ?_;exact aF results61
   .have hkk:iL 60 x=x.length:=by omega
    have hx1:¬x=[]:=by rintro rfl;simp at hkk;exact hk0 hkk
    have hx2:0 < x.length:=Cl.2 hx1;rw [hkk] at cK;clear hA hB hk0;have W:=aA hx1 hx2;refine we ?_;exact aF results61
  .have DT:jB x=some (Cz (rG ((x.take (iL 62 x)).drop 1)),x.drop (iL 62 x+1)):=by unfold jB;rw [cX hA,cX hB]
   rw [Dz DT] at qO;have hk0:iL 60 x=0:=by omega
   have hE1:=h1e hk0 (by omega);have PV:iL 62 x < x.length:=by omega
   rw [hk0] at cK;clear hst DT h1e hA hB hk0 hkl;generalize iL 62 x=e at *;rw [drop_one] at qO;generalize rG (x.take e).tail=tg at *;obtain ⟨tk,ok⟩:=tg;simp only at cT;have hE3:¬((e:Int)=(x.length:Int)):=by omega
   have hE4:(1:Int)<=(e:Int):=by omega
   have hE5:(e:Int)<=(x.length:Int):=by omega
   have hw:i64.wrap ((e:Int)+1)=((e+1:Nat):Int):=by rw [wrap64]<;>omega
   have hE6:e+1<=x.length:=by omega
   have hb1:(acc.length+1) * 64<=140737488355328:=by omega
   cases ok
   .simp only [Cz,eS,hH,eM] at qO;have W:=aA hE3 (aA hE4 (aA hE5 (aA hw (aA hE6 hE1))));refine we ?_;all_goals refine hK1 _ ⟨(x.drop (e+1),acc,v),⟨by simp;omega,hv⟩,qO⟩ (aX 3) (by simp;omega)
   .simp only [Cz,gO] at qO;have W:=aA hE3 (aA hE4 (aA hE5 (aA hw (aA hE6 (aA hE1 hb1)))));refine we ?_;all_goals refine hK1 _ ⟨(x.drop (e+1),acc++[tk],v+1),⟨by simp;omega,by simp only;omega⟩,by rw [qO];simp⟩ (aX 3) (by simp;omega)
theorem EX [aC prog] [bR prog] (t:mY) (s:bB) (hl:t.rest.length+s.length<=274877906944):Ok prog 83 [.agg (dR t),.str s] (.gZ [.sl .own 4 ((feed (t.rest++s)).1.map (cB .own)),.agg [.str (feed (t.rest++s)).2]]):=by
 obtain ⟨rest⟩:=t;simp only at hl⊢;have hx0:(rest++s).length<=274877906944:=by simp;omega
 have hj:rest.length+s.length<=9223372036854775807:=by omega
 generalize hx:rest++s=x0 at *;generalize hF:feed x0=F at *;refine bO aD func83 ntmps83 ?_;have W:=aA hj hx;refine we ?_;refine aP (ι:={q:bB×List bV×Nat // (q.2.1.length+q.1.length<=x0.length/\1<=q.2.2)/\F=(q.2.1++(feed q.1).1,(feed q.1).2)}) (λt o i=>⟨bE t [(7,.obj 2 i.1.2.2),(6,.str i.1.1)],[⟨true,true,1,0,[[.str rest]]⟩,⟨true,true,1,0,[[.str []]]⟩,⟨true,false,4,i.1.2.2,i.1.2.1.map (cB .own)⟩]⟩)
  (λi=>i.1.1.length) ⟨(x0,[],1),by simp,by simp [hF]⟩ aO ?_
 rintro ⟨⟨x,acc,v⟩,⟨hal,hv⟩,qO⟩ K1 hK1;simp only at hal hv qO;simp only [bE,cW,cU] at hK1⊢;cases hxc:x with
 |nil=>
  have DT:jB []=none:=by simp [jB,yh]
  rw [hxc,DC DT] at qO;subst qO;clear hK1;refine aZ ?_;exact aF results83
 |cons c r=>
  have hx1:¬x=[]:=by rw [hxc];simp
  have hx2:x[0]? =some c:=by rw [hxc];rfl
  rw [<-hxc];have cK:Ok prog 149 [.str x,.int .u8 60] (.int .i64 (YO 60 x)):=Iq x 60;have cE:Ok prog 149 [.str x,.int .u8 62] (.int .i64 (YO 62 x)):=Iq x 62;unfold YO at cK cE;have hkl:=uX 60 x;have hel:=uX 62 x;have h1e:=zn (x:=x);have cT:=XE ((x.take (iL 62 x)).drop 1) (by simp;omega);simp only [cB,drop_one] at cT;by_cases ZV:c=60
  .have hk0:iL 60 x=0:=by rw [hxc,Bj,eI ZV]
   have hc1:(c.toNat:Int)=60:=by rw [ZV];rfl
   have hA:¬(0 < iL 60 x/\iL 60 x < x.length):=by omega
   by_cases hB:iL 62 x=x.length
   .have DT:jB x=none:=by unfold jB;rw [cX hA,eI (.inr hB)]
    rw [DC DT] at qO;subst qO;rw [cX (by omega)] at cE;clear DT cT h1e hK1 hA hB hxc ZV cK hk0;have W:=aA hx1 (aA hx2 hc1);repeat' first|refine wf ?_|(refine sq ?_ ?_<;>intro hc<;>try exact hc.elim)|fail
    all_goals try(refine aV ?_;simp [aH,results83])
   .have DT:jB x=some (Cz (rG ((x.take (iL 62 x)).drop 1)),x.drop (iL 62 x+1)):=by unfold jB;rw [cX hA,cX (by rintro (h|h);exact h hk0;exact hB h)]
    rw [Dz DT] at qO;have hE1:=h1e hk0 (by omega);have PV:iL 62 x < x.length:=by omega
    rw [eI PV] at cE;clear DT h1e hA hB hkl hxc ZV cK hk0;generalize iL 62 x=e at *;rw [drop_one] at qO;generalize rG (x.take e).tail=tg at *;obtain ⟨tk,ok⟩:=tg;simp only at cT;have hE4:(1:Int)<=(e:Int):=by omega
    have hE5:(e:Int)<=(x.length:Int):=by omega
    have hw:i64.wrap ((e:Int)+1)=((e+1:Nat):Int):=by rw [wrap64]<;>omega
    have hE6:e+1<=x.length:=by omega
    have hb1:(acc.length+1) * 64<=140737488355328:=by omega
    cases ok
    .simp only [Cz,eS,hH,eM] at qO;have W:=aA hx1 (aA hx2 (aA hc1 (aA hE4 (aA hE5 (aA hw (aA hE6 hE1))))));repeat' first|refine wf ?_|(refine sq ?_ ?_<;>intro hc<;>try exact hc.elim)|fail
     all_goals first|(exact absurd hc hx1)|refine hK1 _ ⟨(x.drop (e+1),acc,v),⟨by simp;omega,hv⟩,qO⟩ (aX 3) (by simp;omega)
    .simp only [Cz,gO] at qO;have W:=aA hx1 (aA hx2 (aA hc1 (aA hE4 (aA hE5 (aA hw (aA hE6 (aA hE1 hb1)))))));repeat' first|refine wf ?_|(refine sq ?_ ?_<;>intro hc<;>try exact hc.elim)|fail
     all_goals first|(exact absurd hc hx1)|refine hK1 _ ⟨(x.drop (e+1),acc++[tk],v+1),⟨by simp;omega,by simp only;omega⟩,by rw [qO];simp⟩ (aX 3) (by simp;omega)
  .have hk0:0 < iL 60 x:=by rw [hxc,Bj,cX ZV];omega
   have hc1:¬(c.toNat:Int)=60:=λh=>ZV (BE.1 (by simp;omega))
   by_cases hB:iL 60 x < x.length
   .have DT:jB x=some ([⟨3,[],[],x.take (iL 60 x)⟩],x.drop (iL 60 x)):=by unfold jB;rw [eI ⟨hk0,hB⟩]
    rw [Dz DT] at qO;rw [eI hB] at cK;clear DT cT cE h1e hel hxc ZV;generalize iL 60 x=k at *;have hA1:(0:Int) < (k:Int):=by omega
    have hA2:(k:Int) < (x.length:Int):=by omega
    have hb1:(acc.length+1) * 64<=140737488355328:=by omega
    have W:=aA hx1 (aA hx2 (aA hc1 (aA hA1 (aA hA2 hb1))));repeat' first|refine wf ?_|(refine sq ?_ ?_<;>intro hc<;>try exact hc.elim)|fail
    all_goals first|(exact absurd hc hx1)|refine hK1 _ ⟨(x.drop k,acc++[⟨3,[],[],x.take k⟩],v+1),⟨by simp;omega,by simp only;omega⟩,by rw [qO];simp⟩ (aX 3) (by simp;omega)
   .have DT:jB x=none:=by unfold jB;rw [cX (by omega),eI (.inl (by omega))]
    rw [DC DT] at qO;subst qO;rw [cX hB] at cK;clear DT cT h1e hK1 hB hxc ZV cE hk0;have W:=aA hx1 (aA hx2 hc1);repeat' first|refine wf ?_|(refine sq ?_ ?_<;>intro hc<;>try exact hc.elim)|fail
    all_goals try(refine aV ?_;simp [aH,results83])
end Go.Proofs.YtdcpobkemdacnaaGreatDoor
