/- Proved here: steps towards the statement of this claim. No condition. -/
import Derived.Test.YtfbefblglejcaaaGreatDoorZQT3
set_option linter.all false
set_option maxRecDepth 4000
set_option maxHeartbeats 4000000
namespace Go.Proofs.YtfbefblglejcaaaGreatDoor
open Go.Aw Proofs.Tryz List IntKind
theorem Cb{b:bE}{t:bT}(h:t.kind=2):addToken b t=({b with opens:=qE b t.name (b.opens.length-1)}, -1):=by unfold addToken;rw[eK h]
theorem GQ{b:bE}{t:bT}(h:¬t.kind=2)(h1:¬t.kind=1)(h3:t.kind=3->t.text=[]):addToken b t=(b, -1):=by
 unfold addToken;rw[cX h,eK];rintro(h|⟨h,h'⟩)
 .exact h1 h
 .exact h' (h3 h)
theorem Ji{b:bE}{t:bT}(h:¬t.kind=2)(hf:40<=b.nodes.length\/b.opens=[]\/(nD t=true/\8<=b.opens.length)):addToken b t=(b, -1):=by unfold addToken;rw[cX h];split<;>first|rfl|(rw[eK hf])
theorem LX{b:bE}{t:bT}(h:¬t.kind=2)(hk:t.kind=1\/(t.kind=3/\t.text≠[]))(hf:¬(40<=b.nodes.length\/b.opens=[]\/(nD t=true/\8<=b.opens.length))):
  addToken b t=({nodes:=b.nodes++[uB b t],opens:=if nD t=true then b.opens++[((b.nodes.length:Nat):Int)]else b.opens},((b.nodes.length:Nat):Int)):=by
 unfold addToken;rw[cX h,cX (λhn=>hn hk),cX hf]
theorem Ph{b:bE}{m:bB}{k:Nat}{n:Int}(hg:b.opens[k+1]? =some n)(h:yR b m n=true):qE b m (k+1)=b.opens.take (k+1):=by unfold qE;rw[hg];simp[h]
theorem LY{b:bE}{m:bB}{k:Nat}{n:Int}(hg:b.opens[k+1]? =some n)(h:yR b m n=false):qE b m (k+1)=qE b m k:=by
 conv=>lhs;unfold qE
 rw[hg];simp[h]
theorem Ki[aC prog](b:bE)(t:bT)(hs:aT b<=274877906944)(hk:t.kind=2):Ok prog 201 [.agg (aU .view b),.agg (cZ .view t)] (.gT [.agg (aU .own (addToken b t).1),.int .i64 (addToken b t).2]):=by
 have c1:=kP b hs;have hn:b.nodes.length<=274877906944/\b.opens.length<=274877906944:=by simp only[aT,bQ]at hs;omega
 have Si:i64.wrap ((b.opens.length:Int)-1)=(b.opens.length:Int)-1:=by rw[wrap64]<;>omega
 rw[Cb hk];obtain⟨tk,tn,ta,tx⟩:=t;simp only at hk;subst hk;simp only[aU]at c1;refine bM aF func201 ntmps201 ?_;have W:=Si;refine we ?_;refine aO (ι:={q:Int // -1<=q/\q<(b.opens.length:Int)/\qE b tn q.toNat=qE b tn (b.opens.length-1)}) (λt o i=>⟨bC t [(7,.int .i64 i.1),(8,.undef)],o⟩) (λi=>i.1.toNat) ⟨(b.opens.length:Int)-1,by omega,by omega,by congr 1;omega⟩ aJ ?_;rintro⟨q,hq1,hq2,WA⟩ K1 hK1;simp only[bC,cW,cU]at hK1⊢;by_cases h1:(1:Int)<=q
 .obtain ⟨k,rfl⟩:∃k:Nat,q=((k+1:Nat):Int):=⟨(q-1).toNat,by omega⟩;have hlt:k+1<b.opens.length:=by omega
  have hg:=aE hlt;have G6:i64.wrap (((k+1:Nat):Int)-1)=((k:Nat):Int):=by rw[wrap64]<;>omega
  rw[show(((k+1:Nat):Int)).toNat=k+1 from by omega]at WA;generalize Ri:b.opens[k+1]=n at*;cases hh:yR b tn n
  .rw [LY hg hh]at WA;by_cases h0:0<=n
   .obtain ⟨m,rfl⟩:=mN h0;by_cases hm:m<b.nodes.length
    .rw [QM hm]at hh;have hgm:=aE hm;have hne:(b.nodes[m].name == tn)=false:=by simpa using hh
     have W:=aA hg (aA G6 (aA hgm (aA hm (aA hne (aA h1 hn)))));have V:=hlt;refine we ?_;all_goals exact hK1 _ ⟨((k:Nat):Int),by omega,by omega,by simpa using WA⟩ aJ (by first|omega|(simp only;omega)|(simp;omega))
    .have hmi:¬((m:Nat):Int)<((b.nodes.length:Nat):Int):=by omega
     have W:=aA hg (aA G6 (aA hmi (aA h1 hn)));have V:=hlt;refine we ?_;all_goals exact hK1 _ ⟨((k:Nat):Int),by omega,by omega,by simpa using WA⟩ aJ (by first|omega|(simp only;omega)|(simp;omega))
   .have W:=aA hg (aA G6 (aA h0 (aA h1 hn)));have V:=hlt;refine we ?_;all_goals exact hK1 _ ⟨((k:Nat):Int),by omega,by omega,by simpa using WA⟩ aJ (by first|omega|(simp only;omega)|(simp;omega))
  .rw [Ph hg hh]at WA;have h01:0<=n/\n<(b.nodes.length:Int):=tR λh=>by rw[jb h]at hh;cases hh
   obtain⟨m,rfl⟩:=mN h01.1;have hm:m<b.nodes.length:=by omega
   rw[QM hm]at hh;have hgm:=aE hm;have hne:(b.nodes[m].name == tn)=true:=by simpa using hh
   rw[<-WA];have W:=aA hg (aA G6 (aA hgm (aA hm (aA hne (aA h1 hn)))));have V:=hlt;refine we ?_;all_goals try(refine aQ ?_;simp[aP,results201,map_take])
   all_goals (rw[<-map_take];exact RJ _)
 .have hq4:qE b tn (b.opens.length-1)=b.opens:=by rw[<-WA,show q.toNat=0 by omega];rfl
  rw[hq4];have W:=h1;refine we ?_;all_goals try(refine aQ ?_;simp[aP,results201,map_take])
theorem uL[aC prog](b:bE)(t:bT)(hs:aT b<=274877906944)(ht:bX t<=274877906944):Ok prog 201 [.agg (aU .view b),.agg (cZ .view t)] (.gT [.agg (aU .own (addToken b t).1),.int .i64 (addToken b t).2]):=by
 by_cases hk2:t.kind=2
 .exact Ki b t hs hk2
 have c1:=kP b hs;have c2:=Vf t.name;have hn:b.nodes.length<=274877906944/\b.opens.length<=274877906944:=by simp only[aT,bQ]at hs;omega
 have Q6:t.attrs.length<=274877906944:=by simp only[bX,bQ]at ht;omega
 have other:=GQ (b:=b) hk2;have full:=Ji (b:=b) hk2;have new:=LX (b:=b) hk2;obtain⟨tk,tn,ta,tx⟩:=t;simp only at hk2 other full new c2 Q6;simp only[aU]at c1;by_cases hk:tk=1\/(tk=3/\tx≠[])
 .by_cases LU:(40:Int)<=(b.nodes.length:Int)
  .rw [full (.inl (by omega))];rcases hk with rfl|⟨rfl,hx⟩
   .refine bM aF func201 ntmps201 ?_;have W:=LU;refine we ?_;exact aD results201
   .refine bM aF func201 ntmps201 ?_;have W:=aA LU hx;repeat' first|refine wf ?_|(refine sq ?_ ?_<;>intro hc<;>try exact hc.elim)|fail
    all_goals (try exact aD results201)
  rcases AK b.opens with ho|⟨os,lo,ho⟩
  .rw [full (.inr (.inl ho))];have hl0z:b.opens.length=0:=by rw[ho];rfl
   rcases hk with rfl|⟨rfl,hx⟩
   .refine bM aF func201 ntmps201 ?_;have W:=aA LU hl0z;refine we ?_;exact aD results201
   .refine bM aF func201 ntmps201 ?_;have W:=aA LU (aA hx hl0z);repeat' first|refine wf ?_|(refine sq ?_ ?_<;>intro hc<;>try exact hc.elim)|fail
    all_goals (try exact aD results201)
  have hne:b.opens≠[]:=by rw[ho];simp
  have hlast:b.opens.getLastD 0=lo:=by rw[ho];simp
  have hlen:b.opens.length=os.length+1:=by rw[ho];simp
  have hl0z:¬b.opens.length=0:=by omega
  have hlt:os.length<b.opens.length:=by omega
  have hg:b.opens[os.length]? =some lo:=by rw[ho];simp
  have hw:i64.wrap ((b.opens.length:Int)-1)=((os.length:Nat):Int):=by rw[wrap64]<;>omega
  clear ho hlen;rcases hk with rfl|⟨rfl,hx⟩
  .have hnw:uB b ⟨1,tn,ta,tx⟩=⟨tn,[],lo,ta⟩:=by unfold uB;rw[hlast];simp
   cases hvo:EZ tn
   .rw [hvo]at c2;have hop:nD ⟨1,tn,ta,tx⟩=true:=by simp[nD,hvo]
    by_cases h8:(8:Int)<=(b.opens.length:Int)
    .rw [full (.inr (.inr ⟨hop,by omega⟩))];refine bM aF func201 ntmps201 ?_;have W:=aA LU (aA hl0z h8);refine we ?_;exact aD results201
    .rw [new (.inl rfl) (by rintro(h|h|⟨_,h⟩);omega;exact hne h;omega),eK hop,hnw];obtain⟨l0,hl0⟩:∃l,l=b.nodes++[(⟨tn,[],lo,ta⟩:jK)]:=⟨_,rfl⟩;have hap:b.nodes.map (fA .own)++[[.str tn,.str [],.int .i64 lo,.sl .own 2 (ta.map uR)]]=l0.map (fA .own):=by rw[hl0];simp
     obtain⟨o0,ho0⟩:∃l,l=b.opens++[((b.nodes.length:Nat):Int)]:=⟨_,rfl⟩;have hao:b.opens.map mG++[[.int .i64 ((b.nodes.length:Nat):Int)]]=o0.map mG:=by rw[ho0];simp
     rw[<-hl0,<-ho0];clear hl0 ho0;refine bM aF func201 ntmps201 ?_;have W:=aA LU (aA hl0z (aA h8 (aA hg (aA hw (aA hn (aA Q6 (aA hap hao)))))));have V:=hlt;refine we ?_;exact aD results201
   .rw [hvo]at c2;have hop:nD ⟨1,tn,ta,tx⟩=false:=by simp[nD,hvo]
    rw[new (.inl rfl) (by rintro(h|h|⟨h,_⟩);omega;exact hne h;(rw[hop]at h;cases h)),cX (by rw[hop];decide),hnw];obtain⟨l0,hl0⟩:∃l,l=b.nodes++[(⟨tn,[],lo,ta⟩:jK)]:=⟨_,rfl⟩;have hap:b.nodes.map (fA .own)++[[.str tn,.str [],.int .i64 lo,.sl .own 2 (ta.map uR)]]=l0.map (fA .own):=by rw[hl0];simp
    rw[<-hl0];clear hl0;refine bM aF func201 ntmps201 ?_;have W:=aA LU (aA hl0z (aA hg (aA hw (aA hn (aA Q6 hap)))));have V:=hlt;refine we ?_;exact aD results201
  .have hnw:uB b ⟨3,tn,ta,tx⟩=⟨[],tx,lo,[]⟩:=by unfold uB;rw[hlast];simp
   have hop:nD ⟨3,tn,ta,tx⟩=false:=by simp[nD]
   rw[new (.inr ⟨rfl,hx⟩) (by rintro(h|h|⟨h,_⟩);omega;exact hne h;(rw[hop]at h;cases h)),cX (by rw[hop];decide),hnw];obtain⟨l0,hl0⟩:∃l,l=b.nodes++[(⟨[],tx,lo,[]⟩:jK)]:=⟨_,rfl⟩;have hap:b.nodes.map (fA .own)++[[.str [],.str tx,.int .i64 lo,.sl .own 2 []]]=l0.map (fA .own):=by rw[hl0];simp
   rw[<-hl0];clear hl0;have hxb:(tx != [])=true:=by simpa using hx
   refine uK aF [21] func201 ntmps201 ?_;have W:=aA LU (aA hl0z (aA hxb (aA hg (aA hw (aA hn hap)))));have V:=hlt;repeat' first|refine wf ?_|(refine sq ?_ ?_<;>intro hc<;>try exact hc.elim)|fail
   .exact (hx (by assumption)).elim
   refine go_openB 6 0 3 (by rfl) (by rfl) (by rfl) ?_;have W:=aA LU (aA hl0z (aA hxb (aA hg (aA hw (aA hn hap)))));have V:=hlt;refine we ?_;exact aD results201
 .have h1:¬tk=1:=λh=>hk (.inl h)
  by_cases h3:tk=3
  .have hx:tx=[]:=tR λh=>hk (.inr ⟨h3,h⟩)
   rw[other h1 (λ_=>hx)];subst h3;subst hx;refine bM aF func201 ntmps201 ?_;refine aY ?_;exact aD results201
  .rw [other h1 (λh=>absurd h h3)]
   refine bM aF func201 ntmps201 ?_;have W:=aA hk2 (aA h1 h3);refine we ?_;exact aD results201
theorem aLo(v:Int):(0<=v/\v.tmod 2147483647=v%2147483647)\/(v<0/\∃r,v.tmod 2147483647= -r/\0<=r/\r<2147483647/\(r=0->v%2147483647=0)/\(r≠0->v%2147483647=2147483647-r)):=by
 by_cases h:0<=v
 .exact .inl ⟨h,tG h⟩
 .right;obtain⟨u,hu⟩:∃u:Nat,v= -(u:Int):=⟨v.natAbs,by omega⟩;subst hu;refine⟨by omega,((u%2147483647:Nat):Int),by rw[Int.neg_tmod];rfl,by omega,by omega,by omega,by omega⟩
theorem D8[aC prog](v:Int)(h:rgI v):Ok prog 295 [.int .i64 v,.int .i64 2147483647] (.int .i64 (v%2147483647)):=by
 have c1:=gI 2147483647 1 1000000000000;rw[show(decide ((1:Int)<=2147483647)&&decide ((2147483647:Int)<=1000000000000))=true by decide]at c1;obtain⟨h1,h2⟩:=h;rcases aLo v with⟨h0,hm⟩|⟨h0,r,hm,hr0,hr1,hz,hnz⟩
 .have hm2:(v%2147483647+2147483647).tmod 2147483647=v%2147483647:=by rw[tG (by omega)];omega
  have hb1:0<=v%2147483647:=by omega
  have hb2:v%2147483647<2147483647:=by omega
  generalize v%2147483647=m at*;refine bM aF func295 ntmps295 ?_;have W:=aA hm hm2;refine wl ?_;exact aD results295
 .have hm2:(-r+2147483647).tmod 2147483647=v%2147483647:=by
   rw[tG (by omega)];by_cases e:r=0
   .rw [hz e,e];rfl
   .rw [hnz e];omega
  generalize v%2147483647=m at*;refine bM aF func295 ntmps295 ?_;have W:=aA hm hm2;refine wl ?_;exact aD results295
theorem D9[aC prog](v:Int)(h:rgI v):Ok prog 319 [.int .i64 v,.int .i64 2147483647] (.int .i64 (v%2147483647)):=by
 have c1:=jM 2147483647 1 1000000000000;rw[show(decide ((1:Int)<=2147483647)&&decide ((2147483647:Int)<=1000000000000))=true by decide]at c1;obtain⟨h1,h2⟩:=h;rcases aLo v with⟨h0,hm⟩|⟨h0,r,hm,hr0,hr1,hz,hnz⟩
 .have hb1:0<=v%2147483647:=by omega
  have hb2:v%2147483647<2147483647:=by omega
  generalize v%2147483647=m at*;refine bM aF func319 ntmps319 ?_;have W:=hm;refine wl ?_;exact aD results319
 .by_cases e:r=0
  .have hz:=hz e;subst e;rw[hz];refine bM aF func319 ntmps319 ?_;have W:=hm;refine wl ?_;all_goals try(refine aQ ?_;simp[aP,results319])
   all_goals rfl
  .have hnz:=hnz e;rw[hnz];have aX2: -r<0:=by omega
   refine bM aF func319 ntmps319 ?_;have W:=hm;refine wl ?_;all_goals try(refine aQ ?_;simp[aP,results319])
   all_goals omega
def Ar(acc v:Int):Int:=(acc*1000003+v%2147483647+13)%2147483647
def vO(l:List Int):Int:=l.foldl Ar 11
theorem Pp:∀(l:List Int),0<=vO l/\vO l<2147483647:=by
 have:∀(l:List Int) (a:Int),0<=a/\a<2147483647->0<=l.foldl Ar a/\l.foldl Ar a<2147483647:=by
  intro l;induction l with
  |nil=>intro a h;exact h
  |cons x l ih=>intro a h;exact ih _ (by unfold Ar;omega)
 intro l;exact this l 11 (by omega)
theorem TT(l:List Int)(k:Nat)(h:k<l.length):vO (l.take (k+1))=Ar (vO (l.take k)) l[k]:=by unfold vO;rw[eI h,Fk];rfl
theorem lu[aC prog](l:List Int)(hl:l.length<=1099511627776)(hr:∀y∈l,rgI y):Ok prog 274 [.sl .view 1 (l.map mG)] (.int .i64 (vO l)):=by
 refine bM aF func274 ntmps274 ?_;refine iF ?_;refine aO (ι:={k:Nat // k<=l.length}) (λt o i=>⟨bC t [(4,.int .i64 i.1),(3,.int .i64 (vO (l.take i.1)))],o⟩)
  (λi=>l.length-i.1) ⟨0,by simp⟩ (aJ (by simp) (by simp[vO])) ?_
 rintro⟨k,hk⟩ K1 hK1;simp only[bC,cW,cU]at hK1⊢;have hk1:=oQ (k:=k);by_cases hlt:k<l.length
 .have hg:=aE hlt;have hs:=TT l k hlt;have hb:=Pp (l.take k);have c1:=D8 l[k] (hr _ (fS hlt));have hm:(vO (l.take k)*1000003+l[k]%2147483647+13).tmod 2147483647=vO (l.take (k+1)):=by rw[hs,tG (by omega)];rfl
  have hb1:0<=l[k]%2147483647:=by omega
  have hb2:l[k]%2147483647<2147483647:=by omega
  clear hs;generalize wR:vO (l.take (k+1))=a' at*;generalize vO (l.take k)=a at*;generalize l[k]%2147483647=m at*;have W:=aA hk1 (aA hg (aA hlt hm));refine wl ?_;all_goals exact hK1 _ ⟨k+1,by omega⟩ (aJ (by simp) (by simp[wR])) (by simp only;omega)
 .have htk:l.take k=l:=cY (by omega);rw[htk];have W:=hk1;refine wl ?_;exact aD results274
theorem ma[aC prog](l:List Int)(hl:l.length<=1099511627776)(hr:∀y∈l,rgI y):Ok prog 309 [.sl .view 1 (l.map mG)] (.int .i64 (vO l)):=by
 refine bM aF func309 ntmps309 ?_;refine iF ?_;refine aO (ι:={k:Nat // k<=l.length}) (λt o i=>⟨bC t [(8,.int .i64 i.1),(3,.int .i64 (vO (l.take i.1))),(5,.undef)],o⟩)
  (λi=>l.length-i.1) ⟨0,by simp⟩ (aJ (by simp) (by simp[vO])) ?_
 rintro⟨k,hk⟩ K1 hK1;simp only[bC,cW,cU]at hK1⊢;have hk1:=oQ (k:=k);by_cases hlt:k<l.length
 .have hg:=aE hlt;have hs:=TT l k hlt;have hb:=Pp (l.take k);have c1:=D9 l[k] (hr _ (fS hlt));have hm:(vO (l.take k)*1000003+l[k]%2147483647+13).tmod 2147483647=vO (l.take (k+1)):=by rw[hs,tG (by omega)];rfl
  have hb1:0<=l[k]%2147483647:=by omega
  have hb2:l[k]%2147483647<2147483647:=by omega
  clear hs;generalize wR:vO (l.take (k+1))=a' at*;generalize vO (l.take k)=a at*;generalize l[k]%2147483647=m at*;have W:=aA hk1 (aA hg (aA hlt hm));refine wl ?_;all_goals exact hK1 _ ⟨k+1,by omega⟩ (aJ (by simp) (by simp[wR])) (by simp only;omega)
 .have htk:l.take k=l:=cY (by omega);rw[htk];have W:=hk1;refine wl ?_;exact aD results309
def toInts(s:bB):List Int:=yZ (λc:UInt8=>(c.toNat:Int)) s
def mR(s:bB):List Int:=(s.length:Int)::toInts s
theorem Jm(s:bB)(k:Nat)(h:k<s.length):(dM s)[k]? =some [.int .u8 s[k].toNat]:=by simp[dM,h]
theorem Ko[aC prog](s:bB)(hl:s.length<=1099511627776):Ok prog 275 [.sl .view 1 (dM s)] (.sl .own 1 ((mR s).map mG)):=by
 have hbl:=nH s;refine bM aF func275 ntmps275 ?_;have W:=hbl;refine wl ?_;refine aO (ι:={q:Nat×Nat // q.1<=s.length/\1<=q.2}) (λt o i=>⟨bC t [(3,.obj 0 i.1.2),(4,.int .i64 i.1.1)],o.take 0++[⟨true,false,1,i.1.2,((s.length:Int)::toInts (s.take i.1.1)).map mG⟩]⟩)
  (λi=>s.length-i.1.1) ⟨(0,1),by simp,by first|(simp;done)|(simp only;omega)⟩ (aJ (by simp[toInts]) (by simp)) ?_
 rintro⟨⟨k,v⟩,hk,hv⟩ K1 hK1;simp only at hk hv;simp only[bC,cW,cU,eL,fX,eA,eM]at hK1⊢;have hk1:=oQ (k:=k);by_cases hlt:k<s.length
 .have hg:=Jm s k hlt;have hps:=zH (λc:UInt8=>(c.toNat:Int)) s k hlt;have hpl:=qZ (λc:UInt8=>(c.toNat:Int)) (s.take k);have htl:(s.take k).length=k:=by simp;omega
  have hu:s[k].toNat<256:=CI s[k];have hlb:k<(dM s).length:=by omega
  simp only[toInts]at hK1⊢;generalize yZ (λc:UInt8=>(c.toNat:Int)) (s.take k)=g at*;have W:=aA hk1 (aA hg hbl);have V:=aA hk1 (aA hlt hbl);refine wl ?_;all_goals refine hK1 _ ⟨(k+1,v+1),by simp only;omega,by simp only;omega⟩ (aV 1 (by simp[hps])) (by simp only;omega)
 .have htk:s.take k=s:=cY (by omega);rw[htk];have W:=aA hk1 hbl;refine wl ?_;all_goals try(refine aQ ?_;simp[aP,results275,mR])
theorem Kq[aC prog](s:bB)(hl:s.length<=1099511627776):Ok prog 310 [.sl .view 1 (dM s)] (.sl .own 1 ((mR s).map mG)):=by
 have hbl:=nH s;refine bM aF func310 ntmps310 ?_;have W:=hbl;refine wl ?_;refine aO (ι:={q:Nat×Nat // q.1<=s.length/\1<=q.2}) (λt o i=>⟨bC t [(3,.obj 0 i.1.2),(11,.int .i64 i.1.1),(5,.undef)],o.take 0++[⟨true,false,1,i.1.2,((s.length:Int)::toInts (s.take i.1.1)).map mG⟩]⟩)
  (λi=>s.length-i.1.1) ⟨(0,1),by simp,by first|(simp;done)|(simp only;omega)⟩ (aJ (by simp[toInts]) (by simp)) ?_
 rintro⟨⟨k,v⟩,hk,hv⟩ K1 hK1;simp only at hk hv;simp only[bC,cW,cU,eL,fX,eA,eM]at hK1⊢;have hk1:=oQ (k:=k);by_cases hlt:k<s.length
 .have hg:=Jm s k hlt;have hps:=zH (λc:UInt8=>(c.toNat:Int)) s k hlt;have hpl:=qZ (λc:UInt8=>(c.toNat:Int)) (s.take k);have htl:(s.take k).length=k:=by simp;omega
  have hu:s[k].toNat<256:=CI s[k];have hlb:k<(dM s).length:=by omega
  simp only[toInts]at hK1⊢;generalize yZ (λc:UInt8=>(c.toNat:Int)) (s.take k)=g at*;have W:=aA hk1 (aA hg hbl);have V:=aA hk1 (aA hlt hbl);refine wl ?_;all_goals refine hK1 _ ⟨(k+1,v+1),by simp only;omega,by simp only;omega⟩ (aV 1 (by simp[hps])) (by simp only;omega)
 .have htk:s.take k=s:=cY (by omega);rw[htk];have W:=aA hk1 hbl;refine wl ?_;all_goals try(refine aQ ?_;simp[aP,results310,mR])
end Go.Proofs.YtfbefblglejcaaaGreatDoor
