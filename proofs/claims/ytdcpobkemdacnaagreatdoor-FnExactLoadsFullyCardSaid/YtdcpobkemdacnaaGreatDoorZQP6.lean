/- Proved here: steps towards the statement of this claim. No condition. -/
import Derived.Test.YtdcpobkemdacnaaGreatDoorZQP2
import Derived.Test.YtdcpobkemdacnaaGreatDoorZQB4
set_option linter.all false
set_option maxRecDepth 4000
set_option maxHeartbeats 4000000
namespace Go.Proofs.YtdcpobkemdacnaaGreatDoor
open Go.Aw Proofs.Tryz List IntKind
def Ak:bB:=[105,109,112,111,114,116,32]
def oH (base:bB):List bB->Option (List aK×List bB)
 |[]=>some ([],[])
 |p::ps=>if BU Ak p=true then (if (bY (p.drop 7) base).2=true then (oH base ps).map (λq=>((bY (p.drop 7) base).1::q.1,q.2)) else none) else some ([],p::ps)
def bJ (body base:bB):List aK×List jW×Bool:=
 match oH base (dG 59 body) with
 |none=>([],[],false)
 |some (l,r)=>if (gG (Lib.join r [59])).2=true then (l,(gG (Lib.join r [59])).1,true) else ([],[],false)
def zC (base:bB) (l:List bB) (acc:List aK) (r:List bB):Prop:=oH base l=(oH base r).map λq=>(acc++q.1,q.2)
theorem Le (base:bB) (l:List bB):zC base l [] l:=by unfold zC;cases oH base l<;>simp
theorem Sl {base:bB} {l:List bB} {acc:List aK} {p:bB} {ps:List bB} (h:zC base l acc (p::ps)) (h1:BU Ak p=true) (h2:(bY (p.drop 7) base).2=false):oH base l=none:=by unfold zC at h;rw [h];simp [oH,h1,h2]
theorem Oi {base:bB} {l:List bB} {acc:List aK} {p:bB} {ps:List bB} (h:zC base l acc (p::ps)) (h1:BU Ak p=true) (h2:(bY (p.drop 7) base).2=true):zC base l (acc++[(bY (p.drop 7) base).1]) ps:=by unfold zC at h⊢;rw [h];simp only [oH,h1,h2,gO];cases oH base ps<;>simp
theorem Sm {base:bB} {l:List bB} {acc:List aK} (h:zC base l acc []):oH base l=some (acc,[]):=by unfold zC at h;rw [h];simp [oH]
theorem Oj {base:bB} {l:List bB} {acc:List aK} {p:bB} {ps:List bB} (h:zC base l acc (p::ps)) (h1:BU Ak p=false):oH base l=some (acc,p::ps):=by unfold zC at h;rw [h];simp [oH,h1]
theorem Ng (c:UInt8):∀s:bB,Lib.join (dG c s) [c]=s
 |[]=>by simp [dG,Lib.join_one]
 |x::s=>by
  have ih:=Ng c s;simp only [dG];split
  .rename_i h;subst h;cases hs:dG x s with
   |nil=>exact absurd hs (qL x s)
   |cons p r=>rw [hs] at ih;simp only [Lib.join,intercalate] at ih⊢;simp only [intersperse,pL,eM,singleton_append] at ih⊢;rw [ih]
  .split
   .rename_i h0;exact absurd h0 (qL c s)
   .rename_i p r h0;rw [h0] at ih;simp only [Lib.join,intercalate] at ih⊢;cases r with
    |nil=>simp only [intersperse,pL,flatten_nil,fY] at ih⊢;rw [ih]
    |cons q r=>simp only [intersperse,pL,eA] at ih⊢;rw [ih]
theorem aEk [aC prog] [bR prog] (l:List bB) (sep:bB) (hl:l.length<=140737488355328) (hs:(Lib.join l sep).length<=140737488355328):
  Ok prog 189 [.sl .view 1 (l.map dD),.str sep] (.str (Lib.join l sep)):=yl Tryz.lays156 Tryz.Builder_Extra_156 l sep hl hs
theorem XP (x:bB) (xs:List bB) (c:UInt8):(Lib.join xs [c]).length<=(Lib.join (x::xs) [c]).length:=by
 cases xs with
 |nil=>simp [Lib.join_nil]
 |cons y ys=>simp only [Lib.join,intercalate,intersperse,pL,eR];omega
theorem Lf (c:UInt8):∀(k:Nat) (l:List bB),(Lib.join (l.drop k) [c]).length<=(Lib.join l [c]).length
 |0,l=>by simp
 |_+1,[]=>by simp
 |k+1,x::xs=>by rw [pB];exact hM (Lf c k xs) (XP x xs c)
theorem V9 [aC prog] [bR prog] {s:bB} (hl:s.length<=1099511627776) (h:BU Ak s=false):Ok prog 203 [.str s,.str [105,109,112,111,114,116,32]] (.gZ [.str s,.bool false]):=by have c:=Es s Ak hl (by simp [Ak]);rw [h] at c;exact c
theorem uk [aC prog] [bR prog] {s:bB} (hl:s.length<=1099511627776) (h:BU Ak s=true):Ok prog 203 [.str s,.str [105,109,112,111,114,116,32]] (.gZ [.str (s.drop 7),.bool true]):=by have c:=Es s Ak hl (by simp [Ak]);rw [h] at c;exact c
theorem tO [aC prog] [bR prog] (body base:bB) (hl:body.length<=1073741824) (hb:base.length<=1073741824):Ok prog 201 [.str body,.str base] (.gZ [.sl .own 2 ((bJ body base).1.map aL),.sl .own 2 ((bJ body base).2.1.map lH),.bool (bJ body base).2.2]):=by
 have cS:=ZX body 59 (by omega);have hle:=PW 59 body;have hst:=Le base (dG 59 body);have hn:=iW 59 body;have hcn:body.count 59<=body.length:=pD;have hll:(dG 59 body).length<=1073741825:=by omega
 have jU:∀acc r,oH base (dG 59 body)=some (acc,r)->∀ls ok,gG (Lib.join r [59])=(ls,ok)->bJ body base=if ok=true then (acc,ls,true) else ([],[],false):=by intro acc r h1 ls ok h2;unfold bJ;rw [h1];simp only [h2]
 have Bv:oH base (dG 59 body)=none->bJ body base=([],[],false):=by intro h1;unfold bJ;rw [h1]
 generalize bJ body base=g at *;have hjl:(Lib.join (dG 59 body) [59]).length<=1073741824:=by rw [Ng];exact hl
 generalize dG 59 body=l at *;refine bO aD func201 ntmps201 ?_;refine aZ ?_;refine aP (ι:={q:Nat×List aK×Nat // (q.1<=l.length/\1<=q.2.2)/\q.2.1.length=q.1/\zC base l q.2.1 (l.drop q.1)}) (λt o i=>⟨bE t [(7,.obj 0 (i.1.1+1)),(8,.obj 1 i.1.2.2),(9,.undef),(10,.undef),(11,.undef),(12,.undef)],[⟨true,false,1,i.1.1+1,(l.drop i.1.1).map dD⟩,⟨true,false,2,i.1.2.2,i.1.2.1.map aL⟩]⟩)
  (λi=>l.length - i.1.1) ⟨(0,[],1),by simp,by simp,by simpa using hst⟩ aO ?_
 rintro ⟨⟨k,acc,v⟩,⟨hk,hv⟩,wZ,qO⟩ K1 hK1;simp only at hk hv wZ qO;simp only [bE,cW,cU] at hK1⊢;have hjd:=Lf 59 k l;have hdl:(l.drop k).length<=1073741825:=by simp;omega
 have cJ:=aEk (l.drop k) [59] (by omega) (by omega);have cP:=BA (Lib.join (l.drop k) [59]) (by omega);by_cases hlt:k < l.length
 .have hd:l.drop k=l[k]::l.drop (k+1):=mL hlt;have hpl:=hle _ (fN hlt);have c2:=yX (l[k].drop 7) base (by simp;omega);simp only [aL] at c2;rw [hd] at qO cJ cP hdl⊢;generalize hps:l.drop (k+1)=ps at *;generalize l[k]=p at *;simp only [eN] at hdl;cases hp:BU Ak p with
  |false=>
   have hs:=Oj qO hp;have c1:=V9 (by omega) hp;have hr:=jU _ _ hs;clear hp hs qO hst hK1;have hdp:(0:Int) < (ps.length:Int)+1:=by omega
   generalize Lib.join (p::ps) [59]=J2 at *;generalize gG J2=q at *;obtain ⟨ls,ok⟩:=q;have hr:=hr ls ok rfl;subst hr;simp only at cP;cases ok
   .simp only [eS,hH];have W:=hdp;refine we ?_;exact aF results201
   .simp only [gO];have W:=hdp;refine we ?_;exact aF results201
  |true=>
   have jZ:=Sl qO hp;have hnext:=Oi qO hp;have c1:=uk (by omega) hp;clear hp;have hdp:(0:Int) < (ps.length:Int)+1:=by omega
   generalize bY (p.drop 7) base=pa at *;obtain ⟨a,ok⟩:=pa;simp only at c2 jZ hnext;have htk:List.take ps.length (ps.map dD)=ps.map dD:=cY (by simp);cases ok with
   |false=>have hr:=Bv (jZ rfl);subst hr;have W:=hdp;refine we ?_;exact aF results201
   |true=>have W:=hdp;refine we ?_;all_goals exact hK1 _ ⟨(k+1,acc++[a],v+1),⟨by simp only;omega,by simp only;omega⟩,by simp;omega,by simp only [hps];exact hnext rfl⟩ (aX 2 (by simp [hps,htk])) (by simp only;omega)
 .have hd:l.drop k=[]:=AK (by omega);rw [hd] at qO cJ cP⊢;have hr:=jU _ _ (Sm qO) [] true rfl;subst hr;have hq:gG []=([],true):=rfl;simp only [Lib.join_nil,hq,Dg,gO] at cJ cP⊢;refine aZ ?_;exact aF results201
theorem uy (p:aG) (a:aK) (k:Nat):bT bL (vY p a k)=bT bL p.aM+1+aQ a:=by
 have h1:bH bL (p.aM.take k)+bH bL (p.aM.drop k)=bH bL p.aM:=by rw [<-jD,nF]
 have h2:(p.aM.take k).length+(p.aM.drop k).length=p.aM.length:=by rw [<-eR,nF]
 have h3:bL (BH p a)=aQ a:=by unfold BH;split<;>simp [bL]
 simp only [vY,bT,eR,eN,jD,bH,h3];omega
theorem aL0 (p:aG) (a:aK):aJ (eU p a)<=aJ p+aQ a+1:=by
 have h:=uy p a (wL p.aM a);unfold eU;split
 .split
  .omega
  .simp only [aJ,h];omega
 .simp only [aJ,h];omega
theorem aJi (v:Int):(0<=v/\v.tmod 2147483647=v % 2147483647)\/(v < 0/\∃r,v.tmod 2147483647= -r/\0<=r/\r < 2147483647/\(r=0->v % 2147483647=0)/\(r≠0->v % 2147483647=2147483647 - r)):=by
 by_cases h:0<=v
 .exact .inl ⟨h,tA h⟩
 .right;obtain ⟨u,hu⟩:∃u:Nat,v= -(u:Int):=⟨v.natAbs,by omega⟩;subst hu;refine ⟨by omega,((u % 2147483647:Nat):Int),by rw [Int.neg_tmod];rfl,by omega,by omega,by omega,by omega⟩
theorem uz [aC prog] (v:Int) (h:rgI v):Ok prog 287 [.int .i64 v,.int .i64 2147483647] (.int .i64 (v % 2147483647)):=by
 have c1:=gK 2147483647 1 1000000000000;rw [show (decide ((1:Int)<=2147483647)&&decide ((2147483647:Int)<=1000000000000))=true by decide] at c1;obtain ⟨h1,h2⟩:=h;rcases aJi v with ⟨h0,hm⟩|⟨h0,r,hm,hr0,hr1,hz,hnz⟩
 .have hm2:(v % 2147483647+2147483647).tmod 2147483647=v % 2147483647:=by rw [tA (by omega)];omega
  have hb1:0<=v % 2147483647:=by omega
  have hb2:v % 2147483647 < 2147483647:=by omega
  generalize v % 2147483647=m at *;refine bO aD func287 ntmps287 ?_;have W:=aA hm hm2;refine wl ?_;exact aF results287
 .have hm2:(-r+2147483647).tmod 2147483647=v % 2147483647:=by
   rw [tA (by omega)];by_cases e:r=0
   .rw [hz e,e];rfl
   .rw [hnz e];omega
  generalize v % 2147483647=m at *;refine bO aD func287 ntmps287 ?_;have W:=aA hm hm2;refine wl ?_;exact aF results287
theorem ve [aC prog] (v:Int) (h:rgI v):Ok prog 311 [.int .i64 v,.int .i64 2147483647] (.int .i64 (v % 2147483647)):=by
 have c1:=jN 2147483647 1 1000000000000;rw [show (decide ((1:Int)<=2147483647)&&decide ((2147483647:Int)<=1000000000000))=true by decide] at c1;obtain ⟨h1,h2⟩:=h;rcases aJi v with ⟨h0,hm⟩|⟨h0,r,hm,hr0,hr1,hz,hnz⟩
 .have hb1:0<=v % 2147483647:=by omega
  have hb2:v % 2147483647 < 2147483647:=by omega
  generalize v % 2147483647=m at *;refine bO aD func311 ntmps311 ?_;have W:=hm;refine wl ?_;exact aF results311
 .by_cases e:r=0
  .have hz:=hz e;subst e;rw [hz];refine bO aD func311 ntmps311 ?_;have W:=hm;refine wl ?_;all_goals try(refine aV ?_;simp [aH,results311])
   all_goals rfl
  .have hnz:=hnz e;rw [hnz];have aVr: -r < 0:=by omega
   refine bO aD func311 ntmps311 ?_;have W:=hm;refine wl ?_;all_goals try(refine aV ?_;simp [aH,results311])
   all_goals omega
def Ac (acc v:Int):Int:=(acc * 1000003+v % 2147483647+13) % 2147483647
def vJ (l:List Int):Int:=l.foldl Ac 11
theorem Oq:∀(l:List Int),0<=vJ l/\vJ l < 2147483647:=by
 have:∀(l:List Int) (a:Int),0<=a/\a < 2147483647->0<=l.foldl Ac a/\l.foldl Ac a < 2147483647:=by
  intro l;induction l with
  |nil=>intro a h;exact h
  |cons x l ih=>intro a h;exact ih _ (by unfold Ac;omega)
 intro l;exact this l 11 (by omega)
theorem SF (l:List Int) (k:Nat) (h:k < l.length):vJ (l.take (k+1))=Ac (vJ (l.take k)) l[k]:=by unfold vJ;rw [eK h,DS];rfl
theorem dm [aC prog] (l:List Int) (hl:l.length<=1099511627776) (hr:∀y∈l,rgI y):Ok prog 266 [.sl .view 1 (l.map lW)] (.int .i64 (vJ l)):=by
 refine bO aD func266 ntmps266 ?_;refine gY ?_;refine aP (ι:={k:Nat // k<=l.length}) (λt o i=>⟨bE t [(4,.int .i64 i.1),(3,.int .i64 (vJ (l.take i.1)))],o⟩)
  (λi=>l.length - i.1) ⟨0,by simp⟩ (aO (by simp) (by simp [vJ])) ?_
 rintro ⟨k,hk⟩ K1 hK1;simp only [bE,cW,cU] at hK1⊢;have hk1:=oW (k:=k);by_cases hlt:k < l.length
 .have hg:=aE hlt;have hs:=SF l k hlt;have hb:=Oq (l.take k);have c1:=uz l[k] (hr _ (fN hlt));have hm:(vJ (l.take k) * 1000003+l[k] % 2147483647+13).tmod 2147483647=vJ (l.take (k+1)):=by rw [hs,tA (by omega)];rfl
  have hb1:0<=l[k] % 2147483647:=by omega
  have hb2:l[k] % 2147483647 < 2147483647:=by omega
  clear hs;generalize wN:vJ (l.take (k+1))=a' at *;generalize vJ (l.take k)=a at *;generalize l[k] % 2147483647=m at *;have W:=aA hk1 (aA hg (aA hlt hm));refine wl ?_;all_goals exact hK1 _ ⟨k+1,by omega⟩ (aO (by simp) (by simp [wN])) (by simp only;omega)
 .have htk:l.take k=l:=cY (by omega);rw [htk];have W:=hk1;refine wl ?_;exact aF results266
theorem dw [aC prog] (l:List Int) (hl:l.length<=1099511627776) (hr:∀y∈l,rgI y):Ok prog 301 [.sl .view 1 (l.map lW)] (.int .i64 (vJ l)):=by
 refine bO aD func301 ntmps301 ?_;refine gY ?_;refine aP (ι:={k:Nat // k<=l.length}) (λt o i=>⟨bE t [(8,.int .i64 i.1),(3,.int .i64 (vJ (l.take i.1))),(5,.undef)],o⟩)
  (λi=>l.length - i.1) ⟨0,by simp⟩ (aO (by simp) (by simp [vJ])) ?_
 rintro ⟨k,hk⟩ K1 hK1;simp only [bE,cW,cU] at hK1⊢;have hk1:=oW (k:=k);by_cases hlt:k < l.length
 .have hg:=aE hlt;have hs:=SF l k hlt;have hb:=Oq (l.take k);have c1:=ve l[k] (hr _ (fN hlt));have hm:(vJ (l.take k) * 1000003+l[k] % 2147483647+13).tmod 2147483647=vJ (l.take (k+1)):=by rw [hs,tA (by omega)];rfl
  have hb1:0<=l[k] % 2147483647:=by omega
  have hb2:l[k] % 2147483647 < 2147483647:=by omega
  clear hs;generalize wN:vJ (l.take (k+1))=a' at *;generalize vJ (l.take k)=a at *;generalize l[k] % 2147483647=m at *;have W:=aA hk1 (aA hg (aA hlt hm));refine wl ?_;all_goals exact hK1 _ ⟨k+1,by omega⟩ (aO (by simp) (by simp [wN])) (by simp only;omega)
 .have htk:l.take k=l:=cY (by omega);rw [htk];have W:=hk1;refine wl ?_;exact aF results301
def toInts (s:bB):List Int:=yM (λc:UInt8=>(c.toNat:Int)) s
def mH (s:bB):List Int:=(s.length:Int)::toInts s
theorem IB (s:bB) (k:Nat) (h:k < s.length):(dQ s)[k]? =some [.int .u8 s[k].toNat]:=by simp [dQ,h]
theorem JE [aC prog] (s:bB) (hl:s.length<=1099511627776):Ok prog 267 [.sl .view 1 (dQ s)] (.sl .own 1 ((mH s).map lW)):=by
 have hbl:=mW s;refine bO aD func267 ntmps267 ?_;have W:=hbl;refine wl ?_;refine aP (ι:={q:Nat×Nat // q.1<=s.length/\1<=q.2}) (λt o i=>⟨bE t [(3,.obj 0 i.1.2),(4,.int .i64 i.1.1)],o.take 0++[⟨true,false,1,i.1.2,((s.length:Int)::toInts (s.take i.1.1)).map lW⟩]⟩)
  (λi=>s.length - i.1.1) ⟨(0,1),by simp,by first|(simp;done)|(simp only;omega)⟩ (aO (by simp [toInts]) (by simp)) ?_
 rintro ⟨⟨k,v⟩,hk,hv⟩ K1 hK1;simp only at hk hv;simp only [bE,cW,cU,eL,fS,eA,eM] at hK1⊢;have hk1:=oW (k:=k);by_cases hlt:k < s.length
 .have hg:=IB s k hlt;have hps:=yT (λc:UInt8=>(c.toNat:Int)) s k hlt;have hpl:=qM (λc:UInt8=>(c.toNat:Int)) (s.take k);have htl:(s.take k).length=k:=by simp;omega
  have hu:s[k].toNat < 256:=Cp s[k];have hlb:k < (dQ s).length:=by omega
  simp only [toInts] at hK1⊢;generalize yM (λc:UInt8=>(c.toNat:Int)) (s.take k)=g at *;have W:=aA hk1 (aA hg hbl);have V:=aA hk1 (aA hlt hbl);refine wl ?_;all_goals refine hK1 _ ⟨(k+1,v+1),by simp only;omega,by simp only;omega⟩ (aX 1 (by simp [hps])) (by simp only;omega)
 .have htk:s.take k=s:=cY (by omega);rw [htk];have W:=aA hk1 hbl;refine wl ?_;all_goals try(refine aV ?_;simp [aH,results267,mH])
theorem JF [aC prog] (s:bB) (hl:s.length<=1099511627776):Ok prog 302 [.sl .view 1 (dQ s)] (.sl .own 1 ((mH s).map lW)):=by
 have hbl:=mW s;refine bO aD func302 ntmps302 ?_;have W:=hbl;refine wl ?_;refine aP (ι:={q:Nat×Nat // q.1<=s.length/\1<=q.2}) (λt o i=>⟨bE t [(3,.obj 0 i.1.2),(11,.int .i64 i.1.1),(5,.undef)],o.take 0++[⟨true,false,1,i.1.2,((s.length:Int)::toInts (s.take i.1.1)).map lW⟩]⟩)
  (λi=>s.length - i.1.1) ⟨(0,1),by simp,by first|(simp;done)|(simp only;omega)⟩ (aO (by simp [toInts]) (by simp)) ?_
 rintro ⟨⟨k,v⟩,hk,hv⟩ K1 hK1;simp only at hk hv;simp only [bE,cW,cU,eL,fS,eA,eM] at hK1⊢;have hk1:=oW (k:=k);by_cases hlt:k < s.length
 .have hg:=IB s k hlt;have hps:=yT (λc:UInt8=>(c.toNat:Int)) s k hlt;have hpl:=qM (λc:UInt8=>(c.toNat:Int)) (s.take k);have htl:(s.take k).length=k:=by simp;omega
  have hu:s[k].toNat < 256:=Cp s[k];have hlb:k < (dQ s).length:=by omega
  simp only [toInts] at hK1⊢;generalize yM (λc:UInt8=>(c.toNat:Int)) (s.take k)=g at *;have W:=aA hk1 (aA hg hbl);have V:=aA hk1 (aA hlt hbl);refine wl ?_;all_goals refine hK1 _ ⟨(k+1,v+1),by simp only;omega,by simp only;omega⟩ (aX 1 (by simp [hps])) (by simp only;omega)
 .have htk:s.take k=s:=cY (by omega);rw [htk];have W:=aA hk1 hbl;refine wl ?_;all_goals try(refine aV ?_;simp [aH,results302,mH])
theorem ask_cases (p:aG) (a:aK):(eU p a=p/\∃m,p.aM[wL p.aM a]? =some m/\m.to=a)\/(eU p a={p with aM:=vY p a (wL p.aM a)}/\∀m,p.aM[wL p.aM a]? =some m->m.to≠a):=by
 unfold eU;split
 .rename_i m hm;split
  .rename_i e;exact .inl ⟨rfl,m,hm,e⟩
  .rename_i e;refine .inr ⟨rfl,λx hx=> ?_⟩;rw [hm] at hx;exact cQ hx▸e
 .rename_i hm;refine .inr ⟨rfl,λx hx=> ?_⟩;rw [hm] at hx;cases hx
end Go.Proofs.YtdcpobkemdacnaaGreatDoor
