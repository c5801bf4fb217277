/- Proved here: steps towards the statement of this claim. No condition. -/
import Derived.Test.YtjmpjmilndkgfaaGreatDoorZQRL0
set_option linter.all false
set_option maxRecDepth 4000
set_option maxHeartbeats 4000000
namespace Go.Proofs.YtjmpjmilndkgfaaGreatDoor
open Go.Aw Proofs.Tryz List IntKind
theorem aDl [aC prog] [eH prog] (b:bC) (ss:List gP) (x:jP) (hs:aP b<=274877906944) (hx:x.text.length<=268435456) (hl:ss.length<=1099511627776) (hr:∀x∈ss,x.rules.length<=1099511627776) (vM:∀n,0<=bJ ss n/\bJ ss n<=999) (hop:x.op=3):
  Ok prog 266 [.agg (aS .view b),.sl .view 1 (ss.map (eG .view)),.agg (lJ x)] (.iJ [.agg (aS .own (bX b ss x).1),.str (bX b ss x).2.1,.str (bX b ss x).2.2]):=by
 have c1:=kR b hs;have hn:b.nodes.length<=274877906944:=by simp only [aP,bV] at hs;omega
 obtain ⟨op,tx⟩:=x;simp only at hx hop;have c2:=pE tx (by omega);have c3:=nY b tx (by omega);have c4:=qV ss tx hl hr;have c5:=gZ tx (by omega);have c6:=jT (b.nodes.length:Int) 1 39;have hcn:0<=aX b tx/\aX b tx<=(b.nodes.length:Int):=by unfold aX;have:=oB (λx:gF=>decide (x.name=tx)) b.nodes;omega
 have Ti:=vM tx;have c7:=fQ (aX b tx) (by omega);have c8:=fQ (bJ ss tx) (by omega);have z7:=iM (aX b tx) (by omega) (by omega);have z8:=iM (bJ ss tx) (by omega) (by omega);simp only [aS] at c1 c3;clear hr vM;simp only [bX,wZ,Cf,JU];generalize Lib.itoa (aX b tx)=i7 at *;generalize Lib.itoa (bJ ss tx)=i8 at *;generalize aX b tx=cn at *;generalize bJ ss tx=cc at *;subst hop;rw [cY (by decide),cY (by decide),eK rfl];clear c2 c4 c5 c6 c8 z8 Ti hl;have LQ:i7.length<=40:=by omega
 refine tX aD [10] func266 ntmps266 ?_;refine bH ?_;rw [xA];refine JC (λJ=>⟨[.undef,.sl .view 1 (ss.map (eG .view)),.undef,.ptr 0 0 0 0,.undef,.ptr 1 0 0 0,.ptr 2 0 0 0,dv J 12 (.str []),dv J 13 (.str ([99,111,117,110,116,32]++tx++[32]++i7)),.ptr 5 0 0 0,.undef,.undef,.undef,.undef,.undef,.undef,.undef,.undef,.undef,.undef,.undef,.undef,.undef,.undef,.undef,.undef,.undef,.undef,.undef,.undef,.undef,.undef,.undef,.undef,.undef,.undef,.undef,.undef,.undef,.undef,.undef,.undef,dv J 0 (.agg [.obj 3 1,.obj 4 1]),dv J 1 (.ptr 1 0 0 1),dv J 2 (.str tx),dv J 3 (.str ([99,111,117,110,116,32]++tx)),dv J 4 (.str ([99,111,117,110,116,32]++tx++[32])),dv J 5 (.agg [.sl .view 4 (b.nodes.map (dE .view)),.sl .view 1 (b.opens.map jE)]),dv J 6 (.ptr 1 0 0 1),dv J 7 (.str tx),dv J 8 (.int .i64 cn),dv J 9 (.str i7),dv J 10 (.str ([99,111,117,110,116,32]++tx++[32]++i7)),.undef,.undef,.undef,.undef,.undef,.undef,.undef,.undef,.undef,.undef,.undef,.undef,.undef,.undef,.undef,.undef,.undef,.undef,.undef,.undef],[⟨true,true,2,0,[[.sl .view 4 (b.nodes.map (dE .view)),.sl .view 1 (b.opens.map jE)]]⟩,⟨true,true,2,0,[[.int .i64 3,.str tx]]⟩,⟨true,true,2,0,[if J 11=true then [.obj 3 1,.obj 4 1] else [.sl .own 4 [],.sl .own 1 []]]⟩,⟨true,false,4,1,b.nodes.map (dE .own)⟩,⟨true,false,1,1,b.opens.map jE⟩,⟨true,true,2,0,[[.obj 3 1,.obj 4 1]]⟩]⟩) (aH (by simp [dv,hx,LQ]) (by simp [dv,hx,LQ])) (by decide) ?_ ?_
 .simp only [wH,rS];refine ⟨⟨trivial,λJ h1 h2=>iH λK hK=> ?_⟩,⟨trivial,λJ h1 h2=>iH λK hK=> ?_⟩,⟨trivial,λJ h1 h2=>iH λK hK=> ?_⟩,⟨trivial,λJ h1 h2=>iH λK hK=> ?_⟩,⟨trivial,λJ h1 h2=>iH λK hK=> ?_⟩,⟨trivial,λJ h1 h2=>iH λK hK=> ?_⟩,⟨trivial,λJ h1 h2=>iH λK hK=> ?_⟩,⟨trivial,λJ h1 h2=>iH λK hK=> ?_⟩,⟨trivial,λJ h1 h2=>iH λK hK=> ?_⟩,⟨trivial,λJ h1 h2=>iH λK hK=> ?_⟩,⟨trivial,λJ h1 h2=>iH λK hK=> ?_⟩,⟨trivial,λJ h1 h2=>iH λK hK=> ?_⟩,⟨trivial,λJ h1 h2=>iH λK hK=> ?_⟩,⟨trivial,λJ h1 h2=>iH λK hK=> ?_⟩⟩;all_goals simp [Region.binds] at h2
  all_goals first
   |(simp [-Bool.exists_bool,qJ,dv,h1,h2,hx,LQ];refine ⟨_,(c3),hK _ (aH ?_ ?_)⟩<;>simp [dv,sS,h1,h2])
   |(simp [-Bool.exists_bool,qJ,dv,h1,h2,hx,LQ];refine ⟨_,(c7),hK _ (aH ?_ ?_)⟩<;>simp [dv,sS,h1,h2])
   |(simp [-Bool.exists_bool,qJ,dv,h1,h2,hx,LQ];refine ⟨?_,hK _ (aH ?_ ?_)⟩;(focus omega);all_goals simp [dv,sS,h1,h2])
   |(simp [-Bool.exists_bool,qJ,dv,h1,h2,hx,LQ];refine hK _ (aH ?_ ?_)<;>simp [dv,sS,h1,h2])
 .intro J hJ;have hJs:J 0=true/\J 1=true/\J 2=true/\J 3=true/\J 4=true/\J 5=true/\J 6=true/\J 7=true/\J 8=true/\J 9=true/\J 10=true/\J 11=true/\J 12=true/\J 13=true:=⟨hJ 0 (by decide),hJ 1 (by decide),hJ 2 (by decide),hJ 3 (by decide),hJ 4 (by decide),hJ 5 (by decide),hJ 6 (by decide),hJ 7 (by decide),hJ 8 (by decide),hJ 9 (by decide),hJ 10 (by decide),hJ 11 (by decide),hJ 12 (by decide),hJ 13 (by decide)⟩;simp only [dv,hJs,gE];clear hJs hJ J;refine bH ?_;exact aK results266
theorem aDs [aC prog] [eH prog] (b:bC) (ss:List gP) (x:jP) (hs:aP b<=274877906944) (hx:x.text.length<=268435456) (hl:ss.length<=1099511627776) (hr:∀x∈ss,x.rules.length<=1099511627776) (vM:∀n,0<=bJ ss n/\bJ ss n<=999) (hop:x.op=3):
  Ok prog 211 [.agg (aS .view b),.sl .view 1 (ss.map (eG .view)),.agg (lJ x)] (.iJ [.agg (aS .own (bX b ss x).1),.str (bX b ss x).2.1,.str (bX b ss x).2.2]):=by
 have c1:=kU b hs;have hn:b.nodes.length<=274877906944:=by simp only [aP,bV] at hs;omega
 obtain ⟨op,tx⟩:=x;simp only at hx hop;have c2:=pF tx (by omega);have c3:=nZ b tx (by omega);have c4:=qW ss tx hl hr;have c5:=fU tx (by omega);have c6:=gM (b.nodes.length:Int) 1 39;have hcn:0<=aX b tx/\aX b tx<=(b.nodes.length:Int):=by unfold aX;have:=oB (λx:gF=>decide (x.name=tx)) b.nodes;omega
 have Ti:=vM tx;have c7:=fT (aX b tx) (by omega);have c8:=fT (bJ ss tx) (by omega);have z7:=iM (aX b tx) (by omega) (by omega);have z8:=iM (bJ ss tx) (by omega) (by omega);simp only [aS] at c1 c3;clear hr vM;simp only [bX,wZ,Cf,JU];generalize Lib.itoa (aX b tx)=i7 at *;generalize Lib.itoa (bJ ss tx)=i8 at *;generalize aX b tx=cn at *;generalize bJ ss tx=cc at *;subst hop;rw [cY (by decide),cY (by decide),eK rfl];clear c2 c4 c5 c6 c8 z8 Ti hl;have LQ:i7.length<=40:=by omega
 refine tX aD [10] func211 ntmps211 ?_;refine bH ?_;rw [xA];refine JC (λJ=>⟨[.undef,.sl .view 1 (ss.map (eG .view)),.undef,.ptr 0 0 0 0,.undef,.ptr 1 0 0 0,.ptr 2 0 0 0,dv J 12 (.str []),dv J 13 (.str ([99,111,117,110,116,32]++tx++[32]++i7)),.ptr 5 0 0 0,.undef,.undef,.undef,.undef,.undef,.undef,.undef,.undef,.undef,.undef,.undef,.undef,.undef,.undef,.undef,.undef,.undef,.undef,.undef,.undef,.undef,.undef,.undef,.undef,.undef,.undef,.undef,.undef,.undef,.undef,.undef,.undef,dv J 0 (.agg [.obj 3 1,.obj 4 1]),dv J 1 (.ptr 1 0 0 1),dv J 2 (.str tx),dv J 3 (.str ([99,111,117,110,116,32]++tx)),dv J 4 (.str ([99,111,117,110,116,32]++tx++[32])),dv J 5 (.agg [.sl .view 4 (b.nodes.map (dE .view)),.sl .view 1 (b.opens.map jE)]),dv J 6 (.ptr 1 0 0 1),dv J 7 (.str tx),dv J 8 (.int .i64 cn),dv J 9 (.str i7),dv J 10 (.str ([99,111,117,110,116,32]++tx++[32]++i7)),.undef,.undef,.undef,.undef,.undef,.undef,.undef,.undef,.undef,.undef,.undef,.undef,.undef,.undef,.undef,.undef,.undef,.undef,.undef,.undef],[⟨true,true,2,0,[[.sl .view 4 (b.nodes.map (dE .view)),.sl .view 1 (b.opens.map jE)]]⟩,⟨true,true,2,0,[[.int .i64 3,.str tx]]⟩,⟨true,true,2,0,[if J 11=true then [.obj 3 1,.obj 4 1] else [.sl .own 4 [],.sl .own 1 []]]⟩,⟨true,false,4,1,b.nodes.map (dE .own)⟩,⟨true,false,1,1,b.opens.map jE⟩,⟨true,true,2,0,[[.obj 3 1,.obj 4 1]]⟩]⟩) (aH (by simp [dv,hx,LQ]) (by simp [dv,hx,LQ])) (by decide) ?_ ?_
 .simp only [wH,rS];refine ⟨⟨trivial,λJ h1 h2=>iH λK hK=> ?_⟩,⟨trivial,λJ h1 h2=>iH λK hK=> ?_⟩,⟨trivial,λJ h1 h2=>iH λK hK=> ?_⟩,⟨trivial,λJ h1 h2=>iH λK hK=> ?_⟩,⟨trivial,λJ h1 h2=>iH λK hK=> ?_⟩,⟨trivial,λJ h1 h2=>iH λK hK=> ?_⟩,⟨trivial,λJ h1 h2=>iH λK hK=> ?_⟩,⟨trivial,λJ h1 h2=>iH λK hK=> ?_⟩,⟨trivial,λJ h1 h2=>iH λK hK=> ?_⟩,⟨trivial,λJ h1 h2=>iH λK hK=> ?_⟩,⟨trivial,λJ h1 h2=>iH λK hK=> ?_⟩,⟨trivial,λJ h1 h2=>iH λK hK=> ?_⟩,⟨trivial,λJ h1 h2=>iH λK hK=> ?_⟩,⟨trivial,λJ h1 h2=>iH λK hK=> ?_⟩⟩;all_goals simp [Region.binds] at h2
  all_goals first
   |(simp [-Bool.exists_bool,qJ,dv,h1,h2,hx,LQ];refine ⟨_,(c3),hK _ (aH ?_ ?_)⟩<;>simp [dv,sS,h1,h2])
   |(simp [-Bool.exists_bool,qJ,dv,h1,h2,hx,LQ];refine ⟨_,(c7),hK _ (aH ?_ ?_)⟩<;>simp [dv,sS,h1,h2])
   |(simp [-Bool.exists_bool,qJ,dv,h1,h2,hx,LQ];refine ⟨?_,hK _ (aH ?_ ?_)⟩;(focus omega);all_goals simp [dv,sS,h1,h2])
   |(simp [-Bool.exists_bool,qJ,dv,h1,h2,hx,LQ];refine hK _ (aH ?_ ?_)<;>simp [dv,sS,h1,h2])
 .intro J hJ;have hJs:J 0=true/\J 1=true/\J 2=true/\J 3=true/\J 4=true/\J 5=true/\J 6=true/\J 7=true/\J 8=true/\J 9=true/\J 10=true/\J 11=true/\J 12=true/\J 13=true:=⟨hJ 0 (by decide),hJ 1 (by decide),hJ 2 (by decide),hJ 3 (by decide),hJ 4 (by decide),hJ 5 (by decide),hJ 6 (by decide),hJ 7 (by decide),hJ 8 (by decide),hJ 9 (by decide),hJ 10 (by decide),hJ 11 (by decide),hJ 12 (by decide),hJ 13 (by decide)⟩;simp only [dv,hJs,gE];clear hJs hJ J;refine bH ?_;exact aK results211
theorem vX [aC prog] [dD prog] (body base:bF) (hl:body.length<=1073741824) (hb:base.length<=1073741824):Ok prog 123 [.str body,.str base] (.iJ [.sl .own 2 ((bI body base).1.map aO),.sl .own 2 ((bI body base).2.1.map lJ),.bool (bI body base).2.2]):=by
 have hst:=Ko base (dF 59 body);have hn:=iV 59 body;have hcn:body.count 59<=body.length:=pB;have OI:(dF 59 body).length<=1073741825:=by omega
 have jK:∀acc r,nQ base (dF 59 body)=some (acc,r)->∀ls ok,fZ (Lib.join r [59])=(ls,ok)->bI body base=if ok=true then (acc,ls,true) else ([],[],false):=by intro acc r h1 ls ok h2;unfold bI;rw [h1];simp only [h2]
 have Bh:nQ base (dF 59 body)=none->bI body base=([],[],false):=by intro h1;unfold bI;rw [h1]
 generalize bI body base=g at *;have hi0:dF 59 body=dF 59 body\/(dF 59 body=[]/\body=[]):= .inl rfl;generalize hL:dF 59 body=l at hst hn OI jK Bh hi0;refine bR aD func123 ntmps123 ?_;refine bH ?_;refine aL (ι:={q:bF×List bF×List aT×Nat // (q.1.length<=body.length/\1<=q.2.2.2)/\(q.2.1=dF 59 q.1\/(q.2.1=[]/\q.1=[]))/\q.2.2.1.length+q.2.1.length<=l.length/\yL base l q.2.2.1 q.2.1}) (λt o i=>⟨bD t [(8,.str i.1.1),(7,.obj 0 i.1.2.2.2),(9,.undef),(10,.undef),(11,.undef)],[⟨true,false,2,i.1.2.2.2,i.1.2.2.1.map aO⟩]⟩)
  (λi=>i.1.2.1.length) ⟨(body,l,[],1),by simp,.inl hL.symm,by simp,hst⟩ aH ?_
 rintro ⟨⟨rest,parts,acc,v⟩,⟨hrl,hv⟩,zX,hac,sO⟩ K1 hK1;simp only at hrl hv zX hac sO;simp only [bD,cW,cU] at hK1⊢;have aPi:Lib.join parts [59]=rest:=by
  rcases zX with rfl|⟨rfl,rfl⟩
  .exact Mh 59 rest
  .rfl
 cases hp:BL Ae rest with
 |false=>
  have hs:nQ base l=some (acc,parts):=by
   rcases zX with rfl|⟨rfl,rfl⟩
   .rw [Rq] at sO⊢;refine Nn sO ?_;cases h:BL Ae (rest.take (iL 59 rest)) with
    |false=>rfl
    |true=>rw [aD9 h] at hp;cases hp
   .exact Rp sO
  have hr:=jK _ _ hs;rw [aPi] at hr;have cP:=Bj rest (by omega);generalize fZ rest=q at *;obtain ⟨ls,ok⟩:=q;have hr:=hr ls ok rfl;subst hr;simp only at cP;clear hK1 hs jK Bh sO;by_cases h7:(7:Int)<=(rest.length:Int)
  .have he:(rest.take 7 == ([105,109,112,111,114,116,32]:bF))=false:=by
    simp only [BL,show Ae.length=7 from rfl,AI,AD] at hp;rcases hp with hp|hp
    .omega
    .exact hp
   clear hp;cases ok
   .simp only [eS,gS];have W:=aA h7 he;refine we ?_;exact aK results123
   .simp only [gE];have W:=aA h7 he;refine we ?_;exact aK results123
  .clear hp;cases ok
   .simp only [eS,gS];have W:=h7;refine we ?_;exact aK results123
   .simp only [gE];have W:=h7;refine we ?_;exact aK results123
 |true=>
  have h7n:=QJ hp;have h7:(7:Int)<=(rest.length:Int):=by simp only [show Ae.length=7 from rfl] at h7n;omega
  have he:(rest.take 7 == ([105,109,112,111,114,116,32]:bF))=true:=by simp only [BL,show Ae.length=7 from rfl,eJ] at hp;exact hp.2
  have hpt:=Q6 hp;have hix:=aEa hp;have hxl:=tL 59 rest;have hsg:parts=dF 59 rest:=by
   rcases zX with h|⟨_,h⟩
   .exact h
   .subst h;simp at h7
  rw [Rq] at hsg;have cI:Ok prog 176 [.str rest,.int .u8 59] (.int .i64 (iL 59 rest:Nat)):=Ir rest 59 (by omega);generalize iL 59 rest=k at *;subst hsg;have c2:=yE ((rest.take k).drop 7) base (by simp;omega);simp only [aO] at c2;have jU:=Ro sO hpt;have hnext:=Nl sO hpt;have cM:=aK7 (rest.length:Int) ((k:Int)+1);have hk7:(7:Int)<=(k:Int):=by omega
  have hkl:(k:Int)<=(rest.length:Int):=by omega
  generalize bZ ((rest.take k).drop 7) base=pa at *;obtain ⟨a,ok⟩:=pa;simp only at c2 jU hnext;clear hp hpt;cases ok with
  |false=>have hr:=Bh (jU rfl);subst hr;clear hK1;have W:=aA h7 (aA he (aA hk7 hkl));refine we ?_;exact aK results123
  |true=>
   by_cases hkk:k < rest.length
   .have hm:min (rest.length:Int) ((k:Int)+1)=((k+1:Nat):Int):=by omega
    rw [hm] at cM;have hk1:=oW (k:=k);rw [eK hkk] at hnext hac;have W:=aA h7 (aA he (aA hk7 (aA hkl hk1)));refine we ?_;all_goals exact hK1 _ ⟨(rest.drop (k+1),dF 59 (rest.drop (k+1)),acc++[a],v+1),⟨by simp;omega,by simp only;omega⟩,.inl rfl,by simp at hac⊢;omega,hnext rfl⟩ (aW 1) (by simp [eK hkk])
   .have hm:min (rest.length:Int) ((k:Int)+1)=(rest.length:Int):=by omega
    rw [hm] at cM;rw [cY hkk] at hnext hac;have W:=aA h7 (aA he (aA hk7 hkl));refine we ?_;all_goals exact hK1 _ ⟨([],[],acc++[a],v+1),⟨by simp,by simp only;omega⟩,.inr ⟨rfl,rfl⟩,by simp at hac⊢;omega,hnext rfl⟩ (aW 1) (by simp)
theorem Xz [aC prog] (l:List kJ) (k:Int) (h0:0<=k) (hl:k+(aQ (λ_=>8) l:Nat)<=4611686018427387000) (OI:l.length<=4611686018427387904):ek prog 49 (.sl .own 8 (l.map iY)) (.sl .own 8 ((vF Bq (λ_=>8) k l).map iY)) [.int .i64 k] (.int .i64 (k+(aQ (λ_=>8) l:Nat))):=by
 generalize hu:(vF Bq (λ_=>8) k l).map iY=l';have Az:l'.length=(l.map iY).length:=by rw [<-hu];simp [fM]
 refine Qu aD func49 ntmps49 ?_;refine gJ ?_;refine aL (ι:={j:Nat // j<=l.length}) (λt o i=>⟨bD t [(1,.int .i64 (k+(aQ (λ_=>8) (l.take i.1):Nat))),(5,.int .i64 i.1)],[⟨true,false,8,0,qZ (l.map iY) l' i.1⟩]⟩)
  (λi=>l.length - i.1) ⟨0,by simp⟩ (aH (by simp [wL]) (by simp [aQ])) ?_
 rintro ⟨j,hj⟩ K1 hK1;simp only [bD,cW,cU] at hK1⊢;have hj1:i64.wrap ((j:Int)+1)=((j+1:Nat):Int):=by rw [wrap64]<;>omega
 have DW:(qZ (l.map iY) l' j).length=l.length:=by rw [rP _ _ _ Az];simp
 have hle:=dK (λ_=>8) l (j+1);by_cases hlt:j < l.length
 .have hts:=dC (λ_=>8) l j hlt
  have hmg:=zP (l.map iY) l' j (by simpa using hlt) (by rw [Az];simpa using hlt);have AA:=zO (l.map iY) l' j (by simpa using hlt) (by rw [Az];simpa using hlt);have he:l'[j]'(by rw [Az];simpa using hlt)=iY (Bq (k+(aQ (λ_=>8) (l.take j):Nat)) l[j]):=by subst hu;rw [pT,pR]
  rw [he] at AA;generalize hq:k+(aQ (λ_=>8) (l.take j):Nat)=q at *;have e2:q+1+1=q+2:=by omega
  have e3:q+2+1=q+3:=by omega
  have e4:q+3+1=q+4:=by omega
  have e5:q+4+1=q+5:=by omega
  have e6:q+5+1=q+6:=by omega
  have e7:q+6+1=q+7:=by omega
  have e8:q+7+1=q+8:=by omega
  simp only [iY,Bq,Am] at AA;have W:=aA DW (aA hmg (aA hj1 (aA AA (aA e2 (aA e3 (aA e4 (aA e5 (aA e6 (aA e7 e8)))))))));have V:=aA DW (aA hj1 (aA AA (aA hlt (aA e2 (aA e3 (aA e4 (aA e5 (aA e6 (aA e7 e8)))))))));repeat' first|refine wg ?_|(refine nx ?_;refine sk (hc:=kM _ (by omega)) (h:=?_))|(refine sq ?_ ?_<;>intro hc<;>try exact hc.elim)|fail
  refine hK1 _ ⟨j+1,by omega⟩ (aH (by simp) ?_) (by simp only;omega);simp;omega
 .have V8:=vE (l.map iY) l' j Az (by simp;omega);have hjl:j=l.length:=by omega
  have zT:iK l'=true:=by rw [<-hu];simp
  have htk:l.take j=l:=cX (by omega);rw [htk] at *;have W:=aA DW hj1;refine wl ?_;all_goals try(refine aR ?_;simp [yD,results49,V8,zT])
theorem Sq [aC prog] (l:List dB) (k:Int) (h0:0<=k) (hl:k+(aQ (λ_=>5) l:Nat)<=4611686018427387000) (OI:l.length<=4611686018427387904):ek prog 50 (.sl .own 5 (l.map bU)) (.sl .own 5 ((vF tZ (λ_=>5) k l).map bU)) [.int .i64 k] (.int .i64 (k+(aQ (λ_=>5) l:Nat))):=by
 generalize hu:(vF tZ (λ_=>5) k l).map bU=l';have Az:l'.length=(l.map bU).length:=by rw [<-hu];simp [fM]
 refine Qu aD func50 ntmps50 ?_;refine gJ ?_;refine aL (ι:={j:Nat // j<=l.length}) (λt o i=>⟨bD t [(1,.int .i64 (k+(aQ (λ_=>5) (l.take i.1):Nat))),(5,.int .i64 i.1)],[⟨true,false,5,0,qZ (l.map bU) l' i.1⟩]⟩)
  (λi=>l.length - i.1) ⟨0,by simp⟩ (aH (by simp [wL]) (by simp [aQ])) ?_
 rintro ⟨j,hj⟩ K1 hK1;simp only [bD,cW,cU] at hK1⊢;have hj1:i64.wrap ((j:Int)+1)=((j+1:Nat):Int):=by rw [wrap64]<;>omega
 have DW:(qZ (l.map bU) l' j).length=l.length:=by rw [rP _ _ _ Az];simp
 have hle:=dK (λ_=>5) l (j+1);by_cases hlt:j < l.length
 .have hts:=dC (λ_=>5) l j hlt
  have hmg:=zP (l.map bU) l' j (by simpa using hlt) (by rw [Az];simpa using hlt);have AA:=zO (l.map bU) l' j (by simpa using hlt) (by rw [Az];simpa using hlt);have he:l'[j]'(by rw [Az];simpa using hlt)=bU (tZ (k+(aQ (λ_=>5) (l.take j):Nat)) l[j]):=by subst hu;rw [pT,pR]
  rw [he] at AA;generalize hq:k+(aQ (λ_=>5) (l.take j):Nat)=q at *;have e2:q+1+1=q+2:=by omega
  have e3:q+2+1=q+3:=by omega
  have e4:q+3+1=q+4:=by omega
  have e5:q+4+1=q+5:=by omega
  simp only [bU,tZ,Am] at AA;have W:=aA DW (aA hmg (aA hj1 (aA AA (aA e2 (aA e3 (aA e4 e5))))));have V:=aA DW (aA hj1 (aA AA (aA hlt (aA e2 (aA e3 (aA e4 e5))))));repeat' first|refine wg ?_|(refine nx ?_;refine sk (hc:=kM _ (by omega)) (h:=?_))|(refine sq ?_ ?_<;>intro hc<;>try exact hc.elim)|fail
  refine hK1 _ ⟨j+1,by omega⟩ (aH (by simp) ?_) (by simp only;omega);simp;omega
 .have V8:=vE (l.map bU) l' j Az (by simp;omega);have hjl:j=l.length:=by omega
  have zT:iK l'=true:=by rw [<-hu];simp
  have htk:l.take j=l:=cX (by omega);rw [htk] at *;have W:=aA DW hj1;refine wl ?_;all_goals try(refine aR ?_;simp [yD,results50,V8,zT])
end Go.Proofs.YtjmpjmilndkgfaaGreatDoor
