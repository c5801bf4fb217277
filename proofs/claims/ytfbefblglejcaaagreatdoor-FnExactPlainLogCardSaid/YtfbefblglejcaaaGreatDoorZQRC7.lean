/- Proved here: steps towards the statement of this claim. No condition. -/
import Derived.Test.YtfbefblglejcaaaGreatDoorZQNF
import Derived.Test.YtfbefblglejcaaaGreatDoorZQP2
import Derived.Test.YtfbefblglejcaaaGreatDoorZQTK2
set_option linter.all false
set_option maxRecDepth 4000
set_option maxHeartbeats 4000000
namespace Go.Proofs.YtfbefblglejcaaaGreatDoor
open Go.Aw Proofs.Tryz List IntKind
def jY(l:List bB)(s:bB):List bB:=if l.length<40 then l++[s]else l
theorem EX[aC prog][dL prog](p:aG)(s:bB)(hs:p.log.length<=1099511627776):MP prog 156 [.uI (aH .own p) (aH .own {p with log:=jY p.log s}),.view (.str s)] (.gT []):=by
 by_cases h:p.log.length<40
 .have hi:(p.log.length:Int)<40:=by omega
  obtain⟨l1,hl1⟩:∃l,l=p.log++[s]:=⟨_,rfl⟩;have hap:p.log.map bW++[[.str s]]=l1.map bW:=by rw[hl1];simp
  have e:jY p.log s=l1:=by unfold jY;rw[eK h,hl1]
  rw[e];clear e hl1;refine sG aF func156 ntmps156 ?_;have W:=aA hi (aA hap hs);refine wl ?_;all_goals (try exact kH (by simp[gF,dI,dH,rowOf,results156];done))
 .have hi:¬(p.log.length:Int)<40:=by omega
  have e:jY p.log s=p.log:=by unfold jY;rw[cX h]
  rw[e];clear e;refine sG aF func156 ntmps156 ?_;have W:=hi;refine wl ?_;all_goals (try exact kH (by simp[gF,dI,dH,rowOf,results156];done))
theorem Yk[aC prog](b:bE)(m:bB)(hs:aT b<=274877906944):MP prog 224 [.oM (.agg (aU .own b)),.view (.str m)] (.agg (aU .own {b with opens:=qE b m (b.opens.length-1)})):=by
 have hn:b.nodes.length<=274877906944/\b.opens.length<=274877906944:=by simp only[aT,bQ]at hs;omega
 have Si:i64.wrap ((b.opens.length:Int)-1)=(b.opens.length:Int)-1:=by rw[wrap64]<;>omega
 have hw1:i64.wrap ((b.nodes.length:Int)-1)=(b.nodes.length:Int)-1:=by rw[wrap64]<;>omega
 have cI:=λn lo hi=>gI n lo hi
 refine sG aF func224 ntmps224 ?_;have W:=Si;refine we ?_;refine aO (ι:={q:Int // -1<=q/\q<(b.opens.length:Int)/\qE b m q.toNat=qE b m (b.opens.length-1)}) (λt o i=>⟨bC t [(5,.int .i64 i.1),(6,.undef)],o⟩) (λi=>i.1.toNat) ⟨(b.opens.length:Int)-1,by omega,by omega,by congr 1;omega⟩ aJ ?_;rintro⟨q,hq1,hq2,WA⟩ K1 hK1;simp only[bC,cW,cU]at hK1⊢;by_cases h1:(0:Int)<q
 .obtain ⟨k,rfl⟩:∃k:Nat,q=((k+1:Nat):Int):=⟨(q-1).toNat,by omega⟩;have hlt:k+1<b.opens.length:=by omega
  have hg:=aE hlt;have G6:i64.wrap (((k+1:Nat):Int)-1)=((k:Nat):Int):=by rw[wrap64]<;>omega
  rw[show(((k+1:Nat):Int)).toNat=k+1 from by omega]at WA;generalize Ri:b.opens[k+1]=n at*;cases hh:yR b m n
  .rw [LY hg hh]at WA;by_cases h01:0<=n/\n<(b.nodes.length:Int)
   .obtain ⟨z,rfl⟩:=mN h01.1;have hm:z<b.nodes.length:=by omega
    rw[QM hm]at hh;have hgm:=aE hm;have hne:(b.nodes[z].name == m)=false:=by simpa using hh
    have c1:=cI ((z:Nat):Int) 0 ((b.nodes.length:Int)-1);rw[show(decide ((0:Int)<=((z:Nat):Int))&&decide (((z:Nat):Int)<=(b.nodes.length:Int)-1))=true from by simp;omega]at c1;have W:=aA hg (aA G6 (aA hw1 (aA hgm (aA hm (aA hne (aA h1 hn))))));have V:=hlt;refine we ?_;all_goals exact hK1 _ ⟨((k:Nat):Int),by omega,by omega,by simpa using WA⟩ aJ (by first|omega|(simp only;omega)|(simp;omega))
   .have c1:=cI n 0 ((b.nodes.length:Int)-1);rw[show(decide ((0:Int)<=n)&&decide (n<=(b.nodes.length:Int)-1))=false from by simp;omega]at c1;have W:=aA hg (aA G6 (aA hw1 (aA h1 hn)));have V:=hlt;refine we ?_;all_goals exact hK1 _ ⟨((k:Nat):Int),by omega,by omega,by simpa using WA⟩ aJ (by first|omega|(simp only;omega)|(simp;omega))
  .rw [Ph hg hh]at WA;have h01:0<=n/\n<(b.nodes.length:Int):=tR λh=>by rw[jb h]at hh;cases hh
   obtain⟨z,rfl⟩:=mN h01.1;have hm:z<b.nodes.length:=by omega
   rw[QM hm]at hh;have hgm:=aE hm;have hne:(b.nodes[z].name == m)=true:=by simpa using hh
   have c1:=cI ((z:Nat):Int) 0 ((b.nodes.length:Int)-1);rw[show(decide ((0:Int)<=((z:Nat):Int))&&decide (((z:Nat):Int)<=(b.nodes.length:Int)-1))=true from by simp;omega]at c1;rw[<-WA];have W:=aA hg (aA G6 (aA hw1 (aA hgm (aA hm (aA hne (aA h1 hn))))));have V:=hlt;refine we ?_;all_goals try(refine⟨by first|exact .inr rfl|exact .inl rfl,?_⟩;simp[gF,dI,dH,rowOf,results224,map_take])
   all_goals (rw[<-map_take];exact RJ _)
 .have hq4:qE b m (b.opens.length-1)=b.opens:=by rw[<-WA,show q.toNat=0 by omega];rfl
  rw[hq4];have W:=h1;refine we ?_;all_goals (try exact kH (by simp[gF,dI,dH,rowOf,results224];done))
def AR:bB:=[105,109,112,111,114,116,32]
def oL(base:bB):List bB->Option (List aK×List bB)
 |[]=>some ([],[])
 |p::ps=>if Cq AR p=true then(if (bZ (p.drop 7) base).2=true then(oL base ps).map (λq=>((bZ (p.drop 7) base).1::q.1,q.2))else none)else some ([],p::ps)
def bH(body base:bB):List aK×List jT×Bool:=
 match oL base (dE 59 body)with
 |none=>([],[],false)
 |some (l,r)=>if (fZ (Lib.join r [59])).2=true then(l,(fZ (Lib.join r [59])).1,true)else([],[],false)
def zP(base:bB)(l:List bB)(acc:List aK)(r:List bB):Prop:=oL base l=(oL base r).map λq=>(acc++q.1,q.2)
theorem Mf(base:bB)(l:List bB):zP base l [] l:=by unfold zP;cases oL base l<;>simp
theorem TE{base:bB}{l:List bB}{acc:List aK}{p:bB}{ps:List bB}(h:zP base l acc (p::ps))(h1:Cq AR p=true)(h2:(bZ (p.drop 7) base).2=false):oL base l=none:=by unfold zP at h;rw[h];simp[oL,h1,h2]
theorem Pj{base:bB}{l:List bB}{acc:List aK}{p:bB}{ps:List bB}(h:zP base l acc (p::ps))(h1:Cq AR p=true)(h2:(bZ (p.drop 7) base).2=true):zP base l (acc++[(bZ (p.drop 7) base).1]) ps:=by unfold zP at h⊢;rw[h];simp only[oL,h1,h2,gC];cases oL base ps<;>simp
theorem TF{base:bB}{l:List bB}{acc:List aK}(h:zP base l acc []):oL base l=some (acc,[]):=by unfold zP at h;rw[h];simp[oL]
theorem Pk{base:bB}{l:List bB}{acc:List aK}{p:bB}{ps:List bB}(h:zP base l acc (p::ps))(h1:Cq AR p=false):oL base l=some (acc,p::ps):=by unfold zP at h;rw[h];simp[oL,h1]
theorem NW(c:UInt8):∀s:bB,Lib.join (dE c s) [c]=s
 |[]=>by simp[dE,Lib.join_one]
 |x::s=>by
  have ih:=NW c s;simp only[dE];split
  .rename_i h;subst h;cases hs:dE x s with
   |nil=>exact absurd hs (qY x s)
   |cons p r=>rw[hs]at ih;simp only[Lib.join,intercalate]at ih⊢;simp only[intersperse,pP,eM,singleton_append]at ih⊢;rw[ih]
  .split
   .rename_i h0;exact absurd h0 (qY c s)
   .rename_i p r h0;rw[h0]at ih;simp only[Lib.join,intercalate]at ih⊢;cases r with
    |nil=>simp only[intersperse,pP,flatten_nil,fW]at ih⊢;rw[ih]
    |cons q r=>simp only[intersperse,pP,eA]at ih⊢;rw[ih]
theorem aGl[aC prog][bP prog](l:List bB)(sep:bB)(hl:l.length<=140737488355328)(hs:(Lib.join l sep).length<=140737488355328):
  Ok prog 197 [.sl .view 1 (l.map bW),.str sep] (.str (Lib.join l sep)):=L9 Tryz.lays156 Tryz.Builder_Extra_156 l sep hl hs
theorem Yn(x:bB)(xs:List bB)(c:UInt8):(Lib.join xs [c]).length<=(Lib.join (x::xs) [c]).length:=by
 cases xs with
 |nil=>simp[Lib.join_nil]
 |cons y ys=>simp only[Lib.join,intercalate,intersperse,pP,eR];omega
theorem Mg(c:UInt8):∀(k:Nat) (l:List bB),(Lib.join (l.drop k) [c]).length<=(Lib.join l [c]).length
 |0,l=>by simp
 |_+1,[]=>by simp
 |k+1,x::xs=>by rw[pC];exact kO (Mg c k xs) (Yn x xs c)
theorem aBo[aC prog][bP prog]{s:bB}(hl:s.length<=1099511627776)(h:Cq AR s=false):Ok prog 211 [.str s,.str [105,109,112,111,114,116,32]] (.gT [.str s,.bool false]):=by have c:=EM s AR hl (by simp[AR]);rw[h]at c;exact c
theorem A7[aC prog][bP prog]{s:bB}(hl:s.length<=1099511627776)(h:Cq AR s=true):Ok prog 211 [.str s,.str [105,109,112,111,114,116,32]] (.gT [.str (s.drop 7),.bool true]):=by have c:=EM s AR hl (by simp[AR]);rw[h]at c;exact c
theorem uD[aC prog][bP prog](body base:bB)(hl:body.length<=1073741824)(hb:base.length<=1073741824):Ok prog 209 [.str body,.str base] (.gT [.sl .own 2 ((bH body base).1.map aL),.sl .own 2 ((bH body base).2.1.map lI),.bool (bH body base).2.2]):=by
 have cS:=iy body 59 (by omega);have hle:=QL 59 body;have hst:=Mf base (dE 59 body);have hn:=iQ 59 body;have hcn:body.count 59<=body.length:=pH;have hll:(dE 59 body).length<=1073741825:=by omega
 have jO:∀acc r,oL base (dE 59 body)=some (acc,r)->∀ls ok,fZ (Lib.join r [59])=(ls,ok)->bH body base=if ok=true then(acc,ls,true)else([],[],false):=by intro acc r h1 ls ok h2;unfold bH;rw[h1];simp only[h2]
 have BP:oL base (dE 59 body)=none->bH body base=([],[],false):=by intro h1;unfold bH;rw[h1]
 generalize bH body base=g at*;have hjl:(Lib.join (dE 59 body) [59]).length<=1073741824:=by rw[NW];exact hl
 generalize dE 59 body=l at*;refine bM aF func209 ntmps209 ?_;refine aY ?_;refine aO (ι:={q:Nat×List aK×Nat // (q.1<=l.length/\1<=q.2.2)/\q.2.1.length=q.1/\zP base l q.2.1 (l.drop q.1)}) (λt o i=>⟨bC t [(7,.obj 0 (i.1.1+1)),(8,.obj 1 i.1.2.2),(9,.undef),(10,.undef),(11,.undef),(12,.undef)],[⟨true,false,1,i.1.1+1,(l.drop i.1.1).map bW⟩,⟨true,false,2,i.1.2.2,i.1.2.1.map aL⟩]⟩)
  (λi=>l.length-i.1.1) ⟨(0,[],1),by simp,by simp,by simpa using hst⟩ aJ ?_
 rintro⟨⟨k,acc,v⟩,⟨hk,hv⟩,xD,rC⟩ K1 hK1;simp only at hk hv xD rC;simp only[bC,cW,cU]at hK1⊢;have hjd:=Mg 59 k l;have hdl:(l.drop k).length<=1073741825:=by simp;omega
 have cJ:=aGl (l.drop k) [59] (by omega) (by omega);have cP:=BS (Lib.join (l.drop k) [59]) (by omega);by_cases hlt:k<l.length
 .have hd:l.drop k=l[k]::l.drop (k+1):=mL hlt;have hpl:=hle _ (fS hlt);have c2:=zK (l[k].drop 7) base (by simp;omega);simp only[aL]at c2;rw[hd]at rC cJ cP hdl⊢;generalize hps:l.drop (k+1)=ps at*;generalize l[k]=p at*;simp only[eN]at hdl;cases hp:Cq AR p with
  |false=>
   have hs:=Pk rC hp;have c1:=aBo (by omega) hp;have hr:=jO _ _ hs;clear hp hs rC hst hK1;have hdp:(0:Int)<(ps.length:Int)+1:=by omega
   generalize Lib.join (p::ps) [59]=J2 at*;generalize fZ J2=q at*;obtain⟨ls,ok⟩:=q;have hr:=hr ls ok rfl;subst hr;simp only at cP;cases ok
   .simp only[eS,gS];have W:=hdp;refine we ?_;exact aD results209
   .simp only[gC];have W:=hdp;refine we ?_;exact aD results209
  |true=>
   have jX:=TE rC hp;have hnext:=Pj rC hp;have c1:=A7 (by omega) hp;clear hp;have hdp:(0:Int)<(ps.length:Int)+1:=by omega
   generalize bZ (p.drop 7) base=pa at*;obtain⟨a,ok⟩:=pa;simp only at c2 jX hnext;have htk:List.take ps.length (ps.map bW)=ps.map bW:=cY (by simp);cases ok with
   |false=>have hr:=BP (jX rfl);subst hr;have W:=hdp;refine we ?_;exact aD results209
   |true=>have W:=hdp;refine we ?_;all_goals exact hK1 _ ⟨(k+1,acc++[a],v+1),⟨by simp only;omega,by simp only;omega⟩,by simp;omega,by simp only[hps];exact hnext rfl⟩ (aV 2 (by simp[hps,htk])) (by simp only;omega)
 .have hd:l.drop k=[]:=AE (by omega);rw[hd]at rC cJ cP⊢;have hr:=jO _ _ (TF rC) [] true rfl;subst hr;have hq:fZ []=([],true):=rfl;simp only[Lib.join_nil,hq,DE,gC]at cJ cP⊢;refine aY ?_;exact aD results209
theorem TG(c:UInt8)(s:bB):dE c s=s.take (iH c s)::(if iH c s<s.length then dE c (s.drop (iH c s+1))else []):=by
 rw[Nk];have h:=vD c s;split
 .rfl
 .rw [cY (by omega)]
theorem aGm{p s:bB}{k:Nat}(h:Cq p (s.take k)=true):Cq p s=true:=by simp only[Cq,eJ,fR,Bs,take_take,oS]at h⊢;obtain⟨h1,h2⟩:=h;rw[DG (by omega)]at h2;exact⟨by omega,h2⟩
theorem aGn{s:bB}(h:Cq AR s=true):7<=iH 59 s:=by
 simp only[Cq,eJ,fR,Bs]at h;obtain⟨h1,h2⟩:=h;have h3:s=AR++s.drop 7:=by have:=oA 7 s;rw[show AR.length=7 from rfl]at h2;rw[h2]at this;exact this.symm
 rw[h3,Lf 59 AR _ (by decide)];simp[AR]
theorem aBp{s:bB}(h:Cq AR s=true):Cq AR (s.take (iH 59 s))=true:=by have h7:=aGn h;have hle:=vD 59 s;simp only[Cq,eJ,fR,Bs,take_take,oS,show AR.length=7 from rfl]at h⊢;rw[DG h7];exact⟨by omega,h.2⟩
theorem xH[aC prog][bP prog](body base:bB)(hl:body.length<=1073741824)(hb:base.length<=1073741824):Ok prog 181 [.str body,.str base] (.gT [.sl .own 2 ((bH body base).1.map aL),.sl .own 2 ((bH body base).2.1.map lI),.bool (bH body base).2.2]):=by
 have hst:=Mf base (dE 59 body);have hn:=iQ 59 body;have hcn:body.count 59<=body.length:=pH;have hll:(dE 59 body).length<=1073741825:=by omega
 have jO:∀acc r,oL base (dE 59 body)=some (acc,r)->∀ls ok,fZ (Lib.join r [59])=(ls,ok)->bH body base=if ok=true then(acc,ls,true)else([],[],false):=by intro acc r h1 ls ok h2;unfold bH;rw[h1];simp only[h2]
 have BP:oL base (dE 59 body)=none->bH body base=([],[],false):=by intro h1;unfold bH;rw[h1]
 generalize bH body base=g at*;have hi0:dE 59 body=dE 59 body\/(dE 59 body=[]/\body=[]):= .inl rfl;generalize hL:dE 59 body=l at hst hn hll jO BP hi0;refine bM aF func181 ntmps181 ?_;refine aY ?_;refine aO (ι:={q:bB×List bB×List aK×Nat // (q.1.length<=body.length/\1<=q.2.2.2)/\(q.2.1=dE 59 q.1\/(q.2.1=[]/\q.1=[]))/\q.2.2.1.length+q.2.1.length<=l.length/\zP base l q.2.2.1 q.2.1}) (λt o i=>⟨bC t [(8,.str i.1.1),(7,.obj 0 i.1.2.2.2),(9,.undef),(10,.undef),(11,.undef)],[⟨true,false,2,i.1.2.2.2,i.1.2.2.1.map aL⟩]⟩)
  (λi=>i.1.2.1.length) ⟨(body,l,[],1),by simp,.inl hL.symm,by simp,hst⟩ aJ ?_
 rintro⟨⟨rest,parts,acc,v⟩,⟨hrl,hv⟩,AA,hac,rC⟩ K1 hK1;simp only at hrl hv AA hac rC;simp only[bC,cW,cU]at hK1⊢;have aRs:Lib.join parts [59]=rest:=by
  rcases AA with rfl|⟨rfl,rfl⟩
  .exact NW 59 rest
  .rfl
 cases hp:Cq AR rest with
 |false=>
  have hs:oL base l=some (acc,parts):=by
   rcases AA with rfl|⟨rfl,rfl⟩
   .rw [TG]at rC⊢;refine Pk rC ?_;cases h:Cq AR (rest.take (iH 59 rest))with
    |false=>rfl
    |true=>rw[aGm h]at hp;cases hp
   .exact TF rC
  have hr:=jO _ _ hs;rw[aRs]at hr;have cP:=BR rest (by omega);generalize fZ rest=q at*;obtain⟨ls,ok⟩:=q;have hr:=hr ls ok rfl;subst hr;simp only at cP;clear hK1 hs jO BP rC;by_cases h7:(7:Int)<=(rest.length:Int)
  .have he:(rest.take 7 == ([105,109,112,111,114,116,32]:bB))=false:=by
    simp only[Cq,show AR.length=7 from rfl,tW,rB]at hp;rcases hp with hp|hp
    .omega
    .exact hp
   clear hp;cases ok
   .simp only[eS,gS];have W:=aA h7 he;refine we ?_;exact aD results181
   .simp only[gC];have W:=aA h7 he;refine we ?_;exact aD results181
  .clear hp;cases ok
   .simp only[eS,gS];have W:=h7;refine we ?_;exact aD results181
   .simp only[gC];have W:=h7;refine we ?_;exact aD results181
 |true=>
  have h7n:=SE hp;have h7:(7:Int)<=(rest.length:Int):=by simp only[show AR.length=7 from rfl]at h7n;omega
  have he:(rest.take 7 == ([105,109,112,111,114,116,32]:bB))=true:=by simp only[Cq,show AR.length=7 from rfl,eJ]at hp;exact hp.2
  have hpt:=aBp hp;have hix:=aGn hp;have hxl:=vD 59 rest;have hsg:parts=dE 59 rest:=by
   rcases AA with h|⟨_,h⟩
   .exact h
   .subst h;simp at h7
  rw[TG]at hsg;have cI:Ok prog 120 [.str rest,.int .u8 59] (.int .i64 (iH 59 rest:Nat)):=JZ rest 59 (by omega);generalize iH 59 rest=k at*;subst hsg;have c2:=zJ ((rest.take k).drop 7) base (by simp;omega);simp only[aL]at c2;have jX:=TE rC hpt;have hnext:=Pj rC hpt;have cM:=aNi (rest.length:Int) ((k:Int)+1);have hk7:(7:Int)<=(k:Int):=by omega
  have hkl:(k:Int)<=(rest.length:Int):=by omega
  generalize bZ ((rest.take k).drop 7) base=pa at*;obtain⟨a,ok⟩:=pa;simp only at c2 jX hnext;clear hp hpt;cases ok with
  |false=>have hr:=BP (jX rfl);subst hr;clear hK1;have W:=aA h7 (aA he (aA hk7 hkl));refine we ?_;exact aD results181
  |true=>
   by_cases hkk:k<rest.length
   .have hm:min (rest.length:Int) ((k:Int)+1)=((k+1:Nat):Int):=by omega
    rw[hm]at cM;have hk1:=oQ (k:=k);rw[eK hkk]at hnext hac;have W:=aA h7 (aA he (aA hk7 (aA hkl hk1)));refine we ?_;all_goals exact hK1 _ ⟨(rest.drop (k+1),dE 59 (rest.drop (k+1)),acc++[a],v+1),⟨by simp;omega,by simp only;omega⟩,.inl rfl,by simp at hac⊢;omega,hnext rfl⟩ (aV 1) (by simp[eK hkk])
   .have hm:min (rest.length:Int) ((k:Int)+1)=(rest.length:Int):=by omega
    rw[hm]at cM;rw[cX hkk]at hnext hac;have W:=aA h7 (aA he (aA hk7 hkl));refine we ?_;all_goals exact hK1 _ ⟨([],[],acc++[a],v+1),⟨by simp,by simp only;omega⟩,.inr ⟨rfl,rfl⟩,by simp at hac⊢;omega,hnext rfl⟩ (aV 1) (by simp)
def iK(p:aG)(a:aK):List aK:=
 match p.aN.find? (kM a)with
 |some m=>if m.done=true/\m.code=1 then(bH m.body a.host).1 else []
 |none=>[]
def uW(p:aG):List aK:=p.aN.flatMap λm=>(bH m.body m.to.host).1
def gJ(p:aG):Nat->aK->List aK->List aK->List aK×List aK
 |0,_,seen,out=>(seen,out)
 |n+1,a,seen,out=>if seen.any (iO a)=true then(seen,out)else
   (((iK p a).foldl (λs b=>gJ p n b s.1 s.2) (seen++[a],out)).1,((iK p a).foldl (λs b=>gJ p n b s.1 s.2) (seen++[a],out)).2++[a])
def rU(p:aG)(seen:List aK):Nat:=(p.aN.filter λm=> !seen.any (iO m.to)).length
def dW(p:aG)(n:Nat)(l:List aK)(s:List aK×List aK):List aK×List aK:=l.foldl (λs b=>gJ p n b s.1 s.2) s
theorem GV(p:aG)(n:Nat)(l:List aK)(b:aK)(s:List aK×List aK):dW p n (l++[b]) s=gJ p n b (dW p n l s).1 (dW p n l s).2:=by simp[dW]
theorem yS{l:List aK}{a:aK}:l.any (iO a)=true↔a∈l:=by simp[iO]
theorem Kl(p:aG)(a:aK):∀b∈iK p a,b∈uW p:=by
 intro b hb;unfold iK at hb;split at hb
 .rename_i m hm;split at hb
  .have h1:=DP hm;have h2:=pA hm;simp only[kM,fR]at h1;subst h1;exact FA.2 ⟨m,h2,hb⟩
  .cases hb
 .cases hb
theorem A8{p:aG}{a:aK}(h:iK p a≠[]):∃m∈p.aN,m.to=a:=by
 unfold iK at h;split at h
 .rename_i m hm;have h1:=DP hm;simp only[kM,fR]at h1;exact⟨m,pA hm,h1⟩
 .exact absurd rfl h
structure Seen(U:List aK)(s:List aK × List aK): Prop where
  nd:s.1.Nodup
  sub:∀ x ∈ s.1, x ∈ U
  ond:s.2.Nodup
  jk:∀ x ∈ s.2, x ∈ s.1
theorem Pm{p:aG}{s s':List aK}(h:∀x∈s,x∈s'):rU p s'<=rU p s:=by
 unfold rU;have:∀l:List dX,(l.filter λm=> !s'.any (iO m.to)).length<=(l.filter λm=> !s.any (iO m.to)).length:=by
  intro l;induction l with
  |nil=>simp
  |cons m l ih=>
   simp only[filter_cons];by_cases h1:s.any (iO m.to)=true
   .have h2:s'.any (iO m.to)=true:=yS.2 (h _ (yS.1 h1));simp[h1,h2,ih]
   .simp only[yW]at h1;simp only[h1];split<;>simp<;>omega
 exact this p.aN
theorem WT{p:aG}{s:List aK}{a:aK}(h:¬s.any (iO a)=true)(hm:∃m∈p.aN,m.to=a):rU p (s++[a])<rU p s:=by
 obtain⟨m,hm,rfl⟩:=hm;unfold rU;have key:∀l:List dX,(l.filter λx=> !(s++[m.to]).any (iO x.to)).length<=(l.filter λx=> !s.any (iO x.to)).length/\(m∈l->(l.filter λx=> !(s++[m.to]).any (iO x.to)).length<(l.filter λx=> !s.any (iO x.to)).length):=by
  intro l;induction l with
  |nil=>simp
  |cons x l ih=>
   simp only[filter_cons];by_cases h1:s.any (iO x.to)=true
   .have h2:(s++[m.to]).any (iO x.to)=true:=yS.2 (nB _ (yS.1 h1));simp only[h1,h2,DB,eS,gS];refine⟨ih.1,λhmem=> ?_⟩;rcases lB.1 hmem with rfl|hmem
    .exact absurd h1 h
    .exact ih.2 hmem
   .by_cases h2:(s++[m.to]).any (iO x.to)=true
    .simp only[yW]at h1;simp only[h1,h2,DB,eS,gS,Fi,gC,eN];exact⟨by omega,λ_=>by omega⟩
    .have h2':=h2;simp only[yW]at h1 h2;simp only[h1,h2,Fi,gC,eN];refine⟨by omega,λhmem=> ?_⟩;rcases lB.1 hmem with rfl|hmem
     .exact absurd (yS.2 (by simp)) h2'
     .have:=ih.2 hmem;omega
 exact(key p.aN).2 hm
theorem Fe{p:aG}{U:List aK}(hU:∀x∈uW p,x∈U):∀(n:Nat) (a:aK) (s:List aK×List aK),a∈U->Seen U s->Seen U (gJ p n a s.1 s.2)/\(∀x∈s.1,x∈(gJ p n a s.1 s.2).1)
 |0,a,s,_,hs=>by simp only[gJ];exact⟨hs,λ_ h=>h⟩
 |n+1,a,s,ha,hs=>by
  simp only[gJ];split
  .exact ⟨hs,λ_ h=>h⟩
  .rename_i hn;have hna:a∉s.1:=λh=>hn (yS.2 h)
   have key:∀(l:List aK) (q:List aK×List aK),(∀x∈l,x∈U)->Seen U q->(a∈q.1/\a∉q.2)->Seen U (l.foldl (λs b=>gJ p n b s.1 s.2) q)/\(∀x∈q.1,x∈(l.foldl (λs b=>gJ p n b s.1 s.2) q).1)/\a∉(l.foldl (λs b=>gJ p n b s.1 s.2) q).2:=by
    intro l;induction l with
    |nil=>intro q _ hq ha;exact⟨hq,λ_ h=>h,ha.2⟩
    |cons b l ih=>intro q hl hq haq;obtain⟨h1,h2⟩:=Fe hU n b q (hl b (by simp)) hq;have h3:a∉(gJ p n b q.1 q.2).2:=WU n b q haq.1 haq.2;obtain⟨h4,h5,h6⟩:=ih (gJ p n b q.1 q.2) (λx hx=>hl x (by simp[hx])) h1 ⟨h2 a haq.1,h3⟩;exact⟨h4,λx hx=>h5 x (h2 x hx),h6⟩
   have hs1:Seen U (s.1++[a],s.2):=⟨gO.2 ⟨hs.nd,by simp,λx hx y hy e=>hna (by simp at hy;subst hy;subst e;exact hx)⟩,λx hx=>by
    rcases fL.1 hx with h|h
    .exact hs.sub x h
    .simp at h;subst h;exact ha,hs.ond,λx hx=>nB _ (hs.jk x hx)⟩
   obtain⟨h1,h2,h3⟩:=key (iK p a) (s.1++[a],s.2) (λx hx=>hU x (Kl p a x hx)) hs1 ⟨by simp,λh=>hna (hs.jk a h)⟩;refine⟨⟨h1.nd,h1.sub,?_,?_⟩,λx hx=>h2 x (nB _ hx)⟩
   .exact gO.2 ⟨h1.ond,by simp,λx hx y hy e=>h3 (by simp at hy;subst hy;subst e;exact hx)⟩
   .intro x hx;rcases fL.1 hx with h|h
    .exact h1.jk x h
    .simp at h;subst h;exact h2 x (by simp)
where
 WU {p:aG} {a:aK}:∀(n:Nat) (b:aK) (q:List aK×List aK),a∈q.1->a∉q.2->a∉(gJ p n b q.1 q.2).2
  |0,b,q,h1,h2=>by simpa only[gJ]using h2
  |n+1,b,q,h1,h2=>by
   simp only[gJ];split
   .exact h2
   .rename_i hn;have hne:a≠b:=λe=>hn (yS.2 (e▸h1))
    have key:∀(l:List aK) (q:List aK×List aK),a∈q.1->a∉q.2->a∉(l.foldl (λs b=>gJ p n b s.1 s.2) q).2:=by
     intro l;induction l with
     |nil=>intro q _ h;exact h
     |cons c l ih=>intro q h1 h2;exact ih _ (jl n c q h1) (WU n c q h1 h2)
    intro hm;rcases fL.1 hm with h|h
    .exact key (iK p b) (q.1++[b],q.2) (nB _ h1) h2 h
    .simp at h;exact hne h
 jl {p:aG} {a:aK}:∀(n:Nat) (b:aK) (q:List aK×List aK),a∈q.1->a∈(gJ p n b q.1 q.2).1
  |0,b,q,h1=>by simpa only[gJ]using h1
  |n+1,b,q,h1=>by
   simp only[gJ];split
   .exact h1
   .have key:∀(l:List aK) (q:List aK×List aK),a∈q.1->a∈(l.foldl (λs b=>gJ p n b s.1 s.2) q).1:=by
     intro l;induction l with
     |nil=>intro q h;exact h
     |cons c l ih=>intro q h1;exact ih _ (jl n c q h1)
    exact key (iK p b) (q.1++[b],q.2) (nB _ h1)
theorem Em{α:Type}(f:α->Nat):∀(l U:List α),l.Nodup->(∀x∈l,x∈U)->bA f l<=bA f U/\l.length<=U.length
 |[],U,_,_=>by simp[bA]
 |x::l,U,hn,hs=>by
  simp only[lR]at hn;obtain⟨U1,U2,rfl⟩:=append_of_mem (hs x (by simp));have ih:=Em f l (U1++U2) hn.2 (λy hy=>by
   have:=hs y (by simp[hy]);simp only[fL,lB]at this⊢;rcases this with h|h|h
   .exact .inl h
   .subst h;exact absurd hy hn.1
   .exact .inr h)
  have e:∀(A B:List α),bA f (A++B)=bA f A+bA f B:=by
   intro A B;induction A with
   |nil=>simp[bA]
   |cons a A ih=>simp only[eA,bA,ih];omega
  simp only[e,bA,eR,eN]at ih⊢;omega
end Go.Proofs.YtfbefblglejcaaaGreatDoor
