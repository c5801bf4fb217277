/- Proved here: steps towards the statement of this claim. No condition. -/
import Derived.Test.YtjkdolejalpflaaGreatDoorZQMK6
import Derived.Test.YtjkdolejalpflaaGreatDoorZQY3
set_option linter.all false
set_option maxRecDepth 8000
set_option maxHeartbeats 8000000
namespace Go.Proofs.YtjkdolejalpflaaGreatDoor
open Go.Aw Proofs.Tryz List IntKind
theorem Yk(s:aX)(k:Nat)(h:k<s.length):(aR s)[k]? =some [.int .u8 s[k].toNat]:=by simp[aR,h]
theorem FQ:∀s:aX,bytesOf (aR s)=some s
 |[]=>rfl
 |c::s=>by have ih:=FQ s;simp only[aR,mS]at ih⊢;simp only[bytesOf,ih,lR,rK];simp
@[simp] theorem aCq(f:Tg->Option Tg)(b:Bool)(l:aX):iL f b (aR l)=aR l:=by
 induction l with
 |nil=>rfl
 |cons x l ih=>simp only[aR,mS,iL,pM,rt]at ih⊢;rw[ih]
def zX(s:aX)(k:Nat):aX:=(s.take k).map oH++s.drop k
theorem Tk(s:aX)(k:Nat):(zX s k).length=s.length:=by unfold zX;rw[eJ,As,pN,tG];omega
theorem Tm(s:aX)(k:Nat)(h:k<s.length):(zX s k)[k]? =some s[k]:=by unfold zX;rw[hU (by rw[As,pN];omega)];simp[show min k s.length=k by omega,aE h]
theorem Tn(s:aX)(k:Nat)(h:k<s.length):(zX s k).set k (oH s[k])=zX s (k+1):=by
 unfold zX;have hl:((s.take k).map oH).length=k:=by simp;omega
 rw[tM _ _ (by omega),hl,Bk,mB h,cG,eN h,oT];simp
theorem Yl(s:aX)(k:Nat)(h:k<s.length)(hm:oH s[k]=s[k]):zX s (k+1)=zX s k:=by
 rw[<-Tn s k h,hm];have e:=Tm s k h;refine CM λi=> ?_
 rw[getElem?_set];split
 .rename_i hi;subst hi;rw[eA (by rw[Tk];exact h)];exact e.symm
 .rfl
theorem Tp(l:aX)(k:Nat)(c:UInt8):(aR l).set k [.int .u8 c.toNat]=aR (l.set k c):=by simp[aR,map_set]
theorem mY[aB prog](s:aX)(hl:s.length<=1099511627776):Ok prog 113 [.str s] (.str (s.map oH)):=by
 refine dA aJ func113 ntmps113 ?_;have W:=trivial;repeat' first|refine wf ?_|(refine nx ?_;refine sb ?_)|(refine sq ?_ ?_<;>intro hc<;>try exact hc.elim)|fail
 refine aY (ι:={k:Nat // k<=s.length}) (λt o i=>⟨bN t [(4,.int .i64 i.1)],[⟨true,false,1,1,aR (zX s i.1)⟩]⟩)
  (λi=>s.length-i.1) ⟨0,by simp⟩ (aC (by simp[zX]) (by simp)) ?_
 rintro⟨k,hk⟩ K1 hK1;simp only[bN,cH,cG]at hK1⊢;have hk1:=vJ (k:=k);by_cases hlt:k<s.length
 .have hul:=Tk s k;have hug:=Tm s k hlt;have hbl:=lU (zX s k);have hg:(aR (zX s k))[k]? =some [.int .u8 s[k].toNat]:=by rw[Yk _ _ (by omega)];rw[aE (by omega)]at hug;rw[cD hug]
  have hlb:k<(aR (zX s k)).length:=by omega
  have hs1:=Tn s k hlt;have iN:=Yl s k hlt;by_cases h1:s[k]=91
  .have h1i:((s[k].toNat:Nat):Int)=91:=by rw[h1];rfl
   have hset:(aR (zX s k)).set k [.int .u8 60]=aR (zX s (k+1)):=by rw[<-hs1,<-Tp];simp[oH,h1]
   have W:=aA hk1 (aA hg (aA hbl (aA hul (aA h1i hset))));have V:=aA hlb hlt;repeat' first|refine wf ?_|(refine nx ?_;refine sb ?_)|(refine sq ?_ ?_<;>intro hc<;>try exact hc.elim)|fail
   all_goals exact hK1 _ ⟨k+1,by omega⟩ aC (by simp only;omega)
  .have h1i:¬((s[k].toNat:Nat):Int)=91:=λh=>h1 (BT (by exact_mod_cast h))
   by_cases h2:s[k]=93
   .have h2i:((s[k].toNat:Nat):Int)=93:=by rw[h2];rfl
    have hset:(aR (zX s k)).set k [.int .u8 62]=aR (zX s (k+1)):=by rw[<-hs1,<-Tp];simp[oH,h2]
    have W:=aA hk1 (aA hg (aA hbl (aA hul (aA h1i (aA h2i hset)))));have V:=aA hlb hlt;repeat' first|refine wf ?_|(refine nx ?_;refine sb ?_)|(refine sq ?_ ?_<;>intro hc<;>try exact hc.elim)|fail
    all_goals exact hK1 _ ⟨k+1,by omega⟩ aC (by simp only;omega)
   .have h2i:¬((s[k].toNat:Nat):Int)=93:=λh=>h2 (BT (by exact_mod_cast h))
    have hsm:=iN (by simp[oH,h1,h2]);have W:=aA hk1 (aA hg (aA hbl (aA hul (aA h1i h2i))));have V:=aA hlb hlt;repeat' first|refine wf ?_|(refine nx ?_;refine sb ?_)|(refine sq ?_ ?_<;>intro hc<;>try exact hc.elim)|fail
    all_goals exact hK1 _ ⟨k+1,by omega⟩ (aC (by simp[hsm]) (by simp)) (by simp only;omega)
 .have hk2:k=s.length:=by omega
  have hup:zX s k=s.map oH:=by simp[zX,hk2]
  have hul:(s.map oH).length=s.length:=by simp
  have hbl:=lU (s.map oH);have hbo:=FQ (s.map oH);rw[hup];have Z8:¬k<s.length:=hlt;have W:=aA hk1 (aA hbl (aA hul hbo));repeat' first|refine wf ?_|(refine nx ?_;refine sb ?_)|(refine sq ?_ ?_<;>intro hc<;>try exact hc.elim)|fail
  exact aO results113
def aN(b:aV)(n:aX):Int:=(((b.nodes.filter λx=>decide (x.name=n)).length:Nat):Int)
theorem LD(b:aV)(n:aX)(k:Nat)(h:k<b.nodes.length):((b.nodes.take (k+1)).filter λx=>decide (x.name=n)).length=((b.nodes.take k).filter λx=>decide (x.name=n)).length+(if b.nodes[k].name=n then 1 else 0):=by rw[eN h,filter_append,eJ];congr 1;by_cases hn:b.nodes[k].name=n<;>simp[hn]
theorem TE{w:aX}(h:(dP 61 w).length=2):gD 61 w<w.length/\dP 61 w=[oP w,rQ w]:=by
 rw[qK]at h⊢;by_cases hi:gD 61 w<w.length
 .rw [eA hi]at h⊢;refine⟨hi,?_⟩;rw[qK]at h⊢;by_cases h2:gD 61 (w.drop (gD 61 w+1))<(w.drop (gD 61 w+1)).length
  .rw [eA h2]at h;have:=tF 61 ((w.drop (gD 61 w+1)).drop (gD 61 (w.drop (gD 61 w+1))+1));have hl:=zE.2 this;simp only[eE]at h;omega
  .rw [cU h2];have hle:=uL 61 (w.drop (gD 61 w+1));rw[eL (l:=w.drop (gD 61 w+1)) (by omega)];rfl
 .rw [cU hi]at h;simp at h
theorem TF{w:aX}(h:gD 61 w<w.length)(hv:isValue (rQ w)=true):(dP 61 w).length=2:=by
 have hno:∀x∈rQ w,x≠61:=by intro x hx;simp only[isValue,eC]at hv;have:=gR.1 hv.1 x hx;rintro rfl;simp[tC]at this
 rw[qK,eA h];have:=BV 61 (rQ w) hno;unfold rQ at this;rw[this];rfl
theorem Qw[aB prog][eZ prog](s:aX)(hl:s.length<=1099511627776):Ok prog 119 [.str s] (.fH [.agg (bE .own (nN s).1),.bool (nN s).2]):=by
 by_cases kz:(60:Int)<(s.length:Int)
 .have hr:nN s=(fB,false):=by unfold nN;rw[eA (by omega)]
  rw[hr];refine LK aJ func119 ntmps119 ?_;have W:=kz;refine we ?_;all_goals (try first|(refine aP (.inl ?_);simp[aT,results119,fB];done)|(refine aP (.inr (gB ?_));simp[AS.zI,AS.wI,AS.rv,results119,fB]))
 cases hp:Qn [47] s;case true=>
  have c1:=dX (s.drop 1) (by simp;omega);have hlen:=kr hp;simp only[eE,eR,gE]at hlen;cases s with
  |nil=>simp at hlen
  |cons x s1=>
   obtain rfl:x=47:=by simpa [Qn]using hp
   have h61:¬(60:Int)<(s1.length:Int)+1:=by simp only[eE]at kz;omega
   simp only[AW,drop_zero]at c1;cases hn:bP s1
   .have hr:nN (47::s1)=(fB,false):=by unfold nN;rw[cU (by omega),eA hp];simp[hn]
    rw[hr];rw[hn]at c1;clear hp;refine LK aJ func119 ntmps119 ?_;have W:=h61;refine we ?_;all_goals (try first|(refine aP (.inl ?_);simp[aT,results119,fB];done)|(refine aP (.inr (gB ?_));simp[AS.zI,AS.wI,AS.rv,results119,fB]))
   .have hr:nN (47::s1)=(⟨2,s1,[],[]⟩,true):=by unfold nN;rw[cU (by omega),eA hp];simp[hn]
    rw[hr];rw[hn]at c1;clear hp;refine LK aJ func119 ntmps119 ?_;have W:=h61;refine we ?_;all_goals (try exact Tz results119)
 case false=>
  have hr:nN s=Bz (s.take (gD 32 s)) (if gD 32 s<s.length then dP 32 (s.drop (gD 32 s+1))else []):=by unfold nN;rw[cU (by omega),cU (by rw[hp];simp)]
  have c2:Ok prog 73 [.str s,.int .u8 32] (.sl .own 1 ((dP 32 s).map dR)):=sG s 32 (by omega);have hsl:=iI 32 s;have hcn:s.count 32<=s.length:=pC;have hsm:=wS 32 s;rw[hr];have c1:=dX (s.take (gD 32 s)) (by simp;omega);have hLc:=qK 32 s;generalize (if gD 32 s<s.length then dP 32 (s.drop (gD 32 s+1))else [])=ws at*;generalize s.take (gD 32 s)=w0 at*;generalize dP 32 s=L at*;have hL0:L[0]? =some w0:=by rw[hLc];rfl
  have hLd:L.drop 1=ws:=by rw[hLc];rfl
  have hLl:L.length=ws.length+1:=by rw[hLc];rfl
  have FR:=λh=>LP (w0:=w0) (ws:=ws) h
  have FT:=λl=>LQ (w0:=w0) (ws:=ws) (l:=l)
  have hno:=LM (w0:=w0) (ws:=ws);generalize Bz w0 ws=res at*;clear hr hLc;have aBl:s=[]\/∃x r,s=x::r/\¬((x.toNat:Int)=47):=by
   cases s with
   |nil=>exact .inl rfl
   |cons x r=>refine .inr ⟨x,r,rfl,λh=> ?_⟩;have:x=47:=AG.1 (by simp;omega);subst this;simp[Qn]at hp
  clear hp;rcases aBl with rfl|⟨x,r,rfl,hx⟩
  .refine LK aJ func119 ntmps119 ?_;have W:=aA kz hL0;refine we ?_;refine aY (ι:={q:Nat×Nat×List lD // (q.1<=L.length/\1<=q.2.1)/\q.2.2.length+1=q.1/\fD ws []=fD (L.drop q.1) q.2.2}) (λt o i=>⟨bN t [(6,.int .i64 i.1.1),(35,.undef)],[⟨true,true,4,0,[[.int .i64 0,.str [],.sl .own 2 [],.str []]]⟩,⟨true,false,1,1,L.map dR⟩,⟨true,true,4,0,[[.int .i64 1,.str w0,.obj 3 i.1.2.1,.str []]]⟩,⟨true,false,2,i.1.2.1,i.1.2.2.map oG⟩]⟩)
    (λi=>L.length-i.1.1) ⟨(1,1,[]),by simp only;omega,by simp,by rw[hLd]⟩ (qI 2 0 2 (ob:=⟨true,true,4,0,[[.int .i64 1,.str w0,.sl .own 2 [],.str []]]⟩) (by rfl) (by rfl) (by rfl) (by simp) (by rfl) (by rfl) (by simp) (by simp[pM,rt,iV])) ?_
   rintro⟨⟨k,v,acc⟩,⟨hk,hv⟩,tL,sO⟩ K1 hK1;simp only at hk hv tL sO;simp only[bN,cH,cG]at hK1⊢;have hk1:=vJ (k:=k);by_cases hlt:k<L.length
   .have hg:=aE hlt;have Yp:=gM dG L k hlt;rw[mB hlt]at sO;simp only[dG]at Yp;have cS:Ok prog 73 [.str L[k],.int .u8 61] (.sl .own 1 ((dP 61 L[k]).map dR)):=sG L[k] 61 (by omega);have cN:=dX (oP L[k]) (by simp[oP];omega);have cV:=tJ (rQ L[k]) (by simp[rQ];omega);have cF:=iU acc (oP L[k]) (by omega);have lK:(decide (gD 61 L[k]<L[k].length)&&bP (oP L[k])&&isValue (rQ L[k])&& !(aI acc (oP L[k])).2)=false->res=(fB,false):=λh=>FR (by rw[sO];simp only[fD];rw[h];rfl)
    have hnext:(decide (gD 61 L[k]<L[k].length)&&bP (oP L[k])&&isValue (rQ L[k])&& !(aI acc (oP L[k])).2)=true->fD ws []=fD (L.drop (k+1)) (acc++[⟨oP L[k],rQ L[k]⟩]):=λh=>by rw[sO];simp only[fD];rw[eA h]
    have VF:=TE (w:=L[k]);have hback:=TF (w:=L[k]);have X0:=iI 61 L[k];have hsc:L[k].count 61<=L[k].length:=pC;clear sO FR FT hno;by_cases h2:(dP 61 L[k]).length=2
    .obtain ⟨hi,hsg⟩:=VF h2;rw[hsg]at cS;simp only[mS,map_nil,dR]at cS;rw[pP hi]at lK hnext;clear VF hback h2 hsg X0 hsc hi;generalize bP (oP L[k])=b2 at*;generalize isValue (rQ L[k])=b3 at*;generalize aI acc (oP L[k])=fa at*;obtain⟨fv,b4⟩:=fa;generalize oP L[k]=ky at*;generalize rQ L[k]=vl at*;simp only at cF lK hnext;cases b2
     .rw [lK (by simp)];clear lK hnext hK1;have W:=aA hk1 (aA hg hlt);refine we ?_;all_goals (try first|(refine aP (.inl ?_);simp[aT,results119,fB];done)|(refine aP (.inr (gB ?_));simp[AS.zI,AS.wI,AS.rv,results119,fB]))
     cases b3
     .rw [lK (by simp)];clear lK hnext hK1;have W:=aA hk1 (aA hg hlt);refine we ?_;all_goals (try first|(refine aP (.inl ?_);simp[aT,results119,fB];done)|(refine aP (.inr (gB ?_));simp[AS.zI,AS.wI,AS.rv,results119,fB]))
     cases b4
     .have hn2:=hnext (by simp);clear lK hnext;have W:=aA hk1 (aA hg hlt);refine we ?_;all_goals refine hK1 _ ⟨(k+1,v+1,acc++[⟨ky,vl⟩]),⟨by simp only;omega,by simp only;omega⟩,by simp;omega,hn2⟩ (aS 4) (by simp only;omega)
     .rw [lK (by simp)];clear lK hnext hK1;have W:=aA hk1 (aA hg hlt);refine we ?_;all_goals (try first|(refine aP (.inl ?_);simp[aT,results119,fB];done)|(refine aP (.inr (gB ?_));simp[AS.zI,AS.wI,AS.rv,results119,fB]))
    .have mD:res=(fB,false):=lK (by
      cases hi:decide (gD 61 L[k]<L[k].length)
      .simp
      .cases UC:isValue (rQ L[k])
       .simp
       .exact absurd (hback (of_decide_eq_true hi) UC) h2)
     rw[mD];have h2':¬(((dP 61 L[k]).length:Int)=2):=by omega
     clear lK hnext hK1 VF hback mD h2;generalize dP 61 L[k]=sg at*;have W:=aA hk1 (aA hg (aA hlt h2'));refine we ?_;all_goals (try first|(refine aP (.inl ?_);simp[aT,results119,fB];done)|(refine aP (.inr (gB ?_));simp[AS.zI,AS.wI,AS.rv,results119,fB]))
   .have hdn:L.drop k=[]:=AK (by omega);rw[hdn]at sO;have lq:=Ba ws [] acc (by rw[sO];rfl);have hs2:=λh1 h2=>FT acc h1 h2 (by rw[sO];rfl)
    clear hK1 sO FT FR;cases hn:bP w0
    .rw [hno (by rw[hn];simp)];rw[hn]at c1;have W:=hk1;refine we ?_;all_goals (try first|(refine aP (.inl ?_);simp[aT,results119,fB];done)|(refine aP (.inr (gB ?_));simp[AS.zI,AS.wI,AS.rv,results119,fB]))
    .rw [hn]at c1;by_cases h4:(4:Int)<(acc.length:Int)
     .exfalso;simp only[eR,count_nil]at lq hsl;omega
     .rw [hs2 hn (by simp only[eR]at lq;omega)];have W:=aA hk1 h4;refine we ?_;all_goals (try exact Tz results119)
  .have h61:¬(60:Int)<(r.length:Int)+1:=by simp only[eE]at kz;omega
   refine LK aJ func119 ntmps119 ?_;have W:=aA h61 (aA hx hL0);refine we ?_;refine aY (ι:={q:Nat×Nat×List lD // (q.1<=L.length/\1<=q.2.1)/\q.2.2.length+1=q.1/\fD ws []=fD (L.drop q.1) q.2.2}) (λt o i=>⟨bN t [(6,.int .i64 i.1.1),(35,.undef)],[⟨true,true,4,0,[[.int .i64 0,.str [],.sl .own 2 [],.str []]]⟩,⟨true,false,1,1,L.map dR⟩,⟨true,true,4,0,[[.int .i64 1,.str w0,.obj 3 i.1.2.1,.str []]]⟩,⟨true,false,2,i.1.2.1,i.1.2.2.map oG⟩]⟩)
    (λi=>L.length-i.1.1) ⟨(1,1,[]),by simp only;omega,by simp,by rw[hLd]⟩ (qI 2 0 2 (ob:=⟨true,true,4,0,[[.int .i64 1,.str w0,.sl .own 2 [],.str []]]⟩) (by rfl) (by rfl) (by rfl) (by simp) (by rfl) (by rfl) (by simp) (by simp[pM,rt,iV])) ?_
   rintro⟨⟨k,v,acc⟩,⟨hk,hv⟩,tL,sO⟩ K1 hK1;simp only at hk hv tL sO;simp only[bN,cH,cG]at hK1⊢;have hk1:=vJ (k:=k);by_cases hlt:k<L.length
   .have hg:=aE hlt;have Yp:=gM dG L k hlt;rw[mB hlt]at sO;simp only[dG]at Yp;have cS:Ok prog 73 [.str L[k],.int .u8 61] (.sl .own 1 ((dP 61 L[k]).map dR)):=sG L[k] 61 (by omega);have cN:=dX (oP L[k]) (by simp[oP];omega);have cV:=tJ (rQ L[k]) (by simp[rQ];omega);have cF:=iU acc (oP L[k]) (by omega);have lK:(decide (gD 61 L[k]<L[k].length)&&bP (oP L[k])&&isValue (rQ L[k])&& !(aI acc (oP L[k])).2)=false->res=(fB,false):=λh=>FR (by rw[sO];simp only[fD];rw[h];rfl)
    have hnext:(decide (gD 61 L[k]<L[k].length)&&bP (oP L[k])&&isValue (rQ L[k])&& !(aI acc (oP L[k])).2)=true->fD ws []=fD (L.drop (k+1)) (acc++[⟨oP L[k],rQ L[k]⟩]):=λh=>by rw[sO];simp only[fD];rw[eA h]
    have VF:=TE (w:=L[k]);have hback:=TF (w:=L[k]);have X0:=iI 61 L[k];have hsc:L[k].count 61<=L[k].length:=pC;clear sO FR FT hno;by_cases h2:(dP 61 L[k]).length=2
    .obtain ⟨hi,hsg⟩:=VF h2;rw[hsg]at cS;simp only[mS,map_nil,dR]at cS;rw[pP hi]at lK hnext;clear VF hback h2 hsg X0 hsc hi;generalize bP (oP L[k])=b2 at*;generalize isValue (rQ L[k])=b3 at*;generalize aI acc (oP L[k])=fa at*;obtain⟨fv,b4⟩:=fa;generalize oP L[k]=ky at*;generalize rQ L[k]=vl at*;simp only at cF lK hnext;cases b2
     .rw [lK (by simp)];clear lK hnext hK1;have W:=aA hk1 (aA hg hlt);refine we ?_;all_goals (try first|(refine aP (.inl ?_);simp[aT,results119,fB];done)|(refine aP (.inr (gB ?_));simp[AS.zI,AS.wI,AS.rv,results119,fB]))
     cases b3
     .rw [lK (by simp)];clear lK hnext hK1;have W:=aA hk1 (aA hg hlt);refine we ?_;all_goals (try first|(refine aP (.inl ?_);simp[aT,results119,fB];done)|(refine aP (.inr (gB ?_));simp[AS.zI,AS.wI,AS.rv,results119,fB]))
     cases b4
     .have hn2:=hnext (by simp);clear lK hnext;have W:=aA hk1 (aA hg hlt);refine we ?_;all_goals refine hK1 _ ⟨(k+1,v+1,acc++[⟨ky,vl⟩]),⟨by simp only;omega,by simp only;omega⟩,by simp;omega,hn2⟩ (aS 4) (by simp only;omega)
     .rw [lK (by simp)];clear lK hnext hK1;have W:=aA hk1 (aA hg hlt);refine we ?_;all_goals (try first|(refine aP (.inl ?_);simp[aT,results119,fB];done)|(refine aP (.inr (gB ?_));simp[AS.zI,AS.wI,AS.rv,results119,fB]))
    .have mD:res=(fB,false):=lK (by
      cases hi:decide (gD 61 L[k]<L[k].length)
      .simp
      .cases UC:isValue (rQ L[k])
       .simp
       .exact absurd (hback (of_decide_eq_true hi) UC) h2)
     rw[mD];have h2':¬(((dP 61 L[k]).length:Int)=2):=by omega
     clear lK hnext hK1 VF hback mD h2;generalize dP 61 L[k]=sg at*;have W:=aA hk1 (aA hg (aA hlt h2'));refine we ?_;all_goals (try first|(refine aP (.inl ?_);simp[aT,results119,fB];done)|(refine aP (.inr (gB ?_));simp[AS.zI,AS.wI,AS.rv,results119,fB]))
   .have hdn:L.drop k=[]:=AK (by omega);rw[hdn]at sO;have lq:=Ba ws [] acc (by rw[sO];rfl);have hs2:=λh1 h2=>FT acc h1 h2 (by rw[sO];rfl)
    clear hK1 sO FT FR;cases hn:bP w0
    .rw [hno (by rw[hn];simp)];rw[hn]at c1;have W:=hk1;refine we ?_;all_goals (try first|(refine aP (.inl ?_);simp[aT,results119,fB];done)|(refine aP (.inr (gB ?_));simp[AS.zI,AS.wI,AS.rv,results119,fB]))
    .rw [hn]at c1;by_cases h4:(4:Int)<(acc.length:Int)
     .rw [hno (by simp only[eR]at lq;omega)];have W:=aA hk1 h4;refine we ?_;all_goals (try first|(refine aP (.inl ?_);simp[aT,results119,fB];done)|(refine aP (.inr (gB ?_));simp[AS.zI,AS.wI,AS.rv,results119,fB]))
     .rw [hs2 hn (by simp only[eR]at lq;omega)];have W:=aA hk1 h4;refine we ?_;all_goals (try exact Tz results119)
theorem Yt(s b:aX):eB (addrOf s b)<=s.length+b.length:=by have:=uL 47 s;unfold addrOf;split<;>simp[eB]<;>omega
theorem Ga(s b:aX):eB (bQ s b).1<=s.length+b.length:=by
 have:=Yt s b;unfold bQ;split
 .exact this
 .simp [eB,uM]
def nz(b:aX)(t:bD):Option fK:=if (Pg t b).2=true then some (Pg t b).1 else none
def VG(l:List bD)(b:aX):List fK:=l.filterMap (nz b)
@[simp] theorem oh(b:aX):VG [] b=[]:=rfl
theorem BD(p:dS)(r:fK):fA p r=1\/fA p r=2:=by unfold fA;split<;>simp
def eQ(p:aW)(mode:Int)(tu digest:aX)(node:Int):aW×Int:=
 if 20<=p.aG.length\/dF mode=0 then(p, -1)
 else if (bQ tu p.addr.host).2=false\/fA p.bC ⟨dF mode,(bQ tu p.addr.host).1,p.addr.host,digest⟩≠1 then
  ({p with aG:=p.aG++[(⟨mode,(bQ tu p.addr.host).1,digest,node,true,2,[]⟩:mG)]},((p.aG.length:Nat):Int))
 else({p with aG:=p.aG++[(⟨mode,(bQ tu p.addr.host).1,digest,node,false,0,[]⟩:mG)]},((p.aG.length:Nat):Int))
theorem wL{p:aW}{mode:Int}{tu digest:aX}{node:Int}(h:20<=p.aG.length\/dF mode=0):eQ p mode tu digest node=(p, -1):=by unfold eQ;rw[eA h]
theorem Jf{p:aW}{mode:Int}{tu digest:aX}{node:Int}(h:¬(20<=p.aG.length\/dF mode=0))(h2:(bQ tu p.addr.host).2=false\/fA p.bC ⟨dF mode,(bQ tu p.addr.host).1,p.addr.host,digest⟩≠1):
  eQ p mode tu digest node=({p with aG:=p.aG++[(⟨mode,(bQ tu p.addr.host).1,digest,node,true,2,[]⟩:mG)]},((p.aG.length:Nat):Int)):=by unfold eQ;rw[cU h,eA h2]
theorem Gc{p:aW}{mode:Int}{tu digest:aX}{node:Int}(h:¬(20<=p.aG.length\/dF mode=0))(h1:(bQ tu p.addr.host).2=true)(h2:fA p.bC ⟨dF mode,(bQ tu p.addr.host).1,p.addr.host,digest⟩=1):
  eQ p mode tu digest node=({p with aG:=p.aG++[(⟨mode,(bQ tu p.addr.host).1,digest,node,false,0,[]⟩:mG)]},((p.aG.length:Nat):Int)):=by
 unfold eQ;rw[cU h,cU (by rintro(h3|h3);rw[h1]at h3;cases h3;exact h3 h2)]
theorem tX[aB prog](p:aW)(mode:Int)(tu digest:aX)(node:Int)(hs:aK p<=274877906944)(hto:tu.length<=274877906944)(hd:digest.length<=274877906944):Ok prog 84 [.agg (aL .view p),.int .i64 mode,.str tu,.str digest,.int .i64 node] (.fH [.agg (aL .own (eQ p mode tu digest node).1),.int .i64 (eQ p mode tu digest node).2]):=by
 have c1:=gZ p hs;simp only[aL]at c1;have hsl:p.addr.host.length<=274877906944:=by simp only[aK,eB]at hs;omega
 have TL:dD p.bC<=1099511627776:=by simp only[aK]at hs;omega
 have X0:p.aG.length<=274877906944:=by simp only[aK,dL]at hs;omega
 have c2:=tV mode;have c3:=zY tu p.addr.host (by omega);by_cases TM:(20:Int)<=(p.aG.length:Int)
 .rw [wL (.inl (by omega))];refine dA aJ func84 ntmps84 ?_;have W:=TM;refine we ?_;exact aO results84
 by_cases hk:dF mode=0
 .rw [wL (.inr hk)];rw[hk]at c2;refine dA aJ func84 ntmps84 ?_;have W:=TM;refine we ?_;exact aO results84
 have hno:¬(20<=p.aG.length\/dF mode=0):=by rintro(h|h);omega;exact hk h
 have hsz:=Ga tu p.addr.host;have lK:=Jf (tu:=tu) (digest:=digest) (node:=node) hno;have pF:=Gc (tu:=tu) (digest:=digest) (node:=node) hno;have c5:=rC p.bC ⟨dF mode,(bQ tu p.addr.host).1,p.addr.host,digest⟩ TL (by simp only[lF];omega);have I9:=BD p.bC ⟨dF mode,(bQ tu p.addr.host).1,p.addr.host,digest⟩;have c4:=λl' xY hl2=>xJ {p with aG:=l'} (p.aG.length:Int) (by omega) xY hl2
 have hr:∀s,qA {p with aG:=p.aG++[s]} (p.aG.length:Int)=⟨dF s.mode,s.to,p.addr.host,s.digest⟩:=λs=>by simp[qA,gU]
 generalize hkm:dF mode=km at*;generalize bQ tu p.addr.host=pa at*;obtain⟨a,ok⟩:=pa;simp only at c3 c5 I9 hsz lK pF;obtain⟨s0,hs0⟩:∃s:mG,s=⟨mode,a,digest,node,false,0,[]⟩:=⟨_,rfl⟩;obtain⟨l0,hl0⟩:∃l,l=p.aG++[s0]:=⟨_,rfl⟩;obtain⟨l3,hl3⟩:∃l:List mG,l=p.aG++[⟨mode,a,digest,node,true,2,[]⟩]:=⟨_,rfl⟩;have hap:p.aG.map pG++[[.int .i64 mode,.str a.host,.str a.path,.str digest,.int .i64 node,.bool false,.int .i64 0,.str []]]=l0.map pG:=by rw[hl0,hs0];simp
 have hg:l0[p.aG.length]? =some s0:=by rw[hl0];simp
 have VQ:l0.length=p.aG.length+1:=by rw[hl0];simp
 have hset:∀h,(l0.map pG).set p.aG.length [.int .i64 (l0[p.aG.length]'h).mode,.str (l0[p.aG.length]'h).to.host,.str (l0[p.aG.length]'h).to.path,.str (l0[p.aG.length]'h).digest,.int .i64 (l0[p.aG.length]'h).node,.bool true,.int .i64 2,.str (l0[p.aG.length]'h).body]=l3.map pG:=by
  intro h;have e:l0[p.aG.length]'h=s0:=by rw[aE h]at hg;exact cD hg
  rw[e,hl0,hl3,hs0,oT,oT,tM _ _ (by simp)];simp
 have c4:=c4 l0 (by rw[VQ];omega) (by rw[VQ];omega);rw[show qA {p with aG:=l0} (p.aG.length:Int)=⟨km,a,p.addr.host,digest⟩by rw[hl0,hr,hs0];simp[hkm]]at c4;simp only[aL,fV]at c4;simp only[bG,fV]at c5;rw[<-hl3]at lK;rw[<-hs0,<-hl0]at pF;have Nr:p.aG.length<l0.length:=by omega
 clear hs0 hl0 hl3 hr hkm hno;cases ok
 .rw [lK (.inl rfl)];clear lK pF I9;refine dA aJ func84 ntmps84 ?_;have W:=aA TM (aA hk (aA hg (aA hap Nr)));refine we ?_;all_goals try(refine aP ?_;simp[aT,results84])
  all_goals exact hset _
 .rcases I9 with h|h
  .rw [pF rfl h];rw[h]at c5;clear lK pF h;refine dA aJ func84 ntmps84 ?_;have W:=aA TM (aA hk (aA hg (aA hap Nr)));refine we ?_;all_goals try(refine aP ?_;simp[aT,results84])
   all_goals exact hset _
  .rw [lK (.inr (by rw[h];decide))];rw[h]at c5;clear lK pF h;refine dA aJ func84 ntmps84 ?_;have W:=aA TM (aA hk (aA hg (aA hap Nr)));refine we ?_;all_goals try(refine aP ?_;simp[aT,results84])
   all_goals exact hset _
theorem tY[aB prog](p:aW)(mode:Int)(tu digest:aX)(node:Int)(hs:aK p<=274877906944)(hto:tu.length<=274877906944)(hd:digest.length<=274877906944):Ok prog 60 [.agg (aL .view p),.int .i64 mode,.str tu,.str digest,.int .i64 node] (.fH [.agg (aL .own (eQ p mode tu digest node).1),.int .i64 (eQ p mode tu digest node).2]):=by
 have c1:=kV p hs;simp only[aL]at c1;have hsl:p.addr.host.length<=274877906944:=by simp only[aK,eB]at hs;omega
 have TL:dD p.bC<=1099511627776:=by simp only[aK]at hs;omega
 have X0:p.aG.length<=274877906944:=by simp only[aK,dL]at hs;omega
 have c2:=yO mode;have c3:=zZ tu p.addr.host (by omega);by_cases TM:(20:Int)<=(p.aG.length:Int)
 .rw [wL (.inl (by omega))];refine dA aJ func60 ntmps60 ?_;have W:=TM;refine we ?_;exact aO results60
 by_cases hk:dF mode=0
 .rw [wL (.inr hk)];rw[hk]at c2;refine dA aJ func60 ntmps60 ?_;have W:=TM;refine we ?_;exact aO results60
 have hno:¬(20<=p.aG.length\/dF mode=0):=by rintro(h|h);omega;exact hk h
 have hsz:=Ga tu p.addr.host;have lK:=Jf (tu:=tu) (digest:=digest) (node:=node) hno;have pF:=Gc (tu:=tu) (digest:=digest) (node:=node) hno;have c5:=wD p.bC ⟨dF mode,(bQ tu p.addr.host).1,p.addr.host,digest⟩ TL (by simp only[lF];omega);have I9:=BD p.bC ⟨dF mode,(bQ tu p.addr.host).1,p.addr.host,digest⟩;have c4:=λl' xY hl2=>EO {p with aG:=l'} (p.aG.length:Int) (by omega) xY hl2
 have hr:∀s,qA {p with aG:=p.aG++[s]} (p.aG.length:Int)=⟨dF s.mode,s.to,p.addr.host,s.digest⟩:=λs=>by simp[qA,gU]
 generalize hkm:dF mode=km at*;generalize bQ tu p.addr.host=pa at*;obtain⟨a,ok⟩:=pa;simp only at c3 c5 I9 hsz lK pF;obtain⟨s0,hs0⟩:∃s:mG,s=⟨mode,a,digest,node,false,0,[]⟩:=⟨_,rfl⟩;obtain⟨l0,hl0⟩:∃l,l=p.aG++[s0]:=⟨_,rfl⟩;obtain⟨l3,hl3⟩:∃l:List mG,l=p.aG++[⟨mode,a,digest,node,true,2,[]⟩]:=⟨_,rfl⟩;have hap:p.aG.map pG++[[.int .i64 mode,.str a.host,.str a.path,.str digest,.int .i64 node,.bool false,.int .i64 0,.str []]]=l0.map pG:=by rw[hl0,hs0];simp
 have hg:l0[p.aG.length]? =some s0:=by rw[hl0];simp
 have VQ:l0.length=p.aG.length+1:=by rw[hl0];simp
 have hset:∀h,(l0.map pG).set p.aG.length [.int .i64 (l0[p.aG.length]'h).mode,.str (l0[p.aG.length]'h).to.host,.str (l0[p.aG.length]'h).to.path,.str (l0[p.aG.length]'h).digest,.int .i64 (l0[p.aG.length]'h).node,.bool true,.int .i64 2,.str (l0[p.aG.length]'h).body]=l3.map pG:=by
  intro h;have e:l0[p.aG.length]'h=s0:=by rw[aE h]at hg;exact cD hg
  rw[e,hl0,hl3,hs0,oT,oT,tM _ _ (by simp)];simp
 have c4:=c4 l0 (by rw[VQ];omega) (by rw[VQ];omega);rw[show qA {p with aG:=l0} (p.aG.length:Int)=⟨km,a,p.addr.host,digest⟩by rw[hl0,hr,hs0];simp[hkm]]at c4;simp only[aL,fV]at c4;simp only[bG,fV]at c5;rw[<-hl3]at lK;rw[<-hs0,<-hl0]at pF;have Nr:p.aG.length<l0.length:=by omega
 clear hs0 hl0 hl3 hr hkm hno;cases ok
 .rw [lK (.inl rfl)];clear lK pF I9;refine dA aJ func60 ntmps60 ?_;have W:=aA TM (aA hk (aA hg (aA hap Nr)));refine we ?_;all_goals try(refine aP ?_;simp[aT,results60])
  all_goals exact hset _
 .rcases I9 with h|h
  .rw [pF rfl h];rw[h]at c5;clear lK pF h;refine dA aJ func60 ntmps60 ?_;have W:=aA TM (aA hk (aA hg (aA hap Nr)));refine we ?_;all_goals try(refine aP ?_;simp[aT,results60])
   all_goals exact hset _
  .rw [lK (.inr (by rw[h];decide))];rw[h]at c5;clear lK pF h;refine dA aJ func60 ntmps60 ?_;have W:=aA TM (aA hk (aA hg (aA hap Nr)));refine we ?_;all_goals try(refine aP ?_;simp[aT,results60])
   all_goals exact hset _
theorem M4(a b:mG):N8 prog 46 (pG a) (pG b) (decide (a=b)):=
 Mj (f:=6) (ss:=[.int .i64,.str,.str,.str,.int .i64,.bool,.int .i64,.str]) (by decide) (by kernel_rfl) (by kernel_rfl) (by kernel_rfl) (by kernel_rfl) (by simp[nW,Be]) (by simp[nW,Be]) (by obtain⟨m,⟨t1,t2⟩,d,n,o,c,bo⟩:=a;obtain⟨m2,⟨u1,u2⟩,d2,n2,o2,c2,bo2⟩:=b;simp[Ds])
theorem YQ(a b:gW):N8 prog 64 (dN a) (dN b) (decide (a=b)):=
 Mj (f:=6) (ss:=[.str,.str,.bool,.int .i64,.str]) (by decide) (by kernel_rfl) (by kernel_rfl) (by kernel_rfl) (by kernel_rfl) (by simp[nW,Be]) (by simp[nW,Be]) (by obtain⟨⟨t1,t2⟩,o,c,bo⟩:=a;obtain⟨⟨u1,u2⟩,o2,c2,bo2⟩:=b;simp[Ds])
theorem QN[aB prog](a b:List mG)(hl:a.length<=1099511627776):Ok prog 27 [.sl .view 8 (a.map pG),.sl .view 8 (b.map pG)] (.bool (decide (a=b))):=by
 refine dA aJ func27 ntmps27 ?_;have W:=trivial;repeat' first|refine st ?_|(refine nx ?_;refine so ?_)|(refine cx ?_;refine sc (λhc=>?_) (λhc=>?_)<;>try exact hc.elim)|(refine lx ?_;refine sp (λhc=>?_) (λhc=>?_)<;>try exact hc.elim)|refine sx ?_ ?_|refine sy ?_ ?_|fail
 .all_goals try(refine aP ?_;simp[aT,results27])
  exact CG (by omega)
 .have hlen:=hc;refine aY (ι:={k:Nat // k<=a.length/\a.take k=b.take k}) (λt o i=>⟨bN t [(13,.int .i64 i.1),(5,.undef)],o⟩)
   (λi=>a.length-i.1) ⟨0,by simp,by simp⟩ aC ?_
  rintro⟨k,hk,hi⟩ K1 hK1;simp only[bN,cH,cG]at hK1⊢;have hk1:=vJ (k:=k);by_cases hlt:k<a.length
  .have hg:=aE hlt;have Wx:=aE (show k<b.length by omega);have rE:k<b.length:=by omega
   have W:=aA hk1 (aA hg (aA Wx (aA hlt rE)));repeat' first|refine st ?_|(refine nx ?_;first|refine so ?_|refine sk (hc:=M4 a[k] (b[k]'(by omega))) (h:=?_))|(refine cx ?_;refine sc (λhc=>?_) (λhc=>?_)<;>try exact hc.elim)|(refine lx ?_;refine sp (λhc=>?_) (λhc=>?_)<;>try exact hc.elim)|refine sx ?_ ?_|refine sy ?_ ?_|fail
   .all_goals try(refine aP ?_;simp[aT,results27])
    exact Jl hlt rE hc
   .exact hK1 _ ⟨k+1,by omega,nH hi hlt rE hc⟩ aC (by simp only;omega)
  .have W:=hk1;repeat' first|refine st ?_|(refine nx ?_;refine so ?_)|(refine cx ?_;refine sc (λhc=>?_) (λhc=>?_)<;>try exact hc.elim)|(refine lx ?_;refine sp (λhc=>?_) (λhc=>?_)<;>try exact hc.elim)|refine sx ?_ ?_|refine sy ?_ ?_|fail
   all_goals try(refine aP ?_;simp[aT,results27])
   exact oI (by omega) hlt hi
theorem MP[aB prog](a b:List gW)(hl:a.length<=1099511627776):Ok prog 28 [.sl .view 5 (a.map dN),.sl .view 5 (b.map dN)] (.bool (decide (a=b))):=by
 refine dA aJ func28 ntmps28 ?_;have W:=trivial;repeat' first|refine st ?_|(refine nx ?_;refine so ?_)|(refine cx ?_;refine sc (λhc=>?_) (λhc=>?_)<;>try exact hc.elim)|(refine lx ?_;refine sp (λhc=>?_) (λhc=>?_)<;>try exact hc.elim)|refine sx ?_ ?_|refine sy ?_ ?_|fail
 .all_goals try(refine aP ?_;simp[aT,results28])
  exact CG (by omega)
 .have hlen:=hc;refine aY (ι:={k:Nat // k<=a.length/\a.take k=b.take k}) (λt o i=>⟨bN t [(13,.int .i64 i.1),(5,.undef)],o⟩)
   (λi=>a.length-i.1) ⟨0,by simp,by simp⟩ aC ?_
  rintro⟨k,hk,hi⟩ K1 hK1;simp only[bN,cH,cG]at hK1⊢;have hk1:=vJ (k:=k);by_cases hlt:k<a.length
  .have hg:=aE hlt;have Wx:=aE (show k<b.length by omega);have rE:k<b.length:=by omega
   have W:=aA hk1 (aA hg (aA Wx (aA hlt rE)));repeat' first|refine st ?_|(refine nx ?_;first|refine so ?_|refine sk (hc:=YQ a[k] (b[k]'(by omega))) (h:=?_))|(refine cx ?_;refine sc (λhc=>?_) (λhc=>?_)<;>try exact hc.elim)|(refine lx ?_;refine sp (λhc=>?_) (λhc=>?_)<;>try exact hc.elim)|refine sx ?_ ?_|refine sy ?_ ?_|fail
   .all_goals try(refine aP ?_;simp[aT,results28])
    exact Jl hlt rE hc
   .exact hK1 _ ⟨k+1,by omega,nH hi hlt rE hc⟩ aC (by simp only;omega)
  .have W:=hk1;repeat' first|refine st ?_|(refine nx ?_;refine so ?_)|(refine cx ?_;refine sc (λhc=>?_) (λhc=>?_)<;>try exact hc.elim)|(refine lx ?_;refine sp (λhc=>?_) (λhc=>?_)<;>try exact hc.elim)|refine sx ?_ ?_|refine sy ?_ ?_|fail
   all_goals try(refine aP ?_;simp[aT,results28])
   exact oI (by omega) hlt hi
theorem Gr[aB prog](a b:List gH)(hl:a.length<=1099511627776):Ok prog 29 [.sl .view 2 (a.map dI),.sl .view 2 (b.map dI)] (.bool (decide (a=b))):=by
 refine dA aJ func29 ntmps29 ?_;have W:=trivial;repeat' first|refine st ?_|(refine nx ?_;refine so ?_)|(refine cx ?_;refine sc (λhc=>?_) (λhc=>?_)<;>try exact hc.elim)|(refine lx ?_;refine sp (λhc=>?_) (λhc=>?_)<;>try exact hc.elim)|refine sx ?_ ?_|refine sy ?_ ?_|fail
 .all_goals try(refine aP ?_;simp[aT,results29])
  exact CG (by omega)
 .have hlen:=hc;refine aY (ι:={k:Nat // k<=a.length/\a.take k=b.take k}) (λt o i=>⟨bN t [(13,.int .i64 i.1),(5,.undef)],o⟩)
   (λi=>a.length-i.1) ⟨0,by simp,by simp⟩ aC ?_
  rintro⟨k,hk,hi⟩ K1 hK1;simp only[bN,cH,cG]at hK1⊢;have hk1:=vJ (k:=k);by_cases hlt:k<a.length
  .have hg:=aE hlt;have Wx:=aE (show k<b.length by omega);have rE:k<b.length:=by omega
   have W:=aA hk1 (aA hg (aA Wx (aA hlt rE)));repeat' first|refine st ?_|(refine nx ?_;first|refine so ?_|refine sk (hc:=Bf a[k] (b[k]'(by omega))) (h:=?_))|(refine cx ?_;refine sc (λhc=>?_) (λhc=>?_)<;>try exact hc.elim)|(refine lx ?_;refine sp (λhc=>?_) (λhc=>?_)<;>try exact hc.elim)|refine sx ?_ ?_|refine sy ?_ ?_|fail
   .all_goals try(refine aP ?_;simp[aT,results29])
    exact Jl hlt rE hc
   .exact hK1 _ ⟨k+1,by omega,nH hi hlt rE hc⟩ aC (by simp only;omega)
  .have W:=hk1;repeat' first|refine st ?_|(refine nx ?_;refine so ?_)|(refine cx ?_;refine sc (λhc=>?_) (λhc=>?_)<;>try exact hc.elim)|(refine lx ?_;refine sp (λhc=>?_) (λhc=>?_)<;>try exact hc.elim)|refine sx ?_ ?_|refine sy ?_ ?_|fail
   all_goals try(refine aP ?_;simp[aT,results29])
   exact oI (by omega) hlt hi
theorem um{a b:bD}:a=b↔a.kind=b.kind/\a.name=b.name/\a.attrs=b.attrs/\a.text=b.text:=by cases a;cases b;simp
theorem MQ[aB prog](a b:bD)(hl:a.attrs.length<=1099511627776):Ok prog 25 [.agg (bE .view a),.agg (bE .view b)] (.bool (decide (a=b))):=by
 have c1:=Gq a.attrs b.attrs hl;rw[show decide (a=b)=decide (a.kind=b.kind/\a.name=b.name/\a.attrs=b.attrs/\a.text=b.text)by rw[pZ];exact um];refine dA aJ func25 ntmps25 ?_;have W:=trivial;repeat' first|refine st ?_|(refine nx ?_;refine so ?_)|(refine cx ?_;refine sc (λhc=>?_) (λhc=>?_)<;>try exact hc.elim)|(refine lx ?_;refine sp (λhc=>?_) (λhc=>?_)<;>try exact hc.elim)|refine sx ?_ ?_|refine sy ?_ ?_|fail
 all_goals try(refine aP ?_;simp[aT,results25])
 all_goals (first|(simp_all;done)|(simp_all;rw[BW];simp))
theorem Gt[aB prog](a b:List bD)(hl:dL bF a<=1099511627776):Ok prog 24 [.sl .view 4 (a.map (bE .view)),.sl .view 4 (b.map (bE .view)),.fn 25 []] (.bool (decide (a=b))):=by
 simp only[dL]at hl;refine dA aJ func24 ntmps24 ?_;have W:=trivial;repeat' first|refine st ?_|(refine nx ?_;refine so ?_)|(refine cx ?_;refine sc (λhc=>?_) (λhc=>?_)<;>try exact hc.elim)|(refine lx ?_;refine sp (λhc=>?_) (λhc=>?_)<;>try exact hc.elim)|refine sx ?_ ?_|refine sy ?_ ?_|fail
 .all_goals try(refine aP ?_;simp[aT,results24])
  exact CG (by omega)
 .have hlen:=hc;refine aY (ι:={k:Nat // k<=a.length/\a.take k=b.take k}) (λt o i=>⟨bN t [(17,.int .i64 i.1),(7,.undef)],o⟩)
   (λi=>a.length-i.1) ⟨0,by simp,by simp⟩ aC ?_
  rintro⟨k,hk,hi⟩ K1 hK1;simp only[bN,cH,cG]at hK1⊢;have hk1:=vJ (k:=k);by_cases hlt:k<a.length
  .have hg:=aE hlt;have rE:k<b.length:=by omega
   have Wx:=aE rE;have hz:=gM bF a k hlt;simp only[bF,dL]at hz;have c1:=MQ a[k] b[k] (by omega);simp only[bE]at c1;have W:=aA hk1 (aA hg (aA Wx (aA hlt rE)));repeat' first|refine st ?_|(refine nx ?_;refine so ?_)|(refine cx ?_;refine sc (λhc=>?_) (λhc=>?_)<;>try exact hc.elim)|(refine lx ?_;refine sp (λhc=>?_) (λhc=>?_)<;>try exact hc.elim)|refine sx ?_ ?_|refine sy ?_ ?_|fail
   .all_goals try(refine aP ?_;simp[aT,results24])
    exact Jl hlt rE (by simpa using hc)
   .exact hK1 _ ⟨k+1,by omega,nH hi hlt rE (by simpa using hc)⟩ (aS 0) (by simp only;omega)
  .have W:=hk1;repeat' first|refine st ?_|(refine nx ?_;refine so ?_)|(refine cx ?_;refine sc (λhc=>?_) (λhc=>?_)<;>try exact hc.elim)|(refine lx ?_;refine sp (λhc=>?_) (λhc=>?_)<;>try exact hc.elim)|refine sx ?_ ?_|refine sy ?_ ?_|fail
   all_goals try(refine aP ?_;simp[aT,results24])
   exact oI (by omega) hlt hi
theorem Wy{a b:aV}:a=b↔a.nodes=b.nodes/\a.opens=b.opens:=by cases a;cases b;simp
theorem Ij[aB prog](a b:aV)(hl:aF a<=1099511627776):Ok prog 26 [.agg (aH .view a),.agg (aH .view b)] (.bool (decide (a=b))):=by
 have c1:=Ii a.nodes b.nodes (by simp only[aF]at hl;omega);have c2:=Uq a.opens b.opens (by simp only[aF]at hl;omega);rw[show decide (a=b)=decide (a.nodes=b.nodes/\a.opens=b.opens)by rw[pZ];exact Wy];refine dA aJ func26 ntmps26 ?_;have W:=trivial;repeat' first|refine st ?_|(refine nx ?_;refine so ?_)|(refine cx ?_;refine sc (λhc=>?_) (λhc=>?_)<;>try exact hc.elim)|(refine lx ?_;refine sp (λhc=>?_) (λhc=>?_)<;>try exact hc.elim)|refine sx ?_ ?_|refine sy ?_ ?_|fail
 all_goals try(refine aP ?_;simp[aT,results26])
 all_goals simp_all
theorem Ik[aB prog](a:dS)(hl:dD a<=1099511627776):Ok prog 23 [.agg (bG .view a),.agg (bG .view a)] (.bool true):=by
 have c1:=zB a.iC a.iC (by simp only[dD,dL]at hl;omega);have c2:=zB a.jY a.jY (by simp only[dD,dL]at hl;omega);have c3:=zB a.jZ a.jZ (by simp only[dD,dL]at hl;omega);simp only[An]at c1 c2 c3;refine dA aJ func23 ntmps23 ?_;have W:=trivial;repeat' first|refine st ?_|(refine nx ?_;refine so ?_)|(refine cx ?_;refine sc (λhc=>?_) (λhc=>?_)<;>try exact hc.elim)|(refine lx ?_;refine sp (λhc=>?_) (λhc=>?_)<;>try exact hc.elim)|refine sx ?_ ?_|refine sy ?_ ?_|fail
 all_goals (try exact aO results23)
theorem QO(a b:jH):N8 prog 30 (bW a) (bW b) (decide (a=b)):=
 Mj (f:=6) (ss:=[.str]) (by decide) (by kernel_rfl) (by kernel_rfl) (by kernel_rfl) (by kernel_rfl) (by simp[nW,Be]) (by simp[nW,Be]) (by obtain⟨x⟩:=a;obtain⟨y⟩:=b;simp)
theorem zL[aB prog](a:aW)(hl:aK a<=1099511627776):Ok prog 8 [.agg (aL .view a),.agg (aL .view a)] (.bool true):=by
 have c0:=Ik a.bC (by simp only[aK]at hl;omega);have c1:=Gt a.queue a.queue (by simp only[aK]at hl;omega);have c2:=Ij a.builder a.builder (by simp only[aK]at hl;omega);have c3:=QN a.aG a.aG (by simp only[aK,dL]at hl;omega);have c4:=MP a.bT a.bT (by simp only[aK,dL]at hl;omega);have c5:=Gr a.entries a.entries (by simp only[aK,dL]at hl;omega);have c6:=Gr a.Dl a.Dl (by simp only[aK,dL]at hl;omega);have c7:=zB a.log a.log (by simp only[aK,dL]at hl;omega);simp only[An,bG,aH]at c0 c1 c2 c3 c4 c5 c6 c7;refine dA aJ func8 ntmps8 ?_;have W:=trivial;have c0:=Bf a.addr a.addr;have c1:=QO a.tok a.tok;repeat' first|refine st ?_|(refine nx ?_;refine so ?_)|(refine cx ?_;refine sc (λhc=>?_) (λhc=>?_)<;>try exact hc.elim)|(refine lx ?_;refine sp (λhc=>?_) (λhc=>?_)<;>try exact hc.elim)|refine sx ?_ ?_|refine sy ?_ ?_|fail
 all_goals (try exact aO results8)
end Go.Proofs.YtjkdolejalpflaaGreatDoor
