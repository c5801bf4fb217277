/- Proved here: steps towards the statement of this claim. No condition. -/
import Derived.Test.YtnkpkklemmgapaaGreatDoorZS1
import Derived.Test.YtnkpkklemmgapaaGreatDoorZQTK2
set_option linter.all false
set_option maxRecDepth 4000
set_option maxHeartbeats 4000000
namespace Go.Proofs.YtnkpkklemmgapaaGreatDoor
open Go.Aw Proofs.Tryz List IntKind
theorem Yl{w:aU}(h:(dP 61 w).length=2):kC 61 w<w.length/\dP 61 w=[xO w,zR w]:=by
 rw[vR]at h⊢;by_cases hi:kC 61 w<w.length
 .rw [eW hi]at h⊢;refine⟨hi,?_⟩;rw[vR]at h⊢;by_cases h2:kC 61 (w.drop (kC 61 w+1))<(w.drop (kC 61 w+1)).length
  .rw [eW h2]at h;have:=uD 61 ((w.drop (kC 61 w+1)).drop (kC 61 (w.drop (kC 61 w+1))+1));have hl:=CH.2 this;simp only[dT]at h;omega
  .rw [eK h2];have hle:=xK 61 (w.drop (kC 61 w+1));rw[eJ (l:=w.drop (kC 61 w+1)) (by omega)];rfl
 .rw [eK hi]at h;simp at h
theorem Ym{w:aU}(h:kC 61 w<w.length)(hv:isValue (zR w)=true):(dP 61 w).length=2:=by
 have Rt:∀x∈zR w,x≠61:=by intro x hx;simp only[isValue,eI]at hv;have:=fW.1 hv.1 x hx;rintro rfl;simp[Ai]at this
 rw[vR,eW h];have:=Ew 61 (zR w) Rt;unfold zR at this;rw[this];rfl
theorem VF[aB prog][dY prog](s:aU)(hl:s.length<=1099511627776):Ok prog 186 [.str s] (.iP [.agg (eG .own (zG s).1),.bool (zG s).2]):=by
 by_cases h60:(60:Int)<(s.length:Int)
 .have hr:zG s=(kH,false):=by unfold zG;rw[eW (by omega)]
  rw[hr];refine aC1 aO func186 ntmps186 ?_;have W:=h60;refine we ?_;all_goals (try first|(refine aZ (.inl ?_);simp[aX,results186,kH];done)|(refine aZ (.inr (mJ ?_));simp[AS.EF,AS.Ce,AS.rv,results186,kH]))
 cases hp:Rx [47] s;case true=>
  have c1:=dZ (s.drop 1) (by simp;omega);have hlen:=ja hp;simp only[dT,eR,lO]at hlen;cases s with
  |nil=>simp at hlen
  |cons x s1=>
   obtain rfl:x=47:=by simpa [Rx]using hp
   have h61:¬(60:Int)<(s1.length:Int)+1:=by simp only[dT]at h60;omega
   simp only[vA,DH]at c1;cases hn:dJ s1
   .have hr:zG (47::s1)=(kH,false):=by unfold zG;rw[eK (by omega),eW hp];simp[hn]
    rw[hr];rw[hn]at c1;clear hp;refine aC1 aO func186 ntmps186 ?_;have W:=h61;refine we ?_;all_goals (try first|(refine aZ (.inl ?_);simp[aX,results186,kH];done)|(refine aZ (.inr (mJ ?_));simp[AS.EF,AS.Ce,AS.rv,results186,kH]))
   .have hr:zG (47::s1)=(⟨2,s1,[],[]⟩,true):=by unfold zG;rw[eK (by omega),eW hp];simp[hn]
    rw[hr];rw[hn]at c1;clear hp;refine aC1 aO func186 ntmps186 ?_;have W:=h61;refine we ?_;all_goals (try exact aC2 results186)
 case false=>
  have hr:zG s=GV (s.take (kC 32 s)) (if kC 32 s<s.length then dP 32 (s.drop (kC 32 s+1))else []):=by unfold zG;rw[eK (by omega),eK (by rw[hp];simp)]
  have c2:Ok prog 93 [.str s,.int .u8 32] (.sl .own 1 ((dP 32 s).map dQ)):=vI s 32 (by omega);have hsl:=jU 32 s;have hcn:s.count 32<=s.length:=tB;have hsm:=Cm 32 s;rw[hr];have c1:=dZ (s.take (kC 32 s)) (by simp;omega);have hLc:=vR 32 s;generalize (if kC 32 s<s.length then dP 32 (s.drop (kC 32 s+1))else [])=ws at*;generalize s.take (kC 32 s)=w0 at*;generalize dP 32 s=L at*;have hL0:L[0]? =some w0:=by rw[hLc];rfl
  have hLd:L.drop 1=ws:=by rw[hLc];rfl
  have hLl:L.length=ws.length+1:=by rw[hLc];rfl
  have GX:=λh=>jd (w0:=w0) (ws:=ws) h
  have Uu:=λl=>je (w0:=w0) (ws:=ws) (l:=l)
  have Rt:=aC3 (w0:=w0) (ws:=ws);generalize GV w0 ws=res at*;clear hr hLc;have aLz:s=[]\/∃x r,s=x::r/\¬((x.toNat:Int)=47):=by
   cases s with
   |nil=>exact .inl rfl
   |cons x r=>refine .inr ⟨x,r,rfl,λh=> ?_⟩;have:x=47:=FA.1 (by simp;omega);subst this;simp[Rx]at hp
  clear hp;rcases aLz with rfl|⟨x,r,rfl,hx⟩
  .refine aC1 aO func186 ntmps186 ?_;have W:=aA h60 hL0;refine we ?_;refine aI (ι:={q:Nat×Nat×List nY // (q.1<=L.length/\1<=q.2.1)/\q.2.2.length+1=q.1/\jA ws []=jA (L.drop q.1) q.2.2}) (λt o i=>⟨bH t [(6,.int .i64 i.1.1),(35,.undef)],[⟨true,true,4,0,[[.int .i64 0,.str [],.sl .own 2 [],.str []]]⟩,⟨true,false,1,1,L.map dQ⟩,⟨true,true,4,0,[[.int .i64 1,.str w0,.obj 3 i.1.2.1,.str []]]⟩,⟨true,false,2,i.1.2.1,i.1.2.2.map uH⟩]⟩)
    (λi=>L.length-i.1.1) ⟨(1,1,[]),by simp only;omega,by simp,by rw[hLd]⟩ (pR 2 0 2 (ob:=⟨true,true,4,0,[[.int .i64 1,.str w0,.sl .own 2 [],.str []]]⟩) (by rfl) (by rfl) (by rfl) (by simp) (by rfl) (by rfl) (by simp) (by simp[qD,rt,gU])) ?_
   rintro⟨⟨k,v,acc⟩,⟨hk,hv⟩,xP,Bo⟩ K1 hK1;simp only at hk hv xP Bo;simp only[bH,cH,cJ]at hK1⊢;have hk1:=rE (k:=k);by_cases hlt:k<L.length
   .have hg:=aE hlt;have hwz:=dD dI L k hlt;rw[oS hlt]at Bo;simp only[dI]at hwz;have cS:Ok prog 93 [.str L[k],.int .u8 61] (.sl .own 1 ((dP 61 L[k]).map dQ)):=vI L[k] 61 (by omega);have cN:=dZ (xO L[k]) (by simp[xO];omega);have cV:=wJ (zR L[k]) (by simp[zR];omega);have cF:=jQ acc (xO L[k]) (by omega);have pU:(decide (kC 61 L[k]<L[k].length)&&dJ (xO L[k])&&isValue (zR L[k])&& !(bD acc (xO L[k])).2)=false->res=(kH,false):=λh=>GX (by rw[Bo];simp only[jA];rw[h];rfl)
    have hnext:(decide (kC 61 L[k]<L[k].length)&&dJ (xO L[k])&&isValue (zR L[k])&& !(bD acc (xO L[k])).2)=true->jA ws []=jA (L.drop (k+1)) (acc++[⟨xO L[k],zR L[k]⟩]):=λh=>by rw[Bo];simp only[jA];rw[eW h]
    have jl:=Yl (w:=L[k]);have Qe:=Ym (w:=L[k]);have ZO:=jU 61 L[k];have hsc:L[k].count 61<=L[k].length:=tB;clear Bo GX Uu Rt;by_cases h2:(dP 61 L[k]).length=2
    .obtain ⟨hi,hsg⟩:=jl h2;rw[hsg]at cS;simp only[lA,Ds,dQ]at cS;rw[Bm hi]at pU hnext;clear jl Qe h2 hsg ZO hsc hi;generalize dJ (xO L[k])=b2 at*;generalize isValue (zR L[k])=b3 at*;generalize bD acc (xO L[k])=fa at*;obtain⟨fv,b4⟩:=fa;generalize xO L[k]=ky at*;generalize zR L[k]=vl at*;simp only at cF pU hnext;cases b2
     .rw [pU (by simp)];clear pU hnext hK1;have W:=aA hk1 (aA hg hlt);refine we ?_;all_goals (try first|(refine aZ (.inl ?_);simp[aX,results186,kH];done)|(refine aZ (.inr (mJ ?_));simp[AS.EF,AS.Ce,AS.rv,results186,kH]))
     cases b3
     .rw [pU (by simp)];clear pU hnext hK1;have W:=aA hk1 (aA hg hlt);refine we ?_;all_goals (try first|(refine aZ (.inl ?_);simp[aX,results186,kH];done)|(refine aZ (.inr (mJ ?_));simp[AS.EF,AS.Ce,AS.rv,results186,kH]))
     cases b4
     .have hn2:=hnext (by simp);clear pU hnext;have W:=aA hk1 (aA hg hlt);refine we ?_;all_goals refine hK1 _ ⟨(k+1,v+1,acc++[⟨ky,vl⟩]),⟨by simp only;omega,by simp only;omega⟩,by simp;omega,hn2⟩ (aL 4) (by simp only;omega)
     .rw [pU (by simp)];clear pU hnext hK1;have W:=aA hk1 (aA hg hlt);refine we ?_;all_goals (try first|(refine aZ (.inl ?_);simp[aX,results186,kH];done)|(refine aZ (.inr (mJ ?_));simp[AS.EF,AS.Ce,AS.rv,results186,kH]))
    .have lC:res=(kH,false):=pU (by
      cases hi:decide (kC 61 L[k]<L[k].length)
      .simp
      .cases rz:isValue (zR L[k])
       .simp
       .exact absurd (Qe (EV hi) rz) h2)
     rw[lC];have ZT:¬(((dP 61 L[k]).length:Int)=2):=by omega
     clear pU hnext hK1 jl Qe lC h2;generalize dP 61 L[k]=sg at*;have W:=aA hk1 (aA hg (aA hlt ZT));refine we ?_;all_goals (try first|(refine aZ (.inl ?_);simp[aX,results186,kH];done)|(refine aZ (.inr (mJ ?_));simp[AS.EF,AS.Ce,AS.rv,results186,kH]))
   .have RA:L.drop k=[]:=Ek (by omega);rw[RA]at Bo;have hal:=Df ws [] acc (by rw[Bo];rfl);have hs2:=λh1 h2=>Uu acc h1 h2 (by rw[Bo];rfl)
    clear hK1 Bo Uu GX;cases hn:dJ w0
    .rw [Rt (by rw[hn];simp)];rw[hn]at c1;have W:=hk1;refine we ?_;all_goals (try first|(refine aZ (.inl ?_);simp[aX,results186,kH];done)|(refine aZ (.inr (mJ ?_));simp[AS.EF,AS.Ce,AS.rv,results186,kH]))
    .rw [hn]at c1;by_cases h4:(4:Int)<(acc.length:Int)
     .exfalso;simp only[eR,count_nil]at hal hsl;omega
     .rw [hs2 hn (by simp only[eR]at hal;omega)];have W:=aA hk1 h4;refine we ?_;all_goals (try exact aC2 results186)
  .have h61:¬(60:Int)<(r.length:Int)+1:=by simp only[dT]at h60;omega
   refine aC1 aO func186 ntmps186 ?_;have W:=aA h61 (aA hx hL0);refine we ?_;refine aI (ι:={q:Nat×Nat×List nY // (q.1<=L.length/\1<=q.2.1)/\q.2.2.length+1=q.1/\jA ws []=jA (L.drop q.1) q.2.2}) (λt o i=>⟨bH t [(6,.int .i64 i.1.1),(35,.undef)],[⟨true,true,4,0,[[.int .i64 0,.str [],.sl .own 2 [],.str []]]⟩,⟨true,false,1,1,L.map dQ⟩,⟨true,true,4,0,[[.int .i64 1,.str w0,.obj 3 i.1.2.1,.str []]]⟩,⟨true,false,2,i.1.2.1,i.1.2.2.map uH⟩]⟩)
    (λi=>L.length-i.1.1) ⟨(1,1,[]),by simp only;omega,by simp,by rw[hLd]⟩ (pR 2 0 2 (ob:=⟨true,true,4,0,[[.int .i64 1,.str w0,.sl .own 2 [],.str []]]⟩) (by rfl) (by rfl) (by rfl) (by simp) (by rfl) (by rfl) (by simp) (by simp[qD,rt,gU])) ?_
   rintro⟨⟨k,v,acc⟩,⟨hk,hv⟩,xP,Bo⟩ K1 hK1;simp only at hk hv xP Bo;simp only[bH,cH,cJ]at hK1⊢;have hk1:=rE (k:=k);by_cases hlt:k<L.length
   .have hg:=aE hlt;have hwz:=dD dI L k hlt;rw[oS hlt]at Bo;simp only[dI]at hwz;have cS:Ok prog 93 [.str L[k],.int .u8 61] (.sl .own 1 ((dP 61 L[k]).map dQ)):=vI L[k] 61 (by omega);have cN:=dZ (xO L[k]) (by simp[xO];omega);have cV:=wJ (zR L[k]) (by simp[zR];omega);have cF:=jQ acc (xO L[k]) (by omega);have pU:(decide (kC 61 L[k]<L[k].length)&&dJ (xO L[k])&&isValue (zR L[k])&& !(bD acc (xO L[k])).2)=false->res=(kH,false):=λh=>GX (by rw[Bo];simp only[jA];rw[h];rfl)
    have hnext:(decide (kC 61 L[k]<L[k].length)&&dJ (xO L[k])&&isValue (zR L[k])&& !(bD acc (xO L[k])).2)=true->jA ws []=jA (L.drop (k+1)) (acc++[⟨xO L[k],zR L[k]⟩]):=λh=>by rw[Bo];simp only[jA];rw[eW h]
    have jl:=Yl (w:=L[k]);have Qe:=Ym (w:=L[k]);have ZO:=jU 61 L[k];have hsc:L[k].count 61<=L[k].length:=tB;clear Bo GX Uu Rt;by_cases h2:(dP 61 L[k]).length=2
    .obtain ⟨hi,hsg⟩:=jl h2;rw[hsg]at cS;simp only[lA,Ds,dQ]at cS;rw[Bm hi]at pU hnext;clear jl Qe h2 hsg ZO hsc hi;generalize dJ (xO L[k])=b2 at*;generalize isValue (zR L[k])=b3 at*;generalize bD acc (xO L[k])=fa at*;obtain⟨fv,b4⟩:=fa;generalize xO L[k]=ky at*;generalize zR L[k]=vl at*;simp only at cF pU hnext;cases b2
     .rw [pU (by simp)];clear pU hnext hK1;have W:=aA hk1 (aA hg hlt);refine we ?_;all_goals (try first|(refine aZ (.inl ?_);simp[aX,results186,kH];done)|(refine aZ (.inr (mJ ?_));simp[AS.EF,AS.Ce,AS.rv,results186,kH]))
     cases b3
     .rw [pU (by simp)];clear pU hnext hK1;have W:=aA hk1 (aA hg hlt);refine we ?_;all_goals (try first|(refine aZ (.inl ?_);simp[aX,results186,kH];done)|(refine aZ (.inr (mJ ?_));simp[AS.EF,AS.Ce,AS.rv,results186,kH]))
     cases b4
     .have hn2:=hnext (by simp);clear pU hnext;have W:=aA hk1 (aA hg hlt);refine we ?_;all_goals refine hK1 _ ⟨(k+1,v+1,acc++[⟨ky,vl⟩]),⟨by simp only;omega,by simp only;omega⟩,by simp;omega,hn2⟩ (aL 4) (by simp only;omega)
     .rw [pU (by simp)];clear pU hnext hK1;have W:=aA hk1 (aA hg hlt);refine we ?_;all_goals (try first|(refine aZ (.inl ?_);simp[aX,results186,kH];done)|(refine aZ (.inr (mJ ?_));simp[AS.EF,AS.Ce,AS.rv,results186,kH]))
    .have lC:res=(kH,false):=pU (by
      cases hi:decide (kC 61 L[k]<L[k].length)
      .simp
      .cases rz:isValue (zR L[k])
       .simp
       .exact absurd (Qe (EV hi) rz) h2)
     rw[lC];have ZT:¬(((dP 61 L[k]).length:Int)=2):=by omega
     clear pU hnext hK1 jl Qe lC h2;generalize dP 61 L[k]=sg at*;have W:=aA hk1 (aA hg (aA hlt ZT));refine we ?_;all_goals (try first|(refine aZ (.inl ?_);simp[aX,results186,kH];done)|(refine aZ (.inr (mJ ?_));simp[AS.EF,AS.Ce,AS.rv,results186,kH]))
   .have RA:L.drop k=[]:=Ek (by omega);rw[RA]at Bo;have hal:=Df ws [] acc (by rw[Bo];rfl);have hs2:=λh1 h2=>Uu acc h1 h2 (by rw[Bo];rfl)
    clear hK1 Bo Uu GX;cases hn:dJ w0
    .rw [Rt (by rw[hn];simp)];rw[hn]at c1;have W:=hk1;refine we ?_;all_goals (try first|(refine aZ (.inl ?_);simp[aX,results186,kH];done)|(refine aZ (.inr (mJ ?_));simp[AS.EF,AS.Ce,AS.rv,results186,kH]))
    .rw [hn]at c1;by_cases h4:(4:Int)<(acc.length:Int)
     .rw [Rt (by simp only[eR]at hal;omega)];have W:=aA hk1 h4;refine we ?_;all_goals (try first|(refine aZ (.inl ?_);simp[aX,results186,kH];done)|(refine aZ (.inr (mJ ?_));simp[AS.EF,AS.Ce,AS.rv,results186,kH]))
     .rw [hs2 hn (by simp only[eR]at hal;omega)];have W:=aA hk1 h4;refine we ?_;all_goals (try exact aC2 results186)
theorem aJ3(v:Int):(0<=v/\v.tmod 2147483647=v%2147483647)\/(v<0/\∃r,v.tmod 2147483647= -r/\0<=r/\r<2147483647/\(r=0->v%2147483647=0)/\(r≠0->v%2147483647=2147483647-r)):=by
 by_cases h:0<=v
 .exact .inl ⟨h,sC h⟩
 .right;obtain⟨u,hu⟩:∃u:Nat,v= -(u:Int):=⟨v.natAbs,by omega⟩;subst hu;refine⟨by omega,((u%2147483647:Nat):Int),by rw[Int.neg_tmod];rfl,by omega,by omega,by omega,by omega⟩
theorem mr[aB prog](v:Int)(h:Sd v):Ok prog 66 [.int .i64 v,.int .i64 2147483647] (.int .i64 (v%2147483647)):=by
 have c1:=eX 2147483647 1 1000000000000;rw[show(decide ((1:Int)<=2147483647)&&decide ((2147483647:Int)<=1000000000000))=true by decide]at c1;obtain⟨h1,h2⟩:=h;rcases aJ3 v with⟨h0,hm⟩|⟨h0,r,hm,hr0,hr1,hz,hnz⟩
 .have WE:(v%2147483647+2147483647).tmod 2147483647=v%2147483647:=by rw[sC (by omega)];omega
  have hb1:0<=v%2147483647:=by omega
  have hb2:v%2147483647<2147483647:=by omega
  generalize v%2147483647=m at*;refine dL aO func66 ntmps66 ?_;have W:=aA hm WE;refine wl ?_;exact aR results66
 .have WE:(-r+2147483647).tmod 2147483647=v%2147483647:=by
   rw[sC (by omega)];by_cases e:r=0
   .rw [hz e,e];rfl
   .rw [hnz e];omega
  generalize v%2147483647=m at*;refine dL aO func66 ntmps66 ?_;have W:=aA hm WE;refine wl ?_;exact aR results66
theorem ng[aB prog](v:Int)(h:Sd v):Ok prog 65 [.int .i64 v,.int .i64 2147483647] (.int .i64 (v%2147483647)):=by
 have c1:=Ck 2147483647 1 1000000000000;rw[show(decide ((1:Int)<=2147483647)&&decide ((2147483647:Int)<=1000000000000))=true by decide]at c1;obtain⟨h1,h2⟩:=h;rcases aJ3 v with⟨h0,hm⟩|⟨h0,r,hm,hr0,hr1,hz,hnz⟩
 .have hb1:0<=v%2147483647:=by omega
  have hb2:v%2147483647<2147483647:=by omega
  generalize v%2147483647=m at*;refine dL aO func65 ntmps65 ?_;have W:=hm;refine wl ?_;exact aR results65
 .by_cases e:r=0
  .have hz:=hz e;subst e;rw[hz];refine dL aO func65 ntmps65 ?_;have W:=hm;refine wl ?_;all_goals try(refine aZ ?_;simp[aX,results65])
   all_goals rfl
  .have hnz:=hnz e;rw[hnz];have aXx: -r<0:=by omega
   refine dL aO func65 ntmps65 ?_;have W:=hm;refine wl ?_;all_goals try(refine aZ ?_;simp[aX,results65])
   all_goals omega
def yS(acc v:Int):Int:=(acc*1000003+v%2147483647+13)%2147483647
def qY(l:List Int):Int:=l.foldl yS 11
theorem MW:∀(l:List Int),0<=qY l/\qY l<2147483647:=by
 have:∀(l:List Int) (a:Int),0<=a/\a<2147483647->0<=l.foldl yS a/\l.foldl yS a<2147483647:=by
  intro l;induction l with
  |nil=>intro a h;exact h
  |cons x l ih=>intro a h;exact ih _ (by unfold yS;omega)
 intro l;exact this l 11 (by omega)
theorem Qz(l:List Int)(k:Nat)(h:k<l.length):qY (l.take (k+1))=yS (qY (l.take k)) l[k]:=by unfold qY;rw[eL h,CI];rfl
theorem MX[aB prog](l:List Int)(hl:l.length<=1099511627776)(hr:∀y∈l,Sd y):Ok prog 42 [.sl .view 1 (l.map lI)] (.int .i64 (qY l)):=by
 refine dL aO func42 ntmps42 ?_;refine oU ?_;refine aI (ι:={k:Nat // k<=l.length}) (λt o i=>⟨bH t [(4,.int .i64 i.1),(3,.int .i64 (qY (l.take i.1)))],o⟩)
  (λi=>l.length-i.1) ⟨0,by simp⟩ (aG (by simp) (by simp[qY])) ?_
 rintro⟨k,hk⟩ K1 hK1;simp only[bH,cH,cJ]at hK1⊢;have hk1:=rE (k:=k);by_cases hlt:k<l.length
 .have hg:=aE hlt;have hs:=Qz l k hlt;have hb:=MW (l.take k);have c1:=mr l[k] (hr _ (hI hlt));have hm:(qY (l.take k)*1000003+l[k]%2147483647+13).tmod 2147483647=qY (l.take (k+1)):=by rw[hs,sC (by omega)];rfl
  have hb1:0<=l[k]%2147483647:=by omega
  have hb2:l[k]%2147483647<2147483647:=by omega
  clear hs;generalize vB:qY (l.take (k+1))=a' at*;generalize qY (l.take k)=a at*;generalize l[k]%2147483647=m at*;have W:=aA hk1 (aA hg (aA hlt hm));refine wl ?_;all_goals exact hK1 _ ⟨k+1,by omega⟩ (aG (by simp) (by simp[vB])) (by simp only;omega)
 .have htk:l.take k=l:=eJ (by omega);rw[htk];have W:=hk1;refine wl ?_;exact aR results42
theorem YU[aB prog](l:List Int)(hl:l.length<=1099511627776)(hr:∀y∈l,Sd y):Ok prog 39 [.sl .view 1 (l.map lI)] (.int .i64 (qY l)):=by
 refine dL aO func39 ntmps39 ?_;refine oU ?_;refine aI (ι:={k:Nat // k<=l.length}) (λt o i=>⟨bH t [(8,.int .i64 i.1),(3,.int .i64 (qY (l.take i.1))),(5,.undef)],o⟩)
  (λi=>l.length-i.1) ⟨0,by simp⟩ (aG (by simp) (by simp[qY])) ?_
 rintro⟨k,hk⟩ K1 hK1;simp only[bH,cH,cJ]at hK1⊢;have hk1:=rE (k:=k);by_cases hlt:k<l.length
 .have hg:=aE hlt;have hs:=Qz l k hlt;have hb:=MW (l.take k);have c1:=ng l[k] (hr _ (hI hlt));have hm:(qY (l.take k)*1000003+l[k]%2147483647+13).tmod 2147483647=qY (l.take (k+1)):=by rw[hs,sC (by omega)];rfl
  have hb1:0<=l[k]%2147483647:=by omega
  have hb2:l[k]%2147483647<2147483647:=by omega
  clear hs;generalize vB:qY (l.take (k+1))=a' at*;generalize qY (l.take k)=a at*;generalize l[k]%2147483647=m at*;have W:=aA hk1 (aA hg (aA hlt hm));refine wl ?_;all_goals exact hK1 _ ⟨k+1,by omega⟩ (aG (by simp) (by simp[vB])) (by simp only;omega)
 .have htk:l.take k=l:=eJ (by omega);rw[htk];have W:=hk1;refine wl ?_;exact aR results39
def toInts(s:aU):List Int:=iO (λc:UInt8=>(c.toNat:Int)) s
def gD(s:aU):List Int:=(s.length:Int)::toInts s
theorem Hd(s:aU)(k:Nat)(h:k<s.length):(bA s)[k]? =some [.int .u8 s[k].toNat]:=by simp[bA,h]
theorem AP[aB prog](s:aU)(hl:s.length<=1099511627776):Ok prog 43 [.sl .view 1 (bA s)] (.sl .own 1 ((gD s).map lI)):=by
 have hbl:=lN s;refine dL aO func43 ntmps43 ?_;have W:=hbl;refine wl ?_;refine aI (ι:={q:Nat×Nat // q.1<=s.length/\1<=q.2}) (λt o i=>⟨bH t [(3,.obj 0 i.1.2),(4,.int .i64 i.1.1)],o.take 0++[⟨true,false,1,i.1.2,((s.length:Int)::toInts (s.take i.1.1)).map lI⟩]⟩)
  (λi=>s.length-i.1.1) ⟨(0,1),by simp,by first|(simp;done)|(simp only;omega)⟩ (aG (by simp[toInts]) (by simp)) ?_
 rintro⟨⟨k,v⟩,hk,hv⟩ K1 hK1;simp only at hk hv;simp only[bH,cH,cJ,fL,lE,cW,cY]at hK1⊢;have hk1:=rE (k:=k);by_cases hlt:k<s.length
 .have hg:=Hd s k hlt;have hps:=nC (λc:UInt8=>(c.toNat:Int)) s k hlt;have hpl:=fG (λc:UInt8=>(c.toNat:Int)) (s.take k);have htl:(s.take k).length=k:=by simp;omega
  have hu:s[k].toNat<256:=Ge s[k];have Y6:k<(bA s).length:=by omega
  simp only[toInts]at hK1⊢;generalize iO (λc:UInt8=>(c.toNat:Int)) (s.take k)=g at*;have W:=aA hk1 (aA hg hbl);have V:=aA hk1 (aA hlt hbl);refine wl ?_;all_goals refine hK1 _ ⟨(k+1,v+1),by simp only;omega,by simp only;omega⟩ (aL 1 (by simp[hps])) (by simp only;omega)
 .have htk:s.take k=s:=eJ (by omega);rw[htk];have W:=aA hk1 hbl;refine wl ?_;all_goals try(refine aZ ?_;simp[aX,results43,gD])
theorem IY[aB prog](s:aU)(hl:s.length<=1099511627776):Ok prog 40 [.sl .view 1 (bA s)] (.sl .own 1 ((gD s).map lI)):=by
 have hbl:=lN s;refine dL aO func40 ntmps40 ?_;have W:=hbl;refine wl ?_;refine aI (ι:={q:Nat×Nat // q.1<=s.length/\1<=q.2}) (λt o i=>⟨bH t [(3,.obj 0 i.1.2),(11,.int .i64 i.1.1),(5,.undef)],o.take 0++[⟨true,false,1,i.1.2,((s.length:Int)::toInts (s.take i.1.1)).map lI⟩]⟩)
  (λi=>s.length-i.1.1) ⟨(0,1),by simp,by first|(simp;done)|(simp only;omega)⟩ (aG (by simp[toInts]) (by simp)) ?_
 rintro⟨⟨k,v⟩,hk,hv⟩ K1 hK1;simp only at hk hv;simp only[bH,cH,cJ,fL,lE,cW,cY]at hK1⊢;have hk1:=rE (k:=k);by_cases hlt:k<s.length
 .have hg:=Hd s k hlt;have hps:=nC (λc:UInt8=>(c.toNat:Int)) s k hlt;have hpl:=fG (λc:UInt8=>(c.toNat:Int)) (s.take k);have htl:(s.take k).length=k:=by simp;omega
  have hu:s[k].toNat<256:=Ge s[k];have Y6:k<(bA s).length:=by omega
  simp only[toInts]at hK1⊢;generalize iO (λc:UInt8=>(c.toNat:Int)) (s.take k)=g at*;have W:=aA hk1 (aA hg hbl);have V:=aA hk1 (aA hlt hbl);refine wl ?_;all_goals refine hK1 _ ⟨(k+1,v+1),by simp only;omega,by simp only;omega⟩ (aL 1 (by simp[hps])) (by simp only;omega)
 .have htk:s.take k=s:=eJ (by omega);rw[htk];have W:=aA hk1 hbl;refine wl ?_;all_goals try(refine aZ ?_;simp[aX,results40,gD])
theorem pg[aB prog](l:List fE)(hs:bV bT l<=274877906944):Ok prog 136 [.sl .view 2 (l.map (bN .view))] (.sl .own 2 (l.map (bN .own))):=by
 simp only[bV]at hs;refine dL aO func136 ntmps136 ?_;refine dH ?_;refine aI (ι:={q:Nat×Nat // q.1<=l.length/\1<=q.2}) (λt o i=>⟨bH t [(3,.obj 0 i.1.2),(4,.int .i64 i.1.1)],o.take 0++[⟨true,false,2,i.1.2,(l.take i.1.1).map (bN .own)⟩]⟩)
  (λi=>l.length-i.1.1) ⟨(0,1),by simp,by first|(simp;done)|(simp only;omega)⟩ aG ?_
 rintro⟨⟨k,v⟩,hk,hv⟩ K1 hK1;simp only at hk hv;simp only[bH,cH,cJ,fL,lE,cW,cY]at hK1⊢;have hk1:=rE (k:=k);by_cases hlt:k<l.length
 .have hg:=aE hlt;have hps:=JQ (bN .own) l k hlt;have hz:=dD bT l k hlt;simp only[bT,bV]at hz;have Lr:((l.take k).map (bN .own)).length=k:=by simp;omega
  generalize (l.take k).map (bN .own)=g at*;have W:=aA hk1 (aA hg (aA hlt Lr));refine we ?_;all_goals refine hK1 _ ⟨(k+1,v+1),by simp only;omega,by simp only;omega⟩ (aL 1 (by simp[hps])) (by simp only;omega)
 .have htk:l.take k=l:=eJ (by omega);rw[htk];have W:=hk1;refine we ?_;exact aR results136
end Go.Proofs.YtnkpkklemmgapaaGreatDoor
