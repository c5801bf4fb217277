/- Proved here: steps towards the statement of this claim. No condition. -/
import Derived.Test.YtjmpjmilndkgfaaGreatDoorZQS1
import Derived.Test.YtjmpjmilndkgfaaGreatDoorZQQ2
import Derived.Test.YtjmpjmilndkgfaaGreatDoorZQMK2
set_option linter.all false
set_option maxRecDepth 4000
set_option maxHeartbeats 4000000
namespace Go.Proofs.YtjmpjmilndkgfaaGreatDoor
open Go.Aw Proofs.Tryz List IntKind
theorem Zr {w:bF} (h:(dF 61 w).length=2):iL 61 w < w.length/\dF 61 w=[rU w,vD w]:=by
 rw [tQ] at h⊢;by_cases hi:iL 61 w < w.length
 .rw [eK hi] at h⊢;refine ⟨hi,?_⟩;rw [tQ] at h⊢;by_cases h2:iL 61 (w.drop (iL 61 w+1)) < (w.drop (iL 61 w+1)).length
  .rw [eK h2] at h;have:=pQ 61 ((w.drop (iL 61 w+1)).drop (iL 61 (w.drop (iL 61 w+1))+1));have hl:=CD.2 this;simp only [eL] at h;omega
  .rw [cY h2];have hle:=tL 61 (w.drop (iL 61 w+1));rw [cX (l:=w.drop (iL 61 w+1)) (by omega)];rfl
 .rw [cY hi] at h;simp at h
theorem Zt {w:bF} (h:iL 61 w < w.length) (hv:isValue (vD w)=true):(dF 61 w).length=2:=by
 have KU:∀x∈vD w,x≠61:=by intro x hx;simp only [isValue,eJ] at hv;have:=fS.1 hv.1 x hx;rintro rfl;simp [vR] at this
 rw [tQ,eK h];have:=Be 61 (vD w) KU;unfold vD at this;rw [this];rfl
theorem Xc [aC prog] [dD prog] (s:bF) (hl:s.length<=1099511627776):Ok prog 262 [.str s] (.iJ [.agg (bK .own (qH s).1),.bool (qH s).2]):=by
 by_cases h60:(60:Int) < (s.length:Int)
 .have hr:qH s=(eQ,false):=by unfold qH;rw [eK (by omega)]
  rw [hr];refine Fh aD func262 ntmps262 ?_;have W:=h60;refine we ?_;all_goals try(first|(refine ⟨.inr rfl,.inl ?_⟩;simp [aG,results262,eQ];done)|(refine ⟨.inr rfl,.inr (fC ?_)⟩;simp [AS.AU,AS.zC,AS.rv,results262,eQ];done)|(refine ⟨.inr rfl,.inl ?_⟩;simp [aG,results262,eQ]))
 cases hp:BL [47] s;case true=>
  have c1:=fU (s.drop 1) (by simp;omega);have hlen:=QJ hp;simp only [eL,eW,hM] at hlen;cases s with
  |nil=>simp at hlen
  |cons x s1=>
   obtain rfl:x=47:=by simpa [BL] using hp
   have h61:¬(60:Int) < (s1.length:Int)+1:=by simp only [eL] at h60;omega
   simp only [rI,CM] at c1;cases hn:dA s1
   .have hr:qH (47::s1)=(eQ,false):=by unfold qH;rw [cY (by omega),eK hp];simp [hn]
    rw [hr];rw [hn] at c1;clear hp;refine Fh aD func262 ntmps262 ?_;have W:=h61;refine we ?_;all_goals try(first|(refine ⟨.inr rfl,.inl ?_⟩;simp [aG,results262,eQ];done)|(refine ⟨.inr rfl,.inr (fC ?_)⟩;simp [AS.AU,AS.zC,AS.rv,results262,eQ];done)|(refine ⟨.inr rfl,.inl ?_⟩;simp [aG,results262,eQ]))
   .have hr:qH (47::s1)=(⟨2,s1,[],[]⟩,true):=by unfold qH;rw [cY (by omega),eK hp];simp [hn]
    rw [hr];rw [hn] at c1;clear hp;refine Fh aD func262 ntmps262 ?_;have W:=h61;refine we ?_;all_goals try(first|(refine ⟨.inr rfl,.inl ?_⟩;simp [aG,results262];done)|(refine ⟨.inr rfl,.inr (fC ?_)⟩;simp [AS.AU,AS.zC,AS.rv,results262];done)|(refine ⟨.inr rfl,.inl ?_⟩;simp [aG,results262]))
 case false=>
  have hr:qH s=EA (s.take (iL 32 s)) (if iL 32 s < s.length then dF 32 (s.drop (iL 32 s+1)) else []):=by unfold qH;rw [cY (by omega),cY (by rw [hp];simp)]
  have c2:Ok prog 209 [.str s,.int .u8 32] (.sl .own 1 ((dF 32 s).map bW)):=vV s 32 (by omega);have hsl:=iV 32 s;have hcn:s.count 32<=s.length:=pB;have hsm:=AX 32 s;rw [hr];have c1:=fU (s.take (iL 32 s)) (by simp;omega);have hLc:=tQ 32 s;generalize (if iL 32 s < s.length then dF 32 (s.drop (iL 32 s+1)) else [])=ws at *;generalize s.take (iL 32 s)=w0 at *;generalize dF 32 s=L at *;have hL0:L[0]? =some w0:=by rw [hLc];rfl
  have hLd:L.drop 1=ws:=by rw [hLc];rfl
  have hLl:L.length=ws.length+1:=by rw [hLc];rfl
  have Bh:=λh=>QM (w0:=w0) (ws:=ws) h
  have JP:=λl=>QN (w0:=w0) (ws:=ws) (l:=l)
  have KU:=QL (w0:=w0) (ws:=ws);generalize EA w0 ws=res at *;clear hr hLc;have aLf:s=[]\/∃x r,s=x::r/\¬((x.toNat:Int)=47):=by
   cases s with
   |nil=>exact .inl rfl
   |cons x r=>refine .inr ⟨x,r,rfl,λh=> ?_⟩;have:x=47:=Cd.1 (by simp;omega);subst this;simp [BL] at hp
  clear hp;rcases aLf with rfl|⟨x,r,rfl,hx⟩
  .refine Fh aD func262 ntmps262 ?_;have W:=aA h60 hL0;refine we ?_;refine aL (ι:={q:Nat×Nat×List jY // (q.1<=L.length/\1<=q.2.1)/\q.2.2.length+1=q.1/\iD ws []=iD (L.drop q.1) q.2.2}) (λt o i=>⟨bD t [(6,.int .i64 i.1.1),(35,.undef)],[⟨true,true,4,0,[[.int .i64 0,.str [],.sl .own 2 [],.str []]]⟩,⟨true,false,1,1,L.map bW⟩,⟨true,true,4,0,[[.int .i64 1,.str w0,.obj 3 i.1.2.1,.str []]]⟩,⟨true,false,2,i.1.2.1,i.1.2.2.map gU⟩]⟩)
    (λi=>L.length - i.1.1) ⟨(1,1,[]),by simp only;omega,by simp,by rw [hLd]⟩ (tN 2 0 2 (ob:=⟨true,true,4,0,[[.int .i64 1,.str w0,.sl .own 2 [],.str []]]⟩) (by rfl) (by rfl) (by rfl) (by simp) (by rfl) (by rfl) (by simp) (by simp [xS,rt,iU])) ?_
   rintro ⟨⟨k,v,acc⟩,⟨hk,hv⟩,vW,sO⟩ K1 hK1;simp only at hk hv vW sO;simp only [bD,cW,cU] at hK1⊢;have hk1:=oW (k:=k);by_cases hlt:k < L.length
   .have hg:=aE hlt;have M4:=dZ eX L k hlt;rw [mL hlt] at sO;simp only [eX] at M4;have cS:Ok prog 209 [.str L[k],.int .u8 61] (.sl .own 1 ((dF 61 L[k]).map bW)):=vV L[k] 61 (by omega);have cN:=fU (rU L[k]) (by simp [rU];omega);have cV:=wY (vD L[k]) (by simp [vD];omega);have cF:=kW acc (rU L[k]) (by omega);have jU:(decide (iL 61 L[k] < L[k].length)&&dA (rU L[k])&&isValue (vD L[k])&& !(aV acc (rU L[k])).2)=false->res=(eQ,false):=λh=>Bh (by rw [sO];simp only [iD];rw [h];rfl)
    have hnext:(decide (iL 61 L[k] < L[k].length)&&dA (rU L[k])&&isValue (vD L[k])&& !(aV acc (rU L[k])).2)=true->iD ws []=iD (L.drop (k+1)) (acc++[⟨rU L[k],vD L[k]⟩]):=λh=>by rw [sO];simp only [iD];rw [eK h]
    have oh:=Zr (w:=L[k]);have hback:=Zt (w:=L[k]);have LM:=iV 61 L[k];have hsc:L[k].count 61<=L[k].length:=pB;clear sO Bh JP KU;by_cases h2:(dF 61 L[k]).length=2
    .obtain ⟨hi,hsg⟩:=oh h2;rw [hsg] at cS;simp only [mT,EV,bW] at cS;rw [sB hi] at jU hnext;clear oh hback h2 hsg LM hsc hi;generalize dA (rU L[k])=b2 at *;generalize isValue (vD L[k])=b3 at *;generalize aV acc (rU L[k])=fa at *;obtain ⟨fv,b4⟩:=fa;generalize rU L[k]=ky at *;generalize vD L[k]=vl at *;simp only at cF jU hnext;cases b2
     .rw [jU (by simp)];clear jU hnext hK1;have W:=aA hk1 (aA hg hlt);refine we ?_;all_goals try(first|(refine ⟨.inr rfl,.inl ?_⟩;simp [aG,results262,eQ];done)|(refine ⟨.inr rfl,.inr (fC ?_)⟩;simp [AS.AU,AS.zC,AS.rv,results262,eQ];done)|(refine ⟨.inr rfl,.inl ?_⟩;simp [aG,results262,eQ]))
     cases b3
     .rw [jU (by simp)];clear jU hnext hK1;have W:=aA hk1 (aA hg hlt);refine we ?_;all_goals try(first|(refine ⟨.inr rfl,.inl ?_⟩;simp [aG,results262,eQ];done)|(refine ⟨.inr rfl,.inr (fC ?_)⟩;simp [AS.AU,AS.zC,AS.rv,results262,eQ];done)|(refine ⟨.inr rfl,.inl ?_⟩;simp [aG,results262,eQ]))
     cases b4
     .have hn2:=hnext (by simp);clear jU hnext;have W:=aA hk1 (aA hg hlt);refine we ?_;all_goals refine hK1 _ ⟨(k+1,v+1,acc++[⟨ky,vl⟩]),⟨by simp only;omega,by simp only;omega⟩,by simp;omega,hn2⟩ (aW 4) (by simp only;omega)
     .rw [jU (by simp)];clear jU hnext hK1;have W:=aA hk1 (aA hg hlt);refine we ?_;all_goals try(first|(refine ⟨.inr rfl,.inl ?_⟩;simp [aG,results262,eQ];done)|(refine ⟨.inr rfl,.inr (fC ?_)⟩;simp [AS.AU,AS.zC,AS.rv,results262,eQ];done)|(refine ⟨.inr rfl,.inl ?_⟩;simp [aG,results262,eQ]))
    .have jK:res=(eQ,false):=jU (by
      cases hi:decide (iL 61 L[k] < L[k].length)
      .simp
      .cases zt:isValue (vD L[k])
       .simp
       .exact absurd (hback (of_decide_eq_true hi) zt) h2)
     rw [jK];have h2':¬(((dF 61 L[k]).length:Int)=2):=by omega
     clear jU hnext hK1 oh hback jK h2;generalize dF 61 L[k]=sg at *;have W:=aA hk1 (aA hg (aA hlt h2'));refine we ?_;all_goals try(first|(refine ⟨.inr rfl,.inl ?_⟩;simp [aG,results262,eQ];done)|(refine ⟨.inr rfl,.inr (fC ?_)⟩;simp [AS.AU,AS.zC,AS.rv,results262,eQ];done)|(refine ⟨.inr rfl,.inl ?_⟩;simp [aG,results262,eQ]))
   .have EG:L.drop k=[]:=Ax (by omega);rw [EG] at sO;have hal:=Ed ws [] acc (by rw [sO];rfl);have hs2:=λh1 h2=>JP acc h1 h2 (by rw [sO];rfl)
    clear hK1 sO JP Bh;cases hn:dA w0
    .rw [KU (by rw [hn];simp)];rw [hn] at c1;have W:=hk1;refine we ?_;all_goals try(first|(refine ⟨.inr rfl,.inl ?_⟩;simp [aG,results262,eQ];done)|(refine ⟨.inr rfl,.inr (fC ?_)⟩;simp [AS.AU,AS.zC,AS.rv,results262,eQ];done)|(refine ⟨.inr rfl,.inl ?_⟩;simp [aG,results262,eQ]))
    .rw [hn] at c1;by_cases h4:(4:Int) < (acc.length:Int)
     .exfalso;simp only [eW,count_nil] at hal hsl;omega
     .rw [hs2 hn (by simp only [eW] at hal;omega)];have W:=aA hk1 h4;refine we ?_;all_goals try(first|(refine ⟨.inr rfl,.inl ?_⟩;simp [aG,results262];done)|(refine ⟨.inr rfl,.inr (fC ?_)⟩;simp [AS.AU,AS.zC,AS.rv,results262];done)|(refine ⟨.inr rfl,.inl ?_⟩;simp [aG,results262]))
  .have h61:¬(60:Int) < (r.length:Int)+1:=by simp only [eL] at h60;omega
   refine Fh aD func262 ntmps262 ?_;have W:=aA h61 (aA hx hL0);refine we ?_;refine aL (ι:={q:Nat×Nat×List jY // (q.1<=L.length/\1<=q.2.1)/\q.2.2.length+1=q.1/\iD ws []=iD (L.drop q.1) q.2.2}) (λt o i=>⟨bD t [(6,.int .i64 i.1.1),(35,.undef)],[⟨true,true,4,0,[[.int .i64 0,.str [],.sl .own 2 [],.str []]]⟩,⟨true,false,1,1,L.map bW⟩,⟨true,true,4,0,[[.int .i64 1,.str w0,.obj 3 i.1.2.1,.str []]]⟩,⟨true,false,2,i.1.2.1,i.1.2.2.map gU⟩]⟩)
    (λi=>L.length - i.1.1) ⟨(1,1,[]),by simp only;omega,by simp,by rw [hLd]⟩ (tN 2 0 2 (ob:=⟨true,true,4,0,[[.int .i64 1,.str w0,.sl .own 2 [],.str []]]⟩) (by rfl) (by rfl) (by rfl) (by simp) (by rfl) (by rfl) (by simp) (by simp [xS,rt,iU])) ?_
   rintro ⟨⟨k,v,acc⟩,⟨hk,hv⟩,vW,sO⟩ K1 hK1;simp only at hk hv vW sO;simp only [bD,cW,cU] at hK1⊢;have hk1:=oW (k:=k);by_cases hlt:k < L.length
   .have hg:=aE hlt;have M4:=dZ eX L k hlt;rw [mL hlt] at sO;simp only [eX] at M4;have cS:Ok prog 209 [.str L[k],.int .u8 61] (.sl .own 1 ((dF 61 L[k]).map bW)):=vV L[k] 61 (by omega);have cN:=fU (rU L[k]) (by simp [rU];omega);have cV:=wY (vD L[k]) (by simp [vD];omega);have cF:=kW acc (rU L[k]) (by omega);have jU:(decide (iL 61 L[k] < L[k].length)&&dA (rU L[k])&&isValue (vD L[k])&& !(aV acc (rU L[k])).2)=false->res=(eQ,false):=λh=>Bh (by rw [sO];simp only [iD];rw [h];rfl)
    have hnext:(decide (iL 61 L[k] < L[k].length)&&dA (rU L[k])&&isValue (vD L[k])&& !(aV acc (rU L[k])).2)=true->iD ws []=iD (L.drop (k+1)) (acc++[⟨rU L[k],vD L[k]⟩]):=λh=>by rw [sO];simp only [iD];rw [eK h]
    have oh:=Zr (w:=L[k]);have hback:=Zt (w:=L[k]);have LM:=iV 61 L[k];have hsc:L[k].count 61<=L[k].length:=pB;clear sO Bh JP KU;by_cases h2:(dF 61 L[k]).length=2
    .obtain ⟨hi,hsg⟩:=oh h2;rw [hsg] at cS;simp only [mT,EV,bW] at cS;rw [sB hi] at jU hnext;clear oh hback h2 hsg LM hsc hi;generalize dA (rU L[k])=b2 at *;generalize isValue (vD L[k])=b3 at *;generalize aV acc (rU L[k])=fa at *;obtain ⟨fv,b4⟩:=fa;generalize rU L[k]=ky at *;generalize vD L[k]=vl at *;simp only at cF jU hnext;cases b2
     .rw [jU (by simp)];clear jU hnext hK1;have W:=aA hk1 (aA hg hlt);refine we ?_;all_goals try(first|(refine ⟨.inr rfl,.inl ?_⟩;simp [aG,results262,eQ];done)|(refine ⟨.inr rfl,.inr (fC ?_)⟩;simp [AS.AU,AS.zC,AS.rv,results262,eQ];done)|(refine ⟨.inr rfl,.inl ?_⟩;simp [aG,results262,eQ]))
     cases b3
     .rw [jU (by simp)];clear jU hnext hK1;have W:=aA hk1 (aA hg hlt);refine we ?_;all_goals try(first|(refine ⟨.inr rfl,.inl ?_⟩;simp [aG,results262,eQ];done)|(refine ⟨.inr rfl,.inr (fC ?_)⟩;simp [AS.AU,AS.zC,AS.rv,results262,eQ];done)|(refine ⟨.inr rfl,.inl ?_⟩;simp [aG,results262,eQ]))
     cases b4
     .have hn2:=hnext (by simp);clear jU hnext;have W:=aA hk1 (aA hg hlt);refine we ?_;all_goals refine hK1 _ ⟨(k+1,v+1,acc++[⟨ky,vl⟩]),⟨by simp only;omega,by simp only;omega⟩,by simp;omega,hn2⟩ (aW 4) (by simp only;omega)
     .rw [jU (by simp)];clear jU hnext hK1;have W:=aA hk1 (aA hg hlt);refine we ?_;all_goals try(first|(refine ⟨.inr rfl,.inl ?_⟩;simp [aG,results262,eQ];done)|(refine ⟨.inr rfl,.inr (fC ?_)⟩;simp [AS.AU,AS.zC,AS.rv,results262,eQ];done)|(refine ⟨.inr rfl,.inl ?_⟩;simp [aG,results262,eQ]))
    .have jK:res=(eQ,false):=jU (by
      cases hi:decide (iL 61 L[k] < L[k].length)
      .simp
      .cases zt:isValue (vD L[k])
       .simp
       .exact absurd (hback (of_decide_eq_true hi) zt) h2)
     rw [jK];have h2':¬(((dF 61 L[k]).length:Int)=2):=by omega
     clear jU hnext hK1 oh hback jK h2;generalize dF 61 L[k]=sg at *;have W:=aA hk1 (aA hg (aA hlt h2'));refine we ?_;all_goals try(first|(refine ⟨.inr rfl,.inl ?_⟩;simp [aG,results262,eQ];done)|(refine ⟨.inr rfl,.inr (fC ?_)⟩;simp [AS.AU,AS.zC,AS.rv,results262,eQ];done)|(refine ⟨.inr rfl,.inl ?_⟩;simp [aG,results262,eQ]))
   .have EG:L.drop k=[]:=Ax (by omega);rw [EG] at sO;have hal:=Ed ws [] acc (by rw [sO];rfl);have hs2:=λh1 h2=>JP acc h1 h2 (by rw [sO];rfl)
    clear hK1 sO JP Bh;cases hn:dA w0
    .rw [KU (by rw [hn];simp)];rw [hn] at c1;have W:=hk1;refine we ?_;all_goals try(first|(refine ⟨.inr rfl,.inl ?_⟩;simp [aG,results262,eQ];done)|(refine ⟨.inr rfl,.inr (fC ?_)⟩;simp [AS.AU,AS.zC,AS.rv,results262,eQ];done)|(refine ⟨.inr rfl,.inl ?_⟩;simp [aG,results262,eQ]))
    .rw [hn] at c1;by_cases h4:(4:Int) < (acc.length:Int)
     .rw [KU (by simp only [eW] at hal;omega)];have W:=aA hk1 h4;refine we ?_;all_goals try(first|(refine ⟨.inr rfl,.inl ?_⟩;simp [aG,results262,eQ];done)|(refine ⟨.inr rfl,.inr (fC ?_)⟩;simp [AS.AU,AS.zC,AS.rv,results262,eQ];done)|(refine ⟨.inr rfl,.inl ?_⟩;simp [aG,results262,eQ]))
     .rw [hs2 hn (by simp only [eW] at hal;omega)];have W:=aA hk1 h4;refine we ?_;all_goals try(first|(refine ⟨.inr rfl,.inl ?_⟩;simp [aG,results262];done)|(refine ⟨.inr rfl,.inr (fC ?_)⟩;simp [AS.AU,AS.zC,AS.rv,results262];done)|(refine ⟨.inr rfl,.inl ?_⟩;simp [aG,results262]))
theorem EE (p:dL) (r:gV):fH p r=1\/fH p r=2:=by unfold fH;split<;>simp
def iB (p:aI) (mode:Int) (tu digest:bF) (node:Int):aI×Int:=
 if 20<=p.aB.length\/fO mode=0 then (p, -1)
 else if (bZ tu p.addr.host).2=false\/fH p.bG ⟨fO mode,(bZ tu p.addr.host).1,p.addr.host,digest⟩≠1 then
  ({p with aB:=p.aB++[(⟨mode,(bZ tu p.addr.host).1,digest,node,true,2,[]⟩:kJ)]},((p.aB.length:Nat):Int))
 else ({p with aB:=p.aB++[(⟨mode,(bZ tu p.addr.host).1,digest,node,false,0,[]⟩:kJ)]},((p.aB.length:Nat):Int))
theorem AB {p:aI} {mode:Int} {tu digest:bF} {node:Int} (h:20<=p.aB.length\/fO mode=0):iB p mode tu digest node=(p, -1):=by unfold iB;rw [eK h]
theorem Ni {p:aI} {mode:Int} {tu digest:bF} {node:Int} (h:¬(20<=p.aB.length\/fO mode=0)) (h2:(bZ tu p.addr.host).2=false\/fH p.bG ⟨fO mode,(bZ tu p.addr.host).1,p.addr.host,digest⟩≠1):
  iB p mode tu digest node=({p with aB:=p.aB++[(⟨mode,(bZ tu p.addr.host).1,digest,node,true,2,[]⟩:kJ)]},((p.aB.length:Nat):Int)):=by unfold iB;rw [cY h,eK h2]
theorem Kg {p:aI} {mode:Int} {tu digest:bF} {node:Int} (h:¬(20<=p.aB.length\/fO mode=0)) (h1:(bZ tu p.addr.host).2=true) (h2:fH p.bG ⟨fO mode,(bZ tu p.addr.host).1,p.addr.host,digest⟩=1):
  iB p mode tu digest node=({p with aB:=p.aB++[(⟨mode,(bZ tu p.addr.host).1,digest,node,false,0,[]⟩:kJ)]},((p.aB.length:Nat):Int)):=by
 unfold iB;rw [cY h,cY (by rintro (h3|h3);rw [h1] at h3;cases h3;exact h3 h2)]
theorem xH [aC prog] (p:aI) (mode:Int) (tu digest:bF) (node:Int) (hs:aF p<=274877906944) (hto:tu.length<=274877906944) (hd:digest.length<=274877906944):Ok prog 218 [.agg (aJ .view p),.int .i64 mode,.str tu,.str digest,.int .i64 node] (.iJ [.agg (aJ .own (iB p mode tu digest node).1),.int .i64 (iB p mode tu digest node).2]):=by
 have c1:=iI p hs;simp only [aJ] at c1;have hsl:p.addr.host.length<=274877906944:=by simp only [aF,aU] at hs;omega
 have FC:eB p.bG<=1099511627776:=by simp only [aF] at hs;omega
 have LM:p.aB.length<=274877906944:=by simp only [aF,bV] at hs;omega
 have c2:=Cm mode;have c3:=yE tu p.addr.host (by omega);by_cases Fg:(20:Int)<=(p.aB.length:Int)
 .rw [AB (.inl (by omega))];refine bR aD func218 ntmps218 ?_;have W:=Fg;refine we ?_;exact aK results218
 by_cases hk:fO mode=0
 .rw [AB (.inr hk)];rw [hk] at c2;refine bR aD func218 ntmps218 ?_;have W:=Fg;refine we ?_;exact aK results218
 have KU:¬(20<=p.aB.length\/fO mode=0):=by rintro (h|h);omega;exact hk h
 have hsz:=JZ tu p.addr.host;have jU:=Ni (tu:=tu) (digest:=digest) (node:=node) KU;have hgood:=Kg (tu:=tu) (digest:=digest) (node:=node) KU;have c5:=uU p.bG ⟨fO mode,(bZ tu p.addr.host).1,p.addr.host,digest⟩ FC (by simp only [jJ];omega);have mi:=EE p.bG ⟨fO mode,(bZ tu p.addr.host).1,p.addr.host,digest⟩;have c4:=λl' BP hl2=>Bu {p with aB:=l'} (p.aB.length:Int) (by omega) BP hl2
 have hr:∀s,qL {p with aB:=p.aB++[s]} (p.aB.length:Int)=⟨fO s.mode,s.to,p.addr.host,s.digest⟩:=λs=>by simp [qL,gB]
 generalize hkm:fO mode=km at *;generalize bZ tu p.addr.host=pa at *;obtain ⟨a,ok⟩:=pa;simp only at c3 c5 mi hsz jU hgood;obtain ⟨s0,hs0⟩:∃s:kJ,s=⟨mode,a,digest,node,false,0,[]⟩:=⟨_,rfl⟩;obtain ⟨l0,hl0⟩:∃l,l=p.aB++[s0]:=⟨_,rfl⟩;obtain ⟨l3,A7⟩:∃l:List kJ,l=p.aB++[⟨mode,a,digest,node,true,2,[]⟩]:=⟨_,rfl⟩;have hap:p.aB.map iY++[[.int .i64 mode,.str a.host,.str a.path,.str digest,.int .i64 node,.bool false,.int .i64 0,.str []]]=l0.map iY:=by rw [hl0,hs0];simp
 have hg:l0[p.aB.length]? =some s0:=by rw [hl0];simp
 have qg:l0.length=p.aB.length+1:=by rw [hl0];simp
 have hset:∀h,(l0.map iY).set p.aB.length [.int .i64 (l0[p.aB.length]'h).mode,.str (l0[p.aB.length]'h).to.host,.str (l0[p.aB.length]'h).to.path,.str (l0[p.aB.length]'h).digest,.int .i64 (l0[p.aB.length]'h).node,.bool true,.int .i64 2,.str (l0[p.aB.length]'h).body]=l3.map iY:=by
  intro h;have e:l0[p.aB.length]'h=s0:=by rw [aE h] at hg;exact cQ hg
  rw [e,hl0,A7,hs0,rB,rB,sX _ _ (by simp)];simp
 have c4:=c4 l0 (by rw [qg];omega) (by rw [qg];omega);rw [show qL {p with aB:=l0} (p.aB.length:Int)=⟨km,a,p.addr.host,digest⟩ by rw [hl0,hr,hs0];simp [hkm]] at c4;simp only [aJ,fE] at c4;simp only [bM,fE] at c5;rw [<-A7] at jU;rw [<-hs0,<-hl0] at hgood;have TH:p.aB.length < l0.length:=by omega
 clear hs0 hl0 A7 hr hkm KU;cases ok
 .rw [jU (.inl rfl)];clear jU hgood mi;refine bR aD func218 ntmps218 ?_;have W:=aA Fg (aA hk (aA hg (aA hap TH)));refine we ?_;all_goals try(refine aR ?_;simp [aG,results218])
  all_goals exact hset _
 .rcases mi with h|h
  .rw [hgood rfl h];rw [h] at c5;clear jU hgood h;refine bR aD func218 ntmps218 ?_;have W:=aA Fg (aA hk (aA hg (aA hap TH)));refine we ?_;all_goals try(refine aR ?_;simp [aG,results218])
   all_goals exact hset _
  .rw [jU (.inr (by rw [h];decide))];rw [h] at c5;clear jU hgood h;refine bR aD func218 ntmps218 ?_;have W:=aA Fg (aA hk (aA hg (aA hap TH)));refine we ?_;all_goals try(refine aR ?_;simp [aG,results218])
   all_goals exact hset _
theorem xI [aC prog] (p:aI) (mode:Int) (tu digest:bF) (node:Int) (hs:aF p<=274877906944) (hto:tu.length<=274877906944) (hd:digest.length<=274877906944):Ok prog 234 [.agg (aJ .view p),.int .i64 mode,.str tu,.str digest,.int .i64 node] (.iJ [.agg (aJ .own (iB p mode tu digest node).1),.int .i64 (iB p mode tu digest node).2]):=by
 have c1:=jC p hs;simp only [aJ] at c1;have hsl:p.addr.host.length<=274877906944:=by simp only [aF,aU] at hs;omega
 have FC:eB p.bG<=1099511627776:=by simp only [aF] at hs;omega
 have LM:p.aB.length<=274877906944:=by simp only [aF,bV] at hs;omega
 have c2:=Cn mode;have c3:=yF tu p.addr.host (by omega);by_cases Fg:(20:Int)<=(p.aB.length:Int)
 .rw [AB (.inl (by omega))];refine bR aD func234 ntmps234 ?_;have W:=Fg;refine we ?_;exact aK results234
 by_cases hk:fO mode=0
 .rw [AB (.inr hk)];rw [hk] at c2;refine bR aD func234 ntmps234 ?_;have W:=Fg;refine we ?_;exact aK results234
 have KU:¬(20<=p.aB.length\/fO mode=0):=by rintro (h|h);omega;exact hk h
 have hsz:=JZ tu p.addr.host;have jU:=Ni (tu:=tu) (digest:=digest) (node:=node) KU;have hgood:=Kg (tu:=tu) (digest:=digest) (node:=node) KU;have c5:=uV p.bG ⟨fO mode,(bZ tu p.addr.host).1,p.addr.host,digest⟩ FC (by simp only [jJ];omega);have mi:=EE p.bG ⟨fO mode,(bZ tu p.addr.host).1,p.addr.host,digest⟩;have c4:=λl' BP hl2=>Bv {p with aB:=l'} (p.aB.length:Int) (by omega) BP hl2
 have hr:∀s,qL {p with aB:=p.aB++[s]} (p.aB.length:Int)=⟨fO s.mode,s.to,p.addr.host,s.digest⟩:=λs=>by simp [qL,gB]
 generalize hkm:fO mode=km at *;generalize bZ tu p.addr.host=pa at *;obtain ⟨a,ok⟩:=pa;simp only at c3 c5 mi hsz jU hgood;obtain ⟨s0,hs0⟩:∃s:kJ,s=⟨mode,a,digest,node,false,0,[]⟩:=⟨_,rfl⟩;obtain ⟨l0,hl0⟩:∃l,l=p.aB++[s0]:=⟨_,rfl⟩;obtain ⟨l3,A7⟩:∃l:List kJ,l=p.aB++[⟨mode,a,digest,node,true,2,[]⟩]:=⟨_,rfl⟩;have hap:p.aB.map iY++[[.int .i64 mode,.str a.host,.str a.path,.str digest,.int .i64 node,.bool false,.int .i64 0,.str []]]=l0.map iY:=by rw [hl0,hs0];simp
 have hg:l0[p.aB.length]? =some s0:=by rw [hl0];simp
 have qg:l0.length=p.aB.length+1:=by rw [hl0];simp
 have hset:∀h,(l0.map iY).set p.aB.length [.int .i64 (l0[p.aB.length]'h).mode,.str (l0[p.aB.length]'h).to.host,.str (l0[p.aB.length]'h).to.path,.str (l0[p.aB.length]'h).digest,.int .i64 (l0[p.aB.length]'h).node,.bool true,.int .i64 2,.str (l0[p.aB.length]'h).body]=l3.map iY:=by
  intro h;have e:l0[p.aB.length]'h=s0:=by rw [aE h] at hg;exact cQ hg
  rw [e,hl0,A7,hs0,rB,rB,sX _ _ (by simp)];simp
 have c4:=c4 l0 (by rw [qg];omega) (by rw [qg];omega);rw [show qL {p with aB:=l0} (p.aB.length:Int)=⟨km,a,p.addr.host,digest⟩ by rw [hl0,hr,hs0];simp [hkm]] at c4;simp only [aJ,fE] at c4;simp only [bM,fE] at c5;rw [<-A7] at jU;rw [<-hs0,<-hl0] at hgood;have TH:p.aB.length < l0.length:=by omega
 clear hs0 hl0 A7 hr hkm KU;cases ok
 .rw [jU (.inl rfl)];clear jU hgood mi;refine bR aD func234 ntmps234 ?_;have W:=aA Fg (aA hk (aA hg (aA hap TH)));refine we ?_;all_goals try(refine aR ?_;simp [aG,results234])
  all_goals exact hset _
 .rcases mi with h|h
  .rw [hgood rfl h];rw [h] at c5;clear jU hgood h;refine bR aD func234 ntmps234 ?_;have W:=aA Fg (aA hk (aA hg (aA hap TH)));refine we ?_;all_goals try(refine aR ?_;simp [aG,results234])
   all_goals exact hset _
  .rw [jU (.inr (by rw [h];decide))];rw [h] at c5;clear jU hgood h;refine bR aD func234 ntmps234 ?_;have W:=aA Fg (aA hk (aA hg (aA hap TH)));refine we ?_;all_goals try(refine aR ?_;simp [aG,results234])
   all_goals exact hset _
theorem aEh {l:List bF} {k:Nat} (h:k < l.length) (hc:dA l[k]=false):lM l=false:=by
 have:l.all dA=false:=by rw [all_eq_false];exact ⟨l[k],fR h,by simp [hc]⟩
 simp [lM,this]
theorem Q9 {l:List bF} (h:∀x∈l,dA x=true):lM l=decide ((l.length:Int)<=4):=by
 have:l.all dA=true:=fS.2 h;have h1:decide ((l.length:Int)<=4)=decide (l.length<=4):=by simp only [vA];omega
 rw [lM,this,h1,Cl]
theorem Ep [aC prog] (l:List bF) (hs:bV eX l<=1099511627776):Ok prog 286 [.sl .view 1 (l.map bW)] (.bool (lM l)):=by
 simp only [bV] at hs;refine bR aD func286 ntmps286 ?_;refine bH ?_;refine aL (ι:={k:Nat // k<=l.length/\∀x∈l.take k,dA x=true}) (λt o i=>⟨bD t [(3,.int .i64 i.1)],o⟩)
  (λi=>l.length - i.1) ⟨0,by simp,by simp⟩ aH ?_
 rintro ⟨k,hk,hi⟩ K1 hK1;simp only [bD,cW,cU] at hK1⊢;have hk1:=oW (k:=k);by_cases hlt:k < l.length
 .have hg:=aE hlt;have hel:=dZ eX l k hlt;simp only [eX] at hel;have c1:=fU l[k] (by omega);generalize hb:dA l[k]=b at *;cases b
  .have W:=aA hk1 (aA hg hlt);refine we ?_;rw [aEh hlt hb];all_goals try(refine aR ?_;simp [aG,results286])
  .have W:=aA hk1 (aA hg hlt);refine we ?_;exact hK1 _ ⟨k+1,by omega,dV hlt hi hb⟩ aH (by simp only;omega)
 .have W:=hk1;refine we ?_;rw [Q9 (mQ (by omega) hi)];all_goals try(refine aR ?_;simp [aG,results286])
theorem Ob [aC prog] (p:dL) (hs:eB p<=1099511627776):Ok prog 263 [.agg (bM .view p)] (.bool (nL p)):=by
 simp only [eB] at hs;have c1:=Ep p.dG (by omega);have c2:=Ep p.eZ (by omega);have c3:=Ep p.fD (by omega);have c4:=wY p.rM (by omega);have l1:(p.dG == [])=decide ((p.dG.length:Int)=0):=by cases p.dG<;>simp<;>omega
 have l2:(p.eZ == [])=decide ((p.eZ.length:Int)=0):=by cases p.eZ<;>simp<;>omega
 have l3:(p.fD == [])=decide ((p.fD.length:Int)=0):=by cases p.fD<;>simp<;>omega
 unfold nL;rw [l1,l2,l3];generalize lM p.dG=b1 at *;generalize lM p.eZ=b2 at *;generalize lM p.fD=b3 at *;generalize isValue p.rM=b4 at *;generalize hb:p.isSet=b at *;cases b
 .refine bR aD func263 ntmps263 ?_;have W:=hb;repeat' first|refine wf ?_|(refine sq ?_ ?_<;>intro hc<;>try exact hc.elim)|fail
  all_goals try(refine aR ?_;simp [aG,results263,hb])
  all_goals simp_all
 .refine bR aD func263 ntmps263 ?_;have W:=hb;repeat' first|refine wf ?_|(refine sq ?_ ?_<;>intro hc<;>try exact hc.elim)|fail
  all_goals try(refine aR ?_;simp [aG,results263,hb])
  all_goals simp_all
theorem su (w:bF) (l:List bF) (x:bF):words w (l++[x])=words w l++32::x:=by unfold words;rw [Lib.join_cons,Lib.join_cons];simp [Lib.joinTail]
theorem S9 (w:bF):words w []=w:=by simp [words,Lib.join_one]
theorem Gl (w:bF) (l:List bF):(words w l).length=w.length+l.length+aQ eX l:=by
 unfold words;rw [Lib.join_cons];unfold Lib.joinTail;have:∀l:List bF,((l.map (([32]:bF)++ ·)).flatten).length=l.length+aQ eX l:=by
  intro l;induction l with
  |nil=>simp [aQ]
  |cons x l ih=>simp only [mT,pH,eR,ih,aQ,eX,eL,eW];omega
 rw [eR,this];omega
theorem IP [aC prog] (w:bF) (l:List bF) (hs:w.length+bV eX l<=1099511627776):Ok prog 264 [.str w,.sl .view 1 (l.map bW)] (.str (words w l)):=by
 simp only [bV] at hs;refine bR aD func264 ntmps264 ?_;refine bH ?_;refine aL (ι:={k:Nat // k<=l.length}) (λt o i=>⟨bD t [(5,.int .i64 i.1),(0,.str (words w (l.take i.1)))],o⟩)
  (λi=>l.length - i.1) ⟨0,by simp⟩ (aH (by simp) (by simp [S9])) ?_
 rintro ⟨k,hk⟩ K1 hK1;simp only [bD,cW,cU] at hK1⊢;have hk1:=oW (k:=k);by_cases hlt:k < l.length
 .have hg:=aE hlt;have hel:=dZ eX l k hlt;simp only [eX] at hel;have hw:=Gl w (l.take k);have hts:=dK eX l k;have htl:(l.take k).length<=l.length:=by simp;omega
  have e:l.take (k+1)=l.take k++[l[k]]:=by rw [take_add_one,hg];rfl
  have e2:=su w (l.take k) l[k];rw [<-e] at e2;generalize words w (l.take k)=q at *;have W:=aA hk1 (aA hg hlt);refine we ?_;exact hK1 _ ⟨k+1,by omega⟩ (aH (by simp) (by simp [e2])) (by simp only;omega)
 .have htk:l.take k=l:=cX (by omega);rw [htk];have W:=hk1;refine we ?_;exact aK results264
theorem AZ {l:List bF} (h:lM l=true):l.length<=4/\aQ eX l<=32:=by
 simp only [lM,eJ,fN,fS] at h;have key:∀l:List bF,(∀x∈l,dA x=true)->aQ eX l<=8 * l.length:=by
  intro l;induction l with
  |nil=>intro _;simp [aQ]
  |cons x l ih=>
   intro hl;have h1:=hl x (by simp);simp only [dA,eJ,fN] at h1;have:=ih λy hy=>hl y (by simp [hy])
   simp only [aQ,eX,eL];omega
 have:=key l h.1;exact ⟨h.2,by omega⟩
theorem T9 {s:bF} (h:(s == [])=true\/isValue s=true):s.length<=20:=by
 rcases h with h|h
 .simp only [Bm] at h;simp [h]
 .simp only [isValue,eJ,fN] at h;exact h.2.2
theorem RI {p:dL} (h:nL p=true) (hs:p.isSet=true):(words uR p.dG).length<=42/\(words yO p.eZ).length<=41/\(words KD p.fD).length<=39/\p.rM.length<=20:=by simp only [nL,hs,gE,eJ,AN] at h;obtain ⟨⟨⟨h1,h2⟩,h3⟩,h4⟩:=h;have k1:=AZ h1;have k2:=AZ h2;have k3:=AZ h3;refine ⟨by rw [Gl];simp [uR];omega,by rw [Gl];simp [yO];omega,by rw [Gl];simp [KD];omega,T9 h4⟩
theorem Gw [aC prog] (p:dL) (hs:eB p<=274877906944):Ok prog 226 [.agg (bM .view p)] (.str (iW p)):=by
 have c0:=Ob p (by omega);simp only [bM] at c0;have hq:= @RI p;simp only [eB] at hs;have c1:Ok prog 264 [.str [115,99,114,105,112,116],.sl .view 1 (p.dG.map bW)] (.str (words uR p.dG)):=IP uR p.dG (by simp [uR];omega);have c2:Ok prog 264 [.str [115,116,121,108,101],.sl .view 1 (p.eZ.map bW)] (.str (words yO p.eZ)):=IP yO p.eZ (by simp [yO];omega);have c3:Ok prog 264 [.str [105,109,103],.sl .view 1 (p.fD.map bW)] (.str (words KD p.fD)):=IP KD p.fD (by simp [KD];omega);unfold iW;by_cases h1:nL p=true
 .by_cases h2:p.isSet=true
  .obtain ⟨k1,k2,k3,k4⟩:=hq h1 h2;rw [eK ⟨h1,h2⟩];unfold Xn;rw [h1,h2] at c0;generalize words uR p.dG=q1 at *;generalize words yO p.eZ=q2 at *;generalize words KD p.fD=q3 at *;by_cases hn:p.rM=[]
   .rw [eK hn];rw [hn] at c0;refine bR aD func226 ntmps226 ?_;have W:=aA h2 hn;have V:=aA h2 hn;refine we ?_;all_goals try(refine aR ?_;simp [aG,results226,h2,hn])
   .rw [cY hn];refine bR aD func226 ntmps226 ?_;have W:=aA h2 hn;have V:=aA h2 hn;repeat' first|refine wf ?_|(refine sq ?_ ?_<;>intro hc<;>try exact hc.elim)|fail
    all_goals try(refine aR ?_;simp [aG,results226,h2,hn,nT])
    all_goals (exact absurd (by assumption) hn)
  .rw [cY (λh=>h2 h.2)]
   simp only [wA] at h2;rw [h1,h2] at c0;refine bR aD func226 ntmps226 ?_;have W:=h2;have V:=h2;refine we ?_;exact aK results226
 .rw [cY (λh=>h1 h.1)]
  simp only [wA] at h1;rw [h1] at c0;refine bR aD func226 ntmps226 ?_;refine bH ?_;exact aK results226
theorem Mm (c:UInt8):∀s:bF,aQ eX (dF c s)<=s.length
 |[]=>by simp [dF,aQ,eX]
 |x::s=>by
  have ih:=Mm c s;simp only [dF];split
  .simp only [aQ,eX,eW,eL] at ih⊢;omega
  .split
   .rename_i h0;exact absurd h0 (pQ c s)
   .rename_i p q h0;rw [h0] at ih;simp only [aQ,eX,eL] at ih⊢;omega
theorem aEi (c:UInt8) (s:bF):bV eX (dF c s)<=2 * s.length+1:=by have h1:=Mm c s;have h2:=iV c s;have h3:=pB (a:=c) (l:=s);simp only [bV];omega
theorem IQ (c:UInt8) (s:bF):bV eX (dF c s).tail<=2 * s.length+1:=by
 have h:=aEi c s;cases hs:dF c s with
 |nil=>exact absurd hs (pQ c s)
 |cons x l=>rw [hs] at h;simp only [bV,aQ,eL,tail_cons] at h⊢;omega
theorem rF {c:UInt8} {s x:bF} (h:x∈dF c s):x.length<=s.length:=by have h1:=Mm c s;have h2:=cB eX h;simp only [eX] at h2;omega
theorem FO (f:bF->bF) {s x0 x1 x2:bF} {r:List bF} (h:dF 59 s=x0::x1::x2::r):qI f s=⟨true,(dF 32 x0).tail,(dF 32 x1).tail,(dF 32 x2).tail,match r[0]? with|some x=>f x|none=>[]⟩:=by unfold qI;rw [h];rfl
theorem RL (f:bF->bF) (hf:∀x,(f x).length<=x.length) {s:bF} (h:¬(dF 59 s).length < 3):eB (qI f s)<=7 * s.length+3:=by
 match hs:dF 59 s with
 |[]=>rw [hs] at h;simp at h
 |[_]=>rw [hs] at h;simp at h
 |[_,_]=>rw [hs] at h;simp at h
 |x0::x1::x2::r=>
  rw [FO f hs];have h0:=rF (c:=59) (s:=s) (x:=x0) (by rw [hs];simp);have h1:=rF (c:=59) (s:=s) (x:=x1) (by rw [hs];simp);have h2:=rF (c:=59) (s:=s) (x:=x2) (by rw [hs];simp);have k0:=IQ 32 x0;have k1:=IQ 32 x1;have k2:=IQ 32 x2;simp only [eB];cases r with
  |nil=>simp;omega
  |cons x r=>have h3:=rF (c:=59) (s:=s) (x:=x) (by rw [hs];simp);have:=hf x;simp only [sL];omega
theorem U0 (x:bF):(qF x).length<=x.length:=by unfold qF;split<;>simp
theorem Ct [aC prog] (s:bF) (c:UInt8) (hl:s.length<=1099511627776):Ok prog 209 [.str s,.int .u8 c.toNat] (.sl .view 1 ((dF c s).map bW)):=(vV s c hl).aEg (by simp [rt])
theorem IU [aC prog] (s:bF) (hl:s.length<=1073741824):Ok prog 173 [.str s] (.iJ [.agg (bM .view (vJ qF s).1),.bool (vJ qF s).2]):=by
 have z1:Ok prog 173 [.str []] (.iJ [.agg [.bool false,.sl .own 1 [],.sl .own 1 [],.sl .own 1 [],.str []],.bool true]):=by refine af aD func173 ntmps173 ?_;refine bH ?_;all_goals try(first|(refine ⟨.inr rfl,.inl ?_⟩;simp [sP,results173];done)|(refine ⟨.inr rfl,.inr (uC ?_)⟩;simp [AS.AU,AS.zC,AS.rv,results173];done)|(refine ⟨.inr rfl,.inl ?_⟩;simp [sP,results173]))
 have c0:Ok prog 209 [.str s,.int .u8 59] (.sl .view 1 ((dF 59 s).map bW)):=Ct s 59 (by omega);unfold vJ;by_cases h0:s=[]
 .rw [eK h0];subst h0;exact z1.aEg (by simp [rt,xS,Dr])
 rw [cY h0];by_cases h3:(dF 59 s).length < 3
 .rw [eK h3];have z2:Ok prog 173 [.str s] (.iJ [.agg [.bool false,.sl .own 1 [],.sl .own 1 [],.sl .own 1 [],.str []],.bool false]):=by
   have h3':((dF 59 s).length:Int) < 3:=by omega
   generalize dF 59 s=L at *;refine af aD func173 ntmps173 ?_;have W:=aA h0 (aA h3' h3);have V:=h0;repeat' first|refine wf ?_|(refine sq ?_ ?_<;>intro hc<;>try exact hc.elim)|fail
   all_goals try(first|(refine ⟨.inr rfl,.inl ?_⟩;simp [sP,results173];done)|(refine ⟨.inr rfl,.inr (uC ?_)⟩;simp [AS.AU,AS.zC,AS.rv,results173];done)|(refine ⟨.inr rfl,.inl ?_⟩;simp [sP,results173]))
   all_goals exact absurd (by assumption) h0
  exact z2.aEg (by simp [rt,xS,Dr])
 rw [cY h3];have hz:=RL qF U0 h3;have cf:=Gw (qI qF s) (by omega);obtain ⟨x0,x1,x2,r,hs⟩:∃x0 x1 x2 r,dF 59 s=x0::x1::x2::r:=by
  match hs:dF 59 s with
  |[]=>rw [hs] at h3;simp at h3
  |[_]=>rw [hs] at h3;simp at h3
  |[_,_]=>rw [hs] at h3;simp at h3
  |x0::x1::x2::r=>exact ⟨x0,x1,x2,r,rfl⟩
 have m0:=rF (c:=59) (s:=s) (x:=x0) (by rw [hs];simp);have m1:=rF (c:=59) (s:=s) (x:=x1) (by rw [hs];simp);have m2:=rF (c:=59) (s:=s) (x:=x2) (by rw [hs];simp);have hrl:r.length<=s.length:=by have:=iV 59 s;have h3:=pB (a:=(59:UInt8)) (l:=s);rw [hs] at this;simp at this;omega
 rw [hs] at c0;have e:=FO qF hs;have c1:Ok prog 209 [.str x0,.int .u8 32] (.sl .view 1 ((dF 32 x0).map bW)):=Ct x0 32 (by omega);have c2:Ok prog 209 [.str x1,.int .u8 32] (.sl .view 1 ((dF 32 x1).map bW)):=Ct x1 32 (by omega);have c3:Ok prog 209 [.str x2,.int .u8 32] (.sl .view 1 ((dF 32 x2).map bW)):=Ct x2 32 (by omega);obtain ⟨y0,t0,e0⟩:=tP (pQ 32 x0);obtain ⟨y1,t1,e1⟩:=tP (pQ 32 x1);obtain ⟨y2,t2,e2⟩:=tP (pQ 32 x2);rw [e0] at c1;rw [e1] at c2;rw [e2] at c3;rw [e0,e1,e2] at e;simp only [tail_cons] at e;clear hs m0 m1 m2 e0 e1 e2 h3 hz;have tk:∀(t:List bF),(t.map bW).take t.length=t.map bW:=λt=>cX (by simp)
 have key:∀(n:bF),qI qF s=⟨true,t0,t1,t2,n⟩->∀b,decide (iW (qI qF s)=s)=b->Ok prog 226 [.agg [.bool true,.sl .view 1 (t0.map bW),.sl .view 1 (t1.map bW),.sl .view 1 (t2.map bW),.str n]] (.str (iW (qI qF s))):=by intro n hn b _;rw [hn] at cf⊢;simpa only [bM] using cf
 have jK:∀n,qI qF s=⟨true,t0,t1,t2,n⟩->(Ok prog 226 [.agg [.bool true,.sl .view 1 (t0.map bW),.sl .view 1 (t1.map bW),.sl .view 1 (t2.map bW),.str n]] (.str (iW (qI qF s))))->
   Ok prog 173 [.str s] (if iW (qI qF s)=s then .iJ [.agg [.bool true,.sl .view 1 (t0.map bW),.sl .view 1 (t1.map bW),.sl .view 1 (t2.map bW),.str n],.bool true] else .iJ [.agg [.bool false,.sl .own 1 [],.sl .own 1 [],.sl .own 1 [],.str []],.bool false]):=by
  intro n hn cF;rw [e] at hn;simp only [dL.mk.injEq,true_and] at hn;subst hn;generalize iW (qI qF s)=F at *;cases r with
  |nil=>
   simp only [getElem?_nil] at cF⊢;by_cases hF:F=s
   .rw [eK hF];refine af aD func173 ntmps173 ?_;have W:=aA h0 (aA hF tk);have V:=aA h0 tk;repeat' first|refine wf ?_|(refine sq ?_ ?_<;>intro hc<;>try exact hc.elim)|fail
    all_goals try(first|(refine ⟨.inr rfl,.inl ?_⟩;simp [sP,results173];done)|(refine ⟨.inr rfl,.inr (uC ?_)⟩;simp [AS.AU,AS.zC,AS.rv,results173];done)|(refine ⟨.inr rfl,.inl ?_⟩;simp [sP,results173]))
    all_goals first|exact absurd (by assumption) h0|omega|simp_all
   .rw [cY hF];refine af aD func173 ntmps173 ?_;have W:=aA h0 (aA hF tk);have V:=aA h0 tk;repeat' first|refine wf ?_|(refine sq ?_ ?_<;>intro hc<;>try exact hc.elim)|fail
    all_goals try(first|(refine ⟨.inr rfl,.inl ?_⟩;simp [sP,results173];done)|(refine ⟨.inr rfl,.inr (uC ?_)⟩;simp [AS.AU,AS.zC,AS.rv,results173];done)|(refine ⟨.inr rfl,.inl ?_⟩;simp [sP,results173]))
    all_goals first|exact absurd (by assumption) h0|omega|simp_all
  |cons x r=>
   simp only [sL] at cF⊢;unfold qF at cF⊢;by_cases hx:6 < x.length
   .rw [eK hx] at cF⊢;by_cases hF:F=s
    .rw [eK hF];refine af aD func173 ntmps173 ?_;have W:=aA h0 (aA hF (aA hx tk));have V:=aA h0 tk;repeat' first|refine wf ?_|(refine sq ?_ ?_<;>intro hc<;>try exact hc.elim)|fail
     all_goals try(first|(refine ⟨.inr rfl,.inl ?_⟩;simp [sP,results173];done)|(refine ⟨.inr rfl,.inr (uC ?_)⟩;simp [AS.AU,AS.zC,AS.rv,results173];done)|(refine ⟨.inr rfl,.inl ?_⟩;simp [sP,results173]))
     all_goals first|exact absurd (by assumption) h0|omega|simp_all
    .rw [cY hF];refine af aD func173 ntmps173 ?_;have W:=aA h0 (aA hF (aA hx tk));have V:=aA h0 tk;repeat' first|refine wf ?_|(refine sq ?_ ?_<;>intro hc<;>try exact hc.elim)|fail
     all_goals try(first|(refine ⟨.inr rfl,.inl ?_⟩;simp [sP,results173];done)|(refine ⟨.inr rfl,.inr (uC ?_)⟩;simp [AS.AU,AS.zC,AS.rv,results173];done)|(refine ⟨.inr rfl,.inl ?_⟩;simp [sP,results173]))
     all_goals first|exact absurd (by assumption) h0|omega|simp_all
   .rw [cY hx] at cF⊢;by_cases hF:F=s
    .rw [eK hF];refine af aD func173 ntmps173 ?_;have W:=aA h0 (aA hF (aA hx tk));have V:=aA h0 tk;repeat' first|refine wf ?_|(refine sq ?_ ?_<;>intro hc<;>try exact hc.elim)|fail
     all_goals try(first|(refine ⟨.inr rfl,.inl ?_⟩;simp [sP,results173];done)|(refine ⟨.inr rfl,.inr (uC ?_)⟩;simp [AS.AU,AS.zC,AS.rv,results173];done)|(refine ⟨.inr rfl,.inl ?_⟩;simp [sP,results173]))
     all_goals first|exact absurd (by assumption) h0|omega|simp_all
    .rw [cY hF];refine af aD func173 ntmps173 ?_;have W:=aA h0 (aA hF (aA hx tk));have V:=aA h0 tk;repeat' first|refine wf ?_|(refine sq ?_ ?_<;>intro hc<;>try exact hc.elim)|fail
     all_goals try(first|(refine ⟨.inr rfl,.inl ?_⟩;simp [sP,results173];done)|(refine ⟨.inr rfl,.inr (uC ?_)⟩;simp [AS.AU,AS.zC,AS.rv,results173];done)|(refine ⟨.inr rfl,.inl ?_⟩;simp [sP,results173]))
     all_goals first|exact absurd (by assumption) h0|omega|simp_all
 have:=jK _ e (key _ e _ rfl);by_cases hF:iW (qI qF s)=s
 .rw [eK hF] at this⊢;rw [e];exact this.aEg (by simp [rt,xS])
 .rw [cY hF] at this⊢;exact this.aEg (by simp [rt,xS,Dr])
end Go.Proofs.YtjmpjmilndkgfaaGreatDoor
