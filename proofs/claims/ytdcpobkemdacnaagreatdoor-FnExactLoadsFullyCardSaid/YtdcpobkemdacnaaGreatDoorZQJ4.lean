/- Proved here: steps towards the statement of this claim. No condition. -/
import Derived.Test.YtdcpobkemdacnaaGreatDoorZQJ1
import Derived.Test.YtdcpobkemdacnaaGreatDoorZQNF
set_option linter.all false
set_option maxRecDepth 4000
set_option maxHeartbeats 4000000
namespace Go.Proofs.YtdcpobkemdacnaaGreatDoor
open Go.Aw Proofs.Tryz List IntKind
theorem MN (c:UInt8):∀s:bB,bH gM (dG c s)<=s.length
 |[]=>by simp [dG,bH,gM]
 |x::s=>by
  have ih:=MN c s;simp only [dG];split
  .simp only [bH,gM,eW,eN] at ih⊢;omega
  .split
   .rename_i h0;exact absurd h0 (qL c s)
   .rename_i p q h0;rw [h0] at ih;simp only [bH,gM,eN] at ih⊢;omega
theorem aDg (c:UInt8) (s:bB):bT gM (dG c s)<=2 * s.length+1:=by have h1:=MN c s;have h2:=iW c s;have h3:=pD (a:=c) (l:=s);simp only [bT];omega
theorem Jp (c:UInt8) (s:bB):bT gM (dG c s).tail<=2 * s.length+1:=by
 have h:=aDg c s;cases hs:dG c s with
 |nil=>exact absurd hs (qL c s)
 |cons x l=>rw [hs] at h;simp only [bT,bH,eN,tail_cons] at h⊢;omega
theorem rY {c:UInt8} {s x:bB} (h:x∈dG c s):x.length<=s.length:=by have h1:=MN c s;have h2:=bU gM h;simp only [gM] at h2;omega
theorem FT (f:bB->bB) {s x0 x1 x2:bB} {r:List bB} (h:dG 59 s=x0::x1::x2::r):rF f s=⟨true,(dG 32 x0).tail,(dG 32 x1).tail,(dG 32 x2).tail,match r[0]? with|some x=>f x|none=>[]⟩:=by unfold rF;rw [h];rfl
theorem Jq (f:bB->bB) (hf:∀x,(f x).length<=x.length) {s:bB} (h:¬(dG 59 s).length < 3):eO (rF f s)<=7 * s.length+3:=by
 match hs:dG 59 s with
 |[]=>rw [hs] at h;simp at h
 |[_]=>rw [hs] at h;simp at h
 |[_,_]=>rw [hs] at h;simp at h
 |x0::x1::x2::r=>
  rw [FT f hs];have h0:=rY (c:=59) (s:=s) (x:=x0) (by rw [hs];simp);have h1:=rY (c:=59) (s:=s) (x:=x1) (by rw [hs];simp);have h2:=rY (c:=59) (s:=s) (x:=x2) (by rw [hs];simp);have k0:=Jp 32 x0;have k1:=Jp 32 x1;have k2:=Jp 32 x2;simp only [eO];cases r with
  |nil=>simp;omega
  |cons x r=>have h3:=rY (c:=59) (s:=s) (x:=x) (by rw [hs];simp);have:=hf x;simp only [sC];omega
theorem VP (x:bB):(pX x).length<=x.length:=by unfold pX;split<;>simp
theorem Cu [aC prog] (s:bB) (c:UInt8) (hl:s.length<=1099511627776):Ok prog 97 [.str s,.int .u8 c.toNat] (.sl .view 1 ((dG c s).map dD)):=(wX s c hl).FP (by simp [rt])
theorem Bq [aC prog] (s:bB) (hl:s.length<=1073741824):Ok prog 54 [.str s] (.gZ [.agg (bP .view (uY pX s).1),.bool (uY pX s).2]):=by
 have z1:Ok prog 54 [.str []] (.gZ [.agg [.bool false,.sl .own 1 [],.sl .own 1 [],.sl .own 1 [],.str []],.bool true]):=by refine Ur aD func54 ntmps54 ?_;refine aZ ?_;all_goals try(first|(refine ⟨.inr rfl,.inl ?_⟩;simp [pY,results54];done)|(refine ⟨.inr rfl,.inr (qZ ?_)⟩;simp [AS.vV,AS.uS,AS.rv,results54];done)|(refine ⟨.inr rfl,.inl ?_⟩;simp [pY,results54]))
 have c0:Ok prog 97 [.str s,.int .u8 59] (.sl .view 1 ((dG 59 s).map dD)):=Cu s 59 (by omega);unfold uY;by_cases h0:s=[]
 .rw [eI h0];subst h0;exact z1.FP (by simp [rt,xM,oM])
 rw [cX h0];by_cases h3:(dG 59 s).length < 3
 .rw [eI h3];have z2:Ok prog 54 [.str s] (.gZ [.agg [.bool false,.sl .own 1 [],.sl .own 1 [],.sl .own 1 [],.str []],.bool false]):=by
   have h3':((dG 59 s).length:Int) < 3:=by omega
   generalize dG 59 s=L at *;refine Ur aD func54 ntmps54 ?_;have W:=aA h0 (aA h3' h3);have V:=h0;repeat' first|refine wf ?_|(refine sq ?_ ?_<;>intro hc<;>try exact hc.elim)|fail
   all_goals try(first|(refine ⟨.inr rfl,.inl ?_⟩;simp [pY,results54];done)|(refine ⟨.inr rfl,.inr (qZ ?_)⟩;simp [AS.vV,AS.uS,AS.rv,results54];done)|(refine ⟨.inr rfl,.inl ?_⟩;simp [pY,results54]))
   all_goals exact absurd (by assumption) h0
  exact z2.FP (by simp [rt,xM,oM])
 rw [cX h3];have hz:=Jq pX VP h3;have cf:=Ho (rF pX s) (by omega);obtain ⟨x0,x1,x2,r,hs⟩:∃x0 x1 x2 r,dG 59 s=x0::x1::x2::r:=by
  match hs:dG 59 s with
  |[]=>rw [hs] at h3;simp at h3
  |[_]=>rw [hs] at h3;simp at h3
  |[_,_]=>rw [hs] at h3;simp at h3
  |x0::x1::x2::r=>exact ⟨x0,x1,x2,r,rfl⟩
 have m0:=rY (c:=59) (s:=s) (x:=x0) (by rw [hs];simp);have m1:=rY (c:=59) (s:=s) (x:=x1) (by rw [hs];simp);have m2:=rY (c:=59) (s:=s) (x:=x2) (by rw [hs];simp);have hrl:r.length<=s.length:=by have:=iW 59 s;have h3:=pD (a:=(59:UInt8)) (l:=s);rw [hs] at this;simp at this;omega
 rw [hs] at c0;have e:=FT pX hs;have c1:Ok prog 97 [.str x0,.int .u8 32] (.sl .view 1 ((dG 32 x0).map dD)):=Cu x0 32 (by omega);have c2:Ok prog 97 [.str x1,.int .u8 32] (.sl .view 1 ((dG 32 x1).map dD)):=Cu x1 32 (by omega);have c3:Ok prog 97 [.str x2,.int .u8 32] (.sl .view 1 ((dG 32 x2).map dD)):=Cu x2 32 (by omega);obtain ⟨y0,t0,e0⟩:=tM (qL 32 x0);obtain ⟨y1,t1,e1⟩:=tM (qL 32 x1);obtain ⟨y2,t2,e2⟩:=tM (qL 32 x2);rw [e0] at c1;rw [e1] at c2;rw [e2] at c3;rw [e0,e1,e2] at e;simp only [tail_cons] at e;clear hs m0 m1 m2 e0 e1 e2 h3 hz;have tk:∀(t:List bB),(t.map dD).take t.length=t.map dD:=λt=>cY (by simp)
 have key:∀(n:bB),rF pX s=⟨true,t0,t1,t2,n⟩->∀b,decide (iY (rF pX s)=s)=b->Ok prog 98 [.agg [.bool true,.sl .view 1 (t0.map dD),.sl .view 1 (t1.map dD),.sl .view 1 (t2.map dD),.str n]] (.str (iY (rF pX s))):=by intro n hn b _;rw [hn] at cf⊢;simpa only [bP] using cf
 have jU:∀n,rF pX s=⟨true,t0,t1,t2,n⟩->(Ok prog 98 [.agg [.bool true,.sl .view 1 (t0.map dD),.sl .view 1 (t1.map dD),.sl .view 1 (t2.map dD),.str n]] (.str (iY (rF pX s))))->
   Ok prog 54 [.str s] (if iY (rF pX s)=s then .gZ [.agg [.bool true,.sl .view 1 (t0.map dD),.sl .view 1 (t1.map dD),.sl .view 1 (t2.map dD),.str n],.bool true] else .gZ [.agg [.bool false,.sl .own 1 [],.sl .own 1 [],.sl .own 1 [],.str []],.bool false]):=by
  intro n hn cF;rw [e] at hn;simp only [eY.mk.injEq,true_and] at hn;subst hn;generalize iY (rF pX s)=F at *;cases r with
  |nil=>
   simp only [getElem?_nil] at cF⊢;by_cases hF:F=s
   .rw [eI hF];refine Ur aD func54 ntmps54 ?_;have W:=aA h0 (aA hF tk);have V:=aA h0 tk;repeat' first|refine wf ?_|(refine sq ?_ ?_<;>intro hc<;>try exact hc.elim)|fail
    all_goals try(first|(refine ⟨.inr rfl,.inl ?_⟩;simp [pY,results54];done)|(refine ⟨.inr rfl,.inr (qZ ?_)⟩;simp [AS.vV,AS.uS,AS.rv,results54];done)|(refine ⟨.inr rfl,.inl ?_⟩;simp [pY,results54]))
    all_goals first|exact absurd (by assumption) h0|omega|simp_all
   .rw [cX hF];refine Ur aD func54 ntmps54 ?_;have W:=aA h0 (aA hF tk);have V:=aA h0 tk;repeat' first|refine wf ?_|(refine sq ?_ ?_<;>intro hc<;>try exact hc.elim)|fail
    all_goals try(first|(refine ⟨.inr rfl,.inl ?_⟩;simp [pY,results54];done)|(refine ⟨.inr rfl,.inr (qZ ?_)⟩;simp [AS.vV,AS.uS,AS.rv,results54];done)|(refine ⟨.inr rfl,.inl ?_⟩;simp [pY,results54]))
    all_goals first|exact absurd (by assumption) h0|omega|simp_all
  |cons x r=>
   simp only [sC] at cF⊢;unfold pX at cF⊢;by_cases hx:6 < x.length
   .rw [eI hx] at cF⊢;by_cases hF:F=s
    .rw [eI hF];refine Ur aD func54 ntmps54 ?_;have W:=aA h0 (aA hF (aA hx tk));have V:=aA h0 tk;repeat' first|refine wf ?_|(refine sq ?_ ?_<;>intro hc<;>try exact hc.elim)|fail
     all_goals try(first|(refine ⟨.inr rfl,.inl ?_⟩;simp [pY,results54];done)|(refine ⟨.inr rfl,.inr (qZ ?_)⟩;simp [AS.vV,AS.uS,AS.rv,results54];done)|(refine ⟨.inr rfl,.inl ?_⟩;simp [pY,results54]))
     all_goals first|exact absurd (by assumption) h0|omega|simp_all
    .rw [cX hF];refine Ur aD func54 ntmps54 ?_;have W:=aA h0 (aA hF (aA hx tk));have V:=aA h0 tk;repeat' first|refine wf ?_|(refine sq ?_ ?_<;>intro hc<;>try exact hc.elim)|fail
     all_goals try(first|(refine ⟨.inr rfl,.inl ?_⟩;simp [pY,results54];done)|(refine ⟨.inr rfl,.inr (qZ ?_)⟩;simp [AS.vV,AS.uS,AS.rv,results54];done)|(refine ⟨.inr rfl,.inl ?_⟩;simp [pY,results54]))
     all_goals first|exact absurd (by assumption) h0|omega|simp_all
   .rw [cX hx] at cF⊢;by_cases hF:F=s
    .rw [eI hF];refine Ur aD func54 ntmps54 ?_;have W:=aA h0 (aA hF (aA hx tk));have V:=aA h0 tk;repeat' first|refine wf ?_|(refine sq ?_ ?_<;>intro hc<;>try exact hc.elim)|fail
     all_goals try(first|(refine ⟨.inr rfl,.inl ?_⟩;simp [pY,results54];done)|(refine ⟨.inr rfl,.inr (qZ ?_)⟩;simp [AS.vV,AS.uS,AS.rv,results54];done)|(refine ⟨.inr rfl,.inl ?_⟩;simp [pY,results54]))
     all_goals first|exact absurd (by assumption) h0|omega|simp_all
    .rw [cX hF];refine Ur aD func54 ntmps54 ?_;have W:=aA h0 (aA hF (aA hx tk));have V:=aA h0 tk;repeat' first|refine wf ?_|(refine sq ?_ ?_<;>intro hc<;>try exact hc.elim)|fail
     all_goals try(first|(refine ⟨.inr rfl,.inl ?_⟩;simp [pY,results54];done)|(refine ⟨.inr rfl,.inr (qZ ?_)⟩;simp [AS.vV,AS.uS,AS.rv,results54];done)|(refine ⟨.inr rfl,.inl ?_⟩;simp [pY,results54]))
     all_goals first|exact absurd (by assumption) h0|omega|simp_all
 have:=jU _ e (key _ e _ rfl);by_cases hF:iY (rF pX s)=s
 .rw [eI hF] at this⊢;rw [e];exact this.FP (by simp [rt,xM])
 .rw [cX hF] at this⊢;exact this.FP (by simp [rt,xM,oM])
theorem aLa [aC prog] (a b:Int):Ok prog 223 [.int .i64 a,.int .i64 b] (.int .i64 (min a b)):=by
 by_cases h:b < a
 .have hr:min a b=b:=by omega
  rw [hr];refine bO aD func223 ntmps223 ?_;have W:=h;refine we ?_;exact aF results223
 .have hr:min a b=a:=by omega
  rw [hr];refine bO aD func223 ntmps223 ?_;have W:=h;refine we ?_;exact aF results223
theorem Jr [aC prog] (s:bB) (c:UInt8) (hl:s.length<=1099511627776):Ok prog 112 [.str s,.int .u8 c.toNat] (.int .i64 (iL c s:Nat)):=by
 refine bO aD func112 ntmps112 ?_;refine aZ ?_;refine aP (ι:={k:Nat // k<=s.length/\∀x∈s.take k,x≠c}) (λt o i=>⟨bE t [(5,.int .i64 i.1)],o⟩)
  (λi=>s.length - i.1) ⟨0,by simp,by simp⟩ aO ?_
 rintro ⟨k,hk,hi⟩ K1 hK1;simp only [bE,cW,cU] at hK1⊢;have hk1:=oW (k:=k);by_cases hlt:k < s.length
 .have hg:=aE hlt;have W:=aA hk1 (aA hg hlt);repeat' first|refine wf ?_|(refine sq ?_ ?_<;>intro hc<;>try exact hc.elim)|fail
  .have e:=ll hlt (BE.1 (by omega)) hi;rw [e];all_goals try(refine aV ?_;simp [aH,results112])
  .exact hK1 _ ⟨k+1,by omega,bZ hlt hi (λh=>hc (by rw [h]))⟩ aO (by simp only;omega)
 .have e:=YN (iX (by omega) hi);rw [e];have W:=hk1;refine we ?_;exact aF results112
def BU (p s:bB):Bool:=decide (p.length<=s.length)&&(s.take p.length == p)
theorem KF [aC prog] (s p:bB) (hl:s.length<=1099511627776) (hp:p.length<=1099511627776):Ok prog 232 [.str s,.str p] (.bool (BU p s)):=by
 by_cases h:p.length<=s.length
 .have hi:(p.length:Int)<=(s.length:Int):=by omega
  have hr:BU p s=(s.take p.length == p):=by simp [BU,h]
  rw [hr];refine bO aD func232 ntmps232 ?_;have W:=aA h hi;refine we ?_;exact aF results232
 .have hi:¬(p.length:Int)<=(s.length:Int):=by omega
  have hr:BU p s=false:=by simp [BU,h]
  rw [hr];refine bO aD func232 ntmps232 ?_;have W:=aA h hi;refine we ?_;exact aF results232
theorem Rt {p s:bB} (h:BU p s=true):p.length<=s.length:=by simp only [BU,eJ,fR] at h;exact h.1
theorem Ut [aC prog] (s p:bB) (hl:s.length<=1099511627776) (hp:p.length<=1099511627776):Ok prog 251 [.str s,.str p] (.gZ [.str (if BU p s=true then s.drop p.length else s),.bool (BU p s)]):=by
 have c1:=KF s p hl hp;have h1:= @Rt p s;generalize BU p s=b at *;cases b
 .refine bO aD func251 ntmps251 ?_;refine aZ ?_;exact aF results251
 .have h2:=h1 rfl;refine bO aD func251 ntmps251 ?_;have W:=h2;refine we ?_;exact aF results251
theorem Es [aC prog] (s p:bB) (hl:s.length<=1099511627776) (hp:p.length<=1099511627776):Ok prog 203 [.str s,.str p] (.gZ [.str (if BU p s=true then s.drop p.length else s),.bool (BU p s)]):=by have c1:=Ut s p hl hp;generalize (if BU p s=true then s.drop p.length else s)=q at *;generalize BU p s=b at *;refine bO aD func203 ntmps203 ?_;refine aZ ?_;exact aF results203
theorem XM [aC prog] (b:bF) (m:bB) (hs:aS b<=274877906944):Ma prog 216 [.oK (.agg (aU .own b)),.view (.str m)] (.agg (aU .own {b with opens:=pV b m (b.opens.length - 1)})):=by
 have hn:b.nodes.length<=274877906944/\b.opens.length<=274877906944:=by simp only [aS,bT] at hs;omega
 have Q0:i64.wrap ((b.opens.length:Int) - 1)=(b.opens.length:Int) - 1:=by rw [wrap64]<;>omega
 have hw1:i64.wrap ((b.nodes.length:Int) - 1)=(b.nodes.length:Int) - 1:=by rw [wrap64]<;>omega
 have cI:=λn lo hi=>gK n lo hi
 refine rO aD func216 ntmps216 ?_;have W:=Q0;refine we ?_;refine aP (ι:={q:Int // -1<=q/\q < (b.opens.length:Int)/\pV b m q.toNat=pV b m (b.opens.length - 1)}) (λt o i=>⟨bE t [(5,.int .i64 i.1),(6,.undef)],o⟩) (λi=>i.1.toNat) ⟨(b.opens.length:Int) - 1,by omega,by omega,by congr 1;omega⟩ aO ?_;rintro ⟨q,hq1,hq2,VV⟩ K1 hK1;simp only [bE,cW,cU] at hK1⊢;by_cases h1:(0:Int) < q
 .obtain ⟨k,rfl⟩:∃k:Nat,q=((k+1:Nat):Int):=⟨(q - 1).toNat,by omega⟩;have hlt:k+1 < b.opens.length:=by omega
  have hg:=aE hlt;have xc:i64.wrap (((k+1:Nat):Int) - 1)=((k:Nat):Int):=by rw [wrap64]<;>omega
  rw [show (((k+1:Nat):Int)).toNat=k+1 from by omega] at VV;generalize Qo:b.opens[k+1]=n at *;cases hh:yF b m n
  .rw [KY hg hh] at VV;by_cases h01:0<=n/\n < (b.nodes.length:Int)
   .obtain ⟨z,rfl⟩:=mB h01.1;have hm:z < b.nodes.length:=by omega
    rw [PX hm] at hh;have hgm:=aE hm;have hne:(b.nodes[z].name == m)=false:=by simpa using hh
    have c1:=cI ((z:Nat):Int) 0 ((b.nodes.length:Int) - 1);rw [show (decide ((0:Int)<=((z:Nat):Int))&&decide (((z:Nat):Int)<=(b.nodes.length:Int) - 1))=true from by simp;omega] at c1;have W:=aA hg (aA xc (aA hw1 (aA hgm (aA hm (aA hne (aA h1 hn))))));have V:=hlt;refine we ?_;all_goals exact hK1 _ ⟨((k:Nat):Int),by omega,by omega,by simpa using VV⟩ aO (by first|omega|(simp only;omega)|(simp;omega))
   .have c1:=cI n 0 ((b.nodes.length:Int) - 1);rw [show (decide ((0:Int)<=n)&&decide (n<=(b.nodes.length:Int) - 1))=false from by simp;omega] at c1;have W:=aA hg (aA xc (aA hw1 (aA h1 hn)));have V:=hlt;refine we ?_;all_goals exact hK1 _ ⟨((k:Nat):Int),by omega,by omega,by simpa using VV⟩ aO (by first|omega|(simp only;omega)|(simp;omega))
  .rw [Oh hg hh] at VV;have h01:0<=n/\n < (b.nodes.length:Int):=tI λh=>by rw [ZZ h] at hh;cases hh
   obtain ⟨z,rfl⟩:=mB h01.1;have hm:z < b.nodes.length:=by omega
   rw [PX hm] at hh;have hgm:=aE hm;have hne:(b.nodes[z].name == m)=true:=by simpa using hh
   have c1:=cI ((z:Nat):Int) 0 ((b.nodes.length:Int) - 1);rw [show (decide ((0:Int)<=((z:Nat):Int))&&decide (((z:Nat):Int)<=(b.nodes.length:Int) - 1))=true from by simp;omega] at c1;rw [<-VV];have W:=aA hg (aA xc (aA hw1 (aA hgm (aA hm (aA hne (aA h1 hn))))));have V:=hlt;refine we ?_;all_goals try(refine ⟨by first|exact .inr rfl|exact .inl rfl,?_⟩;simp [gJ,dL,dJ,rowOf,results216,map_take])
   all_goals (rw [<-map_take];exact QL _)
 .have hq4:pV b m (b.opens.length - 1)=b.opens:=by rw [<-VV,show q.toNat=0 by omega];rfl
  rw [hq4];have W:=h1;refine we ?_;all_goals try(refine ⟨by first|exact .inr rfl|exact .inl rfl,?_⟩;simp [gJ,dL,dJ,rowOf,results216])
end Go.Proofs.YtdcpobkemdacnaaGreatDoor
