/- Proved here: steps towards the statement of this claim. No condition. -/
import Derived.Test.YtjmpjmilndkgfaaGreatDoorZQR10
set_option linter.all false
set_option maxRecDepth 4000
set_option maxHeartbeats 4000000
namespace Go.Proofs.YtjmpjmilndkgfaaGreatDoor
open Go.Aw Proofs.Tryz List IntKind
theorem Gm [aC prog] [dD prog] (s:bF) (c:UInt8) (hs:s.length < 4294967281):Ok prog 148 [.str s,.str [c]] (.sl .own 1 ((dF c s).map bW)):=Qe Tryz.laysM146 (by kernel_rfl) s c hs
theorem RN [aC prog] [dD prog] (s p:bF) (hl:s.length<=1099511627776) (hp:p.length<=1099511627776):Ok prog 274 [.str s,.str p] (.str (if BL p s=true then s.drop p.length else s)):=by
 have c1:=JN s p hl hp;have h1:= @QJ p s;generalize BL p s=b at *;cases b
 .refine bR aD func274 ntmps274 ?_;refine bH ?_;exact aK results274
 .have h2:=h1 rfl;refine bR aD func274 ntmps274 ?_;have W:=h2;refine we ?_;exact aK results274
theorem sw (x:bF):qE x=if BL nT x=true then x.drop nT.length else x:=by
 unfold qE;have e:nT.isPrefixOf x=BL nT x:=by
  have h1:nT.isPrefixOf x=true↔BL nT x=true:=by
   rw [isPrefixOf_iff_prefix,prefix_iff_eq_take];simp only [BL,eJ,fN,Bm];constructor
   .intro h;refine ⟨?_,h.symm⟩;have:=An length h;rw [oT] at this;omega
   .intro h;exact h.2.symm
  cases h2:BL nT x<;>cases h3:nT.isPrefixOf x<;>simp_all
 rw [e];rfl
theorem U6 (x:bF):(qE x).length<=x.length:=by unfold qE;split<;>simp
theorem Xq [aC prog] [dD prog] (x:bF) (hl:x.length<=1099511627776):Ok prog 242 [.str x,.str [110,111,110,99,101,32]] (.str (qE x)):=by have c1:Ok prog 274 [.str x,.str [110,111,110,99,101,32]] (.str (if BL nT x=true then x.drop nT.length else x)):=RN x nT hl (by decide);rw [<-sw] at c1;generalize qE x=n at *;refine bR aD func242 ntmps242 ?_;refine bH ?_;exact aK results242
def jI (k:Nat):List AV:=[if 0 < k then .obj 3 2 else .sl .own 1 [],if 1 < k then .obj 4 2 else .sl .own 1 [],if 2 < k then .obj 5 2 else .sl .own 1 []]
def nW (a b c:List (List AV)):List aM:=[⟨true,false,1,2,a⟩,⟨true,false,1,2,b⟩,⟨true,false,1,2,c⟩]
theorem Gy [aC prog] [dD prog] (s:bF) (hl:s.length<=1073741824):Ok prog 192 [.str s] (.iJ [.agg (bM .own (vJ qE s).1),.bool (vJ qE s).2]):=by
 have c0:Ok prog 148 [.str s,.str [59]] (.sl .own 1 ((dF 59 s).map bW)):=Gm s 59 (by omega);unfold vJ;by_cases h0:s=[]
 .rw [eK h0];subst h0;refine Fh aD func192 ntmps192 ?_;refine bH ?_;all_goals try(first|(refine ⟨.inr rfl,.inl ?_⟩;simp [aG,results192,Dr];done)|(refine ⟨.inr rfl,.inr (fC ?_)⟩;simp [AS.AU,AS.zC,AS.rv,results192,Dr];done)|(refine ⟨.inr rfl,.inl ?_⟩;simp [aG,results192,Dr]))
 rw [cY h0];by_cases h3:(dF 59 s).length < 3
 .rw [eK h3];have h3':((dF 59 s).length:Int) < 3:=by omega
  generalize dF 59 s=L at *;refine Fh aD func192 ntmps192 ?_;have W:=aA h0 (aA h3' h3);have V:=h0;repeat' first|refine wf ?_|(refine sq ?_ ?_<;>intro hc<;>try exact hc.elim)|fail
  all_goals try(first|(refine ⟨.inr rfl,.inl ?_⟩;simp [aG,results192,Dr];done)|(refine ⟨.inr rfl,.inr (fC ?_)⟩;simp [AS.AU,AS.zC,AS.rv,results192,Dr];done)|(refine ⟨.inr rfl,.inl ?_⟩;simp [aG,results192,Dr]))
  all_goals first|exact absurd (by assumption) h0|omega
 rw [cY h3];have hz:=RL qE U6 h3;have cf:=Gx (qI qE s) (by omega);have cc:=GR (qI qE s) (by omega);obtain ⟨x0,x1,x2,r,hs⟩:∃x0 x1 x2 r,dF 59 s=x0::x1::x2::r:=by
  match hs:dF 59 s with
  |[]=>rw [hs] at h3;simp at h3
  |[_]=>rw [hs] at h3;simp at h3
  |[_,_]=>rw [hs] at h3;simp at h3
  |x0::x1::x2::r=>exact ⟨x0,x1,x2,r,rfl⟩
 have m0:=rF (c:=59) (s:=s) (x:=x0) (by rw [hs];simp);have m1:=rF (c:=59) (s:=s) (x:=x1) (by rw [hs];simp);have m2:=rF (c:=59) (s:=s) (x:=x2) (by rw [hs];simp);have m3:∀x∈r,x.length<=s.length:=λx hx=>rF (c:=59) (s:=s) (x:=x) (by rw [hs];simp [hx])
 have hrl:r.length<=s.length:=by have:=iV 59 s;have h3:=pB (a:=(59:UInt8)) (l:=s);rw [hs] at this;simp at this;omega
 rw [hs] at c0;have e:=FO qE hs;have c1:Ok prog 148 [.str x0,.str [32]] (.sl .own 1 ((dF 32 x0).map bW)):=Gm x0 32 (by omega);have c2:Ok prog 148 [.str x1,.str [32]] (.sl .own 1 ((dF 32 x1).map bW)):=Gm x1 32 (by omega);have c3:Ok prog 148 [.str x2,.str [32]] (.sl .own 1 ((dF 32 x2).map bW)):=Gm x2 32 (by omega);obtain ⟨y0,t0,e0⟩:=tP (pQ 32 x0);obtain ⟨y1,t1,e1⟩:=tP (pQ 32 x1);obtain ⟨y2,t2,e2⟩:=tP (pQ 32 x2);rw [e0] at c1;rw [e1] at c2;rw [e2] at c3;rw [e0,e1,e2] at e;simp only [tail_cons] at e;clear hs m0 m1 m2 e0 e1 e2 h3 hz;have tk:∀(t:List bF),(t.map bW).take t.length=t.map bW:=λt=>cX (by simp)
 have jK:∀n,qI qE s=⟨true,t0,t1,t2,n⟩->Ok prog 243 [.agg [.bool true,.sl .view 1 (t0.map bW),.sl .view 1 (t1.map bW),.sl .view 1 (t2.map bW),.str n]] (.str (iW (qI qE s)))->
   Ok prog 128 [.agg [.bool true,.sl .view 1 (t0.map bW),.sl .view 1 (t1.map bW),.sl .view 1 (t2.map bW),.str n]] (.agg [.bool true,.sl .own 1 (t0.map bW),.sl .own 1 (t1.map bW),.sl .own 1 (t2.map bW),.str n])->
   Ok prog 192 [.str s] (if iW (qI qE s)=s then .iJ [.agg [.bool true,.sl .own 1 (t0.map bW),.sl .own 1 (t1.map bW),.sl .own 1 (t2.map bW),.str n],.bool true] else .iJ [.agg [.bool false,.sl .own 1 [],.sl .own 1 [],.sl .own 1 [],.str []],.bool false]):=by
  intro n hn cF cC;rw [e] at hn;simp only [dL.mk.injEq,true_and] at hn;clear cf cc;generalize iW (qI qE s)=F at *;clear e;subst hn;cases r with
  |nil=>
   simp only [getElem?_nil] at cF cC⊢;by_cases hF:F=s
   .rw [eK hF];refine Fh aD func192 ntmps192 ?_;have W:=aA h0 tk;have V:=aA h0 tk;repeat' first|refine wf ?_|(refine sq ?_ ?_<;>intro hc<;>try exact hc.elim)|fail
    all_goals first|exact absurd (by assumption) h0|(exfalso;omega)|skip
    refine aL (ι:={k:Nat // k<=3}) (λt o i=>⟨bD t [(18,.int .i64 i.1)],o.take 2++[⟨true,true,3,0,[jI i.1]⟩]++(nW (t0.map bW) (t1.map bW) (t2.map bW)).take i.1⟩)
     (λi=>3 - i.1) ⟨0,by omega⟩ (aH (by simp [jI]) (by simp)) ?_
    rintro ⟨k,hk⟩ K1 hK1;have hk4:k=0\/k=1\/k=2\/k=3:=by omega
    rcases hk4 with rfl|rfl|rfl|rfl
    .simp only [bD,cW,cU,eM,gR,eI,eN,jI,nW,fX,pN,gS,gE,Nat.reduceLT] at hK1⊢;have W:=aA h0 tk;have V:=aA h0 tk;refine we ?_;exact hK1 _ ⟨1,by omega⟩ (aH (by simp [jI,nW]) (by simp)) (by simp only;omega)
    .simp only [bD,cW,cU,eM,gR,eI,eN,jI,nW,fX,pN,gS,gE,Nat.reduceLT] at hK1⊢;have W:=aA h0 tk;have V:=aA h0 tk;refine we ?_;exact hK1 _ ⟨2,by omega⟩ (aH (by simp [jI,nW]) (by simp)) (by simp only;omega)
    .simp only [bD,cW,cU,eM,gR,eI,eN,jI,nW,fX,pN,gS,gE,Nat.reduceLT] at hK1⊢;have W:=aA h0 tk;have V:=aA h0 tk;refine we ?_;exact hK1 _ ⟨3,by omega⟩ (aH (by simp [jI,nW]) (by simp)) (by simp only;omega)
    .simp only [bD,cW,cU,eM,gR,eI,eN,jI,nW,fX,pN,gS,gE,Nat.reduceLT] at hK1⊢;have W:=aA h0 (aA tk hF);have V:=aA h0 tk;refine we ?_;all_goals try(first|(refine ⟨.inr rfl,.inl ?_⟩;simp [aG,results192,hF];done)|(refine ⟨.inr rfl,.inr (fC ?_)⟩;simp [AS.AU,AS.zC,AS.rv,results192,hF];done)|(refine ⟨.inr rfl,.inl ?_⟩;simp [aG,results192,hF]))
     all_goals first|exact absurd (by assumption) h0|(exfalso;omega)|simp_all
   .rw [cY hF];refine Fh aD func192 ntmps192 ?_;have W:=aA h0 tk;have V:=aA h0 tk;repeat' first|refine wf ?_|(refine sq ?_ ?_<;>intro hc<;>try exact hc.elim)|fail
    all_goals first|exact absurd (by assumption) h0|(exfalso;omega)|skip
    refine aL (ι:={k:Nat // k<=3}) (λt o i=>⟨bD t [(18,.int .i64 i.1)],o.take 2++[⟨true,true,3,0,[jI i.1]⟩]++(nW (t0.map bW) (t1.map bW) (t2.map bW)).take i.1⟩)
     (λi=>3 - i.1) ⟨0,by omega⟩ (aH (by simp [jI]) (by simp)) ?_
    rintro ⟨k,hk⟩ K1 hK1;have hk4:k=0\/k=1\/k=2\/k=3:=by omega
    rcases hk4 with rfl|rfl|rfl|rfl
    .simp only [bD,cW,cU,eM,gR,eI,eN,jI,nW,fX,pN,gS,gE,Nat.reduceLT] at hK1⊢;have W:=aA h0 tk;have V:=aA h0 tk;refine we ?_;exact hK1 _ ⟨1,by omega⟩ (aH (by simp [jI,nW]) (by simp)) (by simp only;omega)
    .simp only [bD,cW,cU,eM,gR,eI,eN,jI,nW,fX,pN,gS,gE,Nat.reduceLT] at hK1⊢;have W:=aA h0 tk;have V:=aA h0 tk;refine we ?_;exact hK1 _ ⟨2,by omega⟩ (aH (by simp [jI,nW]) (by simp)) (by simp only;omega)
    .simp only [bD,cW,cU,eM,gR,eI,eN,jI,nW,fX,pN,gS,gE,Nat.reduceLT] at hK1⊢;have W:=aA h0 tk;have V:=aA h0 tk;refine we ?_;exact hK1 _ ⟨3,by omega⟩ (aH (by simp [jI,nW]) (by simp)) (by simp only;omega)
    .simp only [bD,cW,cU,eM,gR,eI,eN,jI,nW,fX,pN,gS,gE,Nat.reduceLT] at hK1⊢;have W:=aA h0 (aA tk hF);have V:=aA h0 tk;repeat' first|refine wf ?_|(refine sq ?_ ?_<;>intro hc<;>try exact hc.elim)|fail
     all_goals try(first|(refine ⟨.inr rfl,.inl ?_⟩;simp [aG,results192,hF];done)|(refine ⟨.inr rfl,.inr (fC ?_)⟩;simp [AS.AU,AS.zC,AS.rv,results192,hF];done)|(refine ⟨.inr rfl,.inl ?_⟩;simp [aG,results192,hF]))
     all_goals first|exact absurd (by assumption) h0|(exfalso;omega)|simp_all
  |cons x r=>
   simp only [sL] at cF cC⊢;have c4:=Xq x (by have:=m3 x (by simp);omega);by_cases hF:F=s
   .rw [eK hF];refine Fh aD func192 ntmps192 ?_;have W:=aA h0 tk;have V:=aA h0 tk;repeat' first|refine wf ?_|(refine sq ?_ ?_<;>intro hc<;>try exact hc.elim)|fail
    all_goals first|exact absurd (by assumption) h0|(exfalso;omega)|skip
    refine aL (ι:={k:Nat // k<=3}) (λt o i=>⟨bD t [(18,.int .i64 i.1)],o.take 2++[⟨true,true,3,0,[jI i.1]⟩]++(nW (t0.map bW) (t1.map bW) (t2.map bW)).take i.1⟩)
     (λi=>3 - i.1) ⟨0,by omega⟩ (aH (by simp [jI]) (by simp)) ?_
    rintro ⟨k,hk⟩ K1 hK1;have hk4:k=0\/k=1\/k=2\/k=3:=by omega
    rcases hk4 with rfl|rfl|rfl|rfl
    .simp only [bD,cW,cU,eM,gR,eI,eN,jI,nW,fX,pN,gS,gE,Nat.reduceLT] at hK1⊢;have W:=aA h0 tk;have V:=aA h0 tk;refine we ?_;exact hK1 _ ⟨1,by omega⟩ (aH (by simp [jI,nW]) (by simp)) (by simp only;omega)
    .simp only [bD,cW,cU,eM,gR,eI,eN,jI,nW,fX,pN,gS,gE,Nat.reduceLT] at hK1⊢;have W:=aA h0 tk;have V:=aA h0 tk;refine we ?_;exact hK1 _ ⟨2,by omega⟩ (aH (by simp [jI,nW]) (by simp)) (by simp only;omega)
    .simp only [bD,cW,cU,eM,gR,eI,eN,jI,nW,fX,pN,gS,gE,Nat.reduceLT] at hK1⊢;have W:=aA h0 tk;have V:=aA h0 tk;refine we ?_;exact hK1 _ ⟨3,by omega⟩ (aH (by simp [jI,nW]) (by simp)) (by simp only;omega)
    .simp only [bD,cW,cU,eM,gR,eI,eN,jI,nW,fX,pN,gS,gE,Nat.reduceLT] at hK1⊢;have W:=aA h0 (aA tk hF);have V:=aA h0 tk;refine we ?_;all_goals try(first|(refine ⟨.inr rfl,.inl ?_⟩;simp [aG,results192,hF];done)|(refine ⟨.inr rfl,.inr (fC ?_)⟩;simp [AS.AU,AS.zC,AS.rv,results192,hF];done)|(refine ⟨.inr rfl,.inl ?_⟩;simp [aG,results192,hF]))
     all_goals first|exact absurd (by assumption) h0|(exfalso;omega)|simp_all
   .rw [cY hF];refine Fh aD func192 ntmps192 ?_;have W:=aA h0 tk;have V:=aA h0 tk;repeat' first|refine wf ?_|(refine sq ?_ ?_<;>intro hc<;>try exact hc.elim)|fail
    all_goals first|exact absurd (by assumption) h0|(exfalso;omega)|skip
    refine aL (ι:={k:Nat // k<=3}) (λt o i=>⟨bD t [(18,.int .i64 i.1)],o.take 2++[⟨true,true,3,0,[jI i.1]⟩]++(nW (t0.map bW) (t1.map bW) (t2.map bW)).take i.1⟩)
     (λi=>3 - i.1) ⟨0,by omega⟩ (aH (by simp [jI]) (by simp)) ?_
    rintro ⟨k,hk⟩ K1 hK1;have hk4:k=0\/k=1\/k=2\/k=3:=by omega
    rcases hk4 with rfl|rfl|rfl|rfl
    .simp only [bD,cW,cU,eM,gR,eI,eN,jI,nW,fX,pN,gS,gE,Nat.reduceLT] at hK1⊢;have W:=aA h0 tk;have V:=aA h0 tk;refine we ?_;exact hK1 _ ⟨1,by omega⟩ (aH (by simp [jI,nW]) (by simp)) (by simp only;omega)
    .simp only [bD,cW,cU,eM,gR,eI,eN,jI,nW,fX,pN,gS,gE,Nat.reduceLT] at hK1⊢;have W:=aA h0 tk;have V:=aA h0 tk;refine we ?_;exact hK1 _ ⟨2,by omega⟩ (aH (by simp [jI,nW]) (by simp)) (by simp only;omega)
    .simp only [bD,cW,cU,eM,gR,eI,eN,jI,nW,fX,pN,gS,gE,Nat.reduceLT] at hK1⊢;have W:=aA h0 tk;have V:=aA h0 tk;refine we ?_;exact hK1 _ ⟨3,by omega⟩ (aH (by simp [jI,nW]) (by simp)) (by simp only;omega)
    .simp only [bD,cW,cU,eM,gR,eI,eN,jI,nW,fX,pN,gS,gE,Nat.reduceLT] at hK1⊢;have W:=aA h0 (aA tk hF);have V:=aA h0 tk;repeat' first|refine wf ?_|(refine sq ?_ ?_<;>intro hc<;>try exact hc.elim)|fail
     all_goals try(first|(refine ⟨.inr rfl,.inl ?_⟩;simp [aG,results192,hF];done)|(refine ⟨.inr rfl,.inr (fC ?_)⟩;simp [AS.AU,AS.zC,AS.rv,results192,hF];done)|(refine ⟨.inr rfl,.inl ?_⟩;simp [aG,results192,hF]))
     all_goals first|exact absurd (by assumption) h0|(exfalso;omega)|simp_all
 have hcp:=jK _ e (by rw [e] at cf⊢;simpa only [bM] using cf) (by rw [e] at cc;simpa only [bM] using cc);by_cases hF:iW (qI qE s)=s
 .rw [eK hF] at hcp⊢;rw [e];simpa only [bM] using hcp
 .rw [cY hF] at hcp⊢;simpa only [bM,Dr,EV] using hcp
end Go.Proofs.YtjmpjmilndkgfaaGreatDoor
