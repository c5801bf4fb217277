/- Proved here: steps towards the statement of this claim. No condition. -/
import Derived.Test.YtdcpobkemdacnaaGreatDoorZQJ4
set_option linter.all false
set_option maxRecDepth 4000
set_option maxHeartbeats 4000000
namespace Go.Proofs.YtdcpobkemdacnaaGreatDoor
open Go.Aw Proofs.Tryz List IntKind
theorem GV [aC prog] [bR prog] (s:bB) (c:UInt8) (hs:s.length < 4294967281):Ok prog 132 [.str s,.str [c]] (.sl .own 1 ((dG c s).map dD)):=QP Tryz.laysM146 (by kernel_rfl) s c hs
theorem Ru [aC prog] [bR prog] (s p:bB) (hl:s.length<=1099511627776) (hp:p.length<=1099511627776):Ok prog 187 [.str s,.str p] (.str (if BU p s=true then s.drop p.length else s)):=by
 have c1:=KF s p hl hp;have h1:= @Rt p s;generalize BU p s=b at *;cases b
 .refine bO aD func187 ntmps187 ?_;refine aZ ?_;exact aF results187
 .have h2:=h1 rfl;refine bO aD func187 ntmps187 ?_;have W:=h2;refine we ?_;exact aF results187
theorem qh (x:bB):qY x=if BU oQ x=true then x.drop oQ.length else x:=by
 unfold qY;have e:oQ.isPrefixOf x=BU oQ x:=by
  have h1:oQ.isPrefixOf x=true↔BU oQ x=true:=by
   rw [isPrefixOf_iff_prefix,prefix_iff_eq_take];simp only [BU,eJ,fR,Bs];constructor
   .intro h;refine ⟨?_,h.symm⟩;have:=An length h;rw [oR] at this;omega
   .intro h;exact h.2.symm
  cases h2:BU oQ x<;>cases h3:oQ.isPrefixOf x<;>simp_all
 rw [e];rfl
theorem O7 (x:bB):(qY x).length<=x.length:=by unfold qY;split<;>simp
theorem Xy [aC prog] [bR prog] (x:bB) (hl:x.length<=1099511627776):Ok prog 133 [.str x,.str [110,111,110,99,101,32]] (.str (qY x)):=by have c1:Ok prog 187 [.str x,.str [110,111,110,99,101,32]] (.str (if BU oQ x=true then x.drop oQ.length else x)):=Ru x oQ hl (by decide);rw [<-qh] at c1;generalize qY x=n at *;refine bO aD func133 ntmps133 ?_;refine aZ ?_;exact aF results133
def jK (k:Nat):List AV:=[if 0 < k then .obj 3 2 else .sl .own 1 [],if 1 < k then .obj 4 2 else .sl .own 1 [],if 2 < k then .obj 5 2 else .sl .own 1 []]
def pE (a b c:List (List AV)):List aN:=[⟨true,false,1,2,a⟩,⟨true,false,1,2,b⟩,⟨true,false,1,2,c⟩]
theorem Hr [aC prog] [bR prog] (s:bB) (hl:s.length<=1073741824):Ok prog 77 [.str s] (.gZ [.agg (bP .own (uY qY s).1),.bool (uY qY s).2]):=by
 have c0:Ok prog 132 [.str s,.str [59]] (.sl .own 1 ((dG 59 s).map dD)):=GV s 59 (by omega);unfold uY;by_cases h0:s=[]
 .rw [eI h0];subst h0;refine xL aD func77 ntmps77 ?_;refine aZ ?_;all_goals try(first|(refine ⟨.inr rfl,.inl ?_⟩;simp [aH,results77,oM];done)|(refine ⟨.inr rfl,.inr (dA ?_)⟩;simp [AS.vV,AS.uS,AS.rv,results77,oM];done)|(refine ⟨.inr rfl,.inl ?_⟩;simp [aH,results77,oM]))
 rw [cX h0];by_cases h3:(dG 59 s).length < 3
 .rw [eI h3];have h3':((dG 59 s).length:Int) < 3:=by omega
  generalize dG 59 s=L at *;refine xL aD func77 ntmps77 ?_;have W:=aA h0 (aA h3' h3);have V:=h0;repeat' first|refine wf ?_|(refine sq ?_ ?_<;>intro hc<;>try exact hc.elim)|fail
  all_goals try(first|(refine ⟨.inr rfl,.inl ?_⟩;simp [aH,results77,oM];done)|(refine ⟨.inr rfl,.inr (dA ?_)⟩;simp [AS.vV,AS.uS,AS.rv,results77,oM];done)|(refine ⟨.inr rfl,.inl ?_⟩;simp [aH,results77,oM]))
  all_goals first|exact absurd (by assumption) h0|omega
 rw [cX h3];have hz:=Jq qY O7 h3;have cf:=Hq (rF qY s) (by omega);have cc:=Im (rF qY s) (by omega);obtain ⟨x0,x1,x2,r,hs⟩:∃x0 x1 x2 r,dG 59 s=x0::x1::x2::r:=by
  match hs:dG 59 s with
  |[]=>rw [hs] at h3;simp at h3
  |[_]=>rw [hs] at h3;simp at h3
  |[_,_]=>rw [hs] at h3;simp at h3
  |x0::x1::x2::r=>exact ⟨x0,x1,x2,r,rfl⟩
 have m0:=rY (c:=59) (s:=s) (x:=x0) (by rw [hs];simp);have m1:=rY (c:=59) (s:=s) (x:=x1) (by rw [hs];simp);have m2:=rY (c:=59) (s:=s) (x:=x2) (by rw [hs];simp);have m3:∀x∈r,x.length<=s.length:=λx hx=>rY (c:=59) (s:=s) (x:=x) (by rw [hs];simp [hx])
 have hrl:r.length<=s.length:=by have:=iW 59 s;have h3:=pD (a:=(59:UInt8)) (l:=s);rw [hs] at this;simp at this;omega
 rw [hs] at c0;have e:=FT qY hs;have c1:Ok prog 132 [.str x0,.str [32]] (.sl .own 1 ((dG 32 x0).map dD)):=GV x0 32 (by omega);have c2:Ok prog 132 [.str x1,.str [32]] (.sl .own 1 ((dG 32 x1).map dD)):=GV x1 32 (by omega);have c3:Ok prog 132 [.str x2,.str [32]] (.sl .own 1 ((dG 32 x2).map dD)):=GV x2 32 (by omega);obtain ⟨y0,t0,e0⟩:=tM (qL 32 x0);obtain ⟨y1,t1,e1⟩:=tM (qL 32 x1);obtain ⟨y2,t2,e2⟩:=tM (qL 32 x2);rw [e0] at c1;rw [e1] at c2;rw [e2] at c3;rw [e0,e1,e2] at e;simp only [tail_cons] at e;clear hs m0 m1 m2 e0 e1 e2 h3 hz;have tk:∀(t:List bB),(t.map dD).take t.length=t.map dD:=λt=>cY (by simp)
 have jU:∀n,rF qY s=⟨true,t0,t1,t2,n⟩->Ok prog 134 [.agg [.bool true,.sl .view 1 (t0.map dD),.sl .view 1 (t1.map dD),.sl .view 1 (t2.map dD),.str n]] (.str (iY (rF qY s)))->
   Ok prog 135 [.agg [.bool true,.sl .view 1 (t0.map dD),.sl .view 1 (t1.map dD),.sl .view 1 (t2.map dD),.str n]] (.agg [.bool true,.sl .own 1 (t0.map dD),.sl .own 1 (t1.map dD),.sl .own 1 (t2.map dD),.str n])->
   Ok prog 77 [.str s] (if iY (rF qY s)=s then .gZ [.agg [.bool true,.sl .own 1 (t0.map dD),.sl .own 1 (t1.map dD),.sl .own 1 (t2.map dD),.str n],.bool true] else .gZ [.agg [.bool false,.sl .own 1 [],.sl .own 1 [],.sl .own 1 [],.str []],.bool false]):=by
  intro n hn cF cC;rw [e] at hn;simp only [eY.mk.injEq,true_and] at hn;clear cf cc;generalize iY (rF qY s)=F at *;clear e;subst hn;cases r with
  |nil=>
   simp only [getElem?_nil] at cF cC⊢;by_cases hF:F=s
   .rw [eI hF];refine xL aD func77 ntmps77 ?_;have W:=aA h0 tk;have V:=aA h0 tk;repeat' first|refine wf ?_|(refine sq ?_ ?_<;>intro hc<;>try exact hc.elim)|fail
    all_goals first|exact absurd (by assumption) h0|(exfalso;omega)|skip
    refine aP (ι:={k:Nat // k<=3}) (λt o i=>⟨bE t [(18,.int .i64 i.1)],o.take 2++[⟨true,true,3,0,[jK i.1]⟩]++(pE (t0.map dD) (t1.map dD) (t2.map dD)).take i.1⟩)
     (λi=>3 - i.1) ⟨0,by omega⟩ (aO (by simp [jK]) (by simp)) ?_
    rintro ⟨k,hk⟩ K1 hK1;have hk4:k=0\/k=1\/k=2\/k=3:=by omega
    rcases hk4 with rfl|rfl|rfl|rfl
    .simp only [bE,cW,cU,eL,fS,eA,eM,jK,pE,fY,pN,hH,gO,Nat.reduceLT] at hK1⊢;have W:=aA h0 tk;have V:=aA h0 tk;refine we ?_;exact hK1 _ ⟨1,by omega⟩ (aO (by simp [jK,pE]) (by simp)) (by simp only;omega)
    .simp only [bE,cW,cU,eL,fS,eA,eM,jK,pE,fY,pN,hH,gO,Nat.reduceLT] at hK1⊢;have W:=aA h0 tk;have V:=aA h0 tk;refine we ?_;exact hK1 _ ⟨2,by omega⟩ (aO (by simp [jK,pE]) (by simp)) (by simp only;omega)
    .simp only [bE,cW,cU,eL,fS,eA,eM,jK,pE,fY,pN,hH,gO,Nat.reduceLT] at hK1⊢;have W:=aA h0 tk;have V:=aA h0 tk;refine we ?_;exact hK1 _ ⟨3,by omega⟩ (aO (by simp [jK,pE]) (by simp)) (by simp only;omega)
    .simp only [bE,cW,cU,eL,fS,eA,eM,jK,pE,fY,pN,hH,gO,Nat.reduceLT] at hK1⊢;have W:=aA h0 (aA tk hF);have V:=aA h0 tk;refine we ?_;all_goals try(first|(refine ⟨.inr rfl,.inl ?_⟩;simp [aH,results77,hF];done)|(refine ⟨.inr rfl,.inr (dA ?_)⟩;simp [AS.vV,AS.uS,AS.rv,results77,hF];done)|(refine ⟨.inr rfl,.inl ?_⟩;simp [aH,results77,hF]))
     all_goals first|exact absurd (by assumption) h0|(exfalso;omega)|simp_all
   .rw [cX hF];refine xL aD func77 ntmps77 ?_;have W:=aA h0 tk;have V:=aA h0 tk;repeat' first|refine wf ?_|(refine sq ?_ ?_<;>intro hc<;>try exact hc.elim)|fail
    all_goals first|exact absurd (by assumption) h0|(exfalso;omega)|skip
    refine aP (ι:={k:Nat // k<=3}) (λt o i=>⟨bE t [(18,.int .i64 i.1)],o.take 2++[⟨true,true,3,0,[jK i.1]⟩]++(pE (t0.map dD) (t1.map dD) (t2.map dD)).take i.1⟩)
     (λi=>3 - i.1) ⟨0,by omega⟩ (aO (by simp [jK]) (by simp)) ?_
    rintro ⟨k,hk⟩ K1 hK1;have hk4:k=0\/k=1\/k=2\/k=3:=by omega
    rcases hk4 with rfl|rfl|rfl|rfl
    .simp only [bE,cW,cU,eL,fS,eA,eM,jK,pE,fY,pN,hH,gO,Nat.reduceLT] at hK1⊢;have W:=aA h0 tk;have V:=aA h0 tk;refine we ?_;exact hK1 _ ⟨1,by omega⟩ (aO (by simp [jK,pE]) (by simp)) (by simp only;omega)
    .simp only [bE,cW,cU,eL,fS,eA,eM,jK,pE,fY,pN,hH,gO,Nat.reduceLT] at hK1⊢;have W:=aA h0 tk;have V:=aA h0 tk;refine we ?_;exact hK1 _ ⟨2,by omega⟩ (aO (by simp [jK,pE]) (by simp)) (by simp only;omega)
    .simp only [bE,cW,cU,eL,fS,eA,eM,jK,pE,fY,pN,hH,gO,Nat.reduceLT] at hK1⊢;have W:=aA h0 tk;have V:=aA h0 tk;refine we ?_;exact hK1 _ ⟨3,by omega⟩ (aO (by simp [jK,pE]) (by simp)) (by simp only;omega)
    .simp only [bE,cW,cU,eL,fS,eA,eM,jK,pE,fY,pN,hH,gO,Nat.reduceLT] at hK1⊢;have W:=aA h0 (aA tk hF);have V:=aA h0 tk;repeat' first|refine wf ?_|(refine sq ?_ ?_<;>intro hc<;>try exact hc.elim)|fail
     all_goals try(first|(refine ⟨.inr rfl,.inl ?_⟩;simp [aH,results77,hF];done)|(refine ⟨.inr rfl,.inr (dA ?_)⟩;simp [AS.vV,AS.uS,AS.rv,results77,hF];done)|(refine ⟨.inr rfl,.inl ?_⟩;simp [aH,results77,hF]))
     all_goals first|exact absurd (by assumption) h0|(exfalso;omega)|simp_all
  |cons x r=>
   simp only [sC] at cF cC⊢;have c4:=Xy x (by have:=m3 x (by simp);omega);by_cases hF:F=s
   .rw [eI hF];refine xL aD func77 ntmps77 ?_;have W:=aA h0 tk;have V:=aA h0 tk;repeat' first|refine wf ?_|(refine sq ?_ ?_<;>intro hc<;>try exact hc.elim)|fail
    all_goals first|exact absurd (by assumption) h0|(exfalso;omega)|skip
    refine aP (ι:={k:Nat // k<=3}) (λt o i=>⟨bE t [(18,.int .i64 i.1)],o.take 2++[⟨true,true,3,0,[jK i.1]⟩]++(pE (t0.map dD) (t1.map dD) (t2.map dD)).take i.1⟩)
     (λi=>3 - i.1) ⟨0,by omega⟩ (aO (by simp [jK]) (by simp)) ?_
    rintro ⟨k,hk⟩ K1 hK1;have hk4:k=0\/k=1\/k=2\/k=3:=by omega
    rcases hk4 with rfl|rfl|rfl|rfl
    .simp only [bE,cW,cU,eL,fS,eA,eM,jK,pE,fY,pN,hH,gO,Nat.reduceLT] at hK1⊢;have W:=aA h0 tk;have V:=aA h0 tk;refine we ?_;exact hK1 _ ⟨1,by omega⟩ (aO (by simp [jK,pE]) (by simp)) (by simp only;omega)
    .simp only [bE,cW,cU,eL,fS,eA,eM,jK,pE,fY,pN,hH,gO,Nat.reduceLT] at hK1⊢;have W:=aA h0 tk;have V:=aA h0 tk;refine we ?_;exact hK1 _ ⟨2,by omega⟩ (aO (by simp [jK,pE]) (by simp)) (by simp only;omega)
    .simp only [bE,cW,cU,eL,fS,eA,eM,jK,pE,fY,pN,hH,gO,Nat.reduceLT] at hK1⊢;have W:=aA h0 tk;have V:=aA h0 tk;refine we ?_;exact hK1 _ ⟨3,by omega⟩ (aO (by simp [jK,pE]) (by simp)) (by simp only;omega)
    .simp only [bE,cW,cU,eL,fS,eA,eM,jK,pE,fY,pN,hH,gO,Nat.reduceLT] at hK1⊢;have W:=aA h0 (aA tk hF);have V:=aA h0 tk;refine we ?_;all_goals try(first|(refine ⟨.inr rfl,.inl ?_⟩;simp [aH,results77,hF];done)|(refine ⟨.inr rfl,.inr (dA ?_)⟩;simp [AS.vV,AS.uS,AS.rv,results77,hF];done)|(refine ⟨.inr rfl,.inl ?_⟩;simp [aH,results77,hF]))
     all_goals first|exact absurd (by assumption) h0|(exfalso;omega)|simp_all
   .rw [cX hF];refine xL aD func77 ntmps77 ?_;have W:=aA h0 tk;have V:=aA h0 tk;repeat' first|refine wf ?_|(refine sq ?_ ?_<;>intro hc<;>try exact hc.elim)|fail
    all_goals first|exact absurd (by assumption) h0|(exfalso;omega)|skip
    refine aP (ι:={k:Nat // k<=3}) (λt o i=>⟨bE t [(18,.int .i64 i.1)],o.take 2++[⟨true,true,3,0,[jK i.1]⟩]++(pE (t0.map dD) (t1.map dD) (t2.map dD)).take i.1⟩)
     (λi=>3 - i.1) ⟨0,by omega⟩ (aO (by simp [jK]) (by simp)) ?_
    rintro ⟨k,hk⟩ K1 hK1;have hk4:k=0\/k=1\/k=2\/k=3:=by omega
    rcases hk4 with rfl|rfl|rfl|rfl
    .simp only [bE,cW,cU,eL,fS,eA,eM,jK,pE,fY,pN,hH,gO,Nat.reduceLT] at hK1⊢;have W:=aA h0 tk;have V:=aA h0 tk;refine we ?_;exact hK1 _ ⟨1,by omega⟩ (aO (by simp [jK,pE]) (by simp)) (by simp only;omega)
    .simp only [bE,cW,cU,eL,fS,eA,eM,jK,pE,fY,pN,hH,gO,Nat.reduceLT] at hK1⊢;have W:=aA h0 tk;have V:=aA h0 tk;refine we ?_;exact hK1 _ ⟨2,by omega⟩ (aO (by simp [jK,pE]) (by simp)) (by simp only;omega)
    .simp only [bE,cW,cU,eL,fS,eA,eM,jK,pE,fY,pN,hH,gO,Nat.reduceLT] at hK1⊢;have W:=aA h0 tk;have V:=aA h0 tk;refine we ?_;exact hK1 _ ⟨3,by omega⟩ (aO (by simp [jK,pE]) (by simp)) (by simp only;omega)
    .simp only [bE,cW,cU,eL,fS,eA,eM,jK,pE,fY,pN,hH,gO,Nat.reduceLT] at hK1⊢;have W:=aA h0 (aA tk hF);have V:=aA h0 tk;repeat' first|refine wf ?_|(refine sq ?_ ?_<;>intro hc<;>try exact hc.elim)|fail
     all_goals try(first|(refine ⟨.inr rfl,.inl ?_⟩;simp [aH,results77,hF];done)|(refine ⟨.inr rfl,.inr (dA ?_)⟩;simp [AS.vV,AS.uS,AS.rv,results77,hF];done)|(refine ⟨.inr rfl,.inl ?_⟩;simp [aH,results77,hF]))
     all_goals first|exact absurd (by assumption) h0|(exfalso;omega)|simp_all
 have hcp:=jU _ e (by rw [e] at cf⊢;simpa only [bP] using cf) (by rw [e] at cc;simpa only [bP] using cc);by_cases hF:iY (rF qY s)=s
 .rw [eI hF] at hcp⊢;rw [e];simpa only [bP] using hcp
 .rw [cX hF] at hcp⊢;simpa only [bP,oM,Dg] using hcp
end Go.Proofs.YtdcpobkemdacnaaGreatDoor
