/-
  Proved here: steps towards the statement of this claim, text LFnParser.
  No condition beyond what each statement spells out.
-/
import Derived.Test.YtjkdolejalpflaaGreatDoorZQDRL
import Derived.Test.YtjkdolejalpflaaGreatDoorZSP1
set_option linter.all false
set_option maxRecDepth 8000
set_option maxHeartbeats 8000000
namespace Go.Proofs.YtjkdolejalpflaaGreatDoor
open Go.Aw Proofs.Tryz List IntKind
theorem QP[aB prog][eZ prog][eD prog][oO prog](d:List UInt8)(hwd:d.length<=9223372036854775807):Ok prog 3 [.sl .view 1 (aR d)] (.bool true):=by
 have cb:=aB3 d hwd;have cq:=BF d;have cr:=Fb d;refine rR aJ [6,8,11,15] func3 ntmps3 ?_;have W:=trivial;repeat' first|refine st ?_|(refine nx ?_;refine so ?_)|(refine cx ?_;refine sc (λhc=>?_) (λhc=>?_)<;>try exact hc.elim)|(refine lx ?_;refine sp (λhc=>?_) (λhc=>?_)<;>try exact hc.elim)|refine sx ?_ ?_|refine sy ?_ ?_|fail
 .all_goals (try exact aO results3)
 .refine ce (cq) ?_;rintro _ ⟨p,rfl,hp⟩;simp only[AS.called,AS.put,aQ,aM,fO,cB,fI,bS,fU,bZ,cH,cG,cY,cW,cM];obtain⟨hz,hme⟩:=hp.sz (by omega);have hsl:=hp.sl;have hp1:=Pt hp (by omega);obtain⟨hz1,_⟩:=hp1.sz (by omega);have c1:=(Gu p (by omega)).Cx (r':= .fH [.agg (aL .view (eO p).1),.bool (eO p).2]) (by simp[rt]);have c2:=(zA p (by omega)).Cx (r':= .fH [.agg (aL .view (eO p).1),.bool (eO p).2]) (by simp[rt]);have e1:=zL (eO p).1 (by omega);have hno:=λh=>qw (p:=p) h
  have hbl:=λh1 h2 h3 h4=>Ug (p:=p) h1 h2 h3 h4 hsl
  have ct:=(Ak p (by omega)).Cx (r':= .fH [.agg (aL .view (dJ p).1),.bool (dJ p).2]) (by simp[rt]);have htn:=λh=>Uf (p:=p) h
  have hty:=λh=>YJ (p:=p) h
  have ep:=zL p (by omega);have cs:=xL p (by omega);have ci:=JG p;clear hp hp1 hme;generalize (eO p).1=x1 at*;generalize (eO p).2=ok at*;generalize (dJ p).1=z1 at*;generalize (dJ p).2=tk at*;have hru:=λ(u:aW) (c:aX) (w:Bool)=>Uh u c w
  simp only[aL]at c1 c2⊢;have W:=trivial;repeat' first|refine st ?_|(refine nx ?_;refine so ?_)|(refine cx ?_;refine sc (λhc=>?_) (λhc=>?_)<;>try exact hc.elim)|(refine lx ?_;refine sp (λhc=>?_) (λhc=>?_)<;>try exact hc.elim)|refine sx ?_ ?_|refine sy ?_ ?_|fail
  refine Gp (λs'=>kR s' ⟨[.sl .view 1 (aR d),.undef,.bool false,.ptr 0 0 0 0,.undef,.bool ok,.undef,.undef,.undef,.undef,.undef,.undef,.undef,.undef,.undef,.undef,.undef,.undef,.undef,.undef,.undef,.undef,.undef,.undef,.undef,.undef,.undef,.undef,.undef,.undef,.undef,.undef,.undef,.undef,.undef,.undef,.undef,.undef,.undef,.undef,.undef,.undef,.undef,.undef,.undef,.undef,.undef,.undef,.undef,.undef,.undef,.undef,.undef,.undef,.undef,.undef,.undef,.undef,.undef,.undef,.undef,.undef,.undef,.undef,.undef,.undef,.undef,.undef,.undef,.undef,.undef,.undef,.undef,.undef,.undef,.undef,.undef,.undef,.undef,.undef,.undef,.undef,.undef,.undef,.undef,.undef,.undef,.undef,.undef,.undef,.undef,.undef,.undef,.undef,.undef,.undef,.undef,.undef,.undef,.undef,.undef,.undef,.undef,.undef,.undef,.undef,.undef,.undef,.undef,.undef,.undef,.undef,.undef,.undef,.undef,.undef,.undef,.undef,.undef,.undef,.undef,.undef,.undef,.undef,.undef,.undef,.undef,.undef,.undef,.undef,.undef,.undef,.undef,.undef,.undef,.undef,.undef,.undef,.undef,.undef,.undef,.undef,.undef,.undef,.undef,.undef,.undef,.undef,.undef,.undef,.undef,.undef,.undef,.undef,.undef,.undef,.undef,.undef,.undef,.undef,.undef,.undef,.undef,.undef,.undef,.undef,.undef,.undef,.undef,.undef,.undef,.undef,.undef,.undef,.undef,.undef,.undef,.undef,.undef,.undef,.undef,.undef,.undef,.undef],[⟨true,true,22,0,[aL .view p]⟩]⟩) ?_ ?_
  rotate_left
  .rw [qU];clear c1 c2 hbl ct htn hty cs ci cr cq hru;cases ok
   .obtain rfl:=hno rfl;clear hno;simp only[aL]at ep e1⊢;have W:=trivial;repeat' first|refine st ?_|(refine nx ?_;refine so ?_)|(refine cx ?_;refine sc (λhc=>?_) (λhc=>?_)<;>try exact hc.elim)|(refine lx ?_;refine sp (λhc=>?_) (λhc=>?_)<;>try exact hc.elim)|refine sx ?_ ?_|refine sy ?_ ?_|fail
    exact⟨rfl,aS 1 (by simp[aL]) (by simp) (by simp) (by simp)⟩
   .clear hno;simp only[aL]at ep e1⊢;have W:=trivial;repeat' first|refine st ?_|(refine nx ?_;refine so ?_)|(refine cx ?_;refine sc (λhc=>?_) (λhc=>?_)<;>try exact hc.elim)|(refine lx ?_;refine sp (λhc=>?_) (λhc=>?_)<;>try exact hc.elim)|refine sx ?_ ?_|refine sy ?_ ?_|fail
    exact⟨rfl,aS 1 (by simp[aL]) (by simp) (by simp) (by simp)⟩
  .intro s' hwk;clear c1 c2 e1 hno;rw[qU];repeat refine go_seq ?_
   refine AB hwk ?_;clear hwk;refine Gp (λs'=>kR s' ⟨[.sl .view 1 (aR d),.undef,.bool false,.ptr 0 0 0 0,.undef,.undef,.undef,.undef,.undef,.undef,.undef,.undef,.undef,.undef,.undef,.undef,.undef,.undef,.undef,.undef,.undef,.undef,.undef,.undef,.undef,.undef,.undef,.undef,.undef,.undef,.undef,.undef,.undef,.undef,.undef,.undef,.undef,.undef,.undef,.undef,.undef,.undef,.undef,.undef,.undef,.undef,.undef,.undef,.undef,.undef,.undef,.undef,.undef,.undef,.undef,.undef,.undef,.undef,.undef,.undef,.undef,.undef,.undef,.undef,.undef,.undef,.undef,.undef,.undef,.undef,.undef,.undef,.undef,.undef,.undef,.undef,.undef,.undef,.undef,.undef,.undef,.undef,.undef,.undef,.undef,.undef,.undef,.undef,.undef,.undef,.undef,.undef,.undef,.undef,.undef,.undef,.undef,.undef,.undef,.undef,.undef,.undef,.undef,.undef,.undef,.undef,.undef,.undef,.undef,.undef,.undef,.undef,.undef,.undef,.undef,.undef,.undef,.undef,.undef,.undef,.undef,.undef,.undef,.undef,.undef,.undef,.undef,.undef,.undef,.undef,.undef,.undef,.undef,.undef,.undef,.undef,.undef,.undef,.undef,.undef,.undef,.undef,.undef,.undef,.undef,.undef,.undef,.undef,.undef,.undef,.undef,.undef,.undef,.undef,.undef,.undef,.undef,.undef,.undef,.undef,.undef,.undef,.undef,.undef,.undef,.undef,.undef,.undef,.undef,.undef,.undef,.undef,.undef,.undef,.undef,.undef,.undef,.undef,.undef,.undef,.undef,.undef,.undef,.undef],[⟨true,true,22,0,[aL .view p]⟩]⟩) ?_ ?_
   rotate_left
   .clear ct htn hty ep ci cr cq hru;simp only[aL]at cs⊢;cases ok
    .have W:=trivial;repeat' first|refine st ?_|(refine nx ?_;refine so ?_)|(refine cx ?_;refine sc (λhc=>?_) (λhc=>?_)<;>try exact hc.elim)|(refine lx ?_;refine sp (λhc=>?_) (λhc=>?_)<;>try exact hc.elim)|refine sx ?_ ?_|refine sy ?_ ?_|fail
     exact⟨rfl,aS 1 (by simp[aL]) (by simp) (by simp) (by simp)⟩
    .by_cases h1:0<p.block
     .by_cases h2:p.block<=p.aG.length
      .by_cases h3:p.inline=0
       .obtain ⟨⟨s,hg,hd⟩,hst⟩:=hbl rfl h1 h2 h3;rw[hst,h3]at cs;have hw:i64.wrap (p.block-1)=((p.block-1).toNat:Int):=by rw[wrap64]<;>omega
        have hn0:((p.block-1).toNat:Int)<(p.aG.length:Int):=by omega
        generalize (p.block-1).toNat=n at*;have W:=aA h1 (aA h2 (aA h3 (aA hw (aA hg (aA hd hn0)))));repeat' first|refine st ?_|(refine nx ?_;refine so ?_)|(refine cx ?_;refine sc (λhc=>?_) (λhc=>?_)<;>try exact hc.elim)|(refine lx ?_;refine sp (λhc=>?_) (λhc=>?_)<;>try exact hc.elim)|refine sx ?_ ?_|refine sy ?_ ?_|fail
        exact⟨rfl,aS 1 (by simp[aL,h3]) (by simp) (by simp) (by simp)⟩
       .have W:=aA h1 (aA h2 h3);repeat' first|refine st ?_|(refine nx ?_;refine so ?_)|(refine cx ?_;refine sc (λhc=>?_) (λhc=>?_)<;>try exact hc.elim)|(refine lx ?_;refine sp (λhc=>?_) (λhc=>?_)<;>try exact hc.elim)|refine sx ?_ ?_|refine sy ?_ ?_|fail
        exact⟨rfl,aS 1 (by simp[aL]) (by simp) (by simp) (by simp)⟩
      .have W:=aA h1 h2;repeat' first|refine st ?_|(refine nx ?_;refine so ?_)|(refine cx ?_;refine sc (λhc=>?_) (λhc=>?_)<;>try exact hc.elim)|(refine lx ?_;refine sp (λhc=>?_) (λhc=>?_)<;>try exact hc.elim)|refine sx ?_ ?_|refine sy ?_ ?_|fail
       exact⟨rfl,aS 1 (by simp[aL]) (by simp) (by simp) (by simp)⟩
     .have W:=h1;repeat' first|refine st ?_|(refine nx ?_;refine so ?_)|(refine cx ?_;refine sc (λhc=>?_) (λhc=>?_)<;>try exact hc.elim)|(refine lx ?_;refine sp (λhc=>?_) (λhc=>?_)<;>try exact hc.elim)|refine sx ?_ ?_|refine sy ?_ ?_|fail
      exact⟨rfl,aS 1 (by simp[aL]) (by simp) (by simp) (by simp)⟩
   .intro s' hwk;clear hbl cs;repeat refine go_seq ?_
    refine AB hwk ?_;clear hwk;simp only[aL]at ct⊢;have W:=trivial;repeat' first|refine st ?_|(refine nx ?_;refine so ?_)|(refine cx ?_;refine sc (λhc=>?_) (λhc=>?_)<;>try exact hc.elim)|(refine lx ?_;refine sp (λhc=>?_) (λhc=>?_)<;>try exact hc.elim)|refine sx ?_ ?_|refine sy ?_ ?_|fail
    refine Gp (λs'=>kR s' ⟨[.sl .view 1 (aR d),.undef,.bool false,.ptr 0 0 0 0,.undef,.undef,.undef,.undef,.undef,.undef,.undef,.undef,.undef,.undef,.undef,.undef,.undef,.undef,.undef,.undef,.undef,.undef,.undef,.undef,.undef,.undef,.undef,.undef,.undef,.undef,.undef,.undef,.undef,.undef,.undef,.undef,.undef,.undef,.undef,.undef,.undef,.undef,.undef,.undef,.undef,.undef,.undef,.undef,.undef,.undef,.undef,.undef,.undef,.undef,.undef,.undef,.undef,.undef,.undef,.undef,.undef,.undef,.undef,.undef,.undef,.undef,.undef,.undef,.undef,.undef,.undef,.undef,.undef,.undef,.undef,.undef,.undef,.undef,.undef,.undef,.undef,.undef,.undef,.undef,.undef,.undef,.undef,.undef,.undef,.undef,.undef,.undef,.undef,.undef,.undef,.undef,.undef,.undef,.undef,.undef,.undef,.undef,.undef,.undef,.undef,.undef,.undef,.undef,.undef,.undef,.undef,.undef,.undef,.undef,.undef,.undef,.undef,.undef,.undef,.undef,.undef,.undef,.undef,.undef,.undef,.undef,.undef,.undef,.undef,.undef,.undef,.undef,.undef,.undef,.undef,.undef,.undef,.undef,.undef,.undef,.undef,.undef,.undef,.undef,.undef,.undef,.undef,.undef,.undef,.undef,.undef,.undef,.undef,.undef,.undef,.undef,.undef,.undef,.undef,.undef,.undef,.undef,.undef,.undef,.undef,.undef,.undef,.undef,.undef,.undef,.undef,.undef,.undef,.undef,.undef,.undef,.undef,.undef,.undef,.undef,.undef,.undef,.undef,.undef],[⟨true,true,22,0,[aL .view p]⟩]⟩) ?_ ?_
    rotate_left
    .rw [qU];clear ct ci cr cq hru;cases tk
     .obtain rfl:=htn rfl;clear htn hty;simp only[aL]at ep⊢;have W:=trivial;repeat' first|refine st ?_|(refine nx ?_;refine so ?_)|(refine cx ?_;refine sc (λhc=>?_) (λhc=>?_)<;>try exact hc.elim)|(refine lx ?_;refine sp (λhc=>?_) (λhc=>?_)<;>try exact hc.elim)|refine sx ?_ ?_|refine sy ?_ ?_|fail
      exact⟨rfl,aS 1 (by simp[aL]) (by simp) (by simp) (by simp)⟩
     .obtain ⟨t1,t2,t3,t4⟩:=hty rfl;clear htn hty ep;have t5:¬((p.queue.length:Int)=0):=by
       cases hq:p.queue with
       |nil=>exact(t1 hq).elim
       |cons _ _=>simp;omega
      have hw:i64.wrap ((p.queue.length:Int)-1)=(z1.queue.length:Int):=by have:=hz;simp only[aK,dL]at this;rw[wrap64]<;>omega
      have W:=aA t5 (aA t1 (aA t2 (aA t3 hw)));repeat' first|refine st ?_|(refine nx ?_;refine so ?_)|(refine cx ?_;refine sc (λhc=>?_) (λhc=>?_)<;>try exact hc.elim)|(refine lx ?_;refine sp (λhc=>?_) (λhc=>?_)<;>try exact hc.elim)|refine sx ?_ ?_|refine sy ?_ ?_|fail
      exact⟨rfl,aS 1 (by simp[aL,t2,t3]) (by simp) (by simp) (by simp)⟩
    .intro s' hwk;clear ct htn hty ep;refine Pw hwk ?_;clear hwk;simp only[aL];have W:=trivial;repeat' first|refine st ?_|(refine nx ?_;refine so ?_)|(refine cx ?_;refine sc (λhc=>?_) (λhc=>?_)<;>try exact hc.elim)|(refine lx ?_;refine sp (λhc=>?_) (λhc=>?_)<;>try exact hc.elim)|refine sx ?_ ?_|refine sy ?_ ?_|fail
     refine ce (cr) ?_;rintro _ ⟨u,s,w,rfl,hu,hs⟩;simp only[AS.called,AS.put,aQ,aM,fO,cB,fI,bS,fU,bZ,cH,cG,cY,cW,cM];obtain⟨hl1,hl2⟩:=hru u s w;have c3:=(xH u s w (by omega) (by omega)).Cx (r':= .agg (aL .view (jU u s w))) (by simp[rt]);have c4:=(xI u s w (by omega) (by omega)).Cx (r':= .agg (aL .view (jU u s w))) (by simp[rt]);have e2:=zL (jU u s w) (by have:=VP u s w (by omega);omega);clear hru cr cq;generalize jU u s w=r at*;simp only[aL]at c3 c4 e2 ci⊢;have W:=trivial;repeat' first|refine st ?_|(refine nx ?_;refine so ?_)|(refine cx ?_;refine sc (λhc=>?_) (λhc=>?_)<;>try exact hc.elim)|(refine lx ?_;refine sp (λhc=>?_) (λhc=>?_)<;>try exact hc.elim)|refine sx ?_ ?_|refine sy ?_ ?_|fail
     have hq:w=false->(r.queue.length:Int)=(u.queue.length:Int):=λh=>by rw[hl2 h]
     clear c3 hz hz1 hu hs cb hl2;obtain⟨b1,hb1⟩:∃b,b=(p.ended&&((p.queue.length:Int) == 0)):=⟨_,rfl⟩;obtain⟨b2,hb2⟩:∃b,b=(b1&&(p.block == 0)):=⟨_,rfl⟩;have hip:xN p=(b2&&(p.inline == 0)):=by rw[BW];simp[xN,hb1,hb2,Ds]
     refine QM (ι:=Unit) (λJ y=>⟨[.sl .view 1 (aR d),.undef,dv J 50 (.bool true),.ptr 0 0 0 0,.undef,.undef,.undef,.undef,.undef,.undef,.ptr 1 0 0 0,.str s,.bool w,.ptr 2 0 0 0,.undef,.undef,.undef,.undef,.undef,.undef,.undef,.undef,.undef,.undef,.undef,.undef,.undef,.undef,.undef,.undef,.undef,.undef,.undef,.undef,.undef,.undef,.undef,.undef,.undef,.undef,.undef,.undef,.undef,.undef,.undef,.undef,.undef,.undef,.undef,.undef,.undef,.undef,.undef,.undef,.undef,.undef,.undef,.undef,.undef,.undef,.undef,.undef,.undef,.undef,.undef,.undef,.undef,.undef,.undef,.undef,.undef,.undef,.undef,.undef,.undef,.undef,.undef,.undef,.undef,.undef,.undef,.undef,.undef,.undef,.undef,.undef,.undef,.undef,.undef,.undef,.undef,.undef,.undef,.undef,.undef,.undef,.undef,.undef,.undef,.undef,.undef,.undef,.undef,.undef,.undef,.undef,.undef,.undef,.undef,.undef,.undef,.undef,.undef,.undef,.undef,.undef,.undef,.undef,.undef,.undef,.undef,.undef,.undef,.undef,.undef,.undef,.undef,.undef,.undef,.undef,.undef,.undef,.undef,.undef,dv J 0 (.agg (aL .view r)),dv J 1 (.agg (aL .view u)),dv J 2 (.str s),dv J 3 (.bool w),dv J 4 (.agg (aL .view r)),dv J 5 (.bool true),dv J 6 (.bool true),dv J 7 (.bool w),dv J 8 (.bool w),dv J 9 (bif w then .fH []else .ptr 2 0 0 8),dv J 10 (bif w then .fH []else .sl .view 4 (r.queue.map (bE .view))),dv J 11 (bif w then .fH []else .int .i64 (r.queue.length:Int)),dv J 12 (bif w then .fH []else .ptr 1 0 0 8),dv J 13 (bif w then .fH []else .sl .view 4 (u.queue.map (bE .view))),dv J 14 (bif w then .fH []else .int .i64 (u.queue.length:Int)),dv J 15 (bif w then .fH []else .bool true),dv J 16 (.bool true),dv J 17 (.bool true),dv J 18 (.bool true),dv J 19 (.ptr 2 0 0 20),dv J 20 (.sl .view 1 (r.log.map dR)),dv J 21 (.int .i64 (r.log.length:Int)),dv J 22 (.ptr 1 0 0 20),dv J 23 (.sl .view 1 (u.log.map dR)),dv J 24 (.int .i64 (u.log.length:Int)),dv J 25 (.bool true),dv J 26 (.bool true),dv J 27 (.bool true),dv J 28 (.agg (aL .view p)),dv J 29 (.bool (xN p)),dv J 30 (.ptr 0 0 0 9),dv J 31 (.bool p.ended),dv J 32 (.bool p.ended),dv J 33 (bif p.ended then .ptr 0 0 0 8 else .fH []),dv J 34 (bif p.ended then .sl .view 4 (p.queue.map (bE .view))else .fH []),dv J 35 (bif p.ended then .int .i64 (p.queue.length:Int)else .fH []),dv J 36 (bif p.ended then .bool ((p.queue.length:Int) == 0)else .fH []),dv J 37 (.bool b1),dv J 38 (.bool b1),dv J 39 (bif b1 then .ptr 0 0 0 15 else .fH []),dv J 40 (bif b1 then .int .i64 p.block else .fH []),dv J 41 (bif b1 then .bool (p.block == 0)else .fH []),dv J 42 (.bool b2),dv J 43 (.bool b2),dv J 44 (bif b2 then .ptr 0 0 0 16 else .fH []),dv J 45 (bif b2 then .int .i64 p.inline else .fH []),dv J 46 (bif b2 then .bool (p.inline == 0)else .fH []),dv J 47 (.bool (xN p)),dv J 48 (.bool true),dv J 49 (.bool true)],[⟨true,true,22,0,[aL .view p]⟩,⟨true,true,22,0,[aL .view u]⟩,⟨true,true,22,0,[aL .view r]⟩]⟩) (()) (aC (by simp) (by simp[dv])) ?_ ?_
     .simp only[Wv,mN];refine⟨?_,?_,?_,?_,?_,?_,?_,?_,?_,?_,?_,?_,?_,?_,?_,?_,?_,?_,?_,?_,?_,?_,?_,?_,?_,?_,?_,?_,?_,?_,?_,?_,?_,?_,?_,?_,?_,?_,?_,?_,?_,?_,?_,?_,?_,?_,?_,?_,?_,?_,?_⟩
      .rintro J y hC hJ hP;simp[pre,Region.binds]at hP;simp only[dv,hJ,hP,eI,eW,eM,cJ,eK];have W:=trivial;repeat' first|refine st ?_|(refine nx ?_;refine so ?_)|fail
       exact⟨y,aC (by simp[dW,hJ,hP]) (by simp[dv,dW,hJ,hP])⟩
      .rintro J y hC hJ hP;simp[pre,Region.binds]at hP;simp only[dv,hJ,hP,eI,eW,eM,cJ,eK];have W:=trivial;repeat' first|refine st ?_|(refine nx ?_;refine so ?_)|fail
       exact⟨y,aC (by simp[dW,hJ,hP]) (by simp[dv,dW,hJ,hP])⟩
      .rintro J y hC hJ hP;simp[pre,Region.binds]at hP;simp only[dv,hJ,hP,eI,eW,eM,cJ,eK];have W:=trivial;repeat' first|refine st ?_|(refine nx ?_;refine so ?_)|fail
       exact⟨y,aC (by simp[dW,hJ,hP]) (by simp[dv,dW,hJ,hP])⟩
      .rintro J y hC hJ hP;simp[pre,Region.binds]at hP;simp only[dv,hJ,hP,eI,eW,eM,cJ,eK];have W:=trivial;repeat' first|refine st ?_|(refine nx ?_;refine so ?_)|fail
       exact⟨y,aC (by simp[dW,hJ,hP]) (by simp[dv,dW,hJ,hP])⟩
      .rintro J y hC hJ hP;simp[pre,Region.binds]at hP;simp only[dv,hJ,hP,eI,eW,eM,cJ,eK];have W:=trivial;repeat' first|refine st ?_|(refine nx ?_;refine so ?_)|fail
       exact⟨y,aC (by simp[dW,hJ,hP]) (by simp[dv,dW,hJ,hP])⟩
      .rintro J y hC hJ hP;simp[pre,Region.binds]at hP;simp only[dv,hJ,hP,eI,eW,eM,cJ,eK];have W:=trivial;repeat' first|refine st ?_|(refine nx ?_;refine so ?_)|fail
       exact⟨y,aC (by simp[dW,hJ,hP]) (by simp[dv,dW,hJ,hP])⟩
      .rintro J y hC hJ hP;simp[pre,Region.binds]at hP;simp only[dv,hJ,hP,eI,eW,eM,cJ,eK];have W:=trivial;repeat' first|refine st ?_|(refine nx ?_;refine so ?_)|fail
       exact⟨y,aC (by simp[dW,hJ,hP]) (by simp[dv,dW,hJ,hP])⟩
      .rintro J y hC hJ hP;simp[pre,Region.binds]at hP;cases w;all_goals (simp only[dv,hJ,hP,eI,eW,eM,cJ,eK];have W:=trivial)
       all_goals (repeat' first|refine st ?_|(refine nx ?_;refine so ?_)|fail)
       all_goals exact⟨y,aC (by simp[dW,hJ,hP]) (by simp[dv,dW,hJ,hP])⟩
      .rintro J y hC hJ hP;simp[pre,Region.binds]at hP;cases w;all_goals (simp only[dv,hJ,hP,eI,eW,eM,cJ,eK];have W:=trivial)
       all_goals (repeat' first|refine st ?_|(refine nx ?_;refine so ?_)|fail)
       all_goals exact⟨y,aC (by simp[dW,hJ,hP]) (by simp[dv,dW,hJ,hP])⟩
      .rintro J y hC hJ hP;simp[pre,Region.binds]at hP;cases w;all_goals (simp only[dv,hJ,hP,eI,eW,eM,cJ,eK];have W:=trivial)
       all_goals (repeat' first|refine st ?_|(refine nx ?_;refine so ?_)|fail)
       all_goals exact⟨y,aC (by simp[dW,hJ,hP]) (by simp[dv,dW,hJ,hP])⟩
      .rintro J y hC hJ hP;simp[pre,Region.binds]at hP;cases w;all_goals (simp only[dv,hJ,hP,eI,eW,eM,cJ,eK];have W:=trivial)
       all_goals (repeat' first|refine st ?_|(refine nx ?_;refine so ?_)|fail)
       all_goals exact⟨y,aC (by simp[dW,hJ,hP]) (by simp[dv,dW,hJ,hP])⟩
      .rintro J y hC hJ hP;simp[pre,Region.binds]at hP;cases w;all_goals (simp only[dv,hJ,hP,eI,eW,eM,cJ,eK];have W:=trivial)
       all_goals (repeat' first|refine st ?_|(refine nx ?_;refine so ?_)|fail)
       all_goals exact⟨y,aC (by simp[dW,hJ,hP]) (by simp[dv,dW,hJ,hP])⟩
      .rintro J y hC hJ hP;simp[pre,Region.binds]at hP;cases w;all_goals (simp only[dv,hJ,hP,eI,eW,eM,cJ,eK];have W:=trivial)
       all_goals (repeat' first|refine st ?_|(refine nx ?_;refine so ?_)|fail)
       all_goals exact⟨y,aC (by simp[dW,hJ,hP]) (by simp[dv,dW,hJ,hP])⟩
      .rintro J y hC hJ hP;simp[pre,Region.binds]at hP;cases w;all_goals (simp only[dv,hJ,hP,eI,eW,eM,cJ,eK];have W:=trivial)
       all_goals (repeat' first|refine st ?_|(refine nx ?_;refine so ?_)|fail)
       all_goals exact⟨y,aC (by simp[dW,hJ,hP]) (by simp[dv,dW,hJ,hP])⟩
      .rintro J y hC hJ hP;simp[pre,Region.binds]at hP;cases w;all_goals (simp only[dv,hJ,hP,eI,eW,eM,cJ,eK];have W:=trivial)
       all_goals (repeat' first|refine st ?_|(refine nx ?_;refine so ?_)|fail)
       all_goals exact⟨y,aC (by simp[dW,hJ,hP]) (by simp[dv,dW,hJ,hP])⟩
      .rintro J y hC hJ hP;simp[pre,Region.binds]at hP;have WA:w=false->(r.queue.length:Int)=(u.queue.length:Int):=hq;cases w;all_goals (simp only[dv,hJ,hP,eI,eW,eM,WA,cJ,eK];have W:=trivial)
       all_goals (repeat' first|refine st ?_|(refine nx ?_;refine so ?_)|fail)
       all_goals exact⟨y,aC (by simp[dW,hJ,hP,WA]) (by simp[dv,dW,hJ,hP,WA])⟩
      .rintro J y hC hJ hP;simp[pre,Region.binds]at hP;cases w;all_goals (simp only[dv,hJ,hP,eI,eW,eM,cJ,eK];have W:=trivial)
       all_goals (repeat' first|refine st ?_|(refine nx ?_;refine so ?_)|fail)
       all_goals exact⟨y,aC (by simp[dW,hJ,hP]) (by simp[dv,dW,hJ,hP])⟩
      .rintro J y hC hJ hP;simp[pre,Region.binds]at hP;simp only[dv,hJ,hP,eI,eW,eM,cJ,eK];have W:=trivial;repeat' first|refine st ?_|(refine nx ?_;refine so ?_)|fail
       exact⟨y,aC (by simp[dW,hJ,hP]) (by simp[dv,dW,hJ,hP])⟩
      .rintro J y hC hJ hP;simp[pre,Region.binds]at hP;simp only[dv,hJ,hP,eI,eW,eM,cJ,eK];have W:=trivial;repeat' first|refine st ?_|(refine nx ?_;refine so ?_)|fail
       exact⟨y,aC (by simp[dW,hJ,hP]) (by simp[dv,dW,hJ,hP])⟩
      .rintro J y hC hJ hP;simp[pre,Region.binds]at hP;simp only[dv,hJ,hP,eI,eW,eM,cJ,eK];have W:=trivial;repeat' first|refine st ?_|(refine nx ?_;refine so ?_)|fail
       exact⟨y,aC (by simp[dW,hJ,hP]) (by simp[dv,dW,hJ,hP])⟩
      .rintro J y hC hJ hP;simp[pre,Region.binds]at hP;simp only[dv,hJ,hP,eI,eW,eM,cJ,eK];have W:=trivial;repeat' first|refine st ?_|(refine nx ?_;refine so ?_)|fail
       exact⟨y,aC (by simp[dW,hJ,hP]) (by simp[dv,dW,hJ,hP])⟩
      .rintro J y hC hJ hP;simp[pre,Region.binds]at hP;simp only[dv,hJ,hP,eI,eW,eM,cJ,eK];have W:=trivial;repeat' first|refine st ?_|(refine nx ?_;refine so ?_)|fail
       exact⟨y,aC (by simp[dW,hJ,hP]) (by simp[dv,dW,hJ,hP])⟩
      .rintro J y hC hJ hP;simp[pre,Region.binds]at hP;simp only[dv,hJ,hP,eI,eW,eM,cJ,eK];have W:=trivial;repeat' first|refine st ?_|(refine nx ?_;refine so ?_)|fail
       exact⟨y,aC (by simp[dW,hJ,hP]) (by simp[dv,dW,hJ,hP])⟩
      .rintro J y hC hJ hP;simp[pre,Region.binds]at hP;simp only[dv,hJ,hP,eI,eW,eM,cJ,eK];have W:=trivial;repeat' first|refine st ?_|(refine nx ?_;refine so ?_)|fail
       exact⟨y,aC (by simp[dW,hJ,hP]) (by simp[dv,dW,hJ,hP])⟩
      .rintro J y hC hJ hP;simp[pre,Region.binds]at hP;simp only[dv,hJ,hP,eI,eW,eM,cJ,eK];have W:=trivial;repeat' first|refine st ?_|(refine nx ?_;refine so ?_)|fail
       exact⟨y,aC (by simp[dW,hJ,hP]) (by simp[dv,dW,hJ,hP])⟩
      .rintro J y hC hJ hP;simp[pre,Region.binds]at hP;simp only[dv,hJ,hP,eI,eW,eM,cJ,eK];have W:=hl1;repeat' first|refine st ?_|(refine nx ?_;refine so ?_)|fail
       exact⟨y,aC (by simp[dW,hJ,hP]) (by simp[dv,dW,hJ,hP])⟩
      .rintro J y hC hJ hP;simp[pre,Region.binds]at hP;simp only[dv,hJ,hP,eI,eW,eM,cJ,eK];have W:=trivial;repeat' first|refine st ?_|(refine nx ?_;refine so ?_)|fail
       exact⟨y,aC (by simp[dW,hJ,hP]) (by simp[dv,dW,hJ,hP])⟩
      .rintro J y hC hJ hP;simp[pre,Region.binds]at hP;simp only[dv,hJ,hP,eI,eW,eM,cJ,eK];have W:=trivial;repeat' first|refine st ?_|(refine nx ?_;refine so ?_)|fail
       exact⟨y,aC (by simp[dW,hJ,hP]) (by simp[dv,dW,hJ,hP])⟩
      .rintro J y hC hJ hP;simp[pre,Region.binds]at hP;simp only[dv,hJ,hP,eI,eW,eM,cJ,eK];have W:=trivial;repeat' first|refine st ?_|(refine nx ?_;refine so ?_)|fail
       exact⟨y,aC (by simp[dW,hJ,hP]) (by simp[dv,dW,hJ,hP])⟩
      .rintro J y hC hJ hP;simp[pre,Region.binds]at hP;simp only[dv,hJ,hP,eI,eW,eM,cJ,eK];have W:=trivial;repeat' first|refine st ?_|(refine nx ?_;refine so ?_)|fail
       exact⟨y,aC (by simp[dW,hJ,hP]) (by simp[dv,dW,hJ,hP])⟩
      .rintro J y hC hJ hP;simp[pre,Region.binds]at hP;simp only[dv,hJ,hP,eI,eW,eM,cJ,eK];have W:=trivial;repeat' first|refine st ?_|(refine nx ?_;refine so ?_)|fail
       exact⟨y,aC (by simp[dW,hJ,hP]) (by simp[dv,dW,hJ,hP])⟩
      .rintro J y hC hJ hP;simp[pre,Region.binds]at hP;simp only[dv,hJ,hP,eI,eW,eM,cJ,eK];have W:=trivial;repeat' first|refine st ?_|(refine nx ?_;refine so ?_)|fail
       exact⟨y,aC (by simp[dW,hJ,hP]) (by simp[dv,dW,hJ,hP])⟩
      .rintro J y hC hJ hP;simp[pre,Region.binds]at hP;simp only[dv,hJ,hP,eI,eW,eM,cJ,eK];have W:=trivial;repeat' first|refine st ?_|(refine nx ?_;refine so ?_)|fail
       exact⟨y,aC (by simp[dW,hJ,hP]) (by simp[dv,dW,hJ,hP])⟩
      .rintro J y hC hJ hP;simp[pre,Region.binds]at hP;cases he:p.ended;all_goals (simp only[dv,hJ,hP,eI,eW,eM,he,cJ,eK];have W:=trivial)
       all_goals (repeat' first|refine st ?_|(refine nx ?_;refine so ?_)|fail)
       all_goals exact⟨y,aC (by simp[dW,hJ,hP,he]) (by simp[dv,dW,hJ,hP,he])⟩
      .rintro J y hC hJ hP;simp[pre,Region.binds]at hP;cases he:p.ended;all_goals (simp only[dv,hJ,hP,eI,eW,eM,he,cJ,eK];have W:=trivial)
       all_goals (repeat' first|refine st ?_|(refine nx ?_;refine so ?_)|fail)
       all_goals exact⟨y,aC (by simp[dW,hJ,hP,he]) (by simp[dv,dW,hJ,hP,he])⟩
      .rintro J y hC hJ hP;simp[pre,Region.binds]at hP;cases he:p.ended;all_goals (simp only[dv,hJ,hP,eI,eW,eM,he,cJ,eK];have W:=trivial)
       all_goals (repeat' first|refine st ?_|(refine nx ?_;refine so ?_)|fail)
       all_goals exact⟨y,aC (by simp[dW,hJ,hP,he]) (by simp[dv,dW,hJ,hP,he])⟩
      .rintro J y hC hJ hP;simp[pre,Region.binds]at hP;cases he:p.ended;all_goals (simp only[dv,hJ,hP,eI,eW,eM,he,cJ,eK];have W:=trivial)
       all_goals (repeat' first|refine st ?_|(refine nx ?_;refine so ?_)|fail)
       all_goals exact⟨y,aC (by simp[dW,hJ,hP,he]) (by simp[dv,dW,hJ,hP,he])⟩
      .rintro J y hC hJ hP;simp[pre,Region.binds]at hP;have WA:b1=(p.ended&&((p.queue.length:Int) == 0)):=hb1;cases he:p.ended;all_goals (simp only[dv,hJ,hP,eI,eW,eM,WA,he,cJ,eK];have W:=trivial)
       all_goals (repeat' first|refine st ?_|(refine nx ?_;refine so ?_)|fail)
       all_goals exact⟨y,aC (by simp[dW,hJ,hP,WA,he]) (by simp[dv,dW,hJ,hP,WA,he])⟩
      .rintro J y hC hJ hP;simp[pre,Region.binds]at hP;simp only[dv,hJ,hP,eI,eW,eM,cJ,eK];have W:=trivial;repeat' first|refine st ?_|(refine nx ?_;refine so ?_)|fail
       exact⟨y,aC (by simp[dW,hJ,hP]) (by simp[dv,dW,hJ,hP])⟩
      .rintro J y hC hJ hP;simp[pre,Region.binds]at hP;cases b1;all_goals (simp only[dv,hJ,hP,eI,eW,eM,cJ,eK];have W:=trivial)
       all_goals (repeat' first|refine st ?_|(refine nx ?_;refine so ?_)|fail)
       all_goals exact⟨y,aC (by simp[dW,hJ,hP]) (by simp[dv,dW,hJ,hP])⟩
      .rintro J y hC hJ hP;simp[pre,Region.binds]at hP;cases b1;all_goals (simp only[dv,hJ,hP,eI,eW,eM,cJ,eK];have W:=trivial)
       all_goals (repeat' first|refine st ?_|(refine nx ?_;refine so ?_)|fail)
       all_goals exact⟨y,aC (by simp[dW,hJ,hP]) (by simp[dv,dW,hJ,hP])⟩
      .rintro J y hC hJ hP;simp[pre,Region.binds]at hP;cases b1;all_goals (simp only[dv,hJ,hP,eI,eW,eM,cJ,eK];have W:=trivial)
       all_goals (repeat' first|refine st ?_|(refine nx ?_;refine so ?_)|fail)
       all_goals exact⟨y,aC (by simp[dW,hJ,hP]) (by simp[dv,dW,hJ,hP])⟩
      .rintro J y hC hJ hP;simp[pre,Region.binds]at hP;have WA:b2=(b1&&(p.block == 0)):=hb2;cases b1;all_goals (simp only[dv,hJ,hP,eI,eW,eM,WA,cJ,eK];have W:=trivial)
       all_goals (repeat' first|refine st ?_|(refine nx ?_;refine so ?_)|fail)
       all_goals exact⟨y,aC (by simp[dW,hJ,hP,WA]) (by simp[dv,dW,hJ,hP,WA])⟩
      .rintro J y hC hJ hP;simp[pre,Region.binds]at hP;simp only[dv,hJ,hP,eI,eW,eM,cJ,eK];have W:=trivial;repeat' first|refine st ?_|(refine nx ?_;refine so ?_)|fail
       exact⟨y,aC (by simp[dW,hJ,hP]) (by simp[dv,dW,hJ,hP])⟩
      .rintro J y hC hJ hP;simp[pre,Region.binds]at hP;cases b2;all_goals (simp only[dv,hJ,hP,eI,eW,eM,cJ,eK];have W:=trivial)
       all_goals (repeat' first|refine st ?_|(refine nx ?_;refine so ?_)|fail)
       all_goals exact⟨y,aC (by simp[dW,hJ,hP]) (by simp[dv,dW,hJ,hP])⟩
      .rintro J y hC hJ hP;simp[pre,Region.binds]at hP;cases b2;all_goals (simp only[dv,hJ,hP,eI,eW,eM,cJ,eK];have W:=trivial)
       all_goals (repeat' first|refine st ?_|(refine nx ?_;refine so ?_)|fail)
       all_goals exact⟨y,aC (by simp[dW,hJ,hP]) (by simp[dv,dW,hJ,hP])⟩
      .rintro J y hC hJ hP;simp[pre,Region.binds]at hP;cases b2;all_goals (simp only[dv,hJ,hP,eI,eW,eM,cJ,eK];have W:=trivial)
       all_goals (repeat' first|refine st ?_|(refine nx ?_;refine so ?_)|fail)
       all_goals exact⟨y,aC (by simp[dW,hJ,hP]) (by simp[dv,dW,hJ,hP])⟩
      .rintro J y hC hJ hP;simp[pre,Region.binds]at hP;have WA:xN p=(b2&&(p.inline == 0)):=hip;cases b2;all_goals (simp only[dv,hJ,hP,eI,eW,eM,WA,cJ,eK];have W:=trivial)
       all_goals (repeat' first|refine st ?_|(refine nx ?_;refine so ?_)|fail)
       all_goals exact⟨y,aC (by simp[dW,hJ,hP,WA]) (by simp[dv,dW,hJ,hP,WA])⟩
      .rintro J y hC hJ hP;simp[pre,Region.binds]at hP;simp only[dv,hJ,hP,eI,eW,eM,cJ,eK];have W:=trivial;repeat' first|refine st ?_|(refine nx ?_;refine so ?_)|fail
       exact⟨y,aC (by simp[dW,hJ,hP]) (by simp[dv,dW,hJ,hP])⟩
      .rintro J y hC hJ hP;simp[pre,Region.binds]at hP;simp only[dv,hJ,hP,eI,eW,eM,cJ,eK];have W:=trivial;repeat' first|refine st ?_|(refine nx ?_;refine so ?_)|fail
       exact⟨y,aC (by simp[dW,hJ,hP]) (by simp[dv,dW,hJ,hP])⟩
      .rintro J y hC hJ hP;simp[pre,Region.binds]at hP;simp only[dv,hJ,hP,eI,eW,eM,cJ,eK];have W:=trivial;repeat' first|refine st ?_|(refine nx ?_;refine so ?_)|fail
       exact⟨y,aC (by simp[dW,hJ,hP]) (by simp[dv,dW,hJ,hP])⟩
     .rintro J y hJ;have hJs:J 0=true/\J 1=true/\J 2=true/\J 3=true/\J 4=true/\J 5=true/\J 6=true/\J 7=true/\J 8=true/\J 9=true/\J 10=true/\J 11=true/\J 12=true/\J 13=true/\J 14=true/\J 15=true/\J 16=true/\J 17=true/\J 18=true/\J 19=true/\J 20=true/\J 21=true/\J 22=true/\J 23=true/\J 24=true/\J 25=true/\J 26=true/\J 27=true/\J 28=true/\J 29=true/\J 30=true/\J 31=true/\J 32=true/\J 33=true/\J 34=true/\J 35=true/\J 36=true/\J 37=true/\J 38=true/\J 39=true/\J 40=true/\J 41=true/\J 42=true/\J 43=true/\J 44=true/\J 45=true/\J 46=true/\J 47=true/\J 48=true/\J 49=true/\J 50=true:=⟨hJ 0 (by decide),hJ 1 (by decide),hJ 2 (by decide),hJ 3 (by decide),hJ 4 (by decide),hJ 5 (by decide),hJ 6 (by decide),hJ 7 (by decide),hJ 8 (by decide),hJ 9 (by decide),hJ 10 (by decide),hJ 11 (by decide),hJ 12 (by decide),hJ 13 (by decide),hJ 14 (by decide),hJ 15 (by decide),hJ 16 (by decide),hJ 17 (by decide),hJ 18 (by decide),hJ 19 (by decide),hJ 20 (by decide),hJ 21 (by decide),hJ 22 (by decide),hJ 23 (by decide),hJ 24 (by decide),hJ 25 (by decide),hJ 26 (by decide),hJ 27 (by decide),hJ 28 (by decide),hJ 29 (by decide),hJ 30 (by decide),hJ 31 (by decide),hJ 32 (by decide),hJ 33 (by decide),hJ 34 (by decide),hJ 35 (by decide),hJ 36 (by decide),hJ 37 (by decide),hJ 38 (by decide),hJ 39 (by decide),hJ 40 (by decide),hJ 41 (by decide),hJ 42 (by decide),hJ 43 (by decide),hJ 44 (by decide),hJ 45 (by decide),hJ 46 (by decide),hJ 47 (by decide),hJ 48 (by decide),hJ 49 (by decide),hJ 50 (by decide)⟩
      simp only[dv,hJs,eI,eW,eM,cM,cW,cY];clear hJs hJ J;have W:=trivial;repeat' first|refine st ?_|(refine nx ?_;refine so ?_)|(refine cx ?_;refine sc (λhc=>?_) (λhc=>?_)<;>try exact hc.elim)|(refine lx ?_;refine sp (λhc=>?_) (λhc=>?_)<;>try exact hc.elim)|refine sx ?_ ?_|refine sy ?_ ?_|fail
      all_goals (try exact aO results3)
end Go.Proofs.YtjkdolejalpflaaGreatDoor
