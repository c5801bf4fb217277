/- Proved here: steps towards the statement of this claim. No condition. -/
import Derived.Test.YtlnblmmohpcceaaGreatDoorZQRC7
set_option linter.all false
set_option maxRecDepth 8000
set_option maxHeartbeats 8000000
namespace Go.Proofs.YtlnblmmohpcceaaGreatDoor
open Go.Aw Proofs.Tryz List IntKind
theorem Kt (l:List bC) (h:¬l.length < 40):∀ss:List bC,kZ l ss=l
 |[]=>rfl
 |s::ss=>by
  show kZ (iL l s) ss=l
  have:iL l s=l:=by unfold iL;rw [if_neg h]
  rw [this];exact Kt l h ss
theorem VV (l ss:List bC) (k:Nat) (h:¬(kZ l (ss.take k)).length < 40):kZ l (ss.take k)=kZ l ss:=by
 have e:kZ l ss=kZ (kZ l (ss.take k)) (ss.drop k):=by
  unfold kZ;rw [<-foldl_append,take_append_drop]
 rw [e,Kt _ h]
theorem yZ [aD prog] [fV prog] [eO prog] [qF prog] (p:aP) (code:bC) (w:Bool) (hs:aL p<=67108864) (hc:code.length<=1073741824):Ok prog 66 [.agg (aM .view p),.str code,.bool w] (.agg (aM .own (kP p code w))):=by
 have c1:=iD p (by omega)
 have c2:=yU code hc
 have Xj:p.log.length<=67108864:=by simp only [aL,bP] at hs;omega
 obtain ⟨b1,b2⟩:=vX code
 unfold kP
 generalize eG code=g at *
 obtain ⟨l,ok⟩:=g
 simp only at c2 b1 b2⊢
 cases ok
 ·rw [if_neg (by simp)]
  simp only [aM,Js] at c1⊢
  clear b1 b2
  by_cases h:p.log.length < 40
  ·have hi:(p.log.length:Int) < 40:=by omega
   obtain ⟨l1,hl1⟩:∃l1,l1=p.log++[[101,114,114,111,114]]:=⟨_,rfl⟩
   have hap:p.log.map fF++[[.str [101,114,114,111,114]]]=l1.map fF:=by rw [hl1];simp
   have e:iL p.log [101,114,114,111,114]=l1:=by unfold iL;rw [if_pos h,hl1]
   rw [e]
   clear e hl1
   refine bR aAc func66 ntmps66 ?_
   have W:=aA hi (aA hap Xj)
   repeat' first|refine wl ?_|(refine sq ?_ ?_<;>intro hc<;>try exact hc.elim)|fail
   all_goals try(refine ⟨.inr rfl,?_⟩;simp [aB,results66])
  ·have hi:¬(p.log.length:Int) < 40:=by omega
   have e:iL p.log [101,114,114,111,114]=p.log:=by unfold iL;rw [if_neg h]
   rw [e]
   clear e
   refine bR aAc func66 ntmps66 ?_
   have W:=hi
   repeat' first|refine wl ?_|(refine sq ?_ ?_<;>intro hc<;>try exact hc.elim)|fail
   all_goals try(refine ⟨.inr rfl,?_⟩;simp [aB,results66])
 rw [if_pos rfl]
 have hsl:bP gZ p.aF<=1073741824:=by simp only [aL,bP] at *;omega
 have hsb:aH p.builder<=67108864:=by simp only [aL] at hs;omega
 have hqu:p.queue.length<=67108864:=by simp only [aL,bP] at hs;omega
 have c3:=Ct p hsl
 obtain ⟨hb1,hb2⟩:=AA p
 have hb1':(bY p).length<=67108864:=by simp only [aL,bP] at hs;omega
 have c4:=Bi p.builder (bY p) l (by omega) b1 (fun x hm=>by have:=b2 x hm;omega) (by omega) (fun x hm=>by have:=hb2 x hm;omega) (tQ p)
 obtain ⟨z1,z2,z3,z4⟩:=yT 60 p.builder (bY p) l (by omega) b1 b2 (tQ p) (by omega) l.length (Nat.le_refl _)
 have hend:oM p.builder (bY p) l l.length=dP p.builder (bY p) l:=by simp [oM]
 rw [hend] at z1 z2 z3 z4
 have c5:=KS (dP p.builder (bY p) l).2.1 (by omega)
 obtain ⟨y1,y2⟩:=Dm (dP p.builder (bY p) l).2.1
 unfold jP
 clear hb2 b2 hend
 generalize bY p=ss at *
 generalize dP p.builder ss l=g at *
 obtain ⟨b,wr,lg⟩:=g
 simp only at c4 c5 z1 z2 z3 z4 y1 y2⊢
 generalize rD wr=tk at *
 simp only [aM,aN] at c1 c3 c4
 refine bR aAc func66 ntmps66 ?_
 have W:=trivial
 repeat' first|refine wl ?_|(refine sq ?_ ?_<;>intro hc<;>try exact hc.elim)|fail
 obtain ⟨Q,hQ⟩:∃Q:Nat->List bC,∀k,Q k=kZ p.log (lg.take k):=⟨_,fun _=>rfl⟩
 have hQ0:Q 0=p.log:=by rw [hQ];rfl
 have hQn:∀k,(¬k < lg.length\/¬(Q k).length < 40)->kZ p.log lg=Q k:=fun k h=>by
  rw [hQ] at h⊢
  rcases h with h|h
  ·rw [take_of_length_le (by omega)]
  ·rw [VV _ _ _ h]
 have hQl:∀k,(Q k).length<=67108870:=fun k=>by
  rw [hQ];have:=FL p.log (lg.take k);simp only [length_take] at this⊢;omega
 have hQs:∀k (h:k < lg.length),(Q k).length < 40->Q (k+1)=Q k++[lg[k]]:=fun k h h4=>by
  rw [hQ,Dn _ _ _ h,<-hQ];unfold iL;rw [if_pos h4]
 refine aJ (ι:={q:Nat×Nat // q.1<=lg.length/\1<=q.2}) (fun t o i=>⟨aZ t [(13,.int .i64 i.1.1),(15,.undef)],o.take 12++[⟨true,false,1,i.1.2,(Q i.1.1).map fF⟩,⟨true,true,22,0,[[.str p.addr.host,.str p.addr.path,.bool p.cB.isSet,.obj 2 1,.obj 3 1,.obj 4 1,.str p.cB.Gx,.str p.tok.rest,.obj 5 1,.bool p.ended,.obj 17 1,.obj 18 1,.obj 8 1,.obj 9 1,.obj 10 1,.int .i64 p.block,.int .i64 p.inline,.int .i64 p.deferred,.int .i64 p.fO,.obj 11 1,.obj 12 i.1.2,.bool p.mP]]⟩]++o.drop 14⟩)
  (fun i=>lg.length - i.1.1) ⟨(0,1),by simp,by simp⟩ (aI (by simp [hQ0]) (by simp)) ?_
 rintro ⟨⟨k,v⟩,hk,hv⟩ K1 hK1
 simp only at hk hv
 simp only [aZ,set_cons_succ,set_cons_zero,take_succ_cons,take_zero,drop_succ_cons,drop_zero,cons_append,nil_append] at hK1⊢
 have hk1:i64.wrap ((k:Int)+1)=((k+1:Nat):Int):=by rw [wrap64]<;>omega
 have hl1:=hQl k
 have V4:=hQn k
 have UF:=hQs k
 clear hQn hQl hQs hQ0 hQ
 by_cases qH:k < lg.length/\(Q k).length < 40
 ·obtain ⟨hlt,Hf⟩:=qH
  have hg:=getElem?_eq_getElem hlt
  have hnext:=UF hlt Hf
  have aQm:((Q k).length:Int) < 40:=by omega
  clear UF V4
  generalize hqk:Q k=q at *
  have W:=aA hk1 (aA hg (aA hlt (aA aQm hl1)))
  repeat' first|refine wl ?_|(refine sq ?_ ?_<;>intro hc<;>try exact hc.elim)|fail
  all_goals refine hK1 _ ⟨(k+1,v+1),by simp only;omega,by simp only;omega⟩ (aS 20 ?_ (by simp) (by simp) (by simp [dL])) (by simp only;omega)
  all_goals simp [hnext]
 ·have hfin:=V4 (by omega)
  have hcase:¬k < lg.length\/(k < lg.length/\¬((Q k).length:Int) < 40):=by omega
  rw [hfin]
  clear UF V4 hK1 qH hfin
  generalize Q k=q at *
  have hbq:(tk.length+p.queue.length) * 64<=140737488355328:=by omega
  rcases hcase with hlt|⟨hlt,Hf⟩
  ·cases w
   ·have W:=aA hk1 hlt
    repeat' first|refine wl ?_|(refine sq ?_ ?_<;>intro hc<;>try exact hc.elim)|fail
    all_goals try(refine ⟨.inr rfl,?_⟩;simp [aB,results66])
   ·rw [if_pos rfl]
    have W:=aA hk1 (aA hbq hlt)
    repeat' first|refine wl ?_|(refine sq ?_ ?_<;>intro hc<;>try exact hc.elim)|fail
    all_goals try(refine ⟨.inr rfl,?_⟩;simp [aB,results66])
    all_goals (rw [<-map_append];exact uG _)
  ·cases w
   ·have W:=aA hk1 (aA hlt Hf)
    repeat' first|refine wl ?_|(refine sq ?_ ?_<;>intro hc<;>try exact hc.elim)|fail
    all_goals try(refine ⟨.inr rfl,?_⟩;simp [aB,results66])
   ·rw [if_pos rfl]
    have W:=aA hk1 (aA hbq (aA hlt Hf))
    repeat' first|refine wl ?_|(refine sq ?_ ?_<;>intro hc<;>try exact hc.elim)|fail
    all_goals try(refine ⟨.inr rfl,?_⟩;simp [aB,results66])
    all_goals (rw [<-map_append];exact uG _)
theorem iM {α:Type} (f:α->Nat):∀a b:List α,aO f (a++b)=aO f a+aO f b
 |[],b=>by simp [aO]
 |x::xs,b=>by simp only [cons_append,aO,iM f xs b];omega
theorem ng (p:aP):Dq p<=20 * aL p+20:=by
 have h1:=Jt 3 mr p.queue
 have h2:=Jt 3 V5 p.builder.nodes
 simp only [aL,iC,aH,bP,Dq,nP,mV,fK]
 omega
theorem NV (g:aP) (hg:aL g<=1099511627776):(Dq g<=21990232555540/\g.queue.length<=4611686018427387904)/\(∀x∈g.queue,x.attrs.length<=4611686018427387904)/\g.builder.nodes.length<=4611686018427387904/\(∀x∈g.builder.nodes,x.attrs.length<=4611686018427387904):=by
 have h:=ng g
 refine ⟨⟨by omega,?_⟩,?_,?_,?_⟩
 ·simp only [aL,bP] at hg;omega
 ·exact VW (by simp only [aL,bP] at hg;omega)
 ·simp only [aL,aH,bP] at hg;omega
 ·exact YI (by simp only [aL,aH,bP] at hg;omega)
theorem aFr (l:List bC) (ss:List bC):bP gT (kZ l ss)<=bP gT l+bP gT ss:=by
 induction ss generalizing l with
 |nil=>simp only [kZ,foldl_nil];omega
 |cons s ss ih=>
  have h1:bP gT (iL l s)<=bP gT l+1+gT s:=by
   unfold iL
   split
   ·simp only [bP,length_append,length_cons,length_nil,iM,aO];omega
   ·omega
  have h2:=ih (iL l s)
  have e:kZ l (s::ss)=kZ (iL l s) ss:=rfl
  rw [e];simp only [bP,length_cons,aO] at *;omega
theorem aEc (p:aP) (l:List iG) (wr:Bool) (hs:aL p<=67108864) (h6:l.length<=6) (hx:∀x∈l,x.text.length<=60):aL (jP p l wr)<=aL p+1700:=by
 have hsb:aH p.builder<=67108864:=by simp only [aL] at hs;omega
 obtain ⟨z1,z2,z3,z4⟩:=yT 60 p.builder (bY p) l (by omega) h6 hx (tQ p) (by omega) l.length (Nat.le_refl _)
 have hend:oM p.builder (bY p) l l.length=dP p.builder (bY p) l:=by simp [oM]
 rw [hend] at z1 z2 z3 z4
 obtain ⟨y1,y2⟩:=Dm (dP p.builder (bY p) l).2.1
 have hl:=aFr p.log (dP p.builder (bY p) l).2.2
 unfold jP
 generalize dP p.builder (bY p) l=g at *
 obtain ⟨b,w,lg⟩:=g
 simp only at *
 generalize kZ p.log lg=lg2 at *
 generalize rD w=tk at *
 have hq:bP bF (if wr=true then tk++p.queue else p.queue)<=bP bF p.queue+721:=by
  split
  ·simp only [bP,length_append,iM];omega
  ·omega
 generalize (if wr=true then tk++p.queue else p.queue)=q2 at *
 have Xj:bP gT lg<=546:=by simp only [bP];omega
 simp only [aL] at *
 omega
theorem aAi (p:aP) (code:bC) (wr:Bool) (hs:aL p<=67108864):aL (kP p code wr)<=aL p+1700:=by
 obtain ⟨b1,b2⟩:=vX code
 unfold kP
 split
 ·exact aEc p _ wr hs b1 b2
 ·have h1:bP gT (iL p.log Js)<=bP gT p.log+6:=by
   unfold iL
   split
   ·simp only [bP,length_append,length_cons,length_nil,iM,aO,gT,Js];omega
   ·omega
  simp only [aL] at *
  omega
theorem ni {a b:aT}:aK a=aK b↔a=b:=by
 obtain ⟨a1,a2⟩:=a
 obtain ⟨b1,b2⟩:=b
 simp
theorem yB (a b:aT):EqA prog 28 (aK a) (aK b) (decide (a=b)):=
 aHo (f:=6) (ss:=[.str,.str]) (by decide) (by kernel_rfl) (by kernel_rfl) (by kernel_rfl) (by kernel_rfl) (by simp [uN,NW]) (by simp [uN,NW]) (by rw [ni,decide_eq_true_iff])
def pF (a:aT) (m:dD):Bool:=decide (m.to=a)
theorem Dt [aD prog] (p:aP) (a:aT) (hl:p.aX.length<=1099511627776):Ok prog 155 [.agg (aM .view p),.agg (aK a)] (.int .i64 (BN (pF a) p.aX)):=by
 refine bR aAc func155 ntmps155 ?_
 have W:=trivial
 repeat' first|refine we ?_|(refine sq ?_ ?_<;>intro hc<;>try exact hc.elim)|fail
 refine aJ (ι:={k:Nat // k<=p.aX.length/\∀x∈p.aX.take k,pF a x=false}) (fun t o i=>⟨aZ t [(5,.int .i64 i.1)],o⟩)
  (fun i=>p.aX.length - i.1) ⟨0,by simp⟩ (aI (by simp) (by simp)) ?_
 rintro ⟨k,hk,hpre⟩ K1 hK1
 simp only [aZ,set_cons_succ,set_cons_zero] at hK1⊢
 have hk1:i64.wrap ((k:Int)+1)=((k+1:Nat):Int):=by rw [wrap64]<;>omega
 by_cases hlt:k < p.aX.length
 ·have hg:=getElem?_eq_getElem hlt
  have W:=aA hk1 (aA hg hlt)
  have c0:=yB p.aX[k].to a
  repeat' first|refine we ?_|(refine sq ?_ ?_<;>intro hc<;>try exact hc.elim)|fail
  ·all_goals try(refine ⟨.inr rfl,?_⟩;simp [aB,results155])
   rw [Eb hlt (by simpa [pF] using hc) hpre]
  ·exact hK1 _ ⟨k+1,by omega,dS hlt hpre (by simpa [pF] using hc)⟩ (aI (by simp) (by simp)) (by simp only;omega)
 ·have W:=hk1
  repeat' first|refine we ?_|(refine sq ?_ ?_<;>intro hc<;>try exact hc.elim)|fail
  all_goals try(refine ⟨.inr rfl,?_⟩;simp [aB,results155])
  rw [vH (lW (by omega) hpre)]
theorem nk [aD prog] (m:dD) (a:aT):Ok prog 229 [.agg (bO m),.eH .view (aK a) 0] (.bool (pF a m)):=by
 refine bR aAc func229 ntmps229 ?_
 have W:=trivial
 have c0:=yB m.to a
 repeat' first|refine we ?_|(refine sq ?_ ?_<;>intro hc<;>try exact hc.elim)|fail
 all_goals try(refine ⟨.inr rfl,?_⟩;simp [aB,results229])
 rfl
theorem VX [aD prog] (l:List dD) (a:aT) (hl:l.length<=1099511627776):Ok prog 228 [.sl .view 5 (l.map bO),.fn 229 [.eH .view (aK a) 0]] (.int .i64 (BN (pF a) l)):=by
 refine bR aAc func228 ntmps228 ?_
 have W:=trivial
 repeat' first|refine we ?_|(refine sq ?_ ?_<;>intro hc<;>try exact hc.elim)|fail
 refine aJ (ι:={k:Nat // k<=l.length/\∀x∈l.take k,pF a x=false}) (fun t o i=>⟨aZ t [(8,.int .i64 i.1),(5,.undef)],o⟩)
  (fun i=>l.length - i.1) ⟨0,by simp⟩ (aI (by simp) (by simp)) ?_
 rintro ⟨k,hk,hpre⟩ K1 hK1
 simp only [aZ,set_cons_succ,set_cons_zero] at hK1⊢
 have hk1:i64.wrap ((k:Int)+1)=((k+1:Nat):Int):=by rw [wrap64]<;>omega
 by_cases hlt:k < l.length
 ·have hg:=getElem?_eq_getElem hlt
  have W:=aA hk1 (aA hg hlt)
  have c0:=nk l[k] a
  repeat' first|refine we ?_|(refine sq ?_ ?_<;>intro hc<;>try exact hc.elim)|fail
  ·all_goals try(refine ⟨.inr rfl,?_⟩;simp [aB,results228])
   rw [Eb hlt (by simpa using hc) hpre]
  ·exact hK1 _ ⟨k+1,by omega,dS hlt hpre (by simpa using hc)⟩ (aI (by simp) (by simp)) (by simp only;omega)
 ·have W:=hk1
  repeat' first|refine we ?_|(refine sq ?_ ?_<;>intro hc<;>try exact hc.elim)|fail
  all_goals try(refine ⟨.inr rfl,?_⟩;simp [aB,results228])
  rw [vH (lW (by omega) hpre)]
def gL (a x:aT):Bool:=decide (x=a)
theorem zC [aD prog] (l:List aT) (a:aT) (hl:l.length<=1099511627776):Ok prog 158 [.sl .view 2 (l.map aK),.agg (aK a)] (.bool (l.any (gL a))):=by
 refine bR aAc func158 ntmps158 ?_
 have W:=trivial
 repeat' first|refine we ?_|(refine sq ?_ ?_<;>intro hc<;>try exact hc.elim)|fail
 refine aJ (ι:={k:Nat // k<=l.length/\∀x∈l.take k,gL a x=false}) (fun t o i=>⟨aZ t [(5,.int .i64 i.1)],o⟩)
  (fun i=>l.length - i.1) ⟨0,by simp,by simp⟩ (aI (by simp) (by simp)) ?_
 rintro ⟨k,hk,hi⟩ K1 hK1
 simp only [aZ,set_cons_succ,set_cons_zero] at hK1⊢
 have hk1:i64.wrap ((k:Int)+1)=((k+1:Nat):Int):=by rw [wrap64]<;>omega
 by_cases hlt:k < l.length
 ·have hg:=getElem?_eq_getElem hlt
  have W:=aA hk1 (aA hg hlt)
  have c0:=yB l[k] a
  repeat' first|refine we ?_|(refine sq ?_ ?_<;>intro hc<;>try exact hc.elim)|fail
  ·all_goals try(refine ⟨.inr rfl,?_⟩;simp [aB,results158])
   refine ⟨_,getElem_mem hlt,by simpa [gL] using hc⟩
  ·exact hK1 _ ⟨k+1,by omega,dS hlt hi (by simpa [gL] using hc)⟩ (aS 1 (by simp) (by simp) (by simp) (by simp)) (by simp only;omega)
 ·have W:=hk1
  repeat' first|refine we ?_|(refine sq ?_ ?_<;>intro hc<;>try exact hc.elim)|fail
  all_goals try(refine ⟨.inr rfl,?_⟩;simp [aB,results158])
  have:=lW (by omega) hi
  simpa using this
theorem TI [aD prog] (l:List aT) (a:aT) (hl:l.length<=1099511627776):Ok prog 271 [.sl .view 2 (l.map aK),.agg (aK a)] (.int .i64 (BN (gL a) l)):=by
 refine bR aAc func271 ntmps271 ?_
 have W:=trivial
 repeat' first|refine we ?_|(refine sq ?_ ?_<;>intro hc<;>try exact hc.elim)|fail
 refine aJ (ι:={k:Nat // k<=l.length/\∀x∈l.take k,gL a x=false}) (fun t o i=>⟨aZ t [(8,.int .i64 i.1),(5,.undef)],o⟩)
  (fun i=>l.length - i.1) ⟨0,by simp,by simp⟩ (aI (by simp) (by simp)) ?_
 rintro ⟨k,hk,hi⟩ K1 hK1
 simp only [aZ,set_cons_succ,set_cons_zero] at hK1⊢
 have hk1:i64.wrap ((k:Int)+1)=((k+1:Nat):Int):=by rw [wrap64]<;>omega
 by_cases hlt:k < l.length
 ·have hg:=getElem?_eq_getElem hlt
  have hq:EqA prog 28 (aK a) (aK l[k]) (decide (a=l[k])):=yB a l[k]
  have W:=aA hk1 (aA hg hlt)
  have c0:=hq
  repeat' first|refine we ?_|(refine sq ?_ ?_<;>intro hc<;>try exact hc.elim)|fail
  ·all_goals try(refine ⟨.inr rfl,?_⟩;simp [aB,results271])
   rw [Eb hlt (by simp [gL];exact hc.symm) hi]
  ·exact hK1 _ ⟨k+1,by omega,dS hlt hi (by simp [gL];intro h;exact hc h.symm)⟩ (aS 1 (by simp) (by simp) (by simp) (by simp)) (by simp only;omega)
 ·have W:=hk1
  repeat' first|refine we ?_|(refine sq ?_ ?_<;>intro hc<;>try exact hc.elim)|fail
  all_goals try(refine ⟨.inr rfl,?_⟩;simp [aB,results271])
  rw [vH (lW (by omega) hi)]
theorem xE [aD prog] (l:List aT) (a:aT) (hl:l.length<=1099511627776):Ok prog 230 [.sl .view 2 (l.map aK),.agg (aK a)] (.bool (l.any (gL a))):=by
 have c1:=TI l a hl
 simp only [aK] at c1
 refine bR aAc func230 ntmps230 ?_
 have W:=trivial
 repeat' first|refine we ?_|(refine sq ?_ ?_<;>intro hc<;>try exact hc.elim)|fail
 all_goals try(refine ⟨.inr rfl,?_⟩;simp [aB,results230])
 exact Kj _ _
theorem NY [aD prog] (l:List aT) (a:aT) (hl:l.length<=1099511627776):Ok prog 171 [.sl .view 2 (l.map aK),.agg (aK a)] (.bool (l.any (gL a))):=by
 have c1:=xE l a hl
 simp only [aK] at c1
 refine bR aAc func171 ntmps171 ?_
 have W:=trivial
 repeat' first|refine we ?_|(refine sq ?_ ?_<;>intro hc<;>try exact hc.elim)|fail
 all_goals try(refine ⟨.inr rfl,?_⟩;simp [aB,results171])
end Go.Proofs.YtlnblmmohpcceaaGreatDoor
