/-
  Proved here: steps towards the statement of this claim, text QRCB.
  No condition beyond what each statement spells out.
-/
import Derived.Test.YtlnblmmohpcceaaGreatDoorQRC7
import Derived.Test.YtlnblmmohpcceaaGreatDoorF4
import Derived.Test.YtlnblmmohpcceaaGreatDoorQQ1
import Derived.Test.YtlnblmmohpcceaaGreatDoorQU3
import Derived.Test.YtlnblmmohpcceaaGreatDoorF6
set_option linter.all false
set_option maxRecDepth 8000
set_option maxHeartbeats 8000000
namespace Go.Proofs.YtlnblmmohpcceaaGreatDoor
open Go.Aw
theorem aHu (l:List Str) (h:¬l.length < 40):∀ss:List Str,gG l ss=l
 |[]=>rfl
 |s::ss=>by
  show gG (dZ l s) ss=l
  have:dZ l s=l:=by unfold dZ;rw [if_neg h]
  rw [this];exact aHu l h ss
theorem aT5 (l ss:List Str) (k:Nat) (h:¬(gG l (ss.take k)).length < 40):gG l (ss.take k)=gG l ss:=by
 have e:gG l ss=gG (gG l (ss.take k)) (ss.drop k):=by
  unfold gG;rw [←List.foldl_append,List.take_append_drop]
 rw [e,aHu _ h]
theorem xS [aA Tryz.prog] [dY Tryz.prog] [dG Tryz.prog] [lY Tryz.prog] (p:aJ) (code:Str) (w:Bool) (hs:aD p≤67108864) (hc:code.length≤1073741824):Ok Tryz.prog 66 [.agg (aG .view p),.str code,.bool w] (.agg (aG .own (jQ p code w))):=by
 have c1:=iO p (by omega)
 have c2:=yY code hc
 have hlg:p.log.length≤67108864:=by simp only [aD,szL] at hs;omega
 obtain ⟨b1,b2⟩:=uW code
 unfold jQ
 generalize eO code=g at *
 obtain ⟨l,ok⟩:=g
 simp only at c2 b1 b2⊢
 cases ok
 ·rw [if_neg (by simp)]
  simp only [aG,aDc] at c1⊢
  clear b1 b2
  by_cases h:p.log.length < 40
  ·have hi:(p.log.length:Int) < 40:=by omega
   obtain ⟨l1,hl1⟩:∃l1,l1=p.log++[[101,114,114,111,114]]:=⟨_,rfl⟩
   have hap:p.log.map bU++[[.str [101,114,114,111,114]]]=l1.map bU:=by rw [hl1];simp
   have e:dZ p.log [101,114,114,111,114]=l1:=by unfold dZ;rw [if_pos h,hl1]
   rw [e]
   clear e hl1
   refine ent Tryz.mix Tryz.func66 Tryz.ntmps66 ?_
   have W:=And.intro hi (And.intro hap hlg)
   repeat' first|refine wl ?_|(refine sq (fun hc=>?_) (fun hc=>?_)<;>try exact hc.elim)|fail
   all_goals (try (refine ⟨.inr rfl,?_⟩;simp [Hands,Tryz.results66]))
  ·have hi:¬(p.log.length:Int) < 40:=by omega
   have e:dZ p.log [101,114,114,111,114]=p.log:=by unfold dZ;rw [if_neg h]
   rw [e]
   clear e
   refine ent Tryz.mix Tryz.func66 Tryz.ntmps66 ?_
   have W:=hi
   repeat' first|refine wl ?_|(refine sq (fun hc=>?_) (fun hc=>?_)<;>try exact hc.elim)|fail
   all_goals (try (refine ⟨.inr rfl,?_⟩;simp [Hands,Tryz.results66]))
 rw [if_pos rfl]
 have hsl:szL fG p.slots≤1073741824:=by simp only [aD,szL] at *;omega
 have hsb:aI p.builder≤67108864:=by simp only [aD] at hs;omega
 have hqu:p.queue.length≤67108864:=by simp only [aD,szL] at hs;omega
 have c3:=aBn p hsl
 obtain ⟨hb1,hb2⟩:=zJ p
 have hb1':(bO p).length≤67108864:=by simp only [aD,szL] at hs;omega
 have c4:=aAl p.builder (bO p) l (by omega) b1 (fun x hm=>by have:=b2 x hm;omega) (by omega) (fun x hm=>by have:=hb2 x hm;omega) (rA p)
 obtain ⟨z1,z2,z3,z4⟩:=vJ 60 p.builder (bO p) l (by omega) b1 b2 (rA p) (by omega) l.length (Nat.le_refl _)
 have hend:kC p.builder (bO p) l l.length=dE p.builder (bO p) l:=by simp [kC]
 rw [hend] at z1 z2 z3 z4
 have c5:=aK8 (dE p.builder (bO p) l).2.1 (by omega)
 obtain ⟨y1,y2⟩:=aCn (dE p.builder (bO p) l).2.1
 unfold lN
 clear hb2 b2 hend
 generalize bO p=ss at *
 generalize dE p.builder ss l=g at *
 obtain ⟨b,wr,lg⟩:=g
 simp only at c4 c5 z1 z2 z3 z4 y1 y2⊢
 generalize oH wr=tk at *
 simp only [aG,aL] at c1 c3 c4
 refine ent Tryz.mix Tryz.func66 Tryz.ntmps66 ?_
 have W:=trivial
 repeat' first|refine wl ?_|(refine sq (fun hc=>?_) (fun hc=>?_)<;>try exact hc.elim)|fail
 obtain ⟨Q,hQ⟩:∃Q:Nat→List Str,∀k,Q k=gG p.log (lg.take k):=⟨_,fun _=>rfl⟩
 have hQ0:Q 0=p.log:=by rw [hQ];rfl
 have hQn:∀k,(¬k < lg.length∨¬(Q k).length < 40)→gG p.log lg=Q k:=fun k h=>by
  rw [hQ] at h⊢
  rcases h with h|h
  ·rw [List.take_of_length_le (by omega)]
  ·rw [aT5 _ _ _ h]
 have hQl:∀k,(Q k).length≤67108870:=fun k=>by
  rw [hQ];have:=aEc p.log (lg.take k);simp only [List.length_take] at this⊢;omega
 have hQs:∀k (h:k < lg.length),(Q k).length < 40→Q (k+1)=Q k++[lg[k]]:=fun k h h4=>by
  rw [hQ,aCd _ _ _ h,←hQ];unfold dZ;rw [if_pos h4]
 refine aM (ι:={q:Nat×Nat // q.1≤lg.length∧1≤q.2}) (fun t o i=>⟨aO t [(13,.int .i64 i.1.1),(15,.undef)],o.take 12++[⟨true,false,1,i.1.2,(Q i.1.1).map bU⟩,⟨true,true,22,0,[[.str p.addr.host,.str p.addr.path,.bool p.policy.isSet,.obj 2 1,.obj 3 1,.obj 4 1,.str p.policy.nonce,.str p.tok.rest,.obj 5 1,.bool p.ended,.obj 17 1,.obj 18 1,.obj 8 1,.obj 9 1,.obj 10 1,.int .i64 p.block,.int .i64 p.inline,.int .i64 p.deferred,.int .i64 p.entered,.obj 11 1,.obj 12 i.1.2,.bool p.loaded]]⟩]++o.drop 14⟩)
  (fun i=>lg.length - i.1.1) ⟨(0,1),by simp,by simp⟩ (aH (by simp [hQ0]) (by simp)) ?_
 rintro ⟨⟨k,v⟩,hk,hv⟩ K1 hK1
 simp only at hk hv
 simp only [aO,List.set_cons_succ,List.set_cons_zero,List.take_succ_cons,List.take_zero,List.drop_succ_cons,List.drop_zero,List.cons_append,List.nil_append] at hK1⊢
 have hk1:IntKind.i64.wrap ((k:Int)+1)=((k+1:Nat):Int):=by rw [wrap64]<;>omega
 have hl1:=hQl k
 have hend2:=hQn k
 have hstep:=hQs k
 clear hQn hQl hQs hQ0 hQ
 by_cases hgo:k < lg.length∧(Q k).length < 40
 ·obtain ⟨hlt,h40⟩:=hgo
  have hg:=List.getElem?_eq_getElem hlt
  have hnext:=hstep hlt h40
  have h40':((Q k).length:Int) < 40:=by omega
  clear hstep hend2
  generalize hqk:Q k=q at *
  have W:=And.intro hk1 (And.intro hg (And.intro hlt (And.intro h40' hl1)))
  repeat' first|refine wl ?_|(refine sq (fun hc=>?_) (fun hc=>?_)<;>try exact hc.elim)|fail
  all_goals refine hK1 _ ⟨(k+1,v+1),by simp only;omega,by simp only;omega⟩ (aQ 20 ?_ (by simp) (by simp) (by simp [dL])) (by simp only;omega)
  all_goals simp [hnext]
 ·have hfin:=hend2 (by omega)
  have hcase:¬k < lg.length∨(k < lg.length∧¬((Q k).length:Int) < 40):=by omega
  rw [hfin]
  clear hstep hend2 hK1 hgo hfin
  generalize Q k=q at *
  have hbq:(tk.length+p.queue.length) * 64≤140737488355328:=by omega
  rcases hcase with hlt|⟨hlt,h40⟩
  ·cases w
   ·have W:=And.intro hk1 hlt
    repeat' first|refine wl ?_|(refine sq (fun hc=>?_) (fun hc=>?_)<;>try exact hc.elim)|fail
    all_goals (try (refine ⟨.inr rfl,?_⟩;simp [Hands,Tryz.results66]))
   ·rw [if_pos rfl]
    have W:=And.intro hk1 (And.intro hbq hlt)
    repeat' first|refine wl ?_|(refine sq (fun hc=>?_) (fun hc=>?_)<;>try exact hc.elim)|fail
    all_goals (try (refine ⟨.inr rfl,?_⟩;simp [Hands,Tryz.results66]))
    all_goals (rw [←List.map_append];exact sZ _)
  ·cases w
   ·have W:=And.intro hk1 (And.intro hlt h40)
    repeat' first|refine wl ?_|(refine sq (fun hc=>?_) (fun hc=>?_)<;>try exact hc.elim)|fail
    all_goals (try (refine ⟨.inr rfl,?_⟩;simp [Hands,Tryz.results66]))
   ·rw [if_pos rfl]
    have W:=And.intro hk1 (And.intro hbq (And.intro hlt h40))
    repeat' first|refine wl ?_|(refine sq (fun hc=>?_) (fun hc=>?_)<;>try exact hc.elim)|fail
    all_goals (try (refine ⟨.inr rfl,?_⟩;simp [Hands,Tryz.results66]))
    all_goals (rw [←List.map_append];exact sZ _)
theorem gW {α:Type} (f:α→Nat):∀a b:List α,aC f (a++b)=aC f a+aC f b
 |[],b=>by simp [aC]
 |x::xs,b=>by simp only [List.cons_append,aC,gW f xs b];omega
theorem aYx (p:aJ):wJ p≤20 * aD p+20:=by
 have h1:=aFz 3 aZa p.queue
 have h2:=aFz 3 bBu p.builder.nodes
 simp only [aD,gL,aI,szL,wJ,lJ,lC,fH]
 omega
theorem zQ (g:aJ) (hg:aD g≤1099511627776):(wJ g≤21990232555540∧g.queue.length≤4611686018427387904)∧(∀x∈g.queue,x.attrs.length≤4611686018427387904)∧g.builder.nodes.length≤4611686018427387904∧(∀x∈g.builder.nodes,x.attrs.length≤4611686018427387904):=by
 have h:=aYx g
 refine ⟨⟨by omega,?_⟩,?_,?_,?_⟩
 ·simp only [aD,szL] at hg;omega
 ·exact aU9 (by simp only [aD,szL] at hg;omega)
 ·simp only [aD,aI,szL] at hg;omega
 ·exact aYc (by simp only [aD,aI,szL] at hg;omega)
theorem aY7 (l:List Str) (ss:List Str):szL cB (gG l ss)≤szL cB l+szL cB ss:=by
 induction ss generalizing l with
 |nil=>simp only [gG,List.foldl_nil];omega
 |cons s ss ih=>
  have h1:szL cB (dZ l s)≤szL cB l+1+cB s:=by
   unfold dZ
   split
   ·simp only [szL,List.length_append,List.length_cons,List.length_nil,gW,aC];omega
   ·omega
  have h2:=ih (dZ l s)
  have e:gG l (s::ss)=gG (dZ l s) ss:=rfl
  rw [e];simp only [szL,List.length_cons,aC] at *;omega
theorem aUr (p:aJ) (l:List fI) (wr:Bool) (hs:aD p≤67108864) (h6:l.length≤6) (hx:∀x∈l,x.text.length≤60):aD (lN p l wr)≤aD p+1700:=by
 have hsb:aI p.builder≤67108864:=by simp only [aD] at hs;omega
 obtain ⟨z1,z2,z3,z4⟩:=vJ 60 p.builder (bO p) l (by omega) h6 hx (rA p) (by omega) l.length (Nat.le_refl _)
 have hend:kC p.builder (bO p) l l.length=dE p.builder (bO p) l:=by simp [kC]
 rw [hend] at z1 z2 z3 z4
 obtain ⟨y1,y2⟩:=aCn (dE p.builder (bO p) l).2.1
 have hl:=aY7 p.log (dE p.builder (bO p) l).2.2
 unfold lN
 generalize dE p.builder (bO p) l=g at *
 obtain ⟨b,w,lg⟩:=g
 simp only at *
 generalize gG p.log lg=lg2 at *
 generalize oH w=tk at *
 have hq:szL aV (if wr=true then tk++p.queue else p.queue)≤szL aV p.queue+721:=by
  split
  ·simp only [szL,List.length_append,gW];omega
  ·omega
 generalize (if wr=true then tk++p.queue else p.queue)=q2 at *
 have hlg:szL cB lg≤546:=by simp only [szL];omega
 simp only [aD] at *
 omega
theorem aD2 (p:aJ) (code:Str) (wr:Bool) (hs:aD p≤67108864):aD (jQ p code wr)≤aD p+1700:=by
 obtain ⟨b1,b2⟩:=uW code
 unfold jQ
 split
 ·exact aUr p _ wr hs b1 b2
 ·have h1:szL cB (dZ p.log aDc)≤szL cB p.log+6:=by
   unfold dZ
   split
   ·simp only [szL,List.length_append,List.length_cons,List.length_nil,gW,aC,cB,aDc];omega
   ·omega
  simp only [aD] at *
  omega
theorem aZo {a b:aK}:aF a=aF b↔a=b:=by
 obtain ⟨a1,a2⟩:=a
 obtain ⟨b1,b2⟩:=b
 simp
theorem tO (a b:aK):EqA Tryz.prog 28 (aF a) (aF b) (decide (a=b)):=
 bE3 (f:=6) (ss:=[.str,.str]) (by decide) (by kernel_rfl) (by kernel_rfl) (by kernel_rfl) (by kernel_rfl) (by simp [nQ,aAx]) (by simp [nQ,aAx]) (by rw [aZo,decide_eq_true_iff])
def kM (a:aK) (m:cZ):Bool:=decide (m.to=a)
theorem aCk [aA Tryz.prog] (p:aJ) (a:aK) (hl:p.mods.length≤1099511627776):Ok Tryz.prog 155 [.agg (aG .view p),.agg (aF a)] (.int .i64 (rM (kM a) p.mods)):=by
 refine ent Tryz.mix Tryz.func155 Tryz.ntmps155 ?_
 have W:=trivial
 repeat' first|refine we ?_|(refine sq (fun hc=>?_) (fun hc=>?_)<;>try exact hc.elim)|fail
 refine aM (ι:={k:Nat // k≤p.mods.length∧∀x∈p.mods.take k,kM a x=false}) (fun t o i=>⟨aO t [(5,.int .i64 i.1)],o⟩)
  (fun i=>p.mods.length - i.1) ⟨0,by simp⟩ (aH (by simp) (by simp)) ?_
 rintro ⟨k,hk,hpre⟩ K1 hK1
 simp only [aO,List.set_cons_succ,List.set_cons_zero] at hK1⊢
 have hk1:IntKind.i64.wrap ((k:Int)+1)=((k+1:Nat):Int):=by rw [wrap64]<;>omega
 by_cases hlt:k < p.mods.length
 ·have hg:=List.getElem?_eq_getElem hlt
  have W:=And.intro hk1 (And.intro hg hlt)
  have c0:=tO p.mods[k].to a
  repeat' first|refine we ?_|(refine sq (fun hc=>?_) (fun hc=>?_)<;>try exact hc.elim)|fail
  ·all_goals (try (refine ⟨.inr rfl,?_⟩;simp [Hands,Tryz.results155]))
   rw [aAf hlt (by simpa [kM] using hc) hpre]
  ·exact hK1 _ ⟨k+1,by omega,dP hlt hpre (by simpa [kM] using hc)⟩ (aH (by simp) (by simp)) (by simp only;omega)
 ·have W:=hk1
  repeat' first|refine we ?_|(refine sq (fun hc=>?_) (fun hc=>?_)<;>try exact hc.elim)|fail
  all_goals (try (refine ⟨.inr rfl,?_⟩;simp [Hands,Tryz.results155]))
  rw [sO (kG (by omega) hpre)]
theorem aZm [aA Tryz.prog] (m:cZ) (a:aK):Ok Tryz.prog 229 [.agg (bD m),.vptr .view (aF a) 0] (.bool (kM a m)):=by
 refine ent Tryz.mix Tryz.func229 Tryz.ntmps229 ?_
 have W:=trivial
 have c0:=tO m.to a
 repeat' first|refine we ?_|(refine sq (fun hc=>?_) (fun hc=>?_)<;>try exact hc.elim)|fail
 all_goals (try (refine ⟨.inr rfl,?_⟩;simp [Hands,Tryz.results229]))
 rfl
theorem aUl [aA Tryz.prog] (l:List cZ) (a:aK) (hl:l.length≤1099511627776):Ok Tryz.prog 228 [.sl .view 5 (l.map bD),.fn 229 [.vptr .view (aF a) 0]] (.int .i64 (rM (kM a) l)):=by
 refine ent Tryz.mix Tryz.func228 Tryz.ntmps228 ?_
 have W:=trivial
 repeat' first|refine we ?_|(refine sq (fun hc=>?_) (fun hc=>?_)<;>try exact hc.elim)|fail
 refine aM (ι:={k:Nat // k≤l.length∧∀x∈l.take k,kM a x=false}) (fun t o i=>⟨aO t [(8,.int .i64 i.1),(5,.undef)],o⟩)
  (fun i=>l.length - i.1) ⟨0,by simp⟩ (aH (by simp) (by simp)) ?_
 rintro ⟨k,hk,hpre⟩ K1 hK1
 simp only [aO,List.set_cons_succ,List.set_cons_zero] at hK1⊢
 have hk1:IntKind.i64.wrap ((k:Int)+1)=((k+1:Nat):Int):=by rw [wrap64]<;>omega
 by_cases hlt:k < l.length
 ·have hg:=List.getElem?_eq_getElem hlt
  have W:=And.intro hk1 (And.intro hg hlt)
  have c0:=aZm l[k] a
  repeat' first|refine we ?_|(refine sq (fun hc=>?_) (fun hc=>?_)<;>try exact hc.elim)|fail
  ·all_goals (try (refine ⟨.inr rfl,?_⟩;simp [Hands,Tryz.results228]))
   rw [aAf hlt (by simpa using hc) hpre]
  ·exact hK1 _ ⟨k+1,by omega,dP hlt hpre (by simpa using hc)⟩ (aH (by simp) (by simp)) (by simp only;omega)
 ·have W:=hk1
  repeat' first|refine we ?_|(refine sq (fun hc=>?_) (fun hc=>?_)<;>try exact hc.elim)|fail
  all_goals (try (refine ⟨.inr rfl,?_⟩;simp [Hands,Tryz.results228]))
  rw [sO (kG (by omega) hpre)]
def fP (a x:aK):Bool:=decide (x=a)
theorem xH [aA Tryz.prog] (l:List aK) (a:aK) (hl:l.length≤1099511627776):Ok Tryz.prog 158 [.sl .view 2 (l.map aF),.agg (aF a)] (.bool (l.any (fP a))):=by
 refine ent Tryz.mix Tryz.func158 Tryz.ntmps158 ?_
 have W:=trivial
 repeat' first|refine we ?_|(refine sq (fun hc=>?_) (fun hc=>?_)<;>try exact hc.elim)|fail
 refine aM (ι:={k:Nat // k≤l.length∧∀x∈l.take k,fP a x=false}) (fun t o i=>⟨aO t [(5,.int .i64 i.1)],o⟩)
  (fun i=>l.length - i.1) ⟨0,by simp,by simp⟩ (aH (by simp) (by simp)) ?_
 rintro ⟨k,hk,hi⟩ K1 hK1
 simp only [aO,List.set_cons_succ,List.set_cons_zero] at hK1⊢
 have hk1:IntKind.i64.wrap ((k:Int)+1)=((k+1:Nat):Int):=by rw [wrap64]<;>omega
 by_cases hlt:k < l.length
 ·have hg:=List.getElem?_eq_getElem hlt
  have W:=And.intro hk1 (And.intro hg hlt)
  have c0:=tO l[k] a
  repeat' first|refine we ?_|(refine sq (fun hc=>?_) (fun hc=>?_)<;>try exact hc.elim)|fail
  ·all_goals (try (refine ⟨.inr rfl,?_⟩;simp [Hands,Tryz.results158]))
   refine ⟨_,List.getElem_mem hlt,by simpa [fP] using hc⟩
  ·exact hK1 _ ⟨k+1,by omega,dP hlt hi (by simpa [fP] using hc)⟩ (aQ 1 (by simp) (by simp) (by simp) (by simp)) (by simp only;omega)
 ·have W:=hk1
  repeat' first|refine we ?_|(refine sq (fun hc=>?_) (fun hc=>?_)<;>try exact hc.elim)|fail
  all_goals (try (refine ⟨.inr rfl,?_⟩;simp [Hands,Tryz.results158]))
  have:=kG (by omega) hi
  simpa using this
theorem aQ7 [aA Tryz.prog] (l:List aK) (a:aK) (hl:l.length≤1099511627776):Ok Tryz.prog 271 [.sl .view 2 (l.map aF),.agg (aF a)] (.int .i64 (rM (fP a) l)):=by
 refine ent Tryz.mix Tryz.func271 Tryz.ntmps271 ?_
 have W:=trivial
 repeat' first|refine we ?_|(refine sq (fun hc=>?_) (fun hc=>?_)<;>try exact hc.elim)|fail
 refine aM (ι:={k:Nat // k≤l.length∧∀x∈l.take k,fP a x=false}) (fun t o i=>⟨aO t [(8,.int .i64 i.1),(5,.undef)],o⟩)
  (fun i=>l.length - i.1) ⟨0,by simp,by simp⟩ (aH (by simp) (by simp)) ?_
 rintro ⟨k,hk,hi⟩ K1 hK1
 simp only [aO,List.set_cons_succ,List.set_cons_zero] at hK1⊢
 have hk1:IntKind.i64.wrap ((k:Int)+1)=((k+1:Nat):Int):=by rw [wrap64]<;>omega
 by_cases hlt:k < l.length
 ·have hg:=List.getElem?_eq_getElem hlt
  have hq:EqA Tryz.prog 28 (aF a) (aF l[k]) (decide (a=l[k])):=tO a l[k]
  have W:=And.intro hk1 (And.intro hg hlt)
  have c0:=hq
  repeat' first|refine we ?_|(refine sq (fun hc=>?_) (fun hc=>?_)<;>try exact hc.elim)|fail
  ·all_goals (try (refine ⟨.inr rfl,?_⟩;simp [Hands,Tryz.results271]))
   rw [aAf hlt (by simp [fP];exact hc.symm) hi]
  ·exact hK1 _ ⟨k+1,by omega,dP hlt hi (by simp [fP];intro h;exact hc h.symm)⟩ (aQ 1 (by simp) (by simp) (by simp) (by simp)) (by simp only;omega)
 ·have W:=hk1
  repeat' first|refine we ?_|(refine sq (fun hc=>?_) (fun hc=>?_)<;>try exact hc.elim)|fail
  all_goals (try (refine ⟨.inr rfl,?_⟩;simp [Hands,Tryz.results271]))
  rw [sO (kG (by omega) hi)]
theorem wB [aA Tryz.prog] (l:List aK) (a:aK) (hl:l.length≤1099511627776):Ok Tryz.prog 230 [.sl .view 2 (l.map aF),.agg (aF a)] (.bool (l.any (fP a))):=by
 have c1:=aQ7 l a hl
 simp only [aF] at c1
 refine ent Tryz.mix Tryz.func230 Tryz.ntmps230 ?_
 have W:=trivial
 repeat' first|refine we ?_|(refine sq (fun hc=>?_) (fun hc=>?_)<;>try exact hc.elim)|fail
 all_goals (try (refine ⟨.inr rfl,?_⟩;simp [Hands,Tryz.results230]))
 exact aHg _ _
theorem aL5 [aA Tryz.prog] (l:List aK) (a:aK) (hl:l.length≤1099511627776):Ok Tryz.prog 171 [.sl .view 2 (l.map aF),.agg (aF a)] (.bool (l.any (fP a))):=by
 have c1:=wB l a hl
 simp only [aF] at c1
 refine ent Tryz.mix Tryz.func171 Tryz.ntmps171 ?_
 have W:=trivial
 repeat' first|refine we ?_|(refine sq (fun hc=>?_) (fun hc=>?_)<;>try exact hc.elim)|fail
 all_goals (try (refine ⟨.inr rfl,?_⟩;simp [Hands,Tryz.results171]))
end Go.Proofs.YtlnblmmohpcceaaGreatDoor
