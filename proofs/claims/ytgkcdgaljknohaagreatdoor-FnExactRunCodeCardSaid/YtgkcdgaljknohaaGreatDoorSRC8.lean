/-
  Proved here: steps towards the statement of this claim, text SRC8.
  No condition beyond what each statement spells out.
-/
import Derived.Test.YtgkcdgaljknohaaGreatDoorSRC7
set_option linter.all false
set_option maxRecDepth 8000
set_option maxHeartbeats 8000000
namespace Go.Proofs.YtgkcdgaljknohaaGreatDoor
open Go.Aw
theorem implRunLines_ok [Tabs Tryz.prog] [HasPow Tryz.prog] [HasMax Tryz.prog] [HasErr Tryz.prog] (p:DPage) (l:List DLine) (w:Bool) (hs:szPage p≤67108864) (h6:l.length≤6) (hx:∀x∈l,x.text.length≤60):
  OkG Tryz.prog 51 [.lend (ePage .own p) (ePage .own (ranLines p l w)),.view (.sl .view 2 (l.map eLine)),.view (.bool w)] (.tup []):=by
 have hsl:szL szSlot p.slots≤1073741824:=by simp only [szPage,szL] at *;omega
 have hsb:szBuilder p.builder≤67108864:=by simp only [szPage] at hs;omega
 have hlg:p.log.length≤67108864:=by simp only [szPage,szL] at hs;omega
 have hqu:p.queue.length≤67108864:=by simp only [szPage,szL] at hs;omega
 have c1:=implSheetsOf_ok p hsl
 obtain ⟨hb1,hb2⟩:=sheets_bounds p
 have hb1':(sheetsOf p).length≤67108864:=by simp only [szPage,szL] at hs;omega
 have c2:=implRunScript_ok p.builder (sheetsOf p) l (by omega) h6 (fun x hm=>by have:=hx x hm;omega) (by omega) (fun x hm=>by have:=hb2 x hm;omega) (colors_ok p)
 obtain ⟨z1,z2,z3,z4⟩:=runTo_sz 60 p.builder (sheetsOf p) l (by omega) h6 hx (colors_ok p) (by omega) l.length (Nat.le_refl _)
 have hend:runTo p.builder (sheetsOf p) l l.length=runScript p.builder (sheetsOf p) l:=by simp [runTo]
 rw [hend] at z1 z2 z3 z4
 have c3:=implTokensOf_ok (runScript p.builder (sheetsOf p) l).2.1 (by omega)
 obtain ⟨y1,y2⟩:=tokensOf_sz (runScript p.builder (sheetsOf p) l).2.1
 unfold ranLines
 clear hb2 hx hend
 generalize sheetsOf p=ss at *
 generalize runScript p.builder ss l=g at *
 obtain ⟨b,wr,lg⟩:=g
 simp only at c2 c3 z1 z2 z3 z4 y1 y2⊢
 generalize tokensOf wr=tk at *
 simp only [ePage,eBuilder] at c1 c2
 refine entG Tryz.mix Tryz.func51 Tryz.ntmps51 ?_
 have W:=trivial
 repeat' first|refine wl ?_|(refine sq (fun hc=>?_) (fun hc=>?_)<;>try exact hc.elim)|fail
 obtain ⟨Q,hQ⟩:∃Q:Nat→DPage,∀k,Q k={p with builder:=b,log:=sayAll p.log (lg.take k)}:=⟨_,fun _=>rfl⟩
 have hQ0:Q 0={p with builder:=b}:=by rw [hQ];rfl
 have hQn:Q lg.length={p with builder:=b,log:=sayAll p.log lg}:=by rw [hQ,List.take_length]
 have hQl:∀k,k≤lg.length→(Q k).log.length≤1099511627776:=fun k hk=>by
  rw [hQ];have:=sayAll_len p.log (lg.take k);simp only [List.length_take] at this⊢;omega
 have hQs:∀k (h:k < lg.length),Q (k+1)={Q k with log:=sayOne (Q k).log lg[k]}:=fun k h=>by
  rw [hQ,hQ,sayAll_succ _ _ _ h]
 refine awp_loop' (ι:={k:Nat // k≤lg.length}) (fun t o i=>⟨upds t [(31,.int .i64 i.1),(10,.undef),(11,.undef),(15,.undef),(18,.undef),(21,.undef),(22,.undef),(26,.undef)],[⟨true,true,22,2,[pCs 1 (Q i.1)]⟩]++pOs (Q i.1)++[⟨false,false,0,1,[]⟩,⟨true,false,1,1,ss.map (eSheet .own)⟩,⟨true,false,4,1,p.builder.nodes.map (eNode .own)⟩,⟨true,false,1,1,p.builder.opens.map eInt⟩,⟨true,false,1,1,lg.map eStr⟩]⟩)
  (fun i=>lg.length - i.1) ⟨0,by simp⟩ ?_ ?_
 ·simp only [hQ0,pCs,pOs,upds,List.set_cons_succ,List.set_cons_zero,List.cons_append,List.nil_append]
  exact weak_in rfl rfl ⟨rfl,rfl⟩ (by simp;rfl) rfl rfl ⟨rfl,rfl⟩ (by simp;rfl) rfl (by simp) (by simp) (by simp)
 rintro ⟨k,hk⟩ K1 hK1
 have hk1:IntKind.i64.wrap ((k:Int)+1)=((k+1:Nat):Int):=by rw [wrap64]<;>omega
 by_cases hlt:k < lg.length
 ·have hg:=List.getElem?_eq_getElem hlt
  have hnext:=hQs k hlt
  have c4:=implSay_ok (Q k) lg[k] (hQl k hk)
  rw [←hnext] at c4
  have hK2:=hK1
  clear hQ hQ0 hQn hQl hQs hnext
  generalize hq':Q (k+1)=q' at *
  generalize hq:Q k=q at *
  simp only [upds,List.set_cons_succ,List.set_cons_zero,List.cons_append,List.nil_append,pOs,pCs] at hK1⊢
  simp only [ePage] at c4
  have W:=And.intro hk1 (And.intro hg hlt)
  repeat' first|refine wl ?_|(refine nx ?_;refine sg (hc:=c4) (h:=?_))|(refine sq (fun hc=>?_) (fun hc=>?_)<;>try exact hc.elim)|fail
  refine hK2 _ ⟨k+1,by omega⟩ ?_ (by simp only;omega)
  exact weak_say (q:=q') rfl (by simp [pOs,pCs,hq']) (by simp [sSwaps]) (by simp [sSwaps]) (by simp) (by simp) (by simp [closedo])
 ·have hkl:k=lg.length:=by omega
  subst hkl
  simp only [hQn,upds,List.set_cons_succ,List.set_cons_zero,List.cons_append,List.nil_append,pOs,pCs] at hK1⊢
  clear hQ hQ0 hQn hQl hQs hK1
  cases w
  ·have W:=hk1
   repeat' first|refine wl ?_|(refine sq (fun hc=>?_) (fun hc=>?_)<;>try exact hc.elim)|fail
   all_goals (try (refine ⟨by first|exact .inr rfl|exact .inl rfl,?_⟩;simp [HandsG,lendOut,lendUse,rowOf,Tryz.results51]))
  ·rw [if_pos rfl]
   have hbq:(tk.length+p.queue.length) * 64≤140737488355328:=by omega
   have W:=And.intro hk1 hbq
   repeat' first|refine wl ?_|(refine sq (fun hc=>?_) (fun hc=>?_)<;>try exact hc.elim)|fail
   all_goals (try (refine ⟨by first|exact .inr rfl|exact .inl rfl,?_⟩;simp [HandsG,lendOut,lendUse,rowOf,Tryz.results51]))
   all_goals (rw [←List.map_append];exact clean_eToken _)
end Go.Proofs.YtgkcdgaljknohaaGreatDoor

set_option maxRecDepth 8000
set_option maxHeartbeats 8000000
namespace Go.Proofs.YtgkcdgaljknohaaGreatDoor
open Go.Aw
def sError:Str:=[101,114,114,111,114]
def runCode (p:DPage) (code:Str) (w:Bool):DPage:=
 if (scriptOf code).2=true then ranLines p (scriptOf code).1 w else {p with log:=sayOne p.log sError}
theorem implRunCode_ok [Tabs Tryz.prog] [HasPow Tryz.prog] [HasMax Tryz.prog] [HasErr Tryz.prog] (p:DPage) (code:Str) (w:Bool) (hs:szPage p≤67108864) (hc:code.length≤1073741824):Ok Tryz.prog 11 [.agg (ePage .view p),.str code,.bool w] (.agg (ePage .own (runCode p code w))):=by
 have c1:=copyPage_ok p (by omega)
 have c2:=implParseScript_ok code hc
 have hlg:p.log.length≤67108864:=by simp only [szPage,szL] at hs;omega
 obtain ⟨b1,b2⟩:=script_bounds code
 have c3:=implSay_ok p sError (by omega)
 have c4:=implRunLines_ok p (scriptOf code).1 w hs b1 b2
 unfold runCode
 generalize scriptOf code=g at *
 obtain ⟨l,ok⟩:=g
 simp only at c2 c4⊢
 generalize ranLines p l w=r at *
 simp only [ePage,sError] at c1 c3 c4⊢
 cases ok
 ·rw [if_neg (by simp)]
  refine ent Tryz.mix Tryz.func11 Tryz.ntmps11 ?_
  have W:=trivial
  repeat' first|refine wl ?_|(refine nx ?_;refine sg (hc:=c3) (h:=?_))|(refine sq (fun hc=>?_) (fun hc=>?_)<;>try exact hc.elim)|fail
  all_goals (try (refine ⟨.inr rfl,?_⟩;simp [Hands,Tryz.results11]))
 ·rw [if_pos rfl]
  refine ent Tryz.mix Tryz.func11 Tryz.ntmps11 ?_
  have W:=trivial
  repeat' first|refine wl ?_|(refine nx ?_;refine sg (hc:=c4) (h:=?_))|(refine sq (fun hc=>?_) (fun hc=>?_)<;>try exact hc.elim)|fail
  all_goals (try (refine ⟨.inr rfl,?_⟩;simp [Hands,Tryz.results11]))
end Go.Proofs.YtgkcdgaljknohaaGreatDoor

set_option maxRecDepth 8000
set_option maxHeartbeats 8000000
namespace Go.Proofs.YtgkcdgaljknohaaGreatDoor
open Go.Aw
theorem sayAll_full (l:List Str) (h:¬l.length < 40):∀ss:List Str,sayAll l ss=l
 |[]=>rfl
 |s::ss=>by
  show sayAll (sayOne l s) ss=l
  have:sayOne l s=l:=by unfold sayOne;rw [if_neg h]
  rw [this];exact sayAll_full l h ss
theorem sayAll_stop (l ss:List Str) (k:Nat) (h:¬(sayAll l (ss.take k)).length < 40):sayAll l (ss.take k)=sayAll l ss:=by
 have e:sayAll l ss=sayAll (sayAll l (ss.take k)) (ss.drop k):=by
  unfold sayAll;rw [←List.foldl_append,List.take_append_drop]
 rw [e,sayAll_full _ h]
theorem specRunCode_ok [Tabs Tryz.prog] [HasPow Tryz.prog] [HasMax Tryz.prog] [HasErr Tryz.prog] (p:DPage) (code:Str) (w:Bool) (hs:szPage p≤67108864) (hc:code.length≤1073741824):Ok Tryz.prog 9 [.agg (ePage .view p),.str code,.bool w] (.agg (ePage .own (runCode p code w))):=by
 have c1:=specPage_ok p (by omega)
 have c2:=specParseScript_ok code hc
 have hlg:p.log.length≤67108864:=by simp only [szPage,szL] at hs;omega
 obtain ⟨b1,b2⟩:=script_bounds code
 unfold runCode
 generalize scriptOf code=g at *
 obtain ⟨l,ok⟩:=g
 simp only at c2 b1 b2⊢
 cases ok
 ·rw [if_neg (by simp)]
  simp only [ePage,sError] at c1⊢
  clear b1 b2
  by_cases h:p.log.length < 40
  ·have hi:(p.log.length:Int) < 40:=by omega
   obtain ⟨l1,hl1⟩:∃l1,l1=p.log++[[101,114,114,111,114]]:=⟨_,rfl⟩
   have hap:p.log.map eStr++[[.str [101,114,114,111,114]]]=l1.map eStr:=by rw [hl1];simp
   have e:sayOne p.log [101,114,114,111,114]=l1:=by unfold sayOne;rw [if_pos h,hl1]
   rw [e]
   clear e hl1
   refine ent Tryz.mix Tryz.func9 Tryz.ntmps9 ?_
   have W:=And.intro hi (And.intro hap hlg)
   repeat' first|refine wl ?_|(refine sq (fun hc=>?_) (fun hc=>?_)<;>try exact hc.elim)|fail
   all_goals (try (refine ⟨.inr rfl,?_⟩;simp [Hands,Tryz.results9]))
  ·have hi:¬(p.log.length:Int) < 40:=by omega
   have e:sayOne p.log [101,114,114,111,114]=p.log:=by unfold sayOne;rw [if_neg h]
   rw [e]
   clear e
   refine ent Tryz.mix Tryz.func9 Tryz.ntmps9 ?_
   have W:=hi
   repeat' first|refine wl ?_|(refine sq (fun hc=>?_) (fun hc=>?_)<;>try exact hc.elim)|fail
   all_goals (try (refine ⟨.inr rfl,?_⟩;simp [Hands,Tryz.results9]))
 rw [if_pos rfl]
 have hsl:szL szSlot p.slots≤1073741824:=by simp only [szPage,szL] at *;omega
 have hsb:szBuilder p.builder≤67108864:=by simp only [szPage] at hs;omega
 have hqu:p.queue.length≤67108864:=by simp only [szPage,szL] at hs;omega
 have c3:=specSheetsOf_ok p hsl
 obtain ⟨hb1,hb2⟩:=sheets_bounds p
 have hb1':(sheetsOf p).length≤67108864:=by simp only [szPage,szL] at hs;omega
 have c4:=specRunScript_ok p.builder (sheetsOf p) l (by omega) b1 (fun x hm=>by have:=b2 x hm;omega) (by omega) (fun x hm=>by have:=hb2 x hm;omega) (colors_ok p)
 obtain ⟨z1,z2,z3,z4⟩:=runTo_sz 60 p.builder (sheetsOf p) l (by omega) b1 b2 (colors_ok p) (by omega) l.length (Nat.le_refl _)
 have hend:runTo p.builder (sheetsOf p) l l.length=runScript p.builder (sheetsOf p) l:=by simp [runTo]
 rw [hend] at z1 z2 z3 z4
 have c5:=specTokensOf_ok (runScript p.builder (sheetsOf p) l).2.1 (by omega)
 obtain ⟨y1,y2⟩:=tokensOf_sz (runScript p.builder (sheetsOf p) l).2.1
 unfold ranLines
 clear hb2 b2 hend
 generalize sheetsOf p=ss at *
 generalize runScript p.builder ss l=g at *
 obtain ⟨b,wr,lg⟩:=g
 simp only at c4 c5 z1 z2 z3 z4 y1 y2⊢
 generalize tokensOf wr=tk at *
 simp only [ePage,eBuilder] at c1 c3 c4
 refine ent Tryz.mix Tryz.func9 Tryz.ntmps9 ?_
 have W:=trivial
 repeat' first|refine wl ?_|(refine sq (fun hc=>?_) (fun hc=>?_)<;>try exact hc.elim)|fail
 obtain ⟨Q,hQ⟩:∃Q:Nat→List Str,∀k,Q k=sayAll p.log (lg.take k):=⟨_,fun _=>rfl⟩
 have hQ0:Q 0=p.log:=by rw [hQ];rfl
 have hQn:∀k,(¬k < lg.length∨¬(Q k).length < 40)→sayAll p.log lg=Q k:=fun k h=>by
  rw [hQ] at h⊢
  rcases h with h|h
  ·rw [List.take_of_length_le (by omega)]
  ·rw [sayAll_stop _ _ _ h]
 have hQl:∀k,(Q k).length≤67108870:=fun k=>by
  rw [hQ];have:=sayAll_len p.log (lg.take k);simp only [List.length_take] at this⊢;omega
 have hQs:∀k (h:k < lg.length),(Q k).length < 40→Q (k+1)=Q k++[lg[k]]:=fun k h h4=>by
  rw [hQ,sayAll_succ _ _ _ h,←hQ];unfold sayOne;rw [if_pos h4]
 refine awp_loop' (ι:={q:Nat×Nat // q.1≤lg.length∧1≤q.2}) (fun t o i=>⟨upds t [(13,.int .i64 i.1.1),(15,.undef)],o.take 12++[⟨true,false,1,i.1.2,(Q i.1.1).map eStr⟩,⟨true,true,22,0,[[.str p.addr.host,.str p.addr.path,.bool p.policy.isSet,.obj 2 1,.obj 3 1,.obj 4 1,.str p.policy.nonce,.str p.tok.rest,.obj 5 1,.bool p.ended,.obj 17 1,.obj 18 1,.obj 8 1,.obj 9 1,.obj 10 1,.int .i64 p.block,.int .i64 p.inline,.int .i64 p.deferred,.int .i64 p.entered,.obj 11 1,.obj 12 i.1.2,.bool p.loaded]]⟩]++o.drop 14⟩)
  (fun i=>lg.length - i.1.1) ⟨(0,1),by simp,by simp⟩ (weak_o (by simp [hQ0]) (by simp)) ?_
 rintro ⟨⟨k,v⟩,hk,hv⟩ K1 hK1
 simp only at hk hv
 simp only [upds,List.set_cons_succ,List.set_cons_zero,List.take_succ_cons,List.take_zero,List.drop_succ_cons,List.drop_zero,List.cons_append,List.nil_append] at hK1⊢
 have hk1:IntKind.i64.wrap ((k:Int)+1)=((k+1:Nat):Int):=by rw [wrap64]<;>omega
 have hl1:=hQl k
 have hend2:=hQn k
 have hstep:=hQs k
 clear hQn hQl hQs hQ0 hQ
 by_cases hgo:k < lg.length∧(Q k).length < 40
 ·obtain ⟨hlt,h40⟩:=hgo
  have hg:=List.getElem?_eq_getElem hlt
  have hnext:=hstep hlt h40
  have h40':((Q k).length:Int) < 40:=by omega
  clear hstep hend2
  generalize hqk:Q k=q at *
  have W:=And.intro hk1 (And.intro hg (And.intro hlt (And.intro h40' hl1)))
  repeat' first|refine wl ?_|(refine sq (fun hc=>?_) (fun hc=>?_)<;>try exact hc.elim)|fail
  all_goals refine hK1 _ ⟨(k+1,v+1),by simp only;omega,by simp only;omega⟩ (weak_take 20 ?_ (by simp) (by simp) (by simp [closedo])) (by simp only;omega)
  all_goals simp [hnext]
 ·have hfin:=hend2 (by omega)
  have hcase:¬k < lg.length∨(k < lg.length∧¬((Q k).length:Int) < 40):=by omega
  rw [hfin]
  clear hstep hend2 hK1 hgo hfin
  generalize Q k=q at *
  have hbq:(tk.length+p.queue.length) * 64≤140737488355328:=by omega
  rcases hcase with hlt|⟨hlt,h40⟩
  ·cases w
   ·have W:=And.intro hk1 hlt
    repeat' first|refine wl ?_|(refine sq (fun hc=>?_) (fun hc=>?_)<;>try exact hc.elim)|fail
    all_goals (try (refine ⟨.inr rfl,?_⟩;simp [Hands,Tryz.results9]))
   ·rw [if_pos rfl]
    have W:=And.intro hk1 (And.intro hbq hlt)
    repeat' first|refine wl ?_|(refine sq (fun hc=>?_) (fun hc=>?_)<;>try exact hc.elim)|fail
    all_goals (try (refine ⟨.inr rfl,?_⟩;simp [Hands,Tryz.results9]))
    all_goals (rw [←List.map_append];exact clean_eToken _)
  ·cases w
   ·have W:=And.intro hk1 (And.intro hlt h40)
    repeat' first|refine wl ?_|(refine sq (fun hc=>?_) (fun hc=>?_)<;>try exact hc.elim)|fail
    all_goals (try (refine ⟨.inr rfl,?_⟩;simp [Hands,Tryz.results9]))
   ·rw [if_pos rfl]
    have W:=And.intro hk1 (And.intro hbq (And.intro hlt h40))
    repeat' first|refine wl ?_|(refine sq (fun hc=>?_) (fun hc=>?_)<;>try exact hc.elim)|fail
    all_goals (try (refine ⟨.inr rfl,?_⟩;simp [Hands,Tryz.results9]))
    all_goals (rw [←List.map_append];exact clean_eToken _)
end Go.Proofs.YtgkcdgaljknohaaGreatDoor
