/-
  Proved here: steps towards the statement of this claim, text SRC7.
  No condition beyond what each statement spells out.
-/
import Derived.Test.YtgkcdgaljknohaaGreatDoorSRC6p
import Derived.Test.YtgkcdgaljknohaaGreatDoorSR7
import Derived.Test.YtgkcdgaljknohaaGreatDoorP4
import Derived.Test.YtgkcdgaljknohaaGreatDoorF8
import Derived.Test.YtgkcdgaljknohaaGreatDoorST4
import Derived.Test.YtgkcdgaljknohaaGreatDoorSC1
set_option linter.all false
set_option maxRecDepth 4000
set_option maxHeartbeats 4000000
namespace Go.Proofs.YtgkcdgaljknohaaGreatDoor
open Go.Aw
def sayOne (l:List Str) (s:Str):List Str:=if l.length < 40 then l++[s] else l
theorem implSay_ok [Tabs Tryz.prog] [HasPow Tryz.prog] (p:DPage) (s:Str) (hs:p.log.length≤1099511627776):OkG Tryz.prog 50 [.lend (ePage .own p) (ePage .own {p with log:=sayOne p.log s}),.view (.str s)] (.tup []):=by
 by_cases h:p.log.length < 40
 ·have hi:(p.log.length:Int) < 40:=by omega
  obtain ⟨l1,hl1⟩:∃l,l=p.log++[s]:=⟨_,rfl⟩
  have hap:p.log.map eStr++[[.str s]]=l1.map eStr:=by rw [hl1];simp
  have e:sayOne p.log s=l1:=by unfold sayOne;rw [if_pos h,hl1]
  rw [e]
  clear e hl1
  refine entG Tryz.mix Tryz.func50 Tryz.ntmps50 ?_
  have W:=And.intro hi (And.intro hap hs)
  repeat' first|refine wl ?_|(refine sq (fun hc=>?_) (fun hc=>?_)<;>try exact hc.elim)|fail
  all_goals (try (refine ⟨by first|exact .inr rfl|exact .inl rfl,?_⟩;simp [HandsG,lendOut,lendUse,rowOf,Tryz.results50]))
 ·have hi:¬(p.log.length:Int) < 40:=by omega
  have e:sayOne p.log s=p.log:=by unfold sayOne;rw [if_neg h]
  rw [e]
  clear e
  refine entG Tryz.mix Tryz.func50 Tryz.ntmps50 ?_
  have W:=hi
  repeat' first|refine wl ?_|(refine sq (fun hc=>?_) (fun hc=>?_)<;>try exact hc.elim)|fail
  all_goals (try (refine ⟨by first|exact .inr rfl|exact .inl rfl,?_⟩;simp [HandsG,lendOut,lendUse,rowOf,Tryz.results50]))
end Go.Proofs.YtgkcdgaljknohaaGreatDoor

set_option maxRecDepth 8000
set_option maxHeartbeats 8000000
namespace Go.Proofs.YtgkcdgaljknohaaGreatDoor
open Go.Aw
def pOs (q:DPage):List AObj:=[⟨true,false,1,1,q.policy.scripts.map eStr⟩,⟨true,false,1,1,q.policy.styles.map eStr⟩,⟨true,false,1,1,q.policy.images.map eStr⟩,⟨true,false,4,1,q.queue.map (eToken .own)⟩,⟨true,false,4,1,q.builder.nodes.map (eNode .own)⟩,⟨true,false,1,1,q.builder.opens.map eInt⟩,⟨true,false,8,1,q.slots.map eSlot⟩,⟨true,false,5,1,q.mods.map eModule⟩,⟨true,false,2,1,q.entries.map eAddr⟩,⟨true,false,2,1,q.ran.map eAddr⟩,⟨true,false,1,1,q.log.map eStr⟩]
def pCs (b:Nat) (q:DPage):List AV:=[.str q.addr.host,.str q.addr.path,.bool q.policy.isSet,.obj b 1,.obj (b+1) 1,.obj (b+2) 1,.str q.policy.nonce,.str q.tok.rest,.obj (b+3) 1,.bool q.ended,.obj (b+4) 1,.obj (b+5) 1,.obj (b+6) 1,.obj (b+7) 1,.obj (b+8) 1,.int .i64 q.block,.int .i64 q.inline,.int .i64 q.deferred,.int .i64 q.entered,.obj (b+9) 1,.obj (b+10) 1,.bool q.loaded]
def sSwaps:List (Nat×Nat):=[(1,17),(2,18),(3,19),(4,20),(5,21),(6,22),(7,23),(8,24),(9,25),(10,26),(11,27)]
theorem weak_say {t t':List AV} {o o':List AObj} {n1 v1 n2 v2 n3 v3 n4 v4 n5 v5 n6 v6 n7 v7 n8 v8 n9 v9 n10 v10 n11 v11:Nat} {e1 e2 e3 e4 e5 e6 e7 e8 e9 e10 e11:List (List AV)} {o12 o13 o14 o15 o16:AObj} {q:DPage} (ho:o=[⟨true,true,22,2,[pCs 17 q]⟩,⟨false,false,n1,v1,e1⟩,⟨false,false,n2,v2,e2⟩,⟨false,false,n3,v3,e3⟩,⟨false,false,n4,v4,e4⟩,⟨false,false,n5,v5,e5⟩,⟨false,false,n6,v6,e6⟩,⟨false,false,n7,v7,e7⟩,⟨false,false,n8,v8,e8⟩,⟨false,false,n9,v9,e9⟩,⟨false,false,n10,v10,e10⟩,⟨false,false,n11,v11,e11⟩,o12,o13,o14,o15,o16]++pOs q)
  (ho':o'=[⟨true,true,22,2,[pCs 1 q]⟩]++pOs q++[o12,o13,o14,o15,o16]) (ht:∀z∈sSwaps,wk (rswc z.1 z.2 t') t') (hf:∀z∈sSwaps,o12.rsw z.1 z.2=o12∧o13.rsw z.1 z.2=o13∧o14.rsw z.1 z.2=o14∧o15.rsw z.1 z.2=o15∧o16.rsw z.1 z.2=o16) (hw:wk t t') (hc:closedc 17 t'=true) (hc0:closedo 17 [o12,o13,o14,o15,o16]=true):Weak ⟨t,o⟩ ⟨t',o'⟩:=by
 subst ho;subst ho'
 have e:=fun i j (h:(i,j)∈sSwaps)=>hf (i,j) h
 have h:=fun i j (h:(i,j)∈sSwaps)=>ht (i,j) h
 simp only [pOs,pCs,List.cons_append,List.nil_append]
 refine (weak_t hw).trans ?_
 refine (weak_swp 1 17 rfl rfl ⟨rfl,rfl⟩ (by simp [(e 1 17 (by decide))];rfl) (h 1 17 (by decide))).trans ?_
 refine (weak_swp 2 18 rfl rfl ⟨rfl,rfl⟩ (by simp [(e 2 18 (by decide))];rfl) (h 2 18 (by decide))).trans ?_
 refine (weak_swp 3 19 rfl rfl ⟨rfl,rfl⟩ (by simp [(e 3 19 (by decide))];rfl) (h 3 19 (by decide))).trans ?_
 refine (weak_swp 4 20 rfl rfl ⟨rfl,rfl⟩ (by simp [(e 4 20 (by decide))];rfl) (h 4 20 (by decide))).trans ?_
 refine (weak_swp 5 21 rfl rfl ⟨rfl,rfl⟩ (by simp [(e 5 21 (by decide))];rfl) (h 5 21 (by decide))).trans ?_
 refine (weak_swp 6 22 rfl rfl ⟨rfl,rfl⟩ (by simp [(e 6 22 (by decide))];rfl) (h 6 22 (by decide))).trans ?_
 refine (weak_swp 7 23 rfl rfl ⟨rfl,rfl⟩ (by simp [(e 7 23 (by decide))];rfl) (h 7 23 (by decide))).trans ?_
 refine (weak_swp 8 24 rfl rfl ⟨rfl,rfl⟩ (by simp [(e 8 24 (by decide))];rfl) (h 8 24 (by decide))).trans ?_
 refine (weak_swp 9 25 rfl rfl ⟨rfl,rfl⟩ (by simp [(e 9 25 (by decide))];rfl) (h 9 25 (by decide))).trans ?_
 refine (weak_swp 10 26 rfl rfl ⟨rfl,rfl⟩ (by simp [(e 10 26 (by decide))];rfl) (h 10 26 (by decide))).trans ?_
 refine (weak_swp 11 27 rfl rfl ⟨rfl,rfl⟩ (by simp [(e 11 27 (by decide))];rfl) (h 11 27 (by decide))).trans ?_
 refine weak_take 17 (by simp) (wk_rfl _) hc ?_
 simpa [closedo,closedc,closed] using hc0
theorem weak_in {t t':List AV} {o o' o1 o2:List AObj} {a b c d e:AObj} (h5:o[5]? =some a) (h14:o[14]? =some b) (hb:a.box=false∧b.box=false) (e1:((o.set 5 b).set 14 a).map (AObj.rsw 5 14)=o1) (h6:o1[6]? =some c) (h15:o1[15]? =some d) (hd:c.box=false∧d.box=false) (e2:((o1.set 6 d).set 15 c).map (AObj.rsw 6 15)=o2) (h12:o2[12]? =some e) (e3:o2.set 12 ⟨false,false,0,e.ver,[]⟩=o') (w1:wk (rswc 5 14 t) t') (w2:wk (rswc 6 15 t') t'):Weak ⟨t,o⟩ ⟨t',o'⟩:=
 (weak_swp 5 14 h5 h14 hb e1 w1).trans ((weak_swp 6 15 h6 h15 hd e2 w2).trans (weak_kill 12 h12 e3 (wk_rfl _)))
end Go.Proofs.YtgkcdgaljknohaaGreatDoor

set_option maxRecDepth 8000
set_option maxHeartbeats 8000000
namespace Go.Proofs.YtgkcdgaljknohaaGreatDoor
open Go.Aw
def sayAll (l ss:List Str):List Str:=ss.foldl sayOne l
theorem sayAll_succ (l ss:List Str) (k:Nat) (h:k < ss.length):sayAll l (ss.take (k+1))=sayOne (sayAll l (ss.take k)) ss[k]:=by
 unfold sayAll
 rw [List.take_succ_eq_append_getElem h,List.foldl_append];rfl
theorem sayAll_len (l:List Str):∀ss:List Str,(sayAll l ss).length≤l.length+ss.length:=by
 intro ss
 induction ss generalizing l with
 |nil=>simp [sayAll]
 |cons s ss ih=>
  have h1:(sayOne l s).length≤l.length+1:=by unfold sayOne;split<;>simp
  have h2:=ih (sayOne l s)
  have e:sayAll l (s::ss)=sayAll (sayOne l s) ss:=rfl
  rw [e];simp only [List.length_cons];omega
def ranLines (p:DPage) (l:List DLine) (w:Bool):DPage:=
 {p with builder:=(runScript p.builder (sheetsOf p) l).1,log:=sayAll p.log (runScript p.builder (sheetsOf p) l).2.2,queue:=if w=true then tokensOf (runScript p.builder (sheetsOf p) l).2.1++p.queue else p.queue}
end Go.Proofs.YtgkcdgaljknohaaGreatDoor

namespace Go.Proofs.YtgkcdgaljknohaaGreatDoor
open Go.Aw
theorem look_some {α:Type} {f:α→Option Int} {l:List α} {k:Nat} {v:Int} (h:look f l k=some v):∃x∈l,f x=some v:=by
 unfold look at h
 obtain ⟨x,hx,hv⟩:=List.exists_of_findSome?_eq_some h
 exact ⟨x,List.mem_of_mem_take (List.mem_reverse.1 hx),hv⟩
theorem rule_color {q:Str} {r:DRule} (h:ruleOf q=some r):1≤r.color∧r.color≤999:=by
 unfold ruleOf at h
 split at h
 ·split at h
  ·rename_i hc
   obtain rfl:=Option.some.inj h
   exact hc.2
  ·cases h
 ·cases h
theorem colors_ok (p:DPage) (n:Str):0≤colorOf (sheetsOf p) n∧colorOf (sheetsOf p) n≤999:=by
 unfold colorOf
 cases h:look (sheetC n) (sheetsOf p) (sheetsOf p).length with
 |none=>simp
 |some v=>
  obtain ⟨s,hs,hv⟩:=look_some h
  unfold sheetC at hv
  obtain ⟨r,hr,hrv⟩:=look_some hv
  unfold ruleC at hrv
  split at hrv
  ·obtain rfl:=Option.some.inj hrv
   unfold sheetsOf sheetsTo at hs
   obtain ⟨y,_,rfl⟩:=List.mem_map.1 hs
   have h1:=List.mem_of_mem_take hr
   obtain ⟨q,_,hq⟩:=List.mem_filterMap.1 h1
   have:=rule_color hq
   simp only [Option.getD_some]
   omega
  ·cases hrv
theorem sheets_bounds (p:DPage):(sheetsOf p).length≤p.slots.length∧∀x∈sheetsOf p,x.rules.length≤8:=by
 refine ⟨sheetsTo_len _,?_⟩
 intro x hx
 unfold sheetsOf sheetsTo at hx
 obtain ⟨y,_,rfl⟩:=List.mem_map.1 hx
 exact rules_le (segs 59 y.body)
theorem name_len {s:Str} (h:isName s=true):s.length≤8:=by
 simp only [isName,Bool.and_eq_true,decide_eq_true_eq] at h
 omega
theorem lnTry_good {s:Str} {op:Nat} {v:DLine×Bool} (h:lnTry s op=some v) (hb:v.2=true):v.1.text.length≤60:=by
 unfold lnTry at h
 split at h
 ·obtain rfl:=Option.some.inj h
  simp only at hb⊢
  unfold lnGood at hb
  split at hb
  ·simpa using hb
  ·have:=name_len hb
   omega
 ·cases h
theorem or_get {α:Type} {a b:Option α} {v:α} (h:a.or b=some v):a=some v∨b=some v:=by
 cases a with
 |none=>exact .inr (by simpa using h)
 |some x=>exact .inl (by simpa using h)
theorem specLine_good (p:Str) (h:(specLine p).2=true):(specLine p).1.text.length≤60:=by
 unfold specLine at h⊢
 cases hv:((((lnTry p 1).or (lnTry p 2)).or (lnTry p 3)).or (lnTry p 4)).or (lnTry p 5) with
 |none=>simp
 |some v=>
  rw [hv] at h
  simp only [Option.getD_some] at h⊢
  rcases or_get hv with hv|hv
  ·rcases or_get hv with hv|hv
   ·rcases or_get hv with hv|hv
    ·rcases or_get hv with hv|hv
     ·exact lnTry_good hv h
     ·exact lnTry_good hv h
    ·exact lnTry_good hv h
   ·exact lnTry_good hv h
  ·exact lnTry_good hv h
theorem script_bounds (s:Str):(scriptOf s).1.length≤6∧∀x∈(scriptOf s).1,x.text.length≤60:=by
 unfold scriptOf
 split
 ·simp
 ·split
  ·rename_i h
   refine ⟨by simpa using h.2,?_⟩
   intro x hx
   obtain ⟨p,hp,rfl⟩:=List.mem_map.1 hx
   exact specLine_good p (List.all_eq_true.1 h.1 p hp)
  ·simp
end Go.Proofs.YtgkcdgaljknohaaGreatDoor
