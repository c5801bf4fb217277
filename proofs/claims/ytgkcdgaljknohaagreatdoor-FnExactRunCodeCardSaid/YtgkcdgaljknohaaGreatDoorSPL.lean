/-
  Proved here: steps towards the statement of this claim, text SPL.
  No condition beyond what each statement spells out.
-/
import Derived.Test.YtgkcdgaljknohaaGreatDoorF4
import Derived.Test.YtgkcdgaljknohaaGreatDoorSRC8
import Derived.Test.YtgkcdgaljknohaaGreatDoorSU5
import Derived.Test.YtgkcdgaljknohaaGreatDoorSMK5
set_option linter.all false
set_option maxRecDepth 4000
set_option maxHeartbeats 4000000
namespace Go.Proofs.YtgkcdgaljknohaaGreatDoor
open Go.Aw
theorem sumN_join {α:Type} (f:α→Nat):∀a b:List α,sumN f (a++b)=sumN f a+sumN f b
 |[],b=>by simp [sumN]
 |x::xs,b=>by simp only [List.cons_append,sumN,sumN_join f xs b];omega
theorem cPage_lin (p:DPage):cPage p≤20 * szPage p+20:=by
 have h1:=sumN_le_c 3 cToken_le p.queue
 have h2:=sumN_le_c 3 cNode_le p.builder.nodes
 simp only [szPage,szPolicy,szBuilder,szL,cPage,cPolicy,cBuilder,sumN_const]
 omega
theorem page_facts (g:DPage) (hg:szPage g≤1099511627776):(cPage g≤21990232555540∧g.queue.length≤4611686018427387904)∧(∀x∈g.queue,x.attrs.length≤4611686018427387904)∧g.builder.nodes.length≤4611686018427387904∧(∀x∈g.builder.nodes,x.attrs.length≤4611686018427387904):=by
 have h:=cPage_lin g
 refine ⟨⟨by omega,?_⟩,?_,?_,?_⟩
 ·simp only [szPage,szL] at hg;omega
 ·exact attrs_Token (by simp only [szPage,szL] at hg;omega)
 ·simp only [szPage,szBuilder,szL] at hg;omega
 ·exact attrs_Node (by simp only [szPage,szBuilder,szL] at hg;omega)
end Go.Proofs.YtgkcdgaljknohaaGreatDoor

namespace Go.Proofs.YtgkcdgaljknohaaGreatDoor
open Go.Aw
theorem sayAll_sz (l:List Str) (ss:List Str):szL szStr (sayAll l ss)≤szL szStr l+szL szStr ss:=by
 induction ss generalizing l with
 |nil=>simp only [sayAll,List.foldl_nil];omega
 |cons s ss ih=>
  have h1:szL szStr (sayOne l s)≤szL szStr l+1+szStr s:=by
   unfold sayOne
   split
   ·simp only [szL,List.length_append,List.length_cons,List.length_nil,sumN_join,sumN];omega
   ·omega
  have h2:=ih (sayOne l s)
  have e:sayAll l (s::ss)=sayAll (sayOne l s) ss:=rfl
  rw [e];simp only [szL,List.length_cons,sumN] at *;omega
theorem ranLines_sz (p:DPage) (l:List DLine) (wr:Bool) (hs:szPage p≤67108864) (h6:l.length≤6) (hx:∀x∈l,x.text.length≤60):szPage (ranLines p l wr)≤szPage p+1700:=by
 have hsb:szBuilder p.builder≤67108864:=by simp only [szPage] at hs;omega
 obtain ⟨z1,z2,z3,z4⟩:=runTo_sz 60 p.builder (sheetsOf p) l (by omega) h6 hx (colors_ok p) (by omega) l.length (Nat.le_refl _)
 have hend:runTo p.builder (sheetsOf p) l l.length=runScript p.builder (sheetsOf p) l:=by simp [runTo]
 rw [hend] at z1 z2 z3 z4
 obtain ⟨y1,y2⟩:=tokensOf_sz (runScript p.builder (sheetsOf p) l).2.1
 have hl:=sayAll_sz p.log (runScript p.builder (sheetsOf p) l).2.2
 unfold ranLines
 generalize runScript p.builder (sheetsOf p) l=g at *
 obtain ⟨b,w,lg⟩:=g
 simp only at *
 generalize sayAll p.log lg=lg2 at *
 generalize tokensOf w=tk at *
 have hq:szL szToken (if wr=true then tk++p.queue else p.queue)≤szL szToken p.queue+721:=by
  split
  ·simp only [szL,List.length_append,sumN_join];omega
  ·omega
 generalize (if wr=true then tk++p.queue else p.queue)=q2 at *
 have hlg:szL szStr lg≤546:=by simp only [szL];omega
 simp only [szPage] at *
 omega
theorem runCode_sz (p:DPage) (code:Str) (wr:Bool) (hs:szPage p≤67108864):szPage (runCode p code wr)≤szPage p+1700:=by
 obtain ⟨b1,b2⟩:=script_bounds code
 unfold runCode
 split
 ·exact ranLines_sz p _ wr hs b1 b2
 ·have h1:szL szStr (sayOne p.log sError)≤szL szStr p.log+6:=by
   unfold sayOne
   split
   ·simp only [szL,List.length_append,List.length_cons,List.length_nil,sumN_join,sumN,szStr,sError];omega
   ·omega
  simp only [szPage] at *
  omega
end Go.Proofs.YtgkcdgaljknohaaGreatDoor

set_option maxRecDepth 4000
set_option maxHeartbeats 4000000
namespace Go.Proofs.YtgkcdgaljknohaaGreatDoor
open Go.Aw
theorem toPage_ok [Tabs Tryz.prog] (a:DPage) (hs:szPage a≤1048576):Ok Tryz.prog 10 [.agg (ePage .view a)] (.agg (ePage .own a)):=by
 simp only [szPage] at hs
 refine ent Tryz.mix Tryz.func10 Tryz.ntmps10 ?_
 have W:=trivial
 repeat' first|refine wl ?_|(refine nx ?_;first|refine sk (hc:=toAddr_ok a.addr (by omega)) (h:=?_)|refine sk (hc:=toPolicy_ok a.policy (by omega)) (h:=?_)|refine sk (hc:=toTokenizer_ok a.tok (by omega)) (h:=?_)|refine sk (hc:=toTokenS_ok a.queue (by omega)) (h:=?_)|refine sk (hc:=toBuilder_ok a.builder (by omega)) (h:=?_)|refine sk (hc:=toSlotS_ok a.slots (by omega)) (h:=?_)|refine sk (hc:=toModuleS_ok a.mods (by omega)) (h:=?_)|refine sk (hc:=toAddrS_ok a.entries (by omega)) (h:=?_)|refine sk (hc:=toAddrS_ok a.ran (by omega)) (h:=?_)|refine sk (hc:=toStringS_ok a.log (by omega)) (h:=?_))|(refine sq (fun hc=>?_) (fun hc=>?_)<;>try exact hc.elim)|fail
 all_goals (try (refine ⟨.inr rfl,?_⟩;simp [Hands,Tryz.results10]))
end Go.Proofs.YtgkcdgaljknohaaGreatDoor

set_option maxRecDepth 4000
set_option maxHeartbeats 4000000
namespace Go.Proofs.YtgkcdgaljknohaaGreatDoor
open Go.Aw
theorem szPage_ok [Tabs Tryz.prog] (a:DPage) (n:Int) (h0:0≤n) (h1:n≤1048576) (hw:wfPage a):Ok Tryz.prog 8 [.agg (ePage .view a),.int .i64 n] (.int .i64 (sub n (szPage a))):=by
 simp only [wfPage] at hw
 obtain ⟨waddr,wpolicy,wtok,wqueue,wbuilder,wslots,wmods,wentries,wran,wlog⟩:=hw
 refine ent Tryz.mix Tryz.func8 Tryz.ntmps8 ?_
 have W:=trivial
 repeat' first|refine wl ?_|(refine nx ?_;first|refine sk (hc:=szAddr_ok a.addr _ (by omega) (by repeat' (first|omega|apply purse_le|apply purse_len)) waddr) (h:=?_)|refine sk (hc:=szPolicy_ok a.policy _ (by omega) (by repeat' (first|omega|apply purse_le|apply purse_len)) wpolicy) (h:=?_)|refine sk (hc:=szTokenizer_ok a.tok _ (by omega) (by repeat' (first|omega|apply purse_le|apply purse_len)) wtok) (h:=?_)|refine sk (hc:=szTokenS_ok a.queue _ (by omega) (by repeat' (first|omega|apply purse_le|apply purse_len)) wqueue) (h:=?_)|refine sk (hc:=szBuilder_ok a.builder _ (by omega) (by repeat' (first|omega|apply purse_le|apply purse_len)) wbuilder) (h:=?_)|refine sk (hc:=szSlotS_ok a.slots _ (by omega) (by repeat' (first|omega|apply purse_le|apply purse_len)) wslots) (h:=?_)|refine sk (hc:=szModuleS_ok a.mods _ (by omega) (by repeat' (first|omega|apply purse_le|apply purse_len)) wmods) (h:=?_)|refine sk (hc:=szAddrS_ok a.entries _ (by omega) (by repeat' (first|omega|apply purse_le|apply purse_len)) wentries) (h:=?_)|refine sk (hc:=szAddrS_ok a.ran _ (by omega) (by repeat' (first|omega|apply purse_le|apply purse_len)) wran) (h:=?_)|refine sk (hc:=szStringS_ok a.log _ (by omega) (by repeat' (first|omega|apply purse_le|apply purse_len)) wlog) (h:=?_))|(refine sq (fun hc=>?_) (fun hc=>?_)<;>try exact hc.elim)|fail
 all_goals (try (refine ⟨.inr rfl,?_⟩;simp [Hands,Tryz.results8,szPage]))
 all_goals (
  (try generalize e0:sub n (szAddr a.addr)=m0 at *)
  (try (first|have f0:=purse_ok e0 (by omega)|have f0:=purse_bad e0 (by omega) (by omega)))
  (try generalize e1:sub m0 (szPolicy a.policy)=m1 at *)
  (try (first|have f1:=purse_ok e1 (by omega)|have f1:=purse_bad e1 (by omega) (by omega)))
  (try generalize e2:sub m1 (szTokenizer a.tok)=m2 at *)
  (try (first|have f2:=purse_ok e2 (by omega)|have f2:=purse_bad e2 (by omega) (by omega)))
  (try generalize e3:sub m2 (szL szToken a.queue)=m3 at *)
  (try (first|have f3:=purse_ok e3 (by omega)|have f3:=purse_bad e3 (by omega) (by omega)))
  (try generalize e4:sub m3 (szBuilder a.builder)=m4 at *)
  (try (first|have f4:=purse_ok e4 (by omega)|have f4:=purse_bad e4 (by omega) (by omega)))
  (try generalize e5:sub m4 (szL szSlot a.slots)=m5 at *)
  (try (first|have f5:=purse_ok e5 (by omega)|have f5:=purse_bad e5 (by omega) (by omega)))
  (try generalize e6:sub m5 (szL szModule a.mods)=m6 at *)
  (try (first|have f6:=purse_ok e6 (by omega)|have f6:=purse_bad e6 (by omega) (by omega)))
  (try generalize e7:sub m6 (szL szAddr a.entries)=m7 at *)
  (try (first|have f7:=purse_ok e7 (by omega)|have f7:=purse_bad e7 (by omega) (by omega)))
  (try generalize e8:sub m7 (szL szAddr a.ran)=m8 at *)
  (try (first|have f8:=purse_ok e8 (by omega)|have f8:=purse_bad e8 (by omega) (by omega)))
  (try generalize e9:sub m8 (szL szStr a.log)=m9 at *)
  (try (first|have f9:=purse_ok e9 (by omega)|have f9:=purse_bad e9 (by omega) (by omega)))
  repeat (simp (disch:=omega) only [wrap64] at *)
  (try simp only [sub]);(try split);all_goals omega)
end Go.Proofs.YtgkcdgaljknohaaGreatDoor

set_option maxRecDepth 4000
set_option maxHeartbeats 4000000
namespace Go.Proofs.YtgkcdgaljknohaaGreatDoor
open Go.Aw
theorem eqPage_ok [Tabs Tryz.prog] (a b:DPage) (hs:szPage a≤1099511627776):Ok Tryz.prog 12 [.agg (ePage .view a),.agg (ePage .view b)] (.bool (decide (a=b))):=by
 simp only [szPage] at hs
 refine ent Tryz.mix Tryz.func12 Tryz.ntmps12 ?_
 have W:=trivial
 repeat' first|refine wl ?_|(refine nx ?_;first|refine sk (hc:=eqAddr_ok a.addr b.addr (by omega)) (h:=?_)|refine sk (hc:=eqPolicy_ok a.policy b.policy (by omega)) (h:=?_)|refine sk (hc:=eqTokenizer_ok a.tok b.tok (by omega)) (h:=?_)|refine sk (hc:=eqTokenS_ok a.queue b.queue (by omega)) (h:=?_)|refine sk (hc:=eqBuilder_ok a.builder b.builder (by omega)) (h:=?_)|refine sk (hc:=eqSlotS_ok a.slots b.slots (by omega)) (h:=?_)|refine sk (hc:=eqModuleS_ok a.mods b.mods (by omega)) (h:=?_)|refine sk (hc:=eqAddrS_ok a.entries b.entries (by omega)) (h:=?_)|refine sk (hc:=eqAddrS_ok a.ran b.ran (by omega)) (h:=?_)|refine sk (hc:=eqStringS_ok a.log b.log (by omega)) (h:=?_))|(refine sq (fun hc=>?_) (fun hc=>?_)<;>try exact hc.elim)|fail
 all_goals (try (refine ⟨.inr rfl,?_⟩;simp [Hands,Tryz.results12]))
 all_goals ((repeat clear hK K);cases a;cases b;simp_all)
end Go.Proofs.YtgkcdgaljknohaaGreatDoor

set_option maxRecDepth 4000
set_option maxHeartbeats 4000000
namespace Go.Proofs.YtgkcdgaljknohaaGreatDoor
open Go.Aw
theorem markText_ok [Tabs Tryz.prog] (k:Int) (hk:k≤4611686018427387904):Ok Tryz.prog 131 [.int .i64 k] (.str (markT k)):=by
 refine ent Tryz.mix Tryz.func131 Tryz.ntmps131 ?_
 have W:=trivial
 repeat' first|refine wl ?_|(refine sq (fun hc=>?_) (fun hc=>?_)<;>try exact hc.elim)|fail
 ·all_goals (try (refine ⟨.inr rfl,?_⟩;simp [Hands,Tryz.results131]))
  all_goals (simp [markT];omega)
 ·refine awp_loop' (ι:={p:Nat×Int×Str // 0≤p.2.1∧p.2.1 < 10 ^ p.1∧p.2.1≤4611686018427387904∧digits p.1 p.2.1 p.2.2=digits 20 k []∧p.2.2.length≤40 - p.1∧p.1≤20}) (fun t o i=>⟨upds t [(0,.int .i64 i.1.2.1),(3,.str i.1.2.2)],[]⟩)
   (fun i=>i.1.1) ⟨(20,k,[]),by simp only;omega,by simp only;omega,hk,rfl,by simp,by simp⟩ (weak_o (by simp) (by simp)) ?_
  rintro ⟨⟨f,n,out⟩,h0,hf,hn,hd,hl,hf2⟩ K1 hK1
  simp only at h0 hf hn hd hl hf2
  simp only [upds,List.set_cons_succ,List.set_cons_zero] at hK1⊢
  have ht:n.tdiv 10=n / 10:=Int.tdiv_eq_ediv_of_nonneg h0
  have hw:IntKind.i64.wrap (n.tdiv 10)=n.tdiv 10:=by rw [wrap64]<;>omega
  have h63:1+out.length≤9223372036854775807:=by omega
  by_cases hpos:0 < n
  ·cases f with
   |zero=>exfalso;simp at hf;omega
   |succ f=>
    have W:=And.intro hw (And.intro h63 hpos)
    repeat' first|refine wl ?_|(refine sq (fun hc=>?_) (fun hc=>?_)<;>try exact hc.elim)|fail
    refine hK1 _ ⟨(f,n.tdiv 10,digit n::out),by simp only;omega,?_,by simp only;omega,?_,by simp only [List.length_cons];omega,by simp only;omega⟩ (weak_take 0 rfl (by simp [digit]) (by simp) (by simp)) (by simp)
    ·simp only [Int.pow_succ] at hf⊢;omega
    ·rw [←hd];simp only [digits];rw [if_neg (by omega)]
  ·have:n=0:=by omega
   subst this
   rw [digits_end _ _ _ (by omega)] at hd
   have h64:1+out.length≤9223372036854775807:=by omega
   have W:=h64
   repeat' first|refine wl ?_|(refine sq (fun hc=>?_) (fun hc=>?_)<;>try exact hc.elim)|fail
   all_goals (try (refine ⟨.inr rfl,?_⟩;simp [Hands,Tryz.results131]))
   all_goals (rw [hd];simp [markT];omega)
end Go.Proofs.YtgkcdgaljknohaaGreatDoor
