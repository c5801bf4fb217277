/-
  Proved here: steps towards the statement of this claim, text QMK6.
  No condition beyond what each statement spells out.
-/
import Derived.Test.YtlnblmmohpcceaaGreatDoorQMK1
import Derived.Test.YtlnblmmohpcceaaGreatDoorAwIns
import Derived.Test.YtlnblmmohpcceaaGreatDoorF2
import Derived.Test.YtlnblmmohpcceaaGreatDoorYFacts
import Derived.Test.YtlnblmmohpcceaaGreatDoorF3
import Derived.Test.YtlnblmmohpcceaaGreatDoorF6
set_option linter.all false
set_option maxRecDepth 100000
set_option maxHeartbeats 4000000
namespace Go.Proofs.YtlnblmmohpcceaaGreatDoor
open Go.Aw Go.RowKit Go.Lib
theorem bE5 (w:World) (vb vc:Nat) (hc:aX w vb 0 lU):
  Calls Tryz.prog 309 #[.slice (some ⟨vb,0,none⟩) 4 vc] w fun e w'=>∃rb sb sc r0,e= .returned (.pointer (some ⟨rb,0,none⟩))∧w.heap.size≤rb∧rb < w'.heap.size∧w'.cell? ⟨rb,0,none⟩=some (.int .u32 0)∧w'.cell? ⟨rb,1,none⟩=some (.int .i32 0)∧w'.cell? ⟨rb,3,none⟩=some r0∧(∀j,w'.frozen? ⟨rb,j,none⟩=false)∧
   w'.cell? ⟨rb,4,none⟩=some (.slice (some ⟨sb,0,none⟩) 4 sc)∧aX w' sb 0 lU∧sb≠rb∧Ext w w':=by
 obtain ⟨inf,hinf,hq⟩:=Option.map_eq_some_iff.1 (show (Tryz.prog.info? 9).map (fun i=>(i.size,i.bytes))=some (1,16) by kernel_rfl)
 obtain ⟨hsz,hby⟩:=Prod.mk.inj hq
 obtain ⟨z,hz0⟩:∃z,inf.zero=some z:=by
  have h:=Tryz.zsz9
  simp only [zeroSz,hinf] at h
  cases hz:inf.zero with
  |none=>simp [hz] at h
  |some z=>exact ⟨z,rfl⟩
 obtain ⟨G,hG⟩:∃G,G=grownCap w 4 0 9:=⟨_,rfl⟩
 obtain ⟨ROW,hROW⟩:∃ROW:Array Value,ROW=lU.toArray++Builtin.zeroCells z.cells (G - 4):=⟨_,rfl⟩
 have hap:∀ty,(Builtin.append_ #[29,29] ty #[.slice none 0 0,.slice (some ⟨vb,0,none⟩) 4 vc]).run Tryz.prog w= .ok (.slice (some ⟨w.heap.size,0,none⟩) 4 G) (w.drew.alloc (.cells ROW 9)):=fun ty=>by
  have h:=(Go.Aw.run_append (P:=Tryz.prog) (w:=w) (tS:=29) (xT:=29) (ty:=ty) Tryz.underlying29 ⟨_,Tryz.underlying29,fun k h=>by cases h⟩ hinf hz0 (base:=none) (sLen:=0) (sCap:=0) (n:=4) (x:= .slice (some ⟨vb,0,none⟩) 4 vc) (by simp [Builtin.lenOf]) (news:=lU) (olds:=[]) (fun w' hw=>by rw [hsz];exact jF rfl (show aX w' vb 0 lU from fun j v hv=>by simpa [World.cell?,hw] using hc j v hv)) (fun w' hw=>by rw [hsz];rfl) (by rw [hby];decide) (by decide)).2 (by decide)
  rw [hROW,hG]
  simpa using h
 have hself:=eH w.drew (.cells ROW 9)
 have hold:=heap_alloc w.drew (.cells ROW 9)
 have hx1:Ext w (w.drew.alloc (.cells ROW 9)):=⟨by simp,hold,⟨rfl,rfl,rfl⟩⟩
 have hs1:(w.drew.alloc (.cells ROW 9)).heap.size=w.heap.size+1:=by simp
 generalize w.drew.alloc (.cells ROW 9)=W1 at *
 have hc1:aX W1 w.heap.size 0 lU:=fun j v hv=>by
  have hself2:W1.heap[w.heap.size]? =some (.cells ROW 9 (0,0)):=hself
  have hj:=(List.getElem?_eq_some_iff.1 hv).1
  have:ROW[j]? =some v:=by rw [hROW,Array.getElem?_append_left (by simpa using hj)];simpa using hv
  simp [World.cell?,hself2,this]
 clear hself hold hROW
 subst hG
 go_enter Tryz.func309,Tryz.ntmps309
 go_wp2_with (at_builtin;refine Lib.wpList_append_run _ rfl _ _ _ _ rfl _ _ rfl rfl _ _ (hap _) ?_)
 go_ret
 have hself:=eH W1 (.cells #[Value.int IntKind.u32 0,Value.int IntKind.i32 0,Value.int IntKind.u32 0,Value.nilIface,Value.slice (some ⟨w.heap.size,0,none⟩) 4 (grownCap w 4 0 9)] 322)
 have hold:=heap_alloc W1 (.cells #[Value.int IntKind.u32 0,Value.int IntKind.i32 0,Value.int IntKind.u32 0,Value.nilIface,Value.slice (some ⟨w.heap.size,0,none⟩) 4 (grownCap w 4 0 9)] 322)
 have hsz2:(W1.alloc (.cells #[Value.int IntKind.u32 0,Value.int IntKind.i32 0,Value.int IntKind.u32 0,Value.nilIface,Value.slice (some ⟨w.heap.size,0,none⟩) 4 (grownCap w 4 0 9)] 322)).heap.size=W1.heap.size+1:=by simp
 have hsm:Same W1 (W1.alloc (.cells #[Value.int IntKind.u32 0,Value.int IntKind.i32 0,Value.int IntKind.u32 0,Value.nilIface,Value.slice (some ⟨w.heap.size,0,none⟩) 4 (grownCap w 4 0 9)] 322)):=⟨rfl,rfl,rfl⟩
 generalize W1.alloc (.cells #[Value.int IntKind.u32 0,Value.int IntKind.i32 0,Value.int IntKind.u32 0,Value.nilIface,Value.slice (some ⟨w.heap.size,0,none⟩) 4 (grownCap w 4 0 9)] 322)=W2 at *
 have hself2:W2.heap[w.heap.size+1]? =some (.cells #[Value.int IntKind.u32 0,Value.int IntKind.i32 0,Value.int IntKind.u32 0,Value.nilIface,Value.slice (some ⟨w.heap.size,0,none⟩) 4 (grownCap w 4 0 9)] 322 (0,0)):=by rw [←hs1];exact hself
 refine ⟨w.heap.size+1,w.heap.size,grownCap w 4 0 9,.nilIface,rfl,by omega,by omega,by simp [World.cell?,hself2],by simp [World.cell?,hself2],by simp [World.cell?,hself2],fun j=>by simp [World.frozen?,hself2],by simp [World.cell?,hself2],fun j v hv=> ?_,by omega,hx1.trans ⟨by omega,fun b hb=>hold b hb,hsm⟩⟩
 have h2:=hold w.heap.size (by omega)
 have:=hc1 j v hv
 simpa [World.cell?,h2] using this
theorem aY2 (w:World) (s:ByteArray) (hs:s.size≤1099511627776):
  Calls Tryz.prog 289 #[.string s] w fun e w'=>e= .returned (.string ⟨(s.data.toList.map kK).toArray⟩)∧Ext w w':=by
 have hbs:∀w:World,(Instr.buildSlice 29 4 #[(0,.string ⟨#[91]⟩),(1,.string ⟨#[60]⟩),(2,.string ⟨#[93]⟩),(3,.string ⟨#[62]⟩)]).run Tryz.prog w= .ok (.slice (some ⟨w.heap.size,0,none⟩) 4 4) (w.alloc (.cells lU.toArray 9)):=fun w=>by
  letI:aA Tryz.prog:={holds:=fun _=>True,low:=0,low_le:=fun _ _=>Nat.zero_le _,stable:=fun _ _ _ _=>trivial}
  have h:=Go.Aw.run_buildSlice (P:=Tryz.prog) (t:=29) (e:=9) (n:=1) (by':=16) (len:=4) (vs:=lU) (w:=w) (by kernel_rfl) (by kernel_rfl) rfl (by decide) (by intro v hv;simp only [lU,List.mem_cons,List.not_mem_nil,or_false] at hv;rcases hv with rfl|rfl|rfl|rfl<;>rfl)
  exact h
 go_enter Tryz.func289,Tryz.ntmps289
 go_wp2_with (simp only [hbs])
 have hself:=eH w (.cells #[Value.string ⟨#[91]⟩,Value.string ⟨#[60]⟩,Value.string ⟨#[93]⟩,Value.string ⟨#[62]⟩] 9)
 have hx:Ext w (w.alloc (.cells #[Value.string ⟨#[91]⟩,Value.string ⟨#[60]⟩,Value.string ⟨#[93]⟩,Value.string ⟨#[62]⟩] 9)):=⟨by simp,fun b hb=>heap_alloc w _ b hb,⟨rfl,rfl,rfl⟩⟩
 generalize w.alloc (.cells #[Value.string ⟨#[91]⟩,Value.string ⟨#[60]⟩,Value.string ⟨#[93]⟩,Value.string ⟨#[62]⟩] 9)=W1 at *
 have hc:aX W1 w.heap.size 0 lU:=fun j v hv=>by
  have hself2:W1.heap[w.heap.size]? =some (.cells lU.toArray 9 (0,0)):=hself
  simp [World.cell?,hself2,hv]
 clear hself hbs
 refine (bE5 W1 w.heap.size 4 hc).mono ?_
 rintro e W2 ⟨rb,sb,sc,r0,rfl,a1,a2,a3,a4,a5,a6,a7,a8,a9,a10⟩
 go_wp2_with (go_at_call 310;refine (aXn _ rb sb sc r0 s hs a2 a3 a4 a5 a6 a7 a8 a9).mono ?_;rintro e W3 ⟨rfl,b1,b2,b3⟩)
 go_ret
 exact ⟨rfl,⟨Nat.le_trans hx.size (Nat.le_trans a10.size b1),fun b hb=>by
  have h1:=hx.size
  have h2:=a10.size
  rw [b2 b (by omega) (by omega),a10.old b (by omega),hx.old b hb],(hx.same.trans a10.same).trans b3⟩⟩
theorem nC [aA Tryz.prog] (s:Str) (hs:s.length≤1099511627776):Ok Tryz.prog 289 [.str s] (.str (s.map kK)):=by
 intro w vs hg hargs
 obtain ⟨c,rest,rfl⟩:∃c rest,vs=c::rest:=by
  cases vs with
  |nil=>simp [Rc] at hargs
  |cons c rest=>exact ⟨c,rest,rfl⟩
 simp only [Rc,R] at hargs
 obtain ⟨f1,f2,⟨rfl,_⟩,h2,_⟩:=hargs
 obtain rfl:rest=[]:=by
  cases rest with
  |nil=>rfl
  |cons=>simp [Rc] at h2
 refine (aY2 w ⟨s.toArray⟩ (by simpa [ByteArray.size] using hs)).mono ?_
 rintro e w' ⟨rfl,hx⟩
 exact ⟨.string ⟨(s.map kK).toArray⟩,[],by simp,by simp [R],by simp,by simp,hx.size,hx.old,hx.same⟩
end Go.Proofs.YtlnblmmohpcceaaGreatDoor

namespace Go.Proofs.YtlnblmmohpcceaaGreatDoor
theorem Tryz.mix:Tryz.prog.follows .mixedOrders=true:=by kernel_rfl
end Go.Proofs.YtlnblmmohpcceaaGreatDoor

set_option maxRecDepth 4000
set_option maxHeartbeats 4000000
namespace Go.Proofs.YtlnblmmohpcceaaGreatDoor
open Go.Aw
theorem aB5 [aA Tryz.prog] (a:aK) (hs:aR a≤1048576):Ok Tryz.prog 72 [.agg (aF a)] (.agg (aF a)):=by
 simp only [aR] at hs
 refine ent Tryz.mix Tryz.func72 Tryz.ntmps72 ?_
 have W:=trivial
 repeat' first|refine wl ?_|(refine sq (fun hc=>?_) (fun hc=>?_)<;>try exact hc.elim)|fail
 all_goals (try (refine ⟨.inr rfl,?_⟩;simp [Hands,Tryz.results72]))
theorem aBr [aA Tryz.prog] (a:aK) (n:Int) (h0:0≤n) (h1:n≤1048576) (hw:wI a):Ok Tryz.prog 53 [.agg (aF a),.int .i64 n] (.int .i64 (sub n (aR a))):=by
 simp only [wI] at hw
 obtain ⟨whost,wpath⟩:=hw
 refine ent Tryz.mix Tryz.func53 Tryz.ntmps53 ?_
 have W:=trivial
 repeat' first|refine wl ?_|(refine sq (fun hc=>?_) (fun hc=>?_)<;>try exact hc.elim)|fail
 all_goals (try (refine ⟨.inr rfl,?_⟩;simp [Hands,Tryz.results53,aR]))
 all_goals (
  repeat (simp (disch:=omega) only [wrap64] at *)
  (try simp only [sub]);(try split);all_goals omega)
theorem aB4 [aA Tryz.prog] (a b:aK) (hs:aR a≤1099511627776):Ok Tryz.prog 90 [.agg (aF a),.agg (aF b)] (.bool (decide (a=b))):=by
 simp only [aR] at hs
 refine ent Tryz.mix Tryz.func90 Tryz.ntmps90 ?_
 have W:=trivial
 repeat' first|refine wl ?_|(refine sq (fun hc=>?_) (fun hc=>?_)<;>try exact hc.elim)|fail
 all_goals (try (refine ⟨.inr rfl,?_⟩;simp [Hands,Tryz.results90]))
 all_goals ((repeat clear hK K);cases a;cases b;simp_all)
theorem aZk [aA Tryz.prog] (a:fA) (hs:eQ a≤1048576):Ok Tryz.prog 267 [.agg (dI a)] (.agg (dI a)):=by
 simp only [eQ] at hs
 refine ent Tryz.mix Tryz.func267 Tryz.ntmps267 ?_
 have W:=trivial
 repeat' first|refine wl ?_|(refine sq (fun hc=>?_) (fun hc=>?_)<;>try exact hc.elim)|fail
 all_goals (try (refine ⟨.inr rfl,?_⟩;simp [Hands,Tryz.results267]))
theorem aZ0 [aA Tryz.prog] (a:fA) (n:Int) (h0:0≤n) (h1:n≤1048576) (hw:aCo a):Ok Tryz.prog 259 [.agg (dI a),.int .i64 n] (.int .i64 (sub n (eQ a))):=by
 simp only [aCo] at hw
 obtain ⟨wname,wvalue⟩:=hw
 refine ent Tryz.mix Tryz.func259 Tryz.ntmps259 ?_
 have W:=trivial
 repeat' first|refine wl ?_|(refine sq (fun hc=>?_) (fun hc=>?_)<;>try exact hc.elim)|fail
 all_goals (try (refine ⟨.inr rfl,?_⟩;simp [Hands,Tryz.results259,eQ]))
 all_goals (
  repeat (simp (disch:=omega) only [wrap64] at *)
  (try simp only [sub]);(try split);all_goals omega)
theorem aZr [aA Tryz.prog] (a b:fA) (hs:eQ a≤1099511627776):Ok Tryz.prog 272 [.agg (dI a),.agg (dI b)] (.bool (decide (a=b))):=by
 simp only [eQ] at hs
 refine ent Tryz.mix Tryz.func272 Tryz.ntmps272 ?_
 have W:=trivial
 repeat' first|refine wl ?_|(refine sq (fun hc=>?_) (fun hc=>?_)<;>try exact hc.elim)|fail
 all_goals (try (refine ⟨.inr rfl,?_⟩;simp [Hands,Tryz.results272]))
 all_goals ((repeat clear hK K);cases a;cases b;simp_all)
theorem aLj [aA Tryz.prog] (a:iU) (hs:nU a≤1048576):Ok Tryz.prog 74 [.agg (bZ a)] (.agg (bZ a)):=by
 simp only [nU] at hs
 refine ent Tryz.mix Tryz.func74 Tryz.ntmps74 ?_
 have W:=trivial
 repeat' first|refine wl ?_|(refine sq (fun hc=>?_) (fun hc=>?_)<;>try exact hc.elim)|fail
 all_goals (try (refine ⟨.inr rfl,?_⟩;simp [Hands,Tryz.results74]))
theorem aLn [aA Tryz.prog] (a:iU) (n:Int) (h0:0≤n) (h1:n≤1048576) (hw:aCe a):Ok Tryz.prog 55 [.agg (bZ a),.int .i64 n] (.int .i64 (sub n (nU a))):=by
 simp only [aCe] at hw
 have wrest:=hw
 refine ent Tryz.mix Tryz.func55 Tryz.ntmps55 ?_
 have W:=trivial
 repeat' first|refine wl ?_|(refine sq (fun hc=>?_) (fun hc=>?_)<;>try exact hc.elim)|fail
 all_goals (try (refine ⟨.inr rfl,?_⟩;simp [Hands,Tryz.results55,nU]))
 all_goals (
  repeat (simp (disch:=omega) only [wrap64] at *)
  (try simp only [sub]);(try split);all_goals omega)
theorem aMj [aA Tryz.prog] (a b:iU) (hs:nU a≤1099511627776):Ok Tryz.prog 92 [.agg (bZ a),.agg (bZ b)] (.bool (decide (a=b))):=by
 simp only [nU] at hs
 refine ent Tryz.mix Tryz.func92 Tryz.ntmps92 ?_
 have W:=trivial
 repeat' first|refine wl ?_|(refine sq (fun hc=>?_) (fun hc=>?_)<;>try exact hc.elim)|fail
 all_goals (try (refine ⟨.inr rfl,?_⟩;simp [Hands,Tryz.results92]))
 all_goals ((repeat clear hK K);cases a;cases b;simp_all)
theorem aZy [aA Tryz.prog] (l:List Int) (hs:l.length≤1048576):Ok Tryz.prog 162 [.sl .view 1 (l.map dV)] (.sl .own 1 (l.map dV)):=by
 have hl:l.length≤1048576:=by (try simp only [szL] at hs);omega
 have hb:(8:Int) * (l.length:Int)≤281474976710656:=by omega
 have hb2:(l.length:Int)≤9223372036854775807:=by omega
 generalize hz:([.int .i64 0]:List AV)=z
 have hz0:=pU z (l.map dV)
 rw [List.length_map] at hz0
 refine ent Tryz.mix Tryz.func162 Tryz.ntmps162 ?_
 have W:=And.intro hb hb2
 repeat' first|refine wl ?_|(refine sq (fun hc=>?_) (fun hc=>?_)<;>try exact hc.elim)|fail
 refine aM (ι:={k:Nat // k≤l.length}) (fun t o i=>⟨aO t [(4,.int .i64 i.1)],[⟨true,false,1,1,nN z (l.map dV) i.1⟩]⟩)
  (fun i=>l.length - i.1) ⟨0,by simp⟩ (aH (by simp [hz,hz0]) (by simp)) ?_
 rintro ⟨k,hk⟩ K1 hK1
 simp only [aO,List.set_cons_succ,List.set_cons_zero] at hK1⊢
 have hk1:IntKind.i64.wrap ((k:Int)+1)=((k+1:Nat):Int):=by rw [wrap64]<;>omega
 by_cases hlt:k < l.length
 ·have hg:=List.getElem?_eq_getElem hlt
  have hfg:=qX z (l.map dV) k (by simpa using hlt)
  have hfs:=qP z (l.map dV) k (by simpa using hlt)
  rw [List.getElem_map] at hfs
  simp only [dV] at hfs
  have hzl:z.length=1:=by rw [←hz];rfl
  have hzd:z.drop 1=[]:=by rw [←hz];rfl
  have W:=And.intro hk1 (And.intro hg (And.intro hfg (And.intro hzl (And.intro hzd hfs))))
  have V:=And.intro hk1 (And.intro hg hlt)
  repeat' first|refine wl ?_|(refine sq (fun hc=>?_) (fun hc=>?_)<;>try exact hc.elim)|fail
  refine hK1 _ ⟨k+1,by omega⟩ (aQ 1 rfl ?_ (by simp) (by simp)) (by simp only;omega)
  simp
 ·have W:=hk1
  repeat' first|refine wl ?_|(refine sq (fun hc=>?_) (fun hc=>?_)<;>try exact hc.elim)|fail
  have hfa:=qZ z (l.map dV) k (by simpa using hlt)
  all_goals (try (refine ⟨.inr rfl,?_⟩;simp [Hands,Tryz.results162,hfa]))
theorem aYh [aA Tryz.prog] (l:List Int) (n:Int) (h0:0≤n) (h1:n≤1048576) (hw:l.length≤9223372036854775807):Ok Tryz.prog 144 [.sl .view 1 (l.map dV),.int .i64 n] (.int .i64 (sub n (l.length))):=by
 refine ent Tryz.mix Tryz.func144 Tryz.ntmps144 ?_
 have W:=trivial
 repeat' first|refine wl ?_|(refine sq (fun hc=>?_) (fun hc=>?_)<;>try exact hc.elim)|fail
 all_goals (try (refine ⟨.inr rfl,?_⟩;simp [Hands,Tryz.results144]))
 all_goals (first|omega|((repeat clear hK K);simp only [sub] at *;grind)|((repeat clear hK K);simp only [sub,IntKind.wrap_i64] at *;grind))
theorem aYt [aA Tryz.prog] (a b:List Int) (hs:a.length≤1099511627776):Ok Tryz.prog 175 [.sl .view 1 (a.map dV),.sl .view 1 (b.map dV)] (.bool (decide (a=b))):=by
 have hl:a.length≤1099511627776:=by (try simp only [szL] at hs);omega
 refine ent Tryz.mix Tryz.func175 Tryz.ntmps175 ?_
 have W:=trivial
 repeat' first|refine wl ?_|(refine sq (fun hc=>?_) (fun hc=>?_)<;>try exact hc.elim)|fail
 ·all_goals (try (refine ⟨.inr rfl,?_⟩;simp [Hands,Tryz.results175]))
  intro h;subst h;exact absurd rfl hc
 ·have hlen:a.length=b.length:=by omega
  refine aM (ι:={k:Nat // k≤a.length∧a.take k=b.take k}) (fun t o i=>⟨aO t [(5,.int .i64 i.1)],[]⟩)
   (fun i=>a.length - i.1) ⟨0,by simp⟩ (aH (by simp) (by simp)) ?_
  rintro ⟨k,hk,hpre⟩ K1 hK1
  simp only [aO,List.set_cons_succ,List.set_cons_zero] at hK1⊢
  have hk1:IntKind.i64.wrap ((k:Int)+1)=((k+1:Nat):Int):=by rw [wrap64]<;>omega
  by_cases hlt:k < a.length
  ·have hg:=List.getElem?_eq_getElem hlt
   have hltb:k < b.length:=by omega
   have hgb:=List.getElem?_eq_getElem hltb
   have W:=And.intro hk1 (And.intro hg (And.intro hlt (And.intro hgb hltb)))
   repeat' first|refine wl ?_|(refine sq (fun hc=>?_) (fun hc=>?_)<;>try exact hc.elim)|fail
   ·all_goals (try (refine ⟨.inr rfl,?_⟩;simp [Hands,Tryz.results175]))
    intro h;subst h;exact hc rfl
   ·have hts:a.take (k+1)=b.take (k+1):=by
     rw [List.take_succ_eq_append_getElem hlt,List.take_succ_eq_append_getElem hltb,hpre,hc]
    refine hK1 _ ⟨k+1,by omega,hts⟩ (aH (by simp) (by simp)) (by simp only;omega)
  ·have hka:a.length≤k:=by omega
   rw [List.take_of_length_le hka,List.take_of_length_le (by omega)] at hpre
   subst hpre
   have W:=hk1
   repeat' first|refine wl ?_|(refine sq (fun hc=>?_) (fun hc=>?_)<;>try exact hc.elim)|fail
   all_goals (try (refine ⟨.inr rfl,?_⟩;simp [Hands,Tryz.results175]))
theorem wW [aA Tryz.prog] (l:List Str) (hs:szL cB l≤1048576):Ok Tryz.prog 80 [.sl .view 1 (l.map bU)] (.sl .own 1 (l.map bU)):=by
 have hl:l.length≤1048576:=by (try simp only [szL] at hs);omega
 have hb:(16:Int) * (l.length:Int)≤281474976710656:=by omega
 have hb2:(l.length:Int)≤9223372036854775807:=by omega
 generalize hz:([.str []]:List AV)=z
 have hz0:=pU z (l.map bU)
 rw [List.length_map] at hz0
 refine ent Tryz.mix Tryz.func80 Tryz.ntmps80 ?_
 have W:=And.intro hb hb2
 repeat' first|refine wl ?_|(refine sq (fun hc=>?_) (fun hc=>?_)<;>try exact hc.elim)|fail
 refine aM (ι:={k:Nat // k≤l.length}) (fun t o i=>⟨aO t [(4,.int .i64 i.1)],[⟨true,false,1,1,nN z (l.map bU) i.1⟩]⟩)
  (fun i=>l.length - i.1) ⟨0,by simp⟩ (aH (by simp [hz,hz0]) (by simp)) ?_
 rintro ⟨k,hk⟩ K1 hK1
 simp only [aO,List.set_cons_succ,List.set_cons_zero] at hK1⊢
 have hk1:IntKind.i64.wrap ((k:Int)+1)=((k+1:Nat):Int):=by rw [wrap64]<;>omega
 by_cases hlt:k < l.length
 ·have hg:=List.getElem?_eq_getElem hlt
  have hfg:=qX z (l.map bU) k (by simpa using hlt)
  have hfs:=qP z (l.map bU) k (by simpa using hlt)
  rw [List.getElem_map] at hfs
  simp only [bU] at hfs
  have hzl:z.length=1:=by rw [←hz];rfl
  have hzd:z.drop 1=[]:=by rw [←hz];rfl
  have W:=And.intro hk1 (And.intro hg (And.intro hfg (And.intro hzl (And.intro hzd hfs))))
  have V:=And.intro hk1 (And.intro hg hlt)
  repeat' first|refine wl ?_|(refine sq (fun hc=>?_) (fun hc=>?_)<;>try exact hc.elim)|fail
  refine hK1 _ ⟨k+1,by omega⟩ (aQ 1 rfl ?_ (by simp) (by simp)) (by simp only;omega)
  simp
 ·have W:=hk1
  repeat' first|refine wl ?_|(refine sq (fun hc=>?_) (fun hc=>?_)<;>try exact hc.elim)|fail
  have hfa:=qZ z (l.map bU) k (by simpa using hlt)
  all_goals (try (refine ⟨.inr rfl,?_⟩;simp [Hands,Tryz.results80,hfa]))
theorem wG [aA Tryz.prog] (l:List Str) (n:Int) (h0:0≤n) (h1:n≤1048576) (hw:l.length≤9223372036854775807∧∀y∈l,y.length≤9223372036854775807):Ok Tryz.prog 61 [.sl .view 1 (l.map bU),.int .i64 n] (.int .i64 (sub n (szL cB l))):=by
 obtain ⟨hl,hw⟩:=hw
 refine ent Tryz.mix Tryz.func61 Tryz.ntmps61 ?_
 have W:=trivial
 repeat' first|refine wl ?_|(refine sq (fun hc=>?_) (fun hc=>?_)<;>try exact hc.elim)|fail
 ·refine ⟨.inr rfl,?_⟩;simp [Hands,Tryz.results61,sub,szL];omega
 ·refine aM (ι:={k:Nat // k≤l.length∧l.length+aC cB (l.take k)≤n}) (fun t o i=>⟨aO t [(1,.int .i64 (n - (l.length+aC cB (l.take i.1):Nat))),(5,.int .i64 i.1)],[]⟩)
   (fun i=>l.length - i.1) ⟨0,by simp,by simp [aC];omega⟩ (aH (by simp) (by simp [aC])) ?_
  rintro ⟨k,hk,hs⟩ K1 hK1
  simp only [aO,List.set_cons_succ,List.set_cons_zero] at hK1⊢
  have hk1:IntKind.i64.wrap ((k:Int)+1)=((k+1:Nat):Int):=by rw [wrap64]<;>omega
  by_cases hlt:k < l.length
  ·have hg:=List.getElem?_eq_getElem hlt
   have hts:=bT cB l k hlt
   have htl:=dC cB l (k+1)
   have hwg:=hw _ (List.getElem_mem hlt)
   have W:=And.intro hk1 hg
   repeat' first|refine wl ?_|(refine sq (fun hc=>?_) (fun hc=>?_)<;>try exact hc.elim)|fail
   ·refine ⟨.inr rfl,?_⟩
    simp [Hands,Tryz.results61,szL]
    (repeat clear hK K);simp only [sub,cB] at *;grind
   ·refine hK1 _ ⟨k+1,by omega,by (repeat clear hK K);simp only [sub,cB] at *;grind⟩ (aH (by simp) ?_) (by simp only;omega)
    simp
    (repeat clear hK K);simp only [sub,cB] at *;grind
  ·have W:=hk1
   repeat' first|refine wl ?_|(refine sq (fun hc=>?_) (fun hc=>?_)<;>try exact hc.elim)|fail
   all_goals (try (refine ⟨.inr rfl,?_⟩;simp [Hands,Tryz.results61,szL]))
   have:k=l.length:=by omega
   subst this
   rw [List.take_length] at *
   rw [uA (by omega)]
   omega
theorem wC [aA Tryz.prog] (a b:List Str) (hs:szL cB a≤1099511627776):Ok Tryz.prog 98 [.sl .view 1 (a.map bU),.sl .view 1 (b.map bU)] (.bool (decide (a=b))):=by
 have hl:a.length≤1099511627776:=by (try simp only [szL] at hs);omega
 refine ent Tryz.mix Tryz.func98 Tryz.ntmps98 ?_
 have W:=trivial
 repeat' first|refine wl ?_|(refine sq (fun hc=>?_) (fun hc=>?_)<;>try exact hc.elim)|fail
 ·all_goals (try (refine ⟨.inr rfl,?_⟩;simp [Hands,Tryz.results98]))
  intro h;subst h;exact absurd rfl hc
 ·have hlen:a.length=b.length:=by omega
  refine aM (ι:={k:Nat // k≤a.length∧a.take k=b.take k}) (fun t o i=>⟨aO t [(5,.int .i64 i.1)],[]⟩)
   (fun i=>a.length - i.1) ⟨0,by simp⟩ (aH (by simp) (by simp)) ?_
  rintro ⟨k,hk,hpre⟩ K1 hK1
  simp only [aO,List.set_cons_succ,List.set_cons_zero] at hK1⊢
  have hk1:IntKind.i64.wrap ((k:Int)+1)=((k+1:Nat):Int):=by rw [wrap64]<;>omega
  by_cases hlt:k < a.length
  ·have hg:=List.getElem?_eq_getElem hlt
   have hltb:k < b.length:=by omega
   have hgb:=List.getElem?_eq_getElem hltb
   have W:=And.intro hk1 (And.intro hg (And.intro hlt (And.intro hgb hltb)))
   repeat' first|refine wl ?_|(refine sq (fun hc=>?_) (fun hc=>?_)<;>try exact hc.elim)|fail
   ·all_goals (try (refine ⟨.inr rfl,?_⟩;simp [Hands,Tryz.results98]))
    intro h;subst h;exact hc rfl
   ·have hts:a.take (k+1)=b.take (k+1):=by
     rw [List.take_succ_eq_append_getElem hlt,List.take_succ_eq_append_getElem hltb,hpre,hc]
    refine hK1 _ ⟨k+1,by omega,hts⟩ (aH (by simp) (by simp)) (by simp only;omega)
  ·have hka:a.length≤k:=by omega
   rw [List.take_of_length_le hka,List.take_of_length_le (by omega)] at hpre
   subst hpre
   have W:=hk1
   repeat' first|refine wl ?_|(refine sq (fun hc=>?_) (fun hc=>?_)<;>try exact hc.elim)|fail
   all_goals (try (refine ⟨.inr rfl,?_⟩;simp [Hands,Tryz.results98]))
end Go.Proofs.YtlnblmmohpcceaaGreatDoor
