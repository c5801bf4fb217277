/-
  Proved here: steps towards the statement of this claim, text J7.
  No condition beyond what each statement spells out.
-/
import Derived.Test.YtkidoegojckmiaaGreatDoorAQJ6
import Derived.Test.YtkidoegojckmiaaGreatDoorAD5
import Derived.Test.YtkidoegojckmiaaGreatDoorAF6
set_option linter.all false
set_option maxRecDepth 4000
set_option maxHeartbeats 4000000
namespace Go.Proofs.YtkidoegojckmiaaGreatDoor
open Go.Aw
@[simp] theorem aUd (f:Tg→Option Tg) (b:Bool) (l:Str):rtr f b (aM l)=aM l:=by
 induction l with
 |nil=>rfl
 |cons x l ih=>simp only [aM,List.map_cons,rtr,rtc,rt] at ih⊢;rw [ih]
def jS (s:Str):Int:=iE (151::fG s)
theorem aJn (s:Str) (h:s.length≤60000000):∀y∈(151::fG s),rgI y:=by
 intro y hy
 unfold rgI
 rcases List.mem_cons.1 hy with rfl|hy
 ·omega
 rcases List.mem_cons.1 hy with rfl|hy
 ·omega
 ·simp only [qM,wE,List.mem_map] at hy
  obtain ⟨c,_,rfl⟩:=hy
  have:c.toNat < 256:=UInt8.toNat_lt c
  omega
theorem vT (s:Str):(fG s).length=s.length+1:=by simp [fG,qM,wE]
theorem aI2 (l:List Int):0≤iE l∧iE l≤2147483647:=by
 unfold iE
 have:∀(l:List Int) (a:Int),0≤a∧a≤2147483647→0≤l.foldl mW a∧l.foldl mW a≤2147483647:=by
  intro l
  induction l with
  |nil=>intro a h;exact h
  |cons x l ih=>
   intro a _
   refine ih _ ?_
   unfold mW
   omega
 exact this l 11 (by omega)
theorem aDq [aB Tryz.prog] [bV Tryz.prog] [eG Tryz.prog] (s:Str) (hl:s.length≤1048576):Ok Tryz.prog 104 [.str s] (.int .i64 (jS s)):=by
 have c3:=aAy s (by omega)
 have c4:=aLa (151::fG s) (by simp only [List.length_cons,vT];omega) (aJn _ (by omega))
 have hil:=vT s
 have hq:(fG s).length≤1048577:=by omega
 simp only [List.map_cons] at c4
 unfold jS
 generalize fG s=q at *
 refine ent Tryz.mix Tryz.func104 Tryz.ntmps104 ?_
 have W:=trivial
 repeat' first|refine st ?_|(refine nx ?_;first|refine se ?_|refine so ?_|refine sb ?_)|(refine cx ?_;refine sc (fun hc=>?_) (fun hc=>?_)<;>try exact hc.elim)|(refine lx ?_;refine sp (fun hc=>?_) (fun hc=>?_)<;>try exact hc.elim)|refine sx ?_ ?_|refine sy ?_ ?_|fail
 all_goals (try (refine ⟨.inr rfl,?_⟩;simp [Hands,Tryz.results104]))
theorem aEs [aB Tryz.prog] [bV Tryz.prog] [eG Tryz.prog] (s:Str) (hl:s.length≤1048576):Ok Tryz.prog 77 [.str s] (.int .i64 (jS s)):=by
 have c3:=zO s (by omega)
 have c4:=aKx (151::fG s) (by simp only [List.length_cons,vT];omega) (aJn _ (by omega))
 have hil:=vT s
 have hq:(fG s).length≤1048577:=by omega
 simp only [List.map_cons] at c4
 unfold jS
 generalize fG s=q at *
 refine ent Tryz.mix Tryz.func77 Tryz.ntmps77 ?_
 have W:=trivial
 repeat' first|refine st ?_|(refine nx ?_;first|refine se ?_|refine so ?_|refine sb ?_)|(refine cx ?_;refine sc (fun hc=>?_) (fun hc=>?_)<;>try exact hc.elim)|(refine lx ?_;refine sp (fun hc=>?_) (fun hc=>?_)<;>try exact hc.elim)|refine sx ?_ ?_|refine sy ?_ ?_|fail
 all_goals (try (refine ⟨.inr rfl,?_⟩;simp [Hands,Tryz.results77]))
def kY (body v:Str):Bool:=v == [] || v == Lib.itoa (jS body)
theorem zQ [aB Tryz.prog] [bV Tryz.prog] [eG Tryz.prog] (s v:Str) (hl:s.length≤1048576):Ok Tryz.prog 71 [.str s,.str v] (.bool (kY s v)):=by
 have c1:=aDq s hl
 have hr:=aI2 (151::fG s)
 have c2:=vG (jS s) (by unfold jS;omega)
 unfold kY
 generalize jS s=d at *
 generalize Lib.itoa d=t at *
 refine ent Tryz.mix Tryz.func71 Tryz.ntmps71 ?_
 have W:=trivial
 repeat' first|refine st ?_|(refine nx ?_;first|refine se ?_|refine so ?_|refine sb ?_)|(refine cx ?_;refine sc (fun hc=>?_) (fun hc=>?_)<;>try exact hc.elim)|(refine lx ?_;refine sp (fun hc=>?_) (fun hc=>?_)<;>try exact hc.elim)|refine sx ?_ ?_|refine sy ?_ ?_|fail
 all_goals (try (refine ⟨.inr rfl,?_⟩;simp [Hands,Tryz.results71]))
 all_goals simp_all
theorem aA8 [aB Tryz.prog] [bV Tryz.prog] [eG Tryz.prog] (s v:Str) (hl:s.length≤1048576):Ok Tryz.prog 45 [.str s,.str v] (.bool (kY s v)):=by
 have c1:=aEs s hl
 have hr:=aI2 (151::fG s)
 have c2:=uU (jS s) (by unfold jS;omega)
 unfold kY
 generalize jS s=d at *
 generalize Lib.itoa d=t at *
 refine ent Tryz.mix Tryz.func45 Tryz.ntmps45 ?_
 have W:=trivial
 repeat' first|refine st ?_|(refine nx ?_;first|refine se ?_|refine so ?_|refine sb ?_)|(refine cx ?_;refine sc (fun hc=>?_) (fun hc=>?_)<;>try exact hc.elim)|(refine lx ?_;refine sp (fun hc=>?_) (fun hc=>?_)<;>try exact hc.elim)|refine sx ?_ ?_|refine sy ?_ ?_|fail
 all_goals (try (refine ⟨.inr rfl,?_⟩;simp [Hands,Tryz.results45]))
 all_goals simp_all
def oP (x:aR) (k:Int):Bool:=decide (x.kind=k) || (decide (k=5)&&decide (x.kind=2))
theorem aDx [aB Tryz.prog] [bV Tryz.prog] [eG Tryz.prog] (x:aR) (k:Int):Ok Tryz.prog 70 [.agg (bA x),.int .i64 k] (.bool (oP x k)):=by
 unfold oP
 refine ent Tryz.mix Tryz.func70 Tryz.ntmps70 ?_
 have W:=trivial
 repeat' first|refine st ?_|(refine nx ?_;first|refine se ?_|refine so ?_|refine sb ?_)|(refine cx ?_;refine sc (fun hc=>?_) (fun hc=>?_)<;>try exact hc.elim)|(refine lx ?_;refine sp (fun hc=>?_) (fun hc=>?_)<;>try exact hc.elim)|refine sx ?_ ?_|refine sy ?_ ?_|fail
 all_goals (try (refine ⟨.inr rfl,?_⟩;simp [Hands,Tryz.results70]))
 all_goals first|(simp_all;done)|(by_cases hk2:x.kind=2<;>simp_all)
theorem aD6 [aB Tryz.prog] [bV Tryz.prog] [eG Tryz.prog] (x:aR) (k:Int):Ok Tryz.prog 44 [.agg (bA x),.int .i64 k] (.bool (oP x k)):=by
 unfold oP
 refine ent Tryz.mix Tryz.func44 Tryz.ntmps44 ?_
 have W:=trivial
 repeat' first|refine st ?_|(refine nx ?_;first|refine se ?_|refine so ?_|refine sb ?_)|(refine cx ?_;refine sc (fun hc=>?_) (fun hc=>?_)<;>try exact hc.elim)|(refine lx ?_;refine sp (fun hc=>?_) (fun hc=>?_)<;>try exact hc.elim)|refine sx ?_ ?_|refine sy ?_ ?_|fail
 all_goals (try (refine ⟨.inr rfl,?_⟩;simp [Hands,Tryz.results44]))
 all_goals first|(simp_all;done)|(by_cases hk2:x.kind=2<;>simp_all)
def aC3 (r:dU) (x:aR):Bool:=decide (r.frm≠r.to.host)&& !x.shares&&(decide (r.kind=5) || decide (r.digest≠[]))
def dA (p:bH) (r:dU) (x:aR):Int:=
 if gT p r≠1 then 2 else if eB x=false∨x.status≠200 then 3 else if oP x r.kind=false then 4 else if aC3 r x=true then 5 else if kY x.body r.digest=false then 6 else 1
theorem pV [aB Tryz.prog] [bV Tryz.prog] [eG Tryz.prog] (p:bH) (r:dU) (x:aR) (hp:bB p≤274877906944) (hr:gJ r≤274877906944) (hx:bE x≤1048576):Ok Tryz.prog 39 [.agg (aS .view p),.agg (dI r),.agg (bA x)] (.int .i64 (dA p r x)):=by
 have c1:=zG p r (by omega) (by omega)
 have c2:=sW x (by omega)
 have c3:=aDx x r.kind
 have c4:=zQ x.body r.digest (by simp only [bE] at hx;omega)
 simp only [aS,dI] at c1
 simp only [bA] at c2 c3
 unfold dA aC3
 generalize gT p r=n at *
 generalize eB x=b2 at *
 generalize oP x r.kind=b3 at *
 generalize kY x.body r.digest=b4 at *
 by_cases h1:n=1
 ·subst h1
  refine ent Tryz.mix Tryz.func39 Tryz.ntmps39 ?_
  have W:=trivial
  repeat' first|refine st ?_|(refine nx ?_;first|refine se ?_|refine so ?_|refine sb ?_)|(refine cx ?_;refine sc (fun hc=>?_) (fun hc=>?_)<;>try exact hc.elim)|(refine lx ?_;refine sp (fun hc=>?_) (fun hc=>?_)<;>try exact hc.elim)|refine sx ?_ ?_|refine sy ?_ ?_|fail
  all_goals (try (refine ⟨.inr rfl,?_⟩;simp [Hands,Tryz.results39]))
  all_goals simp_all
 ·refine ent Tryz.mix Tryz.func39 Tryz.ntmps39 ?_
  have W:=h1
  repeat' first|refine st ?_|(refine nx ?_;first|refine se ?_|refine so ?_|refine sb ?_)|(refine cx ?_;refine sc (fun hc=>?_) (fun hc=>?_)<;>try exact hc.elim)|(refine lx ?_;refine sp (fun hc=>?_) (fun hc=>?_)<;>try exact hc.elim)|refine sx ?_ ?_|refine sy ?_ ?_|fail
  all_goals (try (refine ⟨.inr rfl,?_⟩;simp [Hands,Tryz.results39,h1]))
  all_goals simp_all
theorem mH [aB Tryz.prog] [bV Tryz.prog] [eG Tryz.prog] (p:bH) (r:dU) (x:aR) (hp:bB p≤274877906944) (hr:gJ r≤274877906944) (hx:bE x≤1048576):Ok Tryz.prog 12 [.agg (aS .view p),.agg (dI r),.agg (bA x)] (.int .i64 (dA p r x)):=by
 have c1:=zL p r (by omega) (by omega)
 have h12:gT p r=1∨gT p r=2:=by unfold gT;split<;>simp
 have c2:=aBv x (by omega)
 have c3:=aD6 x r.kind
 have c4:=aA8 x.body r.digest (by simp only [bE] at hx;omega)
 simp only [aS,dI] at c1
 simp only [bA] at c2 c3
 unfold dA aC3
 generalize gT p r=n at *
 generalize eB x=b2 at *
 generalize oP x r.kind=b3 at *
 generalize kY x.body r.digest=b4 at *
 rcases h12 with h1|h1
 ·subst h1
  refine ent Tryz.mix Tryz.func12 Tryz.ntmps12 ?_
  have W:=trivial
  repeat' first|refine st ?_|(refine nx ?_;first|refine se ?_|refine so ?_|refine sb ?_)|(refine cx ?_;refine sc (fun hc=>?_) (fun hc=>?_)<;>try exact hc.elim)|(refine lx ?_;refine sp (fun hc=>?_) (fun hc=>?_)<;>try exact hc.elim)|refine sx ?_ ?_|refine sy ?_ ?_|fail
  all_goals (try (refine ⟨.inr rfl,?_⟩;simp [Hands,Tryz.results12]))
  all_goals simp_all
 ·subst h1
  refine ent Tryz.mix Tryz.func12 Tryz.ntmps12 ?_
  have W:=trivial
  repeat' first|refine st ?_|(refine nx ?_;first|refine se ?_|refine so ?_|refine sb ?_)|(refine cx ?_;refine sc (fun hc=>?_) (fun hc=>?_)<;>try exact hc.elim)|(refine lx ?_;refine sp (fun hc=>?_) (fun hc=>?_)<;>try exact hc.elim)|refine sx ?_ ?_|refine sy ?_ ?_|fail
  all_goals (try (refine ⟨.inr rfl,?_⟩;simp [Hands,Tryz.results12]))
def gW (p:bH) (r:dU) (x:aR):Str:=if dA p r x=1 then x.body else []
theorem aBm [aB Tryz.prog] [bV Tryz.prog] [eG Tryz.prog] (p:bH) (r:dU) (x:aR) (hp:bB p≤274877906944) (hr:gJ r≤274877906944) (hx:bE x≤1048576):Ok Tryz.prog 40 [.agg (aS .view p),.agg (dI r),.agg (bA x)] (.tup [.str (gW p r x),.bool (decide (dA p r x=1))]):=by
 have c1:=pV p r x hp hr hx
 simp only [aS,dI,bA] at c1
 unfold gW
 generalize dA p r x=n at *
 by_cases h1:n=1
 ·subst h1
  refine ent Tryz.mix Tryz.func40 Tryz.ntmps40 ?_
  have W:=trivial
  repeat' first|refine st ?_|(refine nx ?_;first|refine se ?_|refine so ?_|refine sb ?_)|(refine cx ?_;refine sc (fun hc=>?_) (fun hc=>?_)<;>try exact hc.elim)|(refine lx ?_;refine sp (fun hc=>?_) (fun hc=>?_)<;>try exact hc.elim)|refine sx ?_ ?_|refine sy ?_ ?_|fail
  all_goals (try (refine ⟨.inr rfl,?_⟩;simp [Hands,Tryz.results40]))
 ·refine ent Tryz.mix Tryz.func40 Tryz.ntmps40 ?_
  have W:=h1
  repeat' first|refine st ?_|(refine nx ?_;first|refine se ?_|refine so ?_|refine sb ?_)|(refine cx ?_;refine sc (fun hc=>?_) (fun hc=>?_)<;>try exact hc.elim)|(refine lx ?_;refine sp (fun hc=>?_) (fun hc=>?_)<;>try exact hc.elim)|refine sx ?_ ?_|refine sy ?_ ?_|fail
  all_goals (try (refine ⟨.inr rfl,?_⟩;simp [Hands,Tryz.results40,h1]))
theorem tC [aB Tryz.prog] [bV Tryz.prog] [eG Tryz.prog] (p:bH) (r:dU) (x:aR) (hp:bB p≤274877906944) (hr:gJ r≤274877906944) (hx:bE x≤1048576):Ok Tryz.prog 10 [.agg (aS .view p),.agg (dI r),.agg (bA x)] (.tup [.str (gW p r x),.bool (decide (dA p r x=1))]):=by
 have c1:=mH p r x hp hr hx
 simp only [aS,dI,bA] at c1
 unfold gW
 generalize dA p r x=n at *
 by_cases h1:n=1
 ·subst h1
  refine ent Tryz.mix Tryz.func10 Tryz.ntmps10 ?_
  have W:=trivial
  repeat' first|refine st ?_|(refine nx ?_;first|refine se ?_|refine so ?_|refine sb ?_)|(refine cx ?_;refine sc (fun hc=>?_) (fun hc=>?_)<;>try exact hc.elim)|(refine lx ?_;refine sp (fun hc=>?_) (fun hc=>?_)<;>try exact hc.elim)|refine sx ?_ ?_|refine sy ?_ ?_|fail
  all_goals (try (refine ⟨.inr rfl,?_⟩;simp [Hands,Tryz.results10]))
 ·refine ent Tryz.mix Tryz.func10 Tryz.ntmps10 ?_
  have W:=h1
  repeat' first|refine st ?_|(refine nx ?_;first|refine se ?_|refine so ?_|refine sb ?_)|(refine cx ?_;refine sc (fun hc=>?_) (fun hc=>?_)<;>try exact hc.elim)|(refine lx ?_;refine sp (fun hc=>?_) (fun hc=>?_)<;>try exact hc.elim)|refine sx ?_ ?_|refine sy ?_ ?_|fail
  all_goals (try (refine ⟨.inr rfl,?_⟩;simp [Hands,Tryz.results10,h1]))
end Go.Proofs.YtkidoegojckmiaaGreatDoor
