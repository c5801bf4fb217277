/-
  Proved here: steps towards the statement of this claim, text J7.
  No condition beyond what each statement spells out.
-/
import Derived.Test.YtajppdidkjbmkaaGreatDoorJ6
import Derived.Test.YtajppdidkjbmkaaGreatDoorD5
import Derived.Test.YtajppdidkjbmkaaGreatDoorF6
set_option linter.all false
set_option maxRecDepth 4000
set_option maxHeartbeats 4000000
namespace Go.Proofs.YtajppdidkjbmkaaGreatDoor
open Go.Aw
@[simp] theorem aV6 (f:Tg→Option Tg) (b:Bool) (l:Str):rtr f b (aK l)=aK l:=by
 induction l with
 |nil=>rfl
 |cons x l ih=>simp only [aK,List.map_cons,rtr,rtc,rt] at ih⊢;rw [ih]
def kX (s:Str):Int:=iY (151::gL s)
theorem aLx (s:Str) (h:s.length≤60000000):∀y∈(151::gL s),rgI y:=by
 intro y hy
 unfold rgI
 rcases List.mem_cons.1 hy with rfl|hy
 ·omega
 rcases List.mem_cons.1 hy with rfl|hy
 ·omega
 ·simp only [qZ,xY,List.mem_map] at hy
  obtain ⟨c,_,rfl⟩:=hy
  have:c.toNat < 256:=UInt8.toNat_lt c
  omega
theorem wX (s:Str):(gL s).length=s.length+1:=by simp [gL,qZ,xY]
theorem aK0 (l:List Int):0≤iY l∧iY l≤2147483647:=by
 unfold iY
 have:∀(l:List Int) (a:Int),0≤a∧a≤2147483647→0≤l.foldl oG a∧l.foldl oG a≤2147483647:=by
  intro l
  induction l with
  |nil=>intro a h;exact h
  |cons x l ih=>
   intro a _
   refine ih _ ?_
   unfold oG
   omega
 exact this l 11 (by omega)
theorem aEt [aB Tryz.prog] [cZ Tryz.prog] [iD Tryz.prog] (s:Str) (hl:s.length≤1048576):Ok Tryz.prog 135 [.str s] (.int .i64 (kX s)):=by
 have c3:=aBi s (by omega)
 have c4:=aMz (151::gL s) (by simp only [List.length_cons,wX];omega) (aLx _ (by omega))
 have hil:=wX s
 have hq:(gL s).length≤1048577:=by omega
 simp only [List.map_cons] at c4
 unfold kX
 generalize gL s=q at *
 refine ent Tryz.mix Tryz.func135 Tryz.ntmps135 ?_
 have W:=trivial
 repeat' first|refine st ?_|(refine nx ?_;first|refine se ?_|refine so ?_|refine sb ?_)|(refine cx ?_;refine sc (fun hc=>?_) (fun hc=>?_)<;>try exact hc.elim)|(refine lx ?_;refine sp (fun hc=>?_) (fun hc=>?_)<;>try exact hc.elim)|refine sx ?_ ?_|refine sy ?_ ?_|fail
 all_goals (try (refine ⟨.inr rfl,?_⟩;simp [Hands,Tryz.results135]))
theorem aE2 [aB Tryz.prog] [cZ Tryz.prog] [iD Tryz.prog] (s:Str) (hl:s.length≤1048576):Ok Tryz.prog 126 [.str s] (.int .i64 (kX s)):=by
 have c3:=aB1 s (by omega)
 have c4:=aNk (151::gL s) (by simp only [List.length_cons,wX];omega) (aLx _ (by omega))
 have hil:=wX s
 have hq:(gL s).length≤1048577:=by omega
 simp only [List.map_cons] at c4
 unfold kX
 generalize gL s=q at *
 refine ent Tryz.mix Tryz.func126 Tryz.ntmps126 ?_
 have W:=trivial
 repeat' first|refine st ?_|(refine nx ?_;first|refine se ?_|refine so ?_|refine sb ?_)|(refine cx ?_;refine sc (fun hc=>?_) (fun hc=>?_)<;>try exact hc.elim)|(refine lx ?_;refine sp (fun hc=>?_) (fun hc=>?_)<;>try exact hc.elim)|refine sx ?_ ?_|refine sy ?_ ?_|fail
 all_goals (try (refine ⟨.inr rfl,?_⟩;simp [Hands,Tryz.results126]))
def mG (body v:Str):Bool:=v == [] || v == Lib.itoa (kX body)
theorem aBt [aB Tryz.prog] [cZ Tryz.prog] [iD Tryz.prog] (s v:Str) (hl:s.length≤1048576):Ok Tryz.prog 101 [.str s,.str v] (.bool (mG s v)):=by
 have c1:=aEt s hl
 have hr:=aK0 (151::gL s)
 have c2:=aEf (kX s) (by unfold kX;omega)
 unfold mG
 generalize kX s=d at *
 generalize Lib.itoa d=t at *
 refine ent Tryz.mix Tryz.func101 Tryz.ntmps101 ?_
 have W:=trivial
 repeat' first|refine st ?_|(refine nx ?_;first|refine se ?_|refine so ?_|refine sb ?_)|(refine cx ?_;refine sc (fun hc=>?_) (fun hc=>?_)<;>try exact hc.elim)|(refine lx ?_;refine sp (fun hc=>?_) (fun hc=>?_)<;>try exact hc.elim)|refine sx ?_ ?_|refine sy ?_ ?_|fail
 all_goals (try (refine ⟨.inr rfl,?_⟩;simp [Hands,Tryz.results101]))
 all_goals simp_all
theorem aB6 [aB Tryz.prog] [cZ Tryz.prog] [iD Tryz.prog] (s v:Str) (hl:s.length≤1048576):Ok Tryz.prog 87 [.str s,.str v] (.bool (mG s v)):=by
 have c1:=aE2 s hl
 have hr:=aK0 (151::gL s)
 have c2:=aDz (kX s) (by unfold kX;omega)
 unfold mG
 generalize kX s=d at *
 generalize Lib.itoa d=t at *
 refine ent Tryz.mix Tryz.func87 Tryz.ntmps87 ?_
 have W:=trivial
 repeat' first|refine st ?_|(refine nx ?_;first|refine se ?_|refine so ?_|refine sb ?_)|(refine cx ?_;refine sc (fun hc=>?_) (fun hc=>?_)<;>try exact hc.elim)|(refine lx ?_;refine sp (fun hc=>?_) (fun hc=>?_)<;>try exact hc.elim)|refine sx ?_ ?_|refine sy ?_ ?_|fail
 all_goals (try (refine ⟨.inr rfl,?_⟩;simp [Hands,Tryz.results87]))
 all_goals simp_all
def pX (x:bA) (k:Int):Bool:=decide (x.kind=k) || (decide (k=5)&&decide (x.kind=2))
theorem aFr [aB Tryz.prog] [cZ Tryz.prog] [iD Tryz.prog] (x:bA) (k:Int):Ok Tryz.prog 100 [.agg (aV x),.int .i64 k] (.bool (pX x k)):=by
 unfold pX
 refine ent Tryz.mix Tryz.func100 Tryz.ntmps100 ?_
 have W:=trivial
 repeat' first|refine st ?_|(refine nx ?_;first|refine se ?_|refine so ?_|refine sb ?_)|(refine cx ?_;refine sc (fun hc=>?_) (fun hc=>?_)<;>try exact hc.elim)|(refine lx ?_;refine sp (fun hc=>?_) (fun hc=>?_)<;>try exact hc.elim)|refine sx ?_ ?_|refine sy ?_ ?_|fail
 all_goals (try (refine ⟨.inr rfl,?_⟩;simp [Hands,Tryz.results100]))
 all_goals first|(simp_all;done)|(by_cases hk2:x.kind=2<;>simp_all)
theorem aFx [aB Tryz.prog] [cZ Tryz.prog] [iD Tryz.prog] (x:bA) (k:Int):Ok Tryz.prog 86 [.agg (aV x),.int .i64 k] (.bool (pX x k)):=by
 unfold pX
 refine ent Tryz.mix Tryz.func86 Tryz.ntmps86 ?_
 have W:=trivial
 repeat' first|refine st ?_|(refine nx ?_;first|refine se ?_|refine so ?_|refine sb ?_)|(refine cx ?_;refine sc (fun hc=>?_) (fun hc=>?_)<;>try exact hc.elim)|(refine lx ?_;refine sp (fun hc=>?_) (fun hc=>?_)<;>try exact hc.elim)|refine sx ?_ ?_|refine sy ?_ ?_|fail
 all_goals (try (refine ⟨.inr rfl,?_⟩;simp [Hands,Tryz.results86]))
 all_goals first|(simp_all;done)|(by_cases hk2:x.kind=2<;>simp_all)
def aEl (r:eT) (x:bA):Bool:=decide (r.frm≠r.to.host)&& !x.shares&&(decide (r.kind=5) || decide (r.digest≠[]))
def dI (p:bR) (r:eT) (x:bA):Int:=
 if dZ p r≠1 then 2 else if dS x=false∨x.status≠200 then 3 else if pX x r.kind=false then 4 else if aEl r x=true then 5 else if mG x.body r.digest=false then 6 else 1
theorem sD [aB Tryz.prog] [cZ Tryz.prog] [iD Tryz.prog] (p:bR) (r:eT) (x:bA) (hp:bM p≤274877906944) (hr:gK r≤274877906944) (hx:bB x≤1048576):Ok Tryz.prog 50 [.agg (bD .view p),.agg (dL r),.agg (aV x)] (.int .i64 (dI p r x)):=by
 have c1:=sF p r (by omega) (by omega)
 have c2:=pF x (by omega)
 have c3:=aFr x r.kind
 have c4:=aBt x.body r.digest (by simp only [bB] at hx;omega)
 simp only [bD,dL] at c1
 simp only [aV] at c2 c3
 unfold dI aEl
 generalize dZ p r=n at *
 generalize dS x=b2 at *
 generalize pX x r.kind=b3 at *
 generalize mG x.body r.digest=b4 at *
 by_cases h1:n=1
 ·subst h1
  refine ent Tryz.mix Tryz.func50 Tryz.ntmps50 ?_
  have W:=trivial
  repeat' first|refine st ?_|(refine nx ?_;first|refine se ?_|refine so ?_|refine sb ?_)|(refine cx ?_;refine sc (fun hc=>?_) (fun hc=>?_)<;>try exact hc.elim)|(refine lx ?_;refine sp (fun hc=>?_) (fun hc=>?_)<;>try exact hc.elim)|refine sx ?_ ?_|refine sy ?_ ?_|fail
  all_goals (try (refine ⟨.inr rfl,?_⟩;simp [Hands,Tryz.results50]))
  all_goals simp_all
 ·refine ent Tryz.mix Tryz.func50 Tryz.ntmps50 ?_
  have W:=h1
  repeat' first|refine st ?_|(refine nx ?_;first|refine se ?_|refine so ?_|refine sb ?_)|(refine cx ?_;refine sc (fun hc=>?_) (fun hc=>?_)<;>try exact hc.elim)|(refine lx ?_;refine sp (fun hc=>?_) (fun hc=>?_)<;>try exact hc.elim)|refine sx ?_ ?_|refine sy ?_ ?_|fail
  all_goals (try (refine ⟨.inr rfl,?_⟩;simp [Hands,Tryz.results50,h1]))
  all_goals simp_all
theorem rO [aB Tryz.prog] [cZ Tryz.prog] [iD Tryz.prog] (p:bR) (r:eT) (x:bA) (hp:bM p≤274877906944) (hr:gK r≤274877906944) (hx:bB x≤1048576):Ok Tryz.prog 36 [.agg (bD .view p),.agg (dL r),.agg (aV x)] (.int .i64 (dI p r x)):=by
 have c1:=sG p r (by omega) (by omega)
 have h12:dZ p r=1∨dZ p r=2:=by unfold dZ;split<;>simp
 have c2:=aCx x (by omega)
 have c3:=aFx x r.kind
 have c4:=aB6 x.body r.digest (by simp only [bB] at hx;omega)
 simp only [bD,dL] at c1
 simp only [aV] at c2 c3
 unfold dI aEl
 generalize dZ p r=n at *
 generalize dS x=b2 at *
 generalize pX x r.kind=b3 at *
 generalize mG x.body r.digest=b4 at *
 rcases h12 with h1|h1
 ·subst h1
  refine ent Tryz.mix Tryz.func36 Tryz.ntmps36 ?_
  have W:=trivial
  repeat' first|refine st ?_|(refine nx ?_;first|refine se ?_|refine so ?_|refine sb ?_)|(refine cx ?_;refine sc (fun hc=>?_) (fun hc=>?_)<;>try exact hc.elim)|(refine lx ?_;refine sp (fun hc=>?_) (fun hc=>?_)<;>try exact hc.elim)|refine sx ?_ ?_|refine sy ?_ ?_|fail
  all_goals (try (refine ⟨.inr rfl,?_⟩;simp [Hands,Tryz.results36]))
  all_goals simp_all
 ·subst h1
  refine ent Tryz.mix Tryz.func36 Tryz.ntmps36 ?_
  have W:=trivial
  repeat' first|refine st ?_|(refine nx ?_;first|refine se ?_|refine so ?_|refine sb ?_)|(refine cx ?_;refine sc (fun hc=>?_) (fun hc=>?_)<;>try exact hc.elim)|(refine lx ?_;refine sp (fun hc=>?_) (fun hc=>?_)<;>try exact hc.elim)|refine sx ?_ ?_|refine sy ?_ ?_|fail
  all_goals (try (refine ⟨.inr rfl,?_⟩;simp [Hands,Tryz.results36]))
def gZ (p:bR) (r:eT) (x:bA):Str:=if dI p r x=1 then x.body else []
theorem aCv [aB Tryz.prog] [cZ Tryz.prog] [iD Tryz.prog] (p:bR) (r:eT) (x:bA) (hp:bM p≤274877906944) (hr:gK r≤274877906944) (hx:bB x≤1048576):Ok Tryz.prog 51 [.agg (bD .view p),.agg (dL r),.agg (aV x)] (.tup [.str (gZ p r x),.bool (decide (dI p r x=1))]):=by
 have c1:=sD p r x hp hr hx
 simp only [bD,dL,aV] at c1
 unfold gZ
 generalize dI p r x=n at *
 by_cases h1:n=1
 ·subst h1
  refine ent Tryz.mix Tryz.func51 Tryz.ntmps51 ?_
  have W:=trivial
  repeat' first|refine st ?_|(refine nx ?_;first|refine se ?_|refine so ?_|refine sb ?_)|(refine cx ?_;refine sc (fun hc=>?_) (fun hc=>?_)<;>try exact hc.elim)|(refine lx ?_;refine sp (fun hc=>?_) (fun hc=>?_)<;>try exact hc.elim)|refine sx ?_ ?_|refine sy ?_ ?_|fail
  all_goals (try (refine ⟨.inr rfl,?_⟩;simp [Hands,Tryz.results51]))
 ·refine ent Tryz.mix Tryz.func51 Tryz.ntmps51 ?_
  have W:=h1
  repeat' first|refine st ?_|(refine nx ?_;first|refine se ?_|refine so ?_|refine sb ?_)|(refine cx ?_;refine sc (fun hc=>?_) (fun hc=>?_)<;>try exact hc.elim)|(refine lx ?_;refine sp (fun hc=>?_) (fun hc=>?_)<;>try exact hc.elim)|refine sx ?_ ?_|refine sy ?_ ?_|fail
  all_goals (try (refine ⟨.inr rfl,?_⟩;simp [Hands,Tryz.results51,h1]))
theorem aCz [aB Tryz.prog] [cZ Tryz.prog] [iD Tryz.prog] (p:bR) (r:eT) (x:bA) (hp:bM p≤274877906944) (hr:gK r≤274877906944) (hx:bB x≤1048576):Ok Tryz.prog 37 [.agg (bD .view p),.agg (dL r),.agg (aV x)] (.tup [.str (gZ p r x),.bool (decide (dI p r x=1))]):=by
 have c1:=rO p r x hp hr hx
 simp only [bD,dL,aV] at c1
 unfold gZ
 generalize dI p r x=n at *
 by_cases h1:n=1
 ·subst h1
  refine ent Tryz.mix Tryz.func37 Tryz.ntmps37 ?_
  have W:=trivial
  repeat' first|refine st ?_|(refine nx ?_;first|refine se ?_|refine so ?_|refine sb ?_)|(refine cx ?_;refine sc (fun hc=>?_) (fun hc=>?_)<;>try exact hc.elim)|(refine lx ?_;refine sp (fun hc=>?_) (fun hc=>?_)<;>try exact hc.elim)|refine sx ?_ ?_|refine sy ?_ ?_|fail
  all_goals (try (refine ⟨.inr rfl,?_⟩;simp [Hands,Tryz.results37]))
 ·refine ent Tryz.mix Tryz.func37 Tryz.ntmps37 ?_
  have W:=h1
  repeat' first|refine st ?_|(refine nx ?_;first|refine se ?_|refine so ?_|refine sb ?_)|(refine cx ?_;refine sc (fun hc=>?_) (fun hc=>?_)<;>try exact hc.elim)|(refine lx ?_;refine sp (fun hc=>?_) (fun hc=>?_)<;>try exact hc.elim)|refine sx ?_ ?_|refine sy ?_ ?_|fail
  all_goals (try (refine ⟨.inr rfl,?_⟩;simp [Hands,Tryz.results37,h1]))
end Go.Proofs.YtajppdidkjbmkaaGreatDoor
