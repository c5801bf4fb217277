/-
  Proved here: steps towards the statement of this claim, text J8.
  No condition beyond what each statement spells out.
-/
import Derived.Test.YtkidoegojckmiaaGreatDoorAJ7
import Derived.Test.YtkidoegojckmiaaGreatDoorAQY2
import Derived.Test.YtkidoegojckmiaaGreatDoorAQN1
set_option linter.all false
set_option maxRecDepth 4000
set_option maxHeartbeats 4000000
namespace Go.Proofs.YtkidoegojckmiaaGreatDoor
open Go.Aw
def filled (p:aZ) (s:dR) (x:aR):dR:={s with done:=true,code:=dA p.policy (bM p s) x,body:=gW p.policy (bM p s) x}
def bR (p:aZ) (k:Int) (x:aR):aZ:=
 if 0≤k then match p.slots[k.toNat]? with
  |some s=>if s.done=true then p else {p with slots:=p.slots.set k.toNat (filled p s x)}
  |none=>p
 else p
theorem tZ {p:aZ} {k:Int} {x:aR} (h:¬(0≤k∧k < p.slots.length)):bR p k x=p:=by
 unfold bR
 split
 ·have:p.slots[k.toNat]? =none:=by rw [List.getElem?_eq_none_iff];omega
  rw [this]
 ·rfl
theorem pE {p:aZ} {k:Int} {x:aR} {s:dR} (hg:p.slots[k.toNat]? =some s) (hd:s.done=true):bR p k x=p:=by
 unfold bR
 rw [hg]
 simp [hd]
theorem yC {p:aZ} {k:Int} {x:aR} {s:dR} (h0:0≤k) (hg:p.slots[k.toNat]? =some s) (hd:s.done=false):bR p k x={p with slots:=p.slots.set k.toNat (filled p s x)}:=by
 unfold bR
 rw [if_pos h0,hg]
 simp [hd]
theorem aCc (p:aZ) {s:dR} {k:Nat} (hg:p.slots[k]? =some s):gJ (bM p s)≤bK p:=by
 have hm:=rQ fC (List.mem_of_getElem? hg)
 simp only [fC] at hm
 simp only [gJ,bM,bK,eH,szL] at *
 omega
theorem qO [aB Tryz.prog] [bV Tryz.prog] [eG Tryz.prog] (p:aZ) (k:Int) (x:aR) (hs:bK p≤137438953472) (hx:bE x≤1048576):Ok Tryz.prog 6 [.agg (aU .view p),.int .i64 k,.agg (bA x)] (.agg (aU .own (bR p k x))):=by
 have c1:=aCf p (by omega)
 have hsn:p.slots.length≤274877906944:=by simp only [bK,szL] at hs;omega
 have hpol:bB p.policy≤274877906944:=by simp only [bK] at hs;omega
 by_cases hk0:k < 0
 ·rw [tZ (by omega)]
  simp only [aU] at c1
  refine ent Tryz.mix Tryz.func6 Tryz.ntmps6 ?_
  have W:=hk0
  repeat' first|refine st ?_|(refine nx ?_;first|refine se ?_|refine so ?_)|(refine cx ?_;refine sc (fun hc=>?_) (fun hc=>?_)<;>try exact hc.elim)|(refine lx ?_;refine sp (fun hc=>?_) (fun hc=>?_)<;>try exact hc.elim)|refine sx ?_ ?_|refine sy ?_ ?_|fail
  all_goals (try (refine ⟨.inr rfl,?_⟩;simp [Hands,Tryz.results6]))
 by_cases hk1:(p.slots.length:Int)≤k
 ·rw [tZ (by omega)]
  simp only [aU] at c1
  refine ent Tryz.mix Tryz.func6 Tryz.ntmps6 ?_
  have W:=And.intro hk0 hk1
  repeat' first|refine st ?_|(refine nx ?_;first|refine se ?_|refine so ?_)|(refine cx ?_;refine sc (fun hc=>?_) (fun hc=>?_)<;>try exact hc.elim)|(refine lx ?_;refine sp (fun hc=>?_) (fun hc=>?_)<;>try exact hc.elim)|refine sx ?_ ?_|refine sy ?_ ?_|fail
  all_goals (try (refine ⟨.inr rfl,?_⟩;simp [Hands,Tryz.results6]))
 have h0:0≤k:=by omega
 have hlt:k.toNat < p.slots.length:=by omega
 have hg:p.slots[k.toNat]? =some p.slots[k.toNat]:=List.getElem?_eq_getElem hlt
 cases hd:p.slots[k.toNat].done
 ·rw [yC h0 hg hd]
  have c2:=sQ p k h0 (by omega) (by omega)
  have hr:=aCc p hg
  have e:kQ p k=bM p p.slots[k.toNat]:=by simp [kQ,hg]
  rw [e] at c2
  have c3:=mH p.policy (bM p p.slots[k.toNat]) x hpol (by omega) hx
  have c4:=tC p.policy (bM p p.slots[k.toNat]) x hpol (by omega) hx
  have hset:∀(c:Int) (b:Str),(p.slots.map jG).set k.toNat [.int .i64 p.slots[k.toNat].mode,.str p.slots[k.toNat].to.host,.str p.slots[k.toNat].to.path,.str p.slots[k.toNat].digest,.int .i64 p.slots[k.toNat].node,.bool true,.int .i64 c,.str b]=(p.slots.set k.toNat {p.slots[k.toNat] with done:=true,code:=c,body:=b}).map jG:=by
   intro c b;rw [List.map_set];rfl
  have hset:=hset (dA p.policy (bM p p.slots[k.toNat]) x) (gW p.policy (bM p p.slots[k.toNat]) x)
  unfold filled
  generalize dA p.policy (bM p p.slots[k.toNat]) x=c at *
  generalize gW p.policy (bM p p.slots[k.toNat]) x=b at *
  generalize bM p p.slots[k.toNat]=q at *
  generalize p.slots.set k.toNat {p.slots[k.toNat] with done:=true,code:=c,body:=b}=l3 at *
  simp only [aU,dI] at c2
  simp only [aS,dI,bA] at c3 c4
  simp only [aU] at c1
  simp only [aU]
  clear e
  refine ent Tryz.mix Tryz.func6 Tryz.ntmps6 ?_
  have W:=And.intro hk0 (And.intro hk1 (And.intro h0 (And.intro hg (And.intro hd hlt))))
  repeat' first|refine st ?_|(refine nx ?_;first|refine se ?_|refine so ?_)|(refine cx ?_;refine sc (fun hc=>?_) (fun hc=>?_)<;>try exact hc.elim)|(refine lx ?_;refine sp (fun hc=>?_) (fun hc=>?_)<;>try exact hc.elim)|refine sx ?_ ?_|refine sy ?_ ?_|fail
  all_goals (try (refine ⟨.inr rfl,?_⟩;simp [Hands,Tryz.results6]))
  all_goals exact hset
 ·rw [pE hg hd]
  simp only [aU] at c1
  refine ent Tryz.mix Tryz.func6 Tryz.ntmps6 ?_
  have W:=And.intro hk0 (And.intro hk1 (And.intro h0 (And.intro hg (And.intro hd hlt))))
  repeat' first|refine st ?_|(refine nx ?_;first|refine se ?_|refine so ?_)|(refine cx ?_;refine sc (fun hc=>?_) (fun hc=>?_)<;>try exact hc.elim)|(refine lx ?_;refine sp (fun hc=>?_) (fun hc=>?_)<;>try exact hc.elim)|refine sx ?_ ?_|refine sy ?_ ?_|fail
  all_goals (try (refine ⟨.inr rfl,?_⟩;simp [Hands,Tryz.results6]))
theorem aDw [aB Tryz.prog] [bV Tryz.prog] [eG Tryz.prog] (p:aZ) (k:Int) (x:aR) (hs:bK p≤137438953472) (hx:bE x≤1048576):Ok Tryz.prog 8 [.agg (aU .view p),.int .i64 k,.agg (bA x)] (.agg (aU .own (bR p k x))):=by
 have c1:=wI p (by omega)
 have hsn:p.slots.length≤274877906944:=by simp only [bK,szL] at hs;omega
 have hpol:bB p.policy≤274877906944:=by simp only [bK] at hs;omega
 have ci:=gH k 0 ((p.slots.length:Int) - 1)
 by_cases hk0:k < 0
 ·rw [tZ (by omega)]
  rw [show (decide (0≤k)&&decide (k≤(p.slots.length:Int) - 1))=false by simp;omega] at ci
  simp only [aU] at c1
  refine ent Tryz.mix Tryz.func8 Tryz.ntmps8 ?_
  have W:=hk0
  repeat' first|refine st ?_|(refine nx ?_;first|refine se ?_|refine so ?_)|(refine cx ?_;refine sc (fun hc=>?_) (fun hc=>?_)<;>try exact hc.elim)|(refine lx ?_;refine sp (fun hc=>?_) (fun hc=>?_)<;>try exact hc.elim)|refine sx ?_ ?_|refine sy ?_ ?_|fail
  all_goals (try (refine ⟨.inr rfl,?_⟩;simp [Hands,Tryz.results8]))
 by_cases hk1:(p.slots.length:Int)≤k
 ·rw [tZ (by omega)]
  rw [show (decide (0≤k)&&decide (k≤(p.slots.length:Int) - 1))=false by simp;omega] at ci
  simp only [aU] at c1
  refine ent Tryz.mix Tryz.func8 Tryz.ntmps8 ?_
  have W:=And.intro hk0 hk1
  repeat' first|refine st ?_|(refine nx ?_;first|refine se ?_|refine so ?_)|(refine cx ?_;refine sc (fun hc=>?_) (fun hc=>?_)<;>try exact hc.elim)|(refine lx ?_;refine sp (fun hc=>?_) (fun hc=>?_)<;>try exact hc.elim)|refine sx ?_ ?_|refine sy ?_ ?_|fail
  all_goals (try (refine ⟨.inr rfl,?_⟩;simp [Hands,Tryz.results8]))
 have h0:0≤k:=by omega
 rw [show (decide (0≤k)&&decide (k≤(p.slots.length:Int) - 1))=true by simp;omega] at ci
 have hlt:k.toNat < p.slots.length:=by omega
 have hg:p.slots[k.toNat]? =some p.slots[k.toNat]:=List.getElem?_eq_getElem hlt
 cases hd:p.slots[k.toNat].done
 ·rw [yC h0 hg hd]
  have c2:=aAs p k h0 (by omega) (by omega)
  have hr:=aCc p hg
  have e:kQ p k=bM p p.slots[k.toNat]:=by simp [kQ,hg]
  rw [e] at c2
  have c3:=pV p.policy (bM p p.slots[k.toNat]) x hpol (by omega) hx
  have c4:=aBm p.policy (bM p p.slots[k.toNat]) x hpol (by omega) hx
  have hset:∀(c:Int) (b:Str),(p.slots.map jG).set k.toNat [.int .i64 p.slots[k.toNat].mode,.str p.slots[k.toNat].to.host,.str p.slots[k.toNat].to.path,.str p.slots[k.toNat].digest,.int .i64 p.slots[k.toNat].node,.bool true,.int .i64 c,.str b]=(p.slots.set k.toNat {p.slots[k.toNat] with done:=true,code:=c,body:=b}).map jG:=by
   intro c b;rw [List.map_set];rfl
  have hset:=hset (dA p.policy (bM p p.slots[k.toNat]) x) (gW p.policy (bM p p.slots[k.toNat]) x)
  unfold filled
  generalize dA p.policy (bM p p.slots[k.toNat]) x=c at *
  generalize gW p.policy (bM p p.slots[k.toNat]) x=b at *
  generalize bM p p.slots[k.toNat]=q at *
  generalize p.slots.set k.toNat {p.slots[k.toNat] with done:=true,code:=c,body:=b}=l3 at *
  simp only [aU,dI] at c2
  simp only [aS,dI,bA] at c3 c4
  simp only [aU] at c1
  simp only [aU]
  clear e
  refine ent Tryz.mix Tryz.func8 Tryz.ntmps8 ?_
  have W:=And.intro hk0 (And.intro hk1 (And.intro h0 (And.intro hg (And.intro hd hlt))))
  repeat' first|refine st ?_|(refine nx ?_;first|refine se ?_|refine so ?_)|(refine cx ?_;refine sc (fun hc=>?_) (fun hc=>?_)<;>try exact hc.elim)|(refine lx ?_;refine sp (fun hc=>?_) (fun hc=>?_)<;>try exact hc.elim)|refine sx ?_ ?_|refine sy ?_ ?_|fail
  all_goals (try (refine ⟨.inr rfl,?_⟩;simp [Hands,Tryz.results8]))
  all_goals exact hset
 ·rw [pE hg hd]
  simp only [aU] at c1
  refine ent Tryz.mix Tryz.func8 Tryz.ntmps8 ?_
  have W:=And.intro hk0 (And.intro hk1 (And.intro h0 (And.intro hg (And.intro hd hlt))))
  repeat' first|refine st ?_|(refine nx ?_;first|refine se ?_|refine so ?_)|(refine cx ?_;refine sc (fun hc=>?_) (fun hc=>?_)<;>try exact hc.elim)|(refine lx ?_;refine sp (fun hc=>?_) (fun hc=>?_)<;>try exact hc.elim)|refine sx ?_ ?_|refine sy ?_ ?_|fail
  all_goals (try (refine ⟨.inr rfl,?_⟩;simp [Hands,Tryz.results8]))
end Go.Proofs.YtkidoegojckmiaaGreatDoor
