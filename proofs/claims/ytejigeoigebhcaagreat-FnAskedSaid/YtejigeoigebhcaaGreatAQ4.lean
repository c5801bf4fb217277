/-
  Proved here: steps towards the statement of this claim, text Q4.
  No condition beyond what each statement spells out.
-/
import Derived.Test.YtejigeoigebhcaaGreatAQN1
import Derived.Test.YtejigeoigebhcaaGreatAQY3
import Derived.Test.YtejigeoigebhcaaGreatAQI3
set_option linter.all false
set_option maxRecDepth 4000
set_option maxHeartbeats 4000000
namespace Go.Proofs.YtejigeoigebhcaaGreat
open Go.Aw
theorem uD (p:bX) (r:fC):bR p r=1∨bR p r=2:=by
 unfold bR;split<;>simp
def dP (p:aS) (mode:Int) (tu digest:Str) (node:Int):aS×Int:=
 if 20≤p.slots.length∨bI mode=0 then (p, -1)
 else if (bA tu p.addr.host).2=false∨bR p.policy ⟨bI mode,(bA tu p.addr.host).1,p.addr.host,digest⟩≠1 then
  ({p with slots:=p.slots++[(⟨mode,(bA tu p.addr.host).1,digest,node,true,2,[]⟩:iC)]},((p.slots.length:Nat):Int))
 else ({p with slots:=p.slots++[(⟨mode,(bA tu p.addr.host).1,digest,node,false,0,[]⟩:iC)]},((p.slots.length:Nat):Int))
theorem nU {p:aS} {mode:Int} {tu digest:Str} {node:Int} (h:20≤p.slots.length∨bI mode=0):dP p mode tu digest node=(p, -1):=by unfold dP;rw [if_pos h]
theorem zX {p:aS} {mode:Int} {tu digest:Str} {node:Int} (h:¬(20≤p.slots.length∨bI mode=0)) (h2:(bA tu p.addr.host).2=false∨bR p.policy ⟨bI mode,(bA tu p.addr.host).1,p.addr.host,digest⟩≠1):
  dP p mode tu digest node=({p with slots:=p.slots++[(⟨mode,(bA tu p.addr.host).1,digest,node,true,2,[]⟩:iC)]},((p.slots.length:Nat):Int)):=by unfold dP;rw [if_neg h,if_pos h2]
theorem wY {p:aS} {mode:Int} {tu digest:Str} {node:Int} (h:¬(20≤p.slots.length∨bI mode=0)) (h1:(bA tu p.addr.host).2=true) (h2:bR p.policy ⟨bI mode,(bA tu p.addr.host).1,p.addr.host,digest⟩=1):
  dP p mode tu digest node=({p with slots:=p.slots++[(⟨mode,(bA tu p.addr.host).1,digest,node,false,0,[]⟩:iC)]},((p.slots.length:Nat):Int)):=by
 unfold dP;rw [if_neg h,if_neg (by rintro (h3|h3);rw [h1] at h3;cases h3;exact h3 h2)]
theorem aCo [aB Tryz.prog] (p:aS) (mode:Int) (tu digest:Str) (node:Int) (hs:aJ p≤274877906944) (hto:tu.length≤274877906944) (hd:digest.length≤274877906944):Ok Tryz.prog 7 [.agg (aR .view p),.int .i64 mode,.str tu,.str digest,.int .i64 node] (.tup [.agg (aR .own (dP p mode tu digest node).1),.int .i64 (dP p mode tu digest node).2]):=by
 have c1:=mM p hs
 simp only [aR] at c1
 have hsl:p.addr.host.length≤274877906944:=by simp only [aJ,bG] at hs;omega
 have hpol:bE p.policy≤1099511627776:=by simp only [aJ] at hs;omega
 have hsn:p.slots.length≤274877906944:=by simp only [aJ,szL] at hs;omega
 have c2:=qW mode
 have c3:=sQ tu p.addr.host (by omega)
 by_cases h20:(20:Int)≤(p.slots.length:Int)
 ·rw [nU (.inl (by omega))]
  refine ent Tryz.mix Tryz.func7 Tryz.ntmps7 ?_
  have W:=h20
  repeat' first|refine st ?_|(refine nx ?_;first|refine se ?_|refine so ?_)|(refine cx ?_;refine sc (fun hc=>?_) (fun hc=>?_)<;>try exact hc.elim)|(refine lx ?_;refine sp (fun hc=>?_) (fun hc=>?_)<;>try exact hc.elim)|refine sx ?_ ?_|refine sy ?_ ?_|fail
  all_goals (try (refine ⟨.inr rfl,?_⟩;simp [Hands,Tryz.results7]))
 by_cases hk:bI mode=0
 ·rw [nU (.inr hk)]
  rw [hk] at c2
  refine ent Tryz.mix Tryz.func7 Tryz.ntmps7 ?_
  have W:=h20
  repeat' first|refine st ?_|(refine nx ?_;first|refine se ?_|refine so ?_)|(refine cx ?_;refine sc (fun hc=>?_) (fun hc=>?_)<;>try exact hc.elim)|(refine lx ?_;refine sp (fun hc=>?_) (fun hc=>?_)<;>try exact hc.elim)|refine sx ?_ ?_|refine sy ?_ ?_|fail
  all_goals (try (refine ⟨.inr rfl,?_⟩;simp [Hands,Tryz.results7]))
 have hno:¬(20≤p.slots.length∨bI mode=0):=by rintro (h|h);omega;exact hk h
 have hsz:=yM tu p.addr.host
 have hbad:=zX (tu:=tu) (digest:=digest) (node:=node) hno
 have hgood:=wY (tu:=tu) (digest:=digest) (node:=node) hno
 have c5:=oM p.policy ⟨bI mode,(bA tu p.addr.host).1,p.addr.host,digest⟩ hpol (by simp only [fF];omega)
 have h12:=uD p.policy ⟨bI mode,(bA tu p.addr.host).1,p.addr.host,digest⟩
 have c4:=fun l' hl' hl2=>xG {p with slots:=l'} (p.slots.length:Int) (by omega) hl' hl2
 have hr:∀s,iM {p with slots:=p.slots++[s]} (p.slots.length:Int)=⟨bI s.mode,s.to,p.addr.host,s.digest⟩:=fun s=>by simp [iM,gB]
 generalize hkm:bI mode=km at *
 generalize bA tu p.addr.host=pa at *
 obtain ⟨a,ok⟩:=pa
 simp only at c3 c5 h12 hsz hbad hgood
 obtain ⟨s0,hs0⟩:∃s:iC,s=⟨mode,a,digest,node,false,0,[]⟩:=⟨_,rfl⟩
 obtain ⟨l0,hl0⟩:∃l,l=p.slots++[s0]:=⟨_,rfl⟩
 obtain ⟨l3,hl3⟩:∃l:List iC,l=p.slots++[⟨mode,a,digest,node,true,2,[]⟩]:=⟨_,rfl⟩
 have hap:p.slots.map gG++[[.int .i64 mode,.str a.host,.str a.path,.str digest,.int .i64 node,.bool false,.int .i64 0,.str []]]=l0.map gG:=by rw [hl0,hs0];simp
 have hg:l0[p.slots.length]? =some s0:=by rw [hl0];simp
 have hln:l0.length=p.slots.length+1:=by rw [hl0];simp
 have hset:∀h,(l0.map gG).set p.slots.length [.int .i64 (l0[p.slots.length]'h).mode,.str (l0[p.slots.length]'h).to.host,.str (l0[p.slots.length]'h).to.path,.str (l0[p.slots.length]'h).digest,.int .i64 (l0[p.slots.length]'h).node,.bool true,.int .i64 2,.str (l0[p.slots.length]'h).body]=l3.map gG:=by
  intro h
  have e:l0[p.slots.length]'h=s0:=by rw [List.getElem?_eq_getElem h] at hg;exact Option.some.inj hg
  rw [e,hl0,hl3,hs0,List.map_append,List.map_append,List.set_append_right _ _ (by simp)];simp
 have c4:=c4 l0 (by rw [hln];omega) (by rw [hln];omega)
 rw [show iM {p with slots:=l0} (p.slots.length:Int)=⟨km,a,p.addr.host,digest⟩ by rw [hl0,hr,hs0];simp [hkm]] at c4
 simp only [aR,dH] at c4
 simp only [bD,dH] at c5
 rw [←hl3] at hbad
 rw [←hs0,←hl0] at hgood
 have hlt0:p.slots.length < l0.length:=by omega
 clear hs0 hl0 hl3 hr hkm hno
 cases ok
 ·rw [hbad (.inl rfl)]
  clear hbad hgood h12
  refine ent Tryz.mix Tryz.func7 Tryz.ntmps7 ?_
  have W:=And.intro h20 (And.intro hk (And.intro hg (And.intro hap hlt0)))
  repeat' first|refine st ?_|(refine nx ?_;first|refine se ?_|refine so ?_)|(refine cx ?_;refine sc (fun hc=>?_) (fun hc=>?_)<;>try exact hc.elim)|(refine lx ?_;refine sp (fun hc=>?_) (fun hc=>?_)<;>try exact hc.elim)|refine sx ?_ ?_|refine sy ?_ ?_|fail
  all_goals (try (refine ⟨.inr rfl,?_⟩;simp [Hands,Tryz.results7]))
  all_goals exact hset _
 ·rcases h12 with h|h
  ·rw [hgood rfl h]
   rw [h] at c5
   clear hbad hgood h
   refine ent Tryz.mix Tryz.func7 Tryz.ntmps7 ?_
   have W:=And.intro h20 (And.intro hk (And.intro hg (And.intro hap hlt0)))
   repeat' first|refine st ?_|(refine nx ?_;first|refine se ?_|refine so ?_)|(refine cx ?_;refine sc (fun hc=>?_) (fun hc=>?_)<;>try exact hc.elim)|(refine lx ?_;refine sp (fun hc=>?_) (fun hc=>?_)<;>try exact hc.elim)|refine sx ?_ ?_|refine sy ?_ ?_|fail
   all_goals (try (refine ⟨.inr rfl,?_⟩;simp [Hands,Tryz.results7]))
   all_goals exact hset _
  ·rw [hbad (.inr (by rw [h];decide))]
   rw [h] at c5
   clear hbad hgood h
   refine ent Tryz.mix Tryz.func7 Tryz.ntmps7 ?_
   have W:=And.intro h20 (And.intro hk (And.intro hg (And.intro hap hlt0)))
   repeat' first|refine st ?_|(refine nx ?_;first|refine se ?_|refine so ?_)|(refine cx ?_;refine sc (fun hc=>?_) (fun hc=>?_)<;>try exact hc.elim)|(refine lx ?_;refine sp (fun hc=>?_) (fun hc=>?_)<;>try exact hc.elim)|refine sx ?_ ?_|refine sy ?_ ?_|fail
   all_goals (try (refine ⟨.inr rfl,?_⟩;simp [Hands,Tryz.results7]))
   all_goals exact hset _
theorem aCr [aB Tryz.prog] (p:aS) (mode:Int) (tu digest:Str) (node:Int) (hs:aJ p≤274877906944) (hto:tu.length≤274877906944) (hd:digest.length≤274877906944):Ok Tryz.prog 6 [.agg (aR .view p),.int .i64 mode,.str tu,.str digest,.int .i64 node] (.tup [.agg (aR .own (dP p mode tu digest node).1),.int .i64 (dP p mode tu digest node).2]):=by
 have c1:=uR p hs
 simp only [aR] at c1
 have hsl:p.addr.host.length≤274877906944:=by simp only [aJ,bG] at hs;omega
 have hpol:bE p.policy≤1099511627776:=by simp only [aJ] at hs;omega
 have hsn:p.slots.length≤274877906944:=by simp only [aJ,szL] at hs;omega
 have c2:=qV mode
 have c3:=sS tu p.addr.host (by omega)
 by_cases h20:(20:Int)≤(p.slots.length:Int)
 ·rw [nU (.inl (by omega))]
  refine ent Tryz.mix Tryz.func6 Tryz.ntmps6 ?_
  have W:=h20
  repeat' first|refine st ?_|(refine nx ?_;first|refine se ?_|refine so ?_)|(refine cx ?_;refine sc (fun hc=>?_) (fun hc=>?_)<;>try exact hc.elim)|(refine lx ?_;refine sp (fun hc=>?_) (fun hc=>?_)<;>try exact hc.elim)|refine sx ?_ ?_|refine sy ?_ ?_|fail
  all_goals (try (refine ⟨.inr rfl,?_⟩;simp [Hands,Tryz.results6]))
 by_cases hk:bI mode=0
 ·rw [nU (.inr hk)]
  rw [hk] at c2
  refine ent Tryz.mix Tryz.func6 Tryz.ntmps6 ?_
  have W:=h20
  repeat' first|refine st ?_|(refine nx ?_;first|refine se ?_|refine so ?_)|(refine cx ?_;refine sc (fun hc=>?_) (fun hc=>?_)<;>try exact hc.elim)|(refine lx ?_;refine sp (fun hc=>?_) (fun hc=>?_)<;>try exact hc.elim)|refine sx ?_ ?_|refine sy ?_ ?_|fail
  all_goals (try (refine ⟨.inr rfl,?_⟩;simp [Hands,Tryz.results6]))
 have hno:¬(20≤p.slots.length∨bI mode=0):=by rintro (h|h);omega;exact hk h
 have hsz:=yM tu p.addr.host
 have hbad:=zX (tu:=tu) (digest:=digest) (node:=node) hno
 have hgood:=wY (tu:=tu) (digest:=digest) (node:=node) hno
 have c5:=jF p.policy ⟨bI mode,(bA tu p.addr.host).1,p.addr.host,digest⟩ hpol (by simp only [fF];omega)
 have h12:=uD p.policy ⟨bI mode,(bA tu p.addr.host).1,p.addr.host,digest⟩
 have c4:=fun l' hl' hl2=>qL {p with slots:=l'} (p.slots.length:Int) (by omega) hl' hl2
 have hr:∀s,iM {p with slots:=p.slots++[s]} (p.slots.length:Int)=⟨bI s.mode,s.to,p.addr.host,s.digest⟩:=fun s=>by simp [iM,gB]
 generalize hkm:bI mode=km at *
 generalize bA tu p.addr.host=pa at *
 obtain ⟨a,ok⟩:=pa
 simp only at c3 c5 h12 hsz hbad hgood
 obtain ⟨s0,hs0⟩:∃s:iC,s=⟨mode,a,digest,node,false,0,[]⟩:=⟨_,rfl⟩
 obtain ⟨l0,hl0⟩:∃l,l=p.slots++[s0]:=⟨_,rfl⟩
 obtain ⟨l3,hl3⟩:∃l:List iC,l=p.slots++[⟨mode,a,digest,node,true,2,[]⟩]:=⟨_,rfl⟩
 have hap:p.slots.map gG++[[.int .i64 mode,.str a.host,.str a.path,.str digest,.int .i64 node,.bool false,.int .i64 0,.str []]]=l0.map gG:=by rw [hl0,hs0];simp
 have hg:l0[p.slots.length]? =some s0:=by rw [hl0];simp
 have hln:l0.length=p.slots.length+1:=by rw [hl0];simp
 have hset:∀h,(l0.map gG).set p.slots.length [.int .i64 (l0[p.slots.length]'h).mode,.str (l0[p.slots.length]'h).to.host,.str (l0[p.slots.length]'h).to.path,.str (l0[p.slots.length]'h).digest,.int .i64 (l0[p.slots.length]'h).node,.bool true,.int .i64 2,.str (l0[p.slots.length]'h).body]=l3.map gG:=by
  intro h
  have e:l0[p.slots.length]'h=s0:=by rw [List.getElem?_eq_getElem h] at hg;exact Option.some.inj hg
  rw [e,hl0,hl3,hs0,List.map_append,List.map_append,List.set_append_right _ _ (by simp)];simp
 have c4:=c4 l0 (by rw [hln];omega) (by rw [hln];omega)
 rw [show iM {p with slots:=l0} (p.slots.length:Int)=⟨km,a,p.addr.host,digest⟩ by rw [hl0,hr,hs0];simp [hkm]] at c4
 simp only [aR,dH] at c4
 simp only [bD,dH] at c5
 rw [←hl3] at hbad
 rw [←hs0,←hl0] at hgood
 have hlt0:p.slots.length < l0.length:=by omega
 clear hs0 hl0 hl3 hr hkm hno
 cases ok
 ·rw [hbad (.inl rfl)]
  clear hbad hgood h12
  refine ent Tryz.mix Tryz.func6 Tryz.ntmps6 ?_
  have W:=And.intro h20 (And.intro hk (And.intro hg (And.intro hap hlt0)))
  repeat' first|refine st ?_|(refine nx ?_;first|refine se ?_|refine so ?_)|(refine cx ?_;refine sc (fun hc=>?_) (fun hc=>?_)<;>try exact hc.elim)|(refine lx ?_;refine sp (fun hc=>?_) (fun hc=>?_)<;>try exact hc.elim)|refine sx ?_ ?_|refine sy ?_ ?_|fail
  all_goals (try (refine ⟨.inr rfl,?_⟩;simp [Hands,Tryz.results6]))
  all_goals exact hset _
 ·rcases h12 with h|h
  ·rw [hgood rfl h]
   rw [h] at c5
   clear hbad hgood h
   refine ent Tryz.mix Tryz.func6 Tryz.ntmps6 ?_
   have W:=And.intro h20 (And.intro hk (And.intro hg (And.intro hap hlt0)))
   repeat' first|refine st ?_|(refine nx ?_;first|refine se ?_|refine so ?_)|(refine cx ?_;refine sc (fun hc=>?_) (fun hc=>?_)<;>try exact hc.elim)|(refine lx ?_;refine sp (fun hc=>?_) (fun hc=>?_)<;>try exact hc.elim)|refine sx ?_ ?_|refine sy ?_ ?_|fail
   all_goals (try (refine ⟨.inr rfl,?_⟩;simp [Hands,Tryz.results6]))
   all_goals exact hset _
  ·rw [hbad (.inr (by rw [h];decide))]
   rw [h] at c5
   clear hbad hgood h
   refine ent Tryz.mix Tryz.func6 Tryz.ntmps6 ?_
   have W:=And.intro h20 (And.intro hk (And.intro hg (And.intro hap hlt0)))
   repeat' first|refine st ?_|(refine nx ?_;first|refine se ?_|refine so ?_)|(refine cx ?_;refine sc (fun hc=>?_) (fun hc=>?_)<;>try exact hc.elim)|(refine lx ?_;refine sp (fun hc=>?_) (fun hc=>?_)<;>try exact hc.elim)|refine sx ?_ ?_|refine sy ?_ ?_|fail
   all_goals (try (refine ⟨.inr rfl,?_⟩;simp [Hands,Tryz.results6]))
   all_goals exact hset _
end Go.Proofs.YtejigeoigebhcaaGreat
