/-
  Proved here: steps towards the statement of this claim, text QI6.
  No condition beyond what each statement spells out.
-/
import Derived.Test.YtejigeoigebhcaaGreatAI5
import Derived.Test.YtejigeoigebhcaaGreatAR6
import Derived.Test.YtejigeoigebhcaaGreatAQI3
import Derived.Test.YtejigeoigebhcaaGreatAQPL
import Derived.Test.YtejigeoigebhcaaGreatAQN1
import Derived.Test.YtejigeoigebhcaaGreatAF4
import Derived.Test.YtejigeoigebhcaaGreatAQA0
set_option linter.all false
set_option maxRecDepth 8000
set_option maxHeartbeats 8000000
namespace Go.Proofs.YtejigeoigebhcaaGreat
open Go.Aw
theorem wE (s b:Str):bG (bA s b).1≤s.length+b.length:=by
 have h:=mO 47 s
 unfold bA addrOf
 split<;>split<;>simp [bG,lS]<;>omega
def kQ (p:aS) (tx:Str):aS:=
 if (bA tx p.addr.host).2=false∨20≤p.entries.length then p else {bJ p (bA tx p.addr.host).1 with entries:=p.entries++[(bA tx p.addr.host).1]}
theorem aHb (p:aS) (a:aP) (e:List aP):bJ {p with entries:=e} a={bJ p a with entries:=e}:=by
 unfold bJ
 simp only
 split
 ·split<;>rfl
 ·rfl
theorem aD7 (p:aS) (a:aP):(bJ p a).entries=p.entries:=by
 unfold bJ
 split
 ·split<;>rfl
 ·rfl
theorem aBt [aB Tryz.prog] (p:aS) (tx:Str) (hs:aJ p≤268435456) (hto:tx.length≤268435456):Ok Tryz.prog 16 [.agg (aR .view p),.str tx] (.agg (aR .own (kQ p tx))):=by
 have hsl:p.addr.host.length≤268435456:=by simp only [aJ,bG] at hs;omega
 have hen:p.entries.length≤268435456:=by simp only [aJ,szL] at hs;omega
 have c1:=uR p (by omega)
 have c3:=sS tx p.addr.host (by omega)
 have hsz:=wE tx p.addr.host
 unfold kQ
 generalize bA tx p.addr.host=pa at *
 obtain ⟨a,ok⟩:=pa
 simp only at c3 hsz⊢
 have c4:=nE {p with entries:=p.entries++[a]} a (by simp only [aJ,szL,List.length_append,tJ,aZ,List.length_cons,List.length_nil] at hs⊢;omega) (by omega)
 rw [aHb] at c4
 obtain ⟨l1,hl1⟩:∃l,l=p.entries++[a]:=⟨_,rfl⟩
 have hap:p.entries.map aO++[[.str a.host,.str a.path]]=l1.map aO:=by rw [hl1];simp
 rw [←hl1] at c4⊢
 clear hl1
 generalize bJ p a=g at *
 simp only [aR,aO] at c1 c3 c4
 cases ok
 ·simp only [true_or,if_true]
  refine ent Tryz.mix Tryz.func16 Tryz.ntmps16 ?_
  have W:=trivial
  repeat' first|refine st ?_|(refine nx ?_;first|refine se ?_|refine so ?_)|(refine cx ?_;refine sc (fun hc=>?_) (fun hc=>?_)<;>try exact hc.elim)|(refine lx ?_;refine sp (fun hc=>?_) (fun hc=>?_)<;>try exact hc.elim)|refine sx ?_ ?_|refine sy ?_ ?_|fail
  all_goals (try (refine ⟨.inr rfl,?_⟩;simp [Hands,Tryz.results16]))
 ·by_cases h20:20≤p.entries.length
  ·have h20i:(20:Int)≤(p.entries.length:Int):=by omega
   simp only [h20,or_true,if_true]
   refine ent Tryz.mix Tryz.func16 Tryz.ntmps16 ?_
   have W:=h20i
   repeat' first|refine st ?_|(refine nx ?_;first|refine se ?_|refine so ?_)|(refine cx ?_;refine sc (fun hc=>?_) (fun hc=>?_)<;>try exact hc.elim)|(refine lx ?_;refine sp (fun hc=>?_) (fun hc=>?_)<;>try exact hc.elim)|refine sx ?_ ?_|refine sy ?_ ?_|fail
   all_goals (try (refine ⟨.inr rfl,?_⟩;simp [Hands,Tryz.results16]))
  ·have h20i:¬(20:Int)≤(p.entries.length:Int):=by omega
   rw [if_neg (by rintro (h|h);cases h;exact h20 h)]
   refine ent Tryz.mix Tryz.func16 Tryz.ntmps16 ?_
   have W:=And.intro h20i hap
   repeat' first|refine st ?_|(refine nx ?_;first|refine se ?_|refine so ?_)|(refine cx ?_;refine sc (fun hc=>?_) (fun hc=>?_)<;>try exact hc.elim)|(refine lx ?_;refine sp (fun hc=>?_) (fun hc=>?_)<;>try exact hc.elim)|refine sx ?_ ?_|refine sy ?_ ?_|fail
   all_goals (try (refine ⟨.inr rfl,?_⟩;simp [Hands,Tryz.results16]))
theorem aBx [aB Tryz.prog] (p:aS) (tx:Str) (hs:aJ p≤268435456) (hto:tx.length≤268435456):Ok Tryz.prog 17 [.agg (aR .view p),.str tx] (.agg (aR .own (kQ p tx))):=by
 have hsl:p.addr.host.length≤268435456:=by simp only [aJ,bG] at hs;omega
 have hen:p.entries.length≤268435456:=by simp only [aJ,szL] at hs;omega
 have c1:=mM p (by omega)
 have c3:=sQ tx p.addr.host (by omega)
 have hsz:=wE tx p.addr.host
 unfold kQ
 generalize bA tx p.addr.host=pa at *
 obtain ⟨a,ok⟩:=pa
 simp only at c3 hsz⊢
 have c4:=aAh p a (by omega) (by omega)
 have hke:=aD7 p a
 obtain ⟨l1,hl1⟩:∃l,l=p.entries++[a]:=⟨_,rfl⟩
 have hap:p.entries.map aO++[[.str a.host,.str a.path]]=l1.map aO:=by rw [hl1];simp
 rw [←hl1]
 clear hl1
 generalize bJ p a=g at *
 simp only [aR,aO] at c1 c3 c4
 rw [hke] at c4
 cases ok
 ·simp only [true_or,if_true]
  refine ent Tryz.mix Tryz.func17 Tryz.ntmps17 ?_
  have W:=trivial
  repeat' first|refine st ?_|(refine nx ?_;first|refine se ?_|refine so ?_)|(refine cx ?_;refine sc (fun hc=>?_) (fun hc=>?_)<;>try exact hc.elim)|(refine lx ?_;refine sp (fun hc=>?_) (fun hc=>?_)<;>try exact hc.elim)|refine sx ?_ ?_|refine sy ?_ ?_|fail
  all_goals (try (refine ⟨.inr rfl,?_⟩;simp [Hands,Tryz.results17]))
 ·by_cases h20:20≤p.entries.length
  ·have h20i:(20:Int)≤(p.entries.length:Int):=by omega
   simp only [h20,or_true,if_true]
   refine ent Tryz.mix Tryz.func17 Tryz.ntmps17 ?_
   have W:=h20i
   repeat' first|refine st ?_|(refine nx ?_;first|refine se ?_|refine so ?_)|(refine cx ?_;refine sc (fun hc=>?_) (fun hc=>?_)<;>try exact hc.elim)|(refine lx ?_;refine sp (fun hc=>?_) (fun hc=>?_)<;>try exact hc.elim)|refine sx ?_ ?_|refine sy ?_ ?_|fail
   all_goals (try (refine ⟨.inr rfl,?_⟩;simp [Hands,Tryz.results17]))
  ·have h20i:¬(20:Int)≤(p.entries.length:Int):=by omega
   rw [if_neg (by rintro (h|h);cases h;exact h20 h)]
   refine ent Tryz.mix Tryz.func17 Tryz.ntmps17 ?_
   have W:=And.intro h20i hap
   repeat' first|refine st ?_|(refine nx ?_;first|refine se ?_|refine so ?_)|(refine cx ?_;refine sc (fun hc=>?_) (fun hc=>?_)<;>try exact hc.elim)|(refine lx ?_;refine sp (fun hc=>?_) (fun hc=>?_)<;>try exact hc.elim)|refine sx ?_ ?_|refine sy ?_ ?_|fail
   all_goals (try (refine ⟨.inr rfl,?_⟩;simp [Hands,Tryz.results17]))
theorem aJo (p:aS) (a:aP) (k:Nat):szL gI (eZ p a k)=szL gI p.mods+1+bG a:=by
 have h1:aZ gI (p.mods.take k)+aZ gI (p.mods.drop k)=aZ gI p.mods:=by rw [←tJ,List.take_append_drop]
 have h2:(p.mods.take k).length+(p.mods.drop k).length=p.mods.length:=by rw [←List.length_append,List.take_append_drop]
 have h3:gI (lL p a)=bG a:=by unfold lL;split<;>simp [gI]
 simp only [eZ,szL,List.length_append,List.length_cons,tJ,aZ,h3]
 omega
theorem aK2 (p:aS) (a:aP):aJ (bJ p a)≤aJ p+bG a+1:=by
 have h:=aJo p a (dA p.mods a)
 unfold bJ
 split
 ·split
  ·omega
  ·simp only [aJ,h];omega
 ·simp only [aJ,h];omega
theorem aHh (p:aS) {s:iC} {k:Nat} (hg:p.slots[k]? =some s):fF (gB p s)≤aJ p:=by
 have hm:=uJ jZ (List.mem_of_getElem? hg)
 simp only [jZ] at hm
 simp only [fF,gB,aJ,bG,szL] at *
 omega
theorem aJz (p:aS) {m:bT} {k:Nat} (hg:p.mods[k]? =some m):fF (jB p m)≤aJ p:=by
 have hm:=uJ gI (List.mem_of_getElem? hg)
 simp only [gI] at hm
 simp only [fF,jB,aJ,bG,szL,List.length_nil] at *
 omega
theorem aQe [aB Tryz.prog] (d:List UInt8) (hd:d.length≤9223372036854775807):Ok Tryz.prog 4 [.sl .view 1 (aN d)] (.bool (decide (1048576 < (d.length:Int)))):=by
 refine ent Tryz.mix Tryz.func4 Tryz.ntmps4 ?_
 have hb:(aN d).length=d.length:=by simp [aN]
 have W:=hb
 repeat' first|refine st ?_|(refine nx ?_;refine so ?_)|(refine cx ?_;refine sc (fun hc=>?_) (fun hc=>?_)<;>try exact hc.elim)|(refine lx ?_;refine sp (fun hc=>?_) (fun hc=>?_)<;>try exact hc.elim)|refine sx ?_ ?_|refine sy ?_ ?_|fail
 all_goals (try (refine ⟨.inr rfl,?_⟩;simp [Hands,Tryz.results4]))
theorem aI6 {x:AV} (hx:eD [.sl 1 [.int .u8]] [x]):∃d:List UInt8,x= .sl .view 1 (aN d)∧d.length≤9223372036854775807:=by
 obtain ⟨l,rfl,⟨h,_⟩,_⟩:=aIt (e:=fun c:UInt8=>[.int .u8 c.toNat]) (p:=fun _=>True) (q:=fun _=>True) (fun r h=>by
  obtain ⟨n,r',rfl,hn,h⟩:=fits_int h
  obtain rfl:=aL9 h
  have hn1:0≤n∧n≤255:=hn
  refine ⟨UInt8.ofNat n.toNat,?_,trivial,trivial⟩
  have e:(((UInt8.ofNat n.toNat).toNat:Nat):Int)=n:=by
   rw [UInt8.toNat_ofNat']
   omega
  rw [e]) hx
 exact ⟨l,rfl,h⟩
end Go.Proofs.YtejigeoigebhcaaGreat
