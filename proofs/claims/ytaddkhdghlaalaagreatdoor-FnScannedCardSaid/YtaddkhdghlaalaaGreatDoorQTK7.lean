/-
  Proved here: steps towards the statement of this claim, text QTK7.
  No condition beyond what each statement spells out.
-/
import Derived.Test.YtaddkhdghlaalaaGreatDoorQTK5
import Derived.Test.YtaddkhdghlaalaaGreatDoorQD1
import Derived.Test.YtaddkhdghlaalaaGreatDoorQRLsd
import Derived.Test.YtaddkhdghlaalaaGreatDoorQP3
import Derived.Test.YtaddkhdghlaalaaGreatDoorF8
import Derived.Test.YtaddkhdghlaalaaGreatDoorQN1
import Derived.Test.YtaddkhdghlaalaaGreatDoorQR5
set_option linter.all false
set_option maxRecDepth 8000
set_option maxHeartbeats 8000000
namespace Go.Proofs.YtaddkhdghlaalaaGreatDoor
open Go.Aw
theorem aJi [aB Tryz.prog] (p:aC) (k:Nat) (nd:gW) (hk:k < p.builder.nodes.length) (hg:p.builder.nodes[k]? =some nd) (hs:aJ p≤268435456):OkG Tryz.prog 176 [.give (.agg (aG .own p)),.view (.int .i64 ((k:Nat):Int))] (.agg (aG .own (rY p k nd.attrs))):=by
 have hns:nU nd≤268435456:=by
  have h1:=dL nU (List.mem_of_getElem? hg)
  simp only [aJ,aU,szL] at hs;omega
 obtain ⟨nn,ntx,np,ta⟩:=nd
 have hta:ta.length+aK lI ta≤268435456:=by simp only [nU,szL] at hns;omega
 have z1:=iY ta dN
 have z3:=iY ta gK
 have c1:=fZ ta dN (by omega)
 have c2:=fZ ta zK (by omega)
 have c3:=fZ ta gK (by omega)
 have c4:=fZ ta aGc (by omega)
 have c5:=aFp p.policy (aP ta aGc).1
 have a4:=uO p 4 (aP ta gK).1 (aP ta dN).1 ((k:Nat):Int) (by omega) (by omega) (by omega)
 have a3:=uO p 3 (aP ta gK).1 (aP ta dN).1 ((k:Nat):Int) (by omega) (by omega) (by omega)
 have a5:=aKq p (aP ta gK).1 hs (by omega)
 have hrg:=aXl p 3 (aP ta gK).1 (aP ta dN).1 ((k:Nat):Int)
 have hsl:p.slots.length≤268435456:=by simp only [aJ,szL] at hs;omega
 simp only [rY]
 generalize fP p 4 (aP ta gK).1 (aP ta dN).1 ((k:Nat):Int)=g4 at *
 generalize fP p 3 (aP ta gK).1 (aP ta dN).1 ((k:Nat):Int)=g3 at *
 generalize oI p (aP ta gK).1=g5 at *
 simp only [aG] at a3 a4 a5
 simp only [bY] at c5
 clear z1 z3
 generalize aP ta dN=fd at *
 generalize aP ta zK=fk at *
 generalize aP ta gK=fs at *
 generalize aP ta aGc=fn at *
 obtain ⟨dv,db⟩:=fd
 obtain ⟨kv,kb⟩:=fk
 obtain ⟨sv,sbb⟩:=fs
 obtain ⟨nv,nb⟩:=fn
 obtain ⟨g3p,g3k⟩:=g3
 simp only [dN] at c1
 simp only [zK] at c2
 simp only [gK] at c3
 simp only [aGc] at c4
 simp only at hrg c5
 generalize xG p.policy nv=al at *
 have hw:IntKind.i64.wrap (g3k+1)=g3k+1:=by rw [wrap64]<;>omega
 cases sbb
 ·rw [if_pos rfl]
  cases al
  ·rw [if_neg (by simp)]
   refine qD Tryz.mix Tryz.func176 Tryz.ntmps176 ?_
   have W:=hg
   have V:=hk
   repeat' first|refine st ?_|(refine nx ?_;first|refine se ?_|refine so ?_)|(refine cx ?_;first|refine sT ?_|refine sF ?_)|fail
   all_goals (try (refine ⟨by first|exact .inr rfl|exact .inl rfl,?_⟩;simp [iM,fB,eH,rowOf,Tryz.results176]))
  ·rw [if_pos rfl]
   refine qD Tryz.mix Tryz.func176 Tryz.ntmps176 ?_
   have W:=hg
   have V:=hk
   repeat' first|refine st ?_|(refine nx ?_;first|refine se ?_|refine so ?_)|(refine cx ?_;first|refine sT ?_|refine sF ?_)|fail
   all_goals (try (refine ⟨by first|exact .inr rfl|exact .inl rfl,?_⟩;simp [iM,fB,eH,rowOf,Tryz.results176]))
 ·rw [if_neg (by simp)]
  by_cases h1:kv=aL0
  ·rw [if_pos h1]
   have h1b:(kv == [100,101,102,101,114])=true:=by simpa [aL0] using h1
   refine qD Tryz.mix Tryz.func176 Tryz.ntmps176 ?_
   have W:=And.intro hg h1b
   have V:=hk
   repeat' first|refine st ?_|(refine nx ?_;first|refine se ?_|refine so ?_)|(refine cx ?_;first|refine sT ?_|refine sF ?_)|fail
   all_goals (try (refine ⟨by first|exact .inr rfl|exact .inl rfl,?_⟩;simp [iM,fB,eH,rowOf,Tryz.results176]))
  ·rw [if_neg h1]
   have h1b:(kv == [100,101,102,101,114])=false:=by simpa [aL0] using h1
   by_cases h2:kv=yS
   ·rw [if_pos h2]
    have h2b:(kv == [109,111,100,117,108,101])=true:=by simpa [yS] using h2
    refine qD Tryz.mix Tryz.func176 Tryz.ntmps176 ?_
    have W:=And.intro hg (And.intro h1b h2b)
    have V:=hk
    repeat' first|refine st ?_|(refine nx ?_;first|refine se ?_|refine so ?_)|(refine cx ?_;first|refine sT ?_|refine sF ?_)|fail
    all_goals (try (refine ⟨by first|exact .inr rfl|exact .inl rfl,?_⟩;simp [iM,fB,eH,rowOf,Tryz.results176]))
   ·rw [if_neg h2]
    have h2b:(kv == [109,111,100,117,108,101])=false:=by simpa [yS] using h2
    refine qD Tryz.mix Tryz.func176 Tryz.ntmps176 ?_
    have W:=And.intro hg (And.intro h1b (And.intro h2b hw))
    have V:=hk
    repeat' first|refine st ?_|(refine nx ?_;first|refine se ?_|refine so ?_)|(refine cx ?_;first|refine sT ?_|refine sF ?_)|fail
    all_goals (try (refine ⟨by first|exact .inr rfl|exact .inl rfl,?_⟩;simp [iM,fB,eH,rowOf,Tryz.results176]))
theorem aKy {α:Type} (f:α→Nat):∀a b:List α,aK f (a++b)=aK f a+aK f b
 |[],b=>by simp [aK]
 |x::xs,b=>by simp only [List.cons_append,aK,aKy f xs b];omega
def qX (b:aX) (t:bE):Option Nat:=
 if t.kind=2∧t.name=jN then
  match b.opens.getLast? with
  |some n=>if 1≤n∧(b.nodes[n.toNat]?).any (fun x=>decide (x.name=jN))=true then some n.toNat else none
  |none=>none
 else none
def lZ (p:aC) (t:bE) (q:List bE):aC:=
 match qX p.builder t with
 |some k=>rY {p with queue:=q,builder:=(dD p.builder t).1} k ((p.builder.nodes[k]?).elim [] (·.attrs))
 |none=>if t.kind=1∧0≤(dD p.builder t).2 then xQ {p with queue:=q,builder:=(dD p.builder t).1} t (dD p.builder t).2 else {p with queue:=q,builder:=(dD p.builder t).1}
def lF (p:aC):aC×Bool:=match p.queue with
 |[]=>(p,false)
 |t::q=>if p.block=0∧p.inline=0 then (lZ p t q,true) else (p,false)
theorem aUz (b:aX) (t:bE):aU (dD b t).1≤aU b+bN t+2:=by
 unfold dD
 split
 ·have:=aIo b t.name (b.opens.length - 1)
  simp only [aU,szL] at this⊢
  omega
 ·split
  ·simp only;omega
  ·split
   ·simp only;omega
   ·have h1:nU (rV b t)≤bN t:=by
     unfold rV
     split<;>simp only [nU,bN,szL,List.length_nil,aK]<;>omega
    have h2:(if oO t=true then b.opens++[((b.nodes.length:Nat):Int)] else b.opens).length≤b.opens.length+1:=by split<;>simp
    simp only [aU,szL,List.length_append,aKy,aK,List.length_cons,List.length_nil] at h1 h2⊢
    omega
theorem vX {p:aC} {t:bE} {q:List bE} (h:p.queue=t::q):aJ {p with queue:=q,builder:=(dD p.builder t).1}≤aJ p+2:=by
 have h1:=aUz p.builder t
 simp only [aJ,h,szL,aK,List.length_cons] at h1⊢
 omega
theorem vU {b:aX} {t:bE} (h:t.kind=2):(dD b t).2= -1∧(dD b t).1.nodes=b.nodes:=by rw [aDq h];exact ⟨rfl,rfl⟩
theorem aCz {b:aX} {t:bE} (h:¬(t.kind=2∧t.name=jN)):qX b t=none:=by unfold qX;rw [if_neg h]
theorem aSl {b:aX} {t:bE} (h:b.opens=[]):qX b t=none:=by unfold qX;rw [h];split<;>rfl
theorem aGf {b:aX} {t:bE} {os:List Int} {k:Nat} (h1:t.kind=2) (h2:t.name=jN) (h:b.opens=os++[((k:Nat):Int)]) (hk:1≤k) {nd:gW} (hg:b.nodes[k]? =some nd) (hn:nd.name=jN):qX b t=some k:=by
 unfold qX
 rw [if_pos ⟨h1,h2⟩,h,List.getLast?_concat]
 simp only
 rw [if_pos ⟨by omega,by rw [Int.toNat_natCast,hg];simpa using hn⟩]
 simp
def qJ (s:iK):Bool:= !(decide (s.mode=2)&& !s.done)
theorem aAb [aB Tryz.prog] (p:aC) (hl:p.slots.length≤1099511627776):Ok Tryz.prog 140 [.agg (aG .view p)] (.bool (p.slots.all qJ)):=by
 refine ent Tryz.mix Tryz.func140 Tryz.ntmps140 ?_
 refine bA ?_
 refine aR (ι:={k:Nat // k≤p.slots.length∧∀x∈p.slots.take k,qJ x=true}) (fun t o i=>⟨aS t [(3,.int .i64 i.1)],o⟩)
  (fun i=>p.slots.length - i.1) ⟨0,by simp⟩ aO ?_
 rintro ⟨k,hk,hpre⟩ K1 hK1
 simp only [aS,List.set_cons_succ,List.set_cons_zero] at hK1⊢
 have hk1:=wk1 (k:=k) (by omega)
 by_cases hlt:k < p.slots.length
 ·have hg:=List.getElem?_eq_getElem hlt
  have W:=And.intro hk1 (And.intro hg hlt)
  repeat' first|refine st ?_|(refine nx ?_;refine so ?_)|(refine cx ?_;refine sc (fun hc=>?_) (fun hc=>?_)<;>try exact hc.elim)|(refine lx ?_;refine sp (fun hc=>?_) (fun hc=>?_)<;>try exact hc.elim)|refine sx ?_ ?_|refine sy ?_ ?_|fail
  all_goals first
   |(refine hK1 _ ⟨k+1,by omega,dK hlt hpre (by simp_all [qJ])⟩ aO (by simp only;omega);done)
   |skip
  all_goals (try (refine ⟨.inr rfl,?_⟩;simp [Hands,Tryz.results140]))
  exact ⟨_,List.getElem_mem hlt,by simp_all [qJ]⟩
 ·have W:=hk1
  refine wl ?_
  all_goals (try (refine ⟨.inr rfl,?_⟩;simp [Hands,Tryz.results140]))
  exact iQ (by omega) hpre
def zS (n:Int) (s:Str) (x:gW):Str:=if x.parent=n∧x.name=[] then s++x.text else s
def textOf (b:aX) (n:Int):Str:=b.nodes.foldl (zS n) []
def aC0 (b:aX) (n:Int) (k:Nat):Str:=(b.nodes.take k).foldl (zS n) []
theorem bBh (b:aX) (n:Int) (k:Nat) (h:k < b.nodes.length):aC0 b n (k+1)=zS n (aC0 b n k) b.nodes[k]:=by
 unfold aC0
 rw [List.take_succ_eq_append_getElem h,List.foldl_append];rfl
theorem aX6 (n:Int) (s:Str) (x:gW):(zS n s x).length≤s.length+nU x:=by
 unfold zS nU
 split
 ·simp only [List.length_append];omega
 ·omega
theorem aZn (n:Int):∀(l:List gW) (s:Str),(l.foldl (zS n) s).length≤s.length+aK nU l
 |[],s=>by simp [aK]
 |x::l,s=>by
  have h1:=aZn n l (zS n s x)
  have h2:=aX6 n s x
  simp only [List.foldl_cons,aK];omega
theorem xY {α:Type} (f:α→Nat):∀(l:List α) (k:Nat),aK f (l.take k)≤aK f l
 |[],k=>by simp [aK]
 |x::l,0=>by simp [aK]
 |x::l,k+1=>by have:=xY f l k;simp only [List.take_succ_cons,aK];omega
theorem aRs (b:aX) (n:Int) (k:Nat):(aC0 b n k).length≤aU b:=by
 have h1:=aZn n (b.nodes.take k) []
 have h2:=xY nU b.nodes k
 unfold aC0
 simp only [aU,szL,List.length_nil] at *;omega
theorem aW2 (b:aX) (n:Int):(textOf b n).length≤aU b:=by
 have:=aRs b n b.nodes.length
 unfold aC0 at this
 rwa [List.take_length] at this
theorem aQl [aB Tryz.prog] (b:aX) (n:Int) (hs:aU b≤1099511627776):Ok Tryz.prog 142 [.agg (aZ .view b),.int .i64 n] (.str (textOf b n)):=by
 have hN:b.nodes.length≤1099511627776:=by simp only [aU,szL] at hs;omega
 have hend:aC0 b n b.nodes.length=textOf b n:=by unfold aC0 textOf;rw [List.take_length]
 rw [←hend]
 have hz:aC0 b n 0=[]:=rfl
 have hln:=fun k=>aRs b n k
 have hsu:=bBh b n
 generalize aC0 b n=T at *
 clear hend
 refine ent Tryz.mix Tryz.func142 Tryz.ntmps142 ?_
 refine bA ?_
 refine aR (ι:={k:Nat // k≤b.nodes.length}) (fun t o i=>⟨aS t [(6,.int .i64 i.1),(5,.str (T i.1))],o⟩)
  (fun i=>b.nodes.length - i.1) ⟨0,by simp⟩ (aO (by simp) (by simp [hz])) ?_
 rintro ⟨k,hk⟩ K1 hK1
 simp only [aS,List.set_cons_succ,List.set_cons_zero] at hK1⊢
 have hk1:=wk1 (k:=k) (by omega)
 by_cases hlt:k < b.nodes.length
 ·have hg:=List.getElem?_eq_getElem hlt
  have hnext:=hsu k hlt
  have hl1:=hln (k+1)
  have hl0:=hln k
  rw [hnext] at hl1
  unfold zS at hnext hl1
  clear hsu hln hz
  generalize hT:T k=s at *
  by_cases hp:b.nodes[k].parent=n
  ·by_cases hn:b.nodes[k].name=[]
   ·rw [if_pos ⟨hp,hn⟩] at hnext hl1
    rw [List.length_append] at hl1
    have hsum:s.length+b.nodes[k].text.length≤1099511627776:=by omega
    have W:=And.intro hk1 (And.intro hg (And.intro hlt (And.intro hp (And.intro hn hsum))))
    refine wl ?_
    all_goals refine hK1 _ ⟨k+1,by omega⟩ (aO (by simp) (by simp [hnext])) (by simp only;omega)
   ·rw [if_neg (by simp [hn])] at hnext hl1
    have hne:b.nodes[k].name.isEmpty=false:=by cases hc:b.nodes[k].name with|nil=>exact absurd hc hn|cons _ _=>rfl
    have W:=And.intro hk1 (And.intro hg (And.intro hlt (And.intro hp (And.intro hn hne))))
    refine wl ?_
    all_goals refine hK1 _ ⟨k+1,by omega⟩ (aO (by simp) (by simp [hnext])) (by simp only;omega)
  ·rw [if_neg (by simp [hp])] at hnext hl1
   have W:=And.intro hk1 (And.intro hg (And.intro hlt hp))
   refine wl ?_
   all_goals refine hK1 _ ⟨k+1,by omega⟩ (aO (by simp) (by simp [hnext])) (by simp only;omega)
 ·have hkl:k=b.nodes.length:=by omega
  subst hkl
  have W:=hk1
  refine wl ?_
  exact aM Tryz.results142
def stepBlock (p:aC) (k:Int):aC×Bool:=
 if 0≤k then match p.slots[k.toNat]? with
  |some s=>if s.done=true∧p.slots.all qJ=true then ({(if s.code=1 then kY p s.body true else p) with block:=0},true) else (p,false)
  |none=>({p with block:=0},true)
 else ({p with block:=0},true)
def lM (p:aC):aC×Bool:=
 if p.inline≠0 then (if p.slots.all qJ=true then ({kY p (textOf p.builder p.inline) true with inline:=0},true) else (p,false))
 else if p.block≠0 then stepBlock p (IntKind.i64.wrap (p.block - 1))
 else lF p
theorem aR1 {α:Type} (f:α→Nat):∀{l:List α} {x:α},x∈l→f x≤aK f l
 |y::l,x,h=>by
  rcases List.mem_cons.1 h with rfl|h
  ·simp only [aK];omega
  ·have:=aR1 f h;simp only [aK];omega
theorem aD8 [aB Tryz.prog] (p:aC) (s:Str) (hs:p.log.length≤1099511627776):OkG Tryz.prog 148 [.give (.agg (aG .own p)),.view (.str s)] (.agg (aG .own {p with log:=iL p.log s})):=by
 by_cases h:p.log.length < 40
 ·have hi:(p.log.length:Int) < 40:=by omega
  obtain ⟨l1,hl1⟩:∃l,l=p.log++[s]:=⟨_,rfl⟩
  have hap:p.log.map bX++[[.str s]]=l1.map bX:=by rw [hl1];simp
  have e:iL p.log s=l1:=by unfold iL;rw [if_pos h,hl1]
  rw [e]
  clear e hl1
  refine qD Tryz.mix Tryz.func148 Tryz.ntmps148 ?_
  have W:=And.intro hi (And.intro hap hs)
  refine we ?_
  all_goals (try (refine ⟨by first|exact .inr rfl|exact .inl rfl,?_⟩;simp [iM,fB,eH,rowOf,Tryz.results148]))
 ·have hi:¬(p.log.length:Int) < 40:=by omega
  have e:iL p.log s=p.log:=by unfold iL;rw [if_neg h]
  rw [e]
  clear e
  refine qD Tryz.mix Tryz.func148 Tryz.ntmps148 ?_
  have W:=hi
  refine we ?_
  all_goals (try (refine ⟨by first|exact .inr rfl|exact .inl rfl,?_⟩;simp [iM,fB,eH,rowOf,Tryz.results148]))
theorem aH9 [aB Tryz.prog] (a:aD) (hl:aI a≤1099511627776):Ok Tryz.prog 179 [.agg (aF a)] (.str (oV a)):=by
 have c1:=sQ a (by omega)
 simp only [aI] at hl
 have f1:a.host.length≤9223372036854775806:=by omega
 have f2:a.host.length+1≤9223372036854775807:=by omega
 have f3:a.host.length+1+a.path.length≤9223372036854775807:=by omega
 have f4:a.host.length+(a.path.length+1)≤9223372036854775807:=by omega
 refine ent Tryz.mix Tryz.func179 Tryz.ntmps179 ?_
 have W:=And.intro f1 (And.intro f2 (And.intro f3 f4))
 repeat' first|refine st ?_|(refine nx ?_;refine so ?_)|(refine cx ?_;refine sc (fun hc=>?_) (fun hc=>?_)<;>try exact hc.elim)|(refine lx ?_;refine sp (fun hc=>?_) (fun hc=>?_)<;>try exact hc.elim)|refine sx ?_ ?_|refine sy ?_ ?_|fail
 all_goals (try (refine ⟨.inr rfl,?_⟩;simp [Hands,Tryz.results179,oV]))
 all_goals simp_all [oV]
theorem aDh (a:aD):(oV a).length≤17:=by
 unfold oV
 split
 ·rename_i h
  simp [nT,bU] at h
  simp
  omega
 ·simp
def tH:Str:=[105,109,112,111,114,116,32]
def kJ (base:Str):List Str→Option (List aD×List Str)
 |[]=>some ([],[])
 |p::ps=>if pfx tH p=true then (if (bO (p.drop 7) base).2=true then (kJ base ps).map (fun q=>((bO (p.drop 7) base).1::q.1,q.2)) else none) else some ([],p::ps)
def bK (body base:Str):List aD×List iG×Bool:=
 match kJ base (bF 59 body) with
 |none=>([],[],false)
 |some (l,r)=>if (gH (Lib.join r [59])).2=true then (l,(gH (Lib.join r [59])).1,true) else ([],[],false)
def sS (base:Str) (l:List Str) (acc:List aD) (r:List Str):Prop:=kJ base l=(kJ base r).map fun q=>(acc++q.1,q.2)
theorem aR7 (base:Str) (l:List Str):sS base l [] l:=by
 unfold sS
 cases kJ base l<;>simp
theorem aYt {base:Str} {l:List Str} {acc:List aD} {p:Str} {ps:List Str} (h:sS base l acc (p::ps)) (h1:pfx tH p=true) (h2:(bO (p.drop 7) base).2=false):kJ base l=none:=by
 unfold sS at h
 rw [h]
 simp [kJ,h1,h2]
theorem aUa {base:Str} {l:List Str} {acc:List aD} {p:Str} {ps:List Str} (h:sS base l acc (p::ps)) (h1:pfx tH p=true) (h2:(bO (p.drop 7) base).2=true):sS base l (acc++[(bO (p.drop 7) base).1]) ps:=by
 unfold sS at h⊢
 rw [h]
 simp only [kJ,h1,h2,if_true]
 cases kJ base ps<;>simp
theorem aYm {base:Str} {l:List Str} {acc:List aD} (h:sS base l acc []):kJ base l=some (acc,[]):=by
 unfold sS at h
 rw [h]
 simp [kJ]
theorem aT9 {base:Str} {l:List Str} {acc:List aD} {p:Str} {ps:List Str} (h:sS base l acc (p::ps)) (h1:pfx tH p=false):kJ base l=some (acc,p::ps):=by
 unfold sS at h
 rw [h]
 simp [kJ,h1]
theorem aOs (c:UInt8):∀s:Str,Lib.join (bF c s) [c]=s
 |[]=>by simp [bF,Lib.join_one]
 |x::s=>by
  have ih:=aOs c s
  simp only [bF]
  split
  ·rename_i h
   subst h
   cases hs:bF x s with
   |nil=>exact absurd hs (pR x s)
   |cons p r=>
    rw [hs] at ih
    simp only [Lib.join,List.intercalate] at ih⊢
    simp only [List.intersperse,List.flatten_cons,List.nil_append,List.singleton_append] at ih⊢
    rw [ih]
  ·split
   ·rename_i h0;exact absurd h0 (pR c s)
   ·rename_i p r h0
    rw [h0] at ih
    simp only [Lib.join,List.intercalate] at ih⊢
    cases r with
    |nil=>simp only [List.intersperse,List.flatten_cons,List.flatten_nil,List.append_nil] at ih⊢;rw [ih]
    |cons q r=>simp only [List.intersperse,List.flatten_cons,List.cons_append] at ih⊢;rw [ih]
theorem aMh (c:UInt8) (s:Str):bF c s=s.take (ixB c s)::(if ixB c s < s.length then bF c (s.drop (ixB c s+1)) else []):=by
 rw [aGo]
 have h:=oU c s
 split
 ·rfl
 ·rw [List.take_of_length_le (by omega)]
theorem bB3 {p s:Str} {k:Nat} (h:pfx p (s.take k)=true):pfx p s=true:=by
 simp only [pfx,Bool.and_eq_true,decide_eq_true_eq,beq_iff_eq,List.take_take,List.length_take] at h⊢
 obtain ⟨h1,h2⟩:=h
 rw [Nat.min_eq_left (by omega)] at h2
 exact ⟨by omega,h2⟩
theorem bAc {s:Str} (h:pfx tH s=true):7≤ixB 59 s:=by
 simp only [pfx,Bool.and_eq_true,decide_eq_true_eq,beq_iff_eq] at h
 obtain ⟨h1,h2⟩:=h
 have h3:s=tH++s.drop 7:=by
  have:=List.take_append_drop 7 s
  rw [show tH.length=7 from rfl] at h2
  rw [h2] at this;exact this.symm
 rw [h3,aEa 59 tH _ (by decide)]
 simp [tH]
theorem aZx {s:Str} (h:pfx tH s=true):pfx tH (s.take (ixB 59 s))=true:=by
 have h7:=bAc h
 have hle:=oU 59 s
 simp only [pfx,Bool.and_eq_true,decide_eq_true_eq,beq_iff_eq,List.take_take,List.length_take,show tH.length=7 from rfl] at h⊢
 rw [Nat.min_eq_left h7]
 exact ⟨by omega,h.2⟩
theorem uL [aB Tryz.prog] [dB Tryz.prog] (body base:Str) (hl:body.length≤1073741824) (hb:base.length≤1073741824):Ok Tryz.prog 180 [.str body,.str base] (.tup [.sl .own 2 ((bK body base).1.map aF),.sl .own 2 ((bK body base).2.1.map mM),.bool (bK body base).2.2]):=by
 have hst:=aR7 base (bF 59 body)
 have hn:=jO 59 body
 have hcn:body.count 59≤body.length:=List.count_le_length
 have hll:(bF 59 body).length≤1073741825:=by omega
 have hres:∀acc r,kJ base (bF 59 body)=some (acc,r)→∀ls ok,gH (Lib.join r [59])=(ls,ok)→bK body base=if ok=true then (acc,ls,true) else ([],[],false):=by
  intro acc r h1 ls ok h2
  unfold bK
  rw [h1]
  simp only [h2]
 have hnone:kJ base (bF 59 body)=none→bK body base=([],[],false):=by
  intro h1
  unfold bK
  rw [h1]
 generalize bK body base=g at *
 have hi0:bF 59 body=bF 59 body∨(bF 59 body=[]∧body=[]):= .inl rfl
 generalize hL:bF 59 body=l at hst hn hll hres hnone hi0
 refine ent Tryz.mix Tryz.func180 Tryz.ntmps180 ?_
 refine aW ?_
 refine aR (ι:={q:Str×List Str×List aD×Nat // (q.1.length≤body.length∧1≤q.2.2.2)∧(q.2.1=bF 59 q.1∨(q.2.1=[]∧q.1=[]))∧q.2.2.1.length+q.2.1.length≤l.length∧sS base l q.2.2.1 q.2.1}) (fun t o i=>⟨aS t [(8,.str i.1.1),(7,.obj 0 i.1.2.2.2),(9,.undef),(10,.undef),(11,.undef)],[⟨true,false,2,i.1.2.2.2,i.1.2.2.1.map aF⟩]⟩)
  (fun i=>i.1.2.1.length) ⟨(body,l,[],1),by simp,.inl hL.symm,by simp,hst⟩ aO ?_
 rintro ⟨⟨rest,parts,acc,v⟩,⟨hrl,hv⟩,hparts,hac,hgo⟩ K1 hK1
 simp only at hrl hv hparts hac hgo
 simp only [aS,List.set_cons_succ,List.set_cons_zero] at hK1⊢
 have hjoin:Lib.join parts [59]=rest:=by
  rcases hparts with rfl|⟨rfl,rfl⟩
  ·exact aOs 59 rest
  ·rfl
 cases hp:pfx tH rest with
 |false=>
  have hs:kJ base l=some (acc,parts):=by
   rcases hparts with rfl|⟨rfl,rfl⟩
   ·rw [aMh] at hgo⊢
    refine aT9 hgo ?_
    cases h:pfx tH (rest.take (ixB 59 rest)) with
    |false=>rfl
    |true=>rw [bB3 h] at hp;cases hp
   ·exact aYm hgo
  have hr:=hres _ _ hs
  rw [hjoin] at hr
  have cP:=zR rest (by omega)
  generalize gH rest=q at *
  obtain ⟨ls,ok⟩:=q
  have hr:=hr ls ok rfl
  subst hr
  simp only at cP
  clear hK1 hs hres hnone hgo
  by_cases h7:(7:Int)≤(rest.length:Int)
  ·have he:(rest.take 7 == ([105,109,112,111,114,116,32]:Str))=false:=by
    simp only [pfx,show tH.length=7 from rfl,Bool.and_eq_false_iff,decide_eq_false_iff_not] at hp
    rcases hp with hp|hp
    ·omega
    ·exact hp
   clear hp
   cases ok
   ·simp only [Bool.false_eq_true,if_false]
    have W:=And.intro h7 he
    refine we ?_
    exact aM Tryz.results180
   ·simp only [if_true]
    have W:=And.intro h7 he
    refine we ?_
    exact aM Tryz.results180
  ·clear hp
   cases ok
   ·simp only [Bool.false_eq_true,if_false]
    have W:=h7
    refine we ?_
    exact aM Tryz.results180
   ·simp only [if_true]
    have W:=h7
    refine we ?_
    exact aM Tryz.results180
 |true=>
  have h7n:=aLi hp
  have h7:(7:Int)≤(rest.length:Int):=by simp only [show tH.length=7 from rfl] at h7n;omega
  have he:(rest.take 7 == ([105,109,112,111,114,116,32]:Str))=true:=by
   simp only [pfx,show tH.length=7 from rfl,Bool.and_eq_true] at hp
   exact hp.2
  have hpt:=aZx hp
  have hix:=bAc hp
  have hxl:=oU 59 rest
  have hsg:parts=bF 59 rest:=by
   rcases hparts with h|⟨_,h⟩
   ·exact h
   ·subst h;simp at h7
  rw [aMh] at hsg
  have cI:Ok Tryz.prog 72 [.str rest,.int .u8 59] (.int .i64 (ixB 59 rest:Nat)):=aEl rest 59 (by omega)
  generalize ixB 59 rest=k at *
  subst hsg
  have c2:=pV ((rest.take k).drop 7) base (by simp;omega)
  simp only [aF] at c2
  have hbad:=aYt hgo hpt
  have hnext:=aUa hgo hpt
  have cM:=bHg (rest.length:Int) ((k:Int)+1)
  have hk7:(7:Int)≤(k:Int):=by omega
  have hkl:(k:Int)≤(rest.length:Int):=by omega
  generalize bO ((rest.take k).drop 7) base=pa at *
  obtain ⟨a,ok⟩:=pa
  simp only at c2 hbad hnext
  clear hp hpt
  cases ok with
  |false=>
   have hr:=hnone (hbad rfl)
   subst hr
   clear hK1
   have W:=And.intro h7 (And.intro he (And.intro hk7 hkl))
   refine we ?_
   exact aM Tryz.results180
  |true=>
   by_cases hkk:k < rest.length
   ·have hm:min (rest.length:Int) ((k:Int)+1)=((k+1:Nat):Int):=by omega
    rw [hm] at cM
    have hk1:=wk1 (k:=k) (by omega)
    rw [if_pos hkk] at hnext hac
    have W:=And.intro h7 (And.intro he (And.intro hk7 (And.intro hkl hk1)))
    refine we ?_
    all_goals exact hK1 _ ⟨(rest.drop (k+1),bF 59 (rest.drop (k+1)),acc++[a],v+1),⟨by simp;omega,by simp only;omega⟩,.inl rfl,by simp at hac⊢;omega,hnext rfl⟩ (aN 1) (by simp [if_pos hkk])
   ·have hm:min (rest.length:Int) ((k:Int)+1)=(rest.length:Int):=by omega
    rw [hm] at cM
    rw [if_neg hkk] at hnext hac
    have W:=And.intro h7 (And.intro he (And.intro hk7 hkl))
    refine we ?_
    all_goals exact hK1 _ ⟨([],[],acc++[a],v+1),⟨by simp,by simp only;omega⟩,.inr ⟨rfl,rfl⟩,by simp at hac⊢;omega,hnext rfl⟩ (aN 1) (by simp)
end Go.Proofs.YtaddkhdghlaalaaGreatDoor
