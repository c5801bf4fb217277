/-
  Proved here: steps towards the statement of this claim, text QN1.
  No condition beyond what each statement spells out.
-/
import Derived.Test.YtaddkhdghlaalaaGreatDoorQMK1
import Derived.Test.YtaddkhdghlaalaaGreatDoorF3
import Derived.Test.YtaddkhdghlaalaaGreatDoorF6
import Derived.Test.YtaddkhdghlaalaaGreatDoorQD1
import Derived.Test.YtaddkhdghlaalaaGreatDoorQ2
import Derived.Test.YtaddkhdghlaalaaGreatDoorQRLsd
import Derived.Test.YtaddkhdghlaalaaGreatDoorQR7
set_option linter.all false
set_option maxRecDepth 4000
set_option maxHeartbeats 4000000
namespace Go.Proofs.YtaddkhdghlaalaaGreatDoor
open Go.Aw
def places {α:Type} (f:α→Bool):Nat→List α→List Int
 |_,[]=>[]
 |i,x::xs=>if f x then (i:Int)::places f (i+1) xs else places f (i+1) xs
theorem aIs {α:Type} (f:α→Bool) (x:α):∀(l:List α) (i:Nat),places f i (l++[x])=places f i l++(if f x then [((i+l.length:Nat):Int)] else [])
 |[],i=>by simp only [List.nil_append,places];cases f x<;>simp
 |y::ys,i=>by
  simp only [List.cons_append,places]
  rw [aIs f x ys (i+1)]
  have:i+1+ys.length=i+(y::ys).length:=by simp;omega
  rw [this]
  cases f y<;>simp
theorem aDd {α:Type} (f:α→Bool) (l:List α) (k:Nat) (h:k < l.length):places f 0 (l.take (k+1))=places f 0 (l.take k)++(if f l[k] then [(k:Int)] else []):=by
 rw [List.take_succ_eq_append_getElem h,aIs]
 have:(l.take k).length=k:=by simp;omega
 rw [this,Nat.zero_add]
theorem oK {α:Type} (f:α→Bool):∀(l:List α) (i:Nat),(places f i l).length≤l.length
 |[],_=>by simp [places]
 |x::xs,i=>by
  simp only [places]
  have:=oK f xs (i+1)
  cases f x<;>simp<;>omega
def sH (s:iK):Bool:= !s.done
def sM (s:dR):Bool:= !s.done
def mY (s:iK):Bool:=s.mode == 4
theorem aA8 [aB Tryz.prog] (p:aC) (hl:p.slots.length≤16777216):Ok Tryz.prog 111 [.agg (aG .view p)] (.sl .own 1 ((places sH 0 p.slots).map jI)):=by
 refine ent Tryz.mix Tryz.func111 Tryz.ntmps111 ?_
 refine bA ?_
 refine aR (ι:={q:Nat×Nat // q.1≤p.slots.length∧1≤q.2}) (fun t o i=>⟨aS t [(3,.obj 1 i.1.2),(4,.int .i64 i.1.1)],o.take 1++[⟨true,false,1,i.1.2,(places sH 0 (p.slots.take i.1.1)).map jI⟩]⟩)
  (fun i=>p.slots.length - i.1.1) ⟨(0,1),by simp,by simp⟩ (aO (by simp [places]) (by simp)) ?_
 rintro ⟨⟨k,v⟩,hk,hv⟩ K1 hK1
 simp only at hk hv
 simp only [aS,List.set_cons_succ,List.set_cons_zero,List.take_succ_cons,List.take_zero,List.cons_append,List.nil_append] at hK1⊢
 have hk1:=wk1 (k:=k) (by omega)
 by_cases hlt:k < p.slots.length
 ·have hg:=List.getElem?_eq_getElem hlt
  have hps:=aDd sH p.slots k hlt
  have hpl:=oK sH (p.slots.take k) 0
  have htl:(p.slots.take k).length=k:=by simp;omega
  have hb1:((places sH 0 (p.slots.take k)).length+1) * 8≤140737488355328:=by omega
  have hb2:(places sH 0 (p.slots.take k)).length+1≤9223372036854775807:=by omega
  have hb3:(places sH 0 (p.slots.take k)).length≤9223372036854775806:=by omega
  have W:=And.intro hk1 (And.intro hg (And.intro hlt (And.intro hb1 (And.intro hb2 hb3))))
  repeat' first|refine st ?_|(refine nx ?_;refine so ?_)|(refine cx ?_;refine sc (fun hc=>?_) (fun hc=>?_)<;>try exact hc.elim)|(refine lx ?_;refine sp (fun hc=>?_) (fun hc=>?_)<;>try exact hc.elim)|refine sx ?_ ?_|refine sy ?_ ?_|fail
  ·refine hK1 _ ⟨(k+1,v+1),by simp only;omega,by simp only;omega⟩ (aN 2 (by simp [hps,sH,hc])) (by simp only;omega)
  ·refine hK1 _ ⟨(k+1,v),by simp only;omega,hv⟩ (aN 2 (by simp [hps,sH,hc])) (by simp only;omega)
 ·have htk:p.slots.take k=p.slots:=List.take_of_length_le (by omega)
  rw [htk]
  have W:=hk1
  refine wl ?_
  exact aM Tryz.results111
theorem aB4 [aB Tryz.prog] (p:aC) (hl:p.mods.length≤16777216):Ok Tryz.prog 113 [.agg (aG .view p)] (.sl .own 1 ((places sM 0 p.mods).map jI)):=by
 refine ent Tryz.mix Tryz.func113 Tryz.ntmps113 ?_
 refine bA ?_
 refine aR (ι:={q:Nat×Nat // q.1≤p.mods.length∧1≤q.2}) (fun t o i=>⟨aS t [(3,.obj 1 i.1.2),(4,.int .i64 i.1.1)],o.take 1++[⟨true,false,1,i.1.2,(places sM 0 (p.mods.take i.1.1)).map jI⟩]⟩)
  (fun i=>p.mods.length - i.1.1) ⟨(0,1),by simp,by simp⟩ (aO (by simp [places]) (by simp)) ?_
 rintro ⟨⟨k,v⟩,hk,hv⟩ K1 hK1
 simp only at hk hv
 simp only [aS,List.set_cons_succ,List.set_cons_zero,List.take_succ_cons,List.take_zero,List.cons_append,List.nil_append] at hK1⊢
 have hk1:=wk1 (k:=k) (by omega)
 by_cases hlt:k < p.mods.length
 ·have hg:=List.getElem?_eq_getElem hlt
  have hps:=aDd sM p.mods k hlt
  have hpl:=oK sM (p.mods.take k) 0
  have htl:(p.mods.take k).length=k:=by simp;omega
  have hb1:((places sM 0 (p.mods.take k)).length+1) * 8≤140737488355328:=by omega
  have hb2:(places sM 0 (p.mods.take k)).length+1≤9223372036854775807:=by omega
  have hb3:(places sM 0 (p.mods.take k)).length≤9223372036854775806:=by omega
  have W:=And.intro hk1 (And.intro hg (And.intro hlt (And.intro hb1 (And.intro hb2 hb3))))
  repeat' first|refine st ?_|(refine nx ?_;refine so ?_)|(refine cx ?_;refine sc (fun hc=>?_) (fun hc=>?_)<;>try exact hc.elim)|(refine lx ?_;refine sp (fun hc=>?_) (fun hc=>?_)<;>try exact hc.elim)|refine sx ?_ ?_|refine sy ?_ ?_|fail
  ·refine hK1 _ ⟨(k+1,v+1),by simp only;omega,by simp only;omega⟩ (aN 2 (by simp [hps,sM,hc])) (by simp only;omega)
  ·refine hK1 _ ⟨(k+1,v),by simp only;omega,hv⟩ (aN 2 (by simp [hps,sM,hc])) (by simp only;omega)
 ·have htk:p.mods.take k=p.mods:=List.take_of_length_le (by omega)
  rw [htk]
  have W:=hk1
  refine wl ?_
  exact aM Tryz.results113
theorem aEg [aB Tryz.prog] (p:aC) (hl:p.slots.length≤16777216):Ok Tryz.prog 145 [.agg (aG .view p)] (.sl .own 1 ((places mY 0 p.slots).map jI)):=by
 refine ent Tryz.mix Tryz.func145 Tryz.ntmps145 ?_
 refine bA ?_
 refine aR (ι:={q:Nat×Nat // q.1≤p.slots.length∧1≤q.2}) (fun t o i=>⟨aS t [(3,.obj 1 i.1.2),(4,.int .i64 i.1.1)],o.take 1++[⟨true,false,1,i.1.2,(places mY 0 (p.slots.take i.1.1)).map jI⟩]⟩)
  (fun i=>p.slots.length - i.1.1) ⟨(0,1),by simp,by simp⟩ (aO (by simp [places]) (by simp)) ?_
 rintro ⟨⟨k,v⟩,hk,hv⟩ K1 hK1
 simp only at hk hv
 simp only [aS,List.set_cons_succ,List.set_cons_zero,List.take_succ_cons,List.take_zero,List.cons_append,List.nil_append] at hK1⊢
 have hk1:=wk1 (k:=k) (by omega)
 by_cases hlt:k < p.slots.length
 ·have hg:=List.getElem?_eq_getElem hlt
  have hps:=aDd mY p.slots k hlt
  have hpl:=oK mY (p.slots.take k) 0
  have htl:(p.slots.take k).length=k:=by simp;omega
  have hb1:((places mY 0 (p.slots.take k)).length+1) * 8≤140737488355328:=by omega
  have hb2:(places mY 0 (p.slots.take k)).length+1≤9223372036854775807:=by omega
  have hb3:(places mY 0 (p.slots.take k)).length≤9223372036854775806:=by omega
  have W:=And.intro hk1 (And.intro hg (And.intro hlt (And.intro hb1 (And.intro hb2 hb3))))
  repeat' first|refine st ?_|(refine nx ?_;refine so ?_)|(refine cx ?_;refine sc (fun hc=>?_) (fun hc=>?_)<;>try exact hc.elim)|(refine lx ?_;refine sp (fun hc=>?_) (fun hc=>?_)<;>try exact hc.elim)|refine sx ?_ ?_|refine sy ?_ ?_|fail
  ·refine hK1 _ ⟨(k+1,v+1),by simp only;omega,by simp only;omega⟩ (aN 2 (by simp [hps,mY,hc])) (by simp only;omega)
  ·refine hK1 _ ⟨(k+1,v),by simp only;omega,hv⟩ (aN 2 (by simp [hps,mY,hc])) (by simp only;omega)
 ·have htk:p.slots.take k=p.slots:=List.take_of_length_le (by omega)
  rw [htk]
  have W:=hk1
  refine wl ?_
  exact aM Tryz.results145
theorem aEs {α:Type} (f:α→Bool):∀(l:List α) (j:Nat) (i:Int),i∈places f j l→(j:Int)≤i∧i < j+l.length
 |[],j,i,h=>by simp [places] at h
 |x::xs,j,i,h=>by
  simp only [places] at h
  have ih:=aEs f xs (j+1) i
  simp only [List.length_cons]
  split at h
  ·rcases List.mem_cons.1 h with rfl|h
   ·omega
   ·have:=ih h;omega
  ·have:=ih h;omega
def gY (m:Int):Int:=if m=1 then 4 else if m=2 then 3 else if m=3 then 2 else if m=4 then 2 else 0
theorem aAn [aB Tryz.prog] (m:Int):Ok Tryz.prog 149 [.int .i64 m] (.int .i64 (gY m)):=by
 refine ent Tryz.mix Tryz.func149 Tryz.ntmps149 ?_
 have W:=trivial
 repeat' first|refine st ?_|(refine nx ?_;refine so ?_)|(refine cx ?_;refine sc (fun hc=>?_) (fun hc=>?_)<;>try exact hc.elim)|(refine lx ?_;refine sp (fun hc=>?_) (fun hc=>?_)<;>try exact hc.elim)|refine sx ?_ ?_|refine sy ?_ ?_|fail
 all_goals (try (refine ⟨.inr rfl,?_⟩;simp [Hands,Tryz.results149,gY]))
 all_goals simp_all [gY]
def aQq:dA:=⟨0,⟨[],[]⟩,[],[]⟩
def iN (p:aC) (s:iK):dA:=⟨gY s.mode,s.to,p.addr.host,s.digest⟩
def iE (p:aC) (m:dR):dA:=⟨5,m.to,p.addr.host,[]⟩
def mQ (p:aC) (i:Int):dA:=match p.slots[i.toNat]? with
 |some s=>iN p s
 |none=>aQq
def tQ (p:aC) (i:Int):dA:=match p.mods[i.toNat]? with
 |some s=>iE p s
 |none=>aQq
theorem yH {α:Type} {l:List α} {i:Int} (h0:0≤i) (h1:i < l.length):∃s,l[i.toNat]? =some s:=⟨l[i.toNat]'(by omega),List.getElem?_eq_getElem _⟩
theorem at_eq {α:Type} {l:List α} {k:Nat} {s:α} (h:k < l.length) (hg:l[k]? =some s):l[k]=s:=by
 rw [List.getElem?_eq_getElem h] at hg
 exact Option.some.inj hg
theorem tO [aB Tryz.prog] (p:aC) (i:Int) (h0:0≤i) (h1:i < p.slots.length) (hl:p.slots.length≤1099511627776):Ok Tryz.prog 112 [.agg (aG .view p),.int .i64 i] (.agg (bT (mQ p i))):=by
 obtain ⟨s,hg⟩:=yH h0 h1
 have e:mQ p i=iN p s:=by simp [mQ,hg]
 rw [e]
 obtain rfl:p.slots[i.toNat]'(by omega)=s:=at_eq (by omega) hg
 have c1:=eQ i 0 (p.slots.length - 1)
 rw [show (decide (0≤i)&&decide (i≤(p.slots.length:Int) - 1))=true by simp;omega] at c1
 have c2:=aAn (p.slots[i.toNat]'(by omega)).mode
 refine ent Tryz.mix Tryz.func112 Tryz.ntmps112 ?_
 have W:=And.intro hg (And.intro h0 h1)
 refine wl ?_
 all_goals (try (refine ⟨.inr rfl,?_⟩;simp [Hands,Tryz.results112,iN]))
theorem aAp [aB Tryz.prog] (p:aC) (i:Int) (h0:0≤i) (h1:i < p.mods.length) (hl:p.mods.length≤1099511627776):Ok Tryz.prog 114 [.agg (aG .view p),.int .i64 i] (.agg (bT (tQ p i))):=by
 obtain ⟨s,hg⟩:=yH h0 h1
 have e:tQ p i=iE p s:=by simp [tQ,hg]
 rw [e]
 obtain rfl:p.mods[i.toNat]'(by omega)=s:=at_eq (by omega) hg
 have c1:=eQ i 0 (p.mods.length - 1)
 rw [show (decide (0≤i)&&decide (i≤(p.mods.length:Int) - 1))=true by simp;omega] at c1
 refine ent Tryz.mix Tryz.func114 Tryz.ntmps114 ?_
 have W:=And.intro hg (And.intro h0 h1)
 refine wl ?_
 all_goals (try (refine ⟨.inr rfl,?_⟩;simp [Hands,Tryz.results114,iE]))
theorem aKl (p:dU) (r:dA):eY p r=1∨eY p r=2:=by
 unfold eY;split<;>simp
def fP (p:aC) (mode:Int) (tu digest:Str) (node:Int):aC×Int:=
 if 20≤p.slots.length∨gY mode=0 then (p, -1)
 else if (bO tu p.addr.host).2=false∨eY p.policy ⟨gY mode,(bO tu p.addr.host).1,p.addr.host,digest⟩≠1 then
  ({p with slots:=p.slots++[(⟨mode,(bO tu p.addr.host).1,digest,node,true,2,[]⟩:iK)]},((p.slots.length:Nat):Int))
 else ({p with slots:=p.slots++[(⟨mode,(bO tu p.addr.host).1,digest,node,false,0,[]⟩:iK)]},((p.slots.length:Nat):Int))
theorem aHa {p:aC} {mode:Int} {tu digest:Str} {node:Int} (h:20≤p.slots.length∨gY mode=0):fP p mode tu digest node=(p, -1):=by unfold fP;rw [if_pos h]
theorem aUq {p:aC} {mode:Int} {tu digest:Str} {node:Int} (h:¬(20≤p.slots.length∨gY mode=0)) (h2:(bO tu p.addr.host).2=false∨eY p.policy ⟨gY mode,(bO tu p.addr.host).1,p.addr.host,digest⟩≠1):
  fP p mode tu digest node=({p with slots:=p.slots++[(⟨mode,(bO tu p.addr.host).1,digest,node,true,2,[]⟩:iK)]},((p.slots.length:Nat):Int)):=by unfold fP;rw [if_neg h,if_pos h2]
theorem aRw {p:aC} {mode:Int} {tu digest:Str} {node:Int} (h:¬(20≤p.slots.length∨gY mode=0)) (h1:(bO tu p.addr.host).2=true) (h2:eY p.policy ⟨gY mode,(bO tu p.addr.host).1,p.addr.host,digest⟩=1):
  fP p mode tu digest node=({p with slots:=p.slots++[(⟨mode,(bO tu p.addr.host).1,digest,node,false,0,[]⟩:iK)]},((p.slots.length:Nat):Int)):=by
 unfold fP;rw [if_neg h,if_neg (by rintro (h3|h3);rw [h1] at h3;cases h3;exact h3 h2)]
theorem uO [aB Tryz.prog] (p:aC) (mode:Int) (tu digest:Str) (node:Int) (hs:aJ p≤274877906944) (hto:tu.length≤274877906944) (hd:digest.length≤274877906944):Ok Tryz.prog 195 [.agg (aG .view p),.int .i64 mode,.str tu,.str digest,.int .i64 node] (.tup [.agg (aG .own (fP p mode tu digest node).1),.int .i64 (fP p mode tu digest node).2]):=by
 have c1:=fH p hs
 simp only [aG] at c1
 have hsl:p.addr.host.length≤274877906944:=by simp only [aJ,aI] at hs;omega
 have hpol:dX p.policy≤1099511627776:=by simp only [aJ] at hs;omega
 have hsn:p.slots.length≤274877906944:=by simp only [aJ,szL] at hs;omega
 have c2:=aAn mode
 have c3:=pV tu p.addr.host (by omega)
 by_cases h20:(20:Int)≤(p.slots.length:Int)
 ·rw [aHa (.inl (by omega))]
  refine ent Tryz.mix Tryz.func195 Tryz.ntmps195 ?_
  have W:=h20
  refine we ?_
  exact aM Tryz.results195
 by_cases hk:gY mode=0
 ·rw [aHa (.inr hk)]
  rw [hk] at c2
  refine ent Tryz.mix Tryz.func195 Tryz.ntmps195 ?_
  have W:=h20
  refine we ?_
  exact aM Tryz.results195
 have hno:¬(20≤p.slots.length∨gY mode=0):=by rintro (h|h);omega;exact hk h
 have hsz:=aFx tu p.addr.host
 have hbad:=aUq (tu:=tu) (digest:=digest) (node:=node) hno
 have hgood:=aRw (tu:=tu) (digest:=digest) (node:=node) hno
 have c5:=qC p.policy ⟨gY mode,(bO tu p.addr.host).1,p.addr.host,digest⟩ hpol (by simp only [fE];omega)
 have h12:=aKl p.policy ⟨gY mode,(bO tu p.addr.host).1,p.addr.host,digest⟩
 have c4:=fun l' hl' hl2=>tO {p with slots:=l'} (p.slots.length:Int) (by omega) hl' hl2
 have hr:∀s,mQ {p with slots:=p.slots++[s]} (p.slots.length:Int)=⟨gY s.mode,s.to,p.addr.host,s.digest⟩:=fun s=>by simp [mQ,iN]
 generalize hkm:gY mode=km at *
 generalize bO tu p.addr.host=pa at *
 obtain ⟨a,ok⟩:=pa
 simp only at c3 c5 h12 hsz hbad hgood
 obtain ⟨s0,hs0⟩:∃s:iK,s=⟨mode,a,digest,node,false,0,[]⟩:=⟨_,rfl⟩
 obtain ⟨l0,hl0⟩:∃l,l=p.slots++[s0]:=⟨_,rfl⟩
 obtain ⟨l3,hl3⟩:∃l:List iK,l=p.slots++[⟨mode,a,digest,node,true,2,[]⟩]:=⟨_,rfl⟩
 have hap:p.slots.map oG++[[.int .i64 mode,.str a.host,.str a.path,.str digest,.int .i64 node,.bool false,.int .i64 0,.str []]]=l0.map oG:=by rw [hl0,hs0];simp
 have hg:l0[p.slots.length]? =some s0:=by rw [hl0];simp
 have hln:l0.length=p.slots.length+1:=by rw [hl0];simp
 have hset:∀h,(l0.map oG).set p.slots.length [.int .i64 (l0[p.slots.length]'h).mode,.str (l0[p.slots.length]'h).to.host,.str (l0[p.slots.length]'h).to.path,.str (l0[p.slots.length]'h).digest,.int .i64 (l0[p.slots.length]'h).node,.bool true,.int .i64 2,.str (l0[p.slots.length]'h).body]=l3.map oG:=by
  intro h
  have e:l0[p.slots.length]'h=s0:=by rw [List.getElem?_eq_getElem h] at hg;exact Option.some.inj hg
  rw [e,hl0,hl3,hs0,List.map_append,List.map_append,List.set_append_right _ _ (by simp)];simp
 have c4:=c4 l0 (by rw [hln];omega) (by rw [hln];omega)
 rw [show mQ {p with slots:=l0} (p.slots.length:Int)=⟨km,a,p.addr.host,digest⟩ by rw [hl0,hr,hs0];simp [hkm]] at c4
 simp only [aG,bT] at c4
 simp only [bY,bT] at c5
 rw [←hl3] at hbad
 rw [←hs0,←hl0] at hgood
 have hlt0:p.slots.length < l0.length:=by omega
 clear hs0 hl0 hl3 hr hkm hno
 cases ok
 ·rw [hbad (.inl rfl)]
  clear hbad hgood h12
  refine ent Tryz.mix Tryz.func195 Tryz.ntmps195 ?_
  have W:=And.intro h20 (And.intro hk (And.intro hg (And.intro hap hlt0)))
  refine we ?_
  all_goals (try (refine ⟨.inr rfl,?_⟩;simp [Hands,Tryz.results195]))
  all_goals exact hset _
 ·rcases h12 with h|h
  ·rw [hgood rfl h]
   rw [h] at c5
   clear hbad hgood h
   refine ent Tryz.mix Tryz.func195 Tryz.ntmps195 ?_
   have W:=And.intro h20 (And.intro hk (And.intro hg (And.intro hap hlt0)))
   refine we ?_
   all_goals (try (refine ⟨.inr rfl,?_⟩;simp [Hands,Tryz.results195]))
   all_goals exact hset _
  ·rw [hbad (.inr (by rw [h];decide))]
   rw [h] at c5
   clear hbad hgood h
   refine ent Tryz.mix Tryz.func195 Tryz.ntmps195 ?_
   have W:=And.intro h20 (And.intro hk (And.intro hg (And.intro hap hlt0)))
   refine we ?_
   all_goals (try (refine ⟨.inr rfl,?_⟩;simp [Hands,Tryz.results195]))
   all_goals exact hset _
end Go.Proofs.YtaddkhdghlaalaaGreatDoor
