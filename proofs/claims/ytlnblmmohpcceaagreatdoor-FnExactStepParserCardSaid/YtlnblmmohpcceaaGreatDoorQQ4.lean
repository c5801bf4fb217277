/-
  Proved here: steps towards the statement of this claim, text QQ4.
  No condition beyond what each statement spells out.
-/
import Derived.Test.YtlnblmmohpcceaaGreatDoorQRCB
import Derived.Test.YtlnblmmohpcceaaGreatDoorQRLsc
import Derived.Test.YtlnblmmohpcceaaGreatDoorQN1
import Derived.Test.YtlnblmmohpcceaaGreatDoorQR7
import Derived.Test.YtlnblmmohpcceaaGreatDoorQU5
import Derived.Test.YtlnblmmohpcceaaGreatDoorQT1
import Derived.Test.YtlnblmmohpcceaaGreatDoorF8
import Derived.Test.YtlnblmmohpcceaaGreatDoorF6
set_option linter.all false
set_option maxRecDepth 4000
set_option maxHeartbeats 4000000
namespace Go.Proofs.YtlnblmmohpcceaaGreatDoor
open Go.Aw
theorem aBh (p:fC) (r:gY):gK p r=1∨gK p r=2:=by
 unfold gK;split<;>simp
def fT (p:aJ) (mode:Int) (tu digest:Str) (node:Int):aJ×Int:=
 if 20≤p.slots.length∨dR mode=0 then (p, -1)
 else if (bI tu p.addr.host).2=false∨gK p.policy ⟨dR mode,(bI tu p.addr.host).1,p.addr.host,digest⟩≠1 then
  ({p with slots:=p.slots++[(⟨mode,(bI tu p.addr.host).1,digest,node,true,2,[]⟩:gP)]},((p.slots.length:Nat):Int))
 else ({p with slots:=p.slots++[(⟨mode,(bI tu p.addr.host).1,digest,node,false,0,[]⟩:gP)]},((p.slots.length:Nat):Int))
theorem wS {p:aJ} {mode:Int} {tu digest:Str} {node:Int} (h:20≤p.slots.length∨dR mode=0):fT p mode tu digest node=(p, -1):=by unfold fT;rw [if_pos h]
theorem aHk {p:aJ} {mode:Int} {tu digest:Str} {node:Int} (h:¬(20≤p.slots.length∨dR mode=0)) (h2:(bI tu p.addr.host).2=false∨gK p.policy ⟨dR mode,(bI tu p.addr.host).1,p.addr.host,digest⟩≠1):
  fT p mode tu digest node=({p with slots:=p.slots++[(⟨mode,(bI tu p.addr.host).1,digest,node,true,2,[]⟩:gP)]},((p.slots.length:Nat):Int)):=by unfold fT;rw [if_neg h,if_pos h2]
theorem aE8 {p:aJ} {mode:Int} {tu digest:Str} {node:Int} (h:¬(20≤p.slots.length∨dR mode=0)) (h1:(bI tu p.addr.host).2=true) (h2:gK p.policy ⟨dR mode,(bI tu p.addr.host).1,p.addr.host,digest⟩=1):
  fT p mode tu digest node=({p with slots:=p.slots++[(⟨mode,(bI tu p.addr.host).1,digest,node,false,0,[]⟩:gP)]},((p.slots.length:Nat):Int)):=by
 unfold fT;rw [if_neg h,if_neg (by rintro (h3|h3);rw [h1] at h3;cases h3;exact h3 h2)]
theorem tN [aA Tryz.prog] (p:aJ) (mode:Int) (tu digest:Str) (node:Int) (hs:aD p≤274877906944) (hto:tu.length≤274877906944) (hd:digest.length≤274877906944):Ok Tryz.prog 237 [.agg (aG .view p),.int .i64 mode,.str tu,.str digest,.int .i64 node] (.tup [.agg (aG .own (fT p mode tu digest node).1),.int .i64 (fT p mode tu digest node).2]):=by
 have c1:=iO p hs
 simp only [aG] at c1
 have hsl:p.addr.host.length≤274877906944:=by simp only [aD,aR] at hs;omega
 have hpol:gL p.policy≤1099511627776:=by simp only [aD] at hs;omega
 have hsn:p.slots.length≤274877906944:=by simp only [aD,szL] at hs;omega
 have c2:=zK mode
 have c3:=vE tu p.addr.host (by omega)
 by_cases h20:(20:Int)≤(p.slots.length:Int)
 ·rw [wS (.inl (by omega))]
  refine ent Tryz.mix Tryz.func237 Tryz.ntmps237 ?_
  have W:=h20
  repeat' first|refine we ?_|(refine sq (fun hc=>?_) (fun hc=>?_)<;>try exact hc.elim)|fail
  all_goals (try (refine ⟨.inr rfl,?_⟩;simp [Hands,Tryz.results237]))
 by_cases hk:dR mode=0
 ·rw [wS (.inr hk)]
  rw [hk] at c2
  refine ent Tryz.mix Tryz.func237 Tryz.ntmps237 ?_
  have W:=h20
  repeat' first|refine we ?_|(refine sq (fun hc=>?_) (fun hc=>?_)<;>try exact hc.elim)|fail
  all_goals (try (refine ⟨.inr rfl,?_⟩;simp [Hands,Tryz.results237]))
 have hno:¬(20≤p.slots.length∨dR mode=0):=by rintro (h|h);omega;exact hk h
 have hsz:=aAt tu p.addr.host
 have hbad:=aHk (tu:=tu) (digest:=digest) (node:=node) hno
 have hgood:=aE8 (tu:=tu) (digest:=digest) (node:=node) hno
 have c5:=xE p.policy ⟨dR mode,(bI tu p.addr.host).1,p.addr.host,digest⟩ hpol (by simp only [nR];omega)
 have h12:=aBh p.policy ⟨dR mode,(bI tu p.addr.host).1,p.addr.host,digest⟩
 have c4:=fun l' hl' hl2=>aFw {p with slots:=l'} (p.slots.length:Int) (by omega) hl' hl2
 have hr:∀s,oO {p with slots:=p.slots++[s]} (p.slots.length:Int)=⟨dR s.mode,s.to,p.addr.host,s.digest⟩:=fun s=>by simp [oO,sS]
 generalize hkm:dR mode=km at *
 generalize bI tu p.addr.host=pa at *
 obtain ⟨a,ok⟩:=pa
 simp only at c3 c5 h12 hsz hbad hgood
 obtain ⟨s0,hs0⟩:∃s:gP,s=⟨mode,a,digest,node,false,0,[]⟩:=⟨_,rfl⟩
 obtain ⟨l0,hl0⟩:∃l,l=p.slots++[s0]:=⟨_,rfl⟩
 obtain ⟨l3,hl3⟩:∃l:List gP,l=p.slots++[⟨mode,a,digest,node,true,2,[]⟩]:=⟨_,rfl⟩
 have hap:p.slots.map eX++[[.int .i64 mode,.str a.host,.str a.path,.str digest,.int .i64 node,.bool false,.int .i64 0,.str []]]=l0.map eX:=by rw [hl0,hs0];simp
 have hg:l0[p.slots.length]? =some s0:=by rw [hl0];simp
 have hln:l0.length=p.slots.length+1:=by rw [hl0];simp
 have hset:∀h,(l0.map eX).set p.slots.length [.int .i64 (l0[p.slots.length]'h).mode,.str (l0[p.slots.length]'h).to.host,.str (l0[p.slots.length]'h).to.path,.str (l0[p.slots.length]'h).digest,.int .i64 (l0[p.slots.length]'h).node,.bool true,.int .i64 2,.str (l0[p.slots.length]'h).body]=l3.map eX:=by
  intro h
  have e:l0[p.slots.length]'h=s0:=by rw [List.getElem?_eq_getElem h] at hg;exact Option.some.inj hg
  rw [e,hl0,hl3,hs0,List.map_append,List.map_append,List.set_append_right _ _ (by simp)];simp
 have c4:=c4 l0 (by rw [hln];omega) (by rw [hln];omega)
 rw [show oO {p with slots:=l0} (p.slots.length:Int)=⟨km,a,p.addr.host,digest⟩ by rw [hl0,hr,hs0];simp [hkm]] at c4
 simp only [aG,iJ] at c4
 simp only [bJ,iJ] at c5
 rw [←hl3] at hbad
 rw [←hs0,←hl0] at hgood
 have hlt0:p.slots.length < l0.length:=by omega
 clear hs0 hl0 hl3 hr hkm hno
 cases ok
 ·rw [hbad (.inl rfl)]
  clear hbad hgood h12
  refine ent Tryz.mix Tryz.func237 Tryz.ntmps237 ?_
  have W:=And.intro h20 (And.intro hk (And.intro hg (And.intro hap hlt0)))
  repeat' first|refine we ?_|(refine sq (fun hc=>?_) (fun hc=>?_)<;>try exact hc.elim)|fail
  all_goals (try (refine ⟨.inr rfl,?_⟩;simp [Hands,Tryz.results237]))
  all_goals exact hset _
 ·rcases h12 with h|h
  ·rw [hgood rfl h]
   rw [h] at c5
   clear hbad hgood h
   refine ent Tryz.mix Tryz.func237 Tryz.ntmps237 ?_
   have W:=And.intro h20 (And.intro hk (And.intro hg (And.intro hap hlt0)))
   repeat' first|refine we ?_|(refine sq (fun hc=>?_) (fun hc=>?_)<;>try exact hc.elim)|fail
   all_goals (try (refine ⟨.inr rfl,?_⟩;simp [Hands,Tryz.results237]))
   all_goals exact hset _
  ·rw [hbad (.inr (by rw [h];decide))]
   rw [h] at c5
   clear hbad hgood h
   refine ent Tryz.mix Tryz.func237 Tryz.ntmps237 ?_
   have W:=And.intro h20 (And.intro hk (And.intro hg (And.intro hap hlt0)))
   repeat' first|refine we ?_|(refine sq (fun hc=>?_) (fun hc=>?_)<;>try exact hc.elim)|fail
   all_goals (try (refine ⟨.inr rfl,?_⟩;simp [Hands,Tryz.results237]))
   all_goals exact hset _
theorem tL [aA Tryz.prog] (p:aJ) (mode:Int) (tu digest:Str) (node:Int) (hs:aD p≤274877906944) (hto:tu.length≤274877906944) (hd:digest.length≤274877906944):Ok Tryz.prog 241 [.agg (aG .view p),.int .i64 mode,.str tu,.str digest,.int .i64 node] (.tup [.agg (aG .own (fT p mode tu digest node).1),.int .i64 (fT p mode tu digest node).2]):=by
 have c1:=jZ p hs
 simp only [aG] at c1
 have hsl:p.addr.host.length≤274877906944:=by simp only [aD,aR] at hs;omega
 have hpol:gL p.policy≤1099511627776:=by simp only [aD] at hs;omega
 have hsn:p.slots.length≤274877906944:=by simp only [aD,szL] at hs;omega
 have c2:=zM mode
 have c3:=vF tu p.addr.host (by omega)
 by_cases h20:(20:Int)≤(p.slots.length:Int)
 ·rw [wS (.inl (by omega))]
  refine ent Tryz.mix Tryz.func241 Tryz.ntmps241 ?_
  have W:=h20
  repeat' first|refine we ?_|(refine sq (fun hc=>?_) (fun hc=>?_)<;>try exact hc.elim)|fail
  all_goals (try (refine ⟨.inr rfl,?_⟩;simp [Hands,Tryz.results241]))
 by_cases hk:dR mode=0
 ·rw [wS (.inr hk)]
  rw [hk] at c2
  refine ent Tryz.mix Tryz.func241 Tryz.ntmps241 ?_
  have W:=h20
  repeat' first|refine we ?_|(refine sq (fun hc=>?_) (fun hc=>?_)<;>try exact hc.elim)|fail
  all_goals (try (refine ⟨.inr rfl,?_⟩;simp [Hands,Tryz.results241]))
 have hno:¬(20≤p.slots.length∨dR mode=0):=by rintro (h|h);omega;exact hk h
 have hsz:=aAt tu p.addr.host
 have hbad:=aHk (tu:=tu) (digest:=digest) (node:=node) hno
 have hgood:=aE8 (tu:=tu) (digest:=digest) (node:=node) hno
 have c5:=xG p.policy ⟨dR mode,(bI tu p.addr.host).1,p.addr.host,digest⟩ hpol (by simp only [nR];omega)
 have h12:=aBh p.policy ⟨dR mode,(bI tu p.addr.host).1,p.addr.host,digest⟩
 have c4:=fun l' hl' hl2=>aE7 {p with slots:=l'} (p.slots.length:Int) (by omega) hl' hl2
 have hr:∀s,oO {p with slots:=p.slots++[s]} (p.slots.length:Int)=⟨dR s.mode,s.to,p.addr.host,s.digest⟩:=fun s=>by simp [oO,sS]
 generalize hkm:dR mode=km at *
 generalize bI tu p.addr.host=pa at *
 obtain ⟨a,ok⟩:=pa
 simp only at c3 c5 h12 hsz hbad hgood
 obtain ⟨s0,hs0⟩:∃s:gP,s=⟨mode,a,digest,node,false,0,[]⟩:=⟨_,rfl⟩
 obtain ⟨l0,hl0⟩:∃l,l=p.slots++[s0]:=⟨_,rfl⟩
 obtain ⟨l3,hl3⟩:∃l:List gP,l=p.slots++[⟨mode,a,digest,node,true,2,[]⟩]:=⟨_,rfl⟩
 have hap:p.slots.map eX++[[.int .i64 mode,.str a.host,.str a.path,.str digest,.int .i64 node,.bool false,.int .i64 0,.str []]]=l0.map eX:=by rw [hl0,hs0];simp
 have hg:l0[p.slots.length]? =some s0:=by rw [hl0];simp
 have hln:l0.length=p.slots.length+1:=by rw [hl0];simp
 have hset:∀h,(l0.map eX).set p.slots.length [.int .i64 (l0[p.slots.length]'h).mode,.str (l0[p.slots.length]'h).to.host,.str (l0[p.slots.length]'h).to.path,.str (l0[p.slots.length]'h).digest,.int .i64 (l0[p.slots.length]'h).node,.bool true,.int .i64 2,.str (l0[p.slots.length]'h).body]=l3.map eX:=by
  intro h
  have e:l0[p.slots.length]'h=s0:=by rw [List.getElem?_eq_getElem h] at hg;exact Option.some.inj hg
  rw [e,hl0,hl3,hs0,List.map_append,List.map_append,List.set_append_right _ _ (by simp)];simp
 have c4:=c4 l0 (by rw [hln];omega) (by rw [hln];omega)
 rw [show oO {p with slots:=l0} (p.slots.length:Int)=⟨km,a,p.addr.host,digest⟩ by rw [hl0,hr,hs0];simp [hkm]] at c4
 simp only [aG,iJ] at c4
 simp only [bJ,iJ] at c5
 rw [←hl3] at hbad
 rw [←hs0,←hl0] at hgood
 have hlt0:p.slots.length < l0.length:=by omega
 clear hs0 hl0 hl3 hr hkm hno
 cases ok
 ·rw [hbad (.inl rfl)]
  clear hbad hgood h12
  refine ent Tryz.mix Tryz.func241 Tryz.ntmps241 ?_
  have W:=And.intro h20 (And.intro hk (And.intro hg (And.intro hap hlt0)))
  repeat' first|refine we ?_|(refine sq (fun hc=>?_) (fun hc=>?_)<;>try exact hc.elim)|fail
  all_goals (try (refine ⟨.inr rfl,?_⟩;simp [Hands,Tryz.results241]))
  all_goals exact hset _
 ·rcases h12 with h|h
  ·rw [hgood rfl h]
   rw [h] at c5
   clear hbad hgood h
   refine ent Tryz.mix Tryz.func241 Tryz.ntmps241 ?_
   have W:=And.intro h20 (And.intro hk (And.intro hg (And.intro hap hlt0)))
   repeat' first|refine we ?_|(refine sq (fun hc=>?_) (fun hc=>?_)<;>try exact hc.elim)|fail
   all_goals (try (refine ⟨.inr rfl,?_⟩;simp [Hands,Tryz.results241]))
   all_goals exact hset _
  ·rw [hbad (.inr (by rw [h];decide))]
   rw [h] at c5
   clear hbad hgood h
   refine ent Tryz.mix Tryz.func241 Tryz.ntmps241 ?_
   have W:=And.intro h20 (And.intro hk (And.intro hg (And.intro hap hlt0)))
   repeat' first|refine we ?_|(refine sq (fun hc=>?_) (fun hc=>?_)<;>try exact hc.elim)|fail
   all_goals (try (refine ⟨.inr rfl,?_⟩;simp [Hands,Tryz.results241]))
   all_goals exact hset _
def xK (n:Str):Bool:=decide (n=[105,109,103]) || decide (n=[108,105,110,107])
def rC (b:aS) (m:Str) (n:Int):Bool:=decide (0≤n)&&(b.nodes[n.toNat]?).any fun x=>decide (x.name=m)
def kQ (b:aS) (m:Str):Nat→List Int
 |0=>b.opens
 |i+1=>if (b.opens[i+1]?).any (rC b m) then b.opens.take (i+1) else kQ b m i
def jK (t:aW):Bool:=decide (t.kind=1)&& !xK t.name
def oP (b:aS) (t:aW):dA:=if t.kind=1 then ⟨t.name,[],b.opens.getLastD 0,t.attrs⟩ else ⟨[],t.text,b.opens.getLastD 0,[]⟩
def bL (b:aS) (t:aW):aS×Int:=
 if t.kind=2 then ({b with opens:=kQ b t.name (b.opens.length - 1)}, -1)
 else if¬(t.kind=1∨(t.kind=3∧t.text≠[])) then (b, -1)
 else if 40≤b.nodes.length∨b.opens=[]∨(jK t=true∧8≤b.opens.length) then (b, -1)
 else ({nodes:=b.nodes++[oP b t],opens:=if jK t=true then b.opens++[((b.nodes.length:Nat):Int)] else b.opens},((b.nodes.length:Nat):Int))
theorem aHp (b:aS) (m:Str):∀k,(kQ b m k).length≤b.opens.length
 |0=>Nat.le_refl _
 |k+1=>by
  unfold kQ
  split
  ·simp;omega
  ·exact aHp b m k
theorem aPy [aA Tryz.prog] (n:Str):Ok Tryz.prog 240 [.str n] (.bool (xK n)):=by
 unfold xK
 refine ent Tryz.mix Tryz.func240 Tryz.ntmps240 ?_
 have W:=trivial
 repeat' first|refine we ?_|(refine sq (fun hc=>?_) (fun hc=>?_)<;>try exact hc.elim)|fail
 all_goals (try (refine ⟨.inr rfl,?_⟩;simp [Hands,Tryz.results240]))
 all_goals first|(simp [hc];done)|(rw [Bool.eq_iff_iff];simp [hc])
theorem aPc [aA Tryz.prog] (n:Str):Ok Tryz.prog 235 [.str n] (.bool (xK n)):=by
 unfold xK
 refine ent Tryz.mix Tryz.func235 Tryz.ntmps235 ?_
 have W:=trivial
 repeat' first|refine we ?_|(refine sq (fun hc=>?_) (fun hc=>?_)<;>try exact hc.elim)|fail
 all_goals (try (refine ⟨.inr rfl,?_⟩;simp [Hands,Tryz.results235]))
 all_goals first|(simp [hc];done)|(rw [Bool.eq_iff_iff];simp [hc])
theorem aS3 {b:aS} {m:Str} {n:Int} (h:¬(0≤n∧n < (b.nodes.length:Int))):rC b m n=false:=by
 unfold rC
 by_cases h0:0≤n
 ·rw [List.getElem?_eq_none (by omega)];simp
 ·simp [h0]
theorem aGu {b:aS} {m:Str} {k:Nat} (h:k < b.nodes.length):rC b m ((k:Nat):Int)=decide (b.nodes[k].name=m):=by
 unfold rC
 simp [List.getElem?_eq_getElem h]
theorem xO {b:aS} {t:aW} (h:t.kind=2):bL b t=({b with opens:=kQ b t.name (b.opens.length - 1)}, -1):=by unfold bL;rw [if_pos h]
theorem aC1 {b:aS} {t:aW} (h:¬t.kind=2) (h1:¬t.kind=1) (h3:t.kind=3→t.text=[]):bL b t=(b, -1):=by
 unfold bL
 rw [if_neg h,if_pos]
 rintro (h|⟨h,h'⟩)
 ·exact h1 h
 ·exact h' (h3 h)
theorem aEg {b:aS} {t:aW} (h:¬t.kind=2) (hf:40≤b.nodes.length∨b.opens=[]∨(jK t=true∧8≤b.opens.length)):bL b t=(b, -1):=by
 unfold bL
 rw [if_neg h]
 split<;>first|rfl|(rw [if_pos hf])
theorem aF3 {b:aS} {t:aW} (h:¬t.kind=2) (hk:t.kind=1∨(t.kind=3∧t.text≠[])) (hf:¬(40≤b.nodes.length∨b.opens=[]∨(jK t=true∧8≤b.opens.length))):
  bL b t=({nodes:=b.nodes++[oP b t],opens:=if jK t=true then b.opens++[((b.nodes.length:Nat):Int)] else b.opens},((b.nodes.length:Nat):Int)):=by
 unfold bL
 rw [if_neg h,if_neg (fun hn=>hn hk),if_neg hf]
theorem aH8 {b:aS} {m:Str} {k:Nat} {n:Int} (hg:b.opens[k+1]? =some n) (h:rC b m n=true):kQ b m (k+1)=b.opens.take (k+1):=by
 unfold kQ;rw [hg];simp [h]
theorem aFs {b:aS} {m:Str} {k:Nat} {n:Int} (hg:b.opens[k+1]? =some n) (h:rC b m n=false):kQ b m (k+1)=kQ b m k:=by
 conv=>lhs;unfold kQ
 rw [hg];simp [h]
theorem aE1 [aA Tryz.prog] (b:aS) (t:aW) (hs:aI b≤274877906944) (hk:t.kind=2):Ok Tryz.prog 188 [.agg (aL .view b),.agg (aU .view t)] (.tup [.agg (aL .own (bL b t).1),.int .i64 (bL b t).2]):=by
 have c1:=jG b hs
 have hn:b.nodes.length≤274877906944∧b.opens.length≤274877906944:=by simp only [aI,szL] at hs;omega
 have hw0:IntKind.i64.wrap ((b.opens.length:Int) - 1)=(b.opens.length:Int) - 1:=by rw [wrap64]<;>omega
 rw [xO hk]
 obtain ⟨tk,tn,ta,tx⟩:=t
 simp only at hk
 subst hk
 simp only [aL] at c1
 refine ent Tryz.mix Tryz.func188 Tryz.ntmps188 ?_
 have W:=hw0
 repeat' first|refine we ?_|(refine sq (fun hc=>?_) (fun hc=>?_)<;>try exact hc.elim)|fail
 refine aM (ι:={q:Int // -1≤q∧q < (b.opens.length:Int)∧kQ b tn q.toNat=kQ b tn (b.opens.length - 1)}) (fun t o i=>⟨aO t [(7,.int .i64 i.1),(8,.undef)],o⟩) (fun i=>i.1.toNat) ⟨(b.opens.length:Int) - 1,by omega,by omega,by congr 1;omega⟩ (aH (by simp) (by simp)) ?_
 rintro ⟨q,hq1,hq2,hq3⟩ K1 hK1
 simp only [aO,List.set_cons_succ,List.set_cons_zero] at hK1⊢
 by_cases h1:(1:Int)≤q
 ·obtain ⟨k,rfl⟩:∃k:Nat,q=((k+1:Nat):Int):=⟨(q - 1).toNat,by omega⟩
  have hlt:k+1 < b.opens.length:=by omega
  have hg:=List.getElem?_eq_getElem hlt
  have hm1:IntKind.i64.wrap (((k+1:Nat):Int) - 1)=((k:Nat):Int):=by rw [wrap64]<;>omega
  rw [show (((k+1:Nat):Int)).toNat=k+1 from by omega] at hq3
  generalize hnn:b.opens[k+1]=n at *
  cases hh:rC b tn n
  ·rw [aFs hg hh] at hq3
   by_cases h0:0≤n
   ·obtain ⟨m,rfl⟩:=Int.eq_ofNat_of_zero_le h0
    by_cases hm:m < b.nodes.length
    ·rw [aGu hm] at hh
     have hgm:=List.getElem?_eq_getElem hm
     have hne:(b.nodes[m].name == tn)=false:=by simpa using hh
     have W:=And.intro hg (And.intro hm1 (And.intro hgm (And.intro hm (And.intro hne (And.intro h1 hn)))))
     have V:=hlt
     repeat' first|refine we ?_|(refine sq (fun hc=>?_) (fun hc=>?_)<;>try exact hc.elim)|fail
     all_goals exact hK1 _ ⟨((k:Nat):Int),by omega,by omega,by simpa using hq3⟩ (aH (by simp) (by simp)) (by first|omega|(simp only;omega)|(simp;omega))
    ·have hmi:¬((m:Nat):Int) < ((b.nodes.length:Nat):Int):=by omega
     have W:=And.intro hg (And.intro hm1 (And.intro hmi (And.intro h1 hn)))
     have V:=hlt
     repeat' first|refine we ?_|(refine sq (fun hc=>?_) (fun hc=>?_)<;>try exact hc.elim)|fail
     all_goals exact hK1 _ ⟨((k:Nat):Int),by omega,by omega,by simpa using hq3⟩ (aH (by simp) (by simp)) (by first|omega|(simp only;omega)|(simp;omega))
   ·have W:=And.intro hg (And.intro hm1 (And.intro h0 (And.intro h1 hn)))
    have V:=hlt
    repeat' first|refine we ?_|(refine sq (fun hc=>?_) (fun hc=>?_)<;>try exact hc.elim)|fail
    all_goals exact hK1 _ ⟨((k:Nat):Int),by omega,by omega,by simpa using hq3⟩ (aH (by simp) (by simp)) (by first|omega|(simp only;omega)|(simp;omega))
  ·rw [aH8 hg hh] at hq3
   have h01:0≤n∧n < (b.nodes.length:Int):=Classical.byContradiction fun h=>by rw [aS3 h] at hh;cases hh
   obtain ⟨m,rfl⟩:=Int.eq_ofNat_of_zero_le h01.1
   have hm:m < b.nodes.length:=by omega
   rw [aGu hm] at hh
   have hgm:=List.getElem?_eq_getElem hm
   have hne:(b.nodes[m].name == tn)=true:=by simpa using hh
   rw [←hq3]
   have W:=And.intro hg (And.intro hm1 (And.intro hgm (And.intro hm (And.intro hne (And.intro h1 hn)))))
   have V:=hlt
   repeat' first|refine we ?_|(refine sq (fun hc=>?_) (fun hc=>?_)<;>try exact hc.elim)|fail
   all_goals (try (refine ⟨.inr rfl,?_⟩;simp [Hands,Tryz.results188,List.map_take]))
   all_goals (rw [←List.map_take];exact aJ4 _)
 ·have hq4:kQ b tn (b.opens.length - 1)=b.opens:=by
   rw [←hq3,show q.toNat=0 by omega];rfl
  rw [hq4]
  have W:=h1
  repeat' first|refine we ?_|(refine sq (fun hc=>?_) (fun hc=>?_)<;>try exact hc.elim)|fail
  all_goals (try (refine ⟨.inr rfl,?_⟩;simp [Hands,Tryz.results188,List.map_take]))
theorem oQ [aA Tryz.prog] (b:aS) (t:aW) (hs:aI b≤274877906944) (ht:aV t≤274877906944):Ok Tryz.prog 188 [.agg (aL .view b),.agg (aU .view t)] (.tup [.agg (aL .own (bL b t).1),.int .i64 (bL b t).2]):=by
 by_cases hk2:t.kind=2
 ·exact aE1 b t hs hk2
 have c1:=jG b hs
 have c2:=aPy t.name
 have hn:b.nodes.length≤274877906944∧b.opens.length≤274877906944:=by simp only [aI,szL] at hs;omega
 have hta:t.attrs.length≤274877906944:=by simp only [aV,szL] at ht;omega
 have other:=aC1 (b:=b) hk2
 have full:=aEg (b:=b) hk2
 have new:=aF3 (b:=b) hk2
 obtain ⟨tk,tn,ta,tx⟩:=t
 simp only at hk2 other full new c2 hta
 simp only [aL] at c1
 by_cases hk:tk=1∨(tk=3∧tx≠[])
 ·by_cases h40:(40:Int)≤(b.nodes.length:Int)
  ·rw [full (.inl (by omega))]
   rcases hk with rfl|⟨rfl,hx⟩
   ·refine ent Tryz.mix Tryz.func188 Tryz.ntmps188 ?_
    have W:=h40
    repeat' first|refine we ?_|(refine sq (fun hc=>?_) (fun hc=>?_)<;>try exact hc.elim)|fail
    all_goals (try (refine ⟨.inr rfl,?_⟩;simp [Hands,Tryz.results188]))
   ·refine ent Tryz.mix Tryz.func188 Tryz.ntmps188 ?_
    have W:=And.intro h40 hx
    repeat' first|refine we ?_|(refine sq (fun hc=>?_) (fun hc=>?_)<;>try exact hc.elim)|fail
    all_goals (try (refine ⟨.inr rfl,?_⟩;simp [Hands,Tryz.results188]))
  rcases List.eq_nil_or_concat b.opens with ho|⟨os,lo,ho⟩
  ·rw [full (.inr (.inl ho))]
   have hl0z:b.opens.length=0:=by rw [ho];rfl
   rcases hk with rfl|⟨rfl,hx⟩
   ·refine ent Tryz.mix Tryz.func188 Tryz.ntmps188 ?_
    have W:=And.intro h40 hl0z
    repeat' first|refine we ?_|(refine sq (fun hc=>?_) (fun hc=>?_)<;>try exact hc.elim)|fail
    all_goals (try (refine ⟨.inr rfl,?_⟩;simp [Hands,Tryz.results188]))
   ·refine ent Tryz.mix Tryz.func188 Tryz.ntmps188 ?_
    have W:=And.intro h40 (And.intro hx hl0z)
    repeat' first|refine we ?_|(refine sq (fun hc=>?_) (fun hc=>?_)<;>try exact hc.elim)|fail
    all_goals (try (refine ⟨.inr rfl,?_⟩;simp [Hands,Tryz.results188]))
  have hne:b.opens≠[]:=by rw [ho];simp
  have hlast:b.opens.getLastD 0=lo:=by rw [ho];simp
  have hlen:b.opens.length=os.length+1:=by rw [ho];simp
  have hl0z:¬b.opens.length=0:=by omega
  have hlt:os.length < b.opens.length:=by omega
  have hg:b.opens[os.length]? =some lo:=by rw [ho];simp
  have hw:IntKind.i64.wrap ((b.opens.length:Int) - 1)=((os.length:Nat):Int):=by rw [wrap64]<;>omega
  clear ho hlen
  rcases hk with rfl|⟨rfl,hx⟩
  ·have hnw:oP b ⟨1,tn,ta,tx⟩=⟨tn,[],lo,ta⟩:=by unfold oP;rw [hlast];simp
   cases hvo:xK tn
   ·rw [hvo] at c2
    have hop:jK ⟨1,tn,ta,tx⟩=true:=by simp [jK,hvo]
    by_cases h8:(8:Int)≤(b.opens.length:Int)
    ·rw [full (.inr (.inr ⟨hop,by omega⟩))]
     refine ent Tryz.mix Tryz.func188 Tryz.ntmps188 ?_
     have W:=And.intro h40 (And.intro hl0z h8)
     repeat' first|refine we ?_|(refine sq (fun hc=>?_) (fun hc=>?_)<;>try exact hc.elim)|fail
     all_goals (try (refine ⟨.inr rfl,?_⟩;simp [Hands,Tryz.results188]))
    ·rw [new (.inl rfl) (by rintro (h|h|⟨_,h⟩);omega;exact hne h;omega),if_pos hop,hnw]
     obtain ⟨l0,hl0⟩:∃l,l=b.nodes++[(⟨tn,[],lo,ta⟩:dA)]:=⟨_,rfl⟩
     have hap:b.nodes.map (bB .own)++[[.str tn,.str [],.int .i64 lo,.sl .own 2 (ta.map dI)]]=l0.map (bB .own):=by rw [hl0];simp
     obtain ⟨o0,ho0⟩:∃l,l=b.opens++[((b.nodes.length:Nat):Int)]:=⟨_,rfl⟩
     have hao:b.opens.map dV++[[.int .i64 ((b.nodes.length:Nat):Int)]]=o0.map dV:=by rw [ho0];simp
     rw [←hl0,←ho0]
     clear hl0 ho0
     refine ent Tryz.mix Tryz.func188 Tryz.ntmps188 ?_
     have W:=And.intro h40 (And.intro hl0z (And.intro h8 (And.intro hg (And.intro hw (And.intro hn (And.intro hta (And.intro hap hao)))))))
     have V:=hlt
     repeat' first|refine we ?_|(refine sq (fun hc=>?_) (fun hc=>?_)<;>try exact hc.elim)|fail
     all_goals (try (refine ⟨.inr rfl,?_⟩;simp [Hands,Tryz.results188]))
   ·rw [hvo] at c2
    have hop:jK ⟨1,tn,ta,tx⟩=false:=by simp [jK,hvo]
    rw [new (.inl rfl) (by rintro (h|h|⟨h,_⟩);omega;exact hne h;(rw [hop] at h;cases h)),if_neg (by rw [hop];decide),hnw]
    obtain ⟨l0,hl0⟩:∃l,l=b.nodes++[(⟨tn,[],lo,ta⟩:dA)]:=⟨_,rfl⟩
    have hap:b.nodes.map (bB .own)++[[.str tn,.str [],.int .i64 lo,.sl .own 2 (ta.map dI)]]=l0.map (bB .own):=by rw [hl0];simp
    rw [←hl0]
    clear hl0
    refine ent Tryz.mix Tryz.func188 Tryz.ntmps188 ?_
    have W:=And.intro h40 (And.intro hl0z (And.intro hg (And.intro hw (And.intro hn (And.intro hta hap)))))
    have V:=hlt
    repeat' first|refine we ?_|(refine sq (fun hc=>?_) (fun hc=>?_)<;>try exact hc.elim)|fail
    all_goals (try (refine ⟨.inr rfl,?_⟩;simp [Hands,Tryz.results188]))
  ·have hnw:oP b ⟨3,tn,ta,tx⟩=⟨[],tx,lo,[]⟩:=by unfold oP;rw [hlast];simp
   have hop:jK ⟨3,tn,ta,tx⟩=false:=by simp [jK]
   rw [new (.inr ⟨rfl,hx⟩) (by rintro (h|h|⟨h,_⟩);omega;exact hne h;(rw [hop] at h;cases h)),if_neg (by rw [hop];decide),hnw]
   obtain ⟨l0,hl0⟩:∃l,l=b.nodes++[(⟨[],tx,lo,[]⟩:dA)]:=⟨_,rfl⟩
   have hap:b.nodes.map (bB .own)++[[.str [],.str tx,.int .i64 lo,.sl .own 2 []]]=l0.map (bB .own):=by rw [hl0];simp
   rw [←hl0]
   clear hl0
   have hxb:(tx != [])=true:=by simpa using hx
   refine kH Tryz.mix [21] Tryz.func188 Tryz.ntmps188 ?_
   have W:=And.intro h40 (And.intro hl0z (And.intro hxb (And.intro hg (And.intro hw (And.intro hn hap)))))
   have V:=hlt
   repeat' first|refine we ?_|(refine sq (fun hc=>?_) (fun hc=>?_)<;>try exact hc.elim)|fail
   ·exact (hx (by assumption)).elim
   refine aRz 6 0 3 (by rfl) (by rfl) (by rfl) ?_
   have W:=And.intro h40 (And.intro hl0z (And.intro hxb (And.intro hg (And.intro hw (And.intro hn hap)))))
   have V:=hlt
   repeat' first|refine we ?_|(refine sq (fun hc=>?_) (fun hc=>?_)<;>try exact hc.elim)|fail
   all_goals (try (refine ⟨.inr rfl,?_⟩;simp [Hands,Tryz.results188]))
 ·have h1:¬tk=1:=fun h=>hk (.inl h)
  by_cases h3:tk=3
  ·have hx:tx=[]:=Classical.byContradiction fun h=>hk (.inr ⟨h3,h⟩)
   rw [other h1 (fun _=>hx)]
   subst h3;subst hx
   refine ent Tryz.mix Tryz.func188 Tryz.ntmps188 ?_
   have W:=trivial
   repeat' first|refine we ?_|(refine sq (fun hc=>?_) (fun hc=>?_)<;>try exact hc.elim)|fail
   all_goals (try (refine ⟨.inr rfl,?_⟩;simp [Hands,Tryz.results188]))
  ·rw [other h1 (fun h=>absurd h h3)]
   refine ent Tryz.mix Tryz.func188 Tryz.ntmps188 ?_
   have W:=And.intro hk2 (And.intro h1 h3)
   repeat' first|refine we ?_|(refine sq (fun hc=>?_) (fun hc=>?_)<;>try exact hc.elim)|fail
   all_goals (try (refine ⟨.inr rfl,?_⟩;simp [Hands,Tryz.results188]))
theorem aRd [aA Tryz.prog] (b:aS) (m:Str) (hs:aI b≤274877906944):OkG Tryz.prog 234 [.give (.agg (aL .own b)),.view (.str m)] (.agg (aL .own {b with opens:=kQ b m (b.opens.length - 1)})):=by
 have hn:b.nodes.length≤274877906944∧b.opens.length≤274877906944:=by simp only [aI,szL] at hs;omega
 have hw0:IntKind.i64.wrap ((b.opens.length:Int) - 1)=(b.opens.length:Int) - 1:=by rw [wrap64]<;>omega
 have hw1:IntKind.i64.wrap ((b.nodes.length:Int) - 1)=(b.nodes.length:Int) - 1:=by rw [wrap64]<;>omega
 have cI:=fun n lo hi=>gM n lo hi
 refine iE Tryz.mix Tryz.func234 Tryz.ntmps234 ?_
 have W:=hw0
 repeat' first|refine we ?_|(refine sq (fun hc=>?_) (fun hc=>?_)<;>try exact hc.elim)|fail
 refine aM (ι:={q:Int // -1≤q∧q < (b.opens.length:Int)∧kQ b m q.toNat=kQ b m (b.opens.length - 1)}) (fun t o i=>⟨aO t [(5,.int .i64 i.1),(6,.undef)],o⟩) (fun i=>i.1.toNat) ⟨(b.opens.length:Int) - 1,by omega,by omega,by congr 1;omega⟩ (aH (by simp) (by simp)) ?_
 rintro ⟨q,hq1,hq2,hq3⟩ K1 hK1
 simp only [aO,List.set_cons_succ,List.set_cons_zero] at hK1⊢
 by_cases h1:(0:Int) < q
 ·obtain ⟨k,rfl⟩:∃k:Nat,q=((k+1:Nat):Int):=⟨(q - 1).toNat,by omega⟩
  have hlt:k+1 < b.opens.length:=by omega
  have hg:=List.getElem?_eq_getElem hlt
  have hm1:IntKind.i64.wrap (((k+1:Nat):Int) - 1)=((k:Nat):Int):=by rw [wrap64]<;>omega
  rw [show (((k+1:Nat):Int)).toNat=k+1 from by omega] at hq3
  generalize hnn:b.opens[k+1]=n at *
  cases hh:rC b m n
  ·rw [aFs hg hh] at hq3
   by_cases h01:0≤n∧n < (b.nodes.length:Int)
   ·obtain ⟨z,rfl⟩:=Int.eq_ofNat_of_zero_le h01.1
    have hm:z < b.nodes.length:=by omega
    rw [aGu hm] at hh
    have hgm:=List.getElem?_eq_getElem hm
    have hne:(b.nodes[z].name == m)=false:=by simpa using hh
    have c1:=cI ((z:Nat):Int) 0 ((b.nodes.length:Int) - 1)
    rw [show (decide ((0:Int)≤((z:Nat):Int))&&decide (((z:Nat):Int)≤(b.nodes.length:Int) - 1))=true from by simp;omega] at c1
    have W:=And.intro hg (And.intro hm1 (And.intro hw1 (And.intro hgm (And.intro hm (And.intro hne (And.intro h1 hn))))))
    have V:=hlt
    repeat' first|refine we ?_|(refine sq (fun hc=>?_) (fun hc=>?_)<;>try exact hc.elim)|fail
    all_goals exact hK1 _ ⟨((k:Nat):Int),by omega,by omega,by simpa using hq3⟩ (aH (by simp) (by simp)) (by first|omega|(simp only;omega)|(simp;omega))
   ·have c1:=cI n 0 ((b.nodes.length:Int) - 1)
    rw [show (decide ((0:Int)≤n)&&decide (n≤(b.nodes.length:Int) - 1))=false from by simp;omega] at c1
    have W:=And.intro hg (And.intro hm1 (And.intro hw1 (And.intro h1 hn)))
    have V:=hlt
    repeat' first|refine we ?_|(refine sq (fun hc=>?_) (fun hc=>?_)<;>try exact hc.elim)|fail
    all_goals exact hK1 _ ⟨((k:Nat):Int),by omega,by omega,by simpa using hq3⟩ (aH (by simp) (by simp)) (by first|omega|(simp only;omega)|(simp;omega))
  ·rw [aH8 hg hh] at hq3
   have h01:0≤n∧n < (b.nodes.length:Int):=Classical.byContradiction fun h=>by rw [aS3 h] at hh;cases hh
   obtain ⟨z,rfl⟩:=Int.eq_ofNat_of_zero_le h01.1
   have hm:z < b.nodes.length:=by omega
   rw [aGu hm] at hh
   have hgm:=List.getElem?_eq_getElem hm
   have hne:(b.nodes[z].name == m)=true:=by simpa using hh
   have c1:=cI ((z:Nat):Int) 0 ((b.nodes.length:Int) - 1)
   rw [show (decide ((0:Int)≤((z:Nat):Int))&&decide (((z:Nat):Int)≤(b.nodes.length:Int) - 1))=true from by simp;omega] at c1
   rw [←hq3]
   have W:=And.intro hg (And.intro hm1 (And.intro hw1 (And.intro hgm (And.intro hm (And.intro hne (And.intro h1 hn))))))
   have V:=hlt
   repeat' first|refine we ?_|(refine sq (fun hc=>?_) (fun hc=>?_)<;>try exact hc.elim)|fail
   all_goals (try (refine ⟨by first|exact .inr rfl|exact .inl rfl,?_⟩;simp [dK,bQ,bN,rowOf,Tryz.results234,List.map_take]))
   all_goals (rw [←List.map_take];exact aJ4 _)
 ·have hq4:kQ b m (b.opens.length - 1)=b.opens:=by
   rw [←hq3,show q.toNat=0 by omega];rfl
  rw [hq4]
  have W:=h1
  repeat' first|refine we ?_|(refine sq (fun hc=>?_) (fun hc=>?_)<;>try exact hc.elim)|fail
  all_goals (try (refine ⟨by first|exact .inr rfl|exact .inl rfl,?_⟩;simp [dK,bQ,bN,rowOf,Tryz.results234]))
end Go.Proofs.YtlnblmmohpcceaaGreatDoor
