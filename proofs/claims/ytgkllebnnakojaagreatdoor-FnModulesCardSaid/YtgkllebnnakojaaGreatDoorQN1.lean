/-
  Proved here: steps towards the statement of this claim, text QN1.
  No condition beyond what each statement spells out.
-/
import Derived.Test.YtgkllebnnakojaaGreatDoorQA0
import Derived.Test.YtgkllebnnakojaaGreatDoorF3
import Derived.Test.YtgkllebnnakojaaGreatDoorF6
import Derived.Test.YtgkllebnnakojaaGreatDoorQD5
import Derived.Test.YtgkllebnnakojaaGreatDoorQS1
import Derived.Test.YtgkllebnnakojaaGreatDoorQ2
import Derived.Test.YtgkllebnnakojaaGreatDoorF8
import Derived.Test.YtgkllebnnakojaaGreatDoorQFI
set_option linter.all false
set_option maxRecDepth 4000
set_option maxHeartbeats 4000000
namespace Go.Proofs.YtgkllebnnakojaaGreatDoor
open Go.Aw
def places {α:Type} (f:α→Bool):Nat→List α→List Int
 |_,[]=>[]
 |i,x::xs=>if f x then (i:Int)::places f (i+1) xs else places f (i+1) xs
theorem aCs {α:Type} (f:α→Bool) (x:α):∀(l:List α) (i:Nat),places f i (l++[x])=places f i l++(if f x then [((i+l.length:Nat):Int)] else [])
 |[],i=>by simp only [List.nil_append,places];cases f x<;>simp
 |y::ys,i=>by
  simp only [List.cons_append,places]
  rw [aCs f x ys (i+1)]
  have:i+1+ys.length=i+(y::ys).length:=by simp;omega
  rw [this]
  cases f y<;>simp
theorem aL2 {α:Type} (f:α→Bool) (l:List α) (k:Nat) (h:k < l.length):places f 0 (l.take (k+1))=places f 0 (l.take k)++(if f l[k] then [(k:Int)] else []):=by
 rw [List.take_succ_eq_append_getElem h,aCs]
 have:(l.take k).length=k:=by simp;omega
 rw [this,Nat.zero_add]
theorem zR {α:Type} (f:α→Bool):∀(l:List α) (i:Nat),(places f i l).length≤l.length
 |[],_=>by simp [places]
 |x::xs,i=>by
  simp only [places]
  have:=zR f xs (i+1)
  cases f x<;>simp<;>omega
def oV (s:bQ):Bool:= !s.done
theorem aE4 [aB Tryz.prog] (p:aJ) (hl:p.mods.length≤16777216):Ok Tryz.prog 40 [.agg (aL .view p)] (.sl .own 1 ((places oV 0 p.mods).map kM)):=by
 refine ent Tryz.mix Tryz.func40 Tryz.ntmps40 ?_
 have W:=trivial
 repeat' first|refine st ?_|(refine nx ?_;refine so ?_)|(refine cx ?_;refine sc (fun hc=>?_) (fun hc=>?_)<;>try exact hc.elim)|(refine lx ?_;refine sp (fun hc=>?_) (fun hc=>?_)<;>try exact hc.elim)|refine sx ?_ ?_|refine sy ?_ ?_|fail
 refine aT (ι:={q:Nat×Nat // q.1≤p.mods.length∧1≤q.2}) (fun t o i=>⟨bB t [(3,.obj 1 i.1.2),(4,.int .i64 i.1.1)],o.take 1++[⟨true,false,1,i.1.2,(places oV 0 (p.mods.take i.1.1)).map kM⟩]⟩)
  (fun i=>p.mods.length - i.1.1) ⟨(0,1),by simp,by simp⟩ (aI (by simp [places]) (by simp)) ?_
 rintro ⟨⟨k,v⟩,hk,hv⟩ K1 hK1
 simp only at hk hv
 simp only [bB,List.set_cons_succ,List.set_cons_zero,List.take_succ_cons,List.take_zero,List.cons_append,List.nil_append] at hK1⊢
 have hk1:IntKind.i64.wrap ((k:Int)+1)=((k+1:Nat):Int):=by rw [wrap64]<;>omega
 by_cases hlt:k < p.mods.length
 ·have hg:=List.getElem?_eq_getElem hlt
  have hps:=aL2 oV p.mods k hlt
  have hpl:=zR oV (p.mods.take k) 0
  have htl:(p.mods.take k).length=k:=by simp;omega
  have hb1:((places oV 0 (p.mods.take k)).length+1) * 8≤140737488355328:=by omega
  have hb2:(places oV 0 (p.mods.take k)).length+1≤9223372036854775807:=by omega
  have hb3:(places oV 0 (p.mods.take k)).length≤9223372036854775806:=by omega
  have W:=And.intro hk1 (And.intro hg (And.intro hlt (And.intro hb1 (And.intro hb2 hb3))))
  repeat' first|refine st ?_|(refine nx ?_;refine so ?_)|(refine cx ?_;refine sc (fun hc=>?_) (fun hc=>?_)<;>try exact hc.elim)|(refine lx ?_;refine sp (fun hc=>?_) (fun hc=>?_)<;>try exact hc.elim)|refine sx ?_ ?_|refine sy ?_ ?_|fail
  ·refine hK1 _ ⟨(k+1,v+1),by simp only;omega,by simp only;omega⟩ (aO 2 (by simp [hps,oV,hc]) (by simp) (by simp) (by simp)) (by simp only;omega)
  ·refine hK1 _ ⟨(k+1,v),by simp only;omega,hv⟩ (aO 2 (by simp [hps,oV,hc]) (by simp) (by simp) (by simp)) (by simp only;omega)
 ·have htk:p.mods.take k=p.mods:=List.take_of_length_le (by omega)
  rw [htk]
  have W:=hk1
  repeat' first|refine st ?_|(refine nx ?_;refine so ?_)|(refine cx ?_;refine sc (fun hc=>?_) (fun hc=>?_)<;>try exact hc.elim)|(refine lx ?_;refine sp (fun hc=>?_) (fun hc=>?_)<;>try exact hc.elim)|refine sx ?_ ?_|refine sy ?_ ?_|fail
  all_goals (try (refine ⟨.inr rfl,?_⟩;simp [Hands,Tryz.results40]))
theorem aEw {α:Type} (f:α→Bool):∀(l:List α) (j:Nat) (i:Int),i∈places f j l→(j:Int)≤i∧i < j+l.length
 |[],j,i,h=>by simp [places] at h
 |x::xs,j,i,h=>by
  simp only [places] at h
  have ih:=aEw f xs (j+1) i
  simp only [List.length_cons]
  split at h
  ·rcases List.mem_cons.1 h with rfl|h
   ·omega
   ·have:=ih h;omega
  ·have:=ih h;omega
def aYd:gG:=⟨0,⟨[],[]⟩,[],[]⟩
def eU (p:aJ) (m:bQ):gG:=⟨5,m.to,p.addr.host,[]⟩
def aA9 (p:aJ) (i:Int):gG:=match p.mods[i.toNat]? with
 |some s=>eU p s
 |none=>aYd
theorem uN {α:Type} {l:List α} {i:Int} (h0:0≤i) (h1:i < l.length):∃s,l[i.toNat]? =some s:=⟨l[i.toNat]'(by omega),List.getElem?_eq_getElem _⟩
theorem at_eq {α:Type} {l:List α} {k:Nat} {s:α} (h:k < l.length) (hg:l[k]? =some s):l[k]=s:=by
 rw [List.getElem?_eq_getElem h] at hg
 exact Option.some.inj hg
theorem aB9 [aB Tryz.prog] (p:aJ) (i:Int) (h0:0≤i) (h1:i < p.mods.length) (hl:p.mods.length≤1099511627776):Ok Tryz.prog 70 [.agg (aL .view p),.int .i64 i] (.agg (iM (aA9 p i))):=by
 obtain ⟨s,hg⟩:=uN h0 h1
 have e:aA9 p i=eU p s:=by simp [aA9,hg]
 rw [e]
 obtain rfl:p.mods[i.toNat]'(by omega)=s:=at_eq (by omega) hg
 have c1:=mD i 0 (p.mods.length - 1)
 rw [show (decide (0≤i)&&decide (i≤(p.mods.length:Int) - 1))=true by simp;omega] at c1
 refine ent Tryz.mix Tryz.func70 Tryz.ntmps70 ?_
 have W:=And.intro hg (And.intro h0 h1)
 repeat' first|refine st ?_|(refine nx ?_;refine so ?_)|(refine cx ?_;refine sc (fun hc=>?_) (fun hc=>?_)<;>try exact hc.elim)|(refine lx ?_;refine sp (fun hc=>?_) (fun hc=>?_)<;>try exact hc.elim)|refine sx ?_ ?_|refine sy ?_ ?_|fail
 all_goals (try (refine ⟨.inr rfl,?_⟩;simp [Hands,Tryz.results70,eU]))
theorem aA1 (p:dE) (r:gG) (x:aZ):(kX p r x).length≤400:=by
 unfold kX
 split
 ·rename_i h
  unfold gJ at h
  split at h
  ·omega
  ·split at h
   ·omega
   ·rename_i h2
    have h3:eG x=true:=by
     cases h4:eG x with
     |true=>rfl
     |false=>exact absurd (.inl h4) h2
    simp only [eG,Bool.and_eq_true,decide_eq_true_eq] at h3
    exact h3.1.1.2
 ·simp
def uL (q:aJ):List aA:=[⟨true,false,1,1,q.policy.scripts.map bZ⟩,⟨true,false,1,1,q.policy.styles.map bZ⟩,⟨true,false,1,1,q.policy.images.map bZ⟩,⟨true,false,4,1,q.queue.map (dR .own)⟩,⟨true,false,4,1,q.builder.nodes.map (eB .own)⟩,⟨true,false,1,1,q.builder.opens.map kM⟩,⟨true,false,8,1,q.slots.map uE⟩,⟨true,false,5,1,q.mods.map dQ⟩,⟨true,false,2,1,q.entries.map aD⟩,⟨true,false,2,1,q.ran.map aD⟩,⟨true,false,1,1,q.log.map bZ⟩]
def sQ (b:Nat) (q:aJ):List AV:=[.str q.addr.host,.str q.addr.path,.bool q.policy.isSet,.obj b 1,.obj (b+1) 1,.obj (b+2) 1,.str q.policy.nonce,.str q.tok.rest,.obj (b+3) 1,.bool q.ended,.obj (b+4) 1,.obj (b+5) 1,.obj (b+6) 1,.obj (b+7) 1,.obj (b+8) 1,.int .i64 q.block,.int .i64 q.inline,.int .i64 q.deferred,.int .i64 q.entered,.obj (b+9) 1,.obj (b+10) 1,.bool q.loaded]
theorem mG {α:Type} {f:α→List AV} {i j:Nat} (h:∀x,jO i j (f x)=f x):∀l:List α,gW i j (l.map f)=l.map f
 |[]=>rfl
 |x::l=>by simp only [List.map_cons,gW,h,mG h l]
@[simp] theorem aYn (i j:Nat) (l:List Str):gW i j (l.map bZ)=l.map bZ:=mG (fun _=>rfl) l
@[simp] theorem aYq (i j:Nat) (l:List Int):gW i j (l.map kM)=l.map kM:=mG (fun _=>rfl) l
@[simp] theorem aXn (i j:Nat) (l:List aC):gW i j (l.map aD)=l.map aD:=mG (fun _=>rfl) l
@[simp] theorem aXx (i j:Nat) (l:List uJ):gW i j (l.map qM)=l.map qM:=mG (fun _=>rfl) l
@[simp] theorem aX0 (i j:Nat) (l:List yV):gW i j (l.map uE)=l.map uE:=mG (fun _=>rfl) l
@[simp] theorem aWa (i j:Nat) (l:List bQ):gW i j (l.map dQ)=l.map dQ:=mG (fun _=>rfl) l
@[simp] theorem aWr (i j:Nat) (l:List kG):gW i j (l.map (dR .view))=l.map (dR .view):=mG (fun _=>by simp) l
@[simp] theorem aW8 (i j:Nat) (l:List mJ):gW i j (l.map (eB .view))=l.map (eB .view):=mG (fun _=>by simp) l
end Go.Proofs.YtgkllebnnakojaaGreatDoor
