/-
  Proved here: steps towards the statement of this claim, text QN1.
  No condition beyond what each statement spells out.
-/
import Derived.Test.YtajppdidkjbmkaaGreatDoorQA0
import Derived.Test.YtajppdidkjbmkaaGreatDoorF3
import Derived.Test.YtajppdidkjbmkaaGreatDoorF6
import Derived.Test.YtajppdidkjbmkaaGreatDoorQDR8
import Derived.Test.YtajppdidkjbmkaaGreatDoorJ7
import Derived.Test.YtajppdidkjbmkaaGreatDoorQS1
import Derived.Test.YtajppdidkjbmkaaGreatDoorQDRG
import Derived.Test.YtajppdidkjbmkaaGreatDoorF8
set_option linter.all false
set_option maxRecDepth 4000
set_option maxHeartbeats 4000000
namespace Go.Proofs.YtajppdidkjbmkaaGreatDoor
open Go.Aw
def places {α:Type} (f:α→Bool):Nat→List α→List Int
 |_,[]=>[]
 |i,x::xs=>if f x then (i:Int)::places f (i+1) xs else places f (i+1) xs
theorem aC8 {α:Type} (f:α→Bool) (x:α):∀(l:List α) (i:Nat),places f i (l++[x])=places f i l++(if f x then [((i+l.length:Nat):Int)] else [])
 |[],i=>by simp only [List.nil_append,places];cases f x<;>simp
 |y::ys,i=>by
  simp only [List.cons_append,places]
  rw [aC8 f x ys (i+1)]
  have:i+1+ys.length=i+(y::ys).length:=by simp;omega
  rw [this]
  cases f y<;>simp
theorem aC6 {α:Type} (f:α→Bool) (l:List α) (k:Nat) (h:k < l.length):places f 0 (l.take (k+1))=places f 0 (l.take k)++(if f l[k] then [(k:Int)] else []):=by
 rw [List.take_succ_eq_append_getElem h,aC8]
 have:(l.take k).length=k:=by simp;omega
 rw [this,Nat.zero_add]
theorem uO {α:Type} (f:α→Bool):∀(l:List α) (i:Nat),(places f i l).length≤l.length
 |[],_=>by simp [places]
 |x::xs,i=>by
  simp only [places]
  have:=uO f xs (i+1)
  cases f x<;>simp<;>omega
def iC (s:bN):Bool:= !s.done
theorem rA [aB Tryz.prog] (p:aY) (hl:p.mods.length≤16777216):Ok Tryz.prog 15 [.agg (aI .view p)] (.sl .own 1 ((places iC 0 p.mods).map gY)):=by
 refine ent Tryz.mix Tryz.func15 Tryz.ntmps15 ?_
 have W:=trivial
 repeat' first|refine st ?_|(refine nx ?_;refine so ?_)|(refine cx ?_;refine sc (fun hc=>?_) (fun hc=>?_)<;>try exact hc.elim)|(refine lx ?_;refine sp (fun hc=>?_) (fun hc=>?_)<;>try exact hc.elim)|refine sx ?_ ?_|refine sy ?_ ?_|fail
 refine aJ (ι:={q:Nat×Nat // q.1≤p.mods.length∧1≤q.2}) (fun t o i=>⟨aS t [(3,.obj 1 i.1.2),(4,.int .i64 i.1.1)],o.take 1++[⟨true,false,1,i.1.2,(places iC 0 (p.mods.take i.1.1)).map gY⟩]⟩)
  (fun i=>p.mods.length - i.1.1) ⟨(0,1),by simp,by simp⟩ (aD (by simp [places]) (by simp)) ?_
 rintro ⟨⟨k,v⟩,hk,hv⟩ K1 hK1
 simp only at hk hv
 simp only [aS,List.set_cons_succ,List.set_cons_zero,List.take_succ_cons,List.take_zero,List.cons_append,List.nil_append] at hK1⊢
 have hk1:IntKind.i64.wrap ((k:Int)+1)=((k+1:Nat):Int):=by rw [wrap64]<;>omega
 by_cases hlt:k < p.mods.length
 ·have hg:=List.getElem?_eq_getElem hlt
  have hps:=aC6 iC p.mods k hlt
  have hpl:=uO iC (p.mods.take k) 0
  have htl:(p.mods.take k).length=k:=by simp;omega
  have hb1:((places iC 0 (p.mods.take k)).length+1) * 8≤140737488355328:=by omega
  have hb2:(places iC 0 (p.mods.take k)).length+1≤9223372036854775807:=by omega
  have hb3:(places iC 0 (p.mods.take k)).length≤9223372036854775806:=by omega
  have W:=And.intro hk1 (And.intro hg (And.intro hlt (And.intro hb1 (And.intro hb2 hb3))))
  repeat' first|refine st ?_|(refine nx ?_;refine so ?_)|(refine cx ?_;refine sc (fun hc=>?_) (fun hc=>?_)<;>try exact hc.elim)|(refine lx ?_;refine sp (fun hc=>?_) (fun hc=>?_)<;>try exact hc.elim)|refine sx ?_ ?_|refine sy ?_ ?_|fail
  ·refine hK1 _ ⟨(k+1,v+1),by simp only;omega,by simp only;omega⟩ (aQ 2 (by simp [hps,iC,hc]) (by simp) (by simp) (by simp)) (by simp only;omega)
  ·refine hK1 _ ⟨(k+1,v),by simp only;omega,hv⟩ (aQ 2 (by simp [hps,iC,hc]) (by simp) (by simp) (by simp)) (by simp only;omega)
 ·have htk:p.mods.take k=p.mods:=List.take_of_length_le (by omega)
  rw [htk]
  have W:=hk1
  repeat' first|refine st ?_|(refine nx ?_;refine so ?_)|(refine cx ?_;refine sc (fun hc=>?_) (fun hc=>?_)<;>try exact hc.elim)|(refine lx ?_;refine sp (fun hc=>?_) (fun hc=>?_)<;>try exact hc.elim)|refine sx ?_ ?_|refine sy ?_ ?_|fail
  all_goals (try (refine ⟨.inr rfl,?_⟩;simp [Hands,Tryz.results15]))
theorem aFj [aB Tryz.prog] (p:aY) (hl:p.mods.length≤16777216):Ok Tryz.prog 14 [.agg (aI .view p)] (.sl .own 1 ((places iC 0 p.mods).map gY)):=by
 refine ent Tryz.mix Tryz.func14 Tryz.ntmps14 ?_
 have W:=trivial
 repeat' first|refine st ?_|(refine nx ?_;refine so ?_)|(refine cx ?_;refine sc (fun hc=>?_) (fun hc=>?_)<;>try exact hc.elim)|(refine lx ?_;refine sp (fun hc=>?_) (fun hc=>?_)<;>try exact hc.elim)|refine sx ?_ ?_|refine sy ?_ ?_|fail
 refine aJ (ι:={q:Nat×Nat // q.1≤p.mods.length∧1≤q.2}) (fun t o i=>⟨aS t [(3,.obj 1 i.1.2),(10,.int .i64 i.1.1)],o.take 1++[⟨true,false,1,i.1.2,(places iC 0 (p.mods.take i.1.1)).map gY⟩]⟩)
  (fun i=>p.mods.length - i.1.1) ⟨(0,1),by simp,by simp⟩ (aD (by simp [places]) (by simp)) ?_
 rintro ⟨⟨k,v⟩,hk,hv⟩ K1 hK1
 simp only at hk hv
 simp only [aS,List.set_cons_succ,List.set_cons_zero,List.take_succ_cons,List.take_zero,List.cons_append,List.nil_append] at hK1⊢
 have hk1:IntKind.i64.wrap ((k:Int)+1)=((k+1:Nat):Int):=by rw [wrap64]<;>omega
 by_cases hlt:k < p.mods.length
 ·have hg:=List.getElem?_eq_getElem hlt
  have hps:=aC6 iC p.mods k hlt
  have hpl:=uO iC (p.mods.take k) 0
  have htl:(p.mods.take k).length=k:=by simp;omega
  have hb1:((places iC 0 (p.mods.take k)).length+1) * 8≤140737488355328:=by omega
  have hb2:(places iC 0 (p.mods.take k)).length+1≤9223372036854775807:=by omega
  have hb3:(places iC 0 (p.mods.take k)).length≤9223372036854775806:=by omega
  have W:=And.intro hk1 (And.intro hg (And.intro hlt (And.intro hb1 (And.intro hb2 hb3))))
  repeat' first|refine st ?_|(refine nx ?_;refine so ?_)|(refine cx ?_;refine sc (fun hc=>?_) (fun hc=>?_)<;>try exact hc.elim)|(refine lx ?_;refine sp (fun hc=>?_) (fun hc=>?_)<;>try exact hc.elim)|refine sx ?_ ?_|refine sy ?_ ?_|fail
  ·refine hK1 _ ⟨(k+1,v+1),by simp only;omega,by simp only;omega⟩ (aQ 2 (by simp [hps,iC,hc]) (by simp) (by simp) (by simp)) (by simp only;omega)
  ·refine hK1 _ ⟨(k+1,v),by simp only;omega,hv⟩ (aQ 2 (by simp [hps,iC,hc]) (by simp) (by simp) (by simp)) (by simp only;omega)
 ·have htk:p.mods.take k=p.mods:=List.take_of_length_le (by omega)
  rw [htk]
  have W:=hk1
  repeat' first|refine st ?_|(refine nx ?_;refine so ?_)|(refine cx ?_;refine sc (fun hc=>?_) (fun hc=>?_)<;>try exact hc.elim)|(refine lx ?_;refine sp (fun hc=>?_) (fun hc=>?_)<;>try exact hc.elim)|refine sx ?_ ?_|refine sy ?_ ?_|fail
  all_goals (try (refine ⟨.inr rfl,?_⟩;simp [Hands,Tryz.results14]))
theorem aAa {α:Type} (f:α→Bool):∀(l:List α) (j:Nat) (i:Int),i∈places f j l→(j:Int)≤i∧i < j+l.length
 |[],j,i,h=>by simp [places] at h
 |x::xs,j,i,h=>by
  simp only [places] at h
  have ih:=aAa f xs (j+1) i
  simp only [List.length_cons]
  split at h
  ·rcases List.mem_cons.1 h with rfl|h
   ·omega
   ·have:=ih h;omega
  ·have:=ih h;omega
def aYv:eT:=⟨0,⟨[],[]⟩,[],[]⟩
def bU (p:aY) (m:bN):eT:=⟨5,m.to,p.addr.host,[]⟩
def lT (p:aY) (i:Int):eT:=match p.mods[i.toNat]? with
 |some s=>bU p s
 |none=>aYv
theorem sN {α:Type} {l:List α} {i:Int} (h0:0≤i) (h1:i < l.length):∃s,l[i.toNat]? =some s:=⟨l[i.toNat]'(by omega),List.getElem?_eq_getElem _⟩
theorem at_eq {α:Type} {l:List α} {k:Nat} {s:α} (h:k < l.length) (hg:l[k]? =some s):l[k]=s:=by
 rw [List.getElem?_eq_getElem h] at hg
 exact Option.some.inj hg
theorem aC1 [aB Tryz.prog] (p:aY) (i:Int) (h0:0≤i) (h1:i < p.mods.length) (hl:p.mods.length≤1099511627776):Ok Tryz.prog 49 [.agg (aI .view p),.int .i64 i] (.agg (dL (lT p i))):=by
 obtain ⟨s,hg⟩:=sN h0 h1
 have e:lT p i=bU p s:=by simp [lT,hg]
 rw [e]
 obtain rfl:p.mods[i.toNat]'(by omega)=s:=at_eq (by omega) hg
 have c1:=mZ i 0 (p.mods.length - 1)
 rw [show (decide (0≤i)&&decide (i≤(p.mods.length:Int) - 1))=true by simp;omega] at c1
 refine ent Tryz.mix Tryz.func49 Tryz.ntmps49 ?_
 have W:=And.intro hg (And.intro h0 h1)
 repeat' first|refine st ?_|(refine nx ?_;refine so ?_)|(refine cx ?_;refine sc (fun hc=>?_) (fun hc=>?_)<;>try exact hc.elim)|(refine lx ?_;refine sp (fun hc=>?_) (fun hc=>?_)<;>try exact hc.elim)|refine sx ?_ ?_|refine sy ?_ ?_|fail
 all_goals (try (refine ⟨.inr rfl,?_⟩;simp [Hands,Tryz.results49,bU]))
theorem pG [aB Tryz.prog] (p:aY) (i:Int) (h0:0≤i) (h1:i < p.mods.length) (hl:p.mods.length≤1099511627776):Ok Tryz.prog 35 [.agg (aI .view p),.int .i64 i] (.agg (dL (lT p i))):=by
 obtain ⟨s,hg⟩:=sN h0 h1
 have e:lT p i=bU p s:=by simp [lT,hg]
 rw [e]
 obtain rfl:p.mods[i.toNat]'(by omega)=s:=at_eq (by omega) hg
 have n0:¬i < 0:=by omega
 have n1:¬(p.mods.length:Int)≤i:=by omega
 refine ent Tryz.mix Tryz.func35 Tryz.ntmps35 ?_
 have W:=And.intro hg (And.intro h0 (And.intro h1 (And.intro n0 n1)))
 repeat' first|refine st ?_|(refine nx ?_;refine so ?_)|(refine cx ?_;refine sc (fun hc=>?_) (fun hc=>?_)<;>try exact hc.elim)|(refine lx ?_;refine sp (fun hc=>?_) (fun hc=>?_)<;>try exact hc.elim)|refine sx ?_ ?_|refine sy ?_ ?_|fail
 all_goals (try (refine ⟨.inr rfl,?_⟩;simp [Hands,Tryz.results35,bU]))
theorem wY (p:bR) (r:eT) (x:bA):(gZ p r x).length≤400:=by
 unfold gZ
 split
 ·rename_i h
  unfold dI at h
  split at h
  ·omega
  ·split at h
   ·omega
   ·rename_i h2
    have h3:dS x=true:=by
     cases h4:dS x with
     |true=>rfl
     |false=>exact absurd (.inl h4) h2
    simp only [dS,Bool.and_eq_true,decide_eq_true_eq] at h3
    exact h3.1.1.2
 ·simp
def lJ (q:aY):List aA:=[⟨true,false,1,1,q.policy.scripts.map aU⟩,⟨true,false,1,1,q.policy.styles.map aU⟩,⟨true,false,1,1,q.policy.images.map aU⟩,⟨true,false,4,1,q.queue.map (dG .own)⟩,⟨true,false,4,1,q.builder.nodes.map (dW .own)⟩,⟨true,false,1,1,q.builder.opens.map gY⟩,⟨true,false,8,1,q.slots.map rY⟩,⟨true,false,5,1,q.mods.map bL⟩,⟨true,false,2,1,q.entries.map aL⟩,⟨true,false,2,1,q.ran.map aL⟩,⟨true,false,1,1,q.log.map aU⟩]
def kJ (b:Nat) (q:aY):List AV:=[.str q.addr.host,.str q.addr.path,.bool q.policy.isSet,.obj b 1,.obj (b+1) 1,.obj (b+2) 1,.str q.policy.nonce,.str q.tok.rest,.obj (b+3) 1,.bool q.ended,.obj (b+4) 1,.obj (b+5) 1,.obj (b+6) 1,.obj (b+7) 1,.obj (b+8) 1,.int .i64 q.block,.int .i64 q.inline,.int .i64 q.deferred,.int .i64 q.entered,.obj (b+9) 1,.obj (b+10) 1,.bool q.loaded]
theorem nH {α:Type} {f:α→List AV} {i j:Nat} (h:∀x,qH i j (f x)=f x):∀l:List α,lL i j (l.map f)=l.map f
 |[]=>rfl
 |x::l=>by simp only [List.map_cons,lL,h,nH h l]
@[simp] theorem aZl (i j:Nat) (l:List Str):lL i j (l.map aU)=l.map aU:=nH (fun _=>rfl) l
@[simp] theorem aZk (i j:Nat) (l:List Int):lL i j (l.map gY)=l.map gY:=nH (fun _=>rfl) l
@[simp] theorem aY7 (i j:Nat) (l:List aH):lL i j (l.map aL)=l.map aL:=nH (fun _=>rfl) l
@[simp] theorem aYw (i j:Nat) (l:List sV):lL i j (l.map oN)=l.map oN:=nH (fun _=>rfl) l
@[simp] theorem aYy (i j:Nat) (l:List wT):lL i j (l.map rY)=l.map rY:=nH (fun _=>rfl) l
@[simp] theorem aYf (i j:Nat) (l:List bN):lL i j (l.map bL)=l.map bL:=nH (fun _=>rfl) l
@[simp] theorem aX9 (i j:Nat) (l:List jH):lL i j (l.map (dG .view))=l.map (dG .view):=nH (fun _=>by simp) l
@[simp] theorem aYo (i j:Nat) (l:List mK):lL i j (l.map (dW .view))=l.map (dW .view):=nH (fun _=>by simp) l
end Go.Proofs.YtajppdidkjbmkaaGreatDoor
