/-
  Proved here: contracts of the copies of a builder.
  No condition beyond what each statement spells out.
-/
import Derived.Test.YtkidoegojckmiaaGreatDoorAQP5
import Derived.Test.YtkidoegojckmiaaGreatDoorAF3
import Derived.Test.YtkidoegojckmiaaGreatDoorAQY4
import Derived.Test.YtkidoegojckmiaaGreatDoorAQJ6
set_option linter.all false
set_option maxRecDepth 8000
set_option maxHeartbeats 8000000
namespace Go.Proofs.YtkidoegojckmiaaGreatDoor
open Go.Aw
theorem aGc (u:List Nat) (b:Bool) (l:List lJ):rtr (dW u) b (l.map (dE .view))=l.map (dE .view):=by
 induction l with
 |nil=>rfl
 |cons x l ih=>rw [List.map_cons,rtr,ih];simp [rtc,rt,dE,dW]
theorem aFj [aB Tryz.prog] (b:gD) (hs:jP b≤274877906944):Ok Tryz.prog 60 [.agg (dG .view b)] (.agg (dG .own b)):=by
 simp only [jP,szL] at hs
 obtain ⟨l,opens⟩:=b
 simp only at hs
 refine ent Tryz.mix Tryz.func60 Tryz.ntmps60 ?_
 have W:=trivial
 repeat' first|refine st ?_|(refine nx ?_;first|refine se ?_|refine so ?_)|(refine cx ?_;refine sc (fun hc=>?_) (fun hc=>?_)<;>try exact hc.elim)|(refine lx ?_;refine sp (fun hc=>?_) (fun hc=>?_)<;>try exact hc.elim)|refine sx ?_ ?_|refine sy ?_ ?_|fail
 refine aJ (ι:={q:Nat×Nat // q.1≤l.length∧1≤q.2}) (fun t o i=>⟨aL t [(14,.int .i64 i.1.1),(5,.undef),(10,.undef)],o.take 3++[⟨true,true,2,0,[[.obj 4 i.1.2,.obj 2 2]]⟩,⟨true,false,4,i.1.2,(l.take i.1.1).map (dE .own)⟩]⟩)
  (fun i=>l.length - i.1.1) ⟨(0,1),by simp,by simp⟩ (nR 3 0 0 (ob:=⟨true,true,2,0,[[.sl .own 4 [],.obj 2 2]]⟩) (by rfl) (by rfl) (by rfl) (by simp) (by rfl) (by rfl) (by simp) (by simp [rtc,rt,dW,aGc])) ?_
 rintro ⟨⟨k,v⟩,hk,hv⟩ K1 hK1
 simp only at hk hv
 simp only [aL,List.set_cons_succ,List.set_cons_zero,List.take_succ_cons,List.take_zero,List.cons_append,List.nil_append] at hK1⊢
 have hk1:IntKind.i64.wrap ((k:Int)+1)=((k+1:Nat):Int):=by rw [wrap64]<;>omega
 by_cases hlt:k < l.length
 ·have hg:=List.getElem?_eq_getElem hlt
  have hps:=yR (dE .own) l k hlt
  have hz:=dJ qJ l k hlt
  simp only [qJ,szL] at hz
  have hgl:((l.take k).map (dE .own)).length=k:=by simp;omega
  generalize (l.take k).map (dE .own)=g at *
  have W:=And.intro hk1 (And.intro hg (And.intro hlt hgl))
  repeat' first|refine st ?_|(refine nx ?_;first|refine se ?_|refine so ?_)|(refine cx ?_;refine sc (fun hc=>?_) (fun hc=>?_)<;>try exact hc.elim)|(refine lx ?_;refine sp (fun hc=>?_) (fun hc=>?_)<;>try exact hc.elim)|refine sx ?_ ?_|refine sy ?_ ?_|fail
  all_goals refine hK1 _ ⟨(k+1,v+1),by simp only;omega,by simp only;omega⟩ (aG 5 (by simp [hps]) (by simp) (by simp) (by simp)) (by simp only;omega)
 ·have htk:l.take k=l:=List.take_of_length_le (by omega)
  rw [htk]
  have W:=hk1
  repeat' first|refine st ?_|(refine nx ?_;first|refine se ?_|refine so ?_)|(refine cx ?_;refine sc (fun hc=>?_) (fun hc=>?_)<;>try exact hc.elim)|(refine lx ?_;refine sp (fun hc=>?_) (fun hc=>?_)<;>try exact hc.elim)|refine sx ?_ ?_|refine sy ?_ ?_|fail
  all_goals (try (refine ⟨.inr rfl,?_⟩;simp [Hands,Tryz.results60]))
theorem aFi [aB Tryz.prog] (b:gD) (hs:jP b≤274877906944):Ok Tryz.prog 67 [.agg (dG .view b)] (.agg (dG .own b)):=by
 simp only [jP,szL] at hs
 obtain ⟨l,opens⟩:=b
 simp only at hs
 refine ent Tryz.mix Tryz.func67 Tryz.ntmps67 ?_
 have W:=trivial
 repeat' first|refine st ?_|(refine nx ?_;first|refine se ?_|refine so ?_)|(refine cx ?_;refine sc (fun hc=>?_) (fun hc=>?_)<;>try exact hc.elim)|(refine lx ?_;refine sp (fun hc=>?_) (fun hc=>?_)<;>try exact hc.elim)|refine sx ?_ ?_|refine sy ?_ ?_|fail
 refine aJ (ι:={q:Nat×Nat // q.1≤l.length∧1≤q.2}) (fun t o i=>⟨aL t [(4,.int .i64 i.1.1),(5,.undef),(10,.undef)],o.take 3++[⟨true,true,2,0,[[.obj 4 i.1.2,.obj 2 2]]⟩,⟨true,false,4,i.1.2,(l.take i.1.1).map (dE .own)⟩]⟩)
  (fun i=>l.length - i.1.1) ⟨(0,1),by simp,by simp⟩ (nR 3 0 0 (ob:=⟨true,true,2,0,[[.sl .own 4 [],.obj 2 2]]⟩) (by rfl) (by rfl) (by rfl) (by simp) (by rfl) (by rfl) (by simp) (by simp [rtc,rt,dW,aGc])) ?_
 rintro ⟨⟨k,v⟩,hk,hv⟩ K1 hK1
 simp only at hk hv
 simp only [aL,List.set_cons_succ,List.set_cons_zero,List.take_succ_cons,List.take_zero,List.cons_append,List.nil_append] at hK1⊢
 have hk1:IntKind.i64.wrap ((k:Int)+1)=((k+1:Nat):Int):=by rw [wrap64]<;>omega
 by_cases hlt:k < l.length
 ·have hg:=List.getElem?_eq_getElem hlt
  have hps:=yR (dE .own) l k hlt
  have hz:=dJ qJ l k hlt
  simp only [qJ,szL] at hz
  have c1:=aEd l[k].attrs (by omega)
  have hgl:((l.take k).map (dE .own)).length=k:=by simp;omega
  generalize (l.take k).map (dE .own)=g at *
  have W:=And.intro hk1 (And.intro hg (And.intro hlt hgl))
  repeat' first|refine st ?_|(refine nx ?_;first|refine se ?_|refine so ?_)|(refine cx ?_;refine sc (fun hc=>?_) (fun hc=>?_)<;>try exact hc.elim)|(refine lx ?_;refine sp (fun hc=>?_) (fun hc=>?_)<;>try exact hc.elim)|refine sx ?_ ?_|refine sy ?_ ?_|fail
  all_goals refine hK1 _ ⟨(k+1,v+1),by simp only;omega,by simp only;omega⟩ (aG 5 (by simp [hps]) (by simp) (by simp) (by simp)) (by simp only;omega)
 ·have htk:l.take k=l:=List.take_of_length_le (by omega)
  rw [htk]
  have W:=hk1
  repeat' first|refine st ?_|(refine nx ?_;first|refine se ?_|refine so ?_)|(refine cx ?_;refine sc (fun hc=>?_) (fun hc=>?_)<;>try exact hc.elim)|(refine lx ?_;refine sp (fun hc=>?_) (fun hc=>?_)<;>try exact hc.elim)|refine sx ?_ ?_|refine sy ?_ ?_|fail
  all_goals (try (refine ⟨.inr rfl,?_⟩;simp [Hands,Tryz.results67]))
theorem aCf [aB Tryz.prog] (a:aZ) (hs:bK a≤274877906944):Ok Tryz.prog 28 [.agg (aU .view a)] (.agg (aU .own a)):=by
 simp only [bK] at hs
 have c1:=yX a.policy (by omega)
 have c2:=aHc a.queue (by omega)
 have c3:=aFj a.builder (by omega)
 simp only [szL] at hs
 simp only [aS] at c1
 simp only [dG] at c3
 refine ent Tryz.mix Tryz.func28 Tryz.ntmps28 ?_
 have W:=trivial
 repeat' first|refine st ?_|(refine nx ?_;first|refine se ?_|refine so ?_)|(refine cx ?_;refine sc (fun hc=>?_) (fun hc=>?_)<;>try exact hc.elim)|(refine lx ?_;refine sp (fun hc=>?_) (fun hc=>?_)<;>try exact hc.elim)|refine sx ?_ ?_|refine sy ?_ ?_|fail
 all_goals (try (refine ⟨.inr rfl,?_⟩;simp [Hands,Tryz.results28]))
theorem wI [aB Tryz.prog] (a:aZ) (hs:bK a≤274877906944):Ok Tryz.prog 37 [.agg (aU .view a)] (.agg (aU .own a)):=by
 simp only [bK] at hs
 have c1:=aHd a.policy (by omega)
 have c2:=aHe a.queue (by omega)
 have c3:=aFi a.builder (by omega)
 simp only [szL] at hs
 simp only [aS] at c1
 simp only [dG] at c3
 refine ent Tryz.mix Tryz.func37 Tryz.ntmps37 ?_
 have W:=trivial
 repeat' first|refine st ?_|(refine nx ?_;first|refine se ?_|refine so ?_)|(refine cx ?_;refine sc (fun hc=>?_) (fun hc=>?_)<;>try exact hc.elim)|(refine lx ?_;refine sp (fun hc=>?_) (fun hc=>?_)<;>try exact hc.elim)|refine sx ?_ ?_|refine sy ?_ ?_|fail
 all_goals (try (refine ⟨.inr rfl,?_⟩;simp [Hands,Tryz.results37]))
def mD (p:aZ) (s:Str):aZ:=if p.ended=true then p else {p with queue:=p.queue++(feed (p.tok.rest++s)).1,tok:=⟨(feed (p.tok.rest++s)).2⟩}
theorem aBq [aB Tryz.prog] [bV Tryz.prog] (a:aZ) (s:Str) (hs:bK a≤274877906) (hl:s.length≤274877906):Ok Tryz.prog 116 [.agg (aU .view a),.str s] (.agg (aU .own (mD a s))):=by
 have c1:=wI a (by omega)
 simp only [bK,szL,iQ] at hs
 have c2:=aEr a.tok s (by omega)
 obtain ⟨h1,h2⟩:=aE6 (a.tok.rest++s).length (a.tok.rest++s) (Nat.le_refl _)
 simp only [jK] at c2
 simp only [aU] at c1
 unfold mD
 simp only [List.length_append] at h1 h2
 generalize feed (a.tok.rest++s)=g at *
 obtain ⟨l,x⟩:=g
 simp only at c2 h1 h2⊢
 have hb1:(a.queue.length+l.length) * 64≤140737488355328:=by omega
 by_cases he:a.ended=true
 ·rw [if_pos he]
  simp only [he] at c1
  refine ent Tryz.mix Tryz.func116 Tryz.ntmps116 ?_
  have W:=he
  repeat' first|refine st ?_|(refine nx ?_;first|refine se ?_|refine so ?_)|(refine cx ?_;refine sc (fun hc=>?_) (fun hc=>?_)<;>try exact hc.elim)|(refine lx ?_;refine sp (fun hc=>?_) (fun hc=>?_)<;>try exact hc.elim)|refine sx ?_ ?_|refine sy ?_ ?_|fail
  all_goals (try (refine ⟨.inr rfl,?_⟩;simp [Hands,Tryz.results116]))
  all_goals exact he
 ·rw [if_neg he]
  replace he:a.ended=false:=by simpa using he
  simp only [he] at c1
  refine ent Tryz.mix Tryz.func116 Tryz.ntmps116 ?_
  have W:=And.intro he hb1
  repeat' first|refine st ?_|(refine nx ?_;first|refine se ?_|refine so ?_)|(refine cx ?_;refine sc (fun hc=>?_) (fun hc=>?_)<;>try exact hc.elim)|(refine lx ?_;refine sp (fun hc=>?_) (fun hc=>?_)<;>try exact hc.elim)|refine sx ?_ ?_|refine sy ?_ ?_|fail
  all_goals (try (refine ⟨.inr rfl,?_⟩;simp [Hands,Tryz.results116]))
  all_goals (rw [←List.map_append];first|exact uF _|exact ⟨he,uF _⟩)
def qY (p:aZ):aZ:=if p.ended=true then p else {p with queue:=p.queue++kM p.tok,tok:=⟨[]⟩,ended:=true}
theorem aK1 (t:iG):(kM t).length≤1:=by unfold kM;split<;>simp
theorem aFk [aB Tryz.prog] (a:aZ) (hs:bK a≤1048576):Ok Tryz.prog 119 [.agg (aU .view a)] (.agg (aU .own (qY a))):=by
 have c1:=wI a (by omega)
 simp only [bK,szL,iQ] at hs
 have c2:=aE7 a.tok (by omega)
 simp only [jK] at c2
 have hE:=aK1 a.tok
 simp only [aU] at c1
 unfold qY
 generalize kM a.tok=g at *
 by_cases he:a.ended=true
 ·rw [if_pos he]
  simp only [he] at c1
  refine ent Tryz.mix Tryz.func119 Tryz.ntmps119 ?_
  have W:=he
  repeat' first|refine st ?_|(refine nx ?_;first|refine se ?_|refine so ?_)|(refine cx ?_;refine sc (fun hc=>?_) (fun hc=>?_)<;>try exact hc.elim)|(refine lx ?_;refine sp (fun hc=>?_) (fun hc=>?_)<;>try exact hc.elim)|refine sx ?_ ?_|refine sy ?_ ?_|fail
  all_goals (try (refine ⟨.inr rfl,?_⟩;simp [Hands,Tryz.results119]))
  all_goals exact he
 ·rw [if_neg he]
  replace he:a.ended=false:=by simpa using he
  simp only [he] at c1
  refine ent Tryz.mix Tryz.func119 Tryz.ntmps119 ?_
  have W:=he
  repeat' first|refine st ?_|(refine nx ?_;first|refine se ?_|refine so ?_)|(refine cx ?_;refine sc (fun hc=>?_) (fun hc=>?_)<;>try exact hc.elim)|(refine lx ?_;refine sp (fun hc=>?_) (fun hc=>?_)<;>try exact hc.elim)|refine sx ?_ ?_|refine sy ?_ ?_|fail
  all_goals (try (refine ⟨.inr rfl,?_⟩;simp [Hands,Tryz.results119]))
  all_goals (rw [←List.map_append];exact uF _)
theorem yK {α:Type} (f:α→Nat):∀a b:List α,bD f (a++b)=bD f a+bD f b
 |[],b=>by simp [bD]
 |x::xs,b=>by simp only [List.cons_append,bD,yK f xs b];omega
theorem aTh (t:iG):szL eO (kM t)≤1+iQ t:=by
 unfold kM
 split
 ·simp [szL,bD]
 ·simp [szL,bD,eO,iQ]
theorem aTl (p:aZ):bK (qY p)≤bK p+1:=by
 unfold qY
 split
 ·omega
 ·have h:=aTh p.tok
  simp only [bK,szL,iQ,List.length_append,yK,List.length_nil] at h⊢
  omega
theorem aO6 (p:aZ) (s:Str):bK (mD p s)≤2 * bK p+2 * s.length:=by
 unfold mD
 split
 ·omega
 ·obtain ⟨h1,h2⟩:=aE6 (p.tok.rest++s).length (p.tok.rest++s) (Nat.le_refl _)
  simp only [List.length_append] at h1 h2
  simp only [bK,szL,iQ,List.length_append,yK] at *
  omega
end Go.Proofs.YtkidoegojckmiaaGreatDoor
