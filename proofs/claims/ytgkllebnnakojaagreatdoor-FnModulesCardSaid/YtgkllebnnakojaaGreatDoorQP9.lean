/-
  Proved here: steps towards the statement of this claim, text QP9.
  No condition beyond what each statement spells out.
-/
import Derived.Test.YtgkllebnnakojaaGreatDoorQP6
import Derived.Test.YtgkllebnnakojaaGreatDoorQ2
set_option linter.all false
set_option maxRecDepth 4000
set_option maxHeartbeats 4000000
namespace Go.Proofs.YtgkllebnnakojaaGreatDoor
open Go.Aw
theorem tF [aB Tryz.prog] [cO Tryz.prog] (body base:Str) (hl:body.length≤1073741824) (hb:base.length≤1073741824):Ok Tryz.prog 60 [.str body,.str base] (.tup [.sl .own 2 ((aN body base).1.map aD),.sl .own 2 ((aN body base).2.1.map jM),.bool (aN body base).2.2]):=by
 have hst:=aBk base (bA 59 body)
 have hn:=jX 59 body
 have hcn:body.count 59≤body.length:=List.count_le_length
 have hll:(bA 59 body).length≤1073741825:=by omega
 have hres:∀acc r,fI base (bA 59 body)=some (acc,r)→∀ls ok,dY (Lib.join r [59])=(ls,ok)→aN body base=if ok=true then (acc,ls,true) else ([],[],false):=by
  intro acc r h1 ls ok h2
  unfold aN
  rw [h1]
  simp only [h2]
 have hnone:fI base (bA 59 body)=none→aN body base=([],[],false):=by
  intro h1
  unfold aN
  rw [h1]
 generalize aN body base=g at *
 have hi0:bA 59 body=bA 59 body∨(bA 59 body=[]∧body=[]):= .inl rfl
 generalize hL:bA 59 body=l at hst hn hll hres hnone hi0
 refine ent Tryz.mix Tryz.func60 Tryz.ntmps60 ?_
 have W:=trivial
 repeat' first|refine st ?_|(refine nx ?_;first|refine se ?_|refine so ?_)|(refine cx ?_;refine sc (fun hc=>?_) (fun hc=>?_)<;>try exact hc.elim)|(refine lx ?_;refine sp (fun hc=>?_) (fun hc=>?_)<;>try exact hc.elim)|refine sx ?_ ?_|refine sy ?_ ?_|fail
 refine aT (ι:={q:Str×List Str×List aC×Nat // (q.1.length≤body.length∧1≤q.2.2.2)∧(q.2.1=bA 59 q.1∨(q.2.1=[]∧q.1=[]))∧q.2.2.1.length+q.2.1.length≤l.length∧lQ base l q.2.2.1 q.2.1}) (fun t o i=>⟨bB t [(8,.str i.1.1),(7,.obj 0 i.1.2.2.2),(9,.undef),(10,.undef),(11,.undef)],[⟨true,false,2,i.1.2.2.2,i.1.2.2.1.map aD⟩]⟩)
  (fun i=>i.1.2.1.length) ⟨(body,l,[],1),by simp,.inl hL.symm,by simp,hst⟩ (aI (by simp) (by simp)) ?_
 rintro ⟨⟨rest,parts,acc,v⟩,⟨hrl,hv⟩,hparts,hac,hgo⟩ K1 hK1
 simp only at hrl hv hparts hac hgo
 simp only [bB,List.set_cons_succ,List.set_cons_zero] at hK1⊢
 have hjoin:Lib.join parts [59]=rest:=by
  rcases hparts with rfl|⟨rfl,rfl⟩
  ·exact aAa 59 rest
  ·rfl
 cases hp:pfx jN rest with
 |false=>
  have hs:fI base l=some (acc,parts):=by
   rcases hparts with rfl|⟨rfl,rfl⟩
   ·rw [aEc] at hgo⊢
    refine aCr hgo ?_
    cases h:pfx jN (rest.take (ixB 59 rest)) with
    |false=>rfl
    |true=>rw [aRr h] at hp;cases hp
   ·exact aEb hgo
  have hr:=hres _ _ hs
  rw [hjoin] at hr
  have cP:=aBg rest (by omega)
  generalize dY rest=q at *
  obtain ⟨ls,ok⟩:=q
  have hr:=hr ls ok rfl
  subst hr
  simp only at cP
  clear hK1 hs hres hnone hgo
  by_cases h7:(7:Int)≤(rest.length:Int)
  ·have he:(rest.take 7 == ([105,109,112,111,114,116,32]:Str))=false:=by
    simp only [pfx,show jN.length=7 from rfl,Bool.and_eq_false_iff,decide_eq_false_iff_not] at hp
    rcases hp with hp|hp
    ·omega
    ·exact hp
   clear hp
   cases ok
   ·simp only [Bool.false_eq_true,if_false]
    have W:=And.intro h7 he
    repeat' first|refine st ?_|(refine nx ?_;first|refine se ?_|refine so ?_)|(refine cx ?_;refine sc (fun hc=>?_) (fun hc=>?_)<;>try exact hc.elim)|(refine lx ?_;refine sp (fun hc=>?_) (fun hc=>?_)<;>try exact hc.elim)|refine sx ?_ ?_|refine sy ?_ ?_|fail
    all_goals (try (refine ⟨.inr rfl,?_⟩;simp [Hands,Tryz.results60]))
   ·simp only [if_true]
    have W:=And.intro h7 he
    repeat' first|refine st ?_|(refine nx ?_;first|refine se ?_|refine so ?_)|(refine cx ?_;refine sc (fun hc=>?_) (fun hc=>?_)<;>try exact hc.elim)|(refine lx ?_;refine sp (fun hc=>?_) (fun hc=>?_)<;>try exact hc.elim)|refine sx ?_ ?_|refine sy ?_ ?_|fail
    all_goals (try (refine ⟨.inr rfl,?_⟩;simp [Hands,Tryz.results60]))
  ·clear hp
   cases ok
   ·simp only [Bool.false_eq_true,if_false]
    have W:=h7
    repeat' first|refine st ?_|(refine nx ?_;first|refine se ?_|refine so ?_)|(refine cx ?_;refine sc (fun hc=>?_) (fun hc=>?_)<;>try exact hc.elim)|(refine lx ?_;refine sp (fun hc=>?_) (fun hc=>?_)<;>try exact hc.elim)|refine sx ?_ ?_|refine sy ?_ ?_|fail
    all_goals (try (refine ⟨.inr rfl,?_⟩;simp [Hands,Tryz.results60]))
   ·simp only [if_true]
    have W:=h7
    repeat' first|refine st ?_|(refine nx ?_;first|refine se ?_|refine so ?_)|(refine cx ?_;refine sc (fun hc=>?_) (fun hc=>?_)<;>try exact hc.elim)|(refine lx ?_;refine sp (fun hc=>?_) (fun hc=>?_)<;>try exact hc.elim)|refine sx ?_ ?_|refine sy ?_ ?_|fail
    all_goals (try (refine ⟨.inr rfl,?_⟩;simp [Hands,Tryz.results60]))
 |true=>
  have h7n:=aJr hp
  have h7:(7:Int)≤(rest.length:Int):=by simp only [show jN.length=7 from rfl] at h7n;omega
  have he:(rest.take 7 == ([105,109,112,111,114,116,32]:Str))=true:=by
   simp only [pfx,show jN.length=7 from rfl,Bool.and_eq_true] at hp
   exact hp.2
  have hpt:=aPz hp
  have hix:=aPv hp
  have hxl:=qY 59 rest
  have hsg:parts=bA 59 rest:=by
   rcases hparts with h|⟨_,h⟩
   ·exact h
   ·subst h;simp at h7
  rw [aEc] at hsg
  have cI:Ok Tryz.prog 96 [.str rest,.int .u8 59] (.int .i64 (ixB 59 rest:Nat)):=aN0 rest 59 (by omega)
  generalize ixB 59 rest=k at *
  subst hsg
  have c2:=vC ((rest.take k).drop 7) base (by simp;omega)
  simp only [aD] at c2
  have hbad:=aEh hgo hpt
  have hnext:=aCy hgo hpt
  have cM:=aW1 (rest.length:Int) ((k:Int)+1)
  have hk7:(7:Int)≤(k:Int):=by omega
  have hkl:(k:Int)≤(rest.length:Int):=by omega
  generalize dG ((rest.take k).drop 7) base=pa at *
  obtain ⟨a,ok⟩:=pa
  simp only at c2 hbad hnext
  clear hp hpt
  cases ok with
  |false=>
   have hr:=hnone (hbad rfl)
   subst hr
   clear hK1
   have W:=And.intro h7 (And.intro he (And.intro hk7 hkl))
   repeat' first|refine st ?_|(refine nx ?_;first|refine se ?_|refine so ?_)|(refine cx ?_;refine sc (fun hc=>?_) (fun hc=>?_)<;>try exact hc.elim)|(refine lx ?_;refine sp (fun hc=>?_) (fun hc=>?_)<;>try exact hc.elim)|refine sx ?_ ?_|refine sy ?_ ?_|fail
   all_goals (try (refine ⟨.inr rfl,?_⟩;simp [Hands,Tryz.results60]))
  |true=>
   by_cases hkk:k < rest.length
   ·have hm:min (rest.length:Int) ((k:Int)+1)=((k+1:Nat):Int):=by omega
    rw [hm] at cM
    have hk1:IntKind.i64.wrap ((k:Int)+1)=((k+1:Nat):Int):=by rw [wrap64]<;>omega
    rw [if_pos hkk] at hnext hac
    have W:=And.intro h7 (And.intro he (And.intro hk7 (And.intro hkl hk1)))
    repeat' first|refine st ?_|(refine nx ?_;first|refine se ?_|refine so ?_)|(refine cx ?_;refine sc (fun hc=>?_) (fun hc=>?_)<;>try exact hc.elim)|(refine lx ?_;refine sp (fun hc=>?_) (fun hc=>?_)<;>try exact hc.elim)|refine sx ?_ ?_|refine sy ?_ ?_|fail
    all_goals exact hK1 _ ⟨(rest.drop (k+1),bA 59 (rest.drop (k+1)),acc++[a],v+1),⟨by simp;omega,by simp only;omega⟩,.inl rfl,by simp at hac⊢;omega,hnext rfl⟩ (aO 1 (by simp) (by simp) (by simp) (by simp)) (by simp [if_pos hkk])
   ·have hm:min (rest.length:Int) ((k:Int)+1)=(rest.length:Int):=by omega
    rw [hm] at cM
    rw [if_neg hkk] at hnext hac
    have W:=And.intro h7 (And.intro he (And.intro hk7 hkl))
    repeat' first|refine st ?_|(refine nx ?_;first|refine se ?_|refine so ?_)|(refine cx ?_;refine sc (fun hc=>?_) (fun hc=>?_)<;>try exact hc.elim)|(refine lx ?_;refine sp (fun hc=>?_) (fun hc=>?_)<;>try exact hc.elim)|refine sx ?_ ?_|refine sy ?_ ?_|fail
    all_goals exact hK1 _ ⟨([],[],acc++[a],v+1),⟨by simp,by simp only;omega⟩,.inr ⟨rfl,rfl⟩,by simp at hac⊢;omega,hnext rfl⟩ (aO 1 (by simp) (by simp) (by simp) (by simp)) (by simp)
def bR (p:aJ) (a:aC):List aC:=
 match p.mods.find? (dJ a) with
 |some m=>if m.done=true∧m.code=1 then (aN m.body a.host).1 else []
 |none=>[]
def gP (p:aJ):List aC:=p.mods.flatMap fun m=>(aN m.body m.to.host).1
def bI (p:aJ):Nat→aC→List aC→List aC→List aC×List aC
 |0,_,seen,out=>(seen,out)
 |n+1,a,seen,out=>if seen.any (bG a)=true then (seen,out) else
   (((bR p a).foldl (fun s b=>bI p n b s.1 s.2) (seen++[a],out)).1,((bR p a).foldl (fun s b=>bI p n b s.1 s.2) (seen++[a],out)).2++[a])
def unseen (p:aJ) (seen:List aC):Nat:=(p.mods.filter fun m=> !seen.any (bG m.to)).length
def bN (p:aJ) (n:Nat) (l:List aC) (s:List aC×List aC):List aC×List aC:=l.foldl (fun s b=>bI p n b s.1 s.2) s
theorem xQ (p:aJ) (n:Nat) (l:List aC) (b:aC) (s:List aC×List aC):bN p n (l++[b]) s=bI p n b (bN p n l s).1 (bN p n l s).2:=by
 simp [bN]
theorem iX {l:List aC} {a:aC}:l.any (bG a)=true↔a∈l:=by
 simp [bG]
theorem zJ (p:aJ) (a:aC):∀b∈bR p a,b∈gP p:=by
 intro b hb
 unfold bR at hb
 split at hb
 ·rename_i m hm
  split at hb
  ·have h1:=List.find?_some hm
   have h2:=List.mem_of_find?_eq_some hm
   simp only [dJ,decide_eq_true_eq] at h1
   subst h1
   exact List.mem_flatMap.2 ⟨m,h2,hb⟩
  ·cases hb
 ·cases hb
theorem aFc {p:aJ} {a:aC} (h:bR p a≠[]):∃m∈p.mods,m.to=a:=by
 unfold bR at h
 split at h
 ·rename_i m hm
  have h1:=List.find?_some hm
  simp only [dJ,decide_eq_true_eq] at h1
  exact ⟨m,List.mem_of_find?_eq_some hm,h1⟩
 ·exact absurd rfl h
structure Seen (U : List aC) (s : List aC × List aC) : Prop where
  nd : s.1.Nodup
  sub : ∀ x ∈ s.1, x ∈ U
  ond : s.2.Nodup
  osub : ∀ x ∈ s.2, x ∈ s.1
theorem xD {p:aJ} {s s':List aC} (h:∀x∈s,x∈s'):unseen p s'≤unseen p s:=by
 unfold unseen
 have:∀l:List bQ,(l.filter fun m=> !s'.any (bG m.to)).length≤(l.filter fun m=> !s.any (bG m.to)).length:=by
  intro l
  induction l with
  |nil=>simp
  |cons m l ih=>
   simp only [List.filter_cons]
   by_cases h1:s.any (bG m.to)=true
   ·have h2:s'.any (bG m.to)=true:=iX.2 (h _ (iX.1 h1))
    simp [h1,h2,ih]
   ·simp only [Bool.not_eq_true] at h1
    simp only [h1]
    split<;>simp<;>omega
 exact this p.mods
theorem aAz {p:aJ} {s:List aC} {a:aC} (h:¬s.any (bG a)=true) (hm:∃m∈p.mods,m.to=a):unseen p (s++[a]) < unseen p s:=by
 obtain ⟨m,hm,rfl⟩:=hm
 unfold unseen
 have key:∀l:List bQ,(l.filter fun x=> !(s++[m.to]).any (bG x.to)).length≤(l.filter fun x=> !s.any (bG x.to)).length∧(m∈l→(l.filter fun x=> !(s++[m.to]).any (bG x.to)).length < (l.filter fun x=> !s.any (bG x.to)).length):=by
  intro l
  induction l with
  |nil=>simp
  |cons x l ih=>
   simp only [List.filter_cons]
   by_cases h1:s.any (bG x.to)=true
   ·have h2:(s++[m.to]).any (bG x.to)=true:=iX.2 (List.mem_append_left _ (iX.1 h1))
    simp only [h1,h2,Bool.not_true,Bool.false_eq_true,if_false]
    refine ⟨ih.1,fun hmem=> ?_⟩
    rcases List.mem_cons.1 hmem with rfl|hmem
    ·exact absurd h1 h
    ·exact ih.2 hmem
   ·by_cases h2:(s++[m.to]).any (bG x.to)=true
    ·simp only [Bool.not_eq_true] at h1
     simp only [h1,h2,Bool.not_true,Bool.false_eq_true,if_false,Bool.not_false,if_true,List.length_cons]
     exact ⟨by omega,fun _=>by omega⟩
    ·have h2':=h2
     simp only [Bool.not_eq_true] at h1 h2
     simp only [h1,h2,Bool.not_false,if_true,List.length_cons]
     refine ⟨by omega,fun hmem=> ?_⟩
     rcases List.mem_cons.1 hmem with rfl|hmem
     ·exact absurd (iX.2 (by simp)) h2'
     ·have:=ih.2 hmem;omega
 exact (key p.mods).2 hm
theorem uK {p:aJ} {U:List aC} (hU:∀x∈gP p,x∈U):∀(n:Nat) (a:aC) (s:List aC×List aC),a∈U→Seen U s→Seen U (bI p n a s.1 s.2)∧(∀x∈s.1,x∈(bI p n a s.1 s.2).1)
 |0,a,s,_,hs=>by simp only [bI];exact ⟨hs,fun _ h=>h⟩
 |n+1,a,s,ha,hs=>by
  simp only [bI]
  split
  ·exact ⟨hs,fun _ h=>h⟩
  ·rename_i hn
   have hna:a∉s.1:=fun h=>hn (iX.2 h)
   have key:∀(l:List aC) (q:List aC×List aC),(∀x∈l,x∈U)→Seen U q→(a∈q.1∧a∉q.2)→Seen U (l.foldl (fun s b=>bI p n b s.1 s.2) q)∧(∀x∈q.1,x∈(l.foldl (fun s b=>bI p n b s.1 s.2) q).1)∧a∉(l.foldl (fun s b=>bI p n b s.1 s.2) q).2:=by
    intro l
    induction l with
    |nil=>intro q _ hq ha;exact ⟨hq,fun _ h=>h,ha.2⟩
    |cons b l ih=>
     intro q hl hq haq
     obtain ⟨h1,h2⟩:=uK hU n b q (hl b (by simp)) hq
     have h3:a∉(bI p n b q.1 q.2).2:=visit_out n b q haq.1 haq.2
     obtain ⟨h4,h5,h6⟩:=ih (bI p n b q.1 q.2) (fun x hx=>hl x (by simp [hx])) h1 ⟨h2 a haq.1,h3⟩
     exact ⟨h4,fun x hx=>h5 x (h2 x hx),h6⟩
   have hs1:Seen U (s.1++[a],s.2):=⟨List.nodup_append.2 ⟨hs.nd,by simp,fun x hx y hy e=>hna (by simp at hy;subst hy;subst e;exact hx)⟩,fun x hx=>by
    rcases List.mem_append.1 hx with h|h
    ·exact hs.sub x h
    ·simp at h;subst h;exact ha,hs.ond,fun x hx=>List.mem_append_left _ (hs.osub x hx)⟩
   obtain ⟨h1,h2,h3⟩:=key (bR p a) (s.1++[a],s.2) (fun x hx=>hU x (zJ p a x hx)) hs1 ⟨by simp,fun h=>hna (hs.osub a h)⟩
   refine ⟨⟨h1.nd,h1.sub,?_,?_⟩,fun x hx=>h2 x (List.mem_append_left _ hx)⟩
   ·exact List.nodup_append.2 ⟨h1.ond,by simp,fun x hx y hy e=>h3 (by simp at hy;subst hy;subst e;exact hx)⟩
   ·intro x hx
    rcases List.mem_append.1 hx with h|h
    ·exact h1.osub x h
    ·simp at h;subst h;exact h2 x (by simp)
where
 visit_out {p:aJ} {a:aC}:∀(n:Nat) (b:aC) (q:List aC×List aC),a∈q.1→a∉q.2→a∉(bI p n b q.1 q.2).2
  |0,b,q,h1,h2=>by simpa only [bI] using h2
  |n+1,b,q,h1,h2=>by
   simp only [bI]
   split
   ·exact h2
   ·rename_i hn
    have hne:a≠b:=fun e=>hn (iX.2 (e▸h1))
    have key:∀(l:List aC) (q:List aC×List aC),a∈q.1→a∉q.2→a∉(l.foldl (fun s b=>bI p n b s.1 s.2) q).2:=by
     intro l
     induction l with
     |nil=>intro q _ h;exact h
     |cons c l ih=>
      intro q h1 h2
      exact ih _ (visit_in n c q h1) (visit_out n c q h1 h2)
    intro hm
    rcases List.mem_append.1 hm with h|h
    ·exact key (bR p b) (q.1++[b],q.2) (List.mem_append_left _ h1) h2 h
    ·simp at h;exact hne h
 visit_in {p:aJ} {a:aC}:∀(n:Nat) (b:aC) (q:List aC×List aC),a∈q.1→a∈(bI p n b q.1 q.2).1
  |0,b,q,h1=>by simpa only [bI] using h1
  |n+1,b,q,h1=>by
   simp only [bI]
   split
   ·exact h1
   ·have key:∀(l:List aC) (q:List aC×List aC),a∈q.1→a∈(l.foldl (fun s b=>bI p n b s.1 s.2) q).1:=by
     intro l
     induction l with
     |nil=>intro q h;exact h
     |cons c l ih=>intro q h1;exact ih _ (visit_in n c q h1)
    exact key (bR p b) (q.1++[b],q.2) (List.mem_append_left _ h1)
theorem wN {α:Type} (f:α→Nat):∀(l U:List α),l.Nodup→(∀x∈l,x∈U)→bF f l≤bF f U∧l.length≤U.length
 |[],U,_,_=>by simp [bF]
 |x::l,U,hn,hs=>by
  simp only [List.nodup_cons] at hn
  obtain ⟨U1,U2,rfl⟩:=List.append_of_mem (hs x (by simp))
  have ih:=wN f l (U1++U2) hn.2 (fun y hy=>by
   have:=hs y (by simp [hy])
   simp only [List.mem_append,List.mem_cons] at this⊢
   rcases this with h|h|h
   ·exact .inl h
   ·subst h;exact absurd hy hn.1
   ·exact .inr h)
  have e:∀(A B:List α),bF f (A++B)=bF f A+bF f B:=by
   intro A B
   induction A with
   |nil=>simp [bF]
   |cons a A ih=>simp only [List.cons_append,bF,ih];omega
  simp only [e,bF,List.length_append,List.length_cons] at ih⊢
  omega
end Go.Proofs.YtgkllebnnakojaaGreatDoor
