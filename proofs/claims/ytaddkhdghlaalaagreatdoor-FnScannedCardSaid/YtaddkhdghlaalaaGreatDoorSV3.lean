/-
  Proved here: steps towards the statement of this claim, text SV3.
  No condition beyond what each statement spells out.
-/
import Derived.Test.YtaddkhdghlaalaaGreatDoorQAwNest4
import Derived.Test.YtaddkhdghlaalaaGreatDoorF8
set_option linter.all false
set_option maxRecDepth 4000
set_option maxHeartbeats 4000000
namespace Go.Proofs.YtaddkhdghlaalaaGreatDoor
open Go.Aw
def bJx (n:Nat) (r:AV):Prop:=∃(l':List dS) (b:Bool),r= .tup [.sl .own 2 (l'.map (bJ .own)),.bool b]∧szL bQ l'≤n
def gU (s:dS) (a:aD) (x:aV):dS:=
 if kP (tK a.path) s.files < 0 then {s with files:=s.files++[⟨a.path,x⟩]} else {s with files:=s.files.set (kP (tK a.path) s.files).toNat ⟨((s.files[(kP (tK a.path) s.files).toNat]?).getD ⟨[],x⟩).path,x⟩}
theorem aJu {α:Type} (f:α→Nat) (c:Nat):∀(l:List α) (k:Nat) (h:k < l.length) (x:α),f x≤f l[k]+c→aK f (l.set k x)≤aK f l+c
 |[],k,h,_,_=>by simp at h
 |y::l,0,_,x,hx=>by simp only [List.getElem_cons_zero] at hx;simp only [List.set_cons_zero,aK];omega
 |y::l,k+1,h,x,hx=>by
  have:=aJu f c l k (by simpa using h) x (by simpa using hx)
  simp only [List.set_cons_succ,aK];omega
theorem aRy {α:Type} (f:α→Nat) (l:List α) (x:α):aK f (l++[x])=aK f l+f x:=by
 induction l with
 |nil=>simp [aK]
 |cons y l ih=>simp only [List.cons_append,aK,ih];omega
theorem aDy (s:dS) (a:aD) (x:aV):bQ (gU s a x)≤bQ s+(aI a+dC x+4):=by
 unfold gU
 split
 ·simp only [bQ,szL,aRy,List.length_append,List.length_cons,List.length_nil,aAf,aI];omega
 ·by_cases h:(kP (tK a.path) s.files).toNat < s.files.length
  ·have h2:=aJu aAf (dC x) s.files _ h ⟨((s.files[(kP (tK a.path) s.files).toNat]?).getD ⟨[],x⟩).path,x⟩ (by rw [List.getElem?_eq_getElem h];simp only [Option.getD_some,aAf];omega)
   simp only [bQ,szL,List.length_set] at h2⊢;omega
  ·rw [List.set_eq_of_length_le (by omega)];show bQ s≤_;omega
theorem bG6 (l:List dS) (n:Nat) (s:dS) (a:aD) (x:aV) (hn:n < l.length) (hg:l[n]=s):szL bQ (l.set n (gU s a x))≤szL bQ l+(aI a+dC x+4):=by
 subst hg
 have h:=aJu bQ (aI a+dC x+4) l n hn _ (aDy l[n] a x)
 simp only [szL,List.length_set];omega
@[simp] theorem bJz (u:List Nat) (b:Bool) (l:List dS):rtr (eZ u) b (l.map (bJ .view))=l.map (bJ .view):=by
 induction l with
 |nil=>rfl
 |cons x l ih=>rw [List.map_cons,rtr,ih];simp [rtc,rt,bJ,eZ]
theorem aM1 [aB Tryz.prog] [dB Tryz.prog] (l:List dS) (a:aD) (x:aV) (hs:szL bQ l+aI a+dC x≤1048576):OkE Tryz.prog 103 [.sl .view 2 (l.map (bJ .view)),.agg (aF a),.agg (cZ x)] (bJx (szL bQ l+(2 * aI a+dC x+5))):=by
 have hl:l.length≤1048576:=by simp only [szL] at hs;omega
 have c1:=aYf l (by omega)
 have c2:=aHc l a.host (by omega)
 simp only [aF,cZ] at *
 refine bEj Tryz.mix [7,10] Tryz.func103 Tryz.ntmps103 ?_
 have hx5:dC x≤1048576:=by omega
 have hN:∀(l1:List dS) (n:Nat) (s:dS),l1[n]? =some s→szL bQ l1≤szL bQ l+aI a+1→szL bQ (l1.set n (gU s a x))≤szL bQ l+(2 * aI a+dC x+5):=fun l1 n s hg hz=>by
  obtain ⟨hn,hg⟩:=List.getElem?_eq_some_iff.1 hg
  have:=bG6 l1 n s a x hn hg
  omega
 rcases oP (aCt a.host) l with ⟨h1,_⟩|⟨n,hn,h1,_⟩
 ·rw [h1] at c2
  obtain ⟨s,hs1⟩:∃s:dS,s=⟨a.host,[]⟩:=⟨_,rfl⟩
  obtain ⟨l1,hl1⟩:∃m,m=l++[s]:=⟨_,rfl⟩
  have hap:l.map (bJ .own)++[[.str a.host,.sl .own 7 []]]=l1.map (bJ .own):=by rw [hl1,hs1];simp
  have hap':=hap
  have hg:l1[l.length]? =some s:=by rw [hl1];simp
  have hlt:l.length < l1.length:=by rw [hl1];simp
  have hz1:szL bQ l1≤szL bQ l+aI a+1:=by rw [hl1,hs1];simp only [szL,aRy,bQ,List.length_append,List.length_cons,List.length_nil,aK,aI];omega
  clear hl1
  have hM:=hN _ _ _ hg hz1
  have hsz:bQ s≤szL bQ l1:=by
   obtain ⟨h3,h4⟩:=List.getElem?_eq_some_iff.1 hg
   have:=fM bQ l1 _ h3
   rw [h4] at this
   simp only [szL];omega
  have hsf:s.files.length≤bQ s:=by simp only [bQ,szL];omega
  have c3:=aEj s a.path (by omega)
  simp only [bJ] at c3
  have hnd:((l1.map (bJ .own)).all fun c=>lH 2 c)=true:=by simp [lH,nodep]
  have hli:((l.length:Nat):Int) < (l1.length:Int):=by omega
  have hset:∀r,((l1.map (bJ .own)).set l.length r)[l.length]? =some r:=fun r=>by simp [hlt]
  rcases oP (tK a.path) s.files with ⟨h3,_⟩|⟨j,hj,h3,_⟩
  ·rw [h3] at c3
   have eP:gU s a x=⟨s.host,s.files++[⟨a.path,x⟩]⟩:=by unfold gU;rw [h3,if_pos (by omega)]
   have hhost:(gU s a x).host=s.host:=by rw [eP]
   clear hN
   obtain ⟨l2,hl2⟩:∃m,m=l1.set l.length (gU s a x):=⟨_,rfl⟩
   rw [←hl2] at hM
   have hlen2:l2.length=l1.length:=by rw [hl2,List.length_set]
   have hg2:l2[l.length]? =some (gU s a x):=by rw [hl2];simp [hlt]
   have hsz2:bQ (gU s a x)≤16777216:=by
    have:=aDy s a x
    omega
   have hR:∀v,((l1.map (bJ .own)).set l.length [.str s.host,v]).set l.length (([.str s.host,v]:List AV).set 1 (.sl .own 7 ((gU s a x).files.map qY)))=l2.map (bJ .own):=fun v=>by
    rw [hl2,List.set_set,List.map_set]
    simp [hhost]
   have hp:∀v,((((l1.map (bJ .own)).set l.length [.str s.host,v]).set l.length (([.str s.host,v]:List AV).set 1 (.int .i64 0))).all fun r=>r.all AV.pureA)=true:=fun v=>by
    rw [List.set_set,List.all_eq_true]
    intro r hr
    rcases List.mem_or_eq_of_mem_set hr with hr|rfl
    ·obtain ⟨z,_,rfl⟩:=List.mem_map.1 hr
     simp [AV.pureA]
    ·simp [AV.pureA]
   have c4:=tL (gU s a x) hsz2
   have hpf:=(show (gU s a x).files=s.files++[⟨a.path,x⟩] by rw [eP])
   clear hlt
   clear eP
   have hli2:((l.length:Nat):Int) < (l2.length:Int):=by omega
   have W:=And.intro hap (And.intro hl (And.intro hg hli))
   refine we ?_
   refine aHz 2 l.length 1 (by rfl) (e:=[.str s.host,.sl .own 7 (s.files.map qY)]) (by simp [hg]) (by rfl) ?_ (hrow:=hnd)
   have W:=And.intro hg (And.intro hli hset)
   refine we ?_
   refine aEu 2 4 l.length 1 (l2.map (bJ .own)) (by rfl) (by rfl) (hset _) (by rfl) (by rw [←hR (.obj 4 2),hpf];simp [qY]) (by exact hp _) ?_
   generalize gU s a x=s2 at *
   clear hset hnd hap' hR hp hpf hhost hg
   by_cases h4:(4:Int) < (l2.length:Int)
   ·have W:=h4
    refine we ?_
    refine ⟨.inr rfl,vB (by simp [Tryz.results103];rfl) (by simp) (by simp) ?_⟩
    simp only [single,res]
    exact ⟨l,_,rfl,by omega⟩
   ·simp only [bJ] at c4
    generalize pU s2=b at *
    cases b
    ·have W:=And.intro h4 (And.intro hg2 hli2)
     refine we ?_
     refine ⟨.inr rfl,vB (by simp [Tryz.results103];rfl) (by simp) (by simp) ?_⟩
     simp only [single,res]
     exact ⟨l,_,rfl,by omega⟩
    ·have W:=And.intro h4 (And.intro hg2 hli2)
     refine we ?_
     refine ⟨.inr rfl,vB (by simp [Tryz.results103];rfl) (by simp) (by simp) ?_⟩
     simp only [single,res]
     exact ⟨l2,_,rfl,by omega⟩
  ·rw [h3] at c3
   have hj0:(0:Int)≤(j:Int):=by omega
   have eP:gU s a x=⟨s.host,s.files.set j ⟨s.files[j].path,x⟩⟩:=by unfold gU;rw [h3,if_neg (by omega)];simp [hj]
   have hhost:(gU s a x).host=s.host:=by rw [eP]
   clear hN
   obtain ⟨l2,hl2⟩:∃m,m=l1.set l.length (gU s a x):=⟨_,rfl⟩
   rw [←hl2] at hM
   have hlen2:l2.length=l1.length:=by rw [hl2,List.length_set]
   have hg2:l2[l.length]? =some (gU s a x):=by rw [hl2];simp [hlt]
   have hsz2:bQ (gU s a x)≤16777216:=by
    have:=aDy s a x
    omega
   have hR:∀v,((l1.map (bJ .own)).set l.length [.str s.host,v]).set l.length (([.str s.host,v]:List AV).set 1 (.sl .own 7 ((gU s a x).files.map qY)))=l2.map (bJ .own):=fun v=>by
    rw [hl2,List.set_set,List.map_set]
    simp [hhost]
   have hp:∀v,((((l1.map (bJ .own)).set l.length [.str s.host,v]).set l.length (([.str s.host,v]:List AV).set 1 (.int .i64 0))).all fun r=>r.all AV.pureA)=true:=fun v=>by
    rw [List.set_set,List.all_eq_true]
    intro r hr
    rcases List.mem_or_eq_of_mem_set hr with hr|rfl
    ·obtain ⟨z,_,rfl⟩:=List.mem_map.1 hr
     simp [AV.pureA]
    ·simp [AV.pureA]
   have c4:=tL (gU s a x) hsz2
   have hpf:=(show (gU s a x).files=s.files.set j ⟨s.files[j].path,x⟩ by rw [eP])
   clear hlt
   clear eP
   have hli2:((l.length:Nat):Int) < (l2.length:Int):=by omega
   have W:=And.intro hap (And.intro hl (And.intro hg (And.intro hli hj0)))
   refine we ?_
   refine aHz 2 l.length 1 (by rfl) (e:=[.str s.host,.sl .own 7 (s.files.map qY)]) (by simp [hg]) (by rfl) ?_ (hrow:=hnd)
   have W:=And.intro hg (And.intro hli (And.intro hset (And.intro hj0 hj)))
   refine we ?_
   refine aEu 2 4 l.length 1 (l2.map (bJ .own)) (by rfl) (by rfl) (hset _) (by rfl) (by rw [←hR (.obj 4 1),hpf];simp [qY]) (by exact hp _) ?_
   generalize gU s a x=s2 at *
   clear hset hnd hap' hR hp hpf hhost hg
   by_cases h4:(4:Int) < (l2.length:Int)
   ·have W:=h4
    refine we ?_
    refine ⟨.inr rfl,vB (by simp [Tryz.results103];rfl) (by simp) (by simp) ?_⟩
    simp only [single,res]
    exact ⟨l,_,rfl,by omega⟩
   ·simp only [bJ] at c4
    generalize pU s2=b at *
    cases b
    ·have W:=And.intro h4 (And.intro hg2 hli2)
     refine we ?_
     refine ⟨.inr rfl,vB (by simp [Tryz.results103];rfl) (by simp) (by simp) ?_⟩
     simp only [single,res]
     exact ⟨l,_,rfl,by omega⟩
    ·have W:=And.intro h4 (And.intro hg2 hli2)
     refine we ?_
     refine ⟨.inr rfl,vB (by simp [Tryz.results103];rfl) (by simp) (by simp) ?_⟩
     simp only [single,res]
     exact ⟨l2,_,rfl,by omega⟩
 ·rw [h1] at c2
  obtain ⟨l1,hl1⟩:∃l1,l1=l:=⟨_,rfl⟩
  obtain ⟨s,hg⟩:∃s,l1[n]? =some s:=⟨_,by rw [hl1];exact List.getElem?_eq_getElem hn⟩
  have hap':=hl1
  have hlt:n < l1.length:=by rw [hl1];exact hn
  have hz1:szL bQ l1≤szL bQ l+aI a+1:=by rw [hl1];omega
  rw [show l.map (bJ .own)=l1.map (bJ .own) by rw [hl1]] at c1
  have hn0:(0:Int)≤(n:Int):=by omega
  clear hl1
  have hM:=hN _ _ _ hg hz1
  have hsz:bQ s≤szL bQ l1:=by
   obtain ⟨h3,h4⟩:=List.getElem?_eq_some_iff.1 hg
   have:=fM bQ l1 _ h3
   rw [h4] at this
   simp only [szL];omega
  have hsf:s.files.length≤bQ s:=by simp only [bQ,szL];omega
  have c3:=aEj s a.path (by omega)
  simp only [bJ] at c3
  have hnd:((l1.map (bJ .own)).all fun c=>lH 2 c)=true:=by simp [lH,nodep]
  have hli:((n:Nat):Int) < (l1.length:Int):=by omega
  have hset:∀r,((l1.map (bJ .own)).set n r)[n]? =some r:=fun r=>by simp [hlt]
  rcases oP (tK a.path) s.files with ⟨h3,_⟩|⟨j,hj,h3,_⟩
  ·rw [h3] at c3
   have eP:gU s a x=⟨s.host,s.files++[⟨a.path,x⟩]⟩:=by unfold gU;rw [h3,if_pos (by omega)]
   have hhost:(gU s a x).host=s.host:=by rw [eP]
   clear hN
   obtain ⟨l2,hl2⟩:∃m,m=l1.set n (gU s a x):=⟨_,rfl⟩
   rw [←hl2] at hM
   have hlen2:l2.length=l1.length:=by rw [hl2,List.length_set]
   have hg2:l2[n]? =some (gU s a x):=by rw [hl2];simp [hlt]
   have hsz2:bQ (gU s a x)≤16777216:=by
    have:=aDy s a x
    omega
   have hR:∀v,((l1.map (bJ .own)).set n [.str s.host,v]).set n (([.str s.host,v]:List AV).set 1 (.sl .own 7 ((gU s a x).files.map qY)))=l2.map (bJ .own):=fun v=>by
    rw [hl2,List.set_set,List.map_set]
    simp [hhost]
   have hp:∀v,((((l1.map (bJ .own)).set n [.str s.host,v]).set n (([.str s.host,v]:List AV).set 1 (.int .i64 0))).all fun r=>r.all AV.pureA)=true:=fun v=>by
    rw [List.set_set,List.all_eq_true]
    intro r hr
    rcases List.mem_or_eq_of_mem_set hr with hr|rfl
    ·obtain ⟨z,_,rfl⟩:=List.mem_map.1 hr
     simp [AV.pureA]
    ·simp [AV.pureA]
   have c4:=tL (gU s a x) hsz2
   have hpf:=(show (gU s a x).files=s.files++[⟨a.path,x⟩] by rw [eP])
   clear hlt
   clear eP
   have hli2:((n:Nat):Int) < (l2.length:Int):=by omega
   have W:=And.intro hn0 (And.intro hl (And.intro hg hli))
   refine we ?_
   refine aHz 2 n 1 (by rfl) (e:=[.str s.host,.sl .own 7 (s.files.map qY)]) (by simp [hg]) (by rfl) ?_ (hrow:=hnd)
   have W:=And.intro hg (And.intro hli hset)
   refine we ?_
   refine aEu 2 3 n 1 (l2.map (bJ .own)) (by rfl) (by rfl) (hset _) (by rfl) (by rw [←hR (.obj 3 2),hpf];simp [qY]) (by exact hp _) ?_
   generalize gU s a x=s2 at *
   clear hset hnd hap' hR hp hpf hhost hg
   by_cases h4:(4:Int) < (l2.length:Int)
   ·have W:=h4
    refine we ?_
    refine ⟨.inr rfl,vB (by simp [Tryz.results103];rfl) (by simp) (by simp) ?_⟩
    simp only [single,res]
    exact ⟨l1,_,rfl,by omega⟩
   ·simp only [bJ] at c4
    generalize pU s2=b at *
    cases b
    ·have W:=And.intro h4 (And.intro hg2 hli2)
     refine we ?_
     refine ⟨.inr rfl,vB (by simp [Tryz.results103];rfl) (by simp) (by simp) ?_⟩
     simp only [single,res]
     exact ⟨l1,_,rfl,by omega⟩
    ·have W:=And.intro h4 (And.intro hg2 hli2)
     refine we ?_
     refine ⟨.inr rfl,vB (by simp [Tryz.results103];rfl) (by simp) (by simp) ?_⟩
     simp only [single,res]
     exact ⟨l2,_,rfl,by omega⟩
  ·rw [h3] at c3
   have hj0:(0:Int)≤(j:Int):=by omega
   have eP:gU s a x=⟨s.host,s.files.set j ⟨s.files[j].path,x⟩⟩:=by unfold gU;rw [h3,if_neg (by omega)];simp [hj]
   have hhost:(gU s a x).host=s.host:=by rw [eP]
   clear hN
   obtain ⟨l2,hl2⟩:∃m,m=l1.set n (gU s a x):=⟨_,rfl⟩
   rw [←hl2] at hM
   have hlen2:l2.length=l1.length:=by rw [hl2,List.length_set]
   have hg2:l2[n]? =some (gU s a x):=by rw [hl2];simp [hlt]
   have hsz2:bQ (gU s a x)≤16777216:=by
    have:=aDy s a x
    omega
   have hR:∀v,((l1.map (bJ .own)).set n [.str s.host,v]).set n (([.str s.host,v]:List AV).set 1 (.sl .own 7 ((gU s a x).files.map qY)))=l2.map (bJ .own):=fun v=>by
    rw [hl2,List.set_set,List.map_set]
    simp [hhost]
   have hp:∀v,((((l1.map (bJ .own)).set n [.str s.host,v]).set n (([.str s.host,v]:List AV).set 1 (.int .i64 0))).all fun r=>r.all AV.pureA)=true:=fun v=>by
    rw [List.set_set,List.all_eq_true]
    intro r hr
    rcases List.mem_or_eq_of_mem_set hr with hr|rfl
    ·obtain ⟨z,_,rfl⟩:=List.mem_map.1 hr
     simp [AV.pureA]
    ·simp [AV.pureA]
   have c4:=tL (gU s a x) hsz2
   have hpf:=(show (gU s a x).files=s.files.set j ⟨s.files[j].path,x⟩ by rw [eP])
   clear hlt
   clear eP
   have hli2:((n:Nat):Int) < (l2.length:Int):=by omega
   have W:=And.intro hn0 (And.intro hl (And.intro hg (And.intro hli hj0)))
   refine we ?_
   refine aHz 2 n 1 (by rfl) (e:=[.str s.host,.sl .own 7 (s.files.map qY)]) (by simp [hg]) (by rfl) ?_ (hrow:=hnd)
   have W:=And.intro hg (And.intro hli (And.intro hset (And.intro hj0 hj)))
   refine we ?_
   refine aEu 2 3 n 1 (l2.map (bJ .own)) (by rfl) (by rfl) (hset _) (by rfl) (by rw [←hR (.obj 3 1),hpf];simp [qY]) (by exact hp _) ?_
   generalize gU s a x=s2 at *
   clear hset hnd hap' hR hp hpf hhost hg
   by_cases h4:(4:Int) < (l2.length:Int)
   ·have W:=h4
    refine we ?_
    refine ⟨.inr rfl,vB (by simp [Tryz.results103];rfl) (by simp) (by simp) ?_⟩
    simp only [single,res]
    exact ⟨l1,_,rfl,by omega⟩
   ·simp only [bJ] at c4
    generalize pU s2=b at *
    cases b
    ·have W:=And.intro h4 (And.intro hg2 hli2)
     refine we ?_
     refine ⟨.inr rfl,vB (by simp [Tryz.results103];rfl) (by simp) (by simp) ?_⟩
     simp only [single,res]
     exact ⟨l1,_,rfl,by omega⟩
    ·have W:=And.intro h4 (And.intro hg2 hli2)
     refine we ?_
     refine ⟨.inr rfl,vB (by simp [Tryz.results103];rfl) (by simp) (by simp) ?_⟩
     simp only [single,res]
     exact ⟨l2,_,rfl,by omega⟩
end Go.Proofs.YtaddkhdghlaalaaGreatDoor
