/-
  Proved here: steps towards the statement of this claim, text SV3.
  No condition beyond what each statement spells out.
-/
import Derived.Test.YtgkllebnnakojaaGreatDoorSV2
import Derived.Test.YtgkllebnnakojaaGreatDoorF8
set_option linter.all false
set_option maxRecDepth 4000
set_option maxHeartbeats 4000000
namespace Go.Proofs.YtgkllebnnakojaaGreatDoor
open Go.Aw
def aYz (n:Nat) (r:AV):Prop:=∃(l':List bX) (b:Bool),r= .tup [.sl .own 2 (l'.map (aQ .own)),.bool b]∧szL aW l'≤n
def dX (s:bX) (a:aC) (x:aZ):bX:=
 if dZ (nC a.path) s.files < 0 then {s with files:=s.files++[⟨a.path,x⟩]} else {s with files:=s.files.set (dZ (nC a.path) s.files).toNat ⟨((s.files[(dZ (nC a.path) s.files).toNat]?).getD ⟨[],x⟩).path,x⟩}
theorem aDq {α:Type} (f:α→Nat) (c:Nat):∀(l:List α) (k:Nat) (h:k < l.length) (x:α),f x≤f l[k]+c→bF f (l.set k x)≤bF f l+c
 |[],k,h,_,_=>by simp at h
 |y::l,0,_,x,hx=>by simp only [List.getElem_cons_zero] at hx;simp only [List.set_cons_zero,bF];omega
 |y::l,k+1,h,x,hx=>by
  have:=aDq f c l k (by simpa using h) x (by simpa using hx)
  simp only [List.set_cons_succ,bF];omega
theorem aDm {α:Type} (f:α→Nat) (l:List α) (x:α):bF f (l++[x])=bF f l+f x:=by
 induction l with
 |nil=>simp [bF]
 |cons y l ih=>simp only [List.cons_append,bF,ih];omega
theorem xZ (s:bX) (a:aC) (x:aZ):aW (dX s a x)≤aW s+(aK a+bS x+4):=by
 unfold dX
 split
 ·simp only [aW,szL,aDm,List.length_append,List.length_cons,List.length_nil,tL,aK];omega
 ·by_cases h:(dZ (nC a.path) s.files).toNat < s.files.length
  ·have h2:=aDq tL (bS x) s.files _ h ⟨((s.files[(dZ (nC a.path) s.files).toNat]?).getD ⟨[],x⟩).path,x⟩ (by rw [List.getElem?_eq_getElem h];simp only [Option.getD_some,tL];omega)
   simp only [aW,szL,List.length_set] at h2⊢;omega
  ·rw [List.set_eq_of_length_le (by omega)];show aW s≤_;omega
theorem aW0 (l:List bX) (n:Nat) (s:bX) (a:aC) (x:aZ) (hn:n < l.length) (hg:l[n]=s):szL aW (l.set n (dX s a x))≤szL aW l+(aK a+bS x+4):=by
 subst hg
 have h:=aDq aW (aK a+bS x+4) l n hn _ (xZ l[n] a x)
 simp only [szL,List.length_set];omega
@[simp] theorem aY9 (u:List Nat) (b:Bool) (l:List bX):rtr (dU u) b (l.map (aQ .view))=l.map (aQ .view):=by
 induction l with
 |nil=>rfl
 |cons x l ih=>rw [List.map_cons,rtr,ih];simp [rtc,rt,aQ,dU]
theorem aFj [aB Tryz.prog] [cO Tryz.prog] (l:List bX) (a:aC) (x:aZ) (hs:szL aW l+aK a+bS x≤1048576):OkE Tryz.prog 61 [.sl .view 2 (l.map (aQ .view)),.agg (aD a),.agg (bU x)] (aYz (szL aW l+(2 * aK a+bS x+5))):=by
 have hl:l.length≤1048576:=by simp only [szL] at hs;omega
 have c1:=aNi l (by omega)
 have c2:=aAd l a.host (by omega)
 simp only [aD,bU] at *
 refine aTv Tryz.mix [7,10] Tryz.func61 Tryz.ntmps61 ?_
 have hx5:bS x≤1048576:=by omega
 have hN:∀(l1:List bX) (n:Nat) (s:bX),l1[n]? =some s→szL aW l1≤szL aW l+aK a+1→szL aW (l1.set n (dX s a x))≤szL aW l+(2 * aK a+bS x+5):=fun l1 n s hg hz=>by
  obtain ⟨hn,hg⟩:=List.getElem?_eq_some_iff.1 hg
  have:=aW0 l1 n s a x hn hg
  omega
 rcases gZ (vZ a.host) l with ⟨h1,_⟩|⟨n,hn,h1,_⟩
 ·rw [h1] at c2
  obtain ⟨s,hs1⟩:∃s:bX,s=⟨a.host,[]⟩:=⟨_,rfl⟩
  obtain ⟨l1,hl1⟩:∃m,m=l++[s]:=⟨_,rfl⟩
  have hap:l.map (aQ .own)++[[.str a.host,.sl .own 7 []]]=l1.map (aQ .own):=by rw [hl1,hs1];simp
  have hap':=hap
  have hg:l1[l.length]? =some s:=by rw [hl1];simp
  have hlt:l.length < l1.length:=by rw [hl1];simp
  have hz1:szL aW l1≤szL aW l+aK a+1:=by rw [hl1,hs1];simp only [szL,aDm,aW,List.length_append,List.length_cons,List.length_nil,bF,aK];omega
  clear hl1
  have hM:=hN _ _ _ hg hz1
  have hsz:aW s≤szL aW l1:=by
   obtain ⟨h3,h4⟩:=List.getElem?_eq_some_iff.1 hg
   have:=iK aW l1 _ h3
   rw [h4] at this
   simp only [szL];omega
  have hsf:s.files.length≤aW s:=by simp only [aW,szL];omega
  have c3:=zC s a.path (by omega)
  simp only [aQ] at c3
  have hnd:((l1.map (aQ .own)).all fun c=>jF 2 c)=true:=by simp [jF,nodep]
  have hli:((l.length:Nat):Int) < (l1.length:Int):=by omega
  have hset:∀r,((l1.map (aQ .own)).set l.length r)[l.length]? =some r:=fun r=>by simp [hlt]
  rcases gZ (nC a.path) s.files with ⟨h3,_⟩|⟨j,hj,h3,_⟩
  ·rw [h3] at c3
   have eP:dX s a x=⟨s.host,s.files++[⟨a.path,x⟩]⟩:=by unfold dX;rw [h3,if_pos (by omega)]
   have hhost:(dX s a x).host=s.host:=by rw [eP]
   clear hN
   obtain ⟨l2,hl2⟩:∃m,m=l1.set l.length (dX s a x):=⟨_,rfl⟩
   rw [←hl2] at hM
   have hlen2:l2.length=l1.length:=by rw [hl2,List.length_set]
   have hg2:l2[l.length]? =some (dX s a x):=by rw [hl2];simp [hlt]
   have hsz2:aW (dX s a x)≤16777216:=by
    have:=xZ s a x
    omega
   have hR:∀v,((l1.map (aQ .own)).set l.length [.str s.host,v]).set l.length (([.str s.host,v]:List AV).set 1 (.sl .own 7 ((dX s a x).files.map lK)))=l2.map (aQ .own):=fun v=>by
    rw [hl2,List.set_set,List.map_set]
    simp [hhost]
   have hp:∀v,((((l1.map (aQ .own)).set l.length [.str s.host,v]).set l.length (([.str s.host,v]:List AV).set 1 (.int .i64 0))).all fun r=>r.all AV.pureA)=true:=fun v=>by
    rw [List.set_set,List.all_eq_true]
    intro r hr
    rcases List.mem_or_eq_of_mem_set hr with hr|rfl
    ·obtain ⟨z,_,rfl⟩:=List.mem_map.1 hr
     simp [AV.pureA]
    ·simp [AV.pureA]
   have c4:=nD (dX s a x) hsz2
   have hpf:=(show (dX s a x).files=s.files++[⟨a.path,x⟩] by rw [eP])
   clear hlt
   clear eP
   have hli2:((l.length:Nat):Int) < (l2.length:Int):=by omega
   have W:=And.intro hap (And.intro hl (And.intro hg hli))
   repeat' first|refine st ?_|(refine nx ?_;first|refine se ?_|refine so ?_)|(refine cx ?_;refine sc (fun hc=>?_) (fun hc=>?_)<;>try exact hc.elim)|(refine lx ?_;refine sp (fun hc=>?_) (fun hc=>?_)<;>try exact hc.elim)|refine sx ?_ ?_|refine sy ?_ ?_|fail
   refine aBp 2 l.length 1 (by rfl) (e:=[.str s.host,.sl .own 7 (s.files.map lK)]) (by simp [hg]) (by rfl) ?_ (hrow:=hnd)
   have W:=And.intro hg (And.intro hli hset)
   repeat' first|refine st ?_|(refine nx ?_;first|refine se ?_|refine so ?_)|(refine cx ?_;refine sc (fun hc=>?_) (fun hc=>?_)<;>try exact hc.elim)|(refine lx ?_;refine sp (fun hc=>?_) (fun hc=>?_)<;>try exact hc.elim)|refine sx ?_ ?_|refine sy ?_ ?_|fail
   refine zI 2 4 l.length 1 (l2.map (aQ .own)) (by rfl) (by rfl) (hset _) (by rfl) (by rw [←hR (.obj 4 2),hpf];simp [lK]) (by exact hp _) ?_
   generalize dX s a x=s2 at *
   clear hset hnd hap' hR hp hpf hhost hg
   by_cases h4:(4:Int) < (l2.length:Int)
   ·have W:=h4
    repeat' first|refine st ?_|(refine nx ?_;first|refine se ?_|refine so ?_)|(refine cx ?_;refine sc (fun hc=>?_) (fun hc=>?_)<;>try exact hc.elim)|(refine lx ?_;refine sp (fun hc=>?_) (fun hc=>?_)<;>try exact hc.elim)|refine sx ?_ ?_|refine sy ?_ ?_|fail
    refine ⟨.inr rfl,pJ (by simp [Tryz.results61];rfl) (by simp) (by simp) ?_⟩
    simp only [single,res]
    exact ⟨l,_,rfl,by omega⟩
   ·simp only [aQ] at c4
    generalize kC s2=b at *
    cases b
    ·have W:=And.intro h4 (And.intro hg2 hli2)
     repeat' first|refine st ?_|(refine nx ?_;first|refine se ?_|refine so ?_)|(refine cx ?_;refine sc (fun hc=>?_) (fun hc=>?_)<;>try exact hc.elim)|(refine lx ?_;refine sp (fun hc=>?_) (fun hc=>?_)<;>try exact hc.elim)|refine sx ?_ ?_|refine sy ?_ ?_|fail
     refine ⟨.inr rfl,pJ (by simp [Tryz.results61];rfl) (by simp) (by simp) ?_⟩
     simp only [single,res]
     exact ⟨l,_,rfl,by omega⟩
    ·have W:=And.intro h4 (And.intro hg2 hli2)
     repeat' first|refine st ?_|(refine nx ?_;first|refine se ?_|refine so ?_)|(refine cx ?_;refine sc (fun hc=>?_) (fun hc=>?_)<;>try exact hc.elim)|(refine lx ?_;refine sp (fun hc=>?_) (fun hc=>?_)<;>try exact hc.elim)|refine sx ?_ ?_|refine sy ?_ ?_|fail
     refine ⟨.inr rfl,pJ (by simp [Tryz.results61];rfl) (by simp) (by simp) ?_⟩
     simp only [single,res]
     exact ⟨l2,_,rfl,by omega⟩
  ·rw [h3] at c3
   have hj0:(0:Int)≤(j:Int):=by omega
   have eP:dX s a x=⟨s.host,s.files.set j ⟨s.files[j].path,x⟩⟩:=by unfold dX;rw [h3,if_neg (by omega)];simp [hj]
   have hhost:(dX s a x).host=s.host:=by rw [eP]
   clear hN
   obtain ⟨l2,hl2⟩:∃m,m=l1.set l.length (dX s a x):=⟨_,rfl⟩
   rw [←hl2] at hM
   have hlen2:l2.length=l1.length:=by rw [hl2,List.length_set]
   have hg2:l2[l.length]? =some (dX s a x):=by rw [hl2];simp [hlt]
   have hsz2:aW (dX s a x)≤16777216:=by
    have:=xZ s a x
    omega
   have hR:∀v,((l1.map (aQ .own)).set l.length [.str s.host,v]).set l.length (([.str s.host,v]:List AV).set 1 (.sl .own 7 ((dX s a x).files.map lK)))=l2.map (aQ .own):=fun v=>by
    rw [hl2,List.set_set,List.map_set]
    simp [hhost]
   have hp:∀v,((((l1.map (aQ .own)).set l.length [.str s.host,v]).set l.length (([.str s.host,v]:List AV).set 1 (.int .i64 0))).all fun r=>r.all AV.pureA)=true:=fun v=>by
    rw [List.set_set,List.all_eq_true]
    intro r hr
    rcases List.mem_or_eq_of_mem_set hr with hr|rfl
    ·obtain ⟨z,_,rfl⟩:=List.mem_map.1 hr
     simp [AV.pureA]
    ·simp [AV.pureA]
   have c4:=nD (dX s a x) hsz2
   have hpf:=(show (dX s a x).files=s.files.set j ⟨s.files[j].path,x⟩ by rw [eP])
   clear hlt
   clear eP
   have hli2:((l.length:Nat):Int) < (l2.length:Int):=by omega
   have W:=And.intro hap (And.intro hl (And.intro hg (And.intro hli hj0)))
   repeat' first|refine st ?_|(refine nx ?_;first|refine se ?_|refine so ?_)|(refine cx ?_;refine sc (fun hc=>?_) (fun hc=>?_)<;>try exact hc.elim)|(refine lx ?_;refine sp (fun hc=>?_) (fun hc=>?_)<;>try exact hc.elim)|refine sx ?_ ?_|refine sy ?_ ?_|fail
   refine aBp 2 l.length 1 (by rfl) (e:=[.str s.host,.sl .own 7 (s.files.map lK)]) (by simp [hg]) (by rfl) ?_ (hrow:=hnd)
   have W:=And.intro hg (And.intro hli (And.intro hset (And.intro hj0 hj)))
   repeat' first|refine st ?_|(refine nx ?_;first|refine se ?_|refine so ?_)|(refine cx ?_;refine sc (fun hc=>?_) (fun hc=>?_)<;>try exact hc.elim)|(refine lx ?_;refine sp (fun hc=>?_) (fun hc=>?_)<;>try exact hc.elim)|refine sx ?_ ?_|refine sy ?_ ?_|fail
   refine zI 2 4 l.length 1 (l2.map (aQ .own)) (by rfl) (by rfl) (hset _) (by rfl) (by rw [←hR (.obj 4 1),hpf];simp [lK]) (by exact hp _) ?_
   generalize dX s a x=s2 at *
   clear hset hnd hap' hR hp hpf hhost hg
   by_cases h4:(4:Int) < (l2.length:Int)
   ·have W:=h4
    repeat' first|refine st ?_|(refine nx ?_;first|refine se ?_|refine so ?_)|(refine cx ?_;refine sc (fun hc=>?_) (fun hc=>?_)<;>try exact hc.elim)|(refine lx ?_;refine sp (fun hc=>?_) (fun hc=>?_)<;>try exact hc.elim)|refine sx ?_ ?_|refine sy ?_ ?_|fail
    refine ⟨.inr rfl,pJ (by simp [Tryz.results61];rfl) (by simp) (by simp) ?_⟩
    simp only [single,res]
    exact ⟨l,_,rfl,by omega⟩
   ·simp only [aQ] at c4
    generalize kC s2=b at *
    cases b
    ·have W:=And.intro h4 (And.intro hg2 hli2)
     repeat' first|refine st ?_|(refine nx ?_;first|refine se ?_|refine so ?_)|(refine cx ?_;refine sc (fun hc=>?_) (fun hc=>?_)<;>try exact hc.elim)|(refine lx ?_;refine sp (fun hc=>?_) (fun hc=>?_)<;>try exact hc.elim)|refine sx ?_ ?_|refine sy ?_ ?_|fail
     refine ⟨.inr rfl,pJ (by simp [Tryz.results61];rfl) (by simp) (by simp) ?_⟩
     simp only [single,res]
     exact ⟨l,_,rfl,by omega⟩
    ·have W:=And.intro h4 (And.intro hg2 hli2)
     repeat' first|refine st ?_|(refine nx ?_;first|refine se ?_|refine so ?_)|(refine cx ?_;refine sc (fun hc=>?_) (fun hc=>?_)<;>try exact hc.elim)|(refine lx ?_;refine sp (fun hc=>?_) (fun hc=>?_)<;>try exact hc.elim)|refine sx ?_ ?_|refine sy ?_ ?_|fail
     refine ⟨.inr rfl,pJ (by simp [Tryz.results61];rfl) (by simp) (by simp) ?_⟩
     simp only [single,res]
     exact ⟨l2,_,rfl,by omega⟩
 ·rw [h1] at c2
  obtain ⟨l1,hl1⟩:∃l1,l1=l:=⟨_,rfl⟩
  obtain ⟨s,hg⟩:∃s,l1[n]? =some s:=⟨_,by rw [hl1];exact List.getElem?_eq_getElem hn⟩
  have hap':=hl1
  have hlt:n < l1.length:=by rw [hl1];exact hn
  have hz1:szL aW l1≤szL aW l+aK a+1:=by rw [hl1];omega
  rw [show l.map (aQ .own)=l1.map (aQ .own) by rw [hl1]] at c1
  have hn0:(0:Int)≤(n:Int):=by omega
  clear hl1
  have hM:=hN _ _ _ hg hz1
  have hsz:aW s≤szL aW l1:=by
   obtain ⟨h3,h4⟩:=List.getElem?_eq_some_iff.1 hg
   have:=iK aW l1 _ h3
   rw [h4] at this
   simp only [szL];omega
  have hsf:s.files.length≤aW s:=by simp only [aW,szL];omega
  have c3:=zC s a.path (by omega)
  simp only [aQ] at c3
  have hnd:((l1.map (aQ .own)).all fun c=>jF 2 c)=true:=by simp [jF,nodep]
  have hli:((n:Nat):Int) < (l1.length:Int):=by omega
  have hset:∀r,((l1.map (aQ .own)).set n r)[n]? =some r:=fun r=>by simp [hlt]
  rcases gZ (nC a.path) s.files with ⟨h3,_⟩|⟨j,hj,h3,_⟩
  ·rw [h3] at c3
   have eP:dX s a x=⟨s.host,s.files++[⟨a.path,x⟩]⟩:=by unfold dX;rw [h3,if_pos (by omega)]
   have hhost:(dX s a x).host=s.host:=by rw [eP]
   clear hN
   obtain ⟨l2,hl2⟩:∃m,m=l1.set n (dX s a x):=⟨_,rfl⟩
   rw [←hl2] at hM
   have hlen2:l2.length=l1.length:=by rw [hl2,List.length_set]
   have hg2:l2[n]? =some (dX s a x):=by rw [hl2];simp [hlt]
   have hsz2:aW (dX s a x)≤16777216:=by
    have:=xZ s a x
    omega
   have hR:∀v,((l1.map (aQ .own)).set n [.str s.host,v]).set n (([.str s.host,v]:List AV).set 1 (.sl .own 7 ((dX s a x).files.map lK)))=l2.map (aQ .own):=fun v=>by
    rw [hl2,List.set_set,List.map_set]
    simp [hhost]
   have hp:∀v,((((l1.map (aQ .own)).set n [.str s.host,v]).set n (([.str s.host,v]:List AV).set 1 (.int .i64 0))).all fun r=>r.all AV.pureA)=true:=fun v=>by
    rw [List.set_set,List.all_eq_true]
    intro r hr
    rcases List.mem_or_eq_of_mem_set hr with hr|rfl
    ·obtain ⟨z,_,rfl⟩:=List.mem_map.1 hr
     simp [AV.pureA]
    ·simp [AV.pureA]
   have c4:=nD (dX s a x) hsz2
   have hpf:=(show (dX s a x).files=s.files++[⟨a.path,x⟩] by rw [eP])
   clear hlt
   clear eP
   have hli2:((n:Nat):Int) < (l2.length:Int):=by omega
   have W:=And.intro hn0 (And.intro hl (And.intro hg hli))
   repeat' first|refine st ?_|(refine nx ?_;first|refine se ?_|refine so ?_)|(refine cx ?_;refine sc (fun hc=>?_) (fun hc=>?_)<;>try exact hc.elim)|(refine lx ?_;refine sp (fun hc=>?_) (fun hc=>?_)<;>try exact hc.elim)|refine sx ?_ ?_|refine sy ?_ ?_|fail
   refine aBp 2 n 1 (by rfl) (e:=[.str s.host,.sl .own 7 (s.files.map lK)]) (by simp [hg]) (by rfl) ?_ (hrow:=hnd)
   have W:=And.intro hg (And.intro hli hset)
   repeat' first|refine st ?_|(refine nx ?_;first|refine se ?_|refine so ?_)|(refine cx ?_;refine sc (fun hc=>?_) (fun hc=>?_)<;>try exact hc.elim)|(refine lx ?_;refine sp (fun hc=>?_) (fun hc=>?_)<;>try exact hc.elim)|refine sx ?_ ?_|refine sy ?_ ?_|fail
   refine zI 2 3 n 1 (l2.map (aQ .own)) (by rfl) (by rfl) (hset _) (by rfl) (by rw [←hR (.obj 3 2),hpf];simp [lK]) (by exact hp _) ?_
   generalize dX s a x=s2 at *
   clear hset hnd hap' hR hp hpf hhost hg
   by_cases h4:(4:Int) < (l2.length:Int)
   ·have W:=h4
    repeat' first|refine st ?_|(refine nx ?_;first|refine se ?_|refine so ?_)|(refine cx ?_;refine sc (fun hc=>?_) (fun hc=>?_)<;>try exact hc.elim)|(refine lx ?_;refine sp (fun hc=>?_) (fun hc=>?_)<;>try exact hc.elim)|refine sx ?_ ?_|refine sy ?_ ?_|fail
    refine ⟨.inr rfl,pJ (by simp [Tryz.results61];rfl) (by simp) (by simp) ?_⟩
    simp only [single,res]
    exact ⟨l1,_,rfl,by omega⟩
   ·simp only [aQ] at c4
    generalize kC s2=b at *
    cases b
    ·have W:=And.intro h4 (And.intro hg2 hli2)
     repeat' first|refine st ?_|(refine nx ?_;first|refine se ?_|refine so ?_)|(refine cx ?_;refine sc (fun hc=>?_) (fun hc=>?_)<;>try exact hc.elim)|(refine lx ?_;refine sp (fun hc=>?_) (fun hc=>?_)<;>try exact hc.elim)|refine sx ?_ ?_|refine sy ?_ ?_|fail
     refine ⟨.inr rfl,pJ (by simp [Tryz.results61];rfl) (by simp) (by simp) ?_⟩
     simp only [single,res]
     exact ⟨l1,_,rfl,by omega⟩
    ·have W:=And.intro h4 (And.intro hg2 hli2)
     repeat' first|refine st ?_|(refine nx ?_;first|refine se ?_|refine so ?_)|(refine cx ?_;refine sc (fun hc=>?_) (fun hc=>?_)<;>try exact hc.elim)|(refine lx ?_;refine sp (fun hc=>?_) (fun hc=>?_)<;>try exact hc.elim)|refine sx ?_ ?_|refine sy ?_ ?_|fail
     refine ⟨.inr rfl,pJ (by simp [Tryz.results61];rfl) (by simp) (by simp) ?_⟩
     simp only [single,res]
     exact ⟨l2,_,rfl,by omega⟩
  ·rw [h3] at c3
   have hj0:(0:Int)≤(j:Int):=by omega
   have eP:dX s a x=⟨s.host,s.files.set j ⟨s.files[j].path,x⟩⟩:=by unfold dX;rw [h3,if_neg (by omega)];simp [hj]
   have hhost:(dX s a x).host=s.host:=by rw [eP]
   clear hN
   obtain ⟨l2,hl2⟩:∃m,m=l1.set n (dX s a x):=⟨_,rfl⟩
   rw [←hl2] at hM
   have hlen2:l2.length=l1.length:=by rw [hl2,List.length_set]
   have hg2:l2[n]? =some (dX s a x):=by rw [hl2];simp [hlt]
   have hsz2:aW (dX s a x)≤16777216:=by
    have:=xZ s a x
    omega
   have hR:∀v,((l1.map (aQ .own)).set n [.str s.host,v]).set n (([.str s.host,v]:List AV).set 1 (.sl .own 7 ((dX s a x).files.map lK)))=l2.map (aQ .own):=fun v=>by
    rw [hl2,List.set_set,List.map_set]
    simp [hhost]
   have hp:∀v,((((l1.map (aQ .own)).set n [.str s.host,v]).set n (([.str s.host,v]:List AV).set 1 (.int .i64 0))).all fun r=>r.all AV.pureA)=true:=fun v=>by
    rw [List.set_set,List.all_eq_true]
    intro r hr
    rcases List.mem_or_eq_of_mem_set hr with hr|rfl
    ·obtain ⟨z,_,rfl⟩:=List.mem_map.1 hr
     simp [AV.pureA]
    ·simp [AV.pureA]
   have c4:=nD (dX s a x) hsz2
   have hpf:=(show (dX s a x).files=s.files.set j ⟨s.files[j].path,x⟩ by rw [eP])
   clear hlt
   clear eP
   have hli2:((n:Nat):Int) < (l2.length:Int):=by omega
   have W:=And.intro hn0 (And.intro hl (And.intro hg (And.intro hli hj0)))
   repeat' first|refine st ?_|(refine nx ?_;first|refine se ?_|refine so ?_)|(refine cx ?_;refine sc (fun hc=>?_) (fun hc=>?_)<;>try exact hc.elim)|(refine lx ?_;refine sp (fun hc=>?_) (fun hc=>?_)<;>try exact hc.elim)|refine sx ?_ ?_|refine sy ?_ ?_|fail
   refine aBp 2 n 1 (by rfl) (e:=[.str s.host,.sl .own 7 (s.files.map lK)]) (by simp [hg]) (by rfl) ?_ (hrow:=hnd)
   have W:=And.intro hg (And.intro hli (And.intro hset (And.intro hj0 hj)))
   repeat' first|refine st ?_|(refine nx ?_;first|refine se ?_|refine so ?_)|(refine cx ?_;refine sc (fun hc=>?_) (fun hc=>?_)<;>try exact hc.elim)|(refine lx ?_;refine sp (fun hc=>?_) (fun hc=>?_)<;>try exact hc.elim)|refine sx ?_ ?_|refine sy ?_ ?_|fail
   refine zI 2 3 n 1 (l2.map (aQ .own)) (by rfl) (by rfl) (hset _) (by rfl) (by rw [←hR (.obj 3 1),hpf];simp [lK]) (by exact hp _) ?_
   generalize dX s a x=s2 at *
   clear hset hnd hap' hR hp hpf hhost hg
   by_cases h4:(4:Int) < (l2.length:Int)
   ·have W:=h4
    repeat' first|refine st ?_|(refine nx ?_;first|refine se ?_|refine so ?_)|(refine cx ?_;refine sc (fun hc=>?_) (fun hc=>?_)<;>try exact hc.elim)|(refine lx ?_;refine sp (fun hc=>?_) (fun hc=>?_)<;>try exact hc.elim)|refine sx ?_ ?_|refine sy ?_ ?_|fail
    refine ⟨.inr rfl,pJ (by simp [Tryz.results61];rfl) (by simp) (by simp) ?_⟩
    simp only [single,res]
    exact ⟨l1,_,rfl,by omega⟩
   ·simp only [aQ] at c4
    generalize kC s2=b at *
    cases b
    ·have W:=And.intro h4 (And.intro hg2 hli2)
     repeat' first|refine st ?_|(refine nx ?_;first|refine se ?_|refine so ?_)|(refine cx ?_;refine sc (fun hc=>?_) (fun hc=>?_)<;>try exact hc.elim)|(refine lx ?_;refine sp (fun hc=>?_) (fun hc=>?_)<;>try exact hc.elim)|refine sx ?_ ?_|refine sy ?_ ?_|fail
     refine ⟨.inr rfl,pJ (by simp [Tryz.results61];rfl) (by simp) (by simp) ?_⟩
     simp only [single,res]
     exact ⟨l1,_,rfl,by omega⟩
    ·have W:=And.intro h4 (And.intro hg2 hli2)
     repeat' first|refine st ?_|(refine nx ?_;first|refine se ?_|refine so ?_)|(refine cx ?_;refine sc (fun hc=>?_) (fun hc=>?_)<;>try exact hc.elim)|(refine lx ?_;refine sp (fun hc=>?_) (fun hc=>?_)<;>try exact hc.elim)|refine sx ?_ ?_|refine sy ?_ ?_|fail
     refine ⟨.inr rfl,pJ (by simp [Tryz.results61];rfl) (by simp) (by simp) ?_⟩
     simp only [single,res]
     exact ⟨l2,_,rfl,by omega⟩
end Go.Proofs.YtgkllebnnakojaaGreatDoor
