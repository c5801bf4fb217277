/-
  Proved here: steps towards the statement of this claim, text ST2.
  No condition beyond what each statement spells out.
-/
import Derived.Test.YtgkcdgaljknohaaGreatDoorT1
import Derived.WalkKit
import Derived.BigCall
import Derived.Test.YtgkcdgaljknohaaGreatDoorSD1
import Derived.Test.YtgkcdgaljknohaaGreatDoorF4
set_option linter.all false
set_option maxRecDepth 100000
set_option maxHeartbeats 4000000
namespace Go.Proofs.YtgkcdgaljknohaaGreatDoor
open Go.Aw Go.Shelf Go.RowKit
theorem arg_str1 {w:World} {E:Env} {a:Str} {vs:List Value} {fp:List Nat} (h:Rc w E [.str a] vs fp):vs=[.string ⟨a.toArray⟩]:=by
 match vs,h with
 |[],h=>simp [Rc] at h
 |[x],h=>
  simp only [Rc,R] at h
  obtain ⟨_,_,h1,_,_⟩:=h
  rw [h1.1]
 |_::_::_,h=>simp [Rc] at h
theorem itoa_call [Tabs Tryz.prog] [HasPow Tryz.prog] (v:Int) (h1: -9223372036854775808≤v∧v≤9223372036854775807) (w:World) (hg:Tabs.holds Tryz.prog w):
  Calls Tryz.prog 237 #[.int .i64 v] w fun e w'=>e= .returned (.string ⟨(Lib.itoa v).toArray⟩)∧Below w.heap.size w w':=by
 refine (implFormatInt_ok v h1 w [.int .i64 v] hg (by simp [Rc,R])).mono fun e w' h=> ?_
 obtain ⟨x,fp,he,hr,_,_,h3,h4,h5⟩:=h
 simp only [R] at hr
 rw [hr.1] at he
 exact ⟨he,⟨h5.os,h5.tape,h5.output,h3,h4⟩⟩
theorem implParseInt_ok [Tabs Tryz.prog] [HasPow Tryz.prog] [HasErr Tryz.prog] (s:Str) (hl:s.length≤1099511627776):Ok Tryz.prog 240 [.str s] (pIntR s):=by
 intro w vs hg h
 obtain rfl:=arg_str1 h
 have fin:∀{e:Ending} {w':World} {n:Int} {b:Bool},pIntR s= .tup [.int .i64 n,.bool b]→e= .returned (.tuple #[.int .i64 n,.bool b])→Below w.heap.size w w'→∃v fp,e= .returned v∧R w' (envNew w.heap.size w' fp) (pIntR s) v fp∧fp.Nodup∧
   (∀b∈fp,w.heap.size≤b∧b < w'.heap.size)∧w.heap.size≤w'.heap.size∧(∀b,b < w.heap.size→w'.heap[b]? =w.heap[b]?)∧Same w w':=
  fun hp he hb=>⟨_,[],he,by rw [hp];simp [R,Rc],List.nodup_nil,by simp,hb.size,hb.block,below_same hb⟩
 have A:=atoi_calls Tryz.LaysCx172 s (by omega) w hg
 go_enter Tryz.func240,Tryz.ntmps240
 go_wp2_with (go_at_call 271;refine A.mono ?_)
 rintro e w1 ⟨hA,hb⟩
 clear A
 have hg1:=Tabs.stable w w1 hg fun b h=>hb.block b (Nat.lt_of_lt_of_le h (Tabs.low_le w hg))
 rcases hA with ⟨v,hv,rfl⟩|⟨hn,v,t,p,rfl⟩
 ·rcases pInt_atoi s with ⟨v',hv',h0,h1,hi,hp⟩|⟨hp,hall⟩
  ·obtain rfl:v=v':=by rw [hv] at hv';exact Lib.NumEnd.ok.inj hv'
   have d0:decide (v < 0)=false:=by simpa using h0
   have d1:decide (1000000000000 < v)=false:=by simpa using h1
   have C:=itoa_call v (by omega) w1 hg1
   rw [hi] at C
   have F:= @fin
   clear hv hv' h0 h1 hi fin
   go_wp2_with (go_at_call 237;refine C.mono ?_)
   rintro e w2 ⟨rfl,hb2⟩
   clear C
   go_wp2
   go_ret2
   exact F (pIntR_some hp) rfl (hb.trans (hb2.mono hb.size))
  ·have hr:=pIntR_none hp
   have bd:=Lib.atoiAll_bounds hv
   by_cases h0:v < 0
   ·have d0:decide (v < 0)=true:=by simpa using h0
    clear hv h0 hall bd
    go_wp2
    go_ret2
    exact fin hr rfl hb
   by_cases h1:1000000000000 < v
   ·have d0:decide (v < 0)=false:=by simpa using h0
    have d1:decide (1000000000000 < v)=true:=by simpa using h1
    clear hv h0 h1 hall bd
    go_wp2
    go_ret2
    exact fin hr rfl hb
   ·have hi:Lib.itoa v≠s:=by
     rcases hall v hv with h|h|h
     ·exact absurd h h0
     ·exact absurd h h1
     ·exact h
    have d0:decide (v < 0)=false:=by simpa using h0
    have d1:decide (1000000000000 < v)=false:=by simpa using h1
    have C:=itoa_call v (by omega) w1 hg1
    generalize Lib.itoa v=x at C hi
    have d2:(x == s)=false:=by simpa using hi
    have d3:(x != s)=true:=by simpa using hi
    clear hv h0 h1 hall bd
    go_wp2_with (go_at_call 237;refine C.mono ?_)
    rintro e w2 ⟨rfl,hb2⟩
    clear C
    go_wp2
    go_ret2
    exact fin hr rfl (hb.trans (hb2.mono hb.size))
 ·have hp:pInt s=none:=by
   rcases pInt_atoi s with ⟨v',hv',_⟩|⟨hp,_⟩
   ·exact absurd hv' (hn _)
   ·exact hp
  have hr:=pIntR_none hp
  clear hn
  go_wp2
  go_ret2
  exact fin hr rfl hb
end Go.Proofs.YtgkcdgaljknohaaGreatDoor

set_option maxRecDepth 4000
set_option maxHeartbeats 400000
namespace Go.Proofs.YtgkcdgaljknohaaGreatDoor
open Go.Aw
theorem specFindAttr_ok [Tabs Tryz.prog] (l:List DAttr) (n:Str) (hl:l.length≤1099511627776):Ok Tryz.prog 194 [.sl .view 2 (l.map eAttr),.str n] (.tup [.str (findAttr l n).1,.bool (findAttr l n).2]):=by
 refine ent Tryz.mix Tryz.func194 Tryz.ntmps194 ?_
 have W:=trivial
 repeat' first|refine wl ?_|refine sq (fun hc=>?_) fun hc=>?_|fail
 refine awp_loop' (ι:={k:Nat // k≤l.length∧∀x∈l.take k,attrIs n x=false}) (fun t o i=>⟨upds t [(6,.int .i64 i.1)],o⟩)
  (fun i=>l.length - i.1) ⟨0,by simp,by simp⟩ (weak_o (by simp) (by simp)) ?_
 rintro ⟨k,hk,hi⟩ K1 hK1
 simp only [upds,List.set_cons_succ,List.set_cons_zero] at hK1⊢
 have hk1:IntKind.i64.wrap ((k:Int)+1)=((k+1:Nat):Int):=by rw [wrap64]<;>omega
 by_cases hlt:k < l.length
 ·have hg:=List.getElem?_eq_getElem hlt
  have W:=And.intro hk1 (And.intro hg hlt)
  repeat' first|refine wl ?_|refine sq (fun hc=>?_) fun hc=>?_|fail
  ·all_goals (try (refine ⟨.inr rfl,?_⟩;simp [Hands,Tryz.results194]))
   rw [findAttr_at hlt (by simpa [attrIs] using hc) hi]
   simp
  ·exact hK1 _ ⟨k+1,by omega,take_succ_all hlt hi (by simpa [attrIs] using hc)⟩ (weak_o (by simp) (by simp)) (by simp only;omega)
 ·have W:=hk1
  repeat' first|refine wl ?_|refine sq (fun hc=>?_) fun hc=>?_|fail
  all_goals (try (refine ⟨.inr rfl,?_⟩;simp [Hands,Tryz.results194]))
  rw [findAttr_none (take_all (by omega) hi)]
  simp
theorem attr1_ok [Tabs Tryz.prog] (g:DAttr) (n:Str):Ok Tryz.prog 246 [.agg (eAttr g),.vptr .view [.str n] 0] (.bool (attrIs n g)):=by
 refine ent Tryz.mix Tryz.func246 Tryz.ntmps246 ?_
 have W:=trivial
 repeat' first|refine wl ?_|refine sq (fun hc=>?_) fun hc=>?_|fail
 all_goals (try (refine ⟨.inr rfl,?_⟩;simp [Hands,Tryz.results246]))
 rw [Bool.eq_iff_iff]
 simp [attrIs]
theorem indexAttr_ok [Tabs Tryz.prog] (l:List DAttr) (n:Str) (hl:l.length≤1099511627776):Ok Tryz.prog 245 [.sl .view 2 (l.map eAttr),.fn 246 [.vptr .view [.str n] 0]] (.int .i64 (idxI (attrIs n) l)):=by
 refine ent Tryz.mix Tryz.func245 Tryz.ntmps245 ?_
 have W:=trivial
 repeat' first|refine wl ?_|refine sq (fun hc=>?_) fun hc=>?_|fail
 refine awp_loop' (ι:={k:Nat // k≤l.length∧∀x∈l.take k,attrIs n x=false}) (fun t o i=>⟨upds t [(8,.int .i64 i.1),(5,.undef)],o⟩)
  (fun i=>l.length - i.1) ⟨0,by simp,by simp⟩ (weak_o (by simp) (by simp)) ?_
 rintro ⟨k,hk,hi⟩ K1 hK1
 simp only [upds,List.set_cons_succ,List.set_cons_zero] at hK1⊢
 have hk1:IntKind.i64.wrap ((k:Int)+1)=((k+1:Nat):Int):=by rw [wrap64]<;>omega
 by_cases hlt:k < l.length
 ·have hg:=List.getElem?_eq_getElem hlt
  have W:=And.intro hk1 (And.intro hg hlt)
  have c0:=attr1_ok l[k] n
  repeat' first|refine wl ?_|refine sq (fun hc=>?_) fun hc=>?_|fail
  ·all_goals (try (refine ⟨.inr rfl,?_⟩;simp [Hands,Tryz.results245]))
   rw [idxI_at hlt (by simpa using hc) hi]
  ·exact hK1 _ ⟨k+1,by omega,take_succ_all hlt hi (by simpa using hc)⟩ (weak_o (by simp) (by simp)) (by simp only;omega)
 ·have W:=hk1
  repeat' first|refine wl ?_|refine sq (fun hc=>?_) fun hc=>?_|fail
  all_goals (try (refine ⟨.inr rfl,?_⟩;simp [Hands,Tryz.results245]))
  rw [idxI_none (take_all (by omega) hi)]
theorem idxI_lt {α:Type} (f:α→Bool) (l:List α) (h:l.findIdx f < l.length):idxI f l=(l.findIdx f:Nat):=by
 unfold idxI
 rw [if_pos]
 exact List.any_eq_true.2 ⟨_,List.getElem_mem h,List.findIdx_getElem (w:=h)⟩
theorem idxI_ge {α:Type} (f:α→Bool) (l:List α) (h:¬l.findIdx f < l.length):idxI f l= -1:=by
 refine idxI_none fun x hx=> ?_
 have he:l.findIdx f=l.length:=by have:=List.findIdx_le_length (p:=f) (xs:=l);omega
 have:=List.findIdx_eq_length.1 he x hx
 simpa using this
theorem findAttr_ix (l:List DAttr) (n:Str) (h:l.findIdx (attrIs n) < l.length):findAttr l n=(l[l.findIdx (attrIs n)].value,true):=by
 refine findAttr_at h (List.findIdx_getElem (w:=h)) ?_
 intro x hx
 obtain ⟨i,hi,rfl⟩:=List.getElem_of_mem hx
 have hi':i < l.findIdx (attrIs n):=by have:=hi;simp at this;omega
 rw [List.getElem_take]
 have:=List.not_of_lt_findIdx (p:=(attrIs n)) (xs:=l) hi'
 simpa using this
theorem findAttr_no (l:List DAttr) (n:Str) (h:¬l.findIdx (attrIs n) < l.length):findAttr l n=([],false):=by
 refine findAttr_none fun x hx=> ?_
 have he:l.findIdx (attrIs n)=l.length:=by have:=List.findIdx_le_length (p:=attrIs n) (xs:=l);omega
 have:=List.findIdx_eq_length.1 he x hx
 simpa using this
theorem implFindAttr_ok [Tabs Tryz.prog] (l:List DAttr) (n:Str) (hl:l.length≤1099511627776):Ok Tryz.prog 199 [.sl .view 2 (l.map eAttr),.str n] (.tup [.str (findAttr l n).1,.bool (findAttr l n).2]):=by
 have hF:=indexAttr_ok l n hl
 by_cases h:l.findIdx (attrIs n) < l.length
 ·rw [idxI_lt _ _ h] at hF
  rw [findAttr_ix _ _ h]
  generalize hk:l.findIdx (attrIs n)=k at *
  have hg:=List.getElem?_eq_getElem h
  refine ent Tryz.mix Tryz.func199 Tryz.ntmps199 ?_
  have W:=hg
  have V:=h
  have c0:=hF
  repeat' first|refine wl ?_|refine sq (fun hc=>?_) fun hc=>?_|fail
  all_goals (try (refine ⟨.inr rfl,?_⟩;simp [Hands,Tryz.results199]))
  all_goals simp
 ·rw [idxI_ge _ _ h] at hF
  rw [findAttr_no _ _ h]
  refine ent Tryz.mix Tryz.func199 Tryz.ntmps199 ?_
  have W:=trivial
  have c0:=hF
  repeat' first|refine wl ?_|refine sq (fun hc=>?_) fun hc=>?_|fail
  all_goals (try (refine ⟨.inr rfl,?_⟩;simp [Hands,Tryz.results199]))
  all_goals simp
theorem indexByteString_ok [Tabs Tryz.prog] (s:Str) (c:UInt8):OkN Tryz.prog 297 [.str s,.int .u8 c.toNat] (.int .i64 (ixI c s)):=
 okN_indexByte (fn:=Tryz.f297) (by kernel_rfl) (by decide+kernel) rfl (by decide+kernel) (by rfl) s c
end Go.Proofs.YtgkcdgaljknohaaGreatDoor
