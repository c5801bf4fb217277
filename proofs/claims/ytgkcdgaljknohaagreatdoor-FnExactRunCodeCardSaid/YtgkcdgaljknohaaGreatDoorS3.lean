/-
  Proved here: steps towards the statement of this claim, text S3.
  No condition beyond what each statement spells out.
-/
import Derived.Test.YtgkcdgaljknohaaGreatDoorS2
import Derived.Test.YtgkcdgaljknohaaGreatDoorY4
set_option linter.all false
set_option maxRecDepth 4000
set_option maxHeartbeats 4000000
namespace Go.Proofs.YtgkcdgaljknohaaGreatDoor
open Go.Aw
theorem indexByteS_ok [Tabs Tryz.prog] [HasMax Tryz.prog] (s:Str) (c:UInt8):Ok Tryz.prog 241 [.str s,.int .u8 c.toNat] (.int .i64 (ixI c s)):=by
 have h1:=stringsIndexByte_ok s c
 refine ent Tryz.mix Tryz.func241 Tryz.ntmps241 ?_
 have W:=trivial
 repeat' first|refine we ?_|(refine sq (fun hc=>?_) (fun hc=>?_)<;>try exact hc.elim)|fail
 all_goals (try (refine ⟨.inr rfl,?_⟩;simp [Hands,Tryz.results241]))
def tagPick (t:DToken×Bool):List DToken:=if t.2=true then [t.1] else []
def feedStep (x:Str):Option (List DToken×Str):=
 if 0 < ixB 60 x∧ixB 60 x < x.length then some ([⟨3,[],[],x.take (ixB 60 x)⟩],x.drop (ixB 60 x))
 else if ixB 60 x≠0∨ixB 62 x=x.length then none
 else some (tagPick (tagOf ((x.take (ixB 62 x)).drop 1)),x.drop (ixB 62 x+1))
theorem feedStep_lt {x:Str} {ts:List DToken} {y:Str} (h:feedStep x=some (ts,y)):y.length < x.length∧ts.length≤1∧sumN szToken ts+y.length≤x.length:=by
 unfold feedStep at h
 split at h
 ·rename_i hc
  simp only [Option.some.injEq,Prod.mk.injEq] at h
  obtain ⟨rfl,rfl⟩:=h
  simp [sumN,szToken,szL];omega
 ·split at h
  ·cases h
  ·rename_i hc
   have h62:=ixB_le 62 x
   simp only [Option.some.injEq,Prod.mk.injEq] at h
   obtain ⟨rfl,rfl⟩:=h
   have hz:=tagOf_sz ((x.take (ixB 62 x)).drop 1)
   simp only [List.length_drop,List.length_take] at hz
   generalize tagOf ((x.take (ixB 62 x)).drop 1)=tg at *
   unfold tagPick
   split<;>simp [sumN]<;>omega
def feedN:Nat→Str→List DToken×Str
 |0,x=>([],x)
 |n+1,x=>match feedStep x with
  |none=>([],x)
  |some (ts,y)=>(ts++(feedN n y).1,(feedN n y).2)
def feed (x:Str):List DToken×Str:=feedN x.length x
theorem feedN_enough:∀(n:Nat) (x:Str),x.length≤n→feedN n x=feedN x.length x
 |0,x,h=>by rw [show x.length=0 by omega]
 |n+1,x,h=>by
  cases hs:feedStep x with
  |none=>
   cases hx:x.length with
   |zero=>simp [feedN,hs]
   |succ m=>simp [feedN,hs]
  |some q=>
   obtain ⟨ts,y⟩:=q
   have hlt:=(feedStep_lt hs).1
   cases hx:x.length with
   |zero=>omega
   |succ m=>
    simp only [feedN,hs]
    rw [feedN_enough n y (by omega),feedN_enough m y (by omega)]
theorem feed_some {x:Str} {ts:List DToken} {y:Str} (h:feedStep x=some (ts,y)):feed x=(ts++(feed y).1,(feed y).2):=by
 have hlt:=(feedStep_lt h).1
 unfold feed
 cases hx:x.length with
 |zero=>omega
 |succ m=>
  simp only [feedN,h]
  rw [feedN_enough m y (by omega)]
theorem feed_none {x:Str} (h:feedStep x=none):feed x=([],x):=by
 unfold feed
 cases hx:x.length with
 |zero=>simp [feedN]
 |succ m=>simp [feedN,h]
theorem feed_sz:∀(n:Nat) (x:Str),x.length≤n→(feed x).1.length+(feed x).2.length≤x.length∧sumN szToken (feed x).1+(feed x).2.length≤x.length
 |n,x,h=>by
  cases hs:feedStep x with
  |none=>rw [feed_none hs];simp [sumN]
  |some q=>
   obtain ⟨ts,y⟩:=q
   obtain ⟨h1,h2,h3⟩:=feedStep_lt hs
   rw [feed_some hs]
   cases n with
   |zero=>omega
   |succ n=>
    obtain ⟨i1,i2⟩:=feed_sz n y (by omega)
    have hj:∀a b:List DToken,sumN szToken (a++b)=sumN szToken a+sumN szToken b:=by
     intro a b
     induction a with
     |nil=>simp [sumN]
     |cons x xs ih=>simp only [List.cons_append,sumN,ih];omega
    simp only [List.length_append,hj]
    omega
theorem ix_zero {x:Str} (h0:ixB 60 x=0) (h1:ixB 62 x < x.length):1≤ixB 62 x:=by
 cases x with
 |nil=>simp at h1
 |cons c r=>
  rw [ixB_cons] at h0⊢
  by_cases hc:c=60
  ·subst hc
   rw [if_neg (by decide)]
   omega
  ·rw [if_neg hc] at h0;omega
theorem specFeedText_ok [Tabs Tryz.prog] [HasMax Tryz.prog] (t:DTokenizer) (s:Str) (hl:t.rest.length+s.length≤274877906944):Ok Tryz.prog 111 [.agg (eTokenizer t),.str s] (.tup [.sl .own 4 ((feed (t.rest++s)).1.map (eToken .own)),.agg [.str (feed (t.rest++s)).2]]):=by
 obtain ⟨rest⟩:=t
 simp only at hl⊢
 have hx0:(rest++s).length≤274877906944:=by simp;omega
 have hj:rest.length+s.length≤9223372036854775807:=by omega
 generalize hx:rest++s=x0 at *
 generalize hF:feed x0=F at *
 refine ent Tryz.mix Tryz.func111 Tryz.ntmps111 ?_
 have W:=And.intro hj hx
 repeat' first|refine we ?_|(refine sq (fun hc=>?_) (fun hc=>?_)<;>try exact hc.elim)|fail
 refine awp_loop' (ι:={q:Str×List DToken×Nat // (q.2.1.length+q.1.length≤x0.length∧1≤q.2.2)∧F=(q.2.1++(feed q.1).1,(feed q.1).2)}) (fun t o i=>⟨upds t [(6,.obj 2 i.1.2.2),(7,.str i.1.1)],[⟨true,true,1,0,[[.str rest]]⟩,⟨true,true,1,0,[[.str []]]⟩,⟨true,false,4,i.1.2.2,i.1.2.1.map (eToken .own)⟩]⟩)
  (fun i=>i.1.1.length) ⟨(x0,[],1),by simp,by simp [hF]⟩ (weak_o (by simp) (by simp)) ?_
 rintro ⟨⟨x,acc,v⟩,⟨hal,hv⟩,hgo⟩ K1 hK1
 simp only at hal hv hgo
 simp only [upds,List.set_cons_succ,List.set_cons_zero] at hK1⊢
 have cK:Ok Tryz.prog 177 [.str x,.int .u8 60] (.int .i64 (ixB 60 x:Nat)):=l5Index_ok x 60 (by omega)
 have cE:Ok Tryz.prog 177 [.str x,.int .u8 62] (.int .i64 (ixB 62 x:Nat)):=l5Index_ok x 62 (by omega)
 have hkl:=ixB_le 60 x
 have hel:=ixB_le 62 x
 have h1e:=ix_zero (x:=x)
 have cT:=specTagOf_ok ((x.take (ixB 62 x)).drop 1) (by simp;omega)
 simp only [eToken,List.drop_one] at cT
 have hst:feedStep x=_:=rfl
 unfold feedStep at hst
 by_cases hA:0 < ixB 60 x∧ixB 60 x < x.length
 ·have hfs:feedStep x=some ([⟨3,[],[],x.take (ixB 60 x)⟩],x.drop (ixB 60 x)):=by unfold feedStep;rw [if_pos hA]
  rw [feed_some hfs] at hgo
  have hA1:(0:Int) < ((ixB 60 x:Nat):Int):=by omega
  have hA2:((ixB 60 x:Nat):Int) < (x.length:Int):=by omega
  clear hst hfs cT cE h1e hel
  generalize ixB 60 x=k at *
  have hb1:(acc.length+1) * 64≤140737488355328:=by omega
  have W:=And.intro hA1 (And.intro hA2 hb1)
  repeat' first|refine we ?_|(refine sq (fun hc=>?_) (fun hc=>?_)<;>try exact hc.elim)|fail
  all_goals refine hK1 _ ⟨(x.drop k,acc++[⟨3,[],[],x.take k⟩],v+1),⟨by simp;omega,by simp only;omega⟩,by rw [hgo];simp⟩ (weak_take 3 (by simp) (by simp) (by simp) (by simp)) (by simp;omega)
 ·by_cases hB:ixB 60 x≠0∨ixB 62 x=x.length
  ·have hfs:feedStep x=none:=by unfold feedStep;rw [if_neg hA,if_pos hB]
   rw [feed_none hfs] at hgo
   subst hgo
   clear hst hfs cT h1e hK1
   by_cases hk0:ixB 60 x=0
   ·have hee:ixB 62 x=x.length:=by rcases hB with h|h;exact absurd hk0 h;exact h
    rw [hk0] at cK
    rw [hee] at cE
    clear hA hB
    have W:=trivial
    repeat' first|refine we ?_|(refine sq (fun hc=>?_) (fun hc=>?_)<;>try exact hc.elim)|fail
    all_goals (try (refine ⟨.inr rfl,?_⟩;simp [Hands,Tryz.results111]))
   ·have hkk:ixB 60 x=x.length:=by omega
    have hx1:¬x=[]:=by rintro rfl;simp at hkk;exact hk0 hkk
    have hx2:0 < x.length:=List.length_pos_iff.2 hx1
    rw [hkk] at cK
    clear hA hB hk0
    have W:=And.intro hx1 hx2
    repeat' first|refine we ?_|(refine sq (fun hc=>?_) (fun hc=>?_)<;>try exact hc.elim)|fail
    all_goals (try (refine ⟨.inr rfl,?_⟩;simp [Hands,Tryz.results111]))
  ·have hfs:feedStep x=some (tagPick (tagOf ((x.take (ixB 62 x)).drop 1)),x.drop (ixB 62 x+1)):=by unfold feedStep;rw [if_neg hA,if_neg hB]
   rw [feed_some hfs] at hgo
   have hk0:ixB 60 x=0:=by omega
   have hE1:=h1e hk0 (by omega)
   have hE2:ixB 62 x < x.length:=by omega
   rw [hk0] at cK
   clear hst hfs h1e hA hB hk0 hkl
   generalize ixB 62 x=e at *
   rw [List.drop_one] at hgo
   generalize tagOf (x.take e).tail=tg at *
   obtain ⟨tk,ok⟩:=tg
   simp only at cT
   have hE3:¬((e:Int)=(x.length:Int)):=by omega
   have hE4:(1:Int)≤(e:Int):=by omega
   have hE5:(e:Int)≤(x.length:Int):=by omega
   have hw:IntKind.i64.wrap ((e:Int)+1)=((e+1:Nat):Int):=by rw [wrap64]<;>omega
   have hE6:e+1≤x.length:=by omega
   have hb1:(acc.length+1) * 64≤140737488355328:=by omega
   cases ok
   ·simp only [tagPick,Bool.false_eq_true,if_false,List.nil_append] at hgo
    have W:=And.intro hE3 (And.intro hE4 (And.intro hE5 (And.intro hw (And.intro hE6 hE1))))
    repeat' first|refine we ?_|(refine sq (fun hc=>?_) (fun hc=>?_)<;>try exact hc.elim)|fail
    all_goals refine hK1 _ ⟨(x.drop (e+1),acc,v),⟨by simp;omega,hv⟩,hgo⟩ (weak_take 3 (by simp) (by simp) (by simp) (by simp)) (by simp;omega)
   ·simp only [tagPick,if_true] at hgo
    have W:=And.intro hE3 (And.intro hE4 (And.intro hE5 (And.intro hw (And.intro hE6 (And.intro hE1 hb1)))))
    repeat' first|refine we ?_|(refine sq (fun hc=>?_) (fun hc=>?_)<;>try exact hc.elim)|fail
    all_goals refine hK1 _ ⟨(x.drop (e+1),acc++[tk],v+1),⟨by simp;omega,by simp only;omega⟩,by rw [hgo];simp⟩ (weak_take 3 (by simp) (by simp) (by simp) (by simp)) (by simp;omega)
theorem implFeedText_ok [Tabs Tryz.prog] [HasMax Tryz.prog] (t:DTokenizer) (s:Str) (hl:t.rest.length+s.length≤274877906944):Ok Tryz.prog 188 [.agg (eTokenizer t),.str s] (.tup [.sl .own 4 ((feed (t.rest++s)).1.map (eToken .own)),.agg [.str (feed (t.rest++s)).2]]):=by
 obtain ⟨rest⟩:=t
 simp only at hl⊢
 have hx0:(rest++s).length≤274877906944:=by simp;omega
 have hj:rest.length+s.length≤9223372036854775807:=by omega
 generalize hx:rest++s=x0 at *
 generalize hF:feed x0=F at *
 refine ent Tryz.mix Tryz.func188 Tryz.ntmps188 ?_
 have W:=And.intro hj hx
 repeat' first|refine we ?_|(refine sq (fun hc=>?_) (fun hc=>?_)<;>try exact hc.elim)|fail
 refine awp_loop' (ι:={q:Str×List DToken×Nat // (q.2.1.length+q.1.length≤x0.length∧1≤q.2.2)∧F=(q.2.1++(feed q.1).1,(feed q.1).2)}) (fun t o i=>⟨upds t [(7,.obj 2 i.1.2.2),(6,.str i.1.1)],[⟨true,true,1,0,[[.str rest]]⟩,⟨true,true,1,0,[[.str []]]⟩,⟨true,false,4,i.1.2.2,i.1.2.1.map (eToken .own)⟩]⟩)
  (fun i=>i.1.1.length) ⟨(x0,[],1),by simp,by simp [hF]⟩ (weak_o (by simp) (by simp)) ?_
 rintro ⟨⟨x,acc,v⟩,⟨hal,hv⟩,hgo⟩ K1 hK1
 simp only at hal hv hgo
 simp only [upds,List.set_cons_succ,List.set_cons_zero] at hK1⊢
 cases hxc:x with
 |nil=>
  have hfs:feedStep []=none:=by simp [feedStep,ixB_nil]
  rw [hxc,feed_none hfs] at hgo
  subst hgo
  clear hK1
  have W:=trivial
  repeat' first|refine we ?_|(refine sq (fun hc=>?_) (fun hc=>?_)<;>try exact hc.elim)|fail
  all_goals (try (refine ⟨.inr rfl,?_⟩;simp [Hands,Tryz.results188]))
 |cons c r=>
  have hx1:¬x=[]:=by rw [hxc];simp
  have hx2:x[0]? =some c:=by rw [hxc];rfl
  rw [←hxc]
  have cK:Ok Tryz.prog 241 [.str x,.int .u8 60] (.int .i64 (ixI 60 x)):=indexByteS_ok x 60
  have cE:Ok Tryz.prog 241 [.str x,.int .u8 62] (.int .i64 (ixI 62 x)):=indexByteS_ok x 62
  unfold ixI at cK cE
  have hkl:=ixB_le 60 x
  have hel:=ixB_le 62 x
  have h1e:=ix_zero (x:=x)
  have cT:=implTagOf_ok ((x.take (ixB 62 x)).drop 1) (by simp;omega)
  simp only [eToken,List.drop_one] at cT
  by_cases hc60:c=60
  ·have hk0:ixB 60 x=0:=by rw [hxc,ixB_cons,if_pos hc60]
   have hc1:(c.toNat:Int)=60:=by rw [hc60];rfl
   have hA:¬(0 < ixB 60 x∧ixB 60 x < x.length):=by omega
   by_cases hB:ixB 62 x=x.length
   ·have hfs:feedStep x=none:=by unfold feedStep;rw [if_neg hA,if_pos (.inr hB)]
    rw [feed_none hfs] at hgo
    subst hgo
    rw [if_neg (by omega)] at cE
    clear hfs cT h1e hK1 hA hB hxc hc60 cK hk0
    have W:=And.intro hx1 (And.intro hx2 hc1)
    repeat' first|refine we ?_|(refine sq (fun hc=>?_) (fun hc=>?_)<;>try exact hc.elim)|fail
    all_goals (try (refine ⟨.inr rfl,?_⟩;simp [Hands,Tryz.results188]))
   ·have hfs:feedStep x=some (tagPick (tagOf ((x.take (ixB 62 x)).drop 1)),x.drop (ixB 62 x+1)):=by unfold feedStep;rw [if_neg hA,if_neg (by rintro (h|h);exact h hk0;exact hB h)]
    rw [feed_some hfs] at hgo
    have hE1:=h1e hk0 (by omega)
    have hE2:ixB 62 x < x.length:=by omega
    rw [if_pos hE2] at cE
    clear hfs h1e hA hB hkl hxc hc60 cK hk0
    generalize ixB 62 x=e at *
    rw [List.drop_one] at hgo
    generalize tagOf (x.take e).tail=tg at *
    obtain ⟨tk,ok⟩:=tg
    simp only at cT
    have hE4:(1:Int)≤(e:Int):=by omega
    have hE5:(e:Int)≤(x.length:Int):=by omega
    have hw:IntKind.i64.wrap ((e:Int)+1)=((e+1:Nat):Int):=by rw [wrap64]<;>omega
    have hE6:e+1≤x.length:=by omega
    have hb1:(acc.length+1) * 64≤140737488355328:=by omega
    cases ok
    ·simp only [tagPick,Bool.false_eq_true,if_false,List.nil_append] at hgo
     have W:=And.intro hx1 (And.intro hx2 (And.intro hc1 (And.intro hE4 (And.intro hE5 (And.intro hw (And.intro hE6 hE1))))))
     repeat' first|refine we ?_|(refine sq (fun hc=>?_) (fun hc=>?_)<;>try exact hc.elim)|fail
     all_goals first|(exact absurd hc hx1)|refine hK1 _ ⟨(x.drop (e+1),acc,v),⟨by simp;omega,hv⟩,hgo⟩ (weak_take 3 (by simp) (by simp) (by simp) (by simp)) (by simp;omega)
    ·simp only [tagPick,if_true] at hgo
     have W:=And.intro hx1 (And.intro hx2 (And.intro hc1 (And.intro hE4 (And.intro hE5 (And.intro hw (And.intro hE6 (And.intro hE1 hb1)))))))
     repeat' first|refine we ?_|(refine sq (fun hc=>?_) (fun hc=>?_)<;>try exact hc.elim)|fail
     all_goals first|(exact absurd hc hx1)|refine hK1 _ ⟨(x.drop (e+1),acc++[tk],v+1),⟨by simp;omega,by simp only;omega⟩,by rw [hgo];simp⟩ (weak_take 3 (by simp) (by simp) (by simp) (by simp)) (by simp;omega)
  ·have hk0:0 < ixB 60 x:=by rw [hxc,ixB_cons,if_neg hc60];omega
   have hc1:¬(c.toNat:Int)=60:=fun h=>hc60 (UInt8.toNat_inj.1 (by simp;omega))
   by_cases hB:ixB 60 x < x.length
   ·have hfs:feedStep x=some ([⟨3,[],[],x.take (ixB 60 x)⟩],x.drop (ixB 60 x)):=by unfold feedStep;rw [if_pos ⟨hk0,hB⟩]
    rw [feed_some hfs] at hgo
    rw [if_pos hB] at cK
    clear hfs cT cE h1e hel hxc hc60
    generalize ixB 60 x=k at *
    have hA1:(0:Int) < (k:Int):=by omega
    have hA2:(k:Int) < (x.length:Int):=by omega
    have hb1:(acc.length+1) * 64≤140737488355328:=by omega
    have W:=And.intro hx1 (And.intro hx2 (And.intro hc1 (And.intro hA1 (And.intro hA2 hb1))))
    repeat' first|refine we ?_|(refine sq (fun hc=>?_) (fun hc=>?_)<;>try exact hc.elim)|fail
    all_goals first|(exact absurd hc hx1)|refine hK1 _ ⟨(x.drop k,acc++[⟨3,[],[],x.take k⟩],v+1),⟨by simp;omega,by simp only;omega⟩,by rw [hgo];simp⟩ (weak_take 3 (by simp) (by simp) (by simp) (by simp)) (by simp;omega)
   ·have hfs:feedStep x=none:=by unfold feedStep;rw [if_neg (by omega),if_pos (.inl (by omega))]
    rw [feed_none hfs] at hgo
    subst hgo
    rw [if_neg hB] at cK
    clear hfs cT h1e hK1 hB hxc hc60 cE hk0
    have W:=And.intro hx1 (And.intro hx2 hc1)
    repeat' first|refine we ?_|(refine sq (fun hc=>?_) (fun hc=>?_)<;>try exact hc.elim)|fail
    all_goals (try (refine ⟨.inr rfl,?_⟩;simp [Hands,Tryz.results188]))
end Go.Proofs.YtgkcdgaljknohaaGreatDoor
