/-
  Proved here: contracts of EndText, in the reference and in the program.
  No condition beyond what each statement spells out.
-/
import Derived.Test.YtlnblmmohpcceaaGreatDoorQU5
import Derived.Test.YtlnblmmohpcceaaGreatDoorS2
set_option linter.all false
set_option maxRecDepth 4000
set_option maxHeartbeats 4000000
namespace Go.Proofs.YtlnblmmohpcceaaGreatDoor
open Go.Aw
theorem aLp [aA Tryz.prog] (t:iU) (hs:t.rest.length≤1048576):Ok Tryz.prog 36 [.agg (bZ t)] (.sl .own 4 ((kR t).map (aU .own))):=by
 obtain ⟨s⟩:=t
 simp only at hs
 cases s with
 |nil=>
  simp only [kR,true_or,if_true,List.map_nil]
  refine ent Tryz.mix Tryz.func36 Tryz.ntmps36 ?_
  have W:=trivial
  repeat' first|refine we ?_|(refine sq (fun hc=>?_) (fun hc=>?_)<;>try exact hc.elim)|fail
  all_goals (try (refine ⟨.inr rfl,?_⟩;simp [Hands,Tryz.results36]))
 |cons c r=>
  by_cases hc:c=60
  ·subst hc
   have he:kR ⟨60::r⟩=[]:=by simp [kR]
   rw [he]
   refine ent Tryz.mix Tryz.func36 Tryz.ntmps36 ?_
   have W:=trivial
   repeat' first|refine we ?_|(refine sq (fun hc=>?_) (fun hc=>?_)<;>try exact hc.elim)|fail
   all_goals (try (refine ⟨.inr rfl,?_⟩;simp [Hands,Tryz.results36]))
  ·have he:kR ⟨c::r⟩=[⟨3,[],[],c::r⟩]:=by simp [kR,hc]
   rw [he]
   have hn:¬((c.toNat:Int)=60):=fun h=>hc (UInt8.toNat_inj.1 (by simp;omega))
   refine ent Tryz.mix Tryz.func36 Tryz.ntmps36 ?_
   have W:=hn
   repeat' first|refine we ?_|(refine sq (fun hc=>?_) (fun hc=>?_)<;>try exact hc.elim)|fail
   all_goals (try (refine ⟨.inr rfl,?_⟩;simp [Hands,Tryz.results36]))
theorem aMb [aA Tryz.prog] (t:iU) (hs:t.rest.length≤1048576):Ok Tryz.prog 215 [.agg (bZ t)] (.sl .own 4 ((kR t).map (aU .own))):=by
 obtain ⟨s⟩:=t
 simp only at hs
 cases s with
 |nil=>
  simp only [kR,true_or,if_true,List.map_nil]
  refine ent Tryz.mix Tryz.func215 Tryz.ntmps215 ?_
  have W:=trivial
  repeat' first|refine we ?_|(refine sq (fun hc=>?_) (fun hc=>?_)<;>try exact hc.elim)|fail
  all_goals (try (refine ⟨.inr rfl,?_⟩;simp [Hands,Tryz.results215]))
 |cons c r=>
  by_cases hc:c=60
  ·subst hc
   have he:kR ⟨60::r⟩=[]:=by simp [kR]
   rw [he]
   refine ent Tryz.mix Tryz.func215 Tryz.ntmps215 ?_
   have W:=trivial
   repeat' first|refine we ?_|(refine sq (fun hc=>?_) (fun hc=>?_)<;>try exact hc.elim)|fail
   all_goals (try (refine ⟨.inr rfl,?_⟩;simp [Hands,Tryz.results215]))
  ·have he:kR ⟨c::r⟩=[⟨3,[],[],c::r⟩]:=by simp [kR,hc]
   rw [he]
   have hn:¬((c.toNat:Int)=60):=fun h=>hc (UInt8.toNat_inj.1 (by simp;omega))
   refine ent Tryz.mix Tryz.func215 Tryz.ntmps215 ?_
   have W:=hn
   repeat' first|refine we ?_|(refine sq (fun hc=>?_) (fun hc=>?_)<;>try exact hc.elim)|fail
   all_goals (try (refine ⟨.inr rfl,?_⟩;simp [Hands,Tryz.results215]))
theorem aEh [aA Tryz.prog] [dG Tryz.prog] (s:Str) (c:UInt8):Ok Tryz.prog 129 [.str s,.int .u8 c.toNat] (.int .i64 (ixI c s)):=by
 have h1:=xD s c
 refine ent Tryz.mix Tryz.func129 Tryz.ntmps129 ?_
 have W:=trivial
 repeat' first|refine we ?_|(refine sq (fun hc=>?_) (fun hc=>?_)<;>try exact hc.elim)|fail
 all_goals (try (refine ⟨.inr rfl,?_⟩;simp [Hands,Tryz.results129]))
def vZ (t:aW×Bool):List aW:=if t.2=true then [t.1] else []
def fZ (x:Str):Option (List aW×Str):=
 if 0 < ixB 60 x∧ixB 60 x < x.length then some ([⟨3,[],[],x.take (ixB 60 x)⟩],x.drop (ixB 60 x))
 else if ixB 60 x≠0∨ixB 62 x=x.length then none
 else some (vZ (jS ((x.take (ixB 62 x)).drop 1)),x.drop (ixB 62 x+1))
theorem aCg {x:Str} {ts:List aW} {y:Str} (h:fZ x=some (ts,y)):y.length < x.length∧ts.length≤1∧aC aV ts+y.length≤x.length:=by
 unfold fZ at h
 split at h
 ·rename_i hc
  simp only [Option.some.injEq,Prod.mk.injEq] at h
  obtain ⟨rfl,rfl⟩:=h
  simp [aC,aV,szL];omega
 ·split at h
  ·cases h
  ·rename_i hc
   have h62:=mQ 62 x
   simp only [Option.some.injEq,Prod.mk.injEq] at h
   obtain ⟨rfl,rfl⟩:=h
   have hz:=bAp ((x.take (ixB 62 x)).drop 1)
   simp only [List.length_drop,List.length_take] at hz
   generalize jS ((x.take (ixB 62 x)).drop 1)=tg at *
   unfold vZ
   split<;>simp [aC]<;>omega
def wK:Nat→Str→List aW×Str
 |0,x=>([],x)
 |n+1,x=>match fZ x with
  |none=>([],x)
  |some (ts,y)=>(ts++(wK n y).1,(wK n y).2)
def feed (x:Str):List aW×Str:=wK x.length x
theorem aAv:∀(n:Nat) (x:Str),x.length≤n→wK n x=wK x.length x
 |0,x,h=>by rw [show x.length=0 by omega]
 |n+1,x,h=>by
  cases hs:fZ x with
  |none=>
   cases hx:x.length with
   |zero=>simp [wK,hs]
   |succ m=>simp [wK,hs]
  |some q=>
   obtain ⟨ts,y⟩:=q
   have hlt:=(aCg hs).1
   cases hx:x.length with
   |zero=>omega
   |succ m=>
    simp only [wK,hs]
    rw [aAv n y (by omega),aAv m y (by omega)]
theorem zD {x:Str} {ts:List aW} {y:Str} (h:fZ x=some (ts,y)):feed x=(ts++(feed y).1,(feed y).2):=by
 have hlt:=(aCg h).1
 unfold feed
 cases hx:x.length with
 |zero=>omega
 |succ m=>
  simp only [wK,h]
  rw [aAv m y (by omega)]
theorem yX {x:Str} (h:fZ x=none):feed x=([],x):=by
 unfold feed
 cases hx:x.length with
 |zero=>simp [wK]
 |succ m=>simp [wK,h]
theorem aGy:∀(n:Nat) (x:Str),x.length≤n→(feed x).1.length+(feed x).2.length≤x.length∧aC aV (feed x).1+(feed x).2.length≤x.length
 |n,x,h=>by
  cases hs:fZ x with
  |none=>rw [yX hs];simp [aC]
  |some q=>
   obtain ⟨ts,y⟩:=q
   obtain ⟨h1,h2,h3⟩:=aCg hs
   rw [zD hs]
   cases n with
   |zero=>omega
   |succ n=>
    obtain ⟨i1,i2⟩:=aGy n y (by omega)
    have hj:∀a b:List aW,aC aV (a++b)=aC aV a+aC aV b:=by
     intro a b
     induction a with
     |nil=>simp [aC]
     |cons x xs ih=>simp only [List.cons_append,aC,ih];omega
    simp only [List.length_append,hj]
    omega
theorem aVk {x:Str} (h0:ixB 60 x=0) (h1:ixB 62 x < x.length):1≤ixB 62 x:=by
 cases x with
 |nil=>simp at h1
 |cons c r=>
  rw [vG] at h0⊢
  by_cases hc:c=60
  ·subst hc
   rw [if_neg (by decide)]
   omega
  ·rw [if_neg hc] at h0;omega
theorem aJz [aA Tryz.prog] [dG Tryz.prog] (t:iU) (s:Str) (hl:t.rest.length+s.length≤274877906944):Ok Tryz.prog 214 [.agg (bZ t),.str s] (.tup [.sl .own 4 ((feed (t.rest++s)).1.map (aU .own)),.agg [.str (feed (t.rest++s)).2]]):=by
 obtain ⟨rest⟩:=t
 simp only at hl⊢
 have hx0:(rest++s).length≤274877906944:=by simp;omega
 have hj:rest.length+s.length≤9223372036854775807:=by omega
 generalize hx:rest++s=x0 at *
 generalize hF:feed x0=F at *
 refine ent Tryz.mix Tryz.func214 Tryz.ntmps214 ?_
 have W:=And.intro hj hx
 repeat' first|refine we ?_|(refine sq (fun hc=>?_) (fun hc=>?_)<;>try exact hc.elim)|fail
 refine aM (ι:={q:Str×List aW×Nat // (q.2.1.length+q.1.length≤x0.length∧1≤q.2.2)∧F=(q.2.1++(feed q.1).1,(feed q.1).2)}) (fun t o i=>⟨aO t [(6,.obj 2 i.1.2.2),(7,.str i.1.1)],[⟨true,true,1,0,[[.str rest]]⟩,⟨true,true,1,0,[[.str []]]⟩,⟨true,false,4,i.1.2.2,i.1.2.1.map (aU .own)⟩]⟩)
  (fun i=>i.1.1.length) ⟨(x0,[],1),by simp,by simp [hF]⟩ (aH (by simp) (by simp)) ?_
 rintro ⟨⟨x,acc,v⟩,⟨hal,hv⟩,hgo⟩ K1 hK1
 simp only at hal hv hgo
 simp only [aO,List.set_cons_succ,List.set_cons_zero] at hK1⊢
 have cK:Ok Tryz.prog 218 [.str x,.int .u8 60] (.int .i64 (ixB 60 x:Nat)):=aD7 x 60 (by omega)
 have cE:Ok Tryz.prog 218 [.str x,.int .u8 62] (.int .i64 (ixB 62 x:Nat)):=aD7 x 62 (by omega)
 have hkl:=mQ 60 x
 have hel:=mQ 62 x
 have h1e:=aVk (x:=x)
 have cT:=aQw ((x.take (ixB 62 x)).drop 1) (by simp;omega)
 simp only [aU,List.drop_one] at cT
 have hst:fZ x=_:=rfl
 unfold fZ at hst
 by_cases hA:0 < ixB 60 x∧ixB 60 x < x.length
 ·have hfs:fZ x=some ([⟨3,[],[],x.take (ixB 60 x)⟩],x.drop (ixB 60 x)):=by unfold fZ;rw [if_pos hA]
  rw [zD hfs] at hgo
  have hA1:(0:Int) < ((ixB 60 x:Nat):Int):=by omega
  have hA2:((ixB 60 x:Nat):Int) < (x.length:Int):=by omega
  clear hst hfs cT cE h1e hel
  generalize ixB 60 x=k at *
  have hb1:(acc.length+1) * 64≤140737488355328:=by omega
  have W:=And.intro hA1 (And.intro hA2 hb1)
  repeat' first|refine we ?_|(refine sq (fun hc=>?_) (fun hc=>?_)<;>try exact hc.elim)|fail
  all_goals refine hK1 _ ⟨(x.drop k,acc++[⟨3,[],[],x.take k⟩],v+1),⟨by simp;omega,by simp only;omega⟩,by rw [hgo];simp⟩ (aQ 3 (by simp) (by simp) (by simp) (by simp)) (by simp;omega)
 ·by_cases hB:ixB 60 x≠0∨ixB 62 x=x.length
  ·have hfs:fZ x=none:=by unfold fZ;rw [if_neg hA,if_pos hB]
   rw [yX hfs] at hgo
   subst hgo
   clear hst hfs cT h1e hK1
   by_cases hk0:ixB 60 x=0
   ·have hee:ixB 62 x=x.length:=by rcases hB with h|h;exact absurd hk0 h;exact h
    rw [hk0] at cK
    rw [hee] at cE
    clear hA hB
    have W:=trivial
    repeat' first|refine we ?_|(refine sq (fun hc=>?_) (fun hc=>?_)<;>try exact hc.elim)|fail
    all_goals (try (refine ⟨.inr rfl,?_⟩;simp [Hands,Tryz.results214]))
   ·have hkk:ixB 60 x=x.length:=by omega
    have hx1:¬x=[]:=by rintro rfl;simp at hkk;exact hk0 hkk
    have hx2:0 < x.length:=List.length_pos_iff.2 hx1
    rw [hkk] at cK
    clear hA hB hk0
    have W:=And.intro hx1 hx2
    repeat' first|refine we ?_|(refine sq (fun hc=>?_) (fun hc=>?_)<;>try exact hc.elim)|fail
    all_goals (try (refine ⟨.inr rfl,?_⟩;simp [Hands,Tryz.results214]))
  ·have hfs:fZ x=some (vZ (jS ((x.take (ixB 62 x)).drop 1)),x.drop (ixB 62 x+1)):=by unfold fZ;rw [if_neg hA,if_neg hB]
   rw [zD hfs] at hgo
   have hk0:ixB 60 x=0:=by omega
   have hE1:=h1e hk0 (by omega)
   have hE2:ixB 62 x < x.length:=by omega
   rw [hk0] at cK
   clear hst hfs h1e hA hB hk0 hkl
   generalize ixB 62 x=e at *
   rw [List.drop_one] at hgo
   generalize jS (x.take e).tail=tg at *
   obtain ⟨tk,ok⟩:=tg
   simp only at cT
   have hE3:¬((e:Int)=(x.length:Int)):=by omega
   have hE4:(1:Int)≤(e:Int):=by omega
   have hE5:(e:Int)≤(x.length:Int):=by omega
   have hw:IntKind.i64.wrap ((e:Int)+1)=((e+1:Nat):Int):=by rw [wrap64]<;>omega
   have hE6:e+1≤x.length:=by omega
   have hb1:(acc.length+1) * 64≤140737488355328:=by omega
   cases ok
   ·simp only [vZ,Bool.false_eq_true,if_false,List.nil_append] at hgo
    have W:=And.intro hE3 (And.intro hE4 (And.intro hE5 (And.intro hw (And.intro hE6 hE1))))
    repeat' first|refine we ?_|(refine sq (fun hc=>?_) (fun hc=>?_)<;>try exact hc.elim)|fail
    all_goals refine hK1 _ ⟨(x.drop (e+1),acc,v),⟨by simp;omega,hv⟩,hgo⟩ (aQ 3 (by simp) (by simp) (by simp) (by simp)) (by simp;omega)
   ·simp only [vZ,if_true] at hgo
    have W:=And.intro hE3 (And.intro hE4 (And.intro hE5 (And.intro hw (And.intro hE6 (And.intro hE1 hb1)))))
    repeat' first|refine we ?_|(refine sq (fun hc=>?_) (fun hc=>?_)<;>try exact hc.elim)|fail
    all_goals refine hK1 _ ⟨(x.drop (e+1),acc++[tk],v+1),⟨by simp;omega,by simp only;omega⟩,by rw [hgo];simp⟩ (aQ 3 (by simp) (by simp) (by simp) (by simp)) (by simp;omega)
theorem aKh [aA Tryz.prog] [dG Tryz.prog] (t:iU) (s:Str) (hl:t.rest.length+s.length≤274877906944):Ok Tryz.prog 35 [.agg (bZ t),.str s] (.tup [.sl .own 4 ((feed (t.rest++s)).1.map (aU .own)),.agg [.str (feed (t.rest++s)).2]]):=by
 obtain ⟨rest⟩:=t
 simp only at hl⊢
 have hx0:(rest++s).length≤274877906944:=by simp;omega
 have hj:rest.length+s.length≤9223372036854775807:=by omega
 generalize hx:rest++s=x0 at *
 generalize hF:feed x0=F at *
 refine ent Tryz.mix Tryz.func35 Tryz.ntmps35 ?_
 have W:=And.intro hj hx
 repeat' first|refine we ?_|(refine sq (fun hc=>?_) (fun hc=>?_)<;>try exact hc.elim)|fail
 refine aM (ι:={q:Str×List aW×Nat // (q.2.1.length+q.1.length≤x0.length∧1≤q.2.2)∧F=(q.2.1++(feed q.1).1,(feed q.1).2)}) (fun t o i=>⟨aO t [(7,.obj 2 i.1.2.2),(6,.str i.1.1)],[⟨true,true,1,0,[[.str rest]]⟩,⟨true,true,1,0,[[.str []]]⟩,⟨true,false,4,i.1.2.2,i.1.2.1.map (aU .own)⟩]⟩)
  (fun i=>i.1.1.length) ⟨(x0,[],1),by simp,by simp [hF]⟩ (aH (by simp) (by simp)) ?_
 rintro ⟨⟨x,acc,v⟩,⟨hal,hv⟩,hgo⟩ K1 hK1
 simp only at hal hv hgo
 simp only [aO,List.set_cons_succ,List.set_cons_zero] at hK1⊢
 cases hxc:x with
 |nil=>
  have hfs:fZ []=none:=by simp [fZ,aV7]
  rw [hxc,yX hfs] at hgo
  subst hgo
  clear hK1
  have W:=trivial
  repeat' first|refine we ?_|(refine sq (fun hc=>?_) (fun hc=>?_)<;>try exact hc.elim)|fail
  all_goals (try (refine ⟨.inr rfl,?_⟩;simp [Hands,Tryz.results35]))
 |cons c r=>
  have hx1:¬x=[]:=by rw [hxc];simp
  have hx2:x[0]? =some c:=by rw [hxc];rfl
  rw [←hxc]
  have cK:Ok Tryz.prog 129 [.str x,.int .u8 60] (.int .i64 (ixI 60 x)):=aEh x 60
  have cE:Ok Tryz.prog 129 [.str x,.int .u8 62] (.int .i64 (ixI 62 x)):=aEh x 62
  unfold ixI at cK cE
  have hkl:=mQ 60 x
  have hel:=mQ 62 x
  have h1e:=aVk (x:=x)
  have cT:=aSb ((x.take (ixB 62 x)).drop 1) (by simp;omega)
  simp only [aU,List.drop_one] at cT
  by_cases hc60:c=60
  ·have hk0:ixB 60 x=0:=by rw [hxc,vG,if_pos hc60]
   have hc1:(c.toNat:Int)=60:=by rw [hc60];rfl
   have hA:¬(0 < ixB 60 x∧ixB 60 x < x.length):=by omega
   by_cases hB:ixB 62 x=x.length
   ·have hfs:fZ x=none:=by unfold fZ;rw [if_neg hA,if_pos (.inr hB)]
    rw [yX hfs] at hgo
    subst hgo
    rw [if_neg (by omega)] at cE
    clear hfs cT h1e hK1 hA hB hxc hc60 cK hk0
    have W:=And.intro hx1 (And.intro hx2 hc1)
    repeat' first|refine we ?_|(refine sq (fun hc=>?_) (fun hc=>?_)<;>try exact hc.elim)|fail
    all_goals (try (refine ⟨.inr rfl,?_⟩;simp [Hands,Tryz.results35]))
   ·have hfs:fZ x=some (vZ (jS ((x.take (ixB 62 x)).drop 1)),x.drop (ixB 62 x+1)):=by unfold fZ;rw [if_neg hA,if_neg (by rintro (h|h);exact h hk0;exact hB h)]
    rw [zD hfs] at hgo
    have hE1:=h1e hk0 (by omega)
    have hE2:ixB 62 x < x.length:=by omega
    rw [if_pos hE2] at cE
    clear hfs h1e hA hB hkl hxc hc60 cK hk0
    generalize ixB 62 x=e at *
    rw [List.drop_one] at hgo
    generalize jS (x.take e).tail=tg at *
    obtain ⟨tk,ok⟩:=tg
    simp only at cT
    have hE4:(1:Int)≤(e:Int):=by omega
    have hE5:(e:Int)≤(x.length:Int):=by omega
    have hw:IntKind.i64.wrap ((e:Int)+1)=((e+1:Nat):Int):=by rw [wrap64]<;>omega
    have hE6:e+1≤x.length:=by omega
    have hb1:(acc.length+1) * 64≤140737488355328:=by omega
    cases ok
    ·simp only [vZ,Bool.false_eq_true,if_false,List.nil_append] at hgo
     have W:=And.intro hx1 (And.intro hx2 (And.intro hc1 (And.intro hE4 (And.intro hE5 (And.intro hw (And.intro hE6 hE1))))))
     repeat' first|refine we ?_|(refine sq (fun hc=>?_) (fun hc=>?_)<;>try exact hc.elim)|fail
     all_goals first|(exact absurd hc hx1)|refine hK1 _ ⟨(x.drop (e+1),acc,v),⟨by simp;omega,hv⟩,hgo⟩ (aQ 3 (by simp) (by simp) (by simp) (by simp)) (by simp;omega)
    ·simp only [vZ,if_true] at hgo
     have W:=And.intro hx1 (And.intro hx2 (And.intro hc1 (And.intro hE4 (And.intro hE5 (And.intro hw (And.intro hE6 (And.intro hE1 hb1)))))))
     repeat' first|refine we ?_|(refine sq (fun hc=>?_) (fun hc=>?_)<;>try exact hc.elim)|fail
     all_goals first|(exact absurd hc hx1)|refine hK1 _ ⟨(x.drop (e+1),acc++[tk],v+1),⟨by simp;omega,by simp only;omega⟩,by rw [hgo];simp⟩ (aQ 3 (by simp) (by simp) (by simp) (by simp)) (by simp;omega)
  ·have hk0:0 < ixB 60 x:=by rw [hxc,vG,if_neg hc60];omega
   have hc1:¬(c.toNat:Int)=60:=fun h=>hc60 (UInt8.toNat_inj.1 (by simp;omega))
   by_cases hB:ixB 60 x < x.length
   ·have hfs:fZ x=some ([⟨3,[],[],x.take (ixB 60 x)⟩],x.drop (ixB 60 x)):=by unfold fZ;rw [if_pos ⟨hk0,hB⟩]
    rw [zD hfs] at hgo
    rw [if_pos hB] at cK
    clear hfs cT cE h1e hel hxc hc60
    generalize ixB 60 x=k at *
    have hA1:(0:Int) < (k:Int):=by omega
    have hA2:(k:Int) < (x.length:Int):=by omega
    have hb1:(acc.length+1) * 64≤140737488355328:=by omega
    have W:=And.intro hx1 (And.intro hx2 (And.intro hc1 (And.intro hA1 (And.intro hA2 hb1))))
    repeat' first|refine we ?_|(refine sq (fun hc=>?_) (fun hc=>?_)<;>try exact hc.elim)|fail
    all_goals first|(exact absurd hc hx1)|refine hK1 _ ⟨(x.drop k,acc++[⟨3,[],[],x.take k⟩],v+1),⟨by simp;omega,by simp only;omega⟩,by rw [hgo];simp⟩ (aQ 3 (by simp) (by simp) (by simp) (by simp)) (by simp;omega)
   ·have hfs:fZ x=none:=by unfold fZ;rw [if_neg (by omega),if_pos (.inl (by omega))]
    rw [yX hfs] at hgo
    subst hgo
    rw [if_neg hB] at cK
    clear hfs cT h1e hK1 hB hxc hc60 cE hk0
    have W:=And.intro hx1 (And.intro hx2 hc1)
    repeat' first|refine we ?_|(refine sq (fun hc=>?_) (fun hc=>?_)<;>try exact hc.elim)|fail
    all_goals (try (refine ⟨.inr rfl,?_⟩;simp [Hands,Tryz.results35]))
end Go.Proofs.YtlnblmmohpcceaaGreatDoor
