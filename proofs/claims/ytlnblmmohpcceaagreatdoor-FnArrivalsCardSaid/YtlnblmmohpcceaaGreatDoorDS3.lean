/-
  Proved here: steps towards the statement of this claim, text S3.
  No condition beyond what each statement spells out.
-/
import Derived.Test.YtlnblmmohpcceaaGreatDoorDQS2
import Derived.Test.YtlnblmmohpcceaaGreatDoorDY4
set_option linter.all false
set_option maxRecDepth 4000
set_option maxHeartbeats 4000000
namespace Go.Proofs.YtlnblmmohpcceaaGreatDoor
open Go.Aw
theorem uL [aB Tryz.prog] [dO Tryz.prog] (s:Str) (c:UInt8):Ok Tryz.prog 129 [.str s,.int .u8 c.toNat] (.int .i64 (ixI c s)):=by
 have h1:=nA s c
 refine ent Tryz.mix Tryz.func129 Tryz.ntmps129 ?_
 have W:=trivial
 repeat' first|refine we ?_|(refine sq (fun hc=>?_) (fun hc=>?_)<;>try exact hc.elim)|fail
 all_goals (try (refine ⟨.inr rfl,?_⟩;simp [Hands,Tryz.results129]))
def sV (t:bY×Bool):List bY:=if t.2=true then [t.1] else []
def bZ (x:Str):Option (List bY×Str):=
 if 0 < ixB 60 x∧ixB 60 x < x.length then some ([⟨3,[],[],x.take (ixB 60 x)⟩],x.drop (ixB 60 x))
 else if ixB 60 x≠0∨ixB 62 x=x.length then none
 else some (sV (jC ((x.take (ixB 62 x)).drop 1)),x.drop (ixB 62 x+1))
theorem nR {x:Str} {ts:List bY} {y:Str} (h:bZ x=some (ts,y)):y.length < x.length∧ts.length≤1∧bC dW ts+y.length≤x.length:=by
 unfold bZ at h
 split at h
 ·rename_i hc
  simp only [Option.some.injEq,Prod.mk.injEq] at h
  obtain ⟨rfl,rfl⟩:=h
  simp [bC,dW,szL];omega
 ·split at h
  ·cases h
  ·rename_i hc
   have h62:=pU 62 x
   simp only [Option.some.injEq,Prod.mk.injEq] at h
   obtain ⟨rfl,rfl⟩:=h
   have hz:=aLk ((x.take (ixB 62 x)).drop 1)
   simp only [List.length_drop,List.length_take] at hz
   generalize jC ((x.take (ixB 62 x)).drop 1)=tg at *
   unfold sV
   split<;>simp [bC]<;>omega
def mI:Nat→Str→List bY×Str
 |0,x=>([],x)
 |n+1,x=>match bZ x with
  |none=>([],x)
  |some (ts,y)=>(ts++(mI n y).1,(mI n y).2)
def feed (x:Str):List bY×Str:=mI x.length x
theorem pY:∀(n:Nat) (x:Str),x.length≤n→mI n x=mI x.length x
 |0,x,h=>by rw [show x.length=0 by omega]
 |n+1,x,h=>by
  cases hs:bZ x with
  |none=>
   cases hx:x.length with
   |zero=>simp [mI,hs]
   |succ m=>simp [mI,hs]
  |some q=>
   obtain ⟨ts,y⟩:=q
   have hlt:=(nR hs).1
   cases hx:x.length with
   |zero=>omega
   |succ m=>
    simp only [mI,hs]
    rw [pY n y (by omega),pY m y (by omega)]
theorem oK {x:Str} {ts:List bY} {y:Str} (h:bZ x=some (ts,y)):feed x=(ts++(feed y).1,(feed y).2):=by
 have hlt:=(nR h).1
 unfold feed
 cases hx:x.length with
 |zero=>omega
 |succ m=>
  simp only [mI,h]
  rw [pY m y (by omega)]
theorem lZ {x:Str} (h:bZ x=none):feed x=([],x):=by
 unfold feed
 cases hx:x.length with
 |zero=>simp [mI]
 |succ m=>simp [mI,h]
theorem aAl:∀(n:Nat) (x:Str),x.length≤n→(feed x).1.length+(feed x).2.length≤x.length∧bC dW (feed x).1+(feed x).2.length≤x.length
 |n,x,h=>by
  cases hs:bZ x with
  |none=>rw [lZ hs];simp [bC]
  |some q=>
   obtain ⟨ts,y⟩:=q
   obtain ⟨h1,h2,h3⟩:=nR hs
   rw [oK hs]
   cases n with
   |zero=>omega
   |succ n=>
    obtain ⟨i1,i2⟩:=aAl n y (by omega)
    have hj:∀a b:List bY,bC dW (a++b)=bC dW a+bC dW b:=by
     intro a b
     induction a with
     |nil=>simp [bC]
     |cons x xs ih=>simp only [List.cons_append,bC,ih];omega
    simp only [List.length_append,hj]
    omega
theorem aM6 {x:Str} (h0:ixB 60 x=0) (h1:ixB 62 x < x.length):1≤ixB 62 x:=by
 cases x with
 |nil=>simp at h1
 |cons c r=>
  rw [lI] at h0⊢
  by_cases hc:c=60
  ·subst hc
   rw [if_neg (by decide)]
   omega
  ·rw [if_neg hc] at h0;omega
theorem yN [aB Tryz.prog] [dO Tryz.prog] (t:fU) (s:Str) (hl:t.rest.length+s.length≤274877906944):Ok Tryz.prog 35 [.agg (iF t),.str s] (.tup [.sl .own 4 ((feed (t.rest++s)).1.map (bP .own)),.agg [.str (feed (t.rest++s)).2]]):=by
 obtain ⟨rest⟩:=t
 simp only at hl⊢
 have hx0:(rest++s).length≤274877906944:=by simp;omega
 have hj:rest.length+s.length≤9223372036854775807:=by omega
 generalize hx:rest++s=x0 at *
 generalize hF:feed x0=F at *
 refine ent Tryz.mix Tryz.func35 Tryz.ntmps35 ?_
 have W:=And.intro hj hx
 repeat' first|refine we ?_|(refine sq (fun hc=>?_) (fun hc=>?_)<;>try exact hc.elim)|fail
 refine aS (ι:={q:Str×List bY×Nat // (q.2.1.length+q.1.length≤x0.length∧1≤q.2.2)∧F=(q.2.1++(feed q.1).1,(feed q.1).2)}) (fun t o i=>⟨aP t [(7,.obj 2 i.1.2.2),(6,.str i.1.1)],[⟨true,true,1,0,[[.str rest]]⟩,⟨true,true,1,0,[[.str []]]⟩,⟨true,false,4,i.1.2.2,i.1.2.1.map (bP .own)⟩]⟩)
  (fun i=>i.1.1.length) ⟨(x0,[],1),by simp,by simp [hF]⟩ (aL (by simp) (by simp)) ?_
 rintro ⟨⟨x,acc,v⟩,⟨hal,hv⟩,hgo⟩ K1 hK1
 simp only at hal hv hgo
 simp only [aP,List.set_cons_succ,List.set_cons_zero] at hK1⊢
 cases hxc:x with
 |nil=>
  have hfs:bZ []=none:=by simp [bZ,aNh]
  rw [hxc,lZ hfs] at hgo
  subst hgo
  clear hK1
  have W:=trivial
  repeat' first|refine we ?_|(refine sq (fun hc=>?_) (fun hc=>?_)<;>try exact hc.elim)|fail
  all_goals (try (refine ⟨.inr rfl,?_⟩;simp [Hands,Tryz.results35]))
 |cons c r=>
  have hx1:¬x=[]:=by rw [hxc];simp
  have hx2:x[0]? =some c:=by rw [hxc];rfl
  rw [←hxc]
  have cK:Ok Tryz.prog 129 [.str x,.int .u8 60] (.int .i64 (ixI 60 x)):=uL x 60
  have cE:Ok Tryz.prog 129 [.str x,.int .u8 62] (.int .i64 (ixI 62 x)):=uL x 62
  unfold ixI at cK cE
  have hkl:=pU 60 x
  have hel:=pU 62 x
  have h1e:=aM6 (x:=x)
  have cT:=aEc ((x.take (ixB 62 x)).drop 1) (by simp;omega)
  simp only [bP,List.drop_one] at cT
  by_cases hc60:c=60
  ·have hk0:ixB 60 x=0:=by rw [hxc,lI,if_pos hc60]
   have hc1:(c.toNat:Int)=60:=by rw [hc60];rfl
   have hA:¬(0 < ixB 60 x∧ixB 60 x < x.length):=by omega
   by_cases hB:ixB 62 x=x.length
   ·have hfs:bZ x=none:=by unfold bZ;rw [if_neg hA,if_pos (.inr hB)]
    rw [lZ hfs] at hgo
    subst hgo
    rw [if_neg (by omega)] at cE
    clear hfs cT h1e hK1 hA hB hxc hc60 cK hk0
    have W:=And.intro hx1 (And.intro hx2 hc1)
    repeat' first|refine we ?_|(refine sq (fun hc=>?_) (fun hc=>?_)<;>try exact hc.elim)|fail
    all_goals (try (refine ⟨.inr rfl,?_⟩;simp [Hands,Tryz.results35]))
   ·have hfs:bZ x=some (sV (jC ((x.take (ixB 62 x)).drop 1)),x.drop (ixB 62 x+1)):=by unfold bZ;rw [if_neg hA,if_neg (by rintro (h|h);exact h hk0;exact hB h)]
    rw [oK hfs] at hgo
    have hE1:=h1e hk0 (by omega)
    have hE2:ixB 62 x < x.length:=by omega
    rw [if_pos hE2] at cE
    clear hfs h1e hA hB hkl hxc hc60 cK hk0
    generalize ixB 62 x=e at *
    rw [List.drop_one] at hgo
    generalize jC (x.take e).tail=tg at *
    obtain ⟨tk,ok⟩:=tg
    simp only at cT
    have hE4:(1:Int)≤(e:Int):=by omega
    have hE5:(e:Int)≤(x.length:Int):=by omega
    have hw:IntKind.i64.wrap ((e:Int)+1)=((e+1:Nat):Int):=by rw [wrap64]<;>omega
    have hE6:e+1≤x.length:=by omega
    have hb1:(acc.length+1) * 64≤140737488355328:=by omega
    cases ok
    ·simp only [sV,Bool.false_eq_true,if_false,List.nil_append] at hgo
     have W:=And.intro hx1 (And.intro hx2 (And.intro hc1 (And.intro hE4 (And.intro hE5 (And.intro hw (And.intro hE6 hE1))))))
     repeat' first|refine we ?_|(refine sq (fun hc=>?_) (fun hc=>?_)<;>try exact hc.elim)|fail
     all_goals first|(exact absurd hc hx1)|refine hK1 _ ⟨(x.drop (e+1),acc,v),⟨by simp;omega,hv⟩,hgo⟩ (bX 3 (by simp) (by simp) (by simp) (by simp)) (by simp;omega)
    ·simp only [sV,if_true] at hgo
     have W:=And.intro hx1 (And.intro hx2 (And.intro hc1 (And.intro hE4 (And.intro hE5 (And.intro hw (And.intro hE6 (And.intro hE1 hb1)))))))
     repeat' first|refine we ?_|(refine sq (fun hc=>?_) (fun hc=>?_)<;>try exact hc.elim)|fail
     all_goals first|(exact absurd hc hx1)|refine hK1 _ ⟨(x.drop (e+1),acc++[tk],v+1),⟨by simp;omega,by simp only;omega⟩,by rw [hgo];simp⟩ (bX 3 (by simp) (by simp) (by simp) (by simp)) (by simp;omega)
  ·have hk0:0 < ixB 60 x:=by rw [hxc,lI,if_neg hc60];omega
   have hc1:¬(c.toNat:Int)=60:=fun h=>hc60 (UInt8.toNat_inj.1 (by simp;omega))
   by_cases hB:ixB 60 x < x.length
   ·have hfs:bZ x=some ([⟨3,[],[],x.take (ixB 60 x)⟩],x.drop (ixB 60 x)):=by unfold bZ;rw [if_pos ⟨hk0,hB⟩]
    rw [oK hfs] at hgo
    rw [if_pos hB] at cK
    clear hfs cT cE h1e hel hxc hc60
    generalize ixB 60 x=k at *
    have hA1:(0:Int) < (k:Int):=by omega
    have hA2:(k:Int) < (x.length:Int):=by omega
    have hb1:(acc.length+1) * 64≤140737488355328:=by omega
    have W:=And.intro hx1 (And.intro hx2 (And.intro hc1 (And.intro hA1 (And.intro hA2 hb1))))
    repeat' first|refine we ?_|(refine sq (fun hc=>?_) (fun hc=>?_)<;>try exact hc.elim)|fail
    all_goals first|(exact absurd hc hx1)|refine hK1 _ ⟨(x.drop k,acc++[⟨3,[],[],x.take k⟩],v+1),⟨by simp;omega,by simp only;omega⟩,by rw [hgo];simp⟩ (bX 3 (by simp) (by simp) (by simp) (by simp)) (by simp;omega)
   ·have hfs:bZ x=none:=by unfold bZ;rw [if_neg (by omega),if_pos (.inl (by omega))]
    rw [lZ hfs] at hgo
    subst hgo
    rw [if_neg hB] at cK
    clear hfs cT h1e hK1 hB hxc hc60 cE hk0
    have W:=And.intro hx1 (And.intro hx2 hc1)
    repeat' first|refine we ?_|(refine sq (fun hc=>?_) (fun hc=>?_)<;>try exact hc.elim)|fail
    all_goals (try (refine ⟨.inr rfl,?_⟩;simp [Hands,Tryz.results35]))
end Go.Proofs.YtlnblmmohpcceaaGreatDoor
