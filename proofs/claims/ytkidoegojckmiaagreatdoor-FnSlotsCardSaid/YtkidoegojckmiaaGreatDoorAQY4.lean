/-
  Proved here: contracts of EndText, in the reference and in the program.
  No condition beyond what each statement spells out.
-/
import Derived.Test.YtkidoegojckmiaaGreatDoorAQP5
import Derived.Test.YtkidoegojckmiaaGreatDoorAS2
set_option linter.all false
set_option maxRecDepth 4000
set_option maxHeartbeats 4000000
namespace Go.Proofs.YtkidoegojckmiaaGreatDoor
open Go.Aw
theorem aE7 [aB Tryz.prog] (t:iG) (hs:t.rest.length≤1048576):Ok Tryz.prog 143 [.agg (jK t)] (.sl .own 4 ((kM t).map (bP .own))):=by
 obtain ⟨s⟩:=t
 simp only at hs
 cases s with
 |nil=>
  simp only [kM,true_or,if_true,List.map_nil]
  refine ent Tryz.mix Tryz.func143 Tryz.ntmps143 ?_
  have W:=trivial
  repeat' first|refine st ?_|(refine nx ?_;first|refine se ?_|refine so ?_)|(refine cx ?_;refine sc (fun hc=>?_) (fun hc=>?_)<;>try exact hc.elim)|(refine lx ?_;refine sp (fun hc=>?_) (fun hc=>?_)<;>try exact hc.elim)|refine sx ?_ ?_|refine sy ?_ ?_|fail
  all_goals (try (refine ⟨.inr rfl,?_⟩;simp [Hands,Tryz.results143]))
 |cons c r=>
  by_cases hc:c=60
  ·subst hc
   have he:kM ⟨60::r⟩=[]:=by simp [kM]
   rw [he]
   refine ent Tryz.mix Tryz.func143 Tryz.ntmps143 ?_
   have W:=trivial
   repeat' first|refine st ?_|(refine nx ?_;first|refine se ?_|refine so ?_)|(refine cx ?_;refine sc (fun hc=>?_) (fun hc=>?_)<;>try exact hc.elim)|(refine lx ?_;refine sp (fun hc=>?_) (fun hc=>?_)<;>try exact hc.elim)|refine sx ?_ ?_|refine sy ?_ ?_|fail
   all_goals (try (refine ⟨.inr rfl,?_⟩;simp [Hands,Tryz.results143]))
  ·have he:kM ⟨c::r⟩=[⟨3,[],[],c::r⟩]:=by simp [kM,hc]
   rw [he]
   have hn:¬((c.toNat:Int)=60):=fun h=>hc (UInt8.toNat_inj.1 (by simp;omega))
   refine ent Tryz.mix Tryz.func143 Tryz.ntmps143 ?_
   have W:=hn
   repeat' first|refine st ?_|(refine nx ?_;first|refine se ?_|refine so ?_)|(refine cx ?_;refine sc (fun hc=>?_) (fun hc=>?_)<;>try exact hc.elim)|(refine lx ?_;refine sp (fun hc=>?_) (fun hc=>?_)<;>try exact hc.elim)|refine sx ?_ ?_|refine sy ?_ ?_|fail
   all_goals (try (refine ⟨.inr rfl,?_⟩;simp [Hands,Tryz.results143]))
def xC (t:dM×Bool):List dM:=if t.2=true then [t.1] else []
def gY (x:Str):Option (List dM×Str):=
 if 0 < ixB 60 x∧ixB 60 x < x.length then some ([⟨3,[],[],x.take (ixB 60 x)⟩],x.drop (ixB 60 x))
 else if ixB 60 x≠0∨ixB 62 x=x.length then none
 else some (xC (lL ((x.take (ixB 62 x)).drop 1)),x.drop (ixB 62 x+1))
theorem wW {x:Str} {ts:List dM} {y:Str} (h:gY x=some (ts,y)):y.length < x.length∧ts.length≤1∧bD eO ts+y.length≤x.length:=by
 unfold gY at h
 split at h
 ·rename_i hc
  simp only [Option.some.injEq,Prod.mk.injEq] at h
  obtain ⟨rfl,rfl⟩:=h
  simp [bD,eO,szL];omega
 ·split at h
  ·cases h
  ·rename_i hc
   have h62:=uN 62 x
   simp only [Option.some.injEq,Prod.mk.injEq] at h
   obtain ⟨rfl,rfl⟩:=h
   have hz:=aR7 ((x.take (ixB 62 x)).drop 1)
   simp only [List.length_drop,List.length_take] at hz
   generalize lL ((x.take (ixB 62 x)).drop 1)=tg at *
   unfold xC
   split<;>simp [bD]<;>omega
def qB:Nat→Str→List dM×Str
 |0,x=>([],x)
 |n+1,x=>match gY x with
  |none=>([],x)
  |some (ts,y)=>(ts++(qB n y).1,(qB n y).2)
def feed (x:Str):List dM×Str:=qB x.length x
theorem uE:∀(n:Nat) (x:Str),x.length≤n→qB n x=qB x.length x
 |0,x,h=>by rw [show x.length=0 by omega]
 |n+1,x,h=>by
  cases hs:gY x with
  |none=>
   cases hx:x.length with
   |zero=>simp [qB,hs]
   |succ m=>simp [qB,hs]
  |some q=>
   obtain ⟨ts,y⟩:=q
   have hlt:=(wW hs).1
   cases hx:x.length with
   |zero=>omega
   |succ m=>
    simp only [qB,hs]
    rw [uE n y (by omega),uE m y (by omega)]
theorem aAe {x:Str} {ts:List dM} {y:Str} (h:gY x=some (ts,y)):feed x=(ts++(feed y).1,(feed y).2):=by
 have hlt:=(wW h).1
 unfold feed
 cases hx:x.length with
 |zero=>omega
 |succ m=>
  simp only [qB,h]
  rw [uE m y (by omega)]
theorem aGg {x:Str} (h:gY x=none):feed x=([],x):=by
 unfold feed
 cases hx:x.length with
 |zero=>simp [qB]
 |succ m=>simp [qB,h]
theorem aE6:∀(n:Nat) (x:Str),x.length≤n→(feed x).1.length+(feed x).2.length≤x.length∧bD eO (feed x).1+(feed x).2.length≤x.length
 |n,x,h=>by
  cases hs:gY x with
  |none=>rw [aGg hs];simp [bD]
  |some q=>
   obtain ⟨ts,y⟩:=q
   obtain ⟨h1,h2,h3⟩:=wW hs
   rw [aAe hs]
   cases n with
   |zero=>omega
   |succ n=>
    obtain ⟨i1,i2⟩:=aE6 n y (by omega)
    have hj:∀a b:List dM,bD eO (a++b)=bD eO a+bD eO b:=by
     intro a b
     induction a with
     |nil=>simp [bD]
     |cons x xs ih=>simp only [List.cons_append,bD,ih];omega
    simp only [List.length_append,hj]
    omega
theorem aT6 {x:Str} (h0:ixB 60 x=0) (h1:ixB 62 x < x.length):1≤ixB 62 x:=by
 cases x with
 |nil=>simp at h1
 |cons c r=>
  rw [uT] at h0⊢
  by_cases hc:c=60
  ·subst hc
   rw [if_neg (by decide)]
   omega
  ·rw [if_neg hc] at h0;omega
theorem aEr [aB Tryz.prog] [bV Tryz.prog] (t:iG) (s:Str) (hl:t.rest.length+s.length≤274877906944):Ok Tryz.prog 141 [.agg (jK t),.str s] (.tup [.sl .own 4 ((feed (t.rest++s)).1.map (bP .own)),.agg [.str (feed (t.rest++s)).2]]):=by
 obtain ⟨rest⟩:=t
 simp only at hl⊢
 have hx0:(rest++s).length≤274877906944:=by simp;omega
 have hj:rest.length+s.length≤9223372036854775807:=by omega
 generalize hx:rest++s=x0 at *
 generalize hF:feed x0=F at *
 refine ent Tryz.mix Tryz.func141 Tryz.ntmps141 ?_
 have W:=And.intro hj hx
 repeat' first|refine st ?_|(refine nx ?_;first|refine se ?_|refine so ?_)|(refine cx ?_;refine sc (fun hc=>?_) (fun hc=>?_)<;>try exact hc.elim)|(refine lx ?_;refine sp (fun hc=>?_) (fun hc=>?_)<;>try exact hc.elim)|refine sx ?_ ?_|refine sy ?_ ?_|fail
 refine aJ (ι:={q:Str×List dM×Nat // (q.2.1.length+q.1.length≤x0.length∧1≤q.2.2)∧F=(q.2.1++(feed q.1).1,(feed q.1).2)}) (fun t o i=>⟨aL t [(6,.obj 2 i.1.2.2),(7,.str i.1.1)],[⟨true,true,1,0,[[.str rest]]⟩,⟨true,true,1,0,[[.str []]]⟩,⟨true,false,4,i.1.2.2,i.1.2.1.map (bP .own)⟩]⟩)
  (fun i=>i.1.1.length) ⟨(x0,[],1),by simp,by simp [hF]⟩ (aH (by simp) (by simp)) ?_
 rintro ⟨⟨x,acc,v⟩,⟨hal,hv⟩,hgo⟩ K1 hK1
 simp only at hal hv hgo
 simp only [aL,List.set_cons_succ,List.set_cons_zero] at hK1⊢
 have cK:Ok Tryz.prog 163 [.str x,.int .u8 60] (.int .i64 (ixB 60 x:Nat)):=aEb x 60 (by omega)
 have cE:Ok Tryz.prog 163 [.str x,.int .u8 62] (.int .i64 (ixB 62 x:Nat)):=aEb x 62 (by omega)
 have hkl:=uN 60 x
 have hel:=uN 62 x
 have h1e:=aT6 (x:=x)
 have cT:=aJe ((x.take (ixB 62 x)).drop 1) (by simp;omega)
 simp only [bP,List.drop_one] at cT
 have hst:gY x=_:=rfl
 unfold gY at hst
 by_cases hA:0 < ixB 60 x∧ixB 60 x < x.length
 ·have hfs:gY x=some ([⟨3,[],[],x.take (ixB 60 x)⟩],x.drop (ixB 60 x)):=by unfold gY;rw [if_pos hA]
  rw [aAe hfs] at hgo
  have hA1:(0:Int) < ((ixB 60 x:Nat):Int):=by omega
  have hA2:((ixB 60 x:Nat):Int) < (x.length:Int):=by omega
  clear hst hfs cT cE h1e hel
  generalize ixB 60 x=k at *
  have hb1:(acc.length+1) * 64≤140737488355328:=by omega
  have W:=And.intro hA1 (And.intro hA2 hb1)
  repeat' first|refine st ?_|(refine nx ?_;first|refine se ?_|refine so ?_)|(refine cx ?_;refine sc (fun hc=>?_) (fun hc=>?_)<;>try exact hc.elim)|(refine lx ?_;refine sp (fun hc=>?_) (fun hc=>?_)<;>try exact hc.elim)|refine sx ?_ ?_|refine sy ?_ ?_|fail
  all_goals refine hK1 _ ⟨(x.drop k,acc++[⟨3,[],[],x.take k⟩],v+1),⟨by simp;omega,by simp only;omega⟩,by rw [hgo];simp⟩ (aG 3 (by simp) (by simp) (by simp) (by simp)) (by simp;omega)
 ·by_cases hB:ixB 60 x≠0∨ixB 62 x=x.length
  ·have hfs:gY x=none:=by unfold gY;rw [if_neg hA,if_pos hB]
   rw [aGg hfs] at hgo
   subst hgo
   clear hst hfs cT h1e hK1
   by_cases hk0:ixB 60 x=0
   ·have hee:ixB 62 x=x.length:=by rcases hB with h|h;exact absurd hk0 h;exact h
    rw [hk0] at cK
    rw [hee] at cE
    clear hA hB
    have W:=trivial
    repeat' first|refine st ?_|(refine nx ?_;first|refine se ?_|refine so ?_)|(refine cx ?_;refine sc (fun hc=>?_) (fun hc=>?_)<;>try exact hc.elim)|(refine lx ?_;refine sp (fun hc=>?_) (fun hc=>?_)<;>try exact hc.elim)|refine sx ?_ ?_|refine sy ?_ ?_|fail
    all_goals (try (refine ⟨.inr rfl,?_⟩;simp [Hands,Tryz.results141]))
   ·have hkk:ixB 60 x=x.length:=by omega
    have hx1:¬x=[]:=by rintro rfl;simp at hkk;exact hk0 hkk
    have hx2:0 < x.length:=List.length_pos_iff.2 hx1
    rw [hkk] at cK
    clear hA hB hk0
    have W:=And.intro hx1 hx2
    repeat' first|refine st ?_|(refine nx ?_;first|refine se ?_|refine so ?_)|(refine cx ?_;refine sc (fun hc=>?_) (fun hc=>?_)<;>try exact hc.elim)|(refine lx ?_;refine sp (fun hc=>?_) (fun hc=>?_)<;>try exact hc.elim)|refine sx ?_ ?_|refine sy ?_ ?_|fail
    all_goals (try (refine ⟨.inr rfl,?_⟩;simp [Hands,Tryz.results141]))
  ·have hfs:gY x=some (xC (lL ((x.take (ixB 62 x)).drop 1)),x.drop (ixB 62 x+1)):=by unfold gY;rw [if_neg hA,if_neg hB]
   rw [aAe hfs] at hgo
   have hk0:ixB 60 x=0:=by omega
   have hE1:=h1e hk0 (by omega)
   have hE2:ixB 62 x < x.length:=by omega
   rw [hk0] at cK
   clear hst hfs h1e hA hB hk0 hkl
   generalize ixB 62 x=e at *
   rw [List.drop_one] at hgo
   generalize lL (x.take e).tail=tg at *
   obtain ⟨tk,ok⟩:=tg
   simp only at cT
   have hE3:¬((e:Int)=(x.length:Int)):=by omega
   have hE4:(1:Int)≤(e:Int):=by omega
   have hE5:(e:Int)≤(x.length:Int):=by omega
   have hw:IntKind.i64.wrap ((e:Int)+1)=((e+1:Nat):Int):=by rw [wrap64]<;>omega
   have hE6:e+1≤x.length:=by omega
   have hb1:(acc.length+1) * 64≤140737488355328:=by omega
   cases ok
   ·simp only [xC,Bool.false_eq_true,if_false,List.nil_append] at hgo
    have W:=And.intro hE3 (And.intro hE4 (And.intro hE5 (And.intro hw (And.intro hE6 hE1))))
    repeat' first|refine st ?_|(refine nx ?_;first|refine se ?_|refine so ?_)|(refine cx ?_;refine sc (fun hc=>?_) (fun hc=>?_)<;>try exact hc.elim)|(refine lx ?_;refine sp (fun hc=>?_) (fun hc=>?_)<;>try exact hc.elim)|refine sx ?_ ?_|refine sy ?_ ?_|fail
    all_goals refine hK1 _ ⟨(x.drop (e+1),acc,v),⟨by simp;omega,hv⟩,hgo⟩ (aG 3 (by simp) (by simp) (by simp) (by simp)) (by simp;omega)
   ·simp only [xC,if_true] at hgo
    have W:=And.intro hE3 (And.intro hE4 (And.intro hE5 (And.intro hw (And.intro hE6 (And.intro hE1 hb1)))))
    repeat' first|refine st ?_|(refine nx ?_;first|refine se ?_|refine so ?_)|(refine cx ?_;refine sc (fun hc=>?_) (fun hc=>?_)<;>try exact hc.elim)|(refine lx ?_;refine sp (fun hc=>?_) (fun hc=>?_)<;>try exact hc.elim)|refine sx ?_ ?_|refine sy ?_ ?_|fail
    all_goals refine hK1 _ ⟨(x.drop (e+1),acc++[tk],v+1),⟨by simp;omega,by simp only;omega⟩,by rw [hgo];simp⟩ (aG 3 (by simp) (by simp) (by simp) (by simp)) (by simp;omega)
end Go.Proofs.YtkidoegojckmiaaGreatDoor
