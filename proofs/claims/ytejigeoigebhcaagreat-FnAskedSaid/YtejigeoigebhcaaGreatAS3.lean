/-
  Proved here: steps towards the statement of this claim, text S3.
  No condition beyond what each statement spells out.
-/
import Derived.Test.YtejigeoigebhcaaGreatAS2
import Derived.Test.YtejigeoigebhcaaGreatAY4
set_option linter.all false
set_option maxRecDepth 4000
set_option maxHeartbeats 4000000
namespace Go.Proofs.YtejigeoigebhcaaGreat
open Go.Aw
def vK (t:dE×Bool):List dE:=if t.2=true then [t.1] else []
def fV (x:Str):Option (List dE×Str):=
 if 0 < ixB 60 x∧ixB 60 x < x.length then some ([⟨3,[],[],x.take (ixB 60 x)⟩],x.drop (ixB 60 x))
 else if ixB 60 x≠0∨ixB 62 x=x.length then none
 else some (vK (jS ((x.take (ixB 62 x)).drop 1)),x.drop (ixB 62 x+1))
theorem uU {x:Str} {ts:List dE} {y:Str} (h:fV x=some (ts,y)):y.length < x.length∧ts.length≤1∧aZ dR ts+y.length≤x.length:=by
 unfold fV at h
 split at h
 ·rename_i hc
  simp only [Option.some.injEq,Prod.mk.injEq] at h
  obtain ⟨rfl,rfl⟩:=h
  simp [aZ,dR,szL];omega
 ·split at h
  ·cases h
  ·rename_i hc
   have h62:=mO 62 x
   simp only [Option.some.injEq,Prod.mk.injEq] at h
   obtain ⟨rfl,rfl⟩:=h
   have hz:=aM0 ((x.take (ixB 62 x)).drop 1)
   simp only [List.length_drop,List.length_take] at hz
   generalize jS ((x.take (ixB 62 x)).drop 1)=tg at *
   unfold vK
   split<;>simp [aZ]<;>omega
def oG:Nat→Str→List dE×Str
 |0,x=>([],x)
 |n+1,x=>match fV x with
  |none=>([],x)
  |some (ts,y)=>(ts++(oG n y).1,(oG n y).2)
def feed (x:Str):List dE×Str:=oG x.length x
theorem sI:∀(n:Nat) (x:Str),x.length≤n→oG n x=oG x.length x
 |0,x,h=>by rw [show x.length=0 by omega]
 |n+1,x,h=>by
  cases hs:fV x with
  |none=>
   cases hx:x.length with
   |zero=>simp [oG,hs]
   |succ m=>simp [oG,hs]
  |some q=>
   obtain ⟨ts,y⟩:=q
   have hlt:=(uU hs).1
   cases hx:x.length with
   |zero=>omega
   |succ m=>
    simp only [oG,hs]
    rw [sI n y (by omega),sI m y (by omega)]
theorem yK {x:Str} {ts:List dE} {y:Str} (h:fV x=some (ts,y)):feed x=(ts++(feed y).1,(feed y).2):=by
 have hlt:=(uU h).1
 unfold feed
 cases hx:x.length with
 |zero=>omega
 |succ m=>
  simp only [oG,h]
  rw [sI m y (by omega)]
theorem aDb {x:Str} (h:fV x=none):feed x=([],x):=by
 unfold feed
 cases hx:x.length with
 |zero=>simp [oG]
 |succ m=>simp [oG,h]
theorem aCg:∀(n:Nat) (x:Str),x.length≤n→(feed x).1.length+(feed x).2.length≤x.length∧aZ dR (feed x).1+(feed x).2.length≤x.length
 |n,x,h=>by
  cases hs:fV x with
  |none=>rw [aDb hs];simp [aZ]
  |some q=>
   obtain ⟨ts,y⟩:=q
   obtain ⟨h1,h2,h3⟩:=uU hs
   rw [yK hs]
   cases n with
   |zero=>omega
   |succ n=>
    obtain ⟨i1,i2⟩:=aCg n y (by omega)
    have hj:∀a b:List dE,aZ dR (a++b)=aZ dR a+aZ dR b:=by
     intro a b
     induction a with
     |nil=>simp [aZ]
     |cons x xs ih=>simp only [List.cons_append,aZ,ih];omega
    simp only [List.length_append,hj]
    omega
theorem aPd {x:Str} (h0:ixB 60 x=0) (h1:ixB 62 x < x.length):1≤ixB 62 x:=by
 cases x with
 |nil=>simp at h1
 |cons c r=>
  rw [rW] at h0⊢
  by_cases hc:c=60
  ·subst hc
   rw [if_neg (by decide)]
   omega
  ·rw [if_neg hc] at h0;omega
theorem aB4 [aB Tryz.prog] (t:gJ) (s:Str) (hl:t.rest.length+s.length≤274877906944):Ok Tryz.prog 94 [.agg (iT t),.str s] (.tup [.sl .own 4 ((feed (t.rest++s)).1.map (bQ .own)),.agg [.str (feed (t.rest++s)).2]]):=by
 obtain ⟨rest⟩:=t
 simp only at hl⊢
 have hx0:(rest++s).length≤274877906944:=by simp;omega
 have hj:rest.length+s.length≤9223372036854775807:=by omega
 generalize hx:rest++s=x0 at *
 generalize hF:feed x0=F at *
 refine ent Tryz.mix Tryz.func94 Tryz.ntmps94 ?_
 have W:=And.intro hj hx
 repeat' first|refine st ?_|(refine nx ?_;first|refine se ?_|refine so ?_)|(refine cx ?_;refine sc (fun hc=>?_) (fun hc=>?_)<;>try exact hc.elim)|(refine lx ?_;refine sp (fun hc=>?_) (fun hc=>?_)<;>try exact hc.elim)|refine sx ?_ ?_|refine sy ?_ ?_|fail
 refine aQ (ι:={q:Str×List dE×Nat // (q.2.1.length+q.1.length≤x0.length∧1≤q.2.2)∧F=(q.2.1++(feed q.1).1,(feed q.1).2)}) (fun t o i=>⟨bB t [(6,.obj 2 i.1.2.2),(7,.str i.1.1)],[⟨true,true,1,0,[[.str rest]]⟩,⟨true,true,1,0,[[.str []]]⟩,⟨true,false,4,i.1.2.2,i.1.2.1.map (bQ .own)⟩]⟩)
  (fun i=>i.1.1.length) ⟨(x0,[],1),by simp,by simp [hF]⟩ (aY (by simp) (by simp)) ?_
 rintro ⟨⟨x,acc,v⟩,⟨hal,hv⟩,hgo⟩ K1 hK1
 simp only at hal hv hgo
 simp only [bB,List.set_cons_succ,List.set_cons_zero] at hK1⊢
 have cK:Ok Tryz.prog 102 [.str x,.int .u8 60] (.int .i64 (ixB 60 x:Nat)):=aBj x 60 (by omega)
 have cE:Ok Tryz.prog 102 [.str x,.int .u8 62] (.int .i64 (ixB 62 x:Nat)):=aBj x 62 (by omega)
 have hkl:=mO 60 x
 have hel:=mO 62 x
 have h1e:=aPd (x:=x)
 have cT:=aFe ((x.take (ixB 62 x)).drop 1) (by simp;omega)
 simp only [bQ,List.drop_one] at cT
 have hst:fV x=_:=rfl
 unfold fV at hst
 by_cases hA:0 < ixB 60 x∧ixB 60 x < x.length
 ·have hfs:fV x=some ([⟨3,[],[],x.take (ixB 60 x)⟩],x.drop (ixB 60 x)):=by unfold fV;rw [if_pos hA]
  rw [yK hfs] at hgo
  have hA1:(0:Int) < ((ixB 60 x:Nat):Int):=by omega
  have hA2:((ixB 60 x:Nat):Int) < (x.length:Int):=by omega
  clear hst hfs cT cE h1e hel
  generalize ixB 60 x=k at *
  have hb1:(acc.length+1) * 64≤140737488355328:=by omega
  have W:=And.intro hA1 (And.intro hA2 hb1)
  repeat' first|refine st ?_|(refine nx ?_;first|refine se ?_|refine so ?_)|(refine cx ?_;refine sc (fun hc=>?_) (fun hc=>?_)<;>try exact hc.elim)|(refine lx ?_;refine sp (fun hc=>?_) (fun hc=>?_)<;>try exact hc.elim)|refine sx ?_ ?_|refine sy ?_ ?_|fail
  all_goals refine hK1 _ ⟨(x.drop k,acc++[⟨3,[],[],x.take k⟩],v+1),⟨by simp;omega,by simp only;omega⟩,by rw [hgo];simp⟩ (aW 3 (by simp) (by simp) (by simp) (by simp)) (by simp;omega)
 ·by_cases hB:ixB 60 x≠0∨ixB 62 x=x.length
  ·have hfs:fV x=none:=by unfold fV;rw [if_neg hA,if_pos hB]
   rw [aDb hfs] at hgo
   subst hgo
   clear hst hfs cT h1e hK1
   by_cases hk0:ixB 60 x=0
   ·have hee:ixB 62 x=x.length:=by rcases hB with h|h;exact absurd hk0 h;exact h
    rw [hk0] at cK
    rw [hee] at cE
    clear hA hB
    have W:=trivial
    repeat' first|refine st ?_|(refine nx ?_;first|refine se ?_|refine so ?_)|(refine cx ?_;refine sc (fun hc=>?_) (fun hc=>?_)<;>try exact hc.elim)|(refine lx ?_;refine sp (fun hc=>?_) (fun hc=>?_)<;>try exact hc.elim)|refine sx ?_ ?_|refine sy ?_ ?_|fail
    all_goals (try (refine ⟨.inr rfl,?_⟩;simp [Hands,Tryz.results94]))
   ·have hkk:ixB 60 x=x.length:=by omega
    have hx1:¬x=[]:=by rintro rfl;simp at hkk;exact hk0 hkk
    have hx2:0 < x.length:=List.length_pos_iff.2 hx1
    rw [hkk] at cK
    clear hA hB hk0
    have W:=And.intro hx1 hx2
    repeat' first|refine st ?_|(refine nx ?_;first|refine se ?_|refine so ?_)|(refine cx ?_;refine sc (fun hc=>?_) (fun hc=>?_)<;>try exact hc.elim)|(refine lx ?_;refine sp (fun hc=>?_) (fun hc=>?_)<;>try exact hc.elim)|refine sx ?_ ?_|refine sy ?_ ?_|fail
    all_goals (try (refine ⟨.inr rfl,?_⟩;simp [Hands,Tryz.results94]))
  ·have hfs:fV x=some (vK (jS ((x.take (ixB 62 x)).drop 1)),x.drop (ixB 62 x+1)):=by unfold fV;rw [if_neg hA,if_neg hB]
   rw [yK hfs] at hgo
   have hk0:ixB 60 x=0:=by omega
   have hE1:=h1e hk0 (by omega)
   have hE2:ixB 62 x < x.length:=by omega
   rw [hk0] at cK
   clear hst hfs h1e hA hB hk0 hkl
   generalize ixB 62 x=e at *
   rw [List.drop_one] at hgo
   generalize jS (x.take e).tail=tg at *
   obtain ⟨tk,ok⟩:=tg
   simp only at cT
   have hE3:¬((e:Int)=(x.length:Int)):=by omega
   have hE4:(1:Int)≤(e:Int):=by omega
   have hE5:(e:Int)≤(x.length:Int):=by omega
   have hw:IntKind.i64.wrap ((e:Int)+1)=((e+1:Nat):Int):=by rw [wrap64]<;>omega
   have hE6:e+1≤x.length:=by omega
   have hb1:(acc.length+1) * 64≤140737488355328:=by omega
   cases ok
   ·simp only [vK,Bool.false_eq_true,if_false,List.nil_append] at hgo
    have W:=And.intro hE3 (And.intro hE4 (And.intro hE5 (And.intro hw (And.intro hE6 hE1))))
    repeat' first|refine st ?_|(refine nx ?_;first|refine se ?_|refine so ?_)|(refine cx ?_;refine sc (fun hc=>?_) (fun hc=>?_)<;>try exact hc.elim)|(refine lx ?_;refine sp (fun hc=>?_) (fun hc=>?_)<;>try exact hc.elim)|refine sx ?_ ?_|refine sy ?_ ?_|fail
    all_goals refine hK1 _ ⟨(x.drop (e+1),acc,v),⟨by simp;omega,hv⟩,hgo⟩ (aW 3 (by simp) (by simp) (by simp) (by simp)) (by simp;omega)
   ·simp only [vK,if_true] at hgo
    have W:=And.intro hE3 (And.intro hE4 (And.intro hE5 (And.intro hw (And.intro hE6 (And.intro hE1 hb1)))))
    repeat' first|refine st ?_|(refine nx ?_;first|refine se ?_|refine so ?_)|(refine cx ?_;refine sc (fun hc=>?_) (fun hc=>?_)<;>try exact hc.elim)|(refine lx ?_;refine sp (fun hc=>?_) (fun hc=>?_)<;>try exact hc.elim)|refine sx ?_ ?_|refine sy ?_ ?_|fail
    all_goals refine hK1 _ ⟨(x.drop (e+1),acc++[tk],v+1),⟨by simp;omega,by simp only;omega⟩,by rw [hgo];simp⟩ (aW 3 (by simp) (by simp) (by simp) (by simp)) (by simp;omega)
end Go.Proofs.YtejigeoigebhcaaGreat
