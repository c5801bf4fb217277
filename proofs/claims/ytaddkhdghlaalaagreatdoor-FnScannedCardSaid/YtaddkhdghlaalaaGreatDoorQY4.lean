/-
  Proved here: contracts of EndText, in the reference and in the program.
  No condition beyond what each statement spells out.
-/
import Derived.Test.YtaddkhdghlaalaaGreatDoorQMK1
import Derived.Test.YtaddkhdghlaalaaGreatDoorS2
set_option linter.all false
set_option maxRecDepth 4000
set_option maxHeartbeats 4000000
namespace Go.Proofs.YtaddkhdghlaalaaGreatDoor
open Go.Aw
theorem aNa [aB Tryz.prog] (t:kV) (hs:t.rest.length≤1048576):Ok Tryz.prog 63 [.agg (fI t)] (.sl .own 4 ((iI t).map (bL .own))):=by
 obtain ⟨s⟩:=t
 simp only at hs
 cases s with
 |nil=>
  simp only [iI,true_or,if_true,List.map_nil]
  refine ent Tryz.mix Tryz.func63 Tryz.ntmps63 ?_
  have W:=trivial
  repeat' first|refine st ?_|(refine nx ?_;first|refine se ?_|refine so ?_)|(refine cx ?_;refine sc (fun hc=>?_) (fun hc=>?_)<;>try exact hc.elim)|(refine lx ?_;refine sp (fun hc=>?_) (fun hc=>?_)<;>try exact hc.elim)|refine sx ?_ ?_|refine sy ?_ ?_|fail
  all_goals (try (refine ⟨.inr rfl,?_⟩;simp [Hands,Tryz.results63]))
 |cons c r=>
  by_cases hc:c=60
  ·subst hc
   have he:iI ⟨60::r⟩=[]:=by simp [iI]
   rw [he]
   refine ent Tryz.mix Tryz.func63 Tryz.ntmps63 ?_
   have W:=trivial
   repeat' first|refine st ?_|(refine nx ?_;first|refine se ?_|refine so ?_)|(refine cx ?_;refine sc (fun hc=>?_) (fun hc=>?_)<;>try exact hc.elim)|(refine lx ?_;refine sp (fun hc=>?_) (fun hc=>?_)<;>try exact hc.elim)|refine sx ?_ ?_|refine sy ?_ ?_|fail
   all_goals (try (refine ⟨.inr rfl,?_⟩;simp [Hands,Tryz.results63]))
  ·have he:iI ⟨c::r⟩=[⟨3,[],[],c::r⟩]:=by simp [iI,hc]
   rw [he]
   have hn:¬((c.toNat:Int)=60):=fun h=>hc (UInt8.toNat_inj.1 (by simp;omega))
   refine ent Tryz.mix Tryz.func63 Tryz.ntmps63 ?_
   have W:=hn
   repeat' first|refine st ?_|(refine nx ?_;first|refine se ?_|refine so ?_)|(refine cx ?_;refine sc (fun hc=>?_) (fun hc=>?_)<;>try exact hc.elim)|(refine lx ?_;refine sp (fun hc=>?_) (fun hc=>?_)<;>try exact hc.elim)|refine sx ?_ ?_|refine sy ?_ ?_|fail
   all_goals (try (refine ⟨.inr rfl,?_⟩;simp [Hands,Tryz.results63]))
theorem aDv [aB Tryz.prog] (t:kV) (hs:t.rest.length≤1048576):Ok Tryz.prog 46 [.agg (fI t)] (.sl .own 4 ((iI t).map (bL .own))):=by
 obtain ⟨s⟩:=t
 simp only at hs
 cases s with
 |nil=>
  simp only [iI,true_or,if_true,List.map_nil]
  refine ent Tryz.mix Tryz.func46 Tryz.ntmps46 ?_
  refine aW ?_
  exact aM Tryz.results46
 |cons c r=>
  by_cases hc:c=60
  ·subst hc
   have he:iI ⟨60::r⟩=[]:=by simp [iI]
   rw [he]
   refine ent Tryz.mix Tryz.func46 Tryz.ntmps46 ?_
   refine aW ?_
   exact aM Tryz.results46
  ·have he:iI ⟨c::r⟩=[⟨3,[],[],c::r⟩]:=by simp [iI,hc]
   rw [he]
   have hn:¬((c.toNat:Int)=60):=fun h=>hc (UInt8.toNat_inj.1 (by simp;omega))
   refine ent Tryz.mix Tryz.func46 Tryz.ntmps46 ?_
   have W:=hn
   refine we ?_
   exact aM Tryz.results46
theorem aFi [aB Tryz.prog] [dB Tryz.prog] (s:Str) (c:UInt8):Ok Tryz.prog 100 [.str s,.int .u8 c.toNat] (.int .i64 (ixI c s)):=by
 have h1:=xZ s c
 refine ent Tryz.mix Tryz.func100 Tryz.ntmps100 ?_
 refine aW ?_
 exact aM Tryz.results100
def wF (t:bE×Bool):List bE:=if t.2=true then [t.1] else []
def gB (x:Str):Option (List bE×Str):=
 if 0 < ixB 60 x∧ixB 60 x < x.length then some ([⟨3,[],[],x.take (ixB 60 x)⟩],x.drop (ixB 60 x))
 else if ixB 60 x≠0∨ixB 62 x=x.length then none
 else some (wF (iZ ((x.take (ixB 62 x)).drop 1)),x.drop (ixB 62 x+1))
theorem aC3 {x:Str} {ts:List bE} {y:Str} (h:gB x=some (ts,y)):y.length < x.length∧ts.length≤1∧aK bN ts+y.length≤x.length:=by
 unfold gB at h
 split at h
 ·rename_i hc
  simp only [Option.some.injEq,Prod.mk.injEq] at h
  obtain ⟨rfl,rfl⟩:=h
  simp [aK,bN,szL];omega
 ·split at h
  ·cases h
  ·rename_i hc
   have h62:=oU 62 x
   simp only [Option.some.injEq,Prod.mk.injEq] at h
   obtain ⟨rfl,rfl⟩:=h
   have hz:=aQ8 ((x.take (ixB 62 x)).drop 1)
   simp only [List.length_drop,List.length_take] at hz
   generalize iZ ((x.take (ixB 62 x)).drop 1)=tg at *
   unfold wF
   split<;>simp [aK]<;>omega
def xH:Nat→Str→List bE×Str
 |0,x=>([],x)
 |n+1,x=>match gB x with
  |none=>([],x)
  |some (ts,y)=>(ts++(xH n y).1,(xH n y).2)
def feed (x:Str):List bE×Str:=xH x.length x
theorem aBj:∀(n:Nat) (x:Str),x.length≤n→xH n x=xH x.length x
 |0,x,h=>by rw [show x.length=0 by omega]
 |n+1,x,h=>by
  cases hs:gB x with
  |none=>
   cases hx:x.length with
   |zero=>simp [xH,hs]
   |succ m=>simp [xH,hs]
  |some q=>
   obtain ⟨ts,y⟩:=q
   have hlt:=(aC3 hs).1
   cases hx:x.length with
   |zero=>omega
   |succ m=>
    simp only [xH,hs]
    rw [aBj n y (by omega),aBj m y (by omega)]
theorem zQ {x:Str} {ts:List bE} {y:Str} (h:gB x=some (ts,y)):feed x=(ts++(feed y).1,(feed y).2):=by
 have hlt:=(aC3 h).1
 unfold feed
 cases hx:x.length with
 |zero=>omega
 |succ m=>
  simp only [xH,h]
  rw [aBj m y (by omega)]
theorem zY {x:Str} (h:gB x=none):feed x=([],x):=by
 unfold feed
 cases hx:x.length with
 |zero=>simp [xH]
 |succ m=>simp [xH,h]
theorem aA5:∀(n:Nat) (x:Str),x.length≤n→(feed x).1.length+(feed x).2.length≤x.length∧aK bN (feed x).1+(feed x).2.length≤x.length
 |n,x,h=>by
  cases hs:gB x with
  |none=>rw [zY hs];simp [aK]
  |some q=>
   obtain ⟨ts,y⟩:=q
   obtain ⟨h1,h2,h3⟩:=aC3 hs
   rw [zQ hs]
   cases n with
   |zero=>omega
   |succ n=>
    obtain ⟨i1,i2⟩:=aA5 n y (by omega)
    have hj:∀a b:List bE,aK bN (a++b)=aK bN a+aK bN b:=by
     intro a b
     induction a with
     |nil=>simp [aK]
     |cons x xs ih=>simp only [List.cons_append,aK,ih];omega
    simp only [List.length_append,hj]
    omega
theorem aWp {x:Str} (h0:ixB 60 x=0) (h1:ixB 62 x < x.length):1≤ixB 62 x:=by
 cases x with
 |nil=>simp at h1
 |cons c r=>
  rw [wC] at h0⊢
  by_cases hc:c=60
  ·subst hc
   rw [if_neg (by decide)]
   omega
  ·rw [if_neg hc] at h0;omega
theorem aCj [aB Tryz.prog] [dB Tryz.prog] (t:kV) (s:Str) (hl:t.rest.length+s.length≤274877906944):Ok Tryz.prog 45 [.agg (fI t),.str s] (.tup [.sl .own 4 ((feed (t.rest++s)).1.map (bL .own)),.agg [.str (feed (t.rest++s)).2]]):=by
 obtain ⟨rest⟩:=t
 simp only at hl⊢
 have hx0:(rest++s).length≤274877906944:=by simp;omega
 have hj:rest.length+s.length≤9223372036854775807:=by omega
 generalize hx:rest++s=x0 at *
 generalize hF:feed x0=F at *
 refine ent Tryz.mix Tryz.func45 Tryz.ntmps45 ?_
 have W:=And.intro hj hx
 refine we ?_
 refine aR (ι:={q:Str×List bE×Nat // (q.2.1.length+q.1.length≤x0.length∧1≤q.2.2)∧F=(q.2.1++(feed q.1).1,(feed q.1).2)}) (fun t o i=>⟨aS t [(6,.obj 2 i.1.2.2),(7,.str i.1.1)],[⟨true,true,1,0,[[.str rest]]⟩,⟨true,true,1,0,[[.str []]]⟩,⟨true,false,4,i.1.2.2,i.1.2.1.map (bL .own)⟩]⟩)
  (fun i=>i.1.1.length) ⟨(x0,[],1),by simp,by simp [hF]⟩ aO ?_
 rintro ⟨⟨x,acc,v⟩,⟨hal,hv⟩,hgo⟩ K1 hK1
 simp only at hal hv hgo
 simp only [aS,List.set_cons_succ,List.set_cons_zero] at hK1⊢
 have cK:Ok Tryz.prog 72 [.str x,.int .u8 60] (.int .i64 (ixB 60 x:Nat)):=aEl x 60 (by omega)
 have cE:Ok Tryz.prog 72 [.str x,.int .u8 62] (.int .i64 (ixB 62 x:Nat)):=aEl x 62 (by omega)
 have hkl:=oU 60 x
 have hel:=oU 62 x
 have h1e:=aWp (x:=x)
 have cT:=aGt ((x.take (ixB 62 x)).drop 1) (by simp;omega)
 simp only [bL,List.drop_one] at cT
 have hst:gB x=_:=rfl
 unfold gB at hst
 by_cases hA:0 < ixB 60 x∧ixB 60 x < x.length
 ·have hfs:gB x=some ([⟨3,[],[],x.take (ixB 60 x)⟩],x.drop (ixB 60 x)):=by unfold gB;rw [if_pos hA]
  rw [zQ hfs] at hgo
  have hA1:(0:Int) < ((ixB 60 x:Nat):Int):=by omega
  have hA2:((ixB 60 x:Nat):Int) < (x.length:Int):=by omega
  clear hst hfs cT cE h1e hel
  generalize ixB 60 x=k at *
  have hb1:(acc.length+1) * 64≤140737488355328:=by omega
  have W:=And.intro hA1 (And.intro hA2 hb1)
  refine we ?_
  all_goals refine hK1 _ ⟨(x.drop k,acc++[⟨3,[],[],x.take k⟩],v+1),⟨by simp;omega,by simp only;omega⟩,by rw [hgo];simp⟩ (aN 3) (by simp;omega)
 ·by_cases hB:ixB 60 x≠0∨ixB 62 x=x.length
  ·have hfs:gB x=none:=by unfold gB;rw [if_neg hA,if_pos hB]
   rw [zY hfs] at hgo
   subst hgo
   clear hst hfs cT h1e hK1
   by_cases hk0:ixB 60 x=0
   ·have hee:ixB 62 x=x.length:=by rcases hB with h|h;exact absurd hk0 h;exact h
    rw [hk0] at cK
    rw [hee] at cE
    clear hA hB
    refine aW ?_
    exact aM Tryz.results45
   ·have hkk:ixB 60 x=x.length:=by omega
    have hx1:¬x=[]:=by rintro rfl;simp at hkk;exact hk0 hkk
    have hx2:0 < x.length:=List.length_pos_iff.2 hx1
    rw [hkk] at cK
    clear hA hB hk0
    have W:=And.intro hx1 hx2
    refine we ?_
    exact aM Tryz.results45
  ·have hfs:gB x=some (wF (iZ ((x.take (ixB 62 x)).drop 1)),x.drop (ixB 62 x+1)):=by unfold gB;rw [if_neg hA,if_neg hB]
   rw [zQ hfs] at hgo
   have hk0:ixB 60 x=0:=by omega
   have hE1:=h1e hk0 (by omega)
   have hE2:ixB 62 x < x.length:=by omega
   rw [hk0] at cK
   clear hst hfs h1e hA hB hk0 hkl
   generalize ixB 62 x=e at *
   rw [List.drop_one] at hgo
   generalize iZ (x.take e).tail=tg at *
   obtain ⟨tk,ok⟩:=tg
   simp only at cT
   have hE3:¬((e:Int)=(x.length:Int)):=by omega
   have hE4:(1:Int)≤(e:Int):=by omega
   have hE5:(e:Int)≤(x.length:Int):=by omega
   have hw:IntKind.i64.wrap ((e:Int)+1)=((e+1:Nat):Int):=by rw [wrap64]<;>omega
   have hE6:e+1≤x.length:=by omega
   have hb1:(acc.length+1) * 64≤140737488355328:=by omega
   cases ok
   ·simp only [wF,Bool.false_eq_true,if_false,List.nil_append] at hgo
    have W:=And.intro hE3 (And.intro hE4 (And.intro hE5 (And.intro hw (And.intro hE6 hE1))))
    refine we ?_
    all_goals refine hK1 _ ⟨(x.drop (e+1),acc,v),⟨by simp;omega,hv⟩,hgo⟩ (aN 3) (by simp;omega)
   ·simp only [wF,if_true] at hgo
    have W:=And.intro hE3 (And.intro hE4 (And.intro hE5 (And.intro hw (And.intro hE6 (And.intro hE1 hb1)))))
    refine we ?_
    all_goals refine hK1 _ ⟨(x.drop (e+1),acc++[tk],v+1),⟨by simp;omega,by simp only;omega⟩,by rw [hgo];simp⟩ (aN 3) (by simp;omega)
theorem aLy [aB Tryz.prog] [dB Tryz.prog] (t:kV) (s:Str) (hl:t.rest.length+s.length≤274877906944):Ok Tryz.prog 62 [.agg (fI t),.str s] (.tup [.sl .own 4 ((feed (t.rest++s)).1.map (bL .own)),.agg [.str (feed (t.rest++s)).2]]):=by
 obtain ⟨rest⟩:=t
 simp only at hl⊢
 have hx0:(rest++s).length≤274877906944:=by simp;omega
 have hj:rest.length+s.length≤9223372036854775807:=by omega
 generalize hx:rest++s=x0 at *
 generalize hF:feed x0=F at *
 refine ent Tryz.mix Tryz.func62 Tryz.ntmps62 ?_
 have W:=And.intro hj hx
 refine we ?_
 refine aR (ι:={q:Str×List bE×Nat // (q.2.1.length+q.1.length≤x0.length∧1≤q.2.2)∧F=(q.2.1++(feed q.1).1,(feed q.1).2)}) (fun t o i=>⟨aS t [(7,.obj 2 i.1.2.2),(6,.str i.1.1)],[⟨true,true,1,0,[[.str rest]]⟩,⟨true,true,1,0,[[.str []]]⟩,⟨true,false,4,i.1.2.2,i.1.2.1.map (bL .own)⟩]⟩)
  (fun i=>i.1.1.length) ⟨(x0,[],1),by simp,by simp [hF]⟩ aO ?_
 rintro ⟨⟨x,acc,v⟩,⟨hal,hv⟩,hgo⟩ K1 hK1
 simp only at hal hv hgo
 simp only [aS,List.set_cons_succ,List.set_cons_zero] at hK1⊢
 cases hxc:x with
 |nil=>
  have hfs:gB []=none:=by simp [gB,aNq]
  rw [hxc,zY hfs] at hgo
  subst hgo
  clear hK1
  refine aW ?_
  exact aM Tryz.results62
 |cons c r=>
  have hx1:¬x=[]:=by rw [hxc];simp
  have hx2:x[0]? =some c:=by rw [hxc];rfl
  rw [←hxc]
  have cK:Ok Tryz.prog 100 [.str x,.int .u8 60] (.int .i64 (ixI 60 x)):=aFi x 60
  have cE:Ok Tryz.prog 100 [.str x,.int .u8 62] (.int .i64 (ixI 62 x)):=aFi x 62
  unfold ixI at cK cE
  have hkl:=oU 60 x
  have hel:=oU 62 x
  have h1e:=aWp (x:=x)
  have cT:=aTq ((x.take (ixB 62 x)).drop 1) (by simp;omega)
  simp only [bL,List.drop_one] at cT
  by_cases hc60:c=60
  ·have hk0:ixB 60 x=0:=by rw [hxc,wC,if_pos hc60]
   have hc1:(c.toNat:Int)=60:=by rw [hc60];rfl
   have hA:¬(0 < ixB 60 x∧ixB 60 x < x.length):=by omega
   by_cases hB:ixB 62 x=x.length
   ·have hfs:gB x=none:=by unfold gB;rw [if_neg hA,if_pos (.inr hB)]
    rw [zY hfs] at hgo
    subst hgo
    rw [if_neg (by omega)] at cE
    clear hfs cT h1e hK1 hA hB hxc hc60 cK hk0
    have W:=And.intro hx1 (And.intro hx2 hc1)
    repeat' first|refine st ?_|(refine nx ?_;first|refine se ?_|refine so ?_)|(refine cx ?_;refine sc (fun hc=>?_) (fun hc=>?_)<;>try exact hc.elim)|(refine lx ?_;refine sp (fun hc=>?_) (fun hc=>?_)<;>try exact hc.elim)|refine sx ?_ ?_|refine sy ?_ ?_|fail
    all_goals (try (refine ⟨.inr rfl,?_⟩;simp [Hands,Tryz.results62]))
   ·have hfs:gB x=some (wF (iZ ((x.take (ixB 62 x)).drop 1)),x.drop (ixB 62 x+1)):=by unfold gB;rw [if_neg hA,if_neg (by rintro (h|h);exact h hk0;exact hB h)]
    rw [zQ hfs] at hgo
    have hE1:=h1e hk0 (by omega)
    have hE2:ixB 62 x < x.length:=by omega
    rw [if_pos hE2] at cE
    clear hfs h1e hA hB hkl hxc hc60 cK hk0
    generalize ixB 62 x=e at *
    rw [List.drop_one] at hgo
    generalize iZ (x.take e).tail=tg at *
    obtain ⟨tk,ok⟩:=tg
    simp only at cT
    have hE4:(1:Int)≤(e:Int):=by omega
    have hE5:(e:Int)≤(x.length:Int):=by omega
    have hw:IntKind.i64.wrap ((e:Int)+1)=((e+1:Nat):Int):=by rw [wrap64]<;>omega
    have hE6:e+1≤x.length:=by omega
    have hb1:(acc.length+1) * 64≤140737488355328:=by omega
    cases ok
    ·simp only [wF,Bool.false_eq_true,if_false,List.nil_append] at hgo
     have W:=And.intro hx1 (And.intro hx2 (And.intro hc1 (And.intro hE4 (And.intro hE5 (And.intro hw (And.intro hE6 hE1))))))
     repeat' first|refine st ?_|(refine nx ?_;first|refine se ?_|refine so ?_)|(refine cx ?_;refine sc (fun hc=>?_) (fun hc=>?_)<;>try exact hc.elim)|(refine lx ?_;refine sp (fun hc=>?_) (fun hc=>?_)<;>try exact hc.elim)|refine sx ?_ ?_|refine sy ?_ ?_|fail
     all_goals first|(exact absurd hc hx1)|refine hK1 _ ⟨(x.drop (e+1),acc,v),⟨by simp;omega,hv⟩,hgo⟩ (aN 3) (by simp;omega)
    ·simp only [wF,if_true] at hgo
     have W:=And.intro hx1 (And.intro hx2 (And.intro hc1 (And.intro hE4 (And.intro hE5 (And.intro hw (And.intro hE6 (And.intro hE1 hb1)))))))
     repeat' first|refine st ?_|(refine nx ?_;first|refine se ?_|refine so ?_)|(refine cx ?_;refine sc (fun hc=>?_) (fun hc=>?_)<;>try exact hc.elim)|(refine lx ?_;refine sp (fun hc=>?_) (fun hc=>?_)<;>try exact hc.elim)|refine sx ?_ ?_|refine sy ?_ ?_|fail
     all_goals first|(exact absurd hc hx1)|refine hK1 _ ⟨(x.drop (e+1),acc++[tk],v+1),⟨by simp;omega,by simp only;omega⟩,by rw [hgo];simp⟩ (aN 3) (by simp;omega)
  ·have hk0:0 < ixB 60 x:=by rw [hxc,wC,if_neg hc60];omega
   have hc1:¬(c.toNat:Int)=60:=fun h=>hc60 (UInt8.toNat_inj.1 (by simp;omega))
   by_cases hB:ixB 60 x < x.length
   ·have hfs:gB x=some ([⟨3,[],[],x.take (ixB 60 x)⟩],x.drop (ixB 60 x)):=by unfold gB;rw [if_pos ⟨hk0,hB⟩]
    rw [zQ hfs] at hgo
    rw [if_pos hB] at cK
    clear hfs cT cE h1e hel hxc hc60
    generalize ixB 60 x=k at *
    have hA1:(0:Int) < (k:Int):=by omega
    have hA2:(k:Int) < (x.length:Int):=by omega
    have hb1:(acc.length+1) * 64≤140737488355328:=by omega
    have W:=And.intro hx1 (And.intro hx2 (And.intro hc1 (And.intro hA1 (And.intro hA2 hb1))))
    repeat' first|refine st ?_|(refine nx ?_;first|refine se ?_|refine so ?_)|(refine cx ?_;refine sc (fun hc=>?_) (fun hc=>?_)<;>try exact hc.elim)|(refine lx ?_;refine sp (fun hc=>?_) (fun hc=>?_)<;>try exact hc.elim)|refine sx ?_ ?_|refine sy ?_ ?_|fail
    all_goals first|(exact absurd hc hx1)|refine hK1 _ ⟨(x.drop k,acc++[⟨3,[],[],x.take k⟩],v+1),⟨by simp;omega,by simp only;omega⟩,by rw [hgo];simp⟩ (aN 3) (by simp;omega)
   ·have hfs:gB x=none:=by unfold gB;rw [if_neg (by omega),if_pos (.inl (by omega))]
    rw [zY hfs] at hgo
    subst hgo
    rw [if_neg hB] at cK
    clear hfs cT h1e hK1 hB hxc hc60 cE hk0
    have W:=And.intro hx1 (And.intro hx2 hc1)
    repeat' first|refine st ?_|(refine nx ?_;first|refine se ?_|refine so ?_)|(refine cx ?_;refine sc (fun hc=>?_) (fun hc=>?_)<;>try exact hc.elim)|(refine lx ?_;refine sp (fun hc=>?_) (fun hc=>?_)<;>try exact hc.elim)|refine sx ?_ ?_|refine sy ?_ ?_|fail
    all_goals (try (refine ⟨.inr rfl,?_⟩;simp [Hands,Tryz.results62]))
end Go.Proofs.YtaddkhdghlaalaaGreatDoor
