/- Proved here: steps towards the statement of this claim. No condition. -/
import Derived.Test.YtlnblmmohpcceaaGreatDoorZQU5
import Derived.Test.YtlnblmmohpcceaaGreatDoorZS2
set_option linter.all false
set_option maxRecDepth 4000
set_option maxHeartbeats 4000000
namespace Go.Proofs.YtlnblmmohpcceaaGreatDoor
open Go.Aw Proofs.Tryz List IntKind
theorem NS [aD prog] (t:jH) (hs:t.rest.length<=1048576):Ok prog 36 [.agg (dB t)] (.sl .own 4 ((mZ t).map (bB .own))):=by
 obtain ⟨s⟩:=t
 simp only at hs
 cases s with
 |nil=>
  simp only [mZ,true_or,if_true,map_nil]
  refine bR aAc func36 ntmps36 ?_
  have W:=trivial
  repeat' first|refine we ?_|(refine sq ?_ ?_<;>intro hc<;>try exact hc.elim)|fail
  all_goals try(refine ⟨.inr rfl,?_⟩;simp [aB,results36])
 |cons c r=>
  by_cases hc:c=60
  ·subst hc
   have he:mZ ⟨60::r⟩=[]:=by simp [mZ]
   rw [he]
   refine bR aAc func36 ntmps36 ?_
   have W:=trivial
   repeat' first|refine we ?_|(refine sq ?_ ?_<;>intro hc<;>try exact hc.elim)|fail
   all_goals try(refine ⟨.inr rfl,?_⟩;simp [aB,results36])
  ·have he:mZ ⟨c::r⟩=[⟨3,[],[],c::r⟩]:=by simp [mZ,hc]
   rw [he]
   have hn:¬((c.toNat:Int)=60):=fun h=>hc (UInt8.toNat_inj.1 (by simp;omega))
   refine bR aAc func36 ntmps36 ?_
   have W:=hn
   repeat' first|refine we ?_|(refine sq ?_ ?_<;>intro hc<;>try exact hc.elim)|fail
   all_goals try(refine ⟨.inr rfl,?_⟩;simp [aB,results36])
theorem NT [aD prog] (t:jH) (hs:t.rest.length<=1048576):Ok prog 215 [.agg (dB t)] (.sl .own 4 ((mZ t).map (bB .own))):=by
 obtain ⟨s⟩:=t
 simp only at hs
 cases s with
 |nil=>
  simp only [mZ,true_or,if_true,map_nil]
  refine bR aAc func215 ntmps215 ?_
  have W:=trivial
  repeat' first|refine we ?_|(refine sq ?_ ?_<;>intro hc<;>try exact hc.elim)|fail
  all_goals try(refine ⟨.inr rfl,?_⟩;simp [aB,results215])
 |cons c r=>
  by_cases hc:c=60
  ·subst hc
   have he:mZ ⟨60::r⟩=[]:=by simp [mZ]
   rw [he]
   refine bR aAc func215 ntmps215 ?_
   have W:=trivial
   repeat' first|refine we ?_|(refine sq ?_ ?_<;>intro hc<;>try exact hc.elim)|fail
   all_goals try(refine ⟨.inr rfl,?_⟩;simp [aB,results215])
  ·have he:mZ ⟨c::r⟩=[⟨3,[],[],c::r⟩]:=by simp [mZ,hc]
   rw [he]
   have hn:¬((c.toNat:Int)=60):=fun h=>hc (UInt8.toNat_inj.1 (by simp;omega))
   refine bR aAc func215 ntmps215 ?_
   have W:=hn
   repeat' first|refine we ?_|(refine sq ?_ ?_<;>intro hc<;>try exact hc.elim)|fail
   all_goals try(refine ⟨.inr rfl,?_⟩;simp [aB,results215])
theorem EH [aD prog] [eO prog] (s:bC) (c:UInt8):Ok prog 129 [.str s,.int .u8 c.toNat] (.int .i64 (UL c s)):=by
 have h1:=xM s c
 refine bR aAc func129 ntmps129 ?_
 have W:=trivial
 repeat' first|refine we ?_|(refine sq ?_ ?_<;>intro hc<;>try exact hc.elim)|fail
 all_goals try(refine ⟨.inr rfl,?_⟩;simp [aB,results129])
def Ai (t:bH×Bool):List bH:=if t.2=true then [t.1] else []
def gU (x:bC):Option (List bH×bC):=
 if 0 < gG 60 x/\gG 60 x < x.length then some ([⟨3,[],[],x.take (gG 60 x)⟩],x.drop (gG 60 x))
 else if gG 60 x≠0\/gG 62 x=x.length then none
 else some (Ai (nX ((x.take (gG 62 x)).drop 1)),x.drop (gG 62 x+1))
theorem Dj {x:bC} {ts:List bH} {y:bC} (h:gU x=some (ts,y)):y.length < x.length/\ts.length<=1/\aO bF ts+y.length<=x.length:=by
 unfold gU at h
 split at h
 ·rename_i hc
  simp only [Option.some.injEq,Prod.mk.injEq] at h
  obtain ⟨rfl,rfl⟩:=h
  simp [aO,bF,bP];omega
 ·split at h
  ·cases h
  ·rename_i hc
   have h62:=qW 62 x
   simp only [Option.some.injEq,Prod.mk.injEq] at h
   obtain ⟨rfl,rfl⟩:=h
   have hz:=M0 ((x.take (gG 62 x)).drop 1)
   simp only [length_drop,length_take] at hz
   generalize nX ((x.take (gG 62 x)).drop 1)=tg at *
   unfold Ai
   split<;>simp [aO]<;>omega
def Dk:Nat->bC->List bH×bC
 |0,x=>([],x)
 |n+1,x=>match gU x with
  |none=>([],x)
  |some (ts,y)=>(ts++(Dk n y).1,(Dk n y).2)
def feed (x:bC):List bH×bC:=Dk x.length x
theorem BV:∀(n:Nat) (x:bC),x.length<=n->Dk n x=Dk x.length x
 |0,x,h=>by rw [show x.length=0 by omega]
 |n+1,x,h=>by
  cases hs:gU x with
  |none=>
   cases hx:x.length with
   |zero=>simp [Dk,hs]
   |succ m=>simp [Dk,hs]
  |some q=>
   obtain ⟨ts,y⟩:=q
   have hlt:=(Dj hs).1
   cases hx:x.length with
   |zero=>omega
   |succ m=>
    simp only [Dk,hs]
    rw [BV n y (by omega),BV m y (by omega)]
theorem Bj {x:bC} {ts:List bH} {y:bC} (h:gU x=some (ts,y)):feed x=(ts++(feed y).1,(feed y).2):=by
 have hlt:=(Dj h).1
 unfold feed
 cases hx:x.length with
 |zero=>omega
 |succ m=>
  simp only [Dk,h]
  rw [BV m y (by omega)]
theorem Bl {x:bC} (h:gU x=none):feed x=([],x):=by
 unfold feed
 cases hx:x.length with
 |zero=>simp [Dk]
 |succ m=>simp [Dk,h]
theorem LB:∀(n:Nat) (x:bC),x.length<=n->(feed x).1.length+(feed x).2.length<=x.length/\aO bF (feed x).1+(feed x).2.length<=x.length
 |n,x,h=>by
  cases hs:gU x with
  |none=>rw [Bl hs];simp [aO]
  |some q=>
   obtain ⟨ts,y⟩:=q
   obtain ⟨h1,h2,h3⟩:=Dj hs
   rw [Bj hs]
   cases n with
   |zero=>omega
   |succ n=>
    obtain ⟨i1,i2⟩:=LB n y (by omega)
    have hj:∀a b:List bH,aO bF (a++b)=aO bF a+aO bF b:=by
     intro a b
     induction a with
     |nil=>simp [aO]
     |cons x xs ih=>simp only [cons_append,aO,ih];omega
    simp only [length_append,hj]
    omega
theorem ZX {x:bC} (h0:gG 60 x=0) (h1:gG 62 x < x.length):1<=gG 62 x:=by
 cases x with
 |nil=>simp at h1
 |cons c r=>
  rw [yP] at h0⊢
  by_cases hc:c=60
  ·subst hc
   rw [if_neg (by decide)]
   omega
  ·rw [if_neg hc] at h0;omega
theorem KQ [aD prog] [eO prog] (t:jH) (s:bC) (hl:t.rest.length+s.length<=274877906944):Ok prog 214 [.agg (dB t),.str s] (.gV [.sl .own 4 ((feed (t.rest++s)).1.map (bB .own)),.agg [.str (feed (t.rest++s)).2]]):=by
 obtain ⟨rest⟩:=t
 simp only at hl⊢
 have hx0:(rest++s).length<=274877906944:=by simp;omega
 have hj:rest.length+s.length<=9223372036854775807:=by omega
 generalize hx:rest++s=x0 at *
 generalize hF:feed x0=F at *
 refine bR aAc func214 ntmps214 ?_
 have W:=aA hj hx
 repeat' first|refine we ?_|(refine sq ?_ ?_<;>intro hc<;>try exact hc.elim)|fail
 refine aJ (ι:={q:bC×List bH×Nat // (q.2.1.length+q.1.length<=x0.length/\1<=q.2.2)/\F=(q.2.1++(feed q.1).1,(feed q.1).2)}) (fun t o i=>⟨aZ t [(6,.obj 2 i.1.2.2),(7,.str i.1.1)],[⟨true,true,1,0,[[.str rest]]⟩,⟨true,true,1,0,[[.str []]]⟩,⟨true,false,4,i.1.2.2,i.1.2.1.map (bB .own)⟩]⟩)
  (fun i=>i.1.1.length) ⟨(x0,[],1),by simp,by simp [hF]⟩ (aI (by simp) (by simp)) ?_
 rintro ⟨⟨x,acc,v⟩,⟨M9,hv⟩,qH⟩ K1 hK1
 simp only at M9 hv qH
 simp only [aZ,set_cons_succ,set_cons_zero] at hK1⊢
 have cK:Ok prog 218 [.str x,.int .u8 60] (.int .i64 (gG 60 x:Nat)):=Fy x 60 (by omega)
 have cE:Ok prog 218 [.str x,.int .u8 62] (.int .i64 (gG 62 x:Nat)):=Fy x 62 (by omega)
 have hkl:=qW 60 x
 have Ls:=qW 62 x
 have PM:=ZX (x:=x)
 have cT:=TD ((x.take (gG 62 x)).drop 1) (by simp;omega)
 simp only [bB,drop_one] at cT
 have hst:gU x=_:=rfl
 unfold gU at hst
 by_cases hA:0 < gG 60 x/\gG 60 x < x.length
 ·have vC:gU x=some ([⟨3,[],[],x.take (gG 60 x)⟩],x.drop (gG 60 x)):=by unfold gU;rw [if_pos hA]
  rw [Bj vC] at qH
  have hA1:(0:Int) < ((gG 60 x:Nat):Int):=by omega
  have hA2:((gG 60 x:Nat):Int) < (x.length:Int):=by omega
  clear hst vC cT cE PM Ls
  generalize gG 60 x=k at *
  have hb1:(acc.length+1) * 64<=140737488355328:=by omega
  have W:=aA hA1 (aA hA2 hb1)
  repeat' first|refine we ?_|(refine sq ?_ ?_<;>intro hc<;>try exact hc.elim)|fail
  all_goals refine hK1 _ ⟨(x.drop k,acc++[⟨3,[],[],x.take k⟩],v+1),⟨by simp;omega,by simp only;omega⟩,by rw [qH];simp⟩ (aS 3 (by simp) (by simp) (by simp) (by simp)) (by simp;omega)
 ·by_cases hB:gG 60 x≠0\/gG 62 x=x.length
  ·have vC:gU x=none:=by unfold gU;rw [if_neg hA,if_pos hB]
   rw [Bl vC] at qH
   subst qH
   clear hst vC cT PM hK1
   by_cases hk0:gG 60 x=0
   ·have hee:gG 62 x=x.length:=by rcases hB with h|h;exact absurd hk0 h;exact h
    rw [hk0] at cK
    rw [hee] at cE
    clear hA hB
    have W:=trivial
    repeat' first|refine we ?_|(refine sq ?_ ?_<;>intro hc<;>try exact hc.elim)|fail
    all_goals try(refine ⟨.inr rfl,?_⟩;simp [aB,results214])
   ·have hkk:gG 60 x=x.length:=by omega
    have hx1:¬x=[]:=by rintro rfl;simp at hkk;exact hk0 hkk
    have hx2:0 < x.length:=length_pos_iff.2 hx1
    rw [hkk] at cK
    clear hA hB hk0
    have W:=aA hx1 hx2
    repeat' first|refine we ?_|(refine sq ?_ ?_<;>intro hc<;>try exact hc.elim)|fail
    all_goals try(refine ⟨.inr rfl,?_⟩;simp [aB,results214])
  ·have vC:gU x=some (Ai (nX ((x.take (gG 62 x)).drop 1)),x.drop (gG 62 x+1)):=by unfold gU;rw [if_neg hA,if_neg hB]
   rw [Bj vC] at qH
   have hk0:gG 60 x=0:=by omega
   have hE1:=PM hk0 (by omega)
   have LA:gG 62 x < x.length:=by omega
   rw [hk0] at cK
   clear hst vC PM hA hB hk0 hkl
   generalize gG 62 x=e at *
   rw [drop_one] at qH
   generalize nX (x.take e).tail=tg at *
   obtain ⟨tk,ok⟩:=tg
   simp only at cT
   have hE3:¬((e:Int)=(x.length:Int)):=by omega
   have hE4:(1:Int)<=(e:Int):=by omega
   have hE5:(e:Int)<=(x.length:Int):=by omega
   have hw:i64.wrap ((e:Int)+1)=((e+1:Nat):Int):=by rw [wrap64]<;>omega
   have hE6:e+1<=x.length:=by omega
   have hb1:(acc.length+1) * 64<=140737488355328:=by omega
   cases ok
   ·simp only [Ai,Bool.false_eq_true,if_false,nil_append] at qH
    have W:=aA hE3 (aA hE4 (aA hE5 (aA hw (aA hE6 hE1))))
    repeat' first|refine we ?_|(refine sq ?_ ?_<;>intro hc<;>try exact hc.elim)|fail
    all_goals refine hK1 _ ⟨(x.drop (e+1),acc,v),⟨by simp;omega,hv⟩,qH⟩ (aS 3 (by simp) (by simp) (by simp) (by simp)) (by simp;omega)
   ·simp only [Ai,if_true] at qH
    have W:=aA hE3 (aA hE4 (aA hE5 (aA hw (aA hE6 (aA hE1 hb1)))))
    repeat' first|refine we ?_|(refine sq ?_ ?_<;>intro hc<;>try exact hc.elim)|fail
    all_goals refine hK1 _ ⟨(x.drop (e+1),acc++[tk],v+1),⟨by simp;omega,by simp only;omega⟩,by rw [qH];simp⟩ (aS 3 (by simp) (by simp) (by simp) (by simp)) (by simp;omega)
theorem KR [aD prog] [eO prog] (t:jH) (s:bC) (hl:t.rest.length+s.length<=274877906944):Ok prog 35 [.agg (dB t),.str s] (.gV [.sl .own 4 ((feed (t.rest++s)).1.map (bB .own)),.agg [.str (feed (t.rest++s)).2]]):=by
 obtain ⟨rest⟩:=t
 simp only at hl⊢
 have hx0:(rest++s).length<=274877906944:=by simp;omega
 have hj:rest.length+s.length<=9223372036854775807:=by omega
 generalize hx:rest++s=x0 at *
 generalize hF:feed x0=F at *
 refine bR aAc func35 ntmps35 ?_
 have W:=aA hj hx
 repeat' first|refine we ?_|(refine sq ?_ ?_<;>intro hc<;>try exact hc.elim)|fail
 refine aJ (ι:={q:bC×List bH×Nat // (q.2.1.length+q.1.length<=x0.length/\1<=q.2.2)/\F=(q.2.1++(feed q.1).1,(feed q.1).2)}) (fun t o i=>⟨aZ t [(7,.obj 2 i.1.2.2),(6,.str i.1.1)],[⟨true,true,1,0,[[.str rest]]⟩,⟨true,true,1,0,[[.str []]]⟩,⟨true,false,4,i.1.2.2,i.1.2.1.map (bB .own)⟩]⟩)
  (fun i=>i.1.1.length) ⟨(x0,[],1),by simp,by simp [hF]⟩ (aI (by simp) (by simp)) ?_
 rintro ⟨⟨x,acc,v⟩,⟨M9,hv⟩,qH⟩ K1 hK1
 simp only at M9 hv qH
 simp only [aZ,set_cons_succ,set_cons_zero] at hK1⊢
 cases PN:x with
 |nil=>
  have vC:gU []=none:=by simp [gU,ZB]
  rw [PN,Bl vC] at qH
  subst qH
  clear hK1
  have W:=trivial
  repeat' first|refine we ?_|(refine sq ?_ ?_<;>intro hc<;>try exact hc.elim)|fail
  all_goals try(refine ⟨.inr rfl,?_⟩;simp [aB,results35])
 |cons c r=>
  have hx1:¬x=[]:=by rw [PN];simp
  have hx2:x[0]? =some c:=by rw [PN];rfl
  rw [<-PN]
  have cK:Ok prog 129 [.str x,.int .u8 60] (.int .i64 (UL 60 x)):=EH x 60
  have cE:Ok prog 129 [.str x,.int .u8 62] (.int .i64 (UL 62 x)):=EH x 62
  unfold UL at cK cE
  have hkl:=qW 60 x
  have Ls:=qW 62 x
  have PM:=ZX (x:=x)
  have cT:=Ty ((x.take (gG 62 x)).drop 1) (by simp;omega)
  simp only [bB,drop_one] at cT
  by_cases VS:c=60
  ·have hk0:gG 60 x=0:=by rw [PN,yP,if_pos VS]
   have hc1:(c.toNat:Int)=60:=by rw [VS];rfl
   have hA:¬(0 < gG 60 x/\gG 60 x < x.length):=by omega
   by_cases hB:gG 62 x=x.length
   ·have vC:gU x=none:=by unfold gU;rw [if_neg hA,if_pos (.inr hB)]
    rw [Bl vC] at qH
    subst qH
    rw [if_neg (by omega)] at cE
    clear vC cT PM hK1 hA hB PN VS cK hk0
    have W:=aA hx1 (aA hx2 hc1)
    repeat' first|refine we ?_|(refine sq ?_ ?_<;>intro hc<;>try exact hc.elim)|fail
    all_goals try(refine ⟨.inr rfl,?_⟩;simp [aB,results35])
   ·have vC:gU x=some (Ai (nX ((x.take (gG 62 x)).drop 1)),x.drop (gG 62 x+1)):=by unfold gU;rw [if_neg hA,if_neg (by rintro (h|h);exact h hk0;exact hB h)]
    rw [Bj vC] at qH
    have hE1:=PM hk0 (by omega)
    have LA:gG 62 x < x.length:=by omega
    rw [if_pos LA] at cE
    clear vC PM hA hB hkl PN VS cK hk0
    generalize gG 62 x=e at *
    rw [drop_one] at qH
    generalize nX (x.take e).tail=tg at *
    obtain ⟨tk,ok⟩:=tg
    simp only at cT
    have hE4:(1:Int)<=(e:Int):=by omega
    have hE5:(e:Int)<=(x.length:Int):=by omega
    have hw:i64.wrap ((e:Int)+1)=((e+1:Nat):Int):=by rw [wrap64]<;>omega
    have hE6:e+1<=x.length:=by omega
    have hb1:(acc.length+1) * 64<=140737488355328:=by omega
    cases ok
    ·simp only [Ai,Bool.false_eq_true,if_false,nil_append] at qH
     have W:=aA hx1 (aA hx2 (aA hc1 (aA hE4 (aA hE5 (aA hw (aA hE6 hE1))))))
     repeat' first|refine we ?_|(refine sq ?_ ?_<;>intro hc<;>try exact hc.elim)|fail
     all_goals first|(exact absurd hc hx1)|refine hK1 _ ⟨(x.drop (e+1),acc,v),⟨by simp;omega,hv⟩,qH⟩ (aS 3 (by simp) (by simp) (by simp) (by simp)) (by simp;omega)
    ·simp only [Ai,if_true] at qH
     have W:=aA hx1 (aA hx2 (aA hc1 (aA hE4 (aA hE5 (aA hw (aA hE6 (aA hE1 hb1)))))))
     repeat' first|refine we ?_|(refine sq ?_ ?_<;>intro hc<;>try exact hc.elim)|fail
     all_goals first|(exact absurd hc hx1)|refine hK1 _ ⟨(x.drop (e+1),acc++[tk],v+1),⟨by simp;omega,by simp only;omega⟩,by rw [qH];simp⟩ (aS 3 (by simp) (by simp) (by simp) (by simp)) (by simp;omega)
  ·have hk0:0 < gG 60 x:=by rw [PN,yP,if_neg VS];omega
   have hc1:¬(c.toNat:Int)=60:=fun h=>VS (UInt8.toNat_inj.1 (by simp;omega))
   by_cases hB:gG 60 x < x.length
   ·have vC:gU x=some ([⟨3,[],[],x.take (gG 60 x)⟩],x.drop (gG 60 x)):=by unfold gU;rw [if_pos ⟨hk0,hB⟩]
    rw [Bj vC] at qH
    rw [if_pos hB] at cK
    clear vC cT cE PM Ls PN VS
    generalize gG 60 x=k at *
    have hA1:(0:Int) < (k:Int):=by omega
    have hA2:(k:Int) < (x.length:Int):=by omega
    have hb1:(acc.length+1) * 64<=140737488355328:=by omega
    have W:=aA hx1 (aA hx2 (aA hc1 (aA hA1 (aA hA2 hb1))))
    repeat' first|refine we ?_|(refine sq ?_ ?_<;>intro hc<;>try exact hc.elim)|fail
    all_goals first|(exact absurd hc hx1)|refine hK1 _ ⟨(x.drop k,acc++[⟨3,[],[],x.take k⟩],v+1),⟨by simp;omega,by simp only;omega⟩,by rw [qH];simp⟩ (aS 3 (by simp) (by simp) (by simp) (by simp)) (by simp;omega)
   ·have vC:gU x=none:=by unfold gU;rw [if_neg (by omega),if_pos (.inl (by omega))]
    rw [Bl vC] at qH
    subst qH
    rw [if_neg hB] at cK
    clear vC cT PM hK1 hB PN VS cE hk0
    have W:=aA hx1 (aA hx2 hc1)
    repeat' first|refine we ?_|(refine sq ?_ ?_<;>intro hc<;>try exact hc.elim)|fail
    all_goals try(refine ⟨.inr rfl,?_⟩;simp [aB,results35])
end Go.Proofs.YtlnblmmohpcceaaGreatDoor
