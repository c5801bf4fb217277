/-
  Proved here: steps towards the statement of this claim, text QI2.
  No condition beyond what each statement spells out.
-/
import Derived.Test.YtajppdidkjbmkaaGreatDoorI1
import Derived.Test.YtajppdidkjbmkaaGreatDoorQP9
import Derived.Test.YtajppdidkjbmkaaGreatDoorF8
import Derived.Test.YtajppdidkjbmkaaGreatDoorF5
import Derived.Test.YtajppdidkjbmkaaGreatDoorQS1
import Derived.Test.YtajppdidkjbmkaaGreatDoorQN1
import Derived.Test.YtajppdidkjbmkaaGreatDoorQDRG
set_option linter.all false
set_option maxRecDepth 100000
set_option maxHeartbeats 4000000
namespace Go.Proofs.YtajppdidkjbmkaaGreatDoor
open Go.Aw
theorem aSa [aB Tryz.prog] (l:List bN) (m:bN) (i:Nat) (hi:i < l.length) (hn:l.length≤1099511627776):OkG Tryz.prog 89 [.give (.sl .own 5 (l.map bL)),.view (.int .i64 i),.give (.sl .own 5 [bL m])] (.sl .own 5 ((l.take i++m::l.drop i).map bL)):=by
 have h:=aV4 (P:=Tryz.prog) (f:=89) (n:=l.length) (i:=i) (k:=5) (l:=l.map bL) (x:=bL m) (by simp) hi (by simp [List.all_map,pR]) (by simp [pR])
  (fun w b off c C e fz olds news vb voff vc Cv ev fzv hb hz hc hol h1o hfit hnc hmax hne hvb hzv hcv hnl h1n=>by
   by_cases hr:l.length+1≤c
   ·exact aLu w b off l.length c i vb voff vc C Cv e ev fz fzv olds news hi hr hb hz hc hol h1o hfit hmax hne hvb hzv hcv hnl h1n
   ·exact aM6 w b off l.length c i vb voff vc C Cv e ev fz fzv olds news hi (by omega) hn hb hz hc hol h1o hfit hnc hmax hne hvb hzv hcv hnl h1n)
 rw [←List.map_take,←List.map_drop,List.append_assoc] at h
 simpa using h
theorem aOy [aB Tryz.prog] (l:List bN) (m:bN) (hn:l.length≤1099511627776):OkG Tryz.prog 89 [.give (.sl .own 5 (l.map bL)),.view (.int .i64 l.length),.give (.sl .own 5 [bL m])] (.sl .own 5 ((l++[m]).map bL)):=by
 have h:=aNo (P:=Tryz.prog) (f:=89) (n:=l.length) (k:=5) (l:=l.map bL) (x:=bL m) (by simp) (by simp [List.all_map,pR]) (by simp [pR])
  (fun w base bb c olds news vb voff vc hol hnc hmax hcv hnl h1n hor=>by
   obtain ⟨inf,hinf,hq⟩:=Option.map_eq_some_iff.1 (show (Tryz.prog.info? 55).map (fun i=>(i.size,i.bytes))=some (5,64) by kernel_rfl)
   obtain ⟨hsz,hby⟩:=Prod.mk.inj hq
   obtain ⟨z,hz0,hzc⟩:=tC Tryz.zsz55 hinf
   have hmax2:c≤9223372036854775807:=hmax
   have holds:∀w',w'.heap=w.heap→(Builtin.firstCells inf.size l.length (.slice base l.length c)).run Tryz.prog w'= .ok olds.toArray w':=by
    intro w' hw'
    rcases hor with ⟨h0,h1⟩|⟨off,C,e,fz,rfl,hb,hz,hc,hfit⟩
    ·rw [h0] at hol⊢
     obtain rfl:=List.eq_nil_of_length_eq_zero (by simpa using hol)
     cases base with
     |none=>simp [Builtin.firstCells]
     |some a'=>simp [Builtin.firstCells,loadCells,loadCellsFrom]
    ·rw [hsz]
     exact iW hol (hc.heap hw')
   obtain ⟨hroom,hgrow⟩:=aFd (P:=Tryz.prog) (w:=w) (tS:=44) (xT:=44) (ty:=44) Tryz.underlying44 ⟨_,Tryz.underlying44,fun k h=>by cases h⟩ hinf hz0 (base:=base) (sLen:=l.length) (sCap:=c) (n:=1) (x:= .slice (some ⟨vb,voff,none⟩) 1 vc)
    (by simp [Builtin.lenOf]) (news:=news) (olds:=olds) (fun w' hw'=>by rw [hsz];exact iW (by omega) (hcv.heap hw')) holds (by rw [hby];omega) (by omega)
   by_cases hr:l.length+1≤c
   ·rcases hor with ⟨h0,h1⟩|⟨off,C,e,fz,rfl,hb,hz,hc,hfit⟩
    ·omega
    ·have hst:=lU (P:=Tryz.prog) (off:=off+l.length * 5) hb hz (by rw [hnl];have:=Nat.mul_le_mul_right 5 hr;omega) h1n
     have hrun:=hroom hr _ (by rw [hsz];simpa [addr_add] using hst)
     obtain ⟨C',hI⟩:=aKn (k:=5) hb hz hc hol hnl hr hfit hmax
     exact aAm w _ l.length c vb voff vc _ _ _ hnc hmax2 (fun h=>by cases h) (fun ty=>hrun) ⟨_,_,_,_,_,_,_,rfl,hI⟩
   ·have hrun:=hgrow (by omega)
    have hgc:=grownCap_ge w (l.length+1) c 55
    have hgm:grownCap w (l.length+1) c 55≤maxLen:=grownCap_le_maxLen _ _ _ _ (by simp [maxLen];omega)
    obtain ⟨C',hI⟩:=aLa (w:=w) (b:=bb) (n:=l.length) (k:=5) (cap:=grownCap w (l.length+1) c 55) (e:=55) (olds:=olds) (news:=news) (ROW:=olds.toArray++news.toArray++Builtin.zeroCells z.cells (grownCap w (l.length+1) c 55 - (l.length+1)))
     (fun j v hv=>by
      rw [show olds.toArray++news.toArray=(olds++news).toArray by simp,Array.getElem?_append_left (by simpa using (List.getElem?_eq_some_iff.1 hv).1)]
      simpa using hv)
     (by simp only [Array.size_append,List.size_toArray,size_zeroCells,hzc,hol,hnl];omega) hgc hgm
    exact aAm w _ l.length c vb voff vc _ _ _ hnc hmax2 (fun h=>by
     subst h
     rcases hor with ⟨h0,h1⟩|⟨off,C,e,fz,h,_⟩
     ·exact h0
     ·cases h) (fun ty=>hrun) ⟨_,_,_,_,_,_,_,rfl,hI⟩)
 simpa using h
theorem aH1 [aB Tryz.prog] (l:List bN) (m:bN) (i:Nat) (hi:i≤l.length) (hn:l.length≤1099511627776):OkG Tryz.prog 89 [.give (.sl .own 5 (l.map bL)),.view (.int .i64 i),.give (.sl .own 5 [bL m])] (.sl .own 5 ((l.take i++m::l.drop i).map bL)):=by
 by_cases h:i < l.length
 ·exact aSa l m i h hn
 ·obtain rfl:i=l.length:=by omega
  simpa using aOy l m hn
theorem aKj [aB Tryz.prog] (s t:Str):OkN Tryz.prog 172 [.str s,.str t] (.int .i64 (Lib.compareBytes s t)):=
 aM4 (fn:=Tryz.f172) (by kernel_rfl) (by decide+kernel) rfl (by decide+kernel) (by rfl) s t
theorem aD7 [aB Tryz.prog] (s t:Str):Ok Tryz.prog 155 [.str s,.str t] (.int .i64 (Lib.compareBytes s t)):=by
 refine ent Tryz.mix Tryz.func155 Tryz.ntmps155 ?_
 have W:=trivial
 have c0:=aKj s t
 repeat' first|refine st ?_|(refine nx ?_;first|refine se ?_|refine so ?_)|(refine cx ?_;refine sc (fun hc=>?_) (fun hc=>?_)<;>try exact hc.elim)|(refine lx ?_;refine sp (fun hc=>?_) (fun hc=>?_)<;>try exact hc.elim)|refine sx ?_ ?_|refine sy ?_ ?_|fail
 all_goals (try (refine ⟨.inr rfl,?_⟩;simp [Hands,Tryz.results155]))
theorem uS [aB Tryz.prog] (s t:Str):Ok Tryz.prog 127 [.str s,.str t] (.int .i64 (Lib.compareBytes s t)):=by
 refine ent Tryz.mix Tryz.func127 Tryz.ntmps127 ?_
 have W:=trivial
 have c0:=aD7 s t
 repeat' first|refine st ?_|(refine nx ?_;first|refine se ?_|refine so ?_)|(refine cx ?_;refine sc (fun hc=>?_) (fun hc=>?_)<;>try exact hc.elim)|(refine lx ?_;refine sp (fun hc=>?_) (fun hc=>?_)<;>try exact hc.elim)|refine sx ?_ ?_|refine sy ?_ ?_|fail
 all_goals (try (refine ⟨.inr rfl,?_⟩;simp [Hands,Tryz.results127]))
def cmpAddr (a b:aH):Int:=if Lib.compareBytes a.host b.host≠0 then Lib.compareBytes a.host b.host else Lib.compareBytes a.path b.path
theorem aA0 [aB Tryz.prog] (a b:aH):Ok Tryz.prog 88 [.agg (aL a),.agg (aL b)] (.int .i64 (cmpAddr a b)):=by
 have c1:=uS a.host b.host
 have c2:=uS a.path b.path
 unfold cmpAddr
 generalize Lib.compareBytes a.host b.host=x at *
 generalize Lib.compareBytes a.path b.path=y at *
 by_cases hx:x=0
 ·refine ent Tryz.mix Tryz.func88 Tryz.ntmps88 ?_
  have W:=hx
  repeat' first|refine st ?_|(refine nx ?_;first|refine se ?_|refine so ?_)|(refine cx ?_;refine sc (fun hc=>?_) (fun hc=>?_)<;>try exact hc.elim)|(refine lx ?_;refine sp (fun hc=>?_) (fun hc=>?_)<;>try exact hc.elim)|refine sx ?_ ?_|refine sy ?_ ?_|fail
  all_goals (try (refine ⟨.inr rfl,?_⟩;simp [Hands,Tryz.results88,hx]))
 ·refine ent Tryz.mix Tryz.func88 Tryz.ntmps88 ?_
  have W:=hx
  repeat' first|refine st ?_|(refine nx ?_;first|refine se ?_|refine so ?_)|(refine cx ?_;refine sc (fun hc=>?_) (fun hc=>?_)<;>try exact hc.elim)|(refine lx ?_;refine sp (fun hc=>?_) (fun hc=>?_)<;>try exact hc.elim)|refine sx ?_ ?_|refine sy ?_ ?_|fail
  all_goals (try (refine ⟨.inr rfl,?_⟩;simp [Hands,Tryz.results88,hx]))
theorem pQ:∀l:List UInt8,Op.bytesLess l l=false
 |[]=>rfl
 |x::l=>by simp [Op.bytesLess,pQ l,UInt8.lt_irrefl]
theorem xU (a b:aH):cmpAddr a b=if a=b then 0 else if (Op.bytesLess a.host b.host || (a.host == b.host&&Op.bytesLess a.path b.path))=true then -1 else 1:=by
 unfold cmpAddr
 obtain ⟨h1,p1⟩:=a
 obtain ⟨h2,p2⟩:=b
 simp only [aNx,aH.mk.injEq]
 by_cases e1:h1=h2
 ·subst e1
  by_cases e2:p1=p2
  ·simp [e2]
  ·have:=pQ h1
   simp [e2,this]
 ·cases hb:Op.bytesLess h1 h2<;>simp [e1,hb]
theorem aA1 [aB Tryz.prog] (a b:aH):Ok Tryz.prog 102 [.agg (aL a),.agg (aL b)] (.int .i64 (cmpAddr a b)):=by
 rw [xU]
 have c1:=kV a b
 by_cases he:a=b
 ·subst he
  simp only [aL,decide_true] at c1
  refine ent Tryz.mix Tryz.func102 Tryz.ntmps102 ?_
  have W:=trivial
  have c0:=c1
  repeat' first|refine st ?_|(refine nx ?_;first|refine se ?_|refine so ?_)|(refine cx ?_;refine sc (fun hc=>?_) (fun hc=>?_)<;>try exact hc.elim)|(refine lx ?_;refine sp (fun hc=>?_) (fun hc=>?_)<;>try exact hc.elim)|refine sx ?_ ?_|refine sy ?_ ?_|fail
  all_goals (try (refine ⟨.inr rfl,?_⟩;simp [Hands,Tryz.results102]))
 ·simp only [aL,he,decide_false] at c1
  simp only [he,if_false]
  cases h1:Op.bytesLess a.host b.host
  ·by_cases h2:a.host=b.host
   ·rw [h2] at c1
    have h0:=pQ b.host
    cases h3:Op.bytesLess a.path b.path
    ·refine ent Tryz.mix Tryz.func102 Tryz.ntmps102 ?_
     have W:=And.intro h0 (And.intro h1 (And.intro h2 h3))
     have c0:=c1
     repeat' first|refine st ?_|(refine nx ?_;first|refine se ?_|refine so ?_)|(refine cx ?_;refine sc (fun hc=>?_) (fun hc=>?_)<;>try exact hc.elim)|(refine lx ?_;refine sp (fun hc=>?_) (fun hc=>?_)<;>try exact hc.elim)|refine sx ?_ ?_|refine sy ?_ ?_|fail
     all_goals (try (refine ⟨.inr rfl,?_⟩;simp [Hands,Tryz.results102,h0,h1,h2,h3]))
    ·refine ent Tryz.mix Tryz.func102 Tryz.ntmps102 ?_
     have W:=And.intro h0 (And.intro h1 (And.intro h2 h3))
     have c0:=c1
     repeat' first|refine st ?_|(refine nx ?_;first|refine se ?_|refine so ?_)|(refine cx ?_;refine sc (fun hc=>?_) (fun hc=>?_)<;>try exact hc.elim)|(refine lx ?_;refine sp (fun hc=>?_) (fun hc=>?_)<;>try exact hc.elim)|refine sx ?_ ?_|refine sy ?_ ?_|fail
     all_goals (try (refine ⟨.inr rfl,?_⟩;simp [Hands,Tryz.results102,h0,h1,h2,h3]))
   ·refine ent Tryz.mix Tryz.func102 Tryz.ntmps102 ?_
    have W:=And.intro h1 h2
    have c0:=c1
    repeat' first|refine st ?_|(refine nx ?_;first|refine se ?_|refine so ?_)|(refine cx ?_;refine sc (fun hc=>?_) (fun hc=>?_)<;>try exact hc.elim)|(refine lx ?_;refine sp (fun hc=>?_) (fun hc=>?_)<;>try exact hc.elim)|refine sx ?_ ?_|refine sy ?_ ?_|fail
    all_goals (try (refine ⟨.inr rfl,?_⟩;simp [Hands,Tryz.results102,h1,h2]))
  ·refine ent Tryz.mix Tryz.func102 Tryz.ntmps102 ?_
   have W:=h1
   have c0:=c1
   repeat' first|refine st ?_|(refine nx ?_;first|refine se ?_|refine so ?_)|(refine cx ?_;refine sc (fun hc=>?_) (fun hc=>?_)<;>try exact hc.elim)|(refine lx ?_;refine sp (fun hc=>?_) (fun hc=>?_)<;>try exact hc.elim)|refine sx ?_ ?_|refine sy ?_ ?_|fail
   all_goals (try (refine ⟨.inr rfl,?_⟩;simp [Hands,Tryz.results102,h1]))
def eO (l:List bN) (a:aH):Nat:=(l.takeWhile fun m=>decide (cmpAddr m.to a < 0)).length
theorem vQ {a:aH}:∀{l:List bN} {k:Nat},k≤l.length→(∀x∈l.take k,cmpAddr x.to a < 0)→(∀m,l[k]? =some m→¬cmpAddr m.to a < 0)→eO l a=k
 |[],k,h,_,_=>by simp at h;subst h;rfl
 |m::l,0,_,_,h=>by simp [eO,h m rfl]
 |m::l,k+1,h0,h1,h2=>by
  have ih:=vQ (a:=a) (l:=l) (k:=k) (by simpa using h0) (fun x hx=>h1 x (by simp [hx])) (fun m hm=>h2 m (by simpa using hm))
  have:=h1 m (by simp)
  simp only [eO,List.takeWhile_cons,decide_eq_true this,List.length_cons] at ih⊢
  simpa using ih
def lY (p:aY) (a:aH):bN:=if dZ p.policy ⟨5,a,p.addr.host,[]⟩=1 then ⟨a,false,0,[]⟩ else ⟨a,true,2,[]⟩
def kS (p:aY) (a:aH) (k:Nat):List bN:=p.mods.take k++lY p a::p.mods.drop k
def dB (p:aY) (a:aH):aY:=
 match p.mods[eO p.mods a]? with
 |some m=>if m.to=a then p else {p with mods:=kS p a (eO p.mods a)}
 |none=>{p with mods:=kS p a (eO p.mods a)}
end Go.Proofs.YtajppdidkjbmkaaGreatDoor
