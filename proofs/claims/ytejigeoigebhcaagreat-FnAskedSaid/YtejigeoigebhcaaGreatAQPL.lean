/-
  Proved here: steps towards the statement of this claim, text QPL.
  No condition beyond what each statement spells out.
-/
import Derived.Test.YtejigeoigebhcaaGreatAF4
import Derived.Test.YtejigeoigebhcaaGreatAI1
import Derived.Test.YtejigeoigebhcaaGreatAF8
import Derived.Test.YtejigeoigebhcaaGreatAF5
set_option linter.all false
set_option maxRecDepth 100000
set_option maxHeartbeats 4000000
namespace Go.Proofs.YtejigeoigebhcaaGreat
open Go.Aw
theorem tJ {α:Type} (f:α→Nat):∀a b:List α,aZ f (a++b)=aZ f a+aZ f b
 |[],b=>by simp [aZ]
 |x::xs,b=>by simp only [List.cons_append,aZ,tJ f xs b];omega
theorem aLu [aB Tryz.prog] (l:List bT) (m:bT) (i:Nat) (hi:i < l.length) (hn:l.length≤1099511627776):OkG Tryz.prog 43 [.give (.sl .own 5 (l.map bL)),.view (.int .i64 i),.give (.sl .own 5 [bL m])] (.sl .own 5 ((l.take i++m::l.drop i).map bL)):=by
 have h:=aOr (P:=Tryz.prog) (f:=43) (n:=l.length) (i:=i) (k:=5) (l:=l.map bL) (x:=bL m) (by simp) hi (by simp [List.all_map,mX]) (by simp [mX])
  (fun w b off c C e fz olds news vb voff vc Cv ev fzv hb hz hc hol h1o hfit hnc hmax hne hvb hzv hcv hnl h1n=>by
   by_cases hr:l.length+1≤c
   ·exact aF0 w b off l.length c i vb voff vc C Cv e ev fz fzv olds news hi hr hb hz hc hol h1o hfit hmax hne hvb hzv hcv hnl h1n
   ·exact aHa w b off l.length c i vb voff vc C Cv e ev fz fzv olds news hi (by omega) hn hb hz hc hol h1o hfit hnc hmax hne hvb hzv hcv hnl h1n)
 rw [←List.map_take,←List.map_drop,List.append_assoc] at h
 simpa using h
theorem aJj [aB Tryz.prog] (l:List bT) (m:bT) (hn:l.length≤1099511627776):OkG Tryz.prog 43 [.give (.sl .own 5 (l.map bL)),.view (.int .i64 l.length),.give (.sl .own 5 [bL m])] (.sl .own 5 ((l++[m]).map bL)):=by
 have h:=aH1 (P:=Tryz.prog) (f:=43) (n:=l.length) (k:=5) (l:=l.map bL) (x:=bL m) (by simp) (by simp [List.all_map,mX]) (by simp [mX])
  (fun w base bb c olds news vb voff vc hol hnc hmax hcv hnl h1n hor=>by
   obtain ⟨inf,hinf,hq⟩:=Option.map_eq_some_iff.1 (show (Tryz.prog.info? 57).map (fun i=>(i.size,i.bytes))=some (5,64) by kernel_rfl)
   obtain ⟨hsz,hby⟩:=Prod.mk.inj hq
   obtain ⟨z,hz0,hzc⟩:=pO Tryz.zsz57 hinf
   have hmax2:c≤9223372036854775807:=hmax
   have holds:∀w',w'.heap=w.heap→(Builtin.firstCells inf.size l.length (.slice base l.length c)).run Tryz.prog w'= .ok olds.toArray w':=by
    intro w' hw'
    rcases hor with ⟨h0,h1⟩|⟨off,C,e,fz,rfl,hb,hz,hc,hfit⟩
    ·rw [h0] at hol⊢
     obtain rfl:=List.eq_nil_of_length_eq_zero (by simpa using hol)
     cases base with
     |none=>simp [Builtin.firstCells]
     |some a'=>simp [Builtin.firstCells,loadCells,loadCellsFrom]
    ·rw [hsz]
     exact gF hol (hc.heap hw')
   obtain ⟨hroom,hgrow⟩:=aBu (P:=Tryz.prog) (w:=w) (tS:=37) (xT:=37) (ty:=37) Tryz.underlying37 ⟨_,Tryz.underlying37,fun k h=>by cases h⟩ hinf hz0 (base:=base) (sLen:=l.length) (sCap:=c) (n:=1) (x:= .slice (some ⟨vb,voff,none⟩) 1 vc)
    (by simp [Builtin.lenOf]) (news:=news) (olds:=olds) (fun w' hw'=>by rw [hsz];exact gF (by omega) (hcv.heap hw')) holds (by rw [hby];omega) (by omega)
   by_cases hr:l.length+1≤c
   ·rcases hor with ⟨h0,h1⟩|⟨off,C,e,fz,rfl,hb,hz,hc,hfit⟩
    ·omega
    ·have hst:=jO (P:=Tryz.prog) (off:=off+l.length * 5) hb hz (by rw [hnl];have:=Nat.mul_le_mul_right 5 hr;omega) h1n
     have hrun:=hroom hr _ (by rw [hsz];simpa [addr_add] using hst)
     obtain ⟨C',hI⟩:=aF8 (k:=5) hb hz hc hol hnl hr hfit hmax
     exact wL w _ l.length c vb voff vc _ _ _ hnc hmax2 (fun h=>by cases h) (fun ty=>hrun) ⟨_,_,_,_,_,_,_,rfl,hI⟩
   ·have hrun:=hgrow (by omega)
    have hgc:=grownCap_ge w (l.length+1) c 57
    have hgm:grownCap w (l.length+1) c 57≤maxLen:=grownCap_le_maxLen _ _ _ _ (by simp [maxLen];omega)
    obtain ⟨C',hI⟩:=aGt (w:=w) (b:=bb) (n:=l.length) (k:=5) (cap:=grownCap w (l.length+1) c 57) (e:=57) (olds:=olds) (news:=news) (ROW:=olds.toArray++news.toArray++Builtin.zeroCells z.cells (grownCap w (l.length+1) c 57 - (l.length+1)))
     (fun j v hv=>by
      rw [show olds.toArray++news.toArray=(olds++news).toArray by simp,Array.getElem?_append_left (by simpa using (List.getElem?_eq_some_iff.1 hv).1)]
      simpa using hv)
     (by simp only [Array.size_append,List.size_toArray,size_zeroCells,hzc,hol,hnl];omega) hgc hgm
    exact wL w _ l.length c vb voff vc _ _ _ hnc hmax2 (fun h=>by
     subst h
     rcases hor with ⟨h0,h1⟩|⟨off,C,e,fz,h,_⟩
     ·exact h0
     ·cases h) (fun ty=>hrun) ⟨_,_,_,_,_,_,_,rfl,hI⟩)
 simpa using h
theorem aD1 [aB Tryz.prog] (l:List bT) (m:bT) (i:Nat) (hi:i≤l.length) (hn:l.length≤1099511627776):OkG Tryz.prog 43 [.give (.sl .own 5 (l.map bL)),.view (.int .i64 i),.give (.sl .own 5 [bL m])] (.sl .own 5 ((l.take i++m::l.drop i).map bL)):=by
 by_cases h:i < l.length
 ·exact aLu l m i h hn
 ·obtain rfl:i=l.length:=by omega
  simpa using aJj l m hn
end Go.Proofs.YtejigeoigebhcaaGreat
