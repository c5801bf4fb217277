/-
  Proved here: steps towards the statement of this claim, text LFnScanned.
  No condition beyond what each statement spells out.
-/
import Derived.Test.YtaddkhdghlaalaaGreatDoorQDSC
import Derived.Test.YtaddkhdghlaalaaGreatDoorQGS0
import Derived.Test.YtaddkhdghlaalaaGreatDoorQR7
import Derived.Test.YtaddkhdghlaalaaGreatDoorF6
import Derived.Test.YtaddkhdghlaalaaGreatDoorF8
set_option linter.all false
set_option maxRecDepth 8000
set_option maxHeartbeats 8000000
namespace Go.Proofs.YtaddkhdghlaalaaGreatDoor
open Go.Aw
theorem bHw (a b:dA):EqA Tryz.prog 56 (bT a) (bT b) (decide (a=b)):=
 aZh (f:=6) (ss:=[.int .i64,.str,.str,.str,.str]) (by decide) (by kernel_rfl) (by kernel_rfl) (by kernel_rfl) (by kernel_rfl) (by simp [nP,yG]) (by simp [nP,yG]) (by obtain ⟨k,⟨t1,t2⟩,f,d⟩:=a;obtain ⟨k2,⟨u1,u2⟩,f2,d2⟩:=b;simp [and_assoc])
theorem aQg [aB Tryz.prog] [dB Tryz.prog] (d:List UInt8) (hwd:d.length≤9223372036854775807):Ok Tryz.prog 3 [.sl .view 1 (aT d)] (.bool true):=by
 have cb:=bHk d hwd
 have cq:=aEh d
 have cdr:=aFu d
 have ck:=aEd d
 refine ent Tryz.mix Tryz.func3 Tryz.ntmps3 ?_
 have W:=trivial
 repeat' first|refine st ?_|(refine nx ?_;refine so ?_)|(refine cx ?_;refine sc (fun hc=>?_) (fun hc=>?_)<;>try exact hc.elim)|(refine lx ?_;refine sp (fun hc=>?_) (fun hc=>?_)<;>try exact hc.elim)|refine sx ?_ ?_|refine sy ?_ ?_|fail
 ·all_goals (try (refine ⟨.inr rfl,?_⟩;simp [Hands,Tryz.results3]))
 ·refine ce (cq) ?_
  rintro _ ⟨p,rfl,hp⟩
  simp only [AS.called,AS.put,aL,aH,bS,bC,bR,bB,bV,bD,List.set_cons_succ,List.set_cons_zero,List.append_nil,List.nil_append,List.cons_append]
  have hsz:=hp.on.sz
  have hsl:=hp.on.sl
  have hho:=hp.ho
  have hml:p.mods.length≤8000:=by simp only [szL] at hsz;omega
  have hql:p.queue.length≤30000000:=by have h5:=hsz.1;simp only [aJ,szL] at h5;omega
  have hqm:p.queue.length * p.addr.host.length≤274877906944:=Nat.le_trans (Nat.mul_le_mul hql hho) (by decide)
  have c1:=(aJx p (by omega) hqm).vwas (r':= .sl .view 2 ((iC p).map aF)) (by simp [rt])
  have c2:=(aJ0 p (by omega) hqm).vwas (r':= .sl .view 2 ((iC p).map aF)) (by simp [rt])
  have hgl:=aUj p
  have sa:=aQ7 (iC p) (by omega)
  have hgg:=aUh p
  have csrt:=(aJt (iC p) (by omega) hgg.nd).vwas (r':= .sl .view 2 ((aAz (iC p)).map aF)) (by simp [rt])
  have hsrt:=aHe (iC p)
  have cask:=fun a=>yQ p a (by omega) (by omega)
  have cwr:=fun a=>aFq p a (by omega) (by omega)
  have hgh:=hgg.ho
  have hgn:=hgg.no
  have hLl:(iC p).length≤30000000:=by omega
  clear hgg hgl hqm
  generalize aAz (iC p)=L2 at *
  generalize iC p=L at *
  simp only [aG] at c1 c2⊢
  have W:=hsrt
  refine wl ?_
  clear c1 c2 sa csrt hsrt cq cb
  refine aR (ι:={i:Nat // i≤L.length}) (fun t o i=>⟨[.sl .view 1 (aT d),.undef,.bool false,.ptr 0 0 0 0,.sl .view 2 (L.map aF),.int .i64 (i.1:Int),.undef,.undef,.undef,.undef,.undef,.undef,.undef,.undef,.undef,.undef,.undef,.undef,.undef,.undef,.undef,.undef,.undef,.undef,.undef,.undef,.undef,.undef,.undef,.undef,.undef,.undef,.undef,.undef,.undef,.undef,.undef,.undef,.undef,.undef,.undef,.undef,.undef,.undef,.undef,.undef,.undef,.undef,.undef,.undef,.undef,.undef,.undef,.undef,.undef,.undef,.undef,.undef,.undef,.undef,.undef,.undef,.undef,.undef,.undef,.undef,.undef,.undef,.undef,.undef,.undef,.undef,.undef,.undef,.undef,.undef,.undef,.undef,.undef,.undef,.undef,.undef,.undef,.undef,.undef,.undef,.undef,.undef,.undef,.undef,.undef,.undef,.undef,.undef,.undef,.undef,.undef,.undef,.undef,.undef,.undef,.undef,.undef,.undef,.undef,.undef,.undef,.undef,.undef,.undef,.undef,.undef,.undef,.undef,.undef,.undef,.undef,.undef],[⟨true,true,22,0,[aG .view p]⟩]⟩)
   (fun i=>L.length - i.1) ⟨0,by simp⟩ (aN 1 (by simp [aG])) ?_
  rintro ⟨i,hi⟩ K1 hK1
  have hK2:=hK1
  simp only at hK1⊢
  clear hK1
  have hi1:IntKind.i64.wrap ((i:Int)+1)=((i+1:Nat):Int):=by rw [wrap64]<;>omega
  simp only [aG]
  by_cases hlt:i < L.length
  ·have hii:(i:Int) < (L.length:Int):=by omega
   obtain ⟨a,hg,hmem⟩:∃a,L[i]? =some a∧a∈L:=⟨_,List.getElem?_eq_getElem hlt,List.getElem_mem hlt⟩
   have hah:=hgh a hmem
   have han:=hgn a hmem
   have k1:=cask a
   have k2:=cwr a
   rw [han] at k1 k2
   simp only [Bool.not_false,Bool.and_true] at k2
   clear cask cwr hgh hgn hmem hlt han
   obtain ⟨ah,ap⟩:=a
   simp only at hah
   subst hah
   simp only [aG,aF] at k1 k2
   have W:=And.intro hii (And.intro hg hi1)
   refine wl ?_
   exact hK2 _ ⟨i+1,by omega⟩ (aN 1 (by simp [aG])) (by simp only;omega)
  ·have hii:¬(i:Int) < (L.length:Int):=by omega
   clear hK2 cask cwr hgh hgn
   have W:=hii
   refine wl ?_
   refine ce (cdr) ?_
   rintro _ ⟨s,b,rfl,hs,hb⟩
   simp only [AS.called,AS.put,aL,aH,bS,bC,bR,bB,bV,bD,List.set_cons_succ,List.set_cons_zero,List.append_nil,List.nil_append,List.cons_append]
   have m1:=(aLk s b (by omega) (by omega)).vwas (r':= .sl .view 5 ((bZ (gP s) b).map bT)) (by simp [rt])
   have m2:=(aL4 s b (by omega) (by omega)).vwas (r':= .sl .view 5 ((bZ (gP s) b).map bT)) (by simp [rt])
   have m3:=(xD s (by omega)).vwas (r':= .sl .view 4 ((gP s).map (bL .view))) (by simp [rt])
   have hle:=mO (gP s) b
   have hlei:((bZ (gP s) b).length:Int)≤((gP s).length:Int):=by omega
   generalize bZ (gP s) b=M at *
   generalize gP s=T at *
   clear hle
   refine bA ?_
   refine ce (ck) ?_
   rintro _ ⟨t,b2,rfl,htz,hb2⟩
   simp only [AS.called,AS.put,aL,aH,bS,bC,bR,bB,bV,bD,List.set_cons_succ,List.set_cons_zero,List.append_nil,List.nil_append,List.cons_append]
   have s1:=aBv t b2 (by omega)
   have s2:=aBa t b2 (by omega)
   generalize (iD t b2).1=r at *
   generalize (iD t b2).2=ok at *
   have hea:=bHw r r
   rw [decide_eq_true rfl] at hea
   simp only [bL,bT] at s1 s2 hea⊢
   have W:=hlei
   have c0:=hea
   repeat' first|refine st ?_|(refine nx ?_;refine so ?_)|(refine cx ?_;first|refine sT ?_|refine sF ?_)|fail
   exact aM Tryz.results3
end Go.Proofs.YtaddkhdghlaalaaGreatDoor
