/- Proved here: steps towards the statement of this claim. No condition. -/
import Derived.Test.YtlnblmmohpcceaaGreatDoorZQD1
import Derived.Test.YtlnblmmohpcceaaGreatDoorZYShelf2
import Derived.Test.YtlnblmmohpcceaaGreatDoorZF7
set_option linter.all false
set_option maxRecDepth 4000
set_option maxHeartbeats 4000000
namespace Go.Proofs.YtlnblmmohpcceaaGreatDoor
open Go.Aw Proofs.Tryz List IntKind
def Kl (s:bC):AV:=match xB s with|some v=> .gV [.int .i64 v,.bool true]|none=> .gV [.int .i64 0,.bool false]
theorem qY {s:bC} (h:xB s=none):Kl s= .gV [.int .i64 0,.bool false]:=by rw [Kl,h]
theorem BQ {s:bC} {v:Int} (h:xB s=some v):Kl s= .gV [.int .i64 v,.bool true]:=by rw [Kl,h]
theorem Rh {s:bC} (h:¬(1<=s.length/\s.length<=13)):xB s=none:=by
 cases hp:xB s with
 |none=>rfl
 |some v=>
  obtain ⟨m,_,_,hs,hl,_⟩:=DV hp
  have:=GD m
  rw [<-hs] at this
  exact absurd ⟨by have:=length_pos_iff.2 this;omega,hl⟩ h
theorem VA {s:bC} {k:Nat} (hk:k < s.length) (h:¬(48<=s[k].toNat/\s[k].toNat<=57)):xB s=none:=by
 cases hp:xB s with
 |none=>rfl
 |some v=>
  obtain ⟨m,_,_,hs,hl,hd⟩:=DV hp
  have hd':Lib.decFrom 0 s=some m:=by
   unfold Lib.decNat at hd;split at hd
   ·cases hd
   ·exact hd
  obtain ⟨d,h2⟩:=Lib.digit_of_decFrom s 0 m hd' k s[k] (getElem?_eq_getElem hk)
  unfold Lib.digitVal at h2
  rw [if_neg h] at h2;cases h2
theorem J9 {s:bC} {m:Nat} (h0:s≠[]) (hl:s.length<=13) (h:Lib.decFrom 0 s=some m):xB s=if m<=1000000000000/\Lib.decDigits m=s then some (m:Int) else none:=by
 have:Lib.decNat s=some m:=by unfold Lib.decNat;rw [if_neg (by simpa using h0)];exact h
 simp [xB,this,hl]
theorem K3 (m:Nat):Lib.itoa (m:Int)=Lib.decDigits m:=by
 unfold Lib.itoa
 rw [if_neg (by omega)];rfl
theorem KM [aD prog] [fV prog] (s:bC) (hl:s.length<=1099511627776):Ok prog 265 [.str s] (Kl s):=by
 have c1:=iA (s.length:Int) 1 13
 by_cases h1:1<=s.length/\s.length<=13
 ·rw [show (decide ((1:Int)<=(s.length:Int))&&decide ((s.length:Int)<=13))=true by simp;omega] at c1
  have h0:s≠[]:=by intro e;rw [e] at h1;simp at h1
  refine bR aAc func265 ntmps265 ?_
  have W:=trivial
  repeat' first|refine we ?_|(refine sq ?_ ?_<;>intro hc<;>try exact hc.elim)|fail
  refine aJ (ι:={p:Nat×Nat // p.1<=s.length/\Lib.decFrom 0 (s.take p.1)=some p.2}) (fun t o i=>⟨aZ t [(4,.int .i64 (i.1.2:Int)),(5,.int .i64 (i.1.1:Int))],o⟩)
   (fun i=>s.length - i.1.1) ⟨(0,0),by simp,by simp [Lib.decFrom]⟩ (aI (by simp) (by simp)) ?_
  rintro ⟨⟨k,m⟩,⟨hk,hi⟩⟩ K1 hK1
  simp only [aZ,set_cons_succ,set_cons_zero] at hK1 hk hi⊢
  have hk1:i64.wrap ((k:Int)+1)=((k+1:Nat):Int):=by rw [wrap64]<;>omega
  have aUd:m < 10000000000000:=by
   have h2:=UU hi
   have h3:(10:Nat) ^ (s.take k).length<=10 ^ 13:=Nat.pow_le_pow_right (by decide) (by simp;omega)
   omega
  by_cases hlt:k < s.length
  ·have hg:=getElem?_eq_getElem hlt
   have c2:=iA (s[k].toNat:Int) 48 57
   have hu:s[k].toNat < 256:=s[k].toNat_lt
   by_cases hd:48<=s[k].toNat/\s[k].toNat<=57
   ·have hb:(decide ((48:Int)<=(s[k].toNat:Int))&&decide ((s[k].toNat:Int)<=57))=true:=by simp;omega
    rw [hb] at c2
    have hw1:IntKind.u8.wrap ((s[k].toNat:Int) - 48)=((s[k].toNat - 48:Nat):Int):=by rw [D7]<;>omega
    have hw2:i64.wrap ((s[k].toNat - 48:Nat):Int)=((s[k].toNat - 48:Nat):Int):=by rw [wrap64]<;>omega
    have hw3:i64.wrap (10 * (m:Int))=((10 * m:Nat):Int):=by rw [wrap64]<;>omega
    have hw4:i64.wrap (((10 * m:Nat):Int)+((s[k].toNat - 48:Nat):Int))=((m * 10+(s[k].toNat - 48):Nat):Int):=by rw [wrap64]<;>omega
    have hw5:i64.wrap (s[k].toNat:Int)=(s[k].toNat:Int):=by rw [wrap64]<;>omega
    have hn:=Lib.decFrom_take s k 0 m s[k] _ hi hg (show Lib.digitVal s[k]=some (s[k].toNat - 48) by unfold Lib.digitVal;rw [if_pos hd])
    have W:=aA hk1 (aA hg (aA hlt (aA hw1 (aA hw2 (aA hw3 (aA hw4 hw5))))))
    repeat' first|refine we ?_|(refine sq ?_ ?_<;>intro hc<;>try exact hc.elim)|fail
    exact hK1 _ ⟨(k+1,m * 10+(s[k].toNat - 48)),by simp only;omega,hn⟩ (aI (by simp) (by simp;try omega)) (by simp only;omega)
   ·have hb:(decide ((48:Int)<=(s[k].toNat:Int))&&decide ((s[k].toNat:Int)<=57))=false:=by
     simp only [Bool.and_eq_false_iff,decide_eq_false_iff_not];omega
    rw [hb] at c2
    have hw5:i64.wrap (s[k].toNat:Int)=(s[k].toNat:Int):=by rw [wrap64]<;>omega
    rw [qY (VA hlt hd)] at *
    have W:=aA hk1 (aA hg (aA hlt hw5))
    repeat' first|refine we ?_|(refine sq ?_ ?_<;>intro hc<;>try exact hc.elim)|fail
    all_goals try(refine ⟨.inr rfl,?_⟩;simp [aB,results265])
  ·have hke:k=s.length:=by omega
   subst hke
   rw [take_length] at hi
   have hp:=J9 h0 h1.2 hi
   have c3:=eT (m:Int) (by omega)
   rw [K3] at c3
   by_cases hm:m<=1000000000000
   ·by_cases he:Lib.decDigits m=s
    ·rw [if_pos ⟨hm,he⟩] at hp
     rw [BQ hp] at *
     have hm':¬(1000000000000:Int) < (m:Int):=by omega
     have W:=aA hm' he
     repeat' first|refine we ?_|(refine sq ?_ ?_<;>intro hc<;>try exact hc.elim)|fail
     all_goals try(refine ⟨.inr rfl,?_⟩;simp [aB,results265])
    ·rw [if_neg (fun h=>he h.2)] at hp
     rw [qY hp] at *
     have hm':¬(1000000000000:Int) < (m:Int):=by omega
     have W:=aA hm' he
     repeat' first|refine we ?_|(refine sq ?_ ?_<;>intro hc<;>try exact hc.elim)|fail
     all_goals first
      |exact absurd ‹Lib.decDigits m=s› he
      |skip
     all_goals try(refine ⟨.inr rfl,?_⟩;simp [aB,results265])
   ·rw [if_neg (fun h=>hm h.1)] at hp
    rw [qY hp] at *
    have hm':(1000000000000:Int) < (m:Int):=by omega
    have W:=hm'
    repeat' first|refine we ?_|(refine sq ?_ ?_<;>intro hc<;>try exact hc.elim)|fail
    all_goals try(refine ⟨.inr rfl,?_⟩;simp [aB,results265])
 ·rw [show (decide ((1:Int)<=(s.length:Int))&&decide ((s.length:Int)<=13))=false by simp only [Bool.and_eq_false_iff,decide_eq_false_iff_not];omega] at c1
  rw [qY (Rh h1)]
  refine bR aAc func265 ntmps265 ?_
  have W:=trivial
  repeat' first|refine we ?_|(refine sq ?_ ?_<;>intro hc<;>try exact hc.elim)|fail
  all_goals try(refine ⟨.inr rfl,?_⟩;simp [aB,results265])
end Go.Proofs.YtlnblmmohpcceaaGreatDoor

set_option maxRecDepth 100000
set_option maxHeartbeats 4000000
namespace Go.Proofs.YtlnblmmohpcceaaGreatDoor
open Go.Aw Go.Shelf Go.RowKit Proofs.Tryz List IntKind
theorem K4 {w:World} {E:Env} {a:bC} {vs:List Value} {fp:List Nat} (h:Rc w E [.str a] vs fp):vs=[.string ⟨a.toArray⟩]:=by
 match vs,h with
 |[],h=>simp [Rc] at h
 |[x],h=>
  simp only [Rc,R] at h
  obtain ⟨_,_,h1,_,_⟩:=h
  rw [h1.1]
 |_::_::_,h=>simp [Rc] at h
theorem Ri [aD prog] [fV prog] (v:Int) (h1: -9223372036854775808<=v/\v<=9223372036854775807) (w:World) (hg:aD.holds prog w):
  Calls prog 290 #[.int .i64 v] w fun e w'=>e= .returned (.string ⟨(Lib.itoa v).toArray⟩)/\Below w.heap.size w w':=by
 refine (eQ v h1 w [.int .i64 v] hg (by simp [Rc,R])).mono fun e w' h=> ?_
 obtain ⟨x,fp,he,hr,_,_,h3,h4,h5⟩:=h
 simp only [R] at hr
 rw [hr.1] at he
 exact ⟨he,⟨h5.os,h5.tape,h5.output,h3,h4⟩⟩
theorem KN [aD prog] [fV prog] [qF prog] (s:bC) (hl:s.length<=1099511627776):Ok prog 293 [.str s] (Kl s):=by
 intro w vs hg h
 obtain rfl:=K4 h
 have fin:∀{e:Ending} {w':World} {n:Int} {b:Bool},Kl s= .gV [.int .i64 n,.bool b]->e= .returned (.tuple #[.int .i64 n,.bool b])->Below w.heap.size w w'->∃v fp,e= .returned v/\R w' (EY w.heap.size w' fp) (Kl s) v fp/\fp.Nodup/\
   (∀b∈fp,w.heap.size<=b/\b < w'.heap.size)/\w.heap.size<=w'.heap.size/\(∀b,b < w.heap.size->w'.heap[b]? =w.heap[b]?)/\lU w w':=
  fun hp he hb=>⟨_,[],he,by rw [hp];simp [R,Rc],nodup_nil,by simp,hb.size,hb.block,BJ hb⟩
 have A:=XN Tryz.LaysCx172 s (by omega) w hg
 go_enter func293,ntmps293
 go_wp2_with (go_at_call 312;refine A.mono ?_)
 rintro e w1 ⟨hA,hb⟩
 clear A
 have hg1:=aD.RQ w w1 hg fun b h=>hb.block b (Nat.lt_of_lt_of_le h (aD.LP w hg))
 rcases hA with ⟨v,hv,rfl⟩|⟨hn,v,t,p,rfl⟩
 ·rcases QK s with ⟨v',hv',h0,h1,hi,hp⟩|⟨hp,hall⟩
  ·obtain rfl:v=v':=by rw [hv] at hv';exact Lib.NumEnd.ok.inj hv'
   have d0:decide (v < 0)=false:=by simpa using h0
   have d1:decide (1000000000000 < v)=false:=by simpa using h1
   have C:=Ri v (by omega) w1 hg1
   rw [hi] at C
   have F:= @fin
   clear hv hv' h0 h1 hi fin
   go_wp2_with (go_at_call 290;refine C.mono ?_)
   rintro e w2 ⟨rfl,hb2⟩
   clear C
   go_wp2
   go_ret2
   exact F (BQ hp) rfl (hb.trans (hb2.mono hb.size))
  ·have hr:=qY hp
   have bd:=Lib.atoiAll_bounds hv
   by_cases h0:v < 0
   ·have d0:decide (v < 0)=true:=by simpa using h0
    clear hv h0 hall bd
    go_wp2
    go_ret2
    exact fin hr rfl hb
   by_cases h1:1000000000000 < v
   ·have d0:decide (v < 0)=false:=by simpa using h0
    have d1:decide (1000000000000 < v)=true:=by simpa using h1
    clear hv h0 h1 hall bd
    go_wp2
    go_ret2
    exact fin hr rfl hb
   ·have hi:Lib.itoa v≠s:=by
     rcases hall v hv with h|h|h
     ·exact absurd h h0
     ·exact absurd h h1
     ·exact h
    have d0:decide (v < 0)=false:=by simpa using h0
    have d1:decide (1000000000000 < v)=false:=by simpa using h1
    have C:=Ri v (by omega) w1 hg1
    generalize Lib.itoa v=x at C hi
    have d2:(x == s)=false:=by simpa using hi
    have d3:(x != s)=true:=by simpa using hi
    clear hv h0 h1 hall bd
    go_wp2_with (go_at_call 290;refine C.mono ?_)
    rintro e w2 ⟨rfl,hb2⟩
    clear C
    go_wp2
    go_ret2
    exact fin hr rfl (hb.trans (hb2.mono hb.size))
 ·have hp:xB s=none:=by
   rcases QK s with ⟨v',hv',_⟩|⟨hp,_⟩
   ·exact absurd hv' (hn _)
   ·exact hp
  have hr:=qY hp
  clear hn
  go_wp2
  go_ret2
  exact fin hr rfl hb
end Go.Proofs.YtlnblmmohpcceaaGreatDoor

set_option maxRecDepth 4000
set_option maxHeartbeats 400000
namespace Go.Proofs.YtlnblmmohpcceaaGreatDoor
open Go.Aw Proofs.Tryz List IntKind
theorem jE [aD prog] (l:List iU) (n:bC) (hl:l.length<=1099511627776):Ok prog 236 [.sl .view 2 (l.map fQ),.str n] (.gV [.str (aQ l n).1,.bool (aQ l n).2]):=by
 refine bR aAc func236 ntmps236 ?_
 have W:=trivial
 repeat' first|refine wl ?_|(refine sq ?_ ?_<;>intro hc<;>try exact hc.elim)|fail
 refine aJ (ι:={k:Nat // k<=l.length/\∀x∈l.take k,mQ n x=false}) (fun t o i=>⟨aZ t [(6,.int .i64 i.1)],o⟩)
  (fun i=>l.length - i.1) ⟨0,by simp,by simp⟩ (aI (by simp) (by simp)) ?_
 rintro ⟨k,hk,hi⟩ K1 hK1
 simp only [aZ,set_cons_succ,set_cons_zero] at hK1⊢
 have hk1:i64.wrap ((k:Int)+1)=((k+1:Nat):Int):=by rw [wrap64]<;>omega
 by_cases hlt:k < l.length
 ·have hg:=getElem?_eq_getElem hlt
  have W:=aA hk1 (aA hg hlt)
  repeat' first|refine wl ?_|(refine sq ?_ ?_<;>intro hc<;>try exact hc.elim)|fail
  ·all_goals try(refine ⟨.inr rfl,?_⟩;simp [aB,results236])
   rw [Ka hlt (by simpa [mQ] using hc) hi]
   simp
  ·exact hK1 _ ⟨k+1,by omega,dS hlt hi (by simpa [mQ] using hc)⟩ (aI (by simp) (by simp)) (by simp only;omega)
 ·have W:=hk1
  repeat' first|refine wl ?_|(refine sq ?_ ?_<;>intro hc<;>try exact hc.elim)|fail
  all_goals try(refine ⟨.inr rfl,?_⟩;simp [aB,results236])
  rw [Ez (lW (by omega) hi)]
  simp
theorem K5 [aD prog] (g:iU) (n:bC):Ok prog 256 [.agg (fQ g),.eH .view [.str n] 0] (.bool (mQ n g)):=by
 refine bR aAc func256 ntmps256 ?_
 have W:=trivial
 repeat' first|refine wl ?_|(refine sq ?_ ?_<;>intro hc<;>try exact hc.elim)|fail
 all_goals try(refine ⟨.inr rfl,?_⟩;simp [aB,results256])
 rw [Bool.eq_iff_iff]
 simp [mQ]
theorem Tt [aD prog] (l:List iU) (n:bC) (hl:l.length<=1099511627776):Ok prog 255 [.sl .view 2 (l.map fQ),.fn 256 [.eH .view [.str n] 0]] (.int .i64 (BN (mQ n) l)):=by
 refine bR aAc func255 ntmps255 ?_
 have W:=trivial
 repeat' first|refine wl ?_|(refine sq ?_ ?_<;>intro hc<;>try exact hc.elim)|fail
 refine aJ (ι:={k:Nat // k<=l.length/\∀x∈l.take k,mQ n x=false}) (fun t o i=>⟨aZ t [(8,.int .i64 i.1),(5,.undef)],o⟩)
  (fun i=>l.length - i.1) ⟨0,by simp,by simp⟩ (aI (by simp) (by simp)) ?_
 rintro ⟨k,hk,hi⟩ K1 hK1
 simp only [aZ,set_cons_succ,set_cons_zero] at hK1⊢
 have hk1:i64.wrap ((k:Int)+1)=((k+1:Nat):Int):=by rw [wrap64]<;>omega
 by_cases hlt:k < l.length
 ·have hg:=getElem?_eq_getElem hlt
  have W:=aA hk1 (aA hg hlt)
  have c0:=K5 l[k] n
  repeat' first|refine wl ?_|(refine sq ?_ ?_<;>intro hc<;>try exact hc.elim)|fail
  ·all_goals try(refine ⟨.inr rfl,?_⟩;simp [aB,results255])
   rw [Eb hlt (by simpa using hc) hi]
  ·exact hK1 _ ⟨k+1,by omega,dS hlt hi (by simpa using hc)⟩ (aI (by simp) (by simp)) (by simp only;omega)
 ·have W:=hk1
  repeat' first|refine wl ?_|(refine sq ?_ ?_<;>intro hc<;>try exact hc.elim)|fail
  all_goals try(refine ⟨.inr rfl,?_⟩;simp [aB,results255])
  rw [vH (lW (by omega) hi)]
theorem aDn {α:Type} (f:α->Bool) (l:List α) (h:l.findIdx f < l.length):BN f l=(l.findIdx f:Nat):=by
 unfold BN
 rw [if_pos]
 exact any_eq_true.2 ⟨_,getElem_mem h,findIdx_getElem (w:=h)⟩
theorem aDo {α:Type} (f:α->Bool) (l:List α) (h:¬l.findIdx f < l.length):BN f l= -1:=by
 refine vH fun x hx=> ?_
 have he:l.findIdx f=l.length:=by have:=findIdx_le_length (p:=f) (xs:=l);omega
 have:=findIdx_eq_length.1 he x hx
 simpa using this
theorem VB (l:List iU) (n:bC) (h:l.findIdx (mQ n) < l.length):aQ l n=(l[l.findIdx (mQ n)].value,true):=by
 refine Ka h (findIdx_getElem (w:=h)) ?_
 intro x hx
 obtain ⟨i,hi,rfl⟩:=getElem_of_mem hx
 have hi':i < l.findIdx (mQ n):=by have:=hi;simp at this;omega
 rw [getElem_take]
 have:=not_of_lt_findIdx (p:=(mQ n)) (xs:=l) hi'
 simpa using this
theorem VC (l:List iU) (n:bC) (h:¬l.findIdx (mQ n) < l.length):aQ l n=([],false):=by
 refine Ez fun x hx=> ?_
 have he:l.findIdx (mQ n)=l.length:=by have:=findIdx_le_length (p:=mQ n) (xs:=l);omega
 have:=findIdx_eq_length.1 he x hx
 simpa using this
theorem kH [aD prog] (l:List iU) (n:bC) (hl:l.length<=1099511627776):Ok prog 199 [.sl .view 2 (l.map fQ),.str n] (.gV [.str (aQ l n).1,.bool (aQ l n).2]):=by
 have hF:=Tt l n hl
 by_cases h:l.findIdx (mQ n) < l.length
 ·rw [aDn _ _ h] at hF
  rw [VB _ _ h]
  generalize hk:l.findIdx (mQ n)=k at *
  have hg:=getElem?_eq_getElem h
  refine bR aAc func199 ntmps199 ?_
  have W:=hg
  have V:=h
  have c0:=hF
  repeat' first|refine wl ?_|(refine sq ?_ ?_<;>intro hc<;>try exact hc.elim)|fail
  all_goals try(refine ⟨.inr rfl,?_⟩;simp [aB,results199])
  all_goals simp
 ·rw [aDo _ _ h] at hF
  rw [VC _ _ h]
  refine bR aAc func199 ntmps199 ?_
  have W:=trivial
  have c0:=hF
  repeat' first|refine wl ?_|(refine sq ?_ ?_<;>intro hc<;>try exact hc.elim)|fail
  all_goals try(refine ⟨.inr rfl,?_⟩;simp [aB,results199])
  all_goals simp
theorem Fx [aD prog] (s:bC) (c:UInt8):OkN prog 252 [.str s,.int .u8 c.toNat] (.int .i64 (UL c s)):=
 Pv (fn:=f252) (by kernel_rfl) (by decide+kernel) rfl (by decide+kernel) (by rfl) s c
end Go.Proofs.YtlnblmmohpcceaaGreatDoor
