/- Proved here: steps towards the statement of this claim. No condition. -/
import Derived.Test.YtlnblmmohpcceaaGreatDoorZQT1
set_option linter.all false
set_option maxRecDepth 4000
set_option maxHeartbeats 4000000
namespace Go.Proofs.YtlnblmmohpcceaaGreatDoor
open Go.Aw Proofs.Tryz List IntKind
theorem xM [aD prog] (s:bC) (c:UInt8):Ok prog 196 [.str s,.int .u8 c.toNat] (.int .i64 (UL c s)):=by
 have h1:=Fx s c
 refine bR aAc func196 ntmps196 ?_
 have W:=trivial
 repeat' first|refine wl ?_|(refine sq ?_ ?_<;>intro hc<;>try exact hc.elim)|fail
 all_goals try(refine ⟨.inr rfl,?_⟩;simp [aB,results196])
theorem KO [aD prog] (s:bC) (c:UInt8):Ok prog 284 [.str s,.str [c]] (.int .i64 (UL c s)):=by
 have h1:=xM s c
 refine bR aAc func284 ntmps284 ?_
 have W:=trivial
 repeat' first|refine wl ?_|(refine sq ?_ ?_<;>intro hc<;>try exact hc.elim)|fail
 all_goals try(refine ⟨.inr rfl,?_⟩;simp [aB,results284])
 all_goals (subst hc;simp [UL,yP])
theorem Yn [aD prog] (s:bC) (c:UInt8) (hl:s.length<=1099511627776):Ok prog 254 [.str s,.str [c]] (.gV [.str (s.take (gG c s)),.str (s.drop (gG c s+1)),.bool (decide (gG c s < s.length))]):=by
 have h1:=KO s c
 have hle:=qW c s
 by_cases h:gG c s < s.length
 ·have e:UL c s=gG c s:=if_pos h
  rw [e] at h1
  generalize gG c s=k at *
  refine bR aAc func254 ntmps254 ?_
  have W:=h
  repeat' first|refine wl ?_|(refine sq ?_ ?_<;>intro hc<;>try exact hc.elim)|fail
  all_goals try(refine ⟨.inr rfl,?_⟩;simp [aB,results254])
  all_goals simp_all
 ·have e:UL c s= -1:=if_neg h
  rw [e] at h1
  have e2:gG c s=s.length:=by omega
  rw [e2]
  refine bR aAc func254 ntmps254 ?_
  have W:=trivial
  repeat' first|refine wl ?_|(refine sq ?_ ?_<;>intro hc<;>try exact hc.elim)|fail
  all_goals try(refine ⟨.inr rfl,?_⟩;simp [aB,results254])
  all_goals simp
theorem vW [aD prog] (s:bC) (c:UInt8) (hl:s.length<=1099511627776):Ok prog 198 [.str s,.str [c]] (.gV [.str (s.take (gG c s)),.str (s.drop (gG c s+1)),.bool (decide (gG c s < s.length))]):=by
 have h1:=Yn s c hl
 refine bR aAc func198 ntmps198 ?_
 have W:=trivial
 repeat' first|refine wl ?_|(refine sq ?_ ?_<;>intro hc<;>try exact hc.elim)|fail
 all_goals try(refine ⟨.inr rfl,?_⟩;simp [aB,results198])
theorem aDp {c:UInt8} {n:Nat} (hn:n < 256) (h:(c.toNat:Int)=n):c=UInt8.ofNat n:=by
 have:c.toNat=n:=by omega
 rw [<-this];simp
theorem aDq {c:UInt8} {n:Nat} (hn:n < 256) (h:¬(c.toNat:Int)=n):c≠UInt8.ofNat n:=by
 rintro rfl
 apply h
 simp
 omega
theorem Ny {s b:bC} {k:Nat} (h:gG 47 s=k) (hk:k < s.length):addrOf s b=⟨s.take k,s.drop (k+1)⟩:=by
 subst h;exact if_pos hk
theorem Km {s b:bC} (h:gG 47 s=s.length):addrOf s b=⟨b,s⟩:=if_neg (by omega)
theorem vI [aD prog] (s b:bC) (hl:s.length+b.length<=1099511627776):Ok prog 219 [.str s,.str b] (.gV [.agg (aK (bQ s b).1),.bool (bQ s b).2]):=by
 simp only [bQ]
 refine bR aAc func219 ntmps219 ?_
 have W:=trivial
 repeat' first|refine wl ?_|(refine sq ?_ ?_<;>intro hc<;>try exact hc.elim)|fail
 refine aJ (ι:={k:Nat // k<=s.length/\∀x∈s.take k,x≠47}) (fun t o i=>⟨aZ t [(7,.int .i64 i.1)],o⟩)
  (fun i=>s.length - i.1) ⟨0,by simp,by simp⟩ (aI (by simp) (by simp)) ?_
 rintro ⟨k,hk,hi⟩ K1 hK1
 simp only [aZ,set_cons_succ,set_cons_zero] at hK1⊢
 have hk1:i64.wrap ((k:Int)+1)=((k+1:Nat):Int):=by rw [wrap64]<;>omega
 by_cases hlt:k < s.length
 ·have hg:=getElem?_eq_getElem hlt
  have W:=aA hk1 (aA hg hlt)
  repeat' first|refine wl ?_|(refine sq ?_ ?_<;>intro hc<;>try exact hc.elim)|fail
  ·have e:=Ny (b:=b) (XK hlt (aDp (by decide) hc) hi) hlt
   have h1:=vU ⟨s.take k,s.drop (k+1)⟩ (by simp [aV];omega)
   rw [e]
   simp only [aK] at h1
   have W:=trivial
   repeat' first|refine wl ?_|(refine sq ?_ ?_<;>intro hc<;>try exact hc.elim)|fail
   all_goals try(refine ⟨.inr rfl,?_⟩;simp [aB,results219,uI])
   all_goals simp_all [uI]
  ·exact hK1 _ ⟨k+1,by omega,dS hlt hi (aDq (by decide) hc)⟩ (aI (by simp) (by simp)) (by simp only;omega)
 ·have e:=Km (b:=b) (UK (lW (by omega) hi))
  have h1:=vU ⟨b,s⟩ (by simp [aV];omega)
  rw [e]
  simp only [aK] at h1
  have W:=hk1
  repeat' first|refine wl ?_|(refine sq ?_ ?_<;>intro hc<;>try exact hc.elim)|fail
  all_goals try(refine ⟨.inr rfl,?_⟩;simp [aB,results219,uI])
  all_goals simp_all [uI]
theorem vJ [aD prog] (s b:bC) (hl:s.length+b.length<=1099511627776):Ok prog 231 [.str s,.str b] (.gV [.agg (aK (bQ s b).1),.bool (bQ s b).2]):=by
 have hC:=vW s 47 (by omega)
 have hle:=qW 47 s
 simp only [bQ]
 by_cases h:gG 47 s < s.length
 ·rw [Ny rfl h]
  rw [decide_eq_true h] at hC
  generalize gG 47 s=k at *
  have h1:=vV ⟨s.take k,s.drop (k+1)⟩ (by simp [aV];omega)
  simp only [aK] at h1
  refine bR aAc func231 ntmps231 ?_
  have W:=trivial
  repeat' first|refine wl ?_|(refine sq ?_ ?_<;>intro hc<;>try exact hc.elim)|fail
  all_goals try(refine ⟨.inr rfl,?_⟩;simp [aB,results231,uI])
  all_goals simp_all [uI]
 ·have e2:gG 47 s=s.length:=by omega
  rw [Km e2]
  rw [decide_eq_false h] at hC
  have h1:=vV ⟨b,s⟩ (by simp [aV];omega)
  simp only [aK] at h1
  refine bR aAc func231 ntmps231 ?_
  have W:=trivial
  repeat' first|refine wl ?_|(refine sq ?_ ?_<;>intro hc<;>try exact hc.elim)|fail
  all_goals try(refine ⟨.inr rfl,?_⟩;simp [aB,results231,uI])
  all_goals simp_all [uI]
theorem kz {c:UInt8} {s:bC} {f i:Nat} (hf:f<=i) (hi:i < s.length) (hc:s[i]=c) (hn:∀x∈(s.take i).drop f,x≠c):eF c (s.drop f)=(s.take i).drop f::eF c (s.drop (i+1)):=by
 have e:s.drop f=(s.take i).drop f++c::s.drop (i+1):=by
  have h1:s=s.take i++s[i]::s.drop (i+1):=by simp
  conv=>lhs;rw [h1]
  rw [drop_append_of_le_length (by simp;omega),hc]
 rw [e,MN c _ _ hn]
theorem ll {c:UInt8} {s:bC} {f:Nat} (hn:∀x∈(s.take s.length).drop f,x≠c):eF c (s.drop f)=[(s.take s.length).drop f]:=by
 rw [take_length] at hn⊢
 exact CW c _ hn
theorem lq {c:UInt8} {s:bC} {f i:Nat} (hf:f<=i) (hi:i < s.length) (hc:s[i]≠c) (hn:∀x∈(s.take i).drop f,x≠c):∀x∈(s.take (i+1)).drop f,x≠c:=by
 rw [take_succ_eq_append_getElem hi,drop_append_of_le_length (by simp;omega)]
 intro x hx
 rcases mem_append.1 hx with h|h
 ·exact hn x h
 ·rw [mem_singleton.1 h];exact hc
theorem vK [aD prog] (s:bC) (c:UInt8) (hl:s.length<=1099511627776):Ok prog 136 [.str s,.int .u8 c.toNat] (.sl .own 1 ((eF c s).map fF)):=by
 refine bR aAc func136 ntmps136 ?_
 have W:=trivial
 repeat' first|refine wl ?_|(refine sq ?_ ?_<;>intro hc<;>try exact hc.elim)|fail
 refine aJ (ι:={q:Nat×Nat×List bC×Nat // q.1<=s.length+1/\q.2.1<=q.1/\q.2.2.1.length<=q.1/\1<=q.2.2.2/\(q.1<=s.length->eF c s=q.2.2.1++eF c (s.drop q.2.1)/\∀x∈(s.take q.1).drop q.2.1,x≠c)/\(q.1=s.length+1->q.2.2.1=eF c s)})
  (fun t o i=>⟨aZ t [(7,.int .i64 i.1.1),(6,.int .i64 i.1.2.1),(5,.obj 0 i.1.2.2.2)],[⟨true,false,1,i.1.2.2.2,i.1.2.2.1.map fF⟩]⟩)
  (fun i=>s.length+1 - i.1.1) ⟨(0,0,[],1),by simp,by simp,by simp,by simp,by simp,by simp⟩ (aI (by simp) (by simp)) ?_
 rintro ⟨⟨k,f,out,v⟩,hk,hf,ho,hv,hin,ER⟩ K1 hK1
 simp only at hk hf ho hv hin ER
 simp only [aZ,set_cons_succ,set_cons_zero] at hK1⊢
 have hk1:i64.wrap ((k:Int)+1)=((k+1:Nat):Int):=by rw [wrap64]<;>omega
 by_cases h1:k=s.length+1
 ·have e:=ER h1
  subst e
  subst h1
  have W:=hk1
  repeat' first|refine wl ?_|(refine sq ?_ ?_<;>intro hc<;>try exact hc.elim)|fail
  all_goals try(refine ⟨.inr rfl,?_⟩;simp [aB,results136])
 ·have hle:k<=s.length:=by omega
  obtain ⟨g1,g2⟩:=hin hle
  by_cases h2:k=s.length
  ·subst h2
   have e:=ll g2
   rw [e,take_length] at g1
   have W:=hk1
   repeat' first|refine wl ?_|(refine sq ?_ ?_<;>intro hc<;>try exact hc.elim)|fail
   exact hK1 _ ⟨(s.length+1,s.length+1,out++[s.drop f],v+1),by simp only;omega,by simp only;omega,by simp;omega,by simp only;omega,fun h=>by simp only at h;omega,fun _=>g1.symm⟩ (aS 1 (by simp) (by simp) (by simp) (by simp)) (by simp only;omega)
  ·have hlt:k < s.length:=by omega
   have hg:=getElem?_eq_getElem hlt
   have W:=aA hk1 (aA hg hlt)
   repeat' first|refine wl ?_|(refine sq ?_ ?_<;>intro hc<;>try exact hc.elim)|fail
   ·have OZ:s[k]=c:=UInt8.toNat_inj.1 (by omega)
    rw [kz hf hlt OZ g2] at g1
    exact hK1 _ ⟨(k+1,k+1,out++[(s.take k).drop f],v+1),by simp only;omega,by simp only;omega,by simp;omega,by simp only;omega,fun _=>⟨by rw [g1];simp,by simp⟩,fun h=>by simp only at h;omega⟩ (aS 1 (by simp) (by simp) (by simp) (by simp)) (by simp only;omega)
   ·have OZ:s[k]≠c:=fun h=>hc (by rw [h])
    exact hK1 _ ⟨(k+1,f,out,v),by simp only;omega,by simp only;omega,by simp only;omega,by simp only;omega,fun _=>⟨g1,lq hf hlt OZ g2⟩,fun h=>by simp only at h;omega⟩ (aS 1 (by simp) (by simp) (by simp) (by simp)) (by simp only;omega)
theorem aHa [aD prog] (a b:Int):Ok prog 220 [.int .i64 a,.int .i64 b] (.int .i64 (min a b)):=by
 by_cases h:b < a
 ·have hr:min a b=b:=by omega
  rw [hr]
  refine bR aAc func220 ntmps220 ?_
  have W:=h
  repeat' first|refine we ?_|(refine sq ?_ ?_<;>intro hc<;>try exact hc.elim)|fail
  all_goals try(refine ⟨.inr rfl,?_⟩;simp [aB,results220])
 ·have hr:min a b=a:=by omega
  rw [hr]
  refine bR aAc func220 ntmps220 ?_
  have W:=h
  repeat' first|refine we ?_|(refine sq ?_ ?_<;>intro hc<;>try exact hc.elim)|fail
  all_goals try(refine ⟨.inr rfl,?_⟩;simp [aB,results220])
theorem Fy [aD prog] (s:bC) (c:UInt8) (hl:s.length<=1099511627776):Ok prog 218 [.str s,.int .u8 c.toNat] (.int .i64 (gG c s:Nat)):=by
 refine bR aAc func218 ntmps218 ?_
 have W:=trivial
 repeat' first|refine we ?_|(refine sq ?_ ?_<;>intro hc<;>try exact hc.elim)|fail
 refine aJ (ι:={k:Nat // k<=s.length/\∀x∈s.take k,x≠c}) (fun t o i=>⟨aZ t [(5,.int .i64 i.1)],o⟩)
  (fun i=>s.length - i.1) ⟨0,by simp,by simp⟩ (aI (by simp) (by simp)) ?_
 rintro ⟨k,hk,hi⟩ K1 hK1
 simp only [aZ,set_cons_succ,set_cons_zero] at hK1⊢
 have hk1:i64.wrap ((k:Int)+1)=((k+1:Nat):Int):=by rw [wrap64]<;>omega
 by_cases hlt:k < s.length
 ·have hg:=getElem?_eq_getElem hlt
  have W:=aA hk1 (aA hg hlt)
  repeat' first|refine we ?_|(refine sq ?_ ?_<;>intro hc<;>try exact hc.elim)|fail
  ·have e:=XK hlt (UInt8.toNat_inj.1 (by omega)) hi
   rw [e]
   all_goals try(refine ⟨.inr rfl,?_⟩;simp [aB,results218])
  ·exact hK1 _ ⟨k+1,by omega,dS hlt hi (fun h=>hc (by rw [h]))⟩ (aI (by simp) (by simp)) (by simp only;omega)
 ·have e:=UK (lW (by omega) hi)
  rw [e]
  have W:=hk1
  repeat' first|refine we ?_|(refine sq ?_ ?_<;>intro hc<;>try exact hc.elim)|fail
  all_goals try(refine ⟨.inr rfl,?_⟩;simp [aB,results218])
def Cr (p s:bC):Bool:=decide (p.length<=s.length)&&(s.take p.length == p)
theorem Tv [aD prog] (s p:bC) (hl:s.length<=1099511627776) (hp:p.length<=1099511627776):Ok prog 247 [.str s,.str p] (.bool (Cr p s)):=by
 by_cases h:p.length<=s.length
 ·have hi:(p.length:Int)<=(s.length:Int):=by omega
  have hr:Cr p s=(s.take p.length == p):=by simp [Cr,h]
  rw [hr]
  refine bR aAc func247 ntmps247 ?_
  have W:=aA h hi
  repeat' first|refine we ?_|(refine sq ?_ ?_<;>intro hc<;>try exact hc.elim)|fail
  all_goals try(refine ⟨.inr rfl,?_⟩;simp [aB,results247])
 ·have hi:¬(p.length:Int)<=(s.length:Int):=by omega
  have hr:Cr p s=false:=by simp [Cr,h]
  rw [hr]
  refine bR aAc func247 ntmps247 ?_
  have W:=aA h hi
  repeat' first|refine we ?_|(refine sq ?_ ?_<;>intro hc<;>try exact hc.elim)|fail
  all_goals try(refine ⟨.inr rfl,?_⟩;simp [aB,results247])
theorem Tw {p s:bC} (h:Cr p s=true):p.length<=s.length:=by
 simp only [Cr,Bool.and_eq_true,decide_eq_true_eq] at h
 exact h.1
theorem PW [aD prog] (s p:bC) (hl:s.length<=1099511627776) (hp:p.length<=1099511627776):Ok prog 253 [.str s,.str p] (.gV [.str (if Cr p s=true then s.drop p.length else s),.bool (Cr p s)]):=by
 have c1:=Tv s p hl hp
 have h1:= @Tw p s
 generalize Cr p s=b at *
 cases b
 ·refine bR aAc func253 ntmps253 ?_
  have W:=trivial
  repeat' first|refine we ?_|(refine sq ?_ ?_<;>intro hc<;>try exact hc.elim)|fail
  all_goals try(refine ⟨.inr rfl,?_⟩;simp [aB,results253])
 ·have h2:=h1 rfl
  refine bR aAc func253 ntmps253 ?_
  have W:=h2
  repeat' first|refine we ?_|(refine sq ?_ ?_<;>intro hc<;>try exact hc.elim)|fail
  all_goals try(refine ⟨.inr rfl,?_⟩;simp [aB,results253])
theorem BR [aD prog] (s p:bC) (hl:s.length<=1099511627776) (hp:p.length<=1099511627776):Ok prog 197 [.str s,.str p] (.gV [.str (if Cr p s=true then s.drop p.length else s),.bool (Cr p s)]):=by
 have c1:=PW s p hl hp
 generalize (if Cr p s=true then s.drop p.length else s)=q at *
 generalize Cr p s=b at *
 refine bR aAc func197 ntmps197 ?_
 have W:=trivial
 repeat' first|refine we ?_|(refine sq ?_ ?_<;>intro hc<;>try exact hc.elim)|fail
 all_goals try(refine ⟨.inr rfl,?_⟩;simp [aB,results197])
def uH (c:UInt8):Bool:=(decide (97<=c.toNat)&&decide (c.toNat<=122)) || (decide (48<=c.toNat)&&decide (c.toNat<=57)) || decide (c.toNat=47)
def isValue (s:bC):Bool:=s.all uH&&(decide (1<=s.length)&&decide (s.length<=20))
theorem VG {s:bC} {k:Nat} (h:k < s.length) (hc:uH s[k]=false):isValue s=false:=by
 have:s.all uH=false:=by
  rw [all_eq_false]
  exact ⟨s[k],getElem_mem h,by simp [hc]⟩
 simp [isValue,this]
theorem Rl {s:bC} (h:∀x∈s,uH x=true):isValue s=(decide ((1:Int)<=s.length)&&decide ((s.length:Int)<=20)):=by
 have:s.all uH=true:=all_eq_true.2 h
 have h1:decide ((1:Int)<=s.length)=decide (1<=s.length):=by simp only [decide_eq_decide];omega
 have h2:decide ((s.length:Int)<=20)=decide (s.length<=20):=by simp only [decide_eq_decide];omega
 rw [isValue,this,h1,h2,Bool.true_and]
theorem yQ [aD prog] (s : bC) (hl : s.length <= 1099511627776) : Ok prog 258 [.str s] (.bool (isValue s)) := by
  have h1 := iA s.length 1 20
  refine bR aAc func258 ntmps258 ?_
  have W := trivial
  repeat' first|refine we ?_|(refine sq ?_ ?_<;>intro hc<;>try exact hc.elim)|fail
  refine aJ (ι := { k : Nat // k <= s.length /\ ∀ x ∈ s.take k, uH x = true }) (fun t o i => ⟨aZ t [(3, .int .i64 i.1)], o⟩)
    (fun i => s.length - i.1) ⟨0, by simp, by simp⟩ (aI (by simp) (by simp)) ?_
  rintro ⟨k, hk, hi⟩ K1 hK1
  simp only [aZ, set_cons_succ, set_cons_zero] at hK1 ⊢
  have hk1 : i64.wrap ((k : Int) + 1) = ((k + 1 : Nat) : Int) := by rw [wrap64] <;> omega
  by_cases hlt : k < s.length
  · have hg := getElem?_eq_getElem hlt
    have W := aA hk1 (aA hg hlt)
    repeat' first|refine we ?_|(refine sq ?_ ?_<;>intro hc<;>try exact hc.elim)|fail
    all_goals first
      | exact hK1 _ ⟨k + 1, by omega, dS hlt hi (by simp [uH]; omega)⟩ (aI (by simp) (by simp)) (by simp only; omega)
      | (rw [VG hlt (by simp [uH]; omega)]
         all_goals try(refine ⟨.inr rfl, ?_⟩; simp [aB, results258])
         done)
  · have W := hk1
    repeat' first|refine we ?_|(refine sq ?_ ?_<;>intro hc<;>try exact hc.elim)|fail
    all_goals try(refine ⟨.inr rfl, ?_⟩; simp [aB, results258])
    rw [Rl (lW (by omega) hi)]
theorem Dh [aD prog] (s : bC) (hl : s.length <= 1099511627776) : Ok prog 200 [.str s] (.bool (isValue s)) := by
  have h1 := kX s.length 1 20
  refine bR aAc func200 ntmps200 ?_
  have W := trivial
  repeat' first|refine we ?_|(refine sq ?_ ?_<;>intro hc<;>try exact hc.elim)|fail
  refine aJ (ι := { k : Nat // k <= s.length /\ ∀ x ∈ s.take k, uH x = true }) (fun t o i => ⟨aZ t [(3, .int .i64 i.1)], o⟩)
    (fun i => s.length - i.1) ⟨0, by simp, by simp⟩ (aI (by simp) (by simp)) ?_
  rintro ⟨k, hk, hi⟩ K1 hK1
  simp only [aZ, set_cons_succ, set_cons_zero] at hK1 ⊢
  have hk1 : i64.wrap ((k : Int) + 1) = ((k + 1 : Nat) : Int) := by rw [wrap64] <;> omega
  by_cases hlt : k < s.length
  · have hg := getElem?_eq_getElem hlt
    have W := aA hk1 (aA hg hlt)
    repeat' first|refine we ?_|(refine sq ?_ ?_<;>intro hc<;>try exact hc.elim)|fail
    all_goals first
      | exact hK1 _ ⟨k + 1, by omega, dS hlt hi (by simp [uH]; omega)⟩ (aI (by simp) (by simp)) (by simp only; omega)
      | (rw [VG hlt (by simp [uH]; omega)]
         all_goals try(refine ⟨.inr rfl, ?_⟩; simp [aB, results200])
         done)
  · have W := hk1
    repeat' first|refine we ?_|(refine sq ?_ ?_<;>intro hc<;>try exact hc.elim)|fail
    all_goals try(refine ⟨.inr rfl, ?_⟩; simp [aB, results200])
    rw [Rl (lW (by omega) hi)]
def Bf (r:jA):Bool:=(decide (1<=r.kind)&&decide (r.kind<=5))&&yO r.to&&dJ r.frm&&(r.digest == [] || isValue r.digest)
theorem Jh [aD prog] (r:jA) (hl:qE r<=1099511627776):Ok prog 294 [.agg (jM r)] (.bool (Bf r)):=by
 simp only [qE] at hl
 have c1:=iA r.kind 1 5
 have c2:=vU r.to (by omega)
 have c3:=eP r.frm (by omega)
 have c4:=yQ r.digest (by omega)
 simp only [aK] at c2
 unfold Bf
 generalize (decide (1<=r.kind)&&decide (r.kind<=5))=b1 at *
 generalize yO r.to=b2 at *
 generalize dJ r.frm=b3 at *
 generalize isValue r.digest=b4 at *
 refine bR aAc func294 ntmps294 ?_
 have W:=trivial
 repeat' first|refine we ?_|(refine sq ?_ ?_<;>intro hc<;>try exact hc.elim)|fail
 all_goals try(refine ⟨.inr rfl,?_⟩;simp [aB,results294])
 all_goals simp_all
theorem Ji [aD prog] (r:jA) (hl:qE r<=1099511627776):Ok prog 297 [.agg (jM r)] (.bool (Bf r)):=by
 simp only [qE] at hl
 have c1:=kX r.kind 1 5
 have c2:=vV r.to (by omega)
 have c3:=gJ r.frm (by omega)
 have c4:=Dh r.digest (by omega)
 simp only [aK] at c2
 unfold Bf
 generalize (decide (1<=r.kind)&&decide (r.kind<=5))=b1 at *
 generalize yO r.to=b2 at *
 generalize dJ r.frm=b3 at *
 generalize isValue r.digest=b4 at *
 refine bR aAc func297 ntmps297 ?_
 have W:=trivial
 repeat' first|refine we ?_|(refine sq ?_ ?_<;>intro hc<;>try exact hc.elim)|fail
 all_goals try(refine ⟨.inr rfl,?_⟩;simp [aB,results297])
 all_goals simp_all
def Nz (p:gN) (kind:Int) (host:bC):Bool:=
 if p.isSet=false then true else if kind=2\/kind=5 then p.jQ.any (fun x=>x == host) else if kind=3 then p.mO.any (fun x=>x == host) else if kind=4 then p.nD.any (fun x=>x == host) else false
theorem aHb {l:List bC} {k:Nat} (h:k < l.length) {n:bC} (hc:l[k]=n):l.any (fun x=>x == n)=true:=
 any_eq_true.2 ⟨_,getElem_mem h,by simp [hc]⟩
theorem Fz [aD prog] (l:List bC) (n:bC) (hl:l.length<=1099511627776):Ok prog 313 [.sl .view 1 (l.map fF),.str n] (.bool (l.any (fun x=>x == n))):=by
 refine bR aAc func313 ntmps313 ?_
 have W:=trivial
 repeat' first|refine we ?_|(refine sq ?_ ?_<;>intro hc<;>try exact hc.elim)|fail
 refine aJ (ι:={k:Nat // k<=l.length/\∀x∈l.take k,(x == n)=false}) (fun t o i=>⟨aZ t [(5,.int .i64 i.1)],o⟩)
  (fun i=>l.length - i.1) ⟨0,by simp,by simp⟩ (aI (by simp) (by simp)) ?_
 rintro ⟨k,hk,hi⟩ K1 hK1
 simp only [aZ,set_cons_succ,set_cons_zero] at hK1⊢
 have hk1:i64.wrap ((k:Int)+1)=((k+1:Nat):Int):=by rw [wrap64]<;>omega
 by_cases hlt:k < l.length
 ·have hg:=getElem?_eq_getElem hlt
  have W:=aA hk1 (aA hg hlt)
  repeat' first|refine we ?_|(refine sq ?_ ?_<;>intro hc<;>try exact hc.elim)|fail
  ·rw [aHb hlt hc]
   all_goals try(refine ⟨.inr rfl,?_⟩;simp [aB,results313])
  ·exact hK1 _ ⟨k+1,by omega,dS hlt hi (by simpa using hc)⟩ (aI (by simp) (by simp)) (by simp only;omega)
 ·have W:=hk1
  repeat' first|refine we ?_|(refine sq ?_ ?_<;>intro hc<;>try exact hc.elim)|fail
  all_goals try(refine ⟨.inr rfl,?_⟩;simp [aB,results313])
  have:=lW (by omega) hi
  simpa using this
theorem VH [aD prog] (l:List bC) (n:bC) (hl:l.length<=1099511627776):Ok prog 324 [.sl .view 1 (l.map fF),.str n] (.int .i64 (BN (fun x=>x == n) l)):=by
 refine bR aAc func324 ntmps324 ?_
 have W:=trivial
 repeat' first|refine we ?_|(refine sq ?_ ?_<;>intro hc<;>try exact hc.elim)|fail
 refine aJ (ι:={k:Nat // k<=l.length/\∀x∈l.take k,(x == n)=false}) (fun t o i=>⟨aZ t [(8,.int .i64 i.1),(5,.undef)],o⟩)
  (fun i=>l.length - i.1) ⟨0,by simp,by simp⟩ (aI (by simp) (by simp)) ?_
 rintro ⟨k,hk,hi⟩ K1 hK1
 simp only [aZ,set_cons_succ,set_cons_zero] at hK1⊢
 have hk1:i64.wrap ((k:Int)+1)=((k+1:Nat):Int):=by rw [wrap64]<;>omega
 by_cases hlt:k < l.length
 ·have hg:=getElem?_eq_getElem hlt
  have W:=aA hk1 (aA hg hlt)
  repeat' first|refine we ?_|(refine sq ?_ ?_<;>intro hc<;>try exact hc.elim)|fail
  ·all_goals try(refine ⟨.inr rfl,?_⟩;simp [aB,results324])
   rw [Eb hlt (by simp [hc]) hi]
  ·exact hK1 _ ⟨k+1,by omega,dS hlt hi (by simp only [beq_eq_false_iff_ne];intro h;exact hc h.symm)⟩ (aI (by simp) (by simp)) (by simp only;omega)
 ·have W:=hk1
  repeat' first|refine we ?_|(refine sq ?_ ?_<;>intro hc<;>try exact hc.elim)|fail
  all_goals try(refine ⟨.inr rfl,?_⟩;simp [aB,results324])
  rw [vH (lW (by omega) hi)]
theorem yR [aD prog] (l:List bC) (n:bC) (hl:l.length<=1099511627776):Ok prog 314 [.sl .view 1 (l.map fF),.str n] (.bool (l.any (fun x=>x == n))):=by
 have c1:=VH l n hl
 refine bR aAc func314 ntmps314 ?_
 have W:=trivial
 repeat' first|refine we ?_|(refine sq ?_ ?_<;>intro hc<;>try exact hc.elim)|fail
 all_goals try(refine ⟨.inr rfl,?_⟩;simp [aB,results314])
 exact Kj _ _
theorem PX [aD prog] (p:gN) (kind:Int) (host:bC) (hs:iC p<=1099511627776):Ok prog 295 [.agg (bV .view p),.int .i64 kind,.str host] (.bool (Nz p kind host)):=by
 simp only [iC,bP] at hs
 have c1:=Fz p.jQ host (by omega)
 have c2:=Fz p.mO host (by omega)
 have c3:=Fz p.nD host (by omega)
 unfold Nz
 refine bR aAc func295 ntmps295 ?_
 have W:=trivial
 repeat' first|refine we ?_|(refine sq ?_ ?_<;>intro hc<;>try exact hc.elim)|fail
 all_goals try(refine ⟨.inr rfl,?_⟩;simp [aB,results295])
 all_goals simp_all
theorem PY [aD prog] (p:gN) (kind:Int) (host:bC) (hs:iC p<=1099511627776):Ok prog 298 [.agg (bV .view p),.int .i64 kind,.str host] (.bool (Nz p kind host)):=by
 simp only [iC,bP] at hs
 have c1:=yR p.jQ host (by omega)
 have c2:=yR p.mO host (by omega)
 have c3:=yR p.nD host (by omega)
 unfold Nz
 refine bR aAc func298 ntmps298 ?_
 have W:=trivial
 repeat' first|refine we ?_|(refine sq ?_ ?_<;>intro hc<;>try exact hc.elim)|fail
 all_goals try(refine ⟨.inr rfl,?_⟩;simp [aB,results298])
 all_goals simp_all
def gP (p:gN) (r:jA):Int:=if Bf r=false\/(r.kind≠1/\Nz p r.kind r.to.host=false) then 2 else 1
theorem xN [aD prog] (p:gN) (r:jA) (hs:iC p<=1099511627776) (hl:qE r<=1099511627776):Ok prog 274 [.agg (bV .view p),.agg (jM r)] (.int .i64 (gP p r)):=by
 have c1:=Jh r hl
 have c2:=PX p r.kind r.to.host hs
 simp only [jM] at c1
 simp only [bV] at c2
 unfold gP
 refine bR aAc func274 ntmps274 ?_
 have W:=trivial
 repeat' first|refine we ?_|(refine sq ?_ ?_<;>intro hc<;>try exact hc.elim)|fail
 all_goals try(refine ⟨.inr rfl,?_⟩;simp [aB,results274])
 all_goals simp_all
theorem xO [aD prog] (p:gN) (r:jA) (hs:iC p<=1099511627776) (hl:qE r<=1099511627776):Ok prog 278 [.agg (bV .view p),.agg (jM r)] (.int .i64 (gP p r)):=by
 have c1:=Ji r hl
 have c2:=PY p r.kind r.to.host hs
 simp only [jM] at c1
 simp only [bV] at c2
 unfold gP
 refine bR aAc func278 ntmps278 ?_
 have W:=trivial
 repeat' first|refine we ?_|(refine sq ?_ ?_<;>intro hc<;>try exact hc.elim)|fail
 all_goals try(refine ⟨.inr rfl,?_⟩;simp [aB,results278])
 all_goals simp_all
end Go.Proofs.YtlnblmmohpcceaaGreatDoor
