/-
  Proved here: steps towards the statement of this claim, text LFnArrivals.
  No condition beyond what each statement spells out.
-/
import Derived.Test.YtlnblmmohpcceaaGreatDoorDFA3
import Derived.Test.YtlnblmmohpcceaaGreatDoorDF4
import Derived.Test.YtlnblmmohpcceaaGreatDoorDF5
set_option linter.all false
set_option maxRecDepth 8000
set_option maxHeartbeats 8000000
namespace Go.Proofs.YtlnblmmohpcceaaGreatDoor
open Go.Aw
theorem aIm {x:AV} (hx:dP [.sl 1 [.int .u8]] [x]):∃d:List UInt8,x= .sl .view 1 (aO d)∧d.length≤9223372036854775807:=by
 obtain ⟨l,rfl,⟨h,_⟩,_⟩:=aHi (e:=fun c:UInt8=>[.int .u8 c.toNat]) (p:=fun _=>True) (q:=fun _=>True) (fun r h=>by
  obtain ⟨n,r',rfl,hn,h⟩:=fits_int h
  obtain rfl:=aK5 h
  have hn1:0≤n∧n≤255:=hn
  refine ⟨UInt8.ofNat n.toNat,?_,trivial,trivial⟩
  have e:(((UInt8.ofNat n.toNat).toNat:Nat):Int)=n:=by
   rw [UInt8.toNat_ofNat']
   omega
  rw [e]) hx
 exact ⟨l,rfl,h⟩
theorem aAc [aB Tryz.prog] [dO Tryz.prog] (d:List UInt8) (hwd:d.length≤9223372036854775807):Ok Tryz.prog 3 [.sl .view 1 (aO d)] (.bool true):=by
 have cb:=aOh d hwd
 have cp:=aC1 d
 have cn:=vL d
 have c0:=aHc ⟨[104,111,109,101],[105,110,100,101,120]⟩ ⟨200,1,[],0,false,[]⟩ (by decide) (by decide)
 rw [aM2] at c0
 change Ok Tryz.prog 9 _ (.tup [.agg (cZ .view home),.bool true]) at c0
 have hz:=aM3
 have hf:=aJ2
 generalize home=p0 at *
 simp only [eX,bV] at c0
 refine ent Tryz.mix Tryz.func3 Tryz.ntmps3 ?_
 have W:=trivial
 repeat' first|refine st ?_|(refine nx ?_;refine so ?_)|(refine cx ?_;refine sc (fun hc=>?_) (fun hc=>?_)<;>try exact hc.elim)|(refine lx ?_;refine sp (fun hc=>?_) (fun hc=>?_)<;>try exact hc.elim)|refine sx ?_ ?_|refine sy ?_ ?_|fail
 ·all_goals (try (refine ⟨.inr rfl,?_⟩;simp [Hands,Tryz.results3]))
 ·refine ce (cp) ?_
  rintro _ ⟨s,l,rfl,hs,hl⟩
  simp only [AS.called,AS.put,aF,aC,aV,aM,aU,aJ,aW,aK,List.set_cons_succ,List.set_cons_zero,List.append_nil,List.nil_append,List.cons_append]
  have W:=trivial
  repeat' first|refine st ?_|(refine nx ?_;refine so ?_)|(refine cx ?_;refine sc (fun hc=>?_) (fun hc=>?_)<;>try exact hc.elim)|(refine lx ?_;refine sp (fun hc=>?_) (fun hc=>?_)<;>try exact hc.elim)|refine sx ?_ ?_|refine sy ?_ ?_|fail
  refine aS (ι:={q:Nat×Nat // q.1≤q.2∧q.1≤s.length∧q.2≤s.length+1∧(q.2=s.length+1→q.1=s.length)}) (fun t o y=>⟨aP t [(8,.int .i64 y.1.1),(9,.int .i64 y.1.2)],o.take 2++[⟨true,true,22,0,[cZ .view (bM p0 (s.take y.1.1))]⟩]⟩)
   (fun y=>s.length+1 - y.1.2) ⟨(0,0),by simp⟩ (aL (by simp [aH7 p0 hf]) (by simp)) ?_
  rintro ⟨⟨a,b⟩,h1,h2,h3,h4⟩ K1 hK1
  simp only at h1 h2 h3 h4
  have hK2:=hK1
  simp only [aP,List.set_cons_succ,List.set_cons_zero] at hK1⊢
  clear hK1
  have hk1:IntKind.i64.wrap ((b:Int)+1)=((b+1:Nat):Int):=by rw [wrap64]<;>omega
  have ha:=aJf p0 (s.take a)
  simp only [List.length_take] at ha
  by_cases hlt:b≤s.length
  ·have hb:(b:Int)≤s.length:=by omega
   have cc:=aGe l (b:Int) (by omega)
   have ca:=uG (bM p0 (s.take a)) ((s.take b).drop a) (by omega) (by simp;omega)
   have e:s.take a++(s.take b).drop a=s.take b:=by
    conv=>rhs;rw [←List.take_append_drop a (s.take b)]
    rw [List.take_take,Nat.min_eq_left h1]
   rw [aFw,e] at ca
   have W:=And.intro hk1 (And.intro hb ca)
   repeat' first|refine st ?_|(refine nx ?_;refine so ?_)|(refine cx ?_;refine sc (fun hc=>?_) (fun hc=>?_)<;>try exact hc.elim)|(refine lx ?_;refine sp (fun hc=>?_) (fun hc=>?_)<;>try exact hc.elim)|refine sx ?_ ?_|refine sy ?_ ?_|fail
   ·refine hK2 _ ⟨(b,b+1),by omega,by omega,by omega,by omega⟩ (aL (by simp) (by simp)) (by simp only;omega)
   ·refine hK2 _ ⟨(b,b+1),by omega,by omega,by omega,by omega⟩ (aL (by simp) (by simp)) (by simp only;omega)
   ·refine hK2 _ ⟨(a,b+1),by omega,by omega,by omega,by omega⟩ (aL (by simp) (by simp)) (by simp only;omega)
  ·have hb:¬(b:Int)≤s.length:=by omega
   have e:s.take a=s:=List.take_of_length_le (by omega)
   rw [e] at ha⊢
   have ca:=uG p0 s (by omega) (by omega)
   have hz1:=aMu (bM p0 s)
   have cz:=aGp (bM p0 s) (by omega)
   have hea:=fun t=>aIo (bM p0 s) t
   have hee:=aM1 (bM p0 s)
   generalize gH (bM p0 s)=y at *
   have cA:=uG y [60,112,62] (by omega) (by simp)
   have cE:=aGp y (by omega)
   have cq:=aCx y (by omega)
   rw [hea] at cA
   rw [hee] at cE
   generalize bM p0 s=x0 at *
   have W:=hb
   repeat' first|refine st ?_|(refine nx ?_;refine so ?_)|(refine cx ?_;refine sc (fun hc=>?_) (fun hc=>?_)<;>try exact hc.elim)|(refine lx ?_;refine sp (fun hc=>?_) (fun hc=>?_)<;>try exact hc.elim)|refine sx ?_ ?_|refine sy ?_ ?_|fail
   refine ce (cn) ?_
   rintro _ ⟨ad,rs,rfl,hx1,hx2⟩
   simp only [AS.called,AS.put,aF,aC,aV,aM,aU,aJ,aW,aK,List.set_cons_succ,List.set_cons_zero,List.append_nil,List.nil_append,List.cons_append]
   have c5:=aHc ad rs (by omega) (by omega)
   have c6:=aAk ad rs (by omega) (by omega)
   generalize jF ad rs=z at *
   simp only [eX,bV]
   have W:=trivial
   repeat' first|refine st ?_|(refine nx ?_;refine so ?_)|(refine cx ?_;refine sc (fun hc=>?_) (fun hc=>?_)<;>try exact hc.elim)|(refine lx ?_;refine sp (fun hc=>?_) (fun hc=>?_)<;>try exact hc.elim)|refine sx ?_ ?_|refine sy ?_ ?_|fail
   all_goals (try (refine ⟨.inr rfl,?_⟩;simp [Hands,Tryz.results3]))
end Go.Proofs.YtlnblmmohpcceaaGreatDoor
