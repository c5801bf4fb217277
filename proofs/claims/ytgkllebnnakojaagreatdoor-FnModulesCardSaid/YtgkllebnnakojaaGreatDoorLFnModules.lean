/-
  Proved here: steps towards the statement of this claim, text LFnModules.
  No condition beyond what each statement spells out.
-/
import Derived.Test.YtgkllebnnakojaaGreatDoorDRR
import Derived.Test.YtgkllebnnakojaaGreatDoorQMD1
import Derived.Test.YtgkllebnnakojaaGreatDoorQSFA
import Derived.Test.YtgkllebnnakojaaGreatDoorZ5
import Derived.Test.YtgkllebnnakojaaGreatDoorZ6
import Derived.Test.YtgkllebnnakojaaGreatDoorQPL
import Derived.Test.YtgkllebnnakojaaGreatDoorQMD0
import Derived.Test.YtgkllebnnakojaaGreatDoorZ9
import Derived.Test.YtgkllebnnakojaaGreatDoorQP6
import Derived.Test.YtgkllebnnakojaaGreatDoorF8
set_option linter.all false
set_option maxRecDepth 8000
set_option maxHeartbeats 8000000
namespace Go.Proofs.YtgkllebnnakojaaGreatDoor
open Go.Aw
theorem aH1 [aB Tryz.prog] [cO Tryz.prog] (d:List UInt8) (hwd:d.length≤9223372036854775807):Ok Tryz.prog 3 [.sl .view 1 (aP d)] (.bool true):=by
 have cb:=aWt d hwd
 have cq:=aA2 d
 refine ent Tryz.mix Tryz.func3 Tryz.ntmps3 ?_
 have W:=trivial
 repeat' first|refine st ?_|(refine nx ?_;refine so ?_)|(refine cx ?_;refine sc (fun hc=>?_) (fun hc=>?_)<;>try exact hc.elim)|(refine lx ?_;refine sp (fun hc=>?_) (fun hc=>?_)<;>try exact hc.elim)|refine sx ?_ ?_|refine sy ?_ ?_|fail
 ·all_goals (try (refine ⟨.inr rfl,?_⟩;simp [Hands,Tryz.results3]))
 ·refine ce (cq) ?_
  rintro _ ⟨p,a,rfl,hp,ha⟩
  simp only [AS.called,AS.put,aG,aF,bE,aU,bD,aS,bH,aV,List.set_cons_succ,List.set_cons_zero,List.append_nil,List.nil_append,List.cons_append]
  have hps:=hp.sz
  have hms:szL bJ p.mods≤20000:=by have h5:=hps;simp only [bL] at h5;omega
  have hml:p.mods.length≤20000:=by simp only [szL] at hms;omega
  have hmz:∀m∈p.mods,bJ m≤20000:=fun m hm=>by have h5:=gI bJ hm;simp only [szL] at hms;omega
  obtain ⟨hbd,hbl,hbs⟩:=uT p a (by omega)
  have hrl:=(rC p a (by omega)).1
  have r1:=(rA p (a::gP p) hbd a (by simp)).vwas (r':= .sl .view 2 ((bC p a).map aD)) (by simp [rt])
  have r2:=(nX p (a::gP p) hbd a (by simp)).vwas (r':= .sl .view 2 ((bC p a).map aD)) (by simp [rt])
  have sa:=aKq (bC p a) (by omega)
  have csrt:=(aDc (bC p a) (by omega) (aCj p a)).vwas (r':= .sl .view 2 ((uG (bC p a)).map aD)) (by simp [rt])
  have hsl:=aA7 (bC p a)
  obtain ⟨hre0,hre1⟩:=aRj p a
  have hmod:=fun (i:Nat) (m:bQ) (hg:p.mods[i]? =some m) (hd:m.done=true) (hcd:m.code=1) (hr:(bC p a).any (bG m.to)=true)=>aSs a hp.good.up hg hd hcd hr
  have chas:=fun c=>xP (bC p a) c (by omega)
  have cplc:=fun c=>aS2 (bC p a) c (by omega)
  have hea:=lW a a
  rw [decide_eq_true rfl] at hea
  have hlm:IntKind.i64.wrap (((bC p a).length:Int) - 1)=(((bC p a).length - 1:Nat):Int):=by rw [wrap64]<;>omega
  have hlj:(((bC p a).length - 1:Nat):Int) < ((bC p a).length:Int):=by omega
  have hl0:(((bC p a).length:Int) == 0)=false:=by rw [beq_eq_false_iff_ne];omega
  have g1:=aB8 p a (by omega)
  have g2:=aB6 p a (by omega)
  have g3:=aCa p a (by omega)
  have g4:=aCc p a (by omega)
  have hro:=aS8 p a
  generalize mI p a=gr at *
  generalize mM p a=gf at *
  generalize uG (bC p a)=S at *
  generalize hLd:bC p a=L at *
  simp only [aL,aD] at r1 r2 g1 g2 g3 g4 hea⊢
  have W:=And.intro hsl (And.intro hlm (And.intro hlj (And.intro hl0 hre1)))
  have c0:=hea
  repeat' first|refine st ?_|(refine nx ?_;refine so ?_)|(refine cx ?_;refine sc (fun hc=>?_) (fun hc=>?_)<;>try exact hc.elim)|(refine lx ?_;refine sp (fun hc=>?_) (fun hc=>?_)<;>try exact hc.elim)|refine sx ?_ ?_|refine sy ?_ ?_|fail
  clear r1 r2 sa csrt hsl hlm hlj hl0 hre1 cb cq
  refine aT (ι:={i:Nat // i≤p.mods.length}) (fun t o i=>⟨[.sl .view 1 (aP d),.undef,.bool false,.ptr 0 0 0 0,.ptr 1 0 0 0,.sl .view 2 (L.map aD),.int .i64 (i.1:Int),.undef,.undef,.undef,.undef,.undef,.undef,.undef,.undef,.undef,.undef,.undef,.undef,.undef,.undef,.undef,.undef,.undef,.undef,.undef,.undef,.undef,.undef,.undef,.undef,.undef,.undef,.undef,.undef,.undef,.undef,.undef,.undef,.undef,.undef,.undef,.undef,.undef,.undef,.undef,.undef,.undef,.undef,.undef,.undef,.undef,.undef,.undef,.undef,.undef,.undef,.undef,.undef,.undef,.undef,.undef,.undef,.undef,.undef,.undef,.undef,.undef,.undef,.undef,.undef,.undef,.undef,.undef,.undef,.undef,.undef,.undef,.undef,.undef,.undef,.undef,.undef,.undef,.undef,.undef,.undef,.undef,.undef,.undef,.undef,.undef,.undef,.undef,.undef,.undef,.undef,.undef,.undef,.undef,.undef,.undef,.undef,.undef,.undef,.undef,.undef,.undef,.undef,.undef,.undef,.undef,.undef,.undef,.undef,.undef,.undef,.undef,.undef,.undef,.undef,.undef,.undef,.undef,.undef,.undef,.undef,.undef,.undef,.undef,.undef,.undef,.undef,.undef,.undef,.undef,.undef,.undef,.undef,.undef,.undef,.undef,.undef,.undef,.undef,.undef,.undef,.undef,.undef,.undef,.undef,.undef,.undef,.undef],[⟨true,true,22,0,[aL .view p]⟩,⟨true,true,2,0,[aD a]⟩]⟩)
   (fun i=>p.mods.length - i.1) ⟨0,by simp⟩ (aO 2 (by simp [aL]) (by simp) (by simp) (by simp)) ?_
  rintro ⟨i,hi⟩ K1 hK1
  have hK2:=hK1
  simp only at hK1⊢
  clear hK1
  have hi1:IntKind.i64.wrap ((i:Int)+1)=((i+1:Nat):Int):=by rw [wrap64]<;>omega
  simp only [aL]
  by_cases hlt:i < p.mods.length
  ·have hii:(i:Int) < (p.mods.length:Int):=by omega
   obtain ⟨m,hg,hmem⟩:∃m,p.mods[i]? =some m∧m∈p.mods:=⟨_,List.getElem?_eq_getElem hlt,List.getElem_mem hlt⟩
   have hz1:=hmz m hmem
   have hb1:m.body.length≤20000:=by simp only [bJ] at hz1;omega
   have hb2:m.to.host.length≤20000:=by simp only [bJ,aK] at hz1;omega
   have cm:=(nI m.body m.to.host (by omega) (by omega)).vwas (r':= .tup [.sl .view 2 ((aN m.body m.to.host).1.map aD),.sl .view 2 ((aN m.body m.to.host).2.1.map jM),.bool (aN m.body m.to.host).2.2]) (by simp [rt,rtc])
   have hpz:=(kK m.body m.to.host).1
   have hl1:(aN m.body m.to.host).1.length≤22000:=by omega
   have hat:=hmod i m hg
   have hmt:=fun (ok:Bool) (hd:m.done=true) (hcd:m.code=1) (hr:L.any (bG m.to)=true)=>hat hd hcd hr
   have ch:=chas m.to
   have hsub:∀b∈(aN m.body m.to.host).1,aK b≤50000:=fun b hb=>by
    have h5:=(kK m.body m.to.host).2.2 b hb
    omega
   have himp:=fun (hd:m.done=true) (hcd:m.code=1) (hr:L.any (bG m.to)=true)=>(hat hd hcd hr).imp
   have hplc:=fun (hd:m.done=true) (hcd:m.code=1) (hr:L.any (bG m.to)=true)=>(hat hd hcd hr).plc
   simp only [hLd] at himp hplc
   clear hat hmt hmod hmem hlt hpz hmz
   generalize (aN m.body m.to.host).1=l1 at *
   generalize (aN m.body m.to.host).2.1=l2 at *
   generalize (aN m.body m.to.host).2.2=ok at *
   cases hd:m.done
   ·have W:=And.intro hii (And.intro hg hd)
    repeat' first|refine st ?_|(refine nx ?_;refine so ?_)|(refine cx ?_;refine sc (fun hc=>?_) (fun hc=>?_)<;>try exact hc.elim)|(refine lx ?_;refine sp (fun hc=>?_) (fun hc=>?_)<;>try exact hc.elim)|refine sx ?_ ?_|refine sy ?_ ?_|fail
    exact hK2 _ ⟨i+1,by omega⟩ (aO 2 (by simp [aL]) (by simp) (by simp) (by simp)) (by simp only;omega)
   ·by_cases hcd:m.code=1
    ·cases ok
     ·have W:=And.intro hii (And.intro hg (And.intro hd hcd))
      repeat' first|refine st ?_|(refine nx ?_;refine so ?_)|(refine cx ?_;refine sc (fun hc=>?_) (fun hc=>?_)<;>try exact hc.elim)|(refine lx ?_;refine sp (fun hc=>?_) (fun hc=>?_)<;>try exact hc.elim)|refine sx ?_ ?_|refine sy ?_ ?_|fail
      exact hK2 _ ⟨i+1,by omega⟩ (aO 2 (by simp [aL]) (by simp) (by simp) (by simp)) (by simp only;omega)
     ·cases hz:L.any (bG m.to)
      ·rw [hz] at ch
       simp only [aD] at ch
       have W:=And.intro hii (And.intro hg (And.intro hd hcd))
       repeat' first|refine st ?_|(refine nx ?_;refine so ?_)|(refine cx ?_;refine sc (fun hc=>?_) (fun hc=>?_)<;>try exact hc.elim)|(refine lx ?_;refine sp (fun hc=>?_) (fun hc=>?_)<;>try exact hc.elim)|refine sx ?_ ?_|refine sy ?_ ?_|fail
       exact hK2 _ ⟨i+1,by omega⟩ (aO 2 (by simp [aL]) (by simp) (by simp) (by simp)) (by simp only;omega)
      ·have hi2:=himp hd hcd hz
       have hp2:=hplc hd hcd hz
       clear himp hplc
       rw [hz] at ch
       simp only [aD] at ch
       have W:=And.intro hii (And.intro hg (And.intro hd hcd))
       repeat' first|refine st ?_|(refine nx ?_;refine so ?_)|(refine cx ?_;refine sc (fun hc=>?_) (fun hc=>?_)<;>try exact hc.elim)|(refine lx ?_;refine sp (fun hc=>?_) (fun hc=>?_)<;>try exact hc.elim)|refine sx ?_ ?_|refine sy ?_ ?_|fail
       clear cm ch
       refine aT (ι:={k:Nat // k≤l1.length}) (fun t o k=>⟨[.sl .view 1 (aP d),.undef,.bool false,.ptr 0 0 0 0,.ptr 1 0 0 0,.sl .view 2 (L.map aD),.int .i64 (i:Int),.ptr 2 0 0 0,.sl .view 2 (l1.map aD),.undef,.undef,.int .i64 (k.1:Int),.undef,.undef,.undef,.undef,.undef,.undef,.undef,.undef,.undef,.undef,.undef,.undef,.undef,.undef,.undef,.undef,.undef,.undef,.undef,.undef,.undef,.undef,.undef,.undef,.undef,.undef,.undef,.undef,.undef,.undef,.undef,.undef,.undef,.undef,.undef,.undef,.undef,.undef,.undef,.undef,.undef,.undef,.undef,.undef,.undef,.undef,.undef,.undef,.undef,.undef,.undef,.undef,.undef,.undef,.undef,.undef,.undef,.undef,.undef,.undef,.undef,.undef,.undef,.undef,.undef,.undef,.undef,.undef,.undef,.undef,.undef,.undef,.undef,.undef,.undef,.undef,.undef,.undef,.undef,.undef,.undef,.undef,.undef,.undef,.undef,.undef,.undef,.undef,.undef,.undef,.undef,.undef,.undef,.undef,.undef,.undef,.undef,.undef,.undef,.undef,.undef,.undef,.undef,.undef,.undef,.undef,.undef,.undef,.undef,.undef,.undef,.undef,.undef,.undef,.undef,.undef,.undef,.undef,.undef,.undef,.undef,.undef,.undef,.undef,.undef,.undef,.undef,.undef,.undef,.undef,.undef,.undef,.undef,.undef,.undef,.undef,.undef,.undef,.undef,.undef,.undef,.undef],[⟨true,true,22,0,[aL .view p]⟩,⟨true,true,2,0,[aD a]⟩,⟨true,true,5,0,[dQ m]⟩]⟩)
        (fun k=>l1.length - k.1) ⟨0,by simp⟩ (aO 3 (by simp [aL,hd,hcd]) (by simp) (by simp) (by simp)) ?_
       rintro ⟨k,hk⟩ K3 hK3
       have hK4:=hK3
       simp only at hK3⊢
       clear hK3
       have hk1:IntKind.i64.wrap ((k:Int)+1)=((k+1:Nat):Int):=by rw [wrap64]<;>omega
       by_cases hkl:k < l1.length
       ·have hki:(k:Int) < (l1.length:Int):=by omega
        obtain ⟨c,hlc,hcm⟩:∃c,l1[k]? =some c∧c∈l1:=⟨_,List.getElem?_eq_getElem hkl,List.getElem_mem hkl⟩
        have hc1:=hi2 c hcm
        have hc2:=hp2 c hcm
        have hcz:=hsub c hcm
        have ch1:=chas c
        rw [hc1] at ch1
        have cp1:=cplc c
        have cp2:=cplc m.to
        obtain ⟨hbd2,_,_⟩:=uT p c (by omega)
        have hrl2:=(rC p c (by omega)).1
        have r3:=(nX p (c::gP p) hbd2 c (by simp)).vwas (r':= .sl .view 2 ((bC p c).map aD)) (by simp [rt])
        have ch2:=xP (bC p c) m.to (by omega)
        clear hkl hcm hbd2 hrl2 chas cplc
        generalize bC p c=L2 at *
        cases hz2:L2.any (bG m.to)
        ·have hle:=hc2 hz2
         have hgt:¬(dZ (bG c) L > dZ (bG m.to) L):=by omega
         rw [hz2] at ch2
         clear hc2 hle
         generalize dZ (bG c) L=n1 at *
         generalize dZ (bG m.to) L=n2 at *
         simp only [aD,aL,dQ] at ch1 ch2 cp1 cp2 r3⊢
         have W:=And.intro hki (And.intro hlc (And.intro hgt hk1))
         repeat' first|refine st ?_|(refine nx ?_;refine so ?_)|(refine cx ?_;refine sc (fun hc=>?_) (fun hc=>?_)<;>try exact hc.elim)|(refine lx ?_;refine sp (fun hc=>?_) (fun hc=>?_)<;>try exact hc.elim)|refine sx ?_ ?_|refine sy ?_ ?_|fail
         exact hK4 _ ⟨k+1,by omega⟩ (aO 3 (by simp [aL]) (by simp) (by simp) (by simp)) (by simp only;omega)
        ·rw [hz2] at ch2
         clear hc2
         simp only [aD,aL,dQ] at ch1 ch2 cp1 cp2 r3⊢
         have W:=And.intro hki (And.intro hlc hk1)
         repeat' first|refine st ?_|(refine nx ?_;refine so ?_)|(refine cx ?_;refine sc (fun hc=>?_) (fun hc=>?_)<;>try exact hc.elim)|(refine lx ?_;refine sp (fun hc=>?_) (fun hc=>?_)<;>try exact hc.elim)|refine sx ?_ ?_|refine sy ?_ ?_|fail
         exact hK4 _ ⟨k+1,by omega⟩ (aO 3 (by simp [aL]) (by simp) (by simp) (by simp)) (by simp only;omega)
       ·have hki:¬(k:Int) < (l1.length:Int):=by omega
        clear hK4
        simp only [dQ]
        have W:=And.intro hki hi1
        repeat' first|refine st ?_|(refine nx ?_;refine so ?_)|(refine cx ?_;refine sc (fun hc=>?_) (fun hc=>?_)<;>try exact hc.elim)|(refine lx ?_;refine sp (fun hc=>?_) (fun hc=>?_)<;>try exact hc.elim)|refine sx ?_ ?_|refine sy ?_ ?_|fail
        exact hK2 _ ⟨i+1,by omega⟩ (aO 2 (by simp [aL]) (by simp) (by simp) (by simp)) (by simp only;omega)
    ·have W:=And.intro hii (And.intro hg (And.intro hd hcd))
     repeat' first|refine st ?_|(refine nx ?_;refine so ?_)|(refine cx ?_;refine sc (fun hc=>?_) (fun hc=>?_)<;>try exact hc.elim)|(refine lx ?_;refine sp (fun hc=>?_) (fun hc=>?_)<;>try exact hc.elim)|refine sx ?_ ?_|refine sy ?_ ?_|fail
     exact hK2 _ ⟨i+1,by omega⟩ (aO 2 (by simp [aL]) (by simp) (by simp) (by simp)) (by simp only;omega)
  ·have hii:¬(i:Int) < (p.mods.length:Int):=by omega
   clear hK2 hmod chas cplc
   simp only [aD]
   cases gr<;>cases gf
   ·cases hro
   ·have W:=hii
    repeat' first|refine st ?_|(refine nx ?_;refine so ?_)|(refine cx ?_;refine sc (fun hc=>?_) (fun hc=>?_)<;>try exact hc.elim)|(refine lx ?_;refine sp (fun hc=>?_) (fun hc=>?_)<;>try exact hc.elim)|refine sx ?_ ?_|refine sy ?_ ?_|fail
    all_goals (try (refine ⟨.inr rfl,?_⟩;simp [Hands,Tryz.results3]))
   ·have W:=hii
    repeat' first|refine st ?_|(refine nx ?_;refine so ?_)|(refine cx ?_;refine sc (fun hc=>?_) (fun hc=>?_)<;>try exact hc.elim)|(refine lx ?_;refine sp (fun hc=>?_) (fun hc=>?_)<;>try exact hc.elim)|refine sx ?_ ?_|refine sy ?_ ?_|fail
    all_goals (try (refine ⟨.inr rfl,?_⟩;simp [Hands,Tryz.results3]))
   ·have W:=hii
    repeat' first|refine st ?_|(refine nx ?_;refine so ?_)|(refine cx ?_;refine sc (fun hc=>?_) (fun hc=>?_)<;>try exact hc.elim)|(refine lx ?_;refine sp (fun hc=>?_) (fun hc=>?_)<;>try exact hc.elim)|refine sx ?_ ?_|refine sy ?_ ?_|fail
    all_goals (try (refine ⟨.inr rfl,?_⟩;simp [Hands,Tryz.results3]))
end Go.Proofs.YtgkllebnnakojaaGreatDoor
