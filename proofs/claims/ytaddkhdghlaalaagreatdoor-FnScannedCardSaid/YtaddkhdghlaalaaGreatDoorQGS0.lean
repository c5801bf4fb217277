/-
  Proved here: steps towards the statement of this claim, text QGS0.
  No condition beyond what each statement spells out.
-/
import Derived.Test.YtaddkhdghlaalaaGreatDoorQDSC
import Derived.Shelf.SlSortCmp.WholeK
import Derived.Shelf.SlSortCmp.NoneTotal
import Derived.Shelf.Small.Strs
import Derived.Ground.SlsfProg
import Derived.Ground.NamesProg
import Derived.Test.YtaddkhdghlaalaaGreatDoorProg
import Derived.Test.YtaddkhdghlaalaaGreatDoorQMK1
import Derived.Test.YtaddkhdghlaalaaGreatDoorF2
import Derived.Test.YtaddkhdghlaalaaGreatDoorF3
import Derived.Sort.Grow
import Derived.Sort.EncStr
import Derived.Test.YtaddkhdghlaalaaGreatDoorQTK5
import Derived.Test.YtaddkhdghlaalaaGreatDoorQJ9
import Derived.Test.YtaddkhdghlaalaaGreatDoorQ2
import Derived.Test.YtaddkhdghlaalaaGreatDoorQDR1
import Derived.Test.YtaddkhdghlaalaaGreatDoorF4
set_option linter.all false
set_option maxRecDepth 4000
set_option maxHeartbeats 4000000
namespace Go.Proofs.YtaddkhdghlaalaaGreatDoor
open Go.Aw
theorem aAr (k:Int) (v d b:Str) (h:(rO k v d b).2=true):(rO k v d b).1.frm=b:=by
 unfold rO at *
 split at h
 ·rename_i hc;rw [if_pos hc]
 ·cases h
theorem bCr (t:bE) (b:Str) (h:(iD t b).2=true):(iD t b).1.frm=b:=by
 unfold iD at *
 split at h
 ·rename_i h1
  rw [if_pos h1]
  split at h
  ·rename_i h2
   rw [if_pos h2]
   split at h
   ·rename_i h3;rw [if_pos h3];exact aAr _ _ _ _ h
   ·rename_i h3;rw [if_neg h3];exact aAr _ _ _ _ h
  ·rename_i h2
   rw [if_neg h2]
   split at h
   ·rename_i h3;rw [if_pos h3];exact aAr _ _ _ _ h
   ·rename_i h3
    rw [if_neg h3]
    split at h
    ·rename_i h4;rw [if_pos h4];exact aAr _ _ _ _ h
    ·cases h
 ·cases h
theorem bAk {l:List bE} {b:Str} {r:dA} (h:r∈bZ l b):r.frm=b:=by
 unfold bZ at h
 obtain ⟨t,_,ht⟩:=List.mem_filterMap.1 h
 unfold aD9 at ht
 split at ht
 ·rename_i hc
  simp only [Option.some.injEq] at ht
  rw [←ht];exact bCr t b hc
 ·cases ht
structure aD4 (p : aC) (out : List aD) : Prop where
  nd : out.Nodup
  ho : ∀ a ∈ out, a.host = p.addr.host
  no : ∀ a ∈ out, rF p a = false
theorem bDt {p:aC} {out:List aD} {r:dA} (h:aD4 p out) (hf:r.frm=p.addr.host):aD4 p (uT p out r):=by
 unfold uT
 split
 ·rename_i hg
  simp only [wO,tV,Bool.and_eq_true,Bool.not_eq_true',beq_iff_eq] at hg
  obtain ⟨⟨⟨⟨_,h1⟩,_⟩,h2⟩,h3⟩:=hg
  have hn:r.to∉out:=fun hm=>by
   rw [List.any_eq_true.2 ⟨r.to,hm,by simp [eG]⟩] at h3;cases h3
  refine ⟨?_,?_,?_⟩
  ·rw [List.nodup_append]
   refine ⟨h.nd,by simp,fun a ha b hb=> ?_⟩
   simp only [List.mem_singleton] at hb
   subst hb
   exact fun e=>hn (e▸ha)
  ·intro a ha
   rcases List.mem_append.1 ha with ha|ha
   ·exact h.ho a ha
   ·simp only [List.mem_singleton] at ha
    subst ha;rw [h1,hf]
  ·intro a ha
   rcases List.mem_append.1 ha with ha|ha
   ·exact h.no a ha
   ·simp only [List.mem_singleton] at ha
    subst ha;exact h2
 ·exact h
theorem aRp {p:aC}:∀(l:List dA) (out:List aD),(∀r∈l,r.frm=p.addr.host)→aD4 p out→aD4 p (l.foldl (uT p) out)
 |[],out,_,h=>h
 |r::l,out,hl,h=>aRp l (uT p out r) (fun q hq=>hl q (by simp [hq])) (bDt h (hl r (by simp)))
theorem aUh (p:aC):aD4 p (iC p):=aRp _ _ (fun r hr=>bAk hr) ⟨List.nodup_nil,by simp,by simp⟩
theorem aUj (p:aC):(iC p).length≤p.queue.length:=by
 have h1:=aDs p (bZ p.queue p.addr.host) (bZ p.queue p.addr.host).length
 have h2:=mO p.queue p.addr.host
 have hg0:iC p=gTo p (bZ p.queue p.addr.host) (bZ p.queue p.addr.host).length:=by unfold gTo iC;rw [List.take_length]
 rw [hg0];omega
end Go.Proofs.YtaddkhdghlaalaaGreatDoor

set_option linter.all false
namespace Go.Proofs.YtaddkhdghlaalaaGreatDoor
open Go.Shelf
def Tryz.Laysx106_ren:Go.Shelf.Ren:=⟨fun|106=>56|213=>98|265=>126|n=>n,fun|9=>9|3=>3|n=>n,fun|n=>n⟩
theorem Tryz.Laysx106:Go.Proofs.Lays.n106 Tryz.prog Tryz.Laysx106_ren:={
 mixed:=by kernel_rfl
 f106:=Tryz.func56.trans (congrArg some (by kernel_rfl))
 f213:=Tryz.func98.trans (congrArg some (by kernel_rfl))
 f265:=Tryz.func126.trans (congrArg some (by kernel_rfl))
 t3:=Tryz.underlying3
 a3:=Tryz.isAgg3
 z3:=Tryz.sizeOf3
 v3:=Tryz.zeroValue3
 t9:=Tryz.underlying9
 a9:=Tryz.isAgg9
 z9:=Tryz.sizeOf9
 v9:=Tryz.zeroValue9}
def Tryz.sortAd_ren:Go.Shelf.Ren:=⟨fun|6=>29|15=>55|14=>54|28=>96|29=>97|20=>88|21=>89|22=>90|23=>91|24=>92|25=>93|26=>94|27=>95|46=>121|47=>122|48=>123|49=>124|50=>125|57=>155|n=>n,fun|22=>38|24=>25|25=>65|3=>3|39=>90|0=>0|53=>133|55=>135|4=>4|46=>126|45=>125|50=>130|5=>5|9=>9|66=>154|70=>158|76=>180|77=>181|n=>n,fun|n=>n⟩
theorem Tryz.sortAd:Go.Proofs.SlLaysF0.n6 Tryz.prog Tryz.sortAd_ren:={
 mixed:=by kernel_rfl
 f6:=⟨Tryz.f29.name,by decide,Tryz.func29.trans (congrArg some (by kernel_rfl))⟩
 f14:=⟨Tryz.f54.name,by decide,Tryz.func54.trans (congrArg some (by kernel_rfl))⟩
 f15:=Tryz.func55.trans (congrArg some (by kernel_rfl))
 f20:=⟨Tryz.f88.name,by decide,Tryz.func88.trans (congrArg some (by kernel_rfl))⟩
 f21:=⟨Tryz.f89.name,by decide,Tryz.func89.trans (congrArg some (by kernel_rfl))⟩
 f22:=⟨Tryz.f90.name,by decide,Tryz.func90.trans (congrArg some (by kernel_rfl))⟩
 f23:=⟨Tryz.f91.name,by decide,Tryz.func91.trans (congrArg some (by kernel_rfl))⟩
 f24:=⟨Tryz.f92.name,by decide,Tryz.func92.trans (congrArg some (by kernel_rfl))⟩
 f25:=⟨Tryz.f93.name,by decide,Tryz.func93.trans (congrArg some (by kernel_rfl))⟩
 f26:=⟨Tryz.f94.name,by decide,Tryz.func94.trans (congrArg some (by kernel_rfl))⟩
 f27:=⟨Tryz.f95.name,by decide,Tryz.func95.trans (congrArg some (by kernel_rfl))⟩
 f28:=Tryz.func96.trans (congrArg some (by kernel_rfl))
 f29:=Tryz.func97.trans (congrArg some (by kernel_rfl))
 f46:=⟨Tryz.f121.name,by decide,Tryz.func121.trans (congrArg some (by kernel_rfl))⟩
 f47:=Tryz.func122.trans (congrArg some (by kernel_rfl))
 f48:=Tryz.func123.trans (congrArg some (by kernel_rfl))
 f49:=⟨Tryz.f124.name,by decide,Tryz.func124.trans (congrArg some (by kernel_rfl))⟩
 f50:=⟨Tryz.f125.name,by decide,Tryz.func125.trans (congrArg some (by kernel_rfl))⟩
 f57:=⟨Tryz.f155.name,by decide,Tryz.func155.trans (congrArg some (by kernel_rfl))⟩
 t0:=Tryz.underlying0
 a0:=Tryz.isAgg0
 z0:=Tryz.sizeOf0
 v0:=Tryz.zeroValue0
 t3:=Tryz.underlying3
 a3:=Tryz.isAgg3
 z3:=Tryz.sizeOf3
 v3:=Tryz.zeroValue3
 t4:=Tryz.underlying4
 a4:=Tryz.isAgg4
 z4:=Tryz.sizeOf4
 v4:=Tryz.zeroValue4
 t5:=Tryz.underlying5
 a5:=Tryz.isAgg5
 z5:=Tryz.sizeOf5
 v5:=Tryz.zeroValue5
 t9:=Tryz.underlying9
 a9:=Tryz.isAgg9
 z9:=Tryz.sizeOf9
 v9:=Tryz.zeroValue9
 t22:=Tryz.underlying38
 a22:=Tryz.isAgg38
 z22:=Tryz.sizeOf38
 v22:=Tryz.zeroValue38
 t25:=Tryz.underlying65
 a25:=Tryz.isAgg65
 z25:=Tryz.sizeOf65
 v25:=Tryz.zeroValue65
 t39:=Tryz.underlying90
 a39:=Tryz.isAgg90
 z39:=Tryz.sizeOf90
 v39:=Tryz.zeroValue90
 t45:=Tryz.underlying125
 a45:=Tryz.isAgg125
 z45:=Tryz.sizeOf125
 v45:=Tryz.zeroValue125
 t46:=Tryz.underlying126
 a46:=Tryz.isAgg126
 z46:=Tryz.sizeOf126
 v46:=Tryz.zeroValue126
 t50:=Tryz.underlying130
 a50:=Tryz.isAgg130
 z50:=Tryz.sizeOf130
 v50:=Tryz.zeroValue130
 t53:=Tryz.underlying133
 a53:=Tryz.isAgg133
 z53:=Tryz.sizeOf133
 v53:=Tryz.zeroValue133
 t55:=Tryz.underlying135
 a55:=Tryz.isAgg135
 z55:=Tryz.sizeOf135
 v55:=Tryz.zeroValue135
 t66:=Tryz.underlying154
 a66:=Tryz.isAgg154
 z66:=Tryz.sizeOf154
 v66:=Tryz.zeroValue154
 t70:=Tryz.underlying158
 a70:=Tryz.isAgg158
 z70:=Tryz.sizeOf158
 v70:=Tryz.zeroValue158
 t76:=Tryz.underlying180
 a76:=Tryz.isAgg180
 z76:=Tryz.sizeOf180
 v76:=Tryz.zeroValue180
 t77:=Tryz.underlying181
 a77:=Tryz.isAgg181
 z77:=Tryz.sizeOf181
 v77:=Tryz.zeroValue181}
end Go.Proofs.YtaddkhdghlaalaaGreatDoor

namespace Go.Aw
instance : Inhabited aD := ⟨⟨[], []⟩⟩
open Go.Sort Go.Proofs
def mU (a:aD):List Value:=[encStr a.host,encStr a.path]
theorem aZm {w:World} {b off n:Nat} {C:Array Value} {e:TypeId} {fz:Nat×Nat} {d:Array Value} {os:Array Obj} (hb:w.heap[b]? =some (.cells C e fz)):
  (grow (putRow id (Sort.ahead w n) b off d) os).heap[b]? =some (.cells (putCells id off d C) e fz)∧(∀x,x < w.heap.size→x≠b→(grow (putRow id (Sort.ahead w n) b off d) os).heap[x]? =w.heap[x]?)∧
  w.heap.size≤(grow (putRow id (Sort.ahead w n) b off d) os).heap.size∧Same w (grow (putRow id (Sort.ahead w n) b off d) os):=by
 have hlt:b < w.heap.size:=(Array.getElem?_eq_some_iff.1 hb).1
 have hsz:(putRow id (Sort.ahead w n) b off d).heap.size=w.heap.size:=by simp
 refine ⟨?_,fun x hx hne=> ?_,?_,⟨rfl,rfl,rfl⟩⟩
 ·show ((putRow id (Sort.ahead w n) b off d).heap++os)[b]? =_
  rw [Array.getElem?_append_left (by omega)]
  simp [putRow,mapBlock,Array.getElem?_modify,hb,onCells]
 ·show ((putRow id (Sort.ahead w n) b off d).heap++os)[x]? =_
  rw [Array.getElem?_append_left (by omega)]
  simp [putRow,mapBlock,Array.getElem?_modify,Ne.symm hne]
 ·show _≤((putRow id (Sort.ahead w n) b off d).heap++os).size
  rw [Array.size_append,hsz];omega
theorem aYr {w:World} {b off:Nat} {C:Array Value} {e:TypeId} {fz:Nat×Nat} {d:List Value} (hb:w.heap[b]? =some (.cells (putCells id off d.toArray C) e fz)) (hfit:off+d.length≤C.size):dE w b off d:=by
 refine qI hb ?_
 intro j v hv
 have hj:j < d.length:=(List.getElem?_eq_some_iff.1 hv).1
 rw [List.getElem?_eq_getElem hj] at hv
 simp only [Option.some.injEq] at hv
 subst hv
 simp only [putCells,Array.getElem?_mapIdx]
 have:off+j < C.size:=by omega
 simp [this,hj]
theorem yB:∀l:List aD,(l.flatMap mU).length=l.length * 2
 |[]=>rfl
 |a::l=>by simp only [List.flatMap_cons,List.length_append,yB l,mU,List.length_cons,List.length_nil];omega
theorem flat_get:∀(l:List aD) (t:Nat),t < l.length * 2→(l.flatMap mU)[t]! =(mU l[t / 2]!)[t % 2]!
 |[],t,h=>by simp at h
 |a::l,0,h=>by simp [mU]
 |a::l,1,h=>by simp [mU]
 |a::l,t+2,h=>by
  have ih:=flat_get l t (by simp only [List.length_cons] at h;omega)
  have e1:(t+2) / 2=t / 2+1:=by omega
  have e2:(t+2) % 2=t % 2:=by omega
  rw [e1,e2]
  simpa [mU] using ih
theorem aS4 (l:List aD):flatK mU 2 l.toArray=(l.flatMap mU).toArray:=by
 apply Array.ext
 ·rw [size_flatK];simp only [List.size_toArray,yB]
 ·intro i h1 h2
  simp only [size_flatK,List.size_toArray] at h1
  have g1:=get_flatK mU 2 l.toArray i (by simpa using h1)
  have g2:=flat_get l i h1
  rw [getElem!_pos _ i (by simpa using h1)] at g1
  rw [getElem!_pos _ i (by rw [yB];exact h1)] at g2
  rw [g1]
  simp only [List.getElem_toArray]
  rw [g2]
  simp
theorem aRo {w:World} {E:Env}:∀{l:List aD} {vs:List Value} {fp:List Nat},Rv w E (l.map aF) vs 2 fp→vs=l.flatMap mU∧fp=[]
 |[],vs,fp,h=>by simp only [List.map_nil,Rv] at h;exact ⟨by simp [h.1],h.2⟩
 |s::l,vs,fp,h=>by
  simp only [List.map_cons,Rv] at h
  obtain ⟨cs,rest,f1,f2,rfl,hn,_,h1,h2,rfl⟩:=h
  obtain ⟨rfl,rfl⟩:=aRo h2
  match cs,hn,h1 with
  |[c,d],_,h1=>
   simp only [aF,Rc,R] at h1
   obtain ⟨g1,g2,⟨rfl,rfl⟩,⟨g3,g4,⟨rfl,rfl⟩,rfl,rfl⟩,rfl⟩:=h1
   exact ⟨rfl,rfl⟩
theorem aOe {w:World} {E:Env}:∀(l:List aD),Rv w E (l.map aF) (l.flatMap mU) 2 []
 |[]=>by simp [Rv]
 |s::l=>by
  simp only [List.map_cons,Rv]
  exact ⟨mU s,l.flatMap mU,[],[],rfl,rfl,by simp [mU,encStr,Value.oneCell'],by simp [aF,Rc,R,mU,encStr],aOe l,rfl⟩
theorem aYe {w:World} {b off:Nat} {C:Array Value} {e:TypeId} {fz:Nat×Nat} {d:List Value} (hb:w.heap[b]? =some (.cells C e fz)) (hz:fz.2=0) (hc:dE w b off d) (hfit:off+d.length≤C.size):Holds id w b off d.toArray:=by
 intro j hj
 have hj':j < d.length:=by simpa using hj
 refine ⟨?_,?_⟩
 ·rw [hc j d[j] (List.getElem?_eq_getElem hj')]
  simp [hj']
 ·simp [World.frozen?,hb,hz]
theorem bAy {P:Program} [aB P] {f g:FuncId} {srt:List aD→List aD} (hsl:∀l,(srt l).length=l.length)
  (hc:∀(b off cap:Nat) (zs:List aD) (w:World),HoldsK mU 2 w b off zs.toArray→b < w.heap.size→zs.length < 4611686018427387904→
   Calls P f #[.slice (some ⟨b,off,none⟩) zs.length cap,.func (.func g) #[] #[]] w fun e w'=>e= .returned (.tuple #[])∧∃n os,w'=sortWorldK mU 2 w b off n (srt zs).toArray os)
  (hn:∀(p:Option Addr) (cap:Nat) (w:World),Calls P f #[.slice p 0 cap,.func (.func g) #[] #[]] w fun e w'=>e= .returned (.tuple #[])∧w'=w)
  (l:List aD) (hl:l.length < 4611686018427387904):OkM P f (.sl .own 2 (l.map aF)) (.sl .own 2 ((srt l).map aF)) [.fn g []] (.tup []):=by
 intro w v vs fp hh hlow hr hnd hlt hrest
 have hvs:vs=[.func (.func g) #[] #[]]:=by
  match vs,hrest with
  |[],h=>simp only [Rc] at h
  |[x],h=>
   simp only [Rc,R] at h
   obtain ⟨f1,f2,⟨_,cs,rfl,h1⟩,h2⟩:=h
   cases cs with
   |nil=>rfl
   |cons c cs=>simp only [Rc] at h1
  |x::y::vs,h=>
   simp only [Rc] at h
   obtain ⟨f1,f2,_,h2,_⟩:=h
   exact h2.elim
 subst hvs
 obtain ⟨a,cap,rfl,hlm,ho⟩:=mX.1 hr
 have hln:(srt l).length=l.length:=hsl l
 rcases ho with ⟨h0,h4,rfl⟩|⟨b,off,C,e,fz,fps,rfl,hb,hz,hfit,hlc,hmax,rfl,hrr⟩
 ·have hl0:l=[]:=by simpa using h0
  subst hl0
  have hs0:srt []=[]:=List.eq_nil_of_length_eq_zero (hsl [])
  rw [hs0]
  refine (hn a cap w).mono fun ed w' h=> ?_
  obtain ⟨rfl,rfl⟩:=h
  exact ⟨_,[],rfl,by simp [R,Rc],mX.2 ⟨a,cap,by simp,by simp [maxLen],.inl ⟨by simp,h4,rfl⟩⟩,by simp,by simp,Nat.le_refl _,fun _ _ _=>rfl,Same.rfl⟩
 ·obtain ⟨olds,hv,hcl⟩:=qA.1 hrr
  obtain ⟨rfl,rfl⟩:=aRo hv
  simp only [List.length_map] at hlm hlc
  have hblt:b < w.heap.size:=(Array.getElem?_eq_some_iff.1 hb).1
  have hz0:fz.2=0:=by rcases hz with ⟨_,h⟩|h;exact absurd h (by decide);exact h
  have hfl:off+(l.flatMap mU).length≤C.size:=by rw [yB];omega
  have hH:HoldsK mU 2 w b off l.toArray:=by unfold HoldsK;rw [aS4];exact aYe hb hz0 hcl hfl
  simp only [List.length_map]
  refine (hc b off cap l w hH hblt hl).mono fun ed w' h=> ?_
  obtain ⟨rfl,n,os,rfl⟩:=h
  unfold sortWorldK putRowK
  rw [aS4]
  obtain ⟨k1,k2,k3,k4⟩:=aZm (n:=n) (os:=os) (d:=((srt l).flatMap mU).toArray) (off:=off) hb
  have hsz:(putCells id off ((srt l).flatMap mU).toArray C).size=C.size:=by simp [putCells]
  refine ⟨_,[b],rfl,by simp [R,Rc],mX.2 ⟨some ⟨b,off,none⟩,cap,by simp [hln],by simpa [hln] using hlm,.inr ⟨b,off,_,e,fz,[],rfl,k1,by rw [hsz];exact hz,by rw [hsz];exact hfit,by simpa [hln] using hlc,hmax,rfl,qA.2 ⟨_,aOe _,aYr k1 (by rw [yB,hln,←yB];exact hfl)⟩⟩⟩,by simp,?_,k3,?_,k4⟩
  ·intro x hx
   obtain rfl:x=b:=by simpa using hx
   exact ⟨.inl (by simp),Nat.lt_of_lt_of_le hblt k3⟩
  ·intro x hx hne
   exact k2 x hx fun h=>hne (by simp [h])
end Go.Aw

set_option maxRecDepth 8000
set_option maxHeartbeats 4000000
namespace Go.Proofs.YtaddkhdghlaalaaGreatDoor
open Go.Aw Go.Sort Go.Shelf Go.RowKit Go.Lib
theorem aMp (a b:aD):ltOf cmpAddr a b=rC a b:=by
 unfold ltOf
 cases h:rC a b
 ·rw [decide_eq_false_iff_not,aWv,h];simp
 ·rw [decide_eq_true_iff,aWv,h]
theorem bGv:SWO (ltOf cmpAddr):=by
 refine ⟨fun x=> ?_,fun x y z h1 h2=> ?_,fun x y z h1 h2=> ?_⟩
 ·rw [aMp];exact aG1 x
 ·rw [aMp] at *;exact aDf h1 h2
 ·rw [aMp] at *
  by_cases e1:x=y
  ·rw [e1];exact h2
  ·by_cases e2:y=z
   ·rw [←e2];exact h1
   ·have h3:=aDf (aOb e2 h2) (aOb e1 h1)
    cases h4:rC x z
    ·rfl
    ·have:=aDf h4 h3
     rw [aG1] at this;cases this
def aAz (l:List aD):List aD:=(pdq (ltOf cmpAddr) l.toArray 0 l.toArray.size (Lib.bitLen l.toArray.size) true true).toList
theorem aK3 (l:List aD):(aAz l).Perm l:=by
 have h:=(pdq_sorts (ltOf cmpAddr) bGv l.toArray 0 l.toArray.size (Lib.bitLen l.toArray.size) true true (Nat.zero_le _) (Nat.le_refl _) (Or.inl rfl)).1
 unfold aAz
 generalize pdq (ltOf cmpAddr) l.toArray 0 l.toArray.size (Lib.bitLen l.toArray.size) true true=d at h
 obtain ⟨h1,_,h3⟩:=h
 rw [←h1] at h3
 simp only [Array.extract_size] at h3
 rw [h1] at h3
 simpa using h3
theorem aHe (l:List aD):(aAz l).length=l.length:=(aK3 l).length_eq
theorem bCs (x:aD):∀v∈mU x,v.oneCell'=true:=by
 intro v hv
 simp only [mU,List.mem_cons,List.not_mem_nil,or_false] at hv
 rcases hv with rfl|rfl<;>rfl
set_option maxHeartbeats 4000000 in
theorem aW4 (x y:aD) (W:World):Calls Tryz.prog 30 #[.agg (mU x).toArray,.agg (mU y).toArray] W fun e w'=>e= .returned (.int .i64 (cmpAddr x y))∧∃q os',w'=grow (W.drewN q) os':=by
 have c1:=fun W'=>Any.strings_Compare Tryz.Laysx106 ⟨x.host.toArray⟩ ⟨y.host.toArray⟩ W'
 have c2:=fun W'=>Any.strings_Compare Tryz.Laysx106 ⟨x.path.toArray⟩ ⟨y.path.toArray⟩ W'
 change∀W',Calls Tryz.prog 56 _ _ _ at c1 c2
 unfold cmpAddr
 simp only [List.toList_toArray] at c1 c2
 generalize Lib.compareBytes x.host y.host=r at *
 generalize Lib.compareBytes x.path y.path=s at *
 simp only [mU,encStr]
 by_cases hr:r=0
 ·subst hr
  go_enter Tryz.func30,Tryz.ntmps30
  go_wp2_with (go_at_call 56;first|(refine (c1 _).mono ?_;rintro e w' ⟨rfl,rfl⟩)|(refine (c2 _).mono ?_;rintro e w' ⟨rfl,rfl⟩))
  go_ret
  exact ⟨rfl,0,_,by rw [alloc_eq_grow,alloc_eq_grow,grow_grow];rfl⟩
 ·rw [if_pos hr]
  go_enter Tryz.func30,Tryz.ntmps30
  go_wp2_with (go_at_call 56;first|(refine (c1 _).mono ?_;rintro e w' ⟨rfl,rfl⟩)|(refine (c2 _).mono ?_;rintro e w' ⟨rfl,rfl⟩))
  all_goals first
   |(go_ret;exact ⟨rfl,0,_,by rw [alloc_eq_grow,alloc_eq_grow,grow_grow];rfl⟩)
   |(exfalso;simp_all)
theorem bCz [aB Tryz.prog] (l:List aD) (hl:l.length < 4611686018427387904):OkM Tryz.prog 29 (.sl .own 2 (l.map aF)) (.sl .own 2 ((aAz l).map aF)) [.fn 30 []] (.tup []):=by
 have eg:∀args w,(callFunc 30 args).run Tryz.prog w= .ok (.enter 30 args) w:=enters_of Tryz.func30 (by kernel_rfl) rfl
 refine bAy aHe (fun b off cap zs w hH hb hz=> ?_) (fun p cap w=>AnyF.slices_SortFunc_none Tryz.sortAd p cap _ w) l hl
 have h:=AnyQ.slices_SortFunc_eq Tryz.sortAd 2 Tryz.isAgg25 Tryz.sizeOf25 mU (fun _=>rfl) bCs cmpAddr bGv 30 #[] b off cap zs.toArray w eg (fun _ _ _ _ x y=>aW4 x y _) hH hb hz
 unfold aAz
 simpa using h
theorem aU3 [aB Tryz.prog] (l:List aD) (hl:l.length≤1099511627776) (hd:l.Nodup):OkG Tryz.prog 31 [.give (.sl .own 2 (l.map aF))] (.sl .own 2 (l.map aF)):=by
 refine qD Tryz.mix Tryz.func31 Tryz.ntmps31 ?_
 by_cases h2:l.length < 2
 ·have h2i:(l.length:Int) < 2:=by omega
  have W:=h2i
  refine wl ?_
  all_goals (try (refine ⟨by first|exact .inr rfl|exact .inl rfl,?_⟩;simp [iM,fB,eH,rowOf,Tryz.results31]))
 ·have h2i:¬(l.length:Int) < 2:=by omega
  have W:=h2i
  refine wl ?_
  refine aR (ι:={k:Nat // 1≤k∧k≤l.length}) (fun t o k=>⟨aS t [(3,.int .i64 k.1)],o⟩) (fun k=>l.length - k.1) ⟨1,by omega,by omega⟩ aO ?_
  rintro ⟨k,hk0,hk⟩ K1 hK1
  simp only [aS,List.set_cons_succ,List.set_cons_zero] at hK1⊢
  have hk1:IntKind.i64.wrap ((k:Int)+1)=((k+1:Nat):Int):=by rw [Go.Aw.wrap64]<;>omega
  have hkm:IntKind.i64.wrap ((k:Int) - 1)=((k - 1:Nat):Int):=by rw [Go.Aw.wrap64]<;>omega
  by_cases hlt:k < l.length
  ·have hli:(k:Int) < (l.length:Int):=by omega
   have hlj:((k - 1:Nat):Int) < (l.length:Int):=by omega
   obtain ⟨x,hgx⟩:∃x,l[k]? =some x:=⟨_,List.getElem?_eq_getElem hlt⟩
   obtain ⟨y,hgy⟩:∃y,l[k - 1]? =some y:=⟨_,List.getElem?_eq_getElem (by omega)⟩
   have hne:x≠y:=fun e=>by
    rw [e] at hgx
    have:=(List.getElem?_inj hlt hd).1 (hgx.trans hgy.symm)
    omega
   have he:=pM x y
   rw [decide_eq_false hne] at he
   simp only [aF] at he
   clear hlt
   have W:=And.intro hli (And.intro hlj (And.intro hkm (And.intro hk1 (And.intro hgx hgy))))
   have c0:=he
   repeat' first|refine st ?_|(refine nx ?_;refine so ?_)|(refine cx ?_;first|refine sT ?_|refine sF ?_)|fail
   exact hK1 _ ⟨k+1,by omega,by omega⟩ aO (by simp only;omega)
  ·have hli:¬(k:Int) < (l.length:Int):=by omega
   have W:=hli
   refine wl ?_
   all_goals (try (refine ⟨by first|exact .inr rfl|exact .inl rfl,?_⟩;simp [iM,fB,eH,rowOf,Tryz.results31]))
theorem aJt [aB Tryz.prog] (l:List aD) (hl:l.length≤1099511627776) (hd:l.Nodup):Ok Tryz.prog 9 [.sl .view 2 (l.map aF)] (.sl .own 2 ((aAz l).map aF)):=by
 have cS:=bCz l (by omega)
 have cK:=aU3 (aAz l) (by rw [aHe];exact hl) ((aK3 l).nodup_iff.2 hd)
 refine ent Tryz.mix Tryz.func9 Tryz.ntmps9 ?_
 have W:=trivial
 repeat' first|refine st ?_|(refine nx ?_;first|refine so ?_|refine sm (hc:=cS) (h:=?_)|refine sg (hc:=cK) (h:=?_))|(refine cx ?_;first|refine sT ?_|refine sF ?_)|fail
 exact aM Tryz.results9
end Go.Proofs.YtaddkhdghlaalaaGreatDoor

set_option maxRecDepth 4000
set_option maxHeartbeats 4000000
namespace Go.Proofs.YtaddkhdghlaalaaGreatDoor
open Go.Aw
theorem aQ7 [aB Tryz.prog] (l:List aD) (hl:l.length≤1099511627776):Ok Tryz.prog 7 [.sl .view 2 (l.map aF),.sl .view 2 (l.map aF)] (.bool true):=by
 refine ent Tryz.mix Tryz.func7 Tryz.ntmps7 ?_
 refine bA ?_
 refine aR (ι:={k:Nat // k≤l.length}) (fun t o i=>⟨aS t [(5,.int .i64 i.1)],o⟩)
  (fun i=>l.length - i.1) ⟨0,by simp⟩ aO ?_
 rintro ⟨k,hk⟩ K1 hK1
 simp only [aS,List.set_cons_succ,List.set_cons_zero] at hK1⊢
 have hk1:=wk1 (k:=k) (by omega)
 by_cases hlt:k < l.length
 ·have hg:=List.getElem?_eq_getElem hlt
  have he:=pM l[k] l[k]
  rw [decide_eq_true rfl] at he
  generalize l[k]=a at *
  simp only [aF] at he
  have hli:(k:Int) < (l.length:Int):=by omega
  clear hlt
  have W:=And.intro hk1 (And.intro hg hli)
  have c0:=he
  repeat' first|refine st ?_|(refine nx ?_;refine so ?_)|(refine cx ?_;first|refine sT ?_|refine sF ?_)|fail
  exact hK1 _ ⟨k+1,by omega⟩ aO (by simp only;omega)
 ·have W:=hk1
  refine wl ?_
  exact aM Tryz.results7
end Go.Proofs.YtaddkhdghlaalaaGreatDoor

set_option maxRecDepth 8000
set_option maxHeartbeats 8000000
namespace Go.Proofs.YtaddkhdghlaalaaGreatDoor
open Go.Aw
theorem bHk [aB Tryz.prog] (d:List UInt8) (hd:d.length≤9223372036854775807):Ok Tryz.prog 4 [.sl .view 1 (aT d)] (.bool (decide (1048576 < (d.length:Int)))):=by
 refine ent Tryz.mix Tryz.func4 Tryz.ntmps4 ?_
 have hb:(aT d).length=d.length:=by simp [aT]
 have W:=hb
 refine wl ?_
 exact aM Tryz.results4
theorem aXd {x:AV} (hx:jK [.sl 1 [.int .u8]] [x]):∃d:List UInt8,x= .sl .view 1 (aT d)∧d.length≤9223372036854775807:=by
 obtain ⟨l,rfl,⟨h,_⟩,_⟩:=aXz (e:=fun c:UInt8=>[.int .u8 c.toNat]) (p:=fun _=>True) (q:=fun _=>True) (fun r h=>by
  obtain ⟨n,r',rfl,hn,h⟩:=fits_int h
  obtain rfl:=bCw h
  have hn1:0≤n∧n≤255:=hn
  refine ⟨UInt8.ofNat n.toNat,?_,trivial,trivial⟩
  have e:(((UInt8.ofNat n.toNat).toNat:Nat):Int)=n:=by
   rw [UInt8.toNat_ofNat']
   omega
  rw [e]) hx
 exact ⟨l,rfl,h⟩
end Go.Proofs.YtaddkhdghlaalaaGreatDoor
