/-
  Proved here: steps towards the statement of this claim, text QMD1.
  No condition beyond what each statement spells out.
-/
import Derived.Test.YtgkllebnnakojaaGreatDoorQMD0
import Derived.Test.YtgkllebnnakojaaGreatDoorZ9
import Derived.Shelf.SlSortCmp.WholeK
import Derived.Shelf.SlSortCmp.NoneTotal
import Derived.Shelf.Small.Strs
import Derived.Ground.SlsfProg
import Derived.Ground.NamesProg
import Derived.Test.YtgkllebnnakojaaGreatDoorProg
import Derived.Test.YtgkllebnnakojaaGreatDoorQPL
import Derived.Test.YtgkllebnnakojaaGreatDoorF2
import Derived.Test.YtgkllebnnakojaaGreatDoorF3
import Derived.Sort.Grow
import Derived.Sort.EncStr
set_option linter.all false
set_option maxRecDepth 4000
set_option maxHeartbeats 4000000
namespace Go.Proofs.YtgkllebnnakojaaGreatDoor
open Go.Aw
theorem aS8 (p:aJ) (a:aC):(mI p a || mM p a)=true:=by
 unfold mI mM
 cases h:(bC p a).all (fA p)
 ·simp
 ·have:(bC p a).all (eO p)=true:=by
   rw [List.all_eq_true] at h⊢
   intro x hx
   have h1:=h x hx
   unfold fA at h1
   unfold eO
   split at h1
   ·rename_i m hm
    split at h1
    ·rename_i hc;first|exact hc.1|(rw [hm];exact hc.1)|(simp only [hm];exact hc.1)
    ·cases h1
   ·cases h1
  simp [this]
structure aXz (p : aJ) (a : aC) (m : bQ) : Prop where
  imp : ∀ b ∈ (aN m.body m.to.host).1, (bC p a).any (bG b) = true
  plc : ∀ b ∈ (aN m.body m.to.host).1, (bC p b).any (bG m.to) = false → dZ (bG b) (bC p a) ≤ dZ (bG m.to) (bC p a)
theorem aSs {p:aJ} (a:aC) (h:eQ p.mods) {i:Nat} {m:bQ} (hg:p.mods[i]? =some m) (hd:m.done=true) (hcd:m.code=1) (hr:(bC p a).any (bG m.to)=true):aXz p a m:=by
 obtain ⟨hk,rfl⟩:=List.getElem?_eq_some_iff.1 hg
 have e:=aU8 h hk hd hcd
 have hx:=iX.1 hr
 refine ⟨fun b hb=>iX.2 ((vR p a).1 _ hx b (by rw [e];exact hb)),fun b hb hn=>aLs hx (by rw [e];exact hb) hn⟩
theorem aRj (p:aJ) (a:aC):0 < (bC p a).length∧(bC p a)[(bC p a).length - 1]? =some a:=by
 obtain ⟨l,hl⟩:=aNq p a
 rw [hl]
 simp
end Go.Proofs.YtgkllebnnakojaaGreatDoor

set_option linter.all false
namespace Go.Proofs.YtgkllebnnakojaaGreatDoor
open Go.Shelf
def Tryz.Laysx106_ren:Go.Shelf.Ren:=⟨fun|106=>48|213=>86|265=>123|n=>n,fun|9=>9|3=>3|n=>n,fun|n=>n⟩
theorem Tryz.Laysx106:Go.Proofs.Lays.n106 Tryz.prog Tryz.Laysx106_ren:={
 mixed:=by kernel_rfl
 f106:=Tryz.func48.trans (congrArg some (by kernel_rfl))
 f213:=Tryz.func86.trans (congrArg some (by kernel_rfl))
 f265:=Tryz.func123.trans (congrArg some (by kernel_rfl))
 t3:=Tryz.underlying3
 a3:=Tryz.isAgg3
 z3:=Tryz.sizeOf3
 v3:=Tryz.zeroValue3
 t9:=Tryz.underlying9
 a9:=Tryz.isAgg9
 z9:=Tryz.sizeOf9
 v9:=Tryz.zeroValue9}
def Tryz.sortAd_ren:Go.Shelf.Ren:=⟨fun|6=>23|15=>47|14=>46|28=>84|29=>85|20=>76|21=>77|22=>78|23=>79|24=>80|25=>81|26=>82|27=>83|46=>118|47=>119|48=>120|49=>121|50=>122|57=>144|n=>n,fun|22=>38|24=>25|25=>66|3=>3|39=>93|0=>0|53=>146|55=>148|4=>4|46=>139|45=>138|50=>143|5=>5|9=>9|66=>173|70=>177|76=>195|77=>196|n=>n,fun|n=>n⟩
theorem Tryz.sortAd:Go.Proofs.SlLaysF0.n6 Tryz.prog Tryz.sortAd_ren:={
 mixed:=by kernel_rfl
 f6:=⟨Tryz.f23.name,by decide,Tryz.func23.trans (congrArg some (by kernel_rfl))⟩
 f14:=⟨Tryz.f46.name,by decide,Tryz.func46.trans (congrArg some (by kernel_rfl))⟩
 f15:=Tryz.func47.trans (congrArg some (by kernel_rfl))
 f20:=⟨Tryz.f76.name,by decide,Tryz.func76.trans (congrArg some (by kernel_rfl))⟩
 f21:=⟨Tryz.f77.name,by decide,Tryz.func77.trans (congrArg some (by kernel_rfl))⟩
 f22:=⟨Tryz.f78.name,by decide,Tryz.func78.trans (congrArg some (by kernel_rfl))⟩
 f23:=⟨Tryz.f79.name,by decide,Tryz.func79.trans (congrArg some (by kernel_rfl))⟩
 f24:=⟨Tryz.f80.name,by decide,Tryz.func80.trans (congrArg some (by kernel_rfl))⟩
 f25:=⟨Tryz.f81.name,by decide,Tryz.func81.trans (congrArg some (by kernel_rfl))⟩
 f26:=⟨Tryz.f82.name,by decide,Tryz.func82.trans (congrArg some (by kernel_rfl))⟩
 f27:=⟨Tryz.f83.name,by decide,Tryz.func83.trans (congrArg some (by kernel_rfl))⟩
 f28:=Tryz.func84.trans (congrArg some (by kernel_rfl))
 f29:=Tryz.func85.trans (congrArg some (by kernel_rfl))
 f46:=⟨Tryz.f118.name,by decide,Tryz.func118.trans (congrArg some (by kernel_rfl))⟩
 f47:=Tryz.func119.trans (congrArg some (by kernel_rfl))
 f48:=Tryz.func120.trans (congrArg some (by kernel_rfl))
 f49:=⟨Tryz.f121.name,by decide,Tryz.func121.trans (congrArg some (by kernel_rfl))⟩
 f50:=⟨Tryz.f122.name,by decide,Tryz.func122.trans (congrArg some (by kernel_rfl))⟩
 f57:=⟨Tryz.f144.name,by decide,Tryz.func144.trans (congrArg some (by kernel_rfl))⟩
 t0:=Tryz.underlying0
 a0:=Tryz.isAgg0
 z0:=Tryz.sizeOf0
 v0:=Tryz.zeroValue0
 t3:=Tryz.underlying3
 a3:=Tryz.isAgg3
 z3:=Tryz.sizeOf3
 v3:=Tryz.zeroValue3
 t4:=Tryz.underlying4
 a4:=Tryz.isAgg4
 z4:=Tryz.sizeOf4
 v4:=Tryz.zeroValue4
 t5:=Tryz.underlying5
 a5:=Tryz.isAgg5
 z5:=Tryz.sizeOf5
 v5:=Tryz.zeroValue5
 t9:=Tryz.underlying9
 a9:=Tryz.isAgg9
 z9:=Tryz.sizeOf9
 v9:=Tryz.zeroValue9
 t22:=Tryz.underlying38
 a22:=Tryz.isAgg38
 z22:=Tryz.sizeOf38
 v22:=Tryz.zeroValue38
 t25:=Tryz.underlying66
 a25:=Tryz.isAgg66
 z25:=Tryz.sizeOf66
 v25:=Tryz.zeroValue66
 t39:=Tryz.underlying93
 a39:=Tryz.isAgg93
 z39:=Tryz.sizeOf93
 v39:=Tryz.zeroValue93
 t45:=Tryz.underlying138
 a45:=Tryz.isAgg138
 z45:=Tryz.sizeOf138
 v45:=Tryz.zeroValue138
 t46:=Tryz.underlying139
 a46:=Tryz.isAgg139
 z46:=Tryz.sizeOf139
 v46:=Tryz.zeroValue139
 t50:=Tryz.underlying143
 a50:=Tryz.isAgg143
 z50:=Tryz.sizeOf143
 v50:=Tryz.zeroValue143
 t53:=Tryz.underlying146
 a53:=Tryz.isAgg146
 z53:=Tryz.sizeOf146
 v53:=Tryz.zeroValue146
 t55:=Tryz.underlying148
 a55:=Tryz.isAgg148
 z55:=Tryz.sizeOf148
 v55:=Tryz.zeroValue148
 t66:=Tryz.underlying173
 a66:=Tryz.isAgg173
 z66:=Tryz.sizeOf173
 v66:=Tryz.zeroValue173
 t70:=Tryz.underlying177
 a70:=Tryz.isAgg177
 z70:=Tryz.sizeOf177
 v70:=Tryz.zeroValue177
 t76:=Tryz.underlying195
 a76:=Tryz.isAgg195
 z76:=Tryz.sizeOf195
 v76:=Tryz.zeroValue195
 t77:=Tryz.underlying196
 a77:=Tryz.isAgg196
 z77:=Tryz.sizeOf196
 v77:=Tryz.zeroValue196}
end Go.Proofs.YtgkllebnnakojaaGreatDoor

namespace Go.Aw
instance : Inhabited aC := ⟨⟨[], []⟩⟩
open Go.Sort Go.Proofs
def iR (a:aC):List Value:=[encStr a.host,encStr a.path]
theorem aQk {w:World} {b off n:Nat} {C:Array Value} {e:TypeId} {fz:Nat×Nat} {d:Array Value} {os:Array Obj} (hb:w.heap[b]? =some (.cells C e fz)):
  (grow (putRow id (Sort.ahead w n) b off d) os).heap[b]? =some (.cells (putCells id off d C) e fz)∧(∀x,x < w.heap.size→x≠b→(grow (putRow id (Sort.ahead w n) b off d) os).heap[x]? =w.heap[x]?)∧
  w.heap.size≤(grow (putRow id (Sort.ahead w n) b off d) os).heap.size∧Same w (grow (putRow id (Sort.ahead w n) b off d) os):=by
 have hlt:b < w.heap.size:=(Array.getElem?_eq_some_iff.1 hb).1
 have hsz:(putRow id (Sort.ahead w n) b off d).heap.size=w.heap.size:=by simp
 refine ⟨?_,fun x hx hne=> ?_,?_,⟨rfl,rfl,rfl⟩⟩
 ·show ((putRow id (Sort.ahead w n) b off d).heap++os)[b]? =_
  rw [Array.getElem?_append_left (by omega)]
  simp [putRow,mapBlock,Array.getElem?_modify,hb,onCells]
 ·show ((putRow id (Sort.ahead w n) b off d).heap++os)[x]? =_
  rw [Array.getElem?_append_left (by omega)]
  simp [putRow,mapBlock,Array.getElem?_modify,Ne.symm hne]
 ·show _≤((putRow id (Sort.ahead w n) b off d).heap++os).size
  rw [Array.size_append,hsz];omega
theorem aN5 {w:World} {b off:Nat} {C:Array Value} {e:TypeId} {fz:Nat×Nat} {d:List Value} (hb:w.heap[b]? =some (.cells (putCells id off d.toArray C) e fz)) (hfit:off+d.length≤C.size):bK w b off d:=by
 refine kU hb ?_
 intro j v hv
 have hj:j < d.length:=(List.getElem?_eq_some_iff.1 hv).1
 rw [List.getElem?_eq_getElem hj] at hv
 simp only [Option.some.injEq] at hv
 subst hv
 simp only [putCells,Array.getElem?_mapIdx]
 have:off+j < C.size:=by omega
 simp [this,hj]
theorem rR:∀l:List aC,(l.flatMap iR).length=l.length * 2
 |[]=>rfl
 |a::l=>by simp only [List.flatMap_cons,List.length_append,rR l,iR,List.length_cons,List.length_nil];omega
theorem flat_get:∀(l:List aC) (t:Nat),t < l.length * 2→(l.flatMap iR)[t]! =(iR l[t / 2]!)[t % 2]!
 |[],t,h=>by simp at h
 |a::l,0,h=>by simp [iR]
 |a::l,1,h=>by simp [iR]
 |a::l,t+2,h=>by
  have ih:=flat_get l t (by simp only [List.length_cons] at h;omega)
  have e1:(t+2) / 2=t / 2+1:=by omega
  have e2:(t+2) % 2=t % 2:=by omega
  rw [e1,e2]
  simpa [iR] using ih
theorem aKa (l:List aC):flatK iR 2 l.toArray=(l.flatMap iR).toArray:=by
 apply Array.ext
 ·rw [size_flatK];simp only [List.size_toArray,rR]
 ·intro i h1 h2
  simp only [size_flatK,List.size_toArray] at h1
  have g1:=get_flatK iR 2 l.toArray i (by simpa using h1)
  have g2:=flat_get l i h1
  rw [getElem!_pos _ i (by simpa using h1)] at g1
  rw [getElem!_pos _ i (by rw [rR];exact h1)] at g2
  rw [g1]
  simp only [List.getElem_toArray]
  rw [g2]
  simp
theorem aJb {w:World} {E:Env}:∀{l:List aC} {vs:List Value} {fp:List Nat},Rv w E (l.map aD) vs 2 fp→vs=l.flatMap iR∧fp=[]
 |[],vs,fp,h=>by simp only [List.map_nil,Rv] at h;exact ⟨by simp [h.1],h.2⟩
 |s::l,vs,fp,h=>by
  simp only [List.map_cons,Rv] at h
  obtain ⟨cs,rest,f1,f2,rfl,hn,_,h1,h2,rfl⟩:=h
  obtain ⟨rfl,rfl⟩:=aJb h2
  match cs,hn,h1 with
  |[c,d],_,h1=>
   simp only [aD,Rc,R] at h1
   obtain ⟨g1,g2,⟨rfl,rfl⟩,⟨g3,g4,⟨rfl,rfl⟩,rfl,rfl⟩,rfl⟩:=h1
   exact ⟨rfl,rfl⟩
theorem aG2 {w:World} {E:Env}:∀(l:List aC),Rv w E (l.map aD) (l.flatMap iR) 2 []
 |[]=>by simp [Rv]
 |s::l=>by
  simp only [List.map_cons,Rv]
  exact ⟨iR s,l.flatMap iR,[],[],rfl,rfl,by simp [iR,encStr,Value.oneCell'],by simp [aD,Rc,R,iR,encStr],aG2 l,rfl⟩
theorem aOh {w:World} {b off:Nat} {C:Array Value} {e:TypeId} {fz:Nat×Nat} {d:List Value} (hb:w.heap[b]? =some (.cells C e fz)) (hz:fz.2=0) (hc:bK w b off d) (hfit:off+d.length≤C.size):Holds id w b off d.toArray:=by
 intro j hj
 have hj':j < d.length:=by simpa using hj
 refine ⟨?_,?_⟩
 ·rw [hc j d[j] (List.getElem?_eq_getElem hj')]
  simp [hj']
 ·simp [World.frozen?,hb,hz]
theorem aQl {P:Program} [aB P] {f g:FuncId} {srt:List aC→List aC} (hsl:∀l,(srt l).length=l.length)
  (hc:∀(b off cap:Nat) (zs:List aC) (w:World),HoldsK iR 2 w b off zs.toArray→b < w.heap.size→zs.length < 4611686018427387904→
   Calls P f #[.slice (some ⟨b,off,none⟩) zs.length cap,.func (.func g) #[] #[]] w fun e w'=>e= .returned (.tuple #[])∧∃n os,w'=sortWorldK iR 2 w b off n (srt zs).toArray os)
  (hn:∀(p:Option Addr) (cap:Nat) (w:World),Calls P f #[.slice p 0 cap,.func (.func g) #[] #[]] w fun e w'=>e= .returned (.tuple #[])∧w'=w)
  (l:List aC) (hl:l.length < 4611686018427387904):OkM P f (.sl .own 2 (l.map aD)) (.sl .own 2 ((srt l).map aD)) [.fn g []] (.tup []):=by
 intro w v vs fp hh hlow hr hnd hlt hrest
 have hvs:vs=[.func (.func g) #[] #[]]:=by
  match vs,hrest with
  |[],h=>simp only [Rc] at h
  |[x],h=>
   simp only [Rc,R] at h
   obtain ⟨f1,f2,⟨_,cs,rfl,h1⟩,h2⟩:=h
   cases cs with
   |nil=>rfl
   |cons c cs=>simp only [Rc] at h1
  |x::y::vs,h=>
   simp only [Rc] at h
   obtain ⟨f1,f2,_,h2,_⟩:=h
   exact h2.elim
 subst hvs
 obtain ⟨a,cap,rfl,hlm,ho⟩:=iT.1 hr
 have hln:(srt l).length=l.length:=hsl l
 rcases ho with ⟨h0,h4,rfl⟩|⟨b,off,C,e,fz,fps,rfl,hb,hz,hfit,hlc,hmax,rfl,hrr⟩
 ·have hl0:l=[]:=by simpa using h0
  subst hl0
  have hs0:srt []=[]:=List.eq_nil_of_length_eq_zero (hsl [])
  rw [hs0]
  refine (hn a cap w).mono fun ed w' h=> ?_
  obtain ⟨rfl,rfl⟩:=h
  exact ⟨_,[],rfl,by simp [R,Rc],iT.2 ⟨a,cap,by simp,by simp [maxLen],.inl ⟨by simp,h4,rfl⟩⟩,by simp,by simp,Nat.le_refl _,fun _ _ _=>rfl,Same.rfl⟩
 ·obtain ⟨olds,hv,hcl⟩:=kP.1 hrr
  obtain ⟨rfl,rfl⟩:=aJb hv
  simp only [List.length_map] at hlm hlc
  have hblt:b < w.heap.size:=(Array.getElem?_eq_some_iff.1 hb).1
  have hz0:fz.2=0:=by rcases hz with ⟨_,h⟩|h;exact absurd h (by decide);exact h
  have hfl:off+(l.flatMap iR).length≤C.size:=by rw [rR];omega
  have hH:HoldsK iR 2 w b off l.toArray:=by unfold HoldsK;rw [aKa];exact aOh hb hz0 hcl hfl
  simp only [List.length_map]
  refine (hc b off cap l w hH hblt hl).mono fun ed w' h=> ?_
  obtain ⟨rfl,n,os,rfl⟩:=h
  unfold sortWorldK putRowK
  rw [aKa]
  obtain ⟨k1,k2,k3,k4⟩:=aQk (n:=n) (os:=os) (d:=((srt l).flatMap iR).toArray) (off:=off) hb
  have hsz:(putCells id off ((srt l).flatMap iR).toArray C).size=C.size:=by simp [putCells]
  refine ⟨_,[b],rfl,by simp [R,Rc],iT.2 ⟨some ⟨b,off,none⟩,cap,by simp [hln],by simpa [hln] using hlm,.inr ⟨b,off,_,e,fz,[],rfl,k1,by rw [hsz];exact hz,by rw [hsz];exact hfit,by simpa [hln] using hlc,hmax,rfl,kP.2 ⟨_,aG2 _,aN5 k1 (by rw [rR,hln,←rR];exact hfl)⟩⟩⟩,by simp,?_,k3,?_,k4⟩
  ·intro x hx
   obtain rfl:x=b:=by simpa using hx
   exact ⟨.inl (by simp),Nat.lt_of_lt_of_le hblt k3⟩
  ·intro x hx hne
   exact k2 x hx fun h=>hne (by simp [h])
end Go.Aw
