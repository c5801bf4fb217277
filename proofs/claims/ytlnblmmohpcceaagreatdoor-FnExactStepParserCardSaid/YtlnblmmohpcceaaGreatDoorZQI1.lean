/- Proved here: steps towards the statement of this claim. No condition. -/
import Derived.Shelf.Spec.SlicesInsertGrow
import Derived.Test.YtlnblmmohpcceaaGreatDoorZQRCB
import Derived.Test.YtlnblmmohpcceaaGreatDoorZQN1
set_option linter.all false
set_option maxRecDepth 100000
set_option maxHeartbeats 4000000
namespace Go.Proofs.YtlnblmmohpcceaaGreatDoor
open Go.Aw Go.Shelf Go.RowKit Go.Lib Proofs.Tryz List IntKind
theorem TK (w:World) (b off n c i vb voff vc:Nat) (C Cv:Array Value) (e ev:TypeId) (fz Ua:Nat×Nat) (olds news:List Value) (hi:i < n) (hroom:n+1<=c)
  (hb:w.heap[b]? =some (.cells C e fz)) (hz:(C.size<=fz.1/\5=1)\/fz.2=0) (hc:bD w b off olds) (hol:olds.length=n * 5) (H9:∀v∈olds,v.oneCell'=true)
  (hfit:off+c * 5<=C.size) (hmax:c<=maxLen) (hne:vb≠b) (hvb:w.heap[vb]? =some (.cells Cv ev Ua)) (hzv:(Cv.size<=Ua.1/\5=1)\/Ua.2=0) (hcv:bD w vb voff news) (hnl:news.length=5) (KU:∀v∈news,v.oneCell'=true):
  Calls prog 300 #[.slice (some ⟨b,off,none⟩) n c,.int .i64 i,.slice (some ⟨vb,voff,none⟩) 1 vc] w fun ed w'=>∃v b' off' cap' C' e' Pb,ed= .returned v/\Pz w w' b 5 (n+1) (olds.take (i * 5)++news++olds.drop (i * 5)) v b' off' cap' C' e' Pb:=by
 have hfz:fz.2=0:=by rcases hz with ⟨_,h⟩|h;cases h;exact h
 have aL6:Ua.2=0:=by rcases hzv with ⟨_,h⟩|h;cases h;exact h
 have hC5:C.size≠0:=by omega
 have hfr:∀x,w.frozen? ⟨vb,x,none⟩=false:=fun x=>by simp [World.frozen?,hvb,aL6]
 have hz2:¬((i:Int)=(n:Int)):=by omega
 have V9:c<=9223372036854775807:=hmax
 have hov:∀o lb cb,(callFunc 316 #[.slice (some ⟨vb,voff,none⟩) 1 vc,.slice (some ⟨b,o,none⟩) lb cb]).run prog w= .ok (.value (.bool false)) w:=fun o lb cb=>by
  rw [run_callFunc_extern func316 (by kernel_rfl) (by kernel_rfl) (by kernel_rfl) (e:=Extern.SlicesOverlaps.overlaps #[39,39] #[4]) (by kernel_rfl),
   Lib.run_overlaps_apart w 39 4 98 Tryz.underlying39 5 Tryz.sizeOf98 ⟨vb,voff,none⟩ ⟨b,o,none⟩ 1 vc lb cb hne ev e Cv.size C.size (by simp [World.shape?,hvb]) (by simp [World.shape?,hb]) hC5 (hfr _) (hfr _)]
  rfl
 have nu:(olds.drop (i * 5)).length=(n - i) * 5:=by rw [length_drop,hol];omega
 have hw1:i64.wrap ((i:Int)+1)=(i:Int)+1:=by rw [IntKind.wrap_i64];omega
 have hw2:i64.wrap ((n:Int)+1)=(n:Int)+1:=by rw [IntKind.wrap_i64];omega
 have mixed:prog.follows .mixedOrders=true:=by kernel_rfl
 have hb1:(0:Int)<=(i:Int)+1:=by omega
 have hin:i<=n:=by omega
 have hb2:¬(c=i+1):=by omega
 have hb3:(i:Int)<=(n:Int)+1:=by omega
 have hb4:¬(c=i):=by omega
 obtain ⟨inf,Fv,hsz⟩:=Option.map_eq_some_iff.1 (show (prog.info? 98).map (·.size)=some 5 by kernel_rfl)
 obtain ⟨W1,hW1⟩:∃W1,W1=w.drew.setCells b (off+(i+1) * 5) (olds.drop (i * 5)):=⟨_,rfl⟩
 have hWh:W1.heap=(w.setCells b (off+(i+1) * 5) (olds.drop (i * 5))).heap:=by rw [hW1];exact Nj _ _ rfl
 have hWs:lU w W1:=by rw [hW1];exact lU.trans (b:=w.drew) ⟨rfl,rfl,rfl⟩ (iY _ _ _ _)
 have hcp1:∀ty,(Builtin.copy_ #[39,39] ty #[.slice (some ⟨b,off+(i+1) * 5,none⟩) (n - i) (c - (i+1)),.slice (some ⟨b,off+i * 5,none⟩) (n+1 - i) (c - i)]).run prog w.drew= .ok (goInt ((n - i:Nat):Int)) W1:=fun ty=>by
  rw [hW1]
  exact BO Tryz.underlying39 Fv (by simp only [Nat.min_def];split<;>omega) (by rw [nu,hsz]) (show bD w.drew b (off+i * 5) (olds.drop (i * 5)) from hc.drop) hb hz (by rw [nu];omega) (fun v hv=>H9 v (mem_of_mem_drop hv))
 obtain ⟨C1,Vi,GI⟩:=iB b e fz (olds.drop (i * 5)) (off+(i+1) * 5) w C hb
 rw [<-hWh] at Vi
 have hcp2:∀ty,(Builtin.copy_ #[39,39] ty #[.slice (some ⟨b,off+i * 5,none⟩) (n+1 - i) (c - i),.slice (some ⟨vb,voff,none⟩) 1 vc]).run prog W1= .ok (goInt ((1:Nat):Int)) (W1.setCells b (off+i * 5) news):=fun ty=>
  BO Tryz.underlying39 Fv (by simp only [Nat.min_def];split<;>omega) (by rw [hnl,hsz]) (bD.heap (rP hcv (fun h=>absurd h hne)) hWh) Vi (by rw [GI];exact hz) (by rw [GI];omega) KU
 have fin:∃v b' off' cap' C' e' Pb,Ending.returned (.slice (some ⟨b,off,none⟩) (n+1) c)= .returned v/\Pz w (W1.setCells b (off+i * 5) news) b 5 (n+1) (olds.take (i * 5)++news++olds.drop (i * 5)) v b' off' cap' C' e' Pb:=by
  obtain ⟨C',h⟩:=XW (k:=5) (c:=c) hb hz hc hol hnl hi hroom hfit hmax hWh hWs
  exact ⟨_,_,_,_,_,_,_,rfl,h⟩
 go_enter func300,ntmps300
 go_wp2_with (simp only [hov])
 clear hb hz hc hol H9 hfit hmax hvb hzv hcv hnl KU hfz aL6 hC5 hfr hov nu Fv hsz hW1 hWh hWs Vi GI
 go_region_law_o (refine step_copy_runI rfl _ _ 39 39 rfl (.slice (some ⟨b,off+(i+1) * 5,none⟩) (n - i) (c - (i+1))) (.slice (some ⟨b,off+i * 5,none⟩) (n+1 - i) (c - i)) (by simp [Act.eval,Act.put]) (by simp [Act.eval,Act.put]) (hcp1 _) ?_)
 go_wp2_with (at_builtin;refine wpList_copy_runI _ rfl _ _ 39 39 rfl _ _ rfl rfl (hcp2 _) ?_)
 go_ret
 exact fin
theorem Wd (w:World) (b off n c i vb voff vc:Nat) (C Cv:Array Value) (e ev:TypeId) (fz Ua:Nat×Nat) (olds news:List Value) (hi:i < n) (hroom:c < n+1) (hn:n<=1099511627776)
  (hb:w.heap[b]? =some (.cells C e fz)) (hz:(C.size<=fz.1/\5=1)\/fz.2=0) (hc:bD w b off olds) (hol:olds.length=n * 5) (H9:∀v∈olds,v.oneCell'=true)
  (hfit:off+c * 5<=C.size) (hnc:n<=c) (hmax:c<=maxLen) (hne:vb≠b) (hvb:w.heap[vb]? =some (.cells Cv ev Ua)) (hzv:(Cv.size<=Ua.1/\5=1)\/Ua.2=0) (hcv:bD w vb voff news) (hnl:news.length=5) (KU:∀v∈news,v.oneCell'=true):
  Calls prog 300 #[.slice (some ⟨b,off,none⟩) n c,.int .i64 i,.slice (some ⟨vb,voff,none⟩) 1 vc] w fun ed w'=>∃v b' off' cap' C' e' Pb,ed= .returned v/\Pz w w' b 5 (n+1) (olds.take (i * 5)++news++olds.drop (i * 5)) v b' off' cap' C' e' Pb:=by
 have hz2:¬((i:Int)=(n:Int)):=by omega
 have hz3:(c:Int) < (n:Int)+1:=by omega
 have hw1:i64.wrap ((i:Int)+1)=(i:Int)+1:=by rw [IntKind.wrap_i64];omega
 have hw2:i64.wrap ((n:Int)+1)=(n:Int)+1:=by rw [IntKind.wrap_i64];omega
 have hw3:i64.wrap ((n:Int)+1 - (i:Int))=(n:Int)+1 - (i:Int):=by rw [IntKind.wrap_i64];omega
 have mixed:prog.follows .mixedOrders=true:=by kernel_rfl
 have hb1:(0:Int)<=(i:Int)+1:=by omega
 have hin:i<=n:=by omega
 have hic:i<=c:=by omega
 have hb3:(i:Int)<=(n:Int)+1:=by omega
 have hb4:¬(c=i):=by omega
 have hlt:∀{x:Nat} {q},w.heap[x]? =some q->x < w.heap.size:=fun h=>(Array.getElem?_eq_some_iff.1 h).1
 have nu:(olds.drop (i * 5)).length=(n - i) * 5:=by rw [length_drop,hol];omega
 have htl:(olds.take (i * 5)).length=i * 5:=by rw [length_take,hol];omega
 obtain ⟨inf,Fv,hq⟩:=Option.map_eq_some_iff.1 (show (prog.info? 98).map (fun i=>(i.size,i.bytes))=some (5,64) by kernel_rfl)
 obtain ⟨hsz,hby⟩:=Prod.mk.inj hq
 obtain ⟨z,hz0,hzc⟩:∃z,inf.zero=some z/\z.cells.size=5:=by
  have h:=Tryz.zsz98
  simp only [bL,Fv] at h
  cases hz:inf.zero with
  |none=>simp [hz] at h
  |some z=>exact ⟨z,rfl,by simpa [hz] using h⟩
 obtain ⟨G,hG⟩:∃G,G=grownCap w (n+1) c 98:=⟨_,rfl⟩
 have hGn:n+1<=G:=by rw [hG];exact grownCap_ge _ _ _ _
 have hGm:G<=maxLen:=by rw [hG];exact grownCap_le_maxLen _ _ _ _ (by simp [maxLen];omega)
 have hG63:G<=9223372036854775807:=hGm
 obtain ⟨ROW,hROW⟩:∃ROW:Array Value,ROW=(olds.take (i * 5)).toArray++Builtin.zeroCells z.cells (n+1 - i)++Builtin.zeroCells z.cells (G - (n+1)):=⟨_,rfl⟩
 have hRs:ROW.size=G * 5:=by
  rw [hROW]
  simp only [Array.size_append,size_toArray,size_zeroCells,hzc,htl,<-Nat.add_mul]
  congr 1;omega
 have hR:∀(j:Nat) (v:Value),(olds.take (i * 5))[j]? =some v->ROW[j]? =some v:=fun j v hv=>by
  rw [hROW,Array.append_assoc,Array.getElem?_append_left (by simpa using (List.getElem?_eq_some_iff.1 hv).1)]
  simpa using hv
 obtain ⟨W1,hW1⟩:∃W1,W1=w.drew.alloc (.cells ROW 98):=⟨_,rfl⟩
 have hrz:∀ty,(Builtin.append_ #[39,3] ty #[.slice (some ⟨b,off,none⟩) i c,.int .i64 ((n:Int)+1 - (i:Int))]).run prog w= .ok (.slice (some ⟨w.heap.size,0,none⟩) (n+1) G) W1:=fun ty=>by
  have h:=Lib.run_append_grow_zeros w 39 3 ty 98 inf z .i64 .i64 Tryz.underlying39 Tryz.underlying3 Fv hz0 (some ⟨b,off,none⟩) i c (olds.take (i * 5))
   (by rw [hsz];exact iZ htl (show bD w.drew b off (olds.take (i * 5)) from hc.take)) (n+1 - i) (by omega) (by omega) (by omega) (by omega) (by rw [hby];omega) (by rw [hby,show i+(n+1 - i)=n+1 by omega];exact growslice_fits hroom (by omega))
  rw [show i+(n+1 - i)=n+1 by omega,<-hG,<-hROW,<-hW1] at h
  rw [show (n:Int)+1 - (i:Int)=((n+1 - i:Nat):Int) by omega]
  exact h
 have hN:W1.heap[w.heap.size]? =some (.cells ROW 98 (0,0)):=by rw [hW1];exact eD w.drew _
 have hO:∀x,x < w.heap.size->W1.heap[x]? =w.heap[x]?:=fun x hx=>by rw [hW1];exact heap_alloc w.drew _ x hx
 have hs1:lU w W1:=by rw [hW1];exact ⟨rfl,rfl,rfl⟩
 obtain ⟨W2,hW2⟩:∃W2,W2=W1.setCells w.heap.size (i * 5) news:=⟨_,rfl⟩
 have hs2:lU W1 W2.drew:=by rw [hW2];exact (iY _ _ _ _).trans ⟨rfl,rfl,rfl⟩
 have hcp1:∀ty,(Builtin.copy_ #[39,39] ty #[.slice (some ⟨w.heap.size,i * 5,none⟩) (n+1 - i) (G - i),.slice (some ⟨vb,voff,none⟩) 1 vc]).run prog W1= .ok (goInt ((1:Nat):Int)) W2:=fun ty=>by
  rw [hW2]
  exact BO Tryz.underlying39 Fv (by simp only [Nat.min_def];split<;>omega) (by rw [hnl,hsz]) (hcv.same (hO _ (hlt hvb))) hN (q:=True) (.inr rfl) (by omega) KU
 obtain ⟨C1,Vi,GI⟩:=iB w.heap.size 98 (0,0) news (i * 5) W1 ROW hN
 rw [<-hW2] at Vi
 have hcp2:∀ty,(Builtin.copy_ #[39,39] ty #[.slice (some ⟨w.heap.size,(i+1) * 5,none⟩) (n - i) (G - (i+1)),.slice (some ⟨b,off+i * 5,none⟩) (n - i) (c - i)]).run prog W2.drew= .ok (goInt ((n - i:Nat):Int)) (W2.drew.setCells w.heap.size ((i+1) * 5) (olds.drop (i * 5))):=fun ty=>
  BO (w:=W2.drew) Tryz.underlying39 Fv (by simp only [Nat.min_def];split<;>omega) (by rw [nu,hsz]) (show bD W2.drew b (off+i * 5) (olds.drop (i * 5)) from by
   refine bD.heap (w:=W2) ?_ rfl
   rw [hW2]
   exact rP (hc.drop.same (hO _ (hlt hb))) (fun h=>absurd h (by have:=hlt hb;omega))) (show W2.drew.heap[w.heap.size]? =_ from Vi) (q:=True) (.inr rfl) (by rw [GI];omega) (fun v hv=>H9 v (mem_of_mem_drop hv))
 have fin:∃v b' off' cap' C' e' Pb,Ending.returned (.slice (some ⟨w.heap.size,0,none⟩) (n+1) G)= .returned v/\Pz w (W2.drew.setCells w.heap.size ((i+1) * 5) (olds.drop (i * 5))) b 5 (n+1) (olds.take (i * 5)++news++olds.drop (i * 5)) v b' off' cap' C' e' Pb:=by
  obtain ⟨C',h⟩:=ic (k:=5) (b:=b) (cap:=G) hol hnl hi hR (by omega) hGn hGm hN hO hs1 (show W2.drew.heap=_ by rw [hW2];rfl) hs2
  exact ⟨_,_,_,_,_,_,_,rfl,h⟩
 have hG4:¬(G=i):=by omega
 have hG5:¬(G=i+1):=by omega
 clear hb hz hc hol H9 hfit hmax hvb hzv hcv hnl KU nu htl Fv hq hsz hby hz0 hzc hG hROW hRs hR hW1 hN hO hs1 hW2 hs2 Vi GI hlt
 go_enter func300,ntmps300
 go_wp2_with (first
  |(at_builtin;refine Lib.wpList_append_run _ rfl _ _ _ _ rfl _ _ rfl rfl _ _ (hrz _) ?_)
  |(at_builtin;refine wpList_copy_runI _ rfl _ _ 39 39 rfl _ _ rfl rfl (hcp1 _) ?_))
 go_region_law_o (refine step_copy_runI rfl _ _ 39 39 rfl (.slice (some ⟨w.heap.size,(i+1) * 5,none⟩) (n - i) (G - (i+1))) (.slice (some ⟨b,off+i * 5,none⟩) (n - i) (c - i)) (by simp [Act.eval,Act.put]) (by simp [Act.eval,Act.put]) (hcp2 _) ?_)
 go_wp2
 go_ret
 exact fin
theorem EK (w:World) (base:Option Addr) (n c vb voff vc:Nat) (v':Value) (w':World) (Q:Ending->World->Prop) (hnc:n<=c) (hmax:c<=9223372036854775807) (hnil:base=none->n=0)
  (hrun:∀ty,(Builtin.append_ #[39,39] ty #[.slice base n c,.slice (some ⟨vb,voff,none⟩) 1 vc]).run prog w= .ok v' w') (fin:Q (.returned v') w'):
  Calls prog 300 #[.slice base n c,.int .i64 n,.slice (some ⟨vb,voff,none⟩) 1 vc] w Q:=by
 have mixed:prog.follows .mixedOrders=true:=by kernel_rfl
 go_enter func300,ntmps300
 cases base with
 |none=>
  have h0:=hnil rfl
  subst h0
  go_wp2_with (at_builtin;refine Lib.wpList_append_run _ rfl _ _ _ _ rfl _ _ rfl rfl _ _ (hrun _) ?_)
  exact fin
 |some a=>
  obtain ⟨ab,ao,asp⟩:=a
  go_wp2_with (at_builtin;refine Lib.wpList_append_run _ rfl _ _ _ _ rfl _ _ rfl rfl _ _ (hrun _) ?_)
  all_goals exact fin
end Go.Proofs.YtlnblmmohpcceaaGreatDoor

set_option maxRecDepth 4000
set_option maxHeartbeats 4000000
namespace Go.Proofs.YtlnblmmohpcceaaGreatDoor
open Go.Aw Proofs.Tryz List IntKind
set_option maxRecDepth 100000
theorem ny [aD prog] (l:List dD) (m:dD) (i:Nat) (hi:i < l.length) (hn:l.length<=1099511627776):IJ prog 300 [.mE (.sl .own 5 (l.map bO)),.view (.int .i64 i),.mE (.sl .own 5 [bO m])] (.sl .own 5 ((l.take i++m::l.drop i).map bO)):=by
 have h:=aCz (P:=prog) (f:=300) (n:=l.length) (i:=i) (k:=5) (l:=l.map bO) (x:=bO m) (by simp) hi (by simp [all_map,Co]) (by simp [Co])
  (fun w b off c C e fz olds news vb voff vc Cv ev Ua hb hz hc hol H9 hfit hnc hmax hne hvb hzv hcv hnl KU=>by
   by_cases hr:l.length+1<=c
   ·exact TK w b off l.length c i vb voff vc C Cv e ev fz Ua olds news hi hr hb hz hc hol H9 hfit hmax hne hvb hzv hcv hnl KU
   ·exact Wd w b off l.length c i vb voff vc C Cv e ev fz Ua olds news hi (by omega) hn hb hz hc hol H9 hfit hnc hmax hne hvb hzv hcv hnl KU)
 rw [<-map_take,<-map_drop,append_assoc] at h
 simpa using h
theorem YK [aD prog] (l:List dD) (m:dD) (hn:l.length<=1099511627776):IJ prog 300 [.mE (.sl .own 5 (l.map bO)),.view (.int .i64 l.length),.mE (.sl .own 5 [bO m])] (.sl .own 5 ((l++[m]).map bO)):=by
 have h:=Vk (P:=prog) (f:=300) (n:=l.length) (k:=5) (l:=l.map bO) (x:=bO m) (by simp) (by simp [all_map,Co]) (by simp [Co])
  (fun w base bb c olds news vb voff vc hol hnc hmax hcv hnl KU hor=>by
   obtain ⟨inf,Fv,hq⟩:=Option.map_eq_some_iff.1 (show (prog.info? 98).map (fun i=>(i.size,i.bytes))=some (5,64) by kernel_rfl)
   obtain ⟨hsz,hby⟩:=Prod.mk.inj hq
   obtain ⟨z,hz0,hzc⟩:=wE Tryz.zsz98 Fv
   have V9:c<=9223372036854775807:=hmax
   have holds:∀w',w'.heap=w.heap->(Builtin.firstCells inf.size l.length (.slice base l.length c)).run prog w'= .ok olds.toArray w':=by
    intro w' Zg
    rcases hor with ⟨h0,h1⟩|⟨off,C,e,fz,rfl,hb,hz,hc,hfit⟩
    ·rw [h0] at hol⊢
     obtain rfl:=eq_nil_of_length_eq_zero (by simpa using hol)
     cases base with
     |none=>simp [Builtin.firstCells]
     |some a'=>simp [Builtin.firstCells,loadCells,loadCellsFrom]
    ·rw [hsz]
     exact iZ hol (hc.heap Zg)
   obtain ⟨hroom,uk⟩:=EW (P:=prog) (w:=w) (tS:=39) (xT:=39) (ty:=39) Tryz.underlying39 ⟨_,Tryz.underlying39,fun k h=>by cases h⟩ Fv hz0 (base:=base) (sLen:=l.length) (sCap:=c) (n:=1) (x:= .slice (some ⟨vb,voff,none⟩) 1 vc)
    (by simp [Builtin.lenOf]) (news:=news) (olds:=olds) (fun w' Zg=>by rw [hsz];exact iZ (by omega) (hcv.heap Zg)) holds (by rw [hby];omega) (by omega)
   by_cases hr:l.length+1<=c
   ·rcases hor with ⟨h0,h1⟩|⟨off,C,e,fz,rfl,hb,hz,hc,hfit⟩
    ·omega
    ·have hst:=pW (P:=prog) (off:=off+l.length * 5) hb hz (by rw [hnl];have:=Nat.mul_le_mul_right 5 hr;omega) KU
     have hrun:=hroom hr _ (by rw [hsz];simpa [addr_add] using hst)
     obtain ⟨C',hI⟩:=SK (k:=5) hb hz hc hol hnl hr hfit hmax
     exact EK w _ l.length c vb voff vc _ _ _ hnc V9 (fun h=>by cases h) (fun ty=>hrun) ⟨_,_,_,_,_,_,_,rfl,hI⟩
   ·have hrun:=uk (by omega)
    have hgc:=grownCap_ge w (l.length+1) c 98
    have hgm:grownCap w (l.length+1) c 98<=maxLen:=grownCap_le_maxLen _ _ _ _ (by simp [maxLen];omega)
    obtain ⟨C',hI⟩:=SN (w:=w) (b:=bb) (n:=l.length) (k:=5) (cap:=grownCap w (l.length+1) c 98) (e:=98) (olds:=olds) (news:=news) (ROW:=olds.toArray++news.toArray++Builtin.zeroCells z.cells (grownCap w (l.length+1) c 98 - (l.length+1)))
     (fun j v hv=>by
      rw [show olds.toArray++news.toArray=(olds++news).toArray by simp,Array.getElem?_append_left (by simpa using (List.getElem?_eq_some_iff.1 hv).1)]
      simpa using hv)
     (by simp only [Array.size_append,size_toArray,size_zeroCells,hzc,hol,hnl];omega) hgc hgm
    exact EK w _ l.length c vb voff vc _ _ _ hnc V9 (fun h=>by
     subst h
     rcases hor with ⟨h0,h1⟩|⟨off,C,e,fz,h,_⟩
     ·exact h0
     ·cases h) (fun ty=>hrun) ⟨_,_,_,_,_,_,_,rfl,hI⟩)
 simpa using h
theorem Rx [aD prog] (l:List dD) (m:dD) (i:Nat) (hi:i<=l.length) (hn:l.length<=1099511627776):IJ prog 300 [.mE (.sl .own 5 (l.map bO)),.view (.int .i64 i),.mE (.sl .own 5 [bO m])] (.sl .own 5 ((l.take i++m::l.drop i).map bO)):=by
 by_cases h:i < l.length
 ·exact ny l m i h hn
 ·obtain rfl:i=l.length:=by omega
  simpa using YK l m hn
end Go.Proofs.YtlnblmmohpcceaaGreatDoor

namespace Go.Aw
open List
theorem ag:∀a b:List UInt8,Lib.compareBytes a b=if a=b then 0 else if Op.bytesLess a b=true then -1 else 1
 |[],[]=>rfl
 |[],_::_=>by simp [Lib.compareBytes,Op.bytesLess]
 |_::_,[]=>by simp [Lib.compareBytes,Op.bytesLess]
 |x::xs,y::ys=>by
  have ih:=ag xs ys
  simp only [Lib.compareBytes,Op.bytesLess]
  by_cases h:x < y
  ·have hne:x≠y:=UInt8.ne_of_lt h
   simp [h,hne]
  ·by_cases h2:y < x
   ·have hne:x≠y:=(UInt8.ne_of_lt h2).symm
    simp [h,h2,hne]
   ·have he:x=y:=UInt8.le_antisymm (UInt8.not_lt.1 h2) (UInt8.not_lt.1 h)
    subst he
    simp [h,ih]
theorem We {P:Program} [aD P] {f:FuncId} {fn:Func} (hf:P.funcs[f]? =some fn) (UM:(fn.name == "runtime.NumGoroutine")=false)
  (hb:fn.body.isNone=true) (hn:Extern.findNext fn=none) (he:Extern.find fn=some Extern.BytealgCompare.compare) (s t:bC):
  OkN P f [.str s,.str t] (.int .i64 (Lib.compareBytes s t)):=by
 intro w vs h
 obtain ⟨v1,h⟩:∃v:Value,vs=[.string ⟨s.toArray⟩,.string ⟨t.toArray⟩]:=by
  cases vs with
  |nil=>simp [Rc] at h
  |cons a vs=>cases vs with
   |nil=>simp [Rc] at h
   |cons b vs=>cases vs with
    |nil=>
     simp only [Rc,R] at h
     obtain ⟨f1,f2,h1,h2,h3⟩:=h
     obtain ⟨f3,f4,h4,h5,h6⟩:=h2
     exact ⟨a,by rw [h1.1,h4.1]⟩
    |cons d vs=>
     simp only [Rc,R] at h
     obtain ⟨f1,f2,h1,h2,h3⟩:=h
     obtain ⟨f3,f4,h4,h5,h6⟩:=h2
     simp [Rc] at h5
 subst h
 refine ⟨.int .i64 (Lib.compareBytes s t),w,?_,rfl,lU.rfl,fun _ _=>by simp [R]⟩
 rw [run_callFunc_extern hf UM hb hn he,show [Value.string ⟨s.toArray⟩,Value.string ⟨t.toArray⟩].toArray=#[Value.string ⟨s.toArray⟩,Value.string ⟨t.toArray⟩] from rfl,Go.Lib.run_compareString]
 rfl
end Go.Aw

set_option maxRecDepth 4000
set_option maxHeartbeats 4000000
namespace Go.Proofs.YtlnblmmohpcceaaGreatDoor
open Go.Aw Proofs.Tryz List IntKind
theorem TL [aD prog] (s t:bC):OkN prog 336 [.str s,.str t] (.int .i64 (Lib.compareBytes s t)):=
 We (fn:=f336) (by kernel_rfl) (by decide+kernel) rfl (by decide+kernel) (by rfl) s t
theorem Jw [aD prog] (s t:bC):Ok prog 325 [.str s,.str t] (.int .i64 (Lib.compareBytes s t)):=by
 refine bR aAc func325 ntmps325 ?_
 have W:=trivial
 have c0:=TL s t
 repeat' first|refine we ?_|(refine sq ?_ ?_<;>intro hc<;>try exact hc.elim)|fail
 all_goals try(refine ⟨.inr rfl,?_⟩;simp [aB,results325])
theorem Ap [aD prog] (s t:bC):Ok prog 315 [.str s,.str t] (.int .i64 (Lib.compareBytes s t)):=by
 refine bR aAc func315 ntmps315 ?_
 have W:=trivial
 have c0:=Jw s t
 repeat' first|refine we ?_|(refine sq ?_ ?_<;>intro hc<;>try exact hc.elim)|fail
 all_goals try(refine ⟨.inr rfl,?_⟩;simp [aB,results315])
def qO (a b:aT):Int:=if Lib.compareBytes a.host b.host≠0 then Lib.compareBytes a.host b.host else Lib.compareBytes a.path b.path
theorem Eo [aD prog] (a b:aT):Ok prog 299 [.agg (aK a),.agg (aK b)] (.int .i64 (qO a b)):=by
 have c1:=Ap a.host b.host
 have c2:=Ap a.path b.path
 unfold qO
 generalize Lib.compareBytes a.host b.host=x at *
 generalize Lib.compareBytes a.path b.path=y at *
 by_cases hx:x=0
 ·refine bR aAc func299 ntmps299 ?_
  have W:=hx
  repeat' first|refine we ?_|(refine sq ?_ ?_<;>intro hc<;>try exact hc.elim)|fail
  all_goals try(refine ⟨.inr rfl,?_⟩;simp [aB,results299,hx])
 ·refine bR aAc func299 ntmps299 ?_
  have W:=hx
  repeat' first|refine we ?_|(refine sq ?_ ?_<;>intro hc<;>try exact hc.elim)|fail
  all_goals try(refine ⟨.inr rfl,?_⟩;simp [aB,results299,hx])
theorem AJ:∀l:List UInt8,Op.bytesLess l l=false
 |[]=>rfl
 |x::l=>by simp [Op.bytesLess,AJ l,UInt8.lt_irrefl]
theorem Wh (a b:aT):qO a b=if a=b then 0 else if (Op.bytesLess a.host b.host || (a.host == b.host&&Op.bytesLess a.path b.path))=true then -1 else 1:=by
 unfold qO
 obtain ⟨h1,p1⟩:=a
 obtain ⟨h2,p2⟩:=b
 simp only [ag,aT.mk.injEq]
 by_cases e1:h1=h2
 ·subst e1
  by_cases e2:p1=p2
  ·simp [e2]
  ·have:=AJ h1
   simp [e2,this]
 ·cases hb:Op.bytesLess h1 h2<;>simp [e1,hb]
theorem Ep [aD prog] (a b:aT):Ok prog 296 [.agg (aK a),.agg (aK b)] (.int .i64 (qO a b)):=by
 rw [Wh]
 have c1:=yB a b
 by_cases he:a=b
 ·subst he
  simp only [aK,decide_true] at c1
  refine bR aAc func296 ntmps296 ?_
  have W:=trivial
  have c0:=c1
  repeat' first|refine we ?_|(refine sq ?_ ?_<;>intro hc<;>try exact hc.elim)|fail
  all_goals try(refine ⟨.inr rfl,?_⟩;simp [aB,results296])
 ·simp only [aK,he,decide_false] at c1
  simp only [he,if_false]
  cases h1:Op.bytesLess a.host b.host
  ·by_cases h2:a.host=b.host
   ·rw [h2] at c1
    have h0:=AJ b.host
    cases h3:Op.bytesLess a.path b.path
    ·refine bR aAc func296 ntmps296 ?_
     have W:=aA h0 (aA h1 (aA h2 h3))
     have c0:=c1
     repeat' first|refine we ?_|(refine sq ?_ ?_<;>intro hc<;>try exact hc.elim)|fail
     all_goals try(refine ⟨.inr rfl,?_⟩;simp [aB,results296,h0,h1,h2,h3])
    ·refine bR aAc func296 ntmps296 ?_
     have W:=aA h0 (aA h1 (aA h2 h3))
     have c0:=c1
     repeat' first|refine we ?_|(refine sq ?_ ?_<;>intro hc<;>try exact hc.elim)|fail
     all_goals try(refine ⟨.inr rfl,?_⟩;simp [aB,results296,h0,h1,h2,h3])
   ·refine bR aAc func296 ntmps296 ?_
    have W:=aA h1 h2
    have c0:=c1
    repeat' first|refine we ?_|(refine sq ?_ ?_<;>intro hc<;>try exact hc.elim)|fail
    all_goals try(refine ⟨.inr rfl,?_⟩;simp [aB,results296,h1,h2])
  ·refine bR aAc func296 ntmps296 ?_
   have W:=h1
   have c0:=c1
   repeat' first|refine we ?_|(refine sq ?_ ?_<;>intro hc<;>try exact hc.elim)|fail
   all_goals try(refine ⟨.inr rfl,?_⟩;simp [aB,results296,h1])
def wR (l:List dD) (a:aT):Nat:=(l.takeWhile fun m=>decide (qO m.to a < 0)).length
theorem Dz {a:aT}:∀{l:List dD} {k:Nat},k<=l.length->(∀x∈l.take k,qO x.to a < 0)->(∀m,l[k]? =some m->¬qO m.to a < 0)->wR l a=k
 |[],k,h,_,_=>by simp at h;subst h;rfl
 |m::l,0,_,_,h=>by simp [wR,h m rfl]
 |m::l,k+1,h0,h1,h2=>by
  have ih:=Dz (a:=a) (l:=l) (k:=k) (by simpa using h0) (fun x hx=>h1 x (by simp [hx])) (fun m hm=>h2 m (by simpa using hm))
  have:=h1 m (by simp)
  simp only [wR,takeWhile_cons,decide_eq_true this,length_cons] at ih⊢
  simpa using ih
def Cb (p:aP) (a:aT):dD:=if gP p.cB ⟨5,a,p.addr.host,[]⟩=1 then ⟨a,false,0,[]⟩ else ⟨a,true,2,[]⟩
def vY (p:aP) (a:aT) (k:Nat):List dD:=p.aX.take k++Cb p a::p.aX.drop k
def kG (p:aP) (a:aT):aP:=
 match p.aX[wR p.aX a]? with
 |some m=>if m.to=a then p else {p with aX:=vY p a (wR p.aX a)}
 |none=>{p with aX:=vY p a (wR p.aX a)}
end Go.Proofs.YtlnblmmohpcceaaGreatDoor
