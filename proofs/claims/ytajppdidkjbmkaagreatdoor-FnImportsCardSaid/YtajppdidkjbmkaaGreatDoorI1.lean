/-
  Proved here: steps towards the statement of this claim, text I1.
  No condition beyond what each statement spells out.
-/
import Derived.Test.YtajppdidkjbmkaaGreatDoorYFacts
import Derived.Test.YtajppdidkjbmkaaGreatDoorAwIns
import Derived.Shelf.Spec.SlicesInsertGrow
set_option linter.all false
set_option maxRecDepth 100000
set_option maxHeartbeats 4000000
namespace Go.Proofs.YtajppdidkjbmkaaGreatDoor
open Go.Aw Go.Shelf Go.RowKit Go.Lib
theorem aLu (w:World) (b off n c i vb voff vc:Nat) (C Cv:Array Value) (e ev:TypeId) (fz fzv:Nat×Nat) (olds news:List Value) (hi:i < n) (hroom:n+1≤c)
  (hb:w.heap[b]? =some (.cells C e fz)) (hz:(C.size≤fz.1∧5=1)∨fz.2=0) (hc:aT w b off olds) (hol:olds.length=n * 5) (h1o:∀v∈olds,v.oneCell'=true)
  (hfit:off+c * 5≤C.size) (hmax:c≤maxLen) (hne:vb≠b) (hvb:w.heap[vb]? =some (.cells Cv ev fzv)) (hzv:(Cv.size≤fzv.1∧5=1)∨fzv.2=0) (hcv:aT w vb voff news) (hnl:news.length=5) (h1n:∀v∈news,v.oneCell'=true):
  Calls Tryz.prog 89 #[.slice (some ⟨b,off,none⟩) n c,.int .i64 i,.slice (some ⟨vb,voff,none⟩) 1 vc] w fun ed w'=>∃v b' off' cap' C' e' fz',ed= .returned v∧xX w w' b 5 (n+1) (olds.take (i * 5)++news++olds.drop (i * 5)) v b' off' cap' C' e' fz':=by
 have hfz:fz.2=0:=by rcases hz with ⟨_,h⟩|h;cases h;exact h
 have hfzv:fzv.2=0:=by rcases hzv with ⟨_,h⟩|h;cases h;exact h
 have hC5:C.size≠0:=by omega
 have hfr:∀x,w.frozen? ⟨vb,x,none⟩=false:=fun x=>by simp [World.frozen?,hvb,hfzv]
 have hz2:¬((i:Int)=(n:Int)):=by omega
 have hmax2:c≤9223372036854775807:=hmax
 have hov:∀o lb cb,(callFunc 128 #[.slice (some ⟨vb,voff,none⟩) 1 vc,.slice (some ⟨b,o,none⟩) lb cb]).run Tryz.prog w= .ok (.value (.bool false)) w:=fun o lb cb=>by
  rw [run_callFunc_extern Tryz.func128 (by kernel_rfl) (by kernel_rfl) (by kernel_rfl) (e:=Extern.SlicesOverlaps.overlaps #[44,44] #[4]) (by kernel_rfl),
   Lib.run_overlaps_apart w 44 4 55 Tryz.underlying44 5 Tryz.sizeOf55 ⟨vb,voff,none⟩ ⟨b,o,none⟩ 1 vc lb cb hne ev e Cv.size C.size (by simp [World.shape?,hvb]) (by simp [World.shape?,hb]) hC5 (hfr _) (hfr _)]
  rfl
 have hol':(olds.drop (i * 5)).length=(n - i) * 5:=by rw [List.length_drop,hol];omega
 have hw1:IntKind.i64.wrap ((i:Int)+1)=(i:Int)+1:=by rw [IntKind.wrap_i64];omega
 have hw2:IntKind.i64.wrap ((n:Int)+1)=(n:Int)+1:=by rw [IntKind.wrap_i64];omega
 have mixed:Tryz.prog.follows .mixedOrders=true:=by kernel_rfl
 have hb1:(0:Int)≤(i:Int)+1:=by omega
 have hin:i≤n:=by omega
 have hb2:¬(c=i+1):=by omega
 have hb3:(i:Int)≤(n:Int)+1:=by omega
 have hb4:¬(c=i):=by omega
 obtain ⟨inf,hinf,hsz⟩:=Option.map_eq_some_iff.1 (show (Tryz.prog.info? 55).map (·.size)=some 5 by kernel_rfl)
 obtain ⟨W1,hW1⟩:∃W1,W1=w.drew.setCells b (off+(i+1) * 5) (olds.drop (i * 5)):=⟨_,rfl⟩
 have hWh:W1.heap=(w.setCells b (off+(i+1) * 5) (olds.drop (i * 5))).heap:=by rw [hW1];exact aEz _ _ rfl
 have hWs:Same w W1:=by rw [hW1];exact Same.trans (b:=w.drew) ⟨rfl,rfl,rfl⟩ (jD _ _ _ _)
 have hcp1:∀ty,(Builtin.copy_ #[44,44] ty #[.slice (some ⟨b,off+(i+1) * 5,none⟩) (n - i) (c - (i+1)),.slice (some ⟨b,off+i * 5,none⟩) (n+1 - i) (c - i)]).run Tryz.prog w.drew= .ok (goInt ((n - i:Nat):Int)) W1:=fun ty=>by
  rw [hW1]
  exact vF Tryz.underlying44 hinf (by simp only [Nat.min_def];split<;>omega) (by rw [hol',hsz]) (show aT w.drew b (off+i * 5) (olds.drop (i * 5)) from hc.drop) hb hz (by rw [hol'];omega) (fun v hv=>h1o v (List.mem_of_mem_drop hv))
 obtain ⟨C1,hC1,hCs1⟩:=fA b e fz (olds.drop (i * 5)) (off+(i+1) * 5) w C hb
 rw [←hWh] at hC1
 have hcp2:∀ty,(Builtin.copy_ #[44,44] ty #[.slice (some ⟨b,off+i * 5,none⟩) (n+1 - i) (c - i),.slice (some ⟨vb,voff,none⟩) 1 vc]).run Tryz.prog W1= .ok (goInt ((1:Nat):Int)) (W1.setCells b (off+i * 5) news):=fun ty=>
  vF Tryz.underlying44 hinf (by simp only [Nat.min_def];split<;>omega) (by rw [hnl,hsz]) (aT.heap (lX hcv (fun h=>absurd h hne)) hWh) hC1 (by rw [hCs1];exact hz) (by rw [hCs1];omega) h1n
 have fin:∃v b' off' cap' C' e' fz',Ending.returned (.slice (some ⟨b,off,none⟩) (n+1) c)= .returned v∧xX w (W1.setCells b (off+i * 5) news) b 5 (n+1) (olds.take (i * 5)++news++olds.drop (i * 5)) v b' off' cap' C' e' fz':=by
  obtain ⟨C',h⟩:=aP2 (k:=5) (c:=c) hb hz hc hol hnl hi hroom hfit hmax hWh hWs
  exact ⟨_,_,_,_,_,_,_,rfl,h⟩
 go_enter Tryz.func89,Tryz.ntmps89
 go_wp2_with (simp only [hov])
 clear hb hz hc hol h1o hfit hmax hvb hzv hcv hnl h1n hfz hfzv hC5 hfr hov hol' hinf hsz hW1 hWh hWs hC1 hCs1
 go_region_law_o (refine step_copy_runI rfl _ _ 44 44 rfl (.slice (some ⟨b,off+(i+1) * 5,none⟩) (n - i) (c - (i+1))) (.slice (some ⟨b,off+i * 5,none⟩) (n+1 - i) (c - i)) (by simp [Act.eval,Act.put]) (by simp [Act.eval,Act.put]) (hcp1 _) ?_)
 go_wp2_with (at_builtin;refine wpList_copy_runI _ rfl _ _ 44 44 rfl _ _ rfl rfl (hcp2 _) ?_)
 go_ret
 exact fin
theorem aM6 (w:World) (b off n c i vb voff vc:Nat) (C Cv:Array Value) (e ev:TypeId) (fz fzv:Nat×Nat) (olds news:List Value) (hi:i < n) (hroom:c < n+1) (hn:n≤1099511627776)
  (hb:w.heap[b]? =some (.cells C e fz)) (hz:(C.size≤fz.1∧5=1)∨fz.2=0) (hc:aT w b off olds) (hol:olds.length=n * 5) (h1o:∀v∈olds,v.oneCell'=true)
  (hfit:off+c * 5≤C.size) (hnc:n≤c) (hmax:c≤maxLen) (hne:vb≠b) (hvb:w.heap[vb]? =some (.cells Cv ev fzv)) (hzv:(Cv.size≤fzv.1∧5=1)∨fzv.2=0) (hcv:aT w vb voff news) (hnl:news.length=5) (h1n:∀v∈news,v.oneCell'=true):
  Calls Tryz.prog 89 #[.slice (some ⟨b,off,none⟩) n c,.int .i64 i,.slice (some ⟨vb,voff,none⟩) 1 vc] w fun ed w'=>∃v b' off' cap' C' e' fz',ed= .returned v∧xX w w' b 5 (n+1) (olds.take (i * 5)++news++olds.drop (i * 5)) v b' off' cap' C' e' fz':=by
 have hz2:¬((i:Int)=(n:Int)):=by omega
 have hz3:(c:Int) < (n:Int)+1:=by omega
 have hw1:IntKind.i64.wrap ((i:Int)+1)=(i:Int)+1:=by rw [IntKind.wrap_i64];omega
 have hw2:IntKind.i64.wrap ((n:Int)+1)=(n:Int)+1:=by rw [IntKind.wrap_i64];omega
 have hw3:IntKind.i64.wrap ((n:Int)+1 - (i:Int))=(n:Int)+1 - (i:Int):=by rw [IntKind.wrap_i64];omega
 have mixed:Tryz.prog.follows .mixedOrders=true:=by kernel_rfl
 have hb1:(0:Int)≤(i:Int)+1:=by omega
 have hin:i≤n:=by omega
 have hic:i≤c:=by omega
 have hb3:(i:Int)≤(n:Int)+1:=by omega
 have hb4:¬(c=i):=by omega
 have hlt:∀{x:Nat} {q},w.heap[x]? =some q→x < w.heap.size:=fun h=>(Array.getElem?_eq_some_iff.1 h).1
 have hol':(olds.drop (i * 5)).length=(n - i) * 5:=by rw [List.length_drop,hol];omega
 have htl:(olds.take (i * 5)).length=i * 5:=by rw [List.length_take,hol];omega
 obtain ⟨inf,hinf,hq⟩:=Option.map_eq_some_iff.1 (show (Tryz.prog.info? 55).map (fun i=>(i.size,i.bytes))=some (5,64) by kernel_rfl)
 obtain ⟨hsz,hby⟩:=Prod.mk.inj hq
 obtain ⟨z,hz0,hzc⟩:∃z,inf.zero=some z∧z.cells.size=5:=by
  have h:=Tryz.zsz55
  simp only [zeroSz,hinf] at h
  cases hz:inf.zero with
  |none=>simp [hz] at h
  |some z=>exact ⟨z,rfl,by simpa [hz] using h⟩
 obtain ⟨G,hG⟩:∃G,G=grownCap w (n+1) c 55:=⟨_,rfl⟩
 have hGn:n+1≤G:=by rw [hG];exact grownCap_ge _ _ _ _
 have hGm:G≤maxLen:=by rw [hG];exact grownCap_le_maxLen _ _ _ _ (by simp [maxLen];omega)
 have hG63:G≤9223372036854775807:=hGm
 obtain ⟨ROW,hROW⟩:∃ROW:Array Value,ROW=(olds.take (i * 5)).toArray++Builtin.zeroCells z.cells (n+1 - i)++Builtin.zeroCells z.cells (G - (n+1)):=⟨_,rfl⟩
 have hRs:ROW.size=G * 5:=by
  rw [hROW]
  simp only [Array.size_append,List.size_toArray,size_zeroCells,hzc,htl,←Nat.add_mul]
  congr 1;omega
 have hR:∀(j:Nat) (v:Value),(olds.take (i * 5))[j]? =some v→ROW[j]? =some v:=fun j v hv=>by
  rw [hROW,Array.append_assoc,Array.getElem?_append_left (by simpa using (List.getElem?_eq_some_iff.1 hv).1)]
  simpa using hv
 obtain ⟨W1,hW1⟩:∃W1,W1=w.drew.alloc (.cells ROW 55):=⟨_,rfl⟩
 have hrz:∀ty,(Builtin.append_ #[44,3] ty #[.slice (some ⟨b,off,none⟩) i c,.int .i64 ((n:Int)+1 - (i:Int))]).run Tryz.prog w= .ok (.slice (some ⟨w.heap.size,0,none⟩) (n+1) G) W1:=fun ty=>by
  have h:=Lib.run_append_grow_zeros w 44 3 ty 55 inf z .i64 .i64 Tryz.underlying44 Tryz.underlying3 hinf hz0 (some ⟨b,off,none⟩) i c (olds.take (i * 5))
   (by rw [hsz];exact iW htl (show aT w.drew b off (olds.take (i * 5)) from hc.take)) (n+1 - i) (by omega) (by omega) (by omega) (by omega) (by rw [hby];omega) (by rw [hby,show i+(n+1 - i)=n+1 by omega];exact growslice_fits hroom (by omega))
  rw [show i+(n+1 - i)=n+1 by omega,←hG,←hROW,←hW1] at h
  rw [show (n:Int)+1 - (i:Int)=((n+1 - i:Nat):Int) by omega]
  exact h
 have hN:W1.heap[w.heap.size]? =some (.cells ROW 55 (0,0)):=by rw [hW1];exact fG w.drew _
 have hO:∀x,x < w.heap.size→W1.heap[x]? =w.heap[x]?:=fun x hx=>by rw [hW1];exact heap_alloc w.drew _ x hx
 have hs1:Same w W1:=by rw [hW1];exact ⟨rfl,rfl,rfl⟩
 obtain ⟨W2,hW2⟩:∃W2,W2=W1.setCells w.heap.size (i * 5) news:=⟨_,rfl⟩
 have hs2:Same W1 W2.drew:=by rw [hW2];exact (jD _ _ _ _).trans ⟨rfl,rfl,rfl⟩
 have hcp1:∀ty,(Builtin.copy_ #[44,44] ty #[.slice (some ⟨w.heap.size,i * 5,none⟩) (n+1 - i) (G - i),.slice (some ⟨vb,voff,none⟩) 1 vc]).run Tryz.prog W1= .ok (goInt ((1:Nat):Int)) W2:=fun ty=>by
  rw [hW2]
  exact vF Tryz.underlying44 hinf (by simp only [Nat.min_def];split<;>omega) (by rw [hnl,hsz]) (hcv.same (hO _ (hlt hvb))) hN (q:=True) (.inr rfl) (by omega) h1n
 obtain ⟨C1,hC1,hCs1⟩:=fA w.heap.size 55 (0,0) news (i * 5) W1 ROW hN
 rw [←hW2] at hC1
 have hcp2:∀ty,(Builtin.copy_ #[44,44] ty #[.slice (some ⟨w.heap.size,(i+1) * 5,none⟩) (n - i) (G - (i+1)),.slice (some ⟨b,off+i * 5,none⟩) (n - i) (c - i)]).run Tryz.prog W2.drew= .ok (goInt ((n - i:Nat):Int)) (W2.drew.setCells w.heap.size ((i+1) * 5) (olds.drop (i * 5))):=fun ty=>
  vF (w:=W2.drew) Tryz.underlying44 hinf (by simp only [Nat.min_def];split<;>omega) (by rw [hol',hsz]) (show aT W2.drew b (off+i * 5) (olds.drop (i * 5)) from by
   refine aT.heap (w:=W2) ?_ rfl
   rw [hW2]
   exact lX (hc.drop.same (hO _ (hlt hb))) (fun h=>absurd h (by have:=hlt hb;omega))) (show W2.drew.heap[w.heap.size]? =_ from hC1) (q:=True) (.inr rfl) (by rw [hCs1];omega) (fun v hv=>h1o v (List.mem_of_mem_drop hv))
 have fin:∃v b' off' cap' C' e' fz',Ending.returned (.slice (some ⟨w.heap.size,0,none⟩) (n+1) G)= .returned v∧xX w (W2.drew.setCells w.heap.size ((i+1) * 5) (olds.drop (i * 5))) b 5 (n+1) (olds.take (i * 5)++news++olds.drop (i * 5)) v b' off' cap' C' e' fz':=by
  obtain ⟨C',h⟩:=aQy (k:=5) (b:=b) (cap:=G) hol hnl hi hR (by omega) hGn hGm hN hO hs1 (show W2.drew.heap=_ by rw [hW2];rfl) hs2
  exact ⟨_,_,_,_,_,_,_,rfl,h⟩
 have hG4:¬(G=i):=by omega
 have hG5:¬(G=i+1):=by omega
 clear hb hz hc hol h1o hfit hmax hvb hzv hcv hnl h1n hol' htl hinf hq hsz hby hz0 hzc hG hROW hRs hR hW1 hN hO hs1 hW2 hs2 hC1 hCs1 hlt
 go_enter Tryz.func89,Tryz.ntmps89
 go_wp2_with (first
  |(at_builtin;refine Lib.wpList_append_run _ rfl _ _ _ _ rfl _ _ rfl rfl _ _ (hrz _) ?_)
  |(at_builtin;refine wpList_copy_runI _ rfl _ _ 44 44 rfl _ _ rfl rfl (hcp1 _) ?_))
 go_region_law_o (refine step_copy_runI rfl _ _ 44 44 rfl (.slice (some ⟨w.heap.size,(i+1) * 5,none⟩) (n - i) (G - (i+1))) (.slice (some ⟨b,off+i * 5,none⟩) (n - i) (c - i)) (by simp [Act.eval,Act.put]) (by simp [Act.eval,Act.put]) (hcp2 _) ?_)
 go_wp2
 go_ret
 exact fin
theorem aAm (w:World) (base:Option Addr) (n c vb voff vc:Nat) (v':Value) (w':World) (Q:Ending→World→Prop) (hnc:n≤c) (hmax:c≤9223372036854775807) (hnil:base=none→n=0)
  (hrun:∀ty,(Builtin.append_ #[44,44] ty #[.slice base n c,.slice (some ⟨vb,voff,none⟩) 1 vc]).run Tryz.prog w= .ok v' w') (fin:Q (.returned v') w'):
  Calls Tryz.prog 89 #[.slice base n c,.int .i64 n,.slice (some ⟨vb,voff,none⟩) 1 vc] w Q:=by
 have mixed:Tryz.prog.follows .mixedOrders=true:=by kernel_rfl
 go_enter Tryz.func89,Tryz.ntmps89
 cases base with
 |none=>
  have h0:=hnil rfl
  subst h0
  go_wp2_with (at_builtin;refine Lib.wpList_append_run _ rfl _ _ _ _ rfl _ _ rfl rfl _ _ (hrun _) ?_)
  exact fin
 |some a=>
  obtain ⟨ab,ao,asp⟩:=a
  go_wp2_with (at_builtin;refine Lib.wpList_append_run _ rfl _ _ _ _ rfl _ _ rfl rfl _ _ (hrun _) ?_)
  all_goals exact fin
end Go.Proofs.YtajppdidkjbmkaaGreatDoor
