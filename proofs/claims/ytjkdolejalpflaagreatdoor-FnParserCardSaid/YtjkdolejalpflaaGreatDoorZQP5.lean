/- Proved here: steps towards the statement of this claim. No condition. -/
import Derived.Test.YtjkdolejalpflaaGreatDoorZQMK5
import Derived.Test.YtjkdolejalpflaaGreatDoorZQ1
import Derived.Test.YtjkdolejalpflaaGreatDoorZQY2
import Derived.Shelf.Spec.SlicesInsertGrow
set_option linter.all false
set_option maxRecDepth 4000
set_option maxHeartbeats 4000000
namespace Go.Proofs.YtjkdolejalpflaaGreatDoor
open Go.Aw Proofs.Tryz List IntKind
theorem LG[aB prog](s:aX)(c:UInt8)(hl:s.length<=1099511627776):Ok prog 118 [.str s,.int .u8 c.toNat] (.int .i64 (gD c s:Nat)):=by
 refine dA aJ func118 ntmps118 ?_;refine bI ?_;refine aY (ι:={k:Nat // k<=s.length/\∀x∈s.take k,x≠c}) (λt o i=>⟨bN t [(5,.int .i64 i.1)],o⟩)
  (λi=>s.length-i.1) ⟨0,by simp,by simp⟩ aC ?_
 rintro⟨k,hk,hi⟩ K1 hK1;simp only[bN,cH,cG]at hK1⊢;have hk1:=vJ (k:=k);by_cases hlt:k<s.length
 .have hg:=aE hlt;have W:=aA hk1 (aA hg hlt);repeat' first|refine wf ?_|(refine sq ?_ ?_<;>intro hc<;>try exact hc.elim)|fail
  .have e:=Vl hlt (AG.1 (by omega)) hi;rw[e];all_goals (try exact aO results118)
  .exact hK1 _ ⟨k+1,by omega,gL hlt hi (λh=>hc (by rw[h]))⟩ aC (by simp only;omega)
 .have e:=Sw (nS (by omega) hi);rw[e];have W:=hk1;refine we ?_;exact aO results118
def Qn(p s:aX):Bool:=decide (p.length<=s.length)&&(s.take p.length == p)
theorem Qo[aB prog](s p:aX)(hl:s.length<=1099511627776)(hp:p.length<=1099511627776):Ok prog 210 [.str s,.str p] (.bool (Qn p s)):=by
 by_cases h:p.length<=s.length
 .have hi:(p.length:Int)<=(s.length:Int):=by omega
  have hr:Qn p s=(s.take p.length == p):=by simp[Qn,h]
  rw[hr];refine dA aJ func210 ntmps210 ?_;have W:=aA h hi;refine we ?_;exact aO results210
 .have hi:¬(p.length:Int)<=(s.length:Int):=by omega
  have hr:Qn p s=false:=by simp[Qn,h]
  rw[hr];refine dA aJ func210 ntmps210 ?_;have W:=aA h hi;refine we ?_;exact aO results210
theorem kr{p s:aX}(h:Qn p s=true):p.length<=s.length:=by simp only[Qn,eC,gS]at h;exact h.1
theorem Ny[aB prog](s p:aX)(hl:s.length<=1099511627776)(hp:p.length<=1099511627776):Ok prog 195 [.str s,.str p] (.fH [.str (if Qn p s=true then s.drop p.length else s),.bool (Qn p s)]):=by
 have c1:=Qo s p hl hp;have h1:= @kr p s;generalize Qn p s=b at*;cases b
 .refine dA aJ func195 ntmps195 ?_;refine bI ?_;exact aO results195
 .have h2:=h1 rfl;refine dA aJ func195 ntmps195 ?_;have W:=h2;refine we ?_;exact aO results195
theorem Qp[aB prog](s p:aX)(hl:s.length<=1099511627776)(hp:p.length<=1099511627776):Ok prog 177 [.str s,.str p] (.fH [.str (if Qn p s=true then s.drop p.length else s),.bool (Qn p s)]):=by have c1:=Ny s p hl hp;generalize (if Qn p s=true then s.drop p.length else s)=q at*;generalize Qn p s=b at*;refine dA aJ func177 ntmps177 ?_;refine bI ?_;exact aO results177
end Go.Proofs.YtjkdolejalpflaaGreatDoor
set_option maxRecDepth 4000
set_option maxHeartbeats 4000000
namespace Go.Proofs.YtjkdolejalpflaaGreatDoor
open Go.Aw Proofs.Tryz List IntKind
theorem Yx{a b:gH}:dI a=dI b↔a=b:=by obtain⟨a1,a2⟩:=a;obtain⟨b1,b2⟩:=b;simp
theorem Bf(a b:gH):N8 prog 25 (dI a) (dI b) (decide (a=b)):=
 Mj (f:=6) (ss:=[.str,.str]) (by decide) (by kernel_rfl) (by kernel_rfl) (by kernel_rfl) (by kernel_rfl) (by simp[nW,Be]) (by simp[nW,Be]) (by rw[Yx,decide_eq_true_iff])
def aBo(a x:gH):Bool:=decide (x=a)
end Go.Proofs.YtjkdolejalpflaaGreatDoor
set_option maxRecDepth 4000
set_option maxHeartbeats 400000
namespace Go.Proofs.YtjkdolejalpflaaGreatDoor
open Go.Aw Proofs.Tryz List IntKind
theorem Mk{α:Type}(f:α->Bool):∀(l:List α) (j:Nat) (i:Int),i∈places f j l->(j:Int)<=i/\i<j+l.length
 |[],j,i,h=>by simp[places]at h
 |x::xs,j,i,h=>by
  simp only[places]at h;have ih:=Mk f xs (j+1) i;simp only[eE];split at h
  .rcases lE.1 h with rfl|h
   .omega
   .have:=ih h;omega
  .have:=ih h;omega
def dF(m:Int):Int:=if m=1 then 4 else if m=2 then 3 else if m=3 then 2 else if m=4 then 2 else 0
theorem tV[aB prog](m:Int):Ok prog 97 [.int .i64 m] (.int .i64 (dF m)):=by
 refine dA aJ func97 ntmps97 ?_;have W:=trivial;repeat' first|refine wg ?_|(refine sq ?_ ?_<;>intro hc<;>try exact hc.elim)|fail
 all_goals try(refine aP ?_;simp[aT,results97,dF])
 all_goals simp_all[dF]
theorem yO[aB prog](m:Int):Ok prog 89 [.int .i64 m] (.int .i64 (dF m)):=by
 refine dA aJ func89 ntmps89 ?_;have W:=trivial;repeat' first|refine wg ?_|(refine sq ?_ ?_<;>intro hc<;>try exact hc.elim)|fail
 all_goals try(refine aP ?_;simp[aT,results89,dF])
 all_goals simp_all[dF]
def X3:fK:=⟨0,⟨[],[]⟩,[],[]⟩
def gU(p:aW)(s:mG):fK:=⟨dF s.mode,s.to,p.addr.host,s.digest⟩
def Co(p:aW)(m:gW):fK:=⟨5,m.to,p.addr.host,[]⟩
def qA(p:aW)(i:Int):fK:=match p.aG[i.toNat]? with
 |some s=>gU p s
 |none=>X3
def EN(p:aW)(i:Int):fK:=match p.bT[i.toNat]? with
 |some s=>Co p s
 |none=>X3
theorem yB{α:Type}{l:List α}{i:Int}(h0:0<=i)(h1:i<l.length):∃s,l[i.toNat]? =some s:=⟨l[i.toNat]'(by omega),aE _⟩
theorem at_eq{α:Type}{l:List α}{k:Nat}{s:α}(h:k<l.length)(hg:l[k]? =some s):l[k]=s:=by rw[aE h]at hg;exact cD hg
theorem xJ[aB prog](p:aW)(i:Int)(h0:0<=i)(h1:i<p.aG.length)(hl:p.aG.length<=1099511627776):Ok prog 122 [.agg (aL .view p),.int .i64 i] (.agg (fV (qA p i))):=by
 obtain⟨s,hg⟩:=yB h0 h1;have e:qA p i=gU p s:=by simp[qA,hg]
 rw[e];obtain rfl:p.aG[i.toNat]'(by omega)=s:=at_eq (by omega) hg;have c1:=eX i 0 (p.aG.length-1);rw[show(decide (0<=i)&&decide (i<=(p.aG.length:Int)-1))=true by simp;omega]at c1;have c2:=tV (p.aG[i.toNat]'(by omega)).mode;refine dA aJ func122 ntmps122 ?_;have W:=aA hg (aA h0 h1);refine wl ?_;all_goals try(refine aP ?_;simp[aT,results122,gU])
theorem EO[aB prog](p:aW)(i:Int)(h0:0<=i)(h1:i<p.aG.length)(hl:p.aG.length<=1099511627776):Ok prog 92 [.agg (aL .view p),.int .i64 i] (.agg (fV (qA p i))):=by
 obtain⟨s,hg⟩:=yB h0 h1;have e:qA p i=gU p s:=by simp[qA,hg]
 rw[e];obtain rfl:p.aG[i.toNat]'(by omega)=s:=at_eq (by omega) hg;have c2:=yO (p.aG[i.toNat]'(by omega)).mode;have n0:¬i<0:=by omega
 have n1:¬(p.aG.length:Int)<=i:=by omega
 refine dA aJ func92 ntmps92 ?_;have W:=aA hg (aA h0 (aA h1 (aA n0 n1)));refine wl ?_;all_goals try(refine aP ?_;simp[aT,results92,gU])
theorem yP[aB prog](p:aW)(i:Int)(h0:0<=i)(h1:i<p.bT.length)(hl:p.bT.length<=1099511627776):Ok prog 129 [.agg (aL .view p),.int .i64 i] (.agg (fV (EN p i))):=by
 obtain⟨s,hg⟩:=yB h0 h1;have e:EN p i=Co p s:=by simp[EN,hg]
 rw[e];obtain rfl:p.bT[i.toNat]'(by omega)=s:=at_eq (by omega) hg;have n0:¬i<0:=by omega
 have n1:¬(p.bT.length:Int)<=i:=by omega
 refine dA aJ func129 ntmps129 ?_;have W:=aA hg (aA h0 (aA h1 (aA n0 n1)));refine wl ?_;all_goals try(refine aP ?_;simp[aT,results129,Co])
end Go.Proofs.YtjkdolejalpflaaGreatDoor
set_option maxRecDepth 100000
set_option maxHeartbeats 4000000
namespace Go.Proofs.YtjkdolejalpflaaGreatDoor
open Go.Aw Go.Shelf Go.RowKit Go.Lib Proofs.Tryz List IntKind
theorem QC(w:World)(b off n c i vb voff vc:Nat)(C Cv:Array Value)(e ev:TypeId)(fz Rt:Nat×Nat)(olds news:List Value)(hi:i<n)(hroom:n+1<=c)
  (hb:w.heap[b]? =some (.cells C e fz)) (hz:(C.size<=fz.1/\5=1)\/fz.2=0) (hc:bA w b off olds) (hol:olds.length=n*5) (X4:∀v∈olds,v.oneCell'=true)
  (hfit:off+c*5<=C.size) (hmax:c<=maxLen) (hne:vb≠b) (hvb:w.heap[vb]? =some (.cells Cv ev Rt)) (hzv:(Cv.size<=Rt.1/\5=1)\/Rt.2=0) (hcv:bA w vb voff news) (hnl:news.length=5) (JC:∀v∈news,v.oneCell'=true):
  Calls prog 128 #[.slice (some ⟨b,off,none⟩) n c,.int .i64 i,.slice (some ⟨vb,voff,none⟩) 1 vc] w λed w'=>∃v b' off' cap' C' e' MZ,ed= .returned v/\Ns w w' b 5 (n+1) (olds.take (i*5)++news++olds.drop (i*5)) v b' off' cap' C' e' MZ:=by
 have hfz:fz.2=0:=by rcases hz with⟨_,h⟩|h;cases h;exact h
 have aE5:Rt.2=0:=by rcases hzv with⟨_,h⟩|h;cases h;exact h
 have hC5:C.size≠0:=by omega
 have hfr:∀x,w.frozen? ⟨vb,x,none⟩=false:=λx=>by simp[World.frozen?,hvb,aE5]
 have hz2:¬((i:Int)=(n:Int)):=by omega
 have qb:c<=9223372036854775807:=hmax;have hov:∀o lb cb,(callFunc 156 #[.slice (some ⟨vb,voff,none⟩) 1 vc,.slice (some ⟨b,o,none⟩) lb cb]).run prog w= .ok (.value (.bool false)) w:=λo lb cb=>by
  rw[run_callFunc_extern func156 (by kernel_rfl) (by kernel_rfl) (by kernel_rfl) (e:=Extern.SlicesOverlaps.overlaps #[37,37] #[4]) (by kernel_rfl),
   Lib.run_overlaps_apart w 37 4 64 Tryz.underlying37 5 Tryz.sizeOf64 ⟨vb,voff,none⟩ ⟨b,o,none⟩ 1 vc lb cb hne ev e Cv.size C.size (by simp[World.shape?,hvb]) (by simp[World.shape?,hb]) hC5 (hfr _) (hfr _)]
  rfl
 have Yy:(olds.drop (i*5)).length=(n-i)*5:=by rw[tG,hol];omega
 have hw1:i64.wrap ((i:Int)+1)=(i:Int)+1:=by rw[yW];omega
 have hw2:i64.wrap ((n:Int)+1)=(n:Int)+1:=by rw[yW];omega
 have mixed:prog.follows .mixedOrders=true:=by kernel_rfl
 have hb1:(0:Int)<=(i:Int)+1:=by omega
 have hin:i<=n:=by omega
 have hb2:¬(c=i+1):=by omega
 have hb3:(i:Int)<=(n:Int)+1:=by omega
 have hb4:¬(c=i):=by omega
 obtain⟨inf,EE,hsz⟩:=tE.1 (show(prog.info? 64).map (·.size)=some 5 by kernel_rfl);obtain⟨W1,hW1⟩:∃W1,W1=w.drew.setCells b (off+(i+1)*5) (olds.drop (i*5)):=⟨_,rfl⟩;have hWh:W1.heap=(w.setCells b (off+(i+1)*5) (olds.drop (i*5))).heap:=by rw[hW1];exact LC _ _ rfl
 have hWs:iW w W1:=by rw[hW1];exact iW.trans (b:=w.drew) ⟨rfl,rfl,rfl⟩ (iM _ _ _ _)
 have hcp1:∀ty,(Builtin.copy_ #[37,37] ty #[.slice (some ⟨b,off+(i+1)*5,none⟩) (n-i) (c-(i+1)),.slice (some ⟨b,off+i*5,none⟩) (n+1-i) (c-i)]).run prog w.drew= .ok (goInt ((n-i:Nat):Int)) W1:=λty=>by rw[hW1];exact AU Tryz.underlying37 EE (by simp only[Nat.min_def];split<;>omega) (by rw[Yy,hsz]) (show bA w.drew b (off+i*5) (olds.drop (i*5))from hc.drop) hb hz (by rw[Yy];omega) (λv hv=>X4 v (AD hv))
 obtain⟨C1,Td,FN⟩:=gX b e fz (olds.drop (i*5)) (off+(i+1)*5) w C hb;rw[<-hWh]at Td;have hcp2:∀ty,(Builtin.copy_ #[37,37] ty #[.slice (some ⟨b,off+i*5,none⟩) (n+1-i) (c-i),.slice (some ⟨vb,voff,none⟩) 1 vc]).run prog W1= .ok (goInt ((1:Nat):Int)) (W1.setCells b (off+i*5) news):=λty=>
  AU Tryz.underlying37 EE (by simp only[Nat.min_def];split<;>omega) (by rw[hnl,hsz]) (bA.heap (qR hcv (λh=>absurd h hne)) hWh) Td (by rw[FN];exact hz) (by rw[FN];omega) JC
 have fin:∃v b' off' cap' C' e' MZ,Ending.returned (.slice (some ⟨b,off,none⟩) (n+1) c)= .returned v/\Ns w (W1.setCells b (off+i*5) news) b 5 (n+1) (olds.take (i*5)++news++olds.drop (i*5)) v b' off' cap' C' e' MZ:=by obtain⟨C',h⟩:=Vy (k:=5) (c:=c) hb hz hc hol hnl hi hroom hfit hmax hWh hWs;exact⟨_,_,_,_,_,_,_,rfl,h⟩
 go_enter func128,ntmps128
 go_wp2_with (simp only[hov])
 clear hb hz hc hol X4 hfit hmax hvb hzv hcv hnl JC hfz aE5 hC5 hfr hov Yy EE hsz hW1 hWh hWs Td FN
 go_region_law_o (refine step_copy_runI rfl _ _ 37 37 rfl (.slice (some ⟨b,off+(i+1)*5,none⟩) (n-i) (c-(i+1))) (.slice (some ⟨b,off+i*5,none⟩) (n+1-i) (c-i)) (by simp[Act.eval,Act.put]) (by simp[Act.eval,Act.put]) (hcp1 _) ?_)
 go_wp2_with (at_builtin;refine wpList_copy_runI _ rfl _ _ 37 37 rfl _ _ rfl rfl (hcp2 _) ?_)
 go_ret
 exact fin
theorem TQ(w:World)(b off n c i vb voff vc:Nat)(C Cv:Array Value)(e ev:TypeId)(fz Rt:Nat×Nat)(olds news:List Value)(hi:i<n)(hroom:c<n+1)(hn:n<=1099511627776)
  (hb:w.heap[b]? =some (.cells C e fz)) (hz:(C.size<=fz.1/\5=1)\/fz.2=0) (hc:bA w b off olds) (hol:olds.length=n*5) (X4:∀v∈olds,v.oneCell'=true)
  (hfit:off+c*5<=C.size) (hnc:n<=c) (hmax:c<=maxLen) (hne:vb≠b) (hvb:w.heap[vb]? =some (.cells Cv ev Rt)) (hzv:(Cv.size<=Rt.1/\5=1)\/Rt.2=0) (hcv:bA w vb voff news) (hnl:news.length=5) (JC:∀v∈news,v.oneCell'=true):
  Calls prog 128 #[.slice (some ⟨b,off,none⟩) n c,.int .i64 i,.slice (some ⟨vb,voff,none⟩) 1 vc] w λed w'=>∃v b' off' cap' C' e' MZ,ed= .returned v/\Ns w w' b 5 (n+1) (olds.take (i*5)++news++olds.drop (i*5)) v b' off' cap' C' e' MZ:=by
 have hz2:¬((i:Int)=(n:Int)):=by omega
 have hz3:(c:Int)<(n:Int)+1:=by omega
 have hw1:i64.wrap ((i:Int)+1)=(i:Int)+1:=by rw[yW];omega
 have hw2:i64.wrap ((n:Int)+1)=(n:Int)+1:=by rw[yW];omega
 have hw3:i64.wrap ((n:Int)+1-(i:Int))=(n:Int)+1-(i:Int):=by rw[yW];omega
 have mixed:prog.follows .mixedOrders=true:=by kernel_rfl
 have hb1:(0:Int)<=(i:Int)+1:=by omega
 have hin:i<=n:=by omega
 have hic:i<=c:=by omega
 have hb3:(i:Int)<=(n:Int)+1:=by omega
 have hb4:¬(c=i):=by omega
 have hlt:∀{x:Nat} {q},w.heap[x]? =some q->x<w.heap.size:=λh=>(rL.1 h).1
 have Yy:(olds.drop (i*5)).length=(n-i)*5:=by rw[tG,hol];omega
 have htl:(olds.take (i*5)).length=i*5:=by rw[pN,hol];omega
 obtain⟨inf,EE,hq⟩:=tE.1 (show(prog.info? 64).map (λi=>(i.size,i.bytes))=some (5,64)by kernel_rfl);obtain⟨hsz,hby⟩:=Prod.mk.inj hq;obtain⟨z,hz0,hzc⟩:∃z,inf.zero=some z/\z.cells.size=5:=by
  have h:=Tryz.zsz64;simp only[jR,EE]at h;cases hz:inf.zero with
  |none=>simp[hz]at h
  |some z=>exact⟨z,rfl,by simpa [hz]using h⟩
 obtain⟨G,hG⟩:∃G,G=grownCap w (n+1) c 64:=⟨_,rfl⟩;have hGn:n+1<=G:=by rw[hG];exact grownCap_ge _ _ _ _
 have hGm:G<=maxLen:=by rw[hG];exact BY _ _ _ _ (by simp[maxLen];omega)
 have hG63:G<=9223372036854775807:=hGm;obtain⟨ROW,hROW⟩:∃ROW:Array Value,ROW=(olds.take (i*5)).toArray++Builtin.zeroCells z.cells (n+1-i)++Builtin.zeroCells z.cells (G-(n+1)):=⟨_,rfl⟩;have hRs:ROW.size=G*5:=by rw[hROW];simp only[Array.size_append,size_toArray,size_zeroCells,hzc,htl,<-oE];congr 1;omega
 have hR:∀(j:Nat) (v:Value),(olds.take (i*5))[j]? =some v->ROW[j]? =some v:=λj v hv=>by rw[hROW,Array.append_assoc,rI (by simpa using(cA.1 hv).1)];simpa using hv
 obtain⟨W1,hW1⟩:∃W1,W1=w.drew.alloc (.cells ROW 64):=⟨_,rfl⟩;have hrz:∀ty,(Builtin.append_ #[37,3] ty #[.slice (some ⟨b,off,none⟩) i c,.int .i64 ((n:Int)+1-(i:Int))]).run prog w= .ok (.slice (some ⟨w.heap.size,0,none⟩) (n+1) G) W1:=λty=>by
  have h:=Lib.run_append_grow_zeros w 37 3 ty 64 inf z .i64 .i64 Tryz.underlying37 Tryz.underlying3 EE hz0 (some ⟨b,off,none⟩) i c (olds.take (i*5))
   (by rw[hsz];exact jG htl (show bA w.drew b off (olds.take (i*5))from hc.take)) (n+1-i) (by omega) (by omega) (by omega) (by omega) (by rw[hby];omega) (by rw[hby,show i+(n+1-i)=n+1 by omega];exact growslice_fits hroom (by omega))
  rw[show i+(n+1-i)=n+1 by omega,<-hG,<-hROW,<-hW1]at h;rw[show(n:Int)+1-(i:Int)=((n+1-i:Nat):Int)by omega];exact h
 have hN:W1.heap[w.heap.size]? =some (.cells ROW 64 (0,0)):=by rw[hW1];exact eU w.drew _
 have hO:∀x,x<w.heap.size->W1.heap[x]? =w.heap[x]?:=λx hx=>by rw[hW1];exact heap_alloc w.drew _ x hx
 have hs1:iW w W1:=by rw[hW1];exact⟨rfl,rfl,rfl⟩
 obtain⟨W2,hW2⟩:∃W2,W2=W1.setCells w.heap.size (i*5) news:=⟨_,rfl⟩;have hs2:iW W1 W2.drew:=by rw[hW2];exact(iM _ _ _ _).trans ⟨rfl,rfl,rfl⟩
 have hcp1:∀ty,(Builtin.copy_ #[37,37] ty #[.slice (some ⟨w.heap.size,i*5,none⟩) (n+1-i) (G-i),.slice (some ⟨vb,voff,none⟩) 1 vc]).run prog W1= .ok (goInt ((1:Nat):Int)) W2:=λty=>by rw[hW2];exact AU Tryz.underlying37 EE (by simp only[Nat.min_def];split<;>omega) (by rw[hnl,hsz]) (hcv.same (hO _ (hlt hvb))) hN (q:=True) (.inr rfl) (by omega) JC
 obtain⟨C1,Td,FN⟩:=gX w.heap.size 64 (0,0) news (i*5) W1 ROW hN;rw[<-hW2]at Td;have hcp2:∀ty,(Builtin.copy_ #[37,37] ty #[.slice (some ⟨w.heap.size,(i+1)*5,none⟩) (n-i) (G-(i+1)),.slice (some ⟨b,off+i*5,none⟩) (n-i) (c-i)]).run prog W2.drew= .ok (goInt ((n-i:Nat):Int)) (W2.drew.setCells w.heap.size ((i+1)*5) (olds.drop (i*5))):=λty=>
  AU (w:=W2.drew) Tryz.underlying37 EE (by simp only[Nat.min_def];split<;>omega) (by rw[Yy,hsz]) (show bA W2.drew b (off+i*5) (olds.drop (i*5))from by
   refine bA.heap (w:=W2) ?_ rfl;rw[hW2];exact qR (hc.drop.same (hO _ (hlt hb))) (λh=>absurd h (by have:=hlt hb;omega))) (show W2.drew.heap[w.heap.size]? =_ from Td) (q:=True) (.inr rfl) (by rw[FN];omega) (λv hv=>X4 v (AD hv))
 have fin:∃v b' off' cap' C' e' MZ,Ending.returned (.slice (some ⟨w.heap.size,0,none⟩) (n+1) G)= .returned v/\Ns w (W2.drew.setCells w.heap.size ((i+1)*5) (olds.drop (i*5))) b 5 (n+1) (olds.take (i*5)++news++olds.drop (i*5)) v b' off' cap' C' e' MZ:=by obtain⟨C',h⟩:=Yi (k:=5) (b:=b) (cap:=G) hol hnl hi hR (by omega) hGn hGm hN hO hs1 (show W2.drew.heap=_ by rw[hW2];rfl) hs2;exact⟨_,_,_,_,_,_,_,rfl,h⟩
 have hG4:¬(G=i):=by omega
 have hG5:¬(G=i+1):=by omega
 clear hb hz hc hol X4 hfit hmax hvb hzv hcv hnl JC Yy htl EE hq hsz hby hz0 hzc hG hROW hRs hR hW1 hN hO hs1 hW2 hs2 Td FN hlt
 go_enter func128,ntmps128
 go_wp2_with (first
  |(at_builtin;refine Lib.wpList_append_run _ rfl _ _ _ _ rfl _ _ rfl rfl _ _ (hrz _) ?_)
  |(at_builtin;refine wpList_copy_runI _ rfl _ _ 37 37 rfl _ _ rfl rfl (hcp1 _) ?_))
 go_region_law_o (refine step_copy_runI rfl _ _ 37 37 rfl (.slice (some ⟨w.heap.size,(i+1)*5,none⟩) (n-i) (G-(i+1))) (.slice (some ⟨b,off+i*5,none⟩) (n-i) (c-i)) (by simp[Act.eval,Act.put]) (by simp[Act.eval,Act.put]) (hcp2 _) ?_)
 go_wp2
 go_ret
 exact fin
theorem DW(w:World)(base:Option Addr)(n c vb voff vc:Nat)(v':Value)(w':World)(Q:Ending->World->Prop)(hnc:n<=c)(hmax:c<=9223372036854775807)(hnil:base=none->n=0)
  (hrun:∀ty,(Builtin.append_ #[37,37] ty #[.slice base n c,.slice (some ⟨vb,voff,none⟩) 1 vc]).run prog w= .ok v' w') (fin:Q (.returned v') w'):
  Calls prog 128 #[.slice base n c,.int .i64 n,.slice (some ⟨vb,voff,none⟩) 1 vc] w Q:=by
 have mixed:prog.follows .mixedOrders=true:=by kernel_rfl
 go_enter func128,ntmps128
 cases base with
 |none=>
  have h0:=hnil rfl;subst h0
  go_wp2_with (at_builtin;refine Lib.wpList_append_run _ rfl _ _ _ _ rfl _ _ rfl rfl _ _ (hrun _) ?_)
  exact fin
 |some a=>
  obtain⟨ab,ao,asp⟩:=a
  go_wp2_with (at_builtin;refine Lib.wpList_append_run _ rfl _ _ _ _ rfl _ _ rfl rfl _ _ (hrun _) ?_)
  all_goals exact fin
end Go.Proofs.YtjkdolejalpflaaGreatDoor
set_option maxRecDepth 4000
set_option maxHeartbeats 4000000
namespace Go.Proofs.YtjkdolejalpflaaGreatDoor
open Go.Aw Proofs.Tryz List IntKind
set_option maxRecDepth 100000
theorem Yz[aB prog](l:List gW)(m:gW)(i:Nat)(hi:i<l.length)(hn:l.length<=1099511627776):UD prog 128 [.oN (.sl .own 5 (l.map dN)),.view (.int .i64 i),.oN (.sl .own 5 [dN m])] (.sl .own 5 ((l.take i++m::l.drop i).map dN)):=by
 have h:=F6 (P:=prog) (f:=128) (n:=l.length) (i:=i) (k:=5) (l:=l.map dN) (x:=dN m) (by simp) hi (by simp[all_map,Bv]) (by simp[Bv])
  (λw b off c C e fz olds news vb voff vc Cv ev Rt hb hz hc hol X4 hfit hnc hmax hne hvb hzv hcv hnl JC=>by
   by_cases hr:l.length+1<=c
   .exact QC w b off l.length c i vb voff vc C Cv e ev fz Rt olds news hi hr hb hz hc hol X4 hfit hmax hne hvb hzv hcv hnl JC
   .exact TQ w b off l.length c i vb voff vc C Cv e ev fz Rt olds news hi (by omega) hn hb hz hc hol X4 hfit hnc hmax hne hvb hzv hcv hnl JC)
 rw[<-map_take,<-map_drop,tD]at h;simpa using h
theorem VR[aB prog](l:List gW)(m:gW)(hn:l.length<=1099511627776):UD prog 128 [.oN (.sl .own 5 (l.map dN)),.view (.int .i64 l.length),.oN (.sl .own 5 [dN m])] (.sl .own 5 ((l++[m]).map dN)):=by
 have h:=Tf (P:=prog) (f:=128) (n:=l.length) (k:=5) (l:=l.map dN) (x:=dN m) (by simp) (by simp[all_map,Bv]) (by simp[Bv])
  (λw base bb c olds news vb voff vc hol hnc hmax hcv hnl JC hor=>by
   obtain⟨inf,EE,hq⟩:=tE.1 (show(prog.info? 64).map (λi=>(i.size,i.bytes))=some (5,64)by kernel_rfl);obtain⟨hsz,hby⟩:=Prod.mk.inj hq;obtain⟨z,hz0,hzc⟩:=yA Tryz.zsz64 EE;have qb:c<=9223372036854775807:=hmax;have holds:∀w',w'.heap=w.heap->(Builtin.firstCells inf.size l.length (.slice base l.length c)).run prog w'= .ok olds.toArray w':=by
    intro w' YR;rcases hor with⟨h0,h1⟩|⟨off,C,e,fz,rfl,hb,hz,hc,hfit⟩
    .rw [h0]at hol⊢;obtain rfl:=hM (by simpa using hol);cases base with
     |none=>simp[Builtin.firstCells]
     |some a'=>simp[Builtin.firstCells,loadCells,loadCellsFrom]
    .rw [hsz];exact jG hol (hc.heap YR)
   obtain⟨hroom,Zt⟩:=Eg (P:=prog) (w:=w) (tS:=37) (xT:=37) (ty:=37) Tryz.underlying37 ⟨_,Tryz.underlying37,λk h=>by cases h⟩ EE hz0 (base:=base) (sLen:=l.length) (sCap:=c) (n:=1) (x:= .slice (some ⟨vb,voff,none⟩) 1 vc)
    (by simp[Builtin.lenOf]) (news:=news) (olds:=olds) (λw' YR=>by rw[hsz];exact jG (by omega) (hcv.heap YR)) holds (by rw[hby];omega) (by omega)
   by_cases hr:l.length+1<=c
   .rcases hor with⟨h0,h1⟩|⟨off,C,e,fz,rfl,hb,hz,hc,hfit⟩
    .omega
    .have hst:=pE (P:=prog) (off:=off+l.length*5) hb hz (by rw[hnl];have:=hH 5 hr;omega) JC;have hrun:=hroom hr _ (by rw[hsz];simpa [addr_add]using hst);obtain⟨C',hI⟩:=Qj (k:=5) hb hz hc hol hnl hr hfit hmax;exact DW w _ l.length c vb voff vc _ _ _ hnc qb (λh=>by cases h) (λty=>hrun) ⟨_,_,_,_,_,_,_,rfl,hI⟩
   .have hrun:=Zt (by omega);have hgc:=grownCap_ge w (l.length+1) c 64;have VE:grownCap w (l.length+1) c 64<=maxLen:=BY _ _ _ _ (by simp[maxLen];omega);obtain⟨C',hI⟩:=Qk (w:=w) (b:=bb) (n:=l.length) (k:=5) (cap:=grownCap w (l.length+1) c 64) (e:=64) (olds:=olds) (news:=news) (ROW:=olds.toArray++news.toArray++Builtin.zeroCells z.cells (grownCap w (l.length+1) c 64-(l.length+1)))
     (λj v hv=>by
      rw[show olds.toArray++news.toArray=(olds++news).toArray by simp,rI (by simpa using(cA.1 hv).1)];simpa using hv)
     (by simp only[Array.size_append,size_toArray,size_zeroCells,hzc,hol,hnl];omega) hgc VE
    exact DW w _ l.length c vb voff vc _ _ _ hnc qb (λh=>by
     subst h;rcases hor with⟨h0,h1⟩|⟨off,C,e,fz,h,_⟩
     .exact h0
     .cases h) (λty=>hrun) ⟨_,_,_,_,_,_,_,rfl,hI⟩)
 simpa using h
theorem Pk[aB prog](l:List gW)(m:gW)(i:Nat)(hi:i<=l.length)(hn:l.length<=1099511627776):UD prog 128 [.oN (.sl .own 5 (l.map dN)),.view (.int .i64 i),.oN (.sl .own 5 [dN m])] (.sl .own 5 ((l.take i++m::l.drop i).map dN)):=by
 by_cases h:i<l.length
 .exact Yz l m i h hn
 .obtain rfl:i=l.length:=by omega
  simpa using VR l m hn
end Go.Proofs.YtjkdolejalpflaaGreatDoor
