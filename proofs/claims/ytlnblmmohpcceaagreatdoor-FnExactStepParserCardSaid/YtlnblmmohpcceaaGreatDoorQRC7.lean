/-
  Proved here: steps towards the statement of this claim, text QRC7.
  No condition beyond what each statement spells out.
-/
import Derived.Test.YtlnblmmohpcceaaGreatDoorQRLsc
import Derived.Test.YtlnblmmohpcceaaGreatDoorQR7
import Derived.Test.YtlnblmmohpcceaaGreatDoorQP3
import Derived.Test.YtlnblmmohpcceaaGreatDoorF8
import Derived.Test.YtlnblmmohpcceaaGreatDoorQT3
import Derived.Test.YtlnblmmohpcceaaGreatDoorQC1
set_option linter.all false
set_option maxRecDepth 8000
set_option maxHeartbeats 8000000
namespace Go.Proofs.YtlnblmmohpcceaaGreatDoor
open Go.Aw
def dZ (l:List Str) (s:Str):List Str:=if l.length < 40 then l++[s] else l
theorem zT [aA Tryz.prog] [dY Tryz.prog] (p:aJ) (s:Str) (hs:p.log.length≤1099511627776):OkG Tryz.prog 89 [.lend (aG .own p) (aG .own {p with log:=dZ p.log s}),.view (.str s)] (.tup []):=by
 by_cases h:p.log.length < 40
 ·have hi:(p.log.length:Int) < 40:=by omega
  obtain ⟨l1,hl1⟩:∃l,l=p.log++[s]:=⟨_,rfl⟩
  have hap:p.log.map bU++[[.str s]]=l1.map bU:=by rw [hl1];simp
  have e:dZ p.log s=l1:=by unfold dZ;rw [if_pos h,hl1]
  rw [e]
  clear e hl1
  refine iE Tryz.mix Tryz.func89 Tryz.ntmps89 ?_
  have W:=And.intro hi (And.intro hap hs)
  repeat' first|refine wl ?_|(refine sq (fun hc=>?_) (fun hc=>?_)<;>try exact hc.elim)|fail
  all_goals (try (refine ⟨by first|exact .inr rfl|exact .inl rfl,?_⟩;simp [dK,bQ,bN,rowOf,Tryz.results89]))
 ·have hi:¬(p.log.length:Int) < 40:=by omega
  have e:dZ p.log s=p.log:=by unfold dZ;rw [if_neg h]
  rw [e]
  clear e
  refine iE Tryz.mix Tryz.func89 Tryz.ntmps89 ?_
  have W:=hi
  repeat' first|refine wl ?_|(refine sq (fun hc=>?_) (fun hc=>?_)<;>try exact hc.elim)|fail
  all_goals (try (refine ⟨by first|exact .inr rfl|exact .inl rfl,?_⟩;simp [dK,bQ,bN,rowOf,Tryz.results89]))
def pOs (q:aJ):List aB:=[⟨true,false,1,1,q.policy.scripts.map bU⟩,⟨true,false,1,1,q.policy.styles.map bU⟩,⟨true,false,1,1,q.policy.images.map bU⟩,⟨true,false,4,1,q.queue.map (aU .own)⟩,⟨true,false,4,1,q.builder.nodes.map (bB .own)⟩,⟨true,false,1,1,q.builder.opens.map dV⟩,⟨true,false,8,1,q.slots.map eX⟩,⟨true,false,5,1,q.mods.map bD⟩,⟨true,false,2,1,q.entries.map aF⟩,⟨true,false,2,1,q.ran.map aF⟩,⟨true,false,1,1,q.log.map bU⟩]
def pCs (b:Nat) (q:aJ):List AV:=[.str q.addr.host,.str q.addr.path,.bool q.policy.isSet,.obj b 1,.obj (b+1) 1,.obj (b+2) 1,.str q.policy.nonce,.str q.tok.rest,.obj (b+3) 1,.bool q.ended,.obj (b+4) 1,.obj (b+5) 1,.obj (b+6) 1,.obj (b+7) 1,.obj (b+8) 1,.int .i64 q.block,.int .i64 q.inline,.int .i64 q.deferred,.int .i64 q.entered,.obj (b+9) 1,.obj (b+10) 1,.bool q.loaded]
def aCw:List (Nat×Nat):=[(1,17),(2,18),(3,19),(4,20),(5,21),(6,22),(7,23),(8,24),(9,25),(10,26),(11,27)]
theorem bAw {t t':List AV} {o o':List aB} {n1 v1 n2 v2 n3 v3 n4 v4 n5 v5 n6 v6 n7 v7 n8 v8 n9 v9 n10 v10 n11 v11:Nat} {e1 e2 e3 e4 e5 e6 e7 e8 e9 e10 e11:List (List AV)} {o12 o13 o14 o15 o16:aB} {q:aJ} (ho:o=[⟨true,true,22,2,[pCs 17 q]⟩,⟨false,false,n1,v1,e1⟩,⟨false,false,n2,v2,e2⟩,⟨false,false,n3,v3,e3⟩,⟨false,false,n4,v4,e4⟩,⟨false,false,n5,v5,e5⟩,⟨false,false,n6,v6,e6⟩,⟨false,false,n7,v7,e7⟩,⟨false,false,n8,v8,e8⟩,⟨false,false,n9,v9,e9⟩,⟨false,false,n10,v10,e10⟩,⟨false,false,n11,v11,e11⟩,o12,o13,o14,o15,o16]++pOs q)
  (ho':o'=[⟨true,true,22,2,[pCs 1 q]⟩]++pOs q++[o12,o13,o14,o15,o16]) (ht:∀z∈aCw,wk (jW z.1 z.2 t') t') (hf:∀z∈aCw,o12.rsw z.1 z.2=o12∧o13.rsw z.1 z.2=o13∧o14.rsw z.1 z.2=o14∧o15.rsw z.1 z.2=o15∧o16.rsw z.1 z.2=o16) (hw:wk t t') (hc:fK 17 t'=true) (hc0:dL 17 [o12,o13,o14,o15,o16]=true):gF ⟨t,o⟩ ⟨t',o'⟩:=by
 subst ho;subst ho'
 have e:=fun i j (h:(i,j)∈aCw)=>hf (i,j) h
 have h:=fun i j (h:(i,j)∈aCw)=>ht (i,j) h
 simp only [pOs,pCs,List.cons_append,List.nil_append]
 refine (uN hw).trans ?_
 refine (bR 1 17 rfl rfl ⟨rfl,rfl⟩ (by simp [(e 1 17 (by decide))];rfl) (h 1 17 (by decide))).trans ?_
 refine (bR 2 18 rfl rfl ⟨rfl,rfl⟩ (by simp [(e 2 18 (by decide))];rfl) (h 2 18 (by decide))).trans ?_
 refine (bR 3 19 rfl rfl ⟨rfl,rfl⟩ (by simp [(e 3 19 (by decide))];rfl) (h 3 19 (by decide))).trans ?_
 refine (bR 4 20 rfl rfl ⟨rfl,rfl⟩ (by simp [(e 4 20 (by decide))];rfl) (h 4 20 (by decide))).trans ?_
 refine (bR 5 21 rfl rfl ⟨rfl,rfl⟩ (by simp [(e 5 21 (by decide))];rfl) (h 5 21 (by decide))).trans ?_
 refine (bR 6 22 rfl rfl ⟨rfl,rfl⟩ (by simp [(e 6 22 (by decide))];rfl) (h 6 22 (by decide))).trans ?_
 refine (bR 7 23 rfl rfl ⟨rfl,rfl⟩ (by simp [(e 7 23 (by decide))];rfl) (h 7 23 (by decide))).trans ?_
 refine (bR 8 24 rfl rfl ⟨rfl,rfl⟩ (by simp [(e 8 24 (by decide))];rfl) (h 8 24 (by decide))).trans ?_
 refine (bR 9 25 rfl rfl ⟨rfl,rfl⟩ (by simp [(e 9 25 (by decide))];rfl) (h 9 25 (by decide))).trans ?_
 refine (bR 10 26 rfl rfl ⟨rfl,rfl⟩ (by simp [(e 10 26 (by decide))];rfl) (h 10 26 (by decide))).trans ?_
 refine (bR 11 27 rfl rfl ⟨rfl,rfl⟩ (by simp [(e 11 27 (by decide))];rfl) (h 11 27 (by decide))).trans ?_
 refine aQ 17 (by simp) (iT _) hc ?_
 simpa [dL,fK,closed] using hc0
theorem bDr {t t':List AV} {o o' o1 o2:List aB} {a b c d e:aB} (h5:o[5]? =some a) (h14:o[14]? =some b) (hb:a.box=false∧b.box=false) (e1:((o.set 5 b).set 14 a).map (aB.rsw 5 14)=o1) (h6:o1[6]? =some c) (h15:o1[15]? =some d) (hd:c.box=false∧d.box=false) (e2:((o1.set 6 d).set 15 c).map (aB.rsw 6 15)=o2) (h12:o2[12]? =some e) (e3:o2.set 12 ⟨false,false,0,e.ver,[]⟩=o') (w1:wk (jW 5 14 t) t') (w2:wk (jW 6 15 t') t'):gF ⟨t,o⟩ ⟨t',o'⟩:=
 (bR 5 14 h5 h14 hb e1 w1).trans ((bR 6 15 h6 h15 hd e2 w2).trans (aOo 12 h12 e3 (iT _)))
def gG (l ss:List Str):List Str:=ss.foldl dZ l
theorem aCd (l ss:List Str) (k:Nat) (h:k < ss.length):gG l (ss.take (k+1))=dZ (gG l (ss.take k)) ss[k]:=by
 unfold gG
 rw [List.take_succ_eq_append_getElem h,List.foldl_append];rfl
theorem aEc (l:List Str):∀ss:List Str,(gG l ss).length≤l.length+ss.length:=by
 intro ss
 induction ss generalizing l with
 |nil=>simp [gG]
 |cons s ss ih=>
  have h1:(dZ l s).length≤l.length+1:=by unfold dZ;split<;>simp
  have h2:=ih (dZ l s)
  have e:gG l (s::ss)=gG (dZ l s) ss:=rfl
  rw [e];simp only [List.length_cons];omega
def lN (p:aJ) (l:List fI) (w:Bool):aJ:=
 {p with builder:=(dE p.builder (bO p) l).1,log:=gG p.log (dE p.builder (bO p) l).2.2,queue:=if w=true then oH (dE p.builder (bO p) l).2.1++p.queue else p.queue}
theorem aNq {α:Type} {f:α→Option Int} {l:List α} {k:Nat} {v:Int} (h:look f l k=some v):∃x∈l,f x=some v:=by
 unfold look at h
 obtain ⟨x,hx,hv⟩:=List.exists_of_findSome?_eq_some h
 exact ⟨x,List.mem_of_mem_take (List.mem_reverse.1 hx),hv⟩
theorem aWn {q:Str} {r:uU} (h:mX q=some r):1≤r.color∧r.color≤999:=by
 unfold mX at h
 split at h
 ·split at h
  ·rename_i hc
   obtain rfl:=Option.some.inj h
   exact hc.2
  ·cases h
 ·cases h
theorem rA (p:aJ) (n:Str):0≤aT (bO p) n∧aT (bO p) n≤999:=by
 unfold aT
 cases h:look (qO n) (bO p) (bO p).length with
 |none=>simp
 |some v=>
  obtain ⟨s,hs,hv⟩:=aNq h
  unfold qO at hv
  obtain ⟨r,hr,hrv⟩:=aNq hv
  unfold yC at hrv
  split at hrv
  ·obtain rfl:=Option.some.inj hrv
   unfold bO jU at hs
   obtain ⟨y,_,rfl⟩:=List.mem_map.1 hs
   have h1:=List.mem_of_mem_take hr
   obtain ⟨q,_,hq⟩:=List.mem_filterMap.1 h1
   have:=aWn hq
   simp only [Option.getD_some]
   omega
  ·cases hrv
theorem zJ (p:aJ):(bO p).length≤p.slots.length∧∀x∈bO p,x.rules.length≤8:=by
 refine ⟨aBd _,?_⟩
 intro x hx
 unfold bO jU at hx
 obtain ⟨y,_,rfl⟩:=List.mem_map.1 hx
 exact aRk (bH 59 y.body)
theorem bCb {s:Str} (h:bS s=true):s.length≤8:=by
 simp only [bS,Bool.and_eq_true,decide_eq_true_eq] at h
 omega
theorem wL {s:Str} {op:Nat} {v:fI×Bool} (h:fQ s op=some v) (hb:v.2=true):v.1.text.length≤60:=by
 unfold fQ at h
 split at h
 ·obtain rfl:=Option.some.inj h
  simp only at hb⊢
  unfold dX at hb
  split at hb
  ·simpa using hb
  ·have:=bCb hb
   omega
 ·cases h
theorem aJo {α:Type} {a b:Option α} {v:α} (h:a.or b=some v):a=some v∨b=some v:=by
 cases a with
 |none=>exact .inr (by simpa using h)
 |some x=>exact .inl (by simpa using h)
theorem aPd (p:Str) (h:(bG p).2=true):(bG p).1.text.length≤60:=by
 unfold bG at h⊢
 cases hv:((((fQ p 1).or (fQ p 2)).or (fQ p 3)).or (fQ p 4)).or (fQ p 5) with
 |none=>simp
 |some v=>
  rw [hv] at h
  simp only [Option.getD_some] at h⊢
  rcases aJo hv with hv|hv
  ·rcases aJo hv with hv|hv
   ·rcases aJo hv with hv|hv
    ·rcases aJo hv with hv|hv
     ·exact wL hv h
     ·exact wL hv h
    ·exact wL hv h
   ·exact wL hv h
  ·exact wL hv h
theorem uW (s:Str):(eO s).1.length≤6∧∀x∈(eO s).1,x.text.length≤60:=by
 unfold eO
 split
 ·simp
 ·split
  ·rename_i h
   refine ⟨by simpa using h.2,?_⟩
   intro x hx
   obtain ⟨p,hp,rfl⟩:=List.mem_map.1 hx
   exact aPd p (List.all_eq_true.1 h.1 p hp)
  ·simp
theorem aBs [aA Tryz.prog] [dY Tryz.prog] [dG Tryz.prog] [lY Tryz.prog] (p:aJ) (l:List fI) (w:Bool) (hs:aD p≤67108864) (h6:l.length≤6) (hx:∀x∈l,x.text.length≤60):
  OkG Tryz.prog 166 [.lend (aG .own p) (aG .own (lN p l w)),.view (.sl .view 2 (l.map fU)),.view (.bool w)] (.tup []):=by
 have hsl:szL fG p.slots≤1073741824:=by simp only [aD,szL] at *;omega
 have hsb:aI p.builder≤67108864:=by simp only [aD] at hs;omega
 have hlg:p.log.length≤67108864:=by simp only [aD,szL] at hs;omega
 have hqu:p.queue.length≤67108864:=by simp only [aD,szL] at hs;omega
 have c1:=aJ2 p hsl
 obtain ⟨hb1,hb2⟩:=zJ p
 have hb1':(bO p).length≤67108864:=by simp only [aD,szL] at hs;omega
 have c2:=aIr p.builder (bO p) l (by omega) h6 (fun x hm=>by have:=hx x hm;omega) (by omega) (fun x hm=>by have:=hb2 x hm;omega) (rA p)
 obtain ⟨z1,z2,z3,z4⟩:=vJ 60 p.builder (bO p) l (by omega) h6 hx (rA p) (by omega) l.length (Nat.le_refl _)
 have hend:kC p.builder (bO p) l l.length=dE p.builder (bO p) l:=by simp [kC]
 rw [hend] at z1 z2 z3 z4
 have c3:=aJh (dE p.builder (bO p) l).2.1 (by omega)
 obtain ⟨y1,y2⟩:=aCn (dE p.builder (bO p) l).2.1
 unfold lN
 clear hb2 hx hend
 generalize bO p=ss at *
 generalize dE p.builder ss l=g at *
 obtain ⟨b,wr,lg⟩:=g
 simp only at c2 c3 z1 z2 z3 z4 y1 y2⊢
 generalize oH wr=tk at *
 simp only [aG,aL] at c1 c2
 refine iE Tryz.mix Tryz.func166 Tryz.ntmps166 ?_
 have W:=trivial
 repeat' first|refine wl ?_|(refine sq (fun hc=>?_) (fun hc=>?_)<;>try exact hc.elim)|fail
 obtain ⟨Q,hQ⟩:∃Q:Nat→aJ,∀k,Q k={p with builder:=b,log:=gG p.log (lg.take k)}:=⟨_,fun _=>rfl⟩
 have hQ0:Q 0={p with builder:=b}:=by rw [hQ];rfl
 have hQn:Q lg.length={p with builder:=b,log:=gG p.log lg}:=by rw [hQ,List.take_length]
 have hQl:∀k,k≤lg.length→(Q k).log.length≤1099511627776:=fun k hk=>by
  rw [hQ];have:=aEc p.log (lg.take k);simp only [List.length_take] at this⊢;omega
 have hQs:∀k (h:k < lg.length),Q (k+1)={Q k with log:=dZ (Q k).log lg[k]}:=fun k h=>by
  rw [hQ,hQ,aCd _ _ _ h]
 refine aM (ι:={k:Nat // k≤lg.length}) (fun t o i=>⟨aO t [(31,.int .i64 i.1),(10,.undef),(11,.undef),(15,.undef),(18,.undef),(21,.undef),(22,.undef),(26,.undef)],[⟨true,true,22,2,[pCs 1 (Q i.1)]⟩]++pOs (Q i.1)++[⟨false,false,0,1,[]⟩,⟨true,false,1,1,ss.map (bP .own)⟩,⟨true,false,4,1,p.builder.nodes.map (bB .own)⟩,⟨true,false,1,1,p.builder.opens.map dV⟩,⟨true,false,1,1,lg.map bU⟩]⟩)
  (fun i=>lg.length - i.1) ⟨0,by simp⟩ ?_ ?_
 ·simp only [hQ0,pCs,pOs,aO,List.set_cons_succ,List.set_cons_zero,List.cons_append,List.nil_append]
  exact bDr rfl rfl ⟨rfl,rfl⟩ (by simp;rfl) rfl rfl ⟨rfl,rfl⟩ (by simp;rfl) rfl (by simp) (by simp) (by simp)
 rintro ⟨k,hk⟩ K1 hK1
 have hk1:IntKind.i64.wrap ((k:Int)+1)=((k+1:Nat):Int):=by rw [wrap64]<;>omega
 by_cases hlt:k < lg.length
 ·have hg:=List.getElem?_eq_getElem hlt
  have hnext:=hQs k hlt
  have c4:=zT (Q k) lg[k] (hQl k hk)
  rw [←hnext] at c4
  have hK2:=hK1
  clear hQ hQ0 hQn hQl hQs hnext
  generalize hq':Q (k+1)=q' at *
  generalize hq:Q k=q at *
  simp only [aO,List.set_cons_succ,List.set_cons_zero,List.cons_append,List.nil_append,pOs,pCs] at hK1⊢
  simp only [aG] at c4
  have W:=And.intro hk1 (And.intro hg hlt)
  repeat' first|refine wl ?_|(refine nx ?_;refine sg (hc:=c4) (h:=?_))|(refine sq (fun hc=>?_) (fun hc=>?_)<;>try exact hc.elim)|fail
  refine hK2 _ ⟨k+1,by omega⟩ ?_ (by simp only;omega)
  exact bAw (q:=q') rfl (by simp [pOs,pCs,hq']) (by simp [aCw]) (by simp [aCw]) (by simp) (by simp) (by simp [dL])
 ·have hkl:k=lg.length:=by omega
  subst hkl
  simp only [hQn,aO,List.set_cons_succ,List.set_cons_zero,List.cons_append,List.nil_append,pOs,pCs] at hK1⊢
  clear hQ hQ0 hQn hQl hQs hK1
  cases w
  ·have W:=hk1
   repeat' first|refine wl ?_|(refine sq (fun hc=>?_) (fun hc=>?_)<;>try exact hc.elim)|fail
   all_goals (try (refine ⟨by first|exact .inr rfl|exact .inl rfl,?_⟩;simp [dK,bQ,bN,rowOf,Tryz.results166]))
  ·rw [if_pos rfl]
   have hbq:(tk.length+p.queue.length) * 64≤140737488355328:=by omega
   have W:=And.intro hk1 hbq
   repeat' first|refine wl ?_|(refine sq (fun hc=>?_) (fun hc=>?_)<;>try exact hc.elim)|fail
   all_goals (try (refine ⟨by first|exact .inr rfl|exact .inl rfl,?_⟩;simp [dK,bQ,bN,rowOf,Tryz.results166]))
   all_goals (rw [←List.map_append];exact sZ _)
def aDc:Str:=[101,114,114,111,114]
def jQ (p:aJ) (code:Str) (w:Bool):aJ:=
 if (eO code).2=true then lN p (eO code).1 w else {p with log:=dZ p.log aDc}
theorem xP [aA Tryz.prog] [dY Tryz.prog] [dG Tryz.prog] [lY Tryz.prog] (p:aJ) (code:Str) (w:Bool) (hs:aD p≤67108864) (hc:code.length≤1073741824):Ok Tryz.prog 84 [.agg (aG .view p),.str code,.bool w] (.agg (aG .own (jQ p code w))):=by
 have c1:=jZ p (by omega)
 have c2:=yT code hc
 have hlg:p.log.length≤67108864:=by simp only [aD,szL] at hs;omega
 obtain ⟨b1,b2⟩:=uW code
 have c3:=zT p aDc (by omega)
 have c4:=aBs p (eO code).1 w hs b1 b2
 unfold jQ
 generalize eO code=g at *
 obtain ⟨l,ok⟩:=g
 simp only at c2 c4⊢
 generalize lN p l w=r at *
 simp only [aG,aDc] at c1 c3 c4⊢
 cases ok
 ·rw [if_neg (by simp)]
  refine ent Tryz.mix Tryz.func84 Tryz.ntmps84 ?_
  have W:=trivial
  repeat' first|refine wl ?_|(refine nx ?_;refine sg (hc:=c3) (h:=?_))|(refine sq (fun hc=>?_) (fun hc=>?_)<;>try exact hc.elim)|fail
  all_goals (try (refine ⟨.inr rfl,?_⟩;simp [Hands,Tryz.results84]))
 ·rw [if_pos rfl]
  refine ent Tryz.mix Tryz.func84 Tryz.ntmps84 ?_
  have W:=trivial
  repeat' first|refine wl ?_|(refine nx ?_;refine sg (hc:=c4) (h:=?_))|(refine sq (fun hc=>?_) (fun hc=>?_)<;>try exact hc.elim)|fail
  all_goals (try (refine ⟨.inr rfl,?_⟩;simp [Hands,Tryz.results84]))
end Go.Proofs.YtlnblmmohpcceaaGreatDoor
