/- Proved here: steps towards the statement of this claim. No condition. -/
import Derived.Test.YtlnblmmohpcceaaGreatDoorZQRLsc
import Derived.Test.YtlnblmmohpcceaaGreatDoorZQP3
set_option linter.all false
set_option maxRecDepth 8000
set_option maxHeartbeats 8000000
namespace Go.Proofs.YtlnblmmohpcceaaGreatDoor
open Go.Aw Proofs.Tryz List IntKind
def iL (l:List bC) (s:bC):List bC:=if l.length < 40 then l++[s] else l
theorem BZ [aD prog] [fV prog] (p:aP) (s:bC) (hs:p.log.length<=1099511627776):IJ prog 89 [.pX (aM .own p) (aM .own {p with log:=iL p.log s}),.view (.str s)] (.gV []):=by
 by_cases h:p.log.length < 40
 ·have hi:(p.log.length:Int) < 40:=by omega
  obtain ⟨l1,hl1⟩:∃l,l=p.log++[s]:=⟨_,rfl⟩
  have hap:p.log.map fF++[[.str s]]=l1.map fF:=by rw [hl1];simp
  have e:iL p.log s=l1:=by unfold iL;rw [if_pos h,hl1]
  rw [e]
  clear e hl1
  refine oI aAc func89 ntmps89 ?_
  have W:=aA hi (aA hap hs)
  repeat' first|refine wl ?_|(refine sq ?_ ?_<;>intro hc<;>try exact hc.elim)|fail
  all_goals try(refine ⟨by first|exact .inr rfl|exact .inl rfl,?_⟩;simp [eZ,cZ,bZ,rowOf,results89])
 ·have hi:¬(p.log.length:Int) < 40:=by omega
  have e:iL p.log s=p.log:=by unfold iL;rw [if_neg h]
  rw [e]
  clear e
  refine oI aAc func89 ntmps89 ?_
  have W:=hi
  repeat' first|refine wl ?_|(refine sq ?_ ?_<;>intro hc<;>try exact hc.elim)|fail
  all_goals try(refine ⟨by first|exact .inr rfl|exact .inl rfl,?_⟩;simp [eZ,cZ,bZ,rowOf,results89])
def Bq (q:aP):List aG:=[⟨true,false,1,1,q.cB.jQ.map fF⟩,⟨true,false,1,1,q.cB.mO.map fF⟩,⟨true,false,1,1,q.cB.nD.map fF⟩,⟨true,false,4,1,q.queue.map (bB .own)⟩,⟨true,false,4,1,q.builder.nodes.map (bX .own)⟩,⟨true,false,1,1,q.builder.opens.map iX⟩,⟨true,false,8,1,q.aF.map iO⟩,⟨true,false,5,1,q.aX.map bO⟩,⟨true,false,2,1,q.entries.map aK⟩,⟨true,false,2,1,q.nY.map aK⟩,⟨true,false,1,1,q.log.map fF⟩]
def Br (b:Nat) (q:aP):List AV:=[.str q.addr.host,.str q.addr.path,.bool q.cB.isSet,.obj b 1,.obj (b+1) 1,.obj (b+2) 1,.str q.cB.Gx,.str q.tok.rest,.obj (b+3) 1,.bool q.ended,.obj (b+4) 1,.obj (b+5) 1,.obj (b+6) 1,.obj (b+7) 1,.obj (b+8) 1,.int .i64 q.block,.int .i64 q.inline,.int .i64 q.deferred,.int .i64 q.fO,.obj (b+9) 1,.obj (b+10) 1,.bool q.mP]
def Jr:List (Nat×Nat):=[(1,17),(2,18),(3,19),(4,20),(5,21),(6,22),(7,23),(8,24),(9,25),(10,26),(11,27)]
theorem T9 {t t':List AV} {o o':List aG} {n1 v1 n2 v2 n3 v3 n4 v4 n5 v5 n6 v6 n7 v7 n8 v8 n9 v9 Tk v10 Tm v11:Nat} {e1 e2 e3 e4 e5 e6 e7 e8 e9 Tn Tp:List (List AV)} {U0 U6 Tq Vy jf:aG} {q:aP} (ho:o=[⟨true,true,22,2,[Br 17 q]⟩,⟨false,false,n1,v1,e1⟩,⟨false,false,n2,v2,e2⟩,⟨false,false,n3,v3,e3⟩,⟨false,false,n4,v4,e4⟩,⟨false,false,n5,v5,e5⟩,⟨false,false,n6,v6,e6⟩,⟨false,false,n7,v7,e7⟩,⟨false,false,n8,v8,e8⟩,⟨false,false,n9,v9,e9⟩,⟨false,false,Tk,v10,Tn⟩,⟨false,false,Tm,v11,Tp⟩,U0,U6,Tq,Vy,jf]++Bq q)
  (ho':o'=[⟨true,true,22,2,[Br 1 q]⟩]++Bq q++[U0,U6,Tq,Vy,jf]) (ht:∀z∈Jr,wk (qI z.1 z.2 t') t') (hf:∀z∈Jr,U0.mH z.1 z.2=U0/\U6.mH z.1 z.2=U6/\Tq.mH z.1 z.2=Tq/\Vy.mH z.1 z.2=Vy/\jf.mH z.1 z.2=jf) (hw:wk t t') (hc:fM 17 t'=true) (hc0:dL 17 [U0,U6,Tq,Vy,jf]=true):lS ⟨t,o⟩ ⟨t',o'⟩:=by
 subst ho;subst ho'
 have e:=fun i j (h:(i,j)∈Jr)=>hf (i,j) h
 have h:=fun i j (h:(i,j)∈Jr)=>ht (i,j) h
 simp only [Bq,Br,cons_append,nil_append]
 refine (wZ hw).trans ?_
 refine (bJ 1 17 rfl rfl ⟨rfl,rfl⟩ (by simp [(e 1 17 (by decide))];rfl) (h 1 17 (by decide))).trans ?_
 refine (bJ 2 18 rfl rfl ⟨rfl,rfl⟩ (by simp [(e 2 18 (by decide))];rfl) (h 2 18 (by decide))).trans ?_
 refine (bJ 3 19 rfl rfl ⟨rfl,rfl⟩ (by simp [(e 3 19 (by decide))];rfl) (h 3 19 (by decide))).trans ?_
 refine (bJ 4 20 rfl rfl ⟨rfl,rfl⟩ (by simp [(e 4 20 (by decide))];rfl) (h 4 20 (by decide))).trans ?_
 refine (bJ 5 21 rfl rfl ⟨rfl,rfl⟩ (by simp [(e 5 21 (by decide))];rfl) (h 5 21 (by decide))).trans ?_
 refine (bJ 6 22 rfl rfl ⟨rfl,rfl⟩ (by simp [(e 6 22 (by decide))];rfl) (h 6 22 (by decide))).trans ?_
 refine (bJ 7 23 rfl rfl ⟨rfl,rfl⟩ (by simp [(e 7 23 (by decide))];rfl) (h 7 23 (by decide))).trans ?_
 refine (bJ 8 24 rfl rfl ⟨rfl,rfl⟩ (by simp [(e 8 24 (by decide))];rfl) (h 8 24 (by decide))).trans ?_
 refine (bJ 9 25 rfl rfl ⟨rfl,rfl⟩ (by simp [(e 9 25 (by decide))];rfl) (h 9 25 (by decide))).trans ?_
 refine (bJ 10 26 rfl rfl ⟨rfl,rfl⟩ (by simp [(e 10 26 (by decide))];rfl) (h 10 26 (by decide))).trans ?_
 refine (bJ 11 27 rfl rfl ⟨rfl,rfl⟩ (by simp [(e 11 27 (by decide))];rfl) (h 11 27 (by decide))).trans ?_
 refine aS 17 (by simp) (kK _) hc ?_
 simpa [dL,fM,closed] using hc0
theorem aD9 {t t':List AV} {o o' o1 o2:List aG} {a b c d e:aG} (h5:o[5]? =some a) (h14:o[14]? =some b) (hb:a.box=false/\b.box=false) (e1:((o.set 5 b).set 14 a).map (aG.mH 5 14)=o1) (h6:o1[6]? =some c) (h15:o1[15]? =some d) (hd:c.box=false/\d.box=false) (e2:((o1.set 6 d).set 15 c).map (aG.mH 6 15)=o2) (ku:o2[12]? =some e) (e3:o2.set 12 ⟨false,false,0,e.bN,[]⟩=o') (w1:wk (qI 5 14 t) t') (w2:wk (qI 6 15 t') t'):lS ⟨t,o⟩ ⟨t',o'⟩:=
 (bJ 5 14 h5 h14 hb e1 w1).trans ((bJ 6 15 h6 h15 hd e2 w2).trans (Ru 12 ku e3 (kK _)))
def kZ (l ss:List bC):List bC:=ss.foldl iL l
theorem Dn (l ss:List bC) (k:Nat) (h:k < ss.length):kZ l (ss.take (k+1))=iL (kZ l (ss.take k)) ss[k]:=by
 unfold kZ
 rw [take_succ_eq_append_getElem h,foldl_append];rfl
theorem FL (l:List bC):∀ss:List bC,(kZ l ss).length<=l.length+ss.length:=by
 intro ss
 induction ss generalizing l with
 |nil=>simp [kZ]
 |cons s ss ih=>
  have h1:(iL l s).length<=l.length+1:=by unfold iL;split<;>simp
  have h2:=ih (iL l s)
  have e:kZ l (s::ss)=kZ (iL l s) ss:=rfl
  rw [e];simp only [length_cons];omega
def jP (p:aP) (l:List iG) (w:Bool):aP:=
 {p with builder:=(dP p.builder (bY p) l).1,log:=kZ p.log (dP p.builder (bY p) l).2.2,queue:=if w=true then rD (dP p.builder (bY p) l).2.1++p.queue else p.queue}
theorem Rw {α:Type} {f:α->Option Int} {l:List α} {k:Nat} {v:Int} (h:look f l k=some v):∃x∈l,f x=some v:=by
 unfold look at h
 obtain ⟨x,hx,hv⟩:=exists_of_findSome?_eq_some h
 exact ⟨x,mem_of_mem_take (mem_reverse.1 hx),hv⟩
theorem YG {q:bC} {r:Cm} (h:rA q=some r):1<=r.color/\r.color<=999:=by
 unfold rA at h
 split at h
 ·split at h
  ·rename_i hc
   obtain rfl:=Option.some.inj h
   exact hc.2
  ·cases h
 ·cases h
theorem tQ (p:aP) (n:bC):0<=aY (bY p) n/\aY (bY p) n<=999:=by
 unfold aY
 cases h:look (vL n) (bY p) (bY p).length with
 |none=>simp
 |some v=>
  obtain ⟨s,hs,hv⟩:=Rw h
  unfold vL at hv
  obtain ⟨r,hr,JN⟩:=Rw hv
  unfold EG at JN
  split at JN
  ·obtain rfl:=Option.some.inj JN
   unfold bY lQ at hs
   obtain ⟨y,_,rfl⟩:=mem_map.1 hs
   have h1:=mem_of_mem_take hr
   obtain ⟨q,_,hq⟩:=mem_filterMap.1 h1
   have:=YG hq
   simp only [Option.getD_some]
   omega
  ·cases JN
theorem AA (p:aP):(bY p).length<=p.aF.length/\∀x∈bY p,x.rules.length<=8:=by
 refine ⟨BU _,?_⟩
 intro x hx
 unfold bY lQ at hx
 obtain ⟨y,_,rfl⟩:=mem_map.1 hx
 exact VJ (eF 59 y.body)
theorem U9 {s:bC} (h:dJ s=true):s.length<=8:=by
 simp only [dJ,Bool.and_eq_true,decide_eq_true_eq] at h
 omega
theorem yX {s:bC} {op:Nat} {v:iG×Bool} (h:jO s op=some v) (hb:v.2=true):v.1.text.length<=60:=by
 unfold jO at h
 split at h
 ·obtain rfl:=Option.some.inj h
  simp only at hb⊢
  unfold fZ at hb
  split at hb
  ·simpa using hb
  ·have:=U9 hb
   omega
 ·cases h
theorem TG {α:Type} {a b:Option α} {v:α} (h:a.or b=some v):a=some v\/b=some v:=by
 cases a with
 |none=>exact .inr (by simpa using h)
 |some x=>exact .inl (by simpa using h)
theorem PZ (p:bC) (h:(bS p).2=true):(bS p).1.text.length<=60:=by
 unfold bS at h⊢
 cases hv:((((jO p 1).or (jO p 2)).or (jO p 3)).or (jO p 4)).or (jO p 5) with
 |none=>simp
 |some v=>
  rw [hv] at h
  simp only [Option.getD_some] at h⊢
  rcases TG hv with hv|hv
  ·rcases TG hv with hv|hv
   ·rcases TG hv with hv|hv
    ·rcases TG hv with hv|hv
     ·exact yX hv h
     ·exact yX hv h
    ·exact yX hv h
   ·exact yX hv h
  ·exact yX hv h
theorem vX (s:bC):(eG s).1.length<=6/\∀x∈(eG s).1,x.text.length<=60:=by
 unfold eG
 split
 ·simp
 ·split
  ·rename_i h
   refine ⟨by simpa using h.2,?_⟩
   intro x hx
   obtain ⟨p,hp,rfl⟩:=mem_map.1 hx
   exact PZ p (all_eq_true.1 h.1 p hp)
  ·simp
theorem Cu [aD prog] [fV prog] [eO prog] [qF prog] (p:aP) (l:List iG) (w:Bool) (hs:aL p<=67108864) (h6:l.length<=6) (hx:∀x∈l,x.text.length<=60):
  IJ prog 166 [.pX (aM .own p) (aM .own (jP p l w)),.view (.sl .view 2 (l.map jL)),.view (.bool w)] (.gV []):=by
 have hsl:bP gZ p.aF<=1073741824:=by simp only [aL,bP] at *;omega
 have hsb:aH p.builder<=67108864:=by simp only [aL] at hs;omega
 have Xj:p.log.length<=67108864:=by simp only [aL,bP] at hs;omega
 have hqu:p.queue.length<=67108864:=by simp only [aL,bP] at hs;omega
 have c1:=KP p hsl
 obtain ⟨hb1,hb2⟩:=AA p
 have hb1':(bY p).length<=67108864:=by simp only [aL,bP] at hs;omega
 have c2:=Jn p.builder (bY p) l (by omega) h6 (fun x hm=>by have:=hx x hm;omega) (by omega) (fun x hm=>by have:=hb2 x hm;omega) (tQ p)
 obtain ⟨z1,z2,z3,z4⟩:=yT 60 p.builder (bY p) l (by omega) h6 hx (tQ p) (by omega) l.length (Nat.le_refl _)
 have hend:oM p.builder (bY p) l l.length=dP p.builder (bY p) l:=by simp [oM]
 rw [hend] at z1 z2 z3 z4
 have c3:=KT (dP p.builder (bY p) l).2.1 (by omega)
 obtain ⟨y1,y2⟩:=Dm (dP p.builder (bY p) l).2.1
 unfold jP
 clear hb2 hx hend
 generalize bY p=ss at *
 generalize dP p.builder ss l=g at *
 obtain ⟨b,wr,lg⟩:=g
 simp only at c2 c3 z1 z2 z3 z4 y1 y2⊢
 generalize rD wr=tk at *
 simp only [aM,aN] at c1 c2
 refine oI aAc func166 ntmps166 ?_
 have W:=trivial
 repeat' first|refine wl ?_|(refine sq ?_ ?_<;>intro hc<;>try exact hc.elim)|fail
 obtain ⟨Q,hQ⟩:∃Q:Nat->aP,∀k,Q k={p with builder:=b,log:=kZ p.log (lg.take k)}:=⟨_,fun _=>rfl⟩
 have hQ0:Q 0={p with builder:=b}:=by rw [hQ];rfl
 have hQn:Q lg.length={p with builder:=b,log:=kZ p.log lg}:=by rw [hQ,take_length]
 have hQl:∀k,k<=lg.length->(Q k).log.length<=1099511627776:=fun k hk=>by
  rw [hQ];have:=FL p.log (lg.take k);simp only [length_take] at this⊢;omega
 have hQs:∀k (h:k < lg.length),Q (k+1)={Q k with log:=iL (Q k).log lg[k]}:=fun k h=>by
  rw [hQ,hQ,Dn _ _ _ h]
 refine aJ (ι:={k:Nat // k<=lg.length}) (fun t o i=>⟨aZ t [(31,.int .i64 i.1),(10,.undef),(11,.undef),(15,.undef),(18,.undef),(21,.undef),(22,.undef),(26,.undef)],[⟨true,true,22,2,[Br 1 (Q i.1)]⟩]++Bq (Q i.1)++[⟨false,false,0,1,[]⟩,⟨true,false,1,1,ss.map (dI .own)⟩,⟨true,false,4,1,p.builder.nodes.map (bX .own)⟩,⟨true,false,1,1,p.builder.opens.map iX⟩,⟨true,false,1,1,lg.map fF⟩]⟩)
  (fun i=>lg.length - i.1) ⟨0,by simp⟩ ?_ ?_
 ·simp only [hQ0,Br,Bq,aZ,set_cons_succ,set_cons_zero,cons_append,nil_append]
  exact aD9 rfl rfl ⟨rfl,rfl⟩ (by simp;rfl) rfl rfl ⟨rfl,rfl⟩ (by simp;rfl) rfl (by simp) (by simp) (by simp)
 rintro ⟨k,hk⟩ K1 hK1
 have hk1:i64.wrap ((k:Int)+1)=((k+1:Nat):Int):=by rw [wrap64]<;>omega
 by_cases hlt:k < lg.length
 ·have hg:=getElem?_eq_getElem hlt
  have hnext:=hQs k hlt
  have c4:=BZ (Q k) lg[k] (hQl k hk)
  rw [<-hnext] at c4
  have hK2:=hK1
  clear hQ hQ0 hQn hQl hQs hnext
  generalize hq':Q (k+1)=q' at *
  generalize hq:Q k=q at *
  simp only [aZ,set_cons_succ,set_cons_zero,cons_append,nil_append,Bq,Br] at hK1⊢
  simp only [aM] at c4
  have W:=aA hk1 (aA hg hlt)
  repeat' first|refine wl ?_|(refine nx ?_;refine sg (hc:=c4) (h:=?_))|(refine sq ?_ ?_<;>intro hc<;>try exact hc.elim)|fail
  refine hK2 _ ⟨k+1,by omega⟩ ?_ (by simp only;omega)
  exact T9 (q:=q') rfl (by simp [Bq,Br,hq']) (by simp [Jr]) (by simp [Jr]) (by simp) (by simp) (by simp [dL])
 ·have hkl:k=lg.length:=by omega
  subst hkl
  simp only [hQn,aZ,set_cons_succ,set_cons_zero,cons_append,nil_append,Bq,Br] at hK1⊢
  clear hQ hQ0 hQn hQl hQs hK1
  cases w
  ·have W:=hk1
   repeat' first|refine wl ?_|(refine sq ?_ ?_<;>intro hc<;>try exact hc.elim)|fail
   all_goals try(refine ⟨by first|exact .inr rfl|exact .inl rfl,?_⟩;simp [eZ,cZ,bZ,rowOf,results166])
  ·rw [if_pos rfl]
   have hbq:(tk.length+p.queue.length) * 64<=140737488355328:=by omega
   have W:=aA hk1 hbq
   repeat' first|refine wl ?_|(refine sq ?_ ?_<;>intro hc<;>try exact hc.elim)|fail
   all_goals try(refine ⟨by first|exact .inr rfl|exact .inl rfl,?_⟩;simp [eZ,cZ,bZ,rowOf,results166])
   all_goals (rw [<-map_append];exact uG _)
def Js:bC:=[101,114,114,111,114]
def kP (p:aP) (code:bC) (w:Bool):aP:=
 if (eG code).2=true then jP p (eG code).1 w else {p with log:=iL p.log Js}
theorem yY [aD prog] [fV prog] [eO prog] [qF prog] (p:aP) (code:bC) (w:Bool) (hs:aL p<=67108864) (hc:code.length<=1073741824):Ok prog 84 [.agg (aM .view p),.str code,.bool w] (.agg (aM .own (kP p code w))):=by
 have c1:=jN p (by omega)
 have c2:=yV code hc
 have Xj:p.log.length<=67108864:=by simp only [aL,bP] at hs;omega
 obtain ⟨b1,b2⟩:=vX code
 have c3:=BZ p Js (by omega)
 have c4:=Cu p (eG code).1 w hs b1 b2
 unfold kP
 generalize eG code=g at *
 obtain ⟨l,ok⟩:=g
 simp only at c2 c4⊢
 generalize jP p l w=r at *
 simp only [aM,Js] at c1 c3 c4⊢
 cases ok
 ·rw [if_neg (by simp)]
  refine bR aAc func84 ntmps84 ?_
  have W:=trivial
  repeat' first|refine wl ?_|(refine nx ?_;refine sg (hc:=c3) (h:=?_))|(refine sq ?_ ?_<;>intro hc<;>try exact hc.elim)|fail
  all_goals try(refine ⟨.inr rfl,?_⟩;simp [aB,results84])
 ·rw [if_pos rfl]
  refine bR aAc func84 ntmps84 ?_
  have W:=trivial
  repeat' first|refine wl ?_|(refine nx ?_;refine sg (hc:=c4) (h:=?_))|(refine sq ?_ ?_<;>intro hc<;>try exact hc.elim)|fail
  all_goals try(refine ⟨.inr rfl,?_⟩;simp [aB,results84])
end Go.Proofs.YtlnblmmohpcceaaGreatDoor
