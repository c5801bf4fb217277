/- Proved here: steps towards the statement of this claim. No condition. -/
import Derived.Test.YtlnblmmohpcceaaGreatDoorZQRCB
import Derived.Test.YtlnblmmohpcceaaGreatDoorZQN1
set_option linter.all false
set_option maxRecDepth 4000
set_option maxHeartbeats 4000000
namespace Go.Proofs.YtlnblmmohpcceaaGreatDoor
open Go.Aw Proofs.Tryz List IntKind
theorem Cx (p:gN) (r:jA):gP p r=1\/gP p r=2:=by
 unfold gP;split<;>simp
def fP (p:aP) (mode:Int) (tu digest:bC) (node:Int):aP×Int:=
 if 20<=p.aF.length\/eB mode=0 then (p, -1)
 else if (bQ tu p.addr.host).2=false\/gP p.cB ⟨eB mode,(bQ tu p.addr.host).1,p.addr.host,digest⟩≠1 then
  ({p with aF:=p.aF++[(⟨mode,(bQ tu p.addr.host).1,digest,node,true,2,[]⟩:lF)]},((p.aF.length:Nat):Int))
 else ({p with aF:=p.aF++[(⟨mode,(bQ tu p.addr.host).1,digest,node,false,0,[]⟩:lF)]},((p.aF.length:Nat):Int))
theorem yC {p:aP} {mode:Int} {tu digest:bC} {node:Int} (h:20<=p.aF.length\/eB mode=0):fP p mode tu digest node=(p, -1):=by unfold fP;rw [if_pos h]
theorem Kw {p:aP} {mode:Int} {tu digest:bC} {node:Int} (h:¬(20<=p.aF.length\/eB mode=0)) (h2:(bQ tu p.addr.host).2=false\/gP p.cB ⟨eB mode,(bQ tu p.addr.host).1,p.addr.host,digest⟩≠1):
  fP p mode tu digest node=({p with aF:=p.aF++[(⟨mode,(bQ tu p.addr.host).1,digest,node,true,2,[]⟩:lF)]},((p.aF.length:Nat):Int)):=by unfold fP;rw [if_neg h,if_pos h2]
theorem Hl {p:aP} {mode:Int} {tu digest:bC} {node:Int} (h:¬(20<=p.aF.length\/eB mode=0)) (h1:(bQ tu p.addr.host).2=true) (h2:gP p.cB ⟨eB mode,(bQ tu p.addr.host).1,p.addr.host,digest⟩=1):
  fP p mode tu digest node=({p with aF:=p.aF++[(⟨mode,(bQ tu p.addr.host).1,digest,node,false,0,[]⟩:lF)]},((p.aF.length:Nat):Int)):=by
 unfold fP;rw [if_neg h,if_neg (by rintro (h3|h3);rw [h1] at h3;cases h3;exact h3 h2)]
theorem uP [aD prog] (p:aP) (mode:Int) (tu digest:bC) (node:Int) (hs:aL p<=274877906944) (hto:tu.length<=274877906944) (hd:digest.length<=274877906944):Ok prog 237 [.agg (aM .view p),.int .i64 mode,.str tu,.str digest,.int .i64 node] (.gV [.agg (aM .own (fP p mode tu digest node).1),.int .i64 (fP p mode tu digest node).2]):=by
 have c1:=iD p hs
 simp only [aM] at c1
 have hsl:p.addr.host.length<=274877906944:=by simp only [aL,aV] at hs;omega
 have V8:iC p.cB<=1099511627776:=by simp only [aL] at hs;omega
 have Yv:p.aF.length<=274877906944:=by simp only [aL,bP] at hs;omega
 have c2:=Al mode
 have c3:=vI tu p.addr.host (by omega)
 by_cases Tu:(20:Int)<=(p.aF.length:Int)
 ·rw [yC (.inl (by omega))]
  refine bR aAc func237 ntmps237 ?_
  have W:=Tu
  repeat' first|refine we ?_|(refine sq ?_ ?_<;>intro hc<;>try exact hc.elim)|fail
  all_goals try(refine ⟨.inr rfl,?_⟩;simp [aB,results237])
 by_cases hk:eB mode=0
 ·rw [yC (.inr hk)]
  rw [hk] at c2
  refine bR aAc func237 ntmps237 ?_
  have W:=Tu
  repeat' first|refine we ?_|(refine sq ?_ ?_<;>intro hc<;>try exact hc.elim)|fail
  all_goals try(refine ⟨.inr rfl,?_⟩;simp [aB,results237])
 have Ir:¬(20<=p.aF.length\/eB mode=0):=by rintro (h|h);omega;exact hk h
 have hsz:=He tu p.addr.host
 have iK:=Kw (tu:=tu) (digest:=digest) (node:=node) Ir
 have hgood:=Hl (tu:=tu) (digest:=digest) (node:=node) Ir
 have c5:=xN p.cB ⟨eB mode,(bQ tu p.addr.host).1,p.addr.host,digest⟩ V8 (by simp only [qE];omega)
 have ku:=Cx p.cB ⟨eB mode,(bQ tu p.addr.host).1,p.addr.host,digest⟩
 have c4:=fun l' zS hl2=>FN {p with aF:=l'} (p.aF.length:Int) (by omega) zS hl2
 have hr:∀s,sO {p with aF:=p.aF++[s]} (p.aF.length:Int)=⟨eB s.mode,s.to,p.addr.host,s.digest⟩:=fun s=>by simp [sO,vO]
 generalize hkm:eB mode=km at *
 generalize bQ tu p.addr.host=pa at *
 obtain ⟨a,ok⟩:=pa
 simp only at c3 c5 ku hsz iK hgood
 obtain ⟨s0,hs0⟩:∃s:lF,s=⟨mode,a,digest,node,false,0,[]⟩:=⟨_,rfl⟩
 obtain ⟨l0,hl0⟩:∃l,l=p.aF++[s0]:=⟨_,rfl⟩
 obtain ⟨l3,xg⟩:∃l:List lF,l=p.aF++[⟨mode,a,digest,node,true,2,[]⟩]:=⟨_,rfl⟩
 have hap:p.aF.map iO++[[.int .i64 mode,.str a.host,.str a.path,.str digest,.int .i64 node,.bool false,.int .i64 0,.str []]]=l0.map iO:=by rw [hl0,hs0];simp
 have hg:l0[p.aF.length]? =some s0:=by rw [hl0];simp
 have YJ:l0.length=p.aF.length+1:=by rw [hl0];simp
 have hset:∀h,(l0.map iO).set p.aF.length [.int .i64 (l0[p.aF.length]'h).mode,.str (l0[p.aF.length]'h).to.host,.str (l0[p.aF.length]'h).to.path,.str (l0[p.aF.length]'h).digest,.int .i64 (l0[p.aF.length]'h).node,.bool true,.int .i64 2,.str (l0[p.aF.length]'h).body]=l3.map iO:=by
  intro h
  have e:l0[p.aF.length]'h=s0:=by rw [getElem?_eq_getElem h] at hg;exact Option.some.inj hg
  rw [e,hl0,xg,hs0,map_append,map_append,set_append_right _ _ (by simp)];simp
 have c4:=c4 l0 (by rw [YJ];omega) (by rw [YJ];omega)
 rw [show sO {p with aF:=l0} (p.aF.length:Int)=⟨km,a,p.addr.host,digest⟩ by rw [hl0,hr,hs0];simp [hkm]] at c4
 simp only [aM,jM] at c4
 simp only [bV,jM] at c5
 rw [<-xg] at iK
 rw [<-hs0,<-hl0] at hgood
 have Py:p.aF.length < l0.length:=by omega
 clear hs0 hl0 xg hr hkm Ir
 cases ok
 ·rw [iK (.inl rfl)]
  clear iK hgood ku
  refine bR aAc func237 ntmps237 ?_
  have W:=aA Tu (aA hk (aA hg (aA hap Py)))
  repeat' first|refine we ?_|(refine sq ?_ ?_<;>intro hc<;>try exact hc.elim)|fail
  all_goals try(refine ⟨.inr rfl,?_⟩;simp [aB,results237])
  all_goals exact hset _
 ·rcases ku with h|h
  ·rw [hgood rfl h]
   rw [h] at c5
   clear iK hgood h
   refine bR aAc func237 ntmps237 ?_
   have W:=aA Tu (aA hk (aA hg (aA hap Py)))
   repeat' first|refine we ?_|(refine sq ?_ ?_<;>intro hc<;>try exact hc.elim)|fail
   all_goals try(refine ⟨.inr rfl,?_⟩;simp [aB,results237])
   all_goals exact hset _
  ·rw [iK (.inr (by rw [h];decide))]
   rw [h] at c5
   clear iK hgood h
   refine bR aAc func237 ntmps237 ?_
   have W:=aA Tu (aA hk (aA hg (aA hap Py)))
   repeat' first|refine we ?_|(refine sq ?_ ?_<;>intro hc<;>try exact hc.elim)|fail
   all_goals try(refine ⟨.inr rfl,?_⟩;simp [aB,results237])
   all_goals exact hset _
theorem uQ [aD prog] (p:aP) (mode:Int) (tu digest:bC) (node:Int) (hs:aL p<=274877906944) (hto:tu.length<=274877906944) (hd:digest.length<=274877906944):Ok prog 241 [.agg (aM .view p),.int .i64 mode,.str tu,.str digest,.int .i64 node] (.gV [.agg (aM .own (fP p mode tu digest node).1),.int .i64 (fP p mode tu digest node).2]):=by
 have c1:=jN p hs
 simp only [aM] at c1
 have hsl:p.addr.host.length<=274877906944:=by simp only [aL,aV] at hs;omega
 have V8:iC p.cB<=1099511627776:=by simp only [aL] at hs;omega
 have Yv:p.aF.length<=274877906944:=by simp only [aL,bP] at hs;omega
 have c2:=Am mode
 have c3:=vJ tu p.addr.host (by omega)
 by_cases Tu:(20:Int)<=(p.aF.length:Int)
 ·rw [yC (.inl (by omega))]
  refine bR aAc func241 ntmps241 ?_
  have W:=Tu
  repeat' first|refine we ?_|(refine sq ?_ ?_<;>intro hc<;>try exact hc.elim)|fail
  all_goals try(refine ⟨.inr rfl,?_⟩;simp [aB,results241])
 by_cases hk:eB mode=0
 ·rw [yC (.inr hk)]
  rw [hk] at c2
  refine bR aAc func241 ntmps241 ?_
  have W:=Tu
  repeat' first|refine we ?_|(refine sq ?_ ?_<;>intro hc<;>try exact hc.elim)|fail
  all_goals try(refine ⟨.inr rfl,?_⟩;simp [aB,results241])
 have Ir:¬(20<=p.aF.length\/eB mode=0):=by rintro (h|h);omega;exact hk h
 have hsz:=He tu p.addr.host
 have iK:=Kw (tu:=tu) (digest:=digest) (node:=node) Ir
 have hgood:=Hl (tu:=tu) (digest:=digest) (node:=node) Ir
 have c5:=xO p.cB ⟨eB mode,(bQ tu p.addr.host).1,p.addr.host,digest⟩ V8 (by simp only [qE];omega)
 have ku:=Cx p.cB ⟨eB mode,(bQ tu p.addr.host).1,p.addr.host,digest⟩
 have c4:=fun l' zS hl2=>FO {p with aF:=l'} (p.aF.length:Int) (by omega) zS hl2
 have hr:∀s,sO {p with aF:=p.aF++[s]} (p.aF.length:Int)=⟨eB s.mode,s.to,p.addr.host,s.digest⟩:=fun s=>by simp [sO,vO]
 generalize hkm:eB mode=km at *
 generalize bQ tu p.addr.host=pa at *
 obtain ⟨a,ok⟩:=pa
 simp only at c3 c5 ku hsz iK hgood
 obtain ⟨s0,hs0⟩:∃s:lF,s=⟨mode,a,digest,node,false,0,[]⟩:=⟨_,rfl⟩
 obtain ⟨l0,hl0⟩:∃l,l=p.aF++[s0]:=⟨_,rfl⟩
 obtain ⟨l3,xg⟩:∃l:List lF,l=p.aF++[⟨mode,a,digest,node,true,2,[]⟩]:=⟨_,rfl⟩
 have hap:p.aF.map iO++[[.int .i64 mode,.str a.host,.str a.path,.str digest,.int .i64 node,.bool false,.int .i64 0,.str []]]=l0.map iO:=by rw [hl0,hs0];simp
 have hg:l0[p.aF.length]? =some s0:=by rw [hl0];simp
 have YJ:l0.length=p.aF.length+1:=by rw [hl0];simp
 have hset:∀h,(l0.map iO).set p.aF.length [.int .i64 (l0[p.aF.length]'h).mode,.str (l0[p.aF.length]'h).to.host,.str (l0[p.aF.length]'h).to.path,.str (l0[p.aF.length]'h).digest,.int .i64 (l0[p.aF.length]'h).node,.bool true,.int .i64 2,.str (l0[p.aF.length]'h).body]=l3.map iO:=by
  intro h
  have e:l0[p.aF.length]'h=s0:=by rw [getElem?_eq_getElem h] at hg;exact Option.some.inj hg
  rw [e,hl0,xg,hs0,map_append,map_append,set_append_right _ _ (by simp)];simp
 have c4:=c4 l0 (by rw [YJ];omega) (by rw [YJ];omega)
 rw [show sO {p with aF:=l0} (p.aF.length:Int)=⟨km,a,p.addr.host,digest⟩ by rw [hl0,hr,hs0];simp [hkm]] at c4
 simp only [aM,jM] at c4
 simp only [bV,jM] at c5
 rw [<-xg] at iK
 rw [<-hs0,<-hl0] at hgood
 have Py:p.aF.length < l0.length:=by omega
 clear hs0 hl0 xg hr hkm Ir
 cases ok
 ·rw [iK (.inl rfl)]
  clear iK hgood ku
  refine bR aAc func241 ntmps241 ?_
  have W:=aA Tu (aA hk (aA hg (aA hap Py)))
  repeat' first|refine we ?_|(refine sq ?_ ?_<;>intro hc<;>try exact hc.elim)|fail
  all_goals try(refine ⟨.inr rfl,?_⟩;simp [aB,results241])
  all_goals exact hset _
 ·rcases ku with h|h
  ·rw [hgood rfl h]
   rw [h] at c5
   clear iK hgood h
   refine bR aAc func241 ntmps241 ?_
   have W:=aA Tu (aA hk (aA hg (aA hap Py)))
   repeat' first|refine we ?_|(refine sq ?_ ?_<;>intro hc<;>try exact hc.elim)|fail
   all_goals try(refine ⟨.inr rfl,?_⟩;simp [aB,results241])
   all_goals exact hset _
  ·rw [iK (.inr (by rw [h];decide))]
   rw [h] at c5
   clear iK hgood h
   refine bR aAc func241 ntmps241 ?_
   have W:=aA Tu (aA hk (aA hg (aA hap Py)))
   repeat' first|refine we ?_|(refine sq ?_ ?_<;>intro hc<;>try exact hc.elim)|fail
   all_goals try(refine ⟨.inr rfl,?_⟩;simp [aB,results241])
   all_goals exact hset _
def Ca (n:bC):Bool:=decide (n=[105,109,103]) || decide (n=[108,105,110,107])
def uR (b:aW) (m:bC) (n:Int):Bool:=decide (0<=n)&&(b.nodes[n.toNat]?).any fun x=>decide (x.name=m)
def nA (b:aW) (m:bC):Nat->List Int
 |0=>b.opens
 |i+1=>if (b.opens[i+1]?).any (uR b m) then b.opens.take (i+1) else nA b m i
def kR (t:bH):Bool:=decide (t.kind=1)&& !Ca t.name
def pQ (b:aW) (t:bH):eY:=if t.kind=1 then ⟨t.name,[],b.opens.getLastD 0,t.attrs⟩ else ⟨[],t.text,b.opens.getLastD 0,[]⟩
def addToken (b:aW) (t:bH):aW×Int:=
 if t.kind=2 then ({b with opens:=nA b t.name (b.opens.length - 1)}, -1)
 else if¬(t.kind=1\/(t.kind=3/\t.text≠[])) then (b, -1)
 else if 40<=b.nodes.length\/b.opens=[]\/(kR t=true/\8<=b.opens.length) then (b, -1)
 else ({nodes:=b.nodes++[pQ b t],opens:=if kR t=true then b.opens++[((b.nodes.length:Nat):Int)] else b.opens},((b.nodes.length:Nat):Int))
theorem Ky (b:aW) (m:bC):∀k,(nA b m k).length<=b.opens.length
 |0=>Nat.le_refl _
 |k+1=>by
  unfold nA
  split
  ·simp;omega
  ·exact Ky b m k
theorem Qa [aD prog] (n:bC):Ok prog 240 [.str n] (.bool (Ca n)):=by
 unfold Ca
 refine bR aAc func240 ntmps240 ?_
 have W:=trivial
 repeat' first|refine we ?_|(refine sq ?_ ?_<;>intro hc<;>try exact hc.elim)|fail
 all_goals try(refine ⟨.inr rfl,?_⟩;simp [aB,results240])
 all_goals first|(simp [hc];done)|(rw [Bool.eq_iff_iff];simp [hc])
theorem Qb [aD prog] (n:bC):Ok prog 235 [.str n] (.bool (Ca n)):=by
 unfold Ca
 refine bR aAc func235 ntmps235 ?_
 have W:=trivial
 repeat' first|refine we ?_|(refine sq ?_ ?_<;>intro hc<;>try exact hc.elim)|fail
 all_goals try(refine ⟨.inr rfl,?_⟩;simp [aB,results235])
 all_goals first|(simp [hc];done)|(rw [Bool.eq_iff_iff];simp [hc])
theorem VY {b:aW} {m:bC} {n:Int} (h:¬(0<=n/\n < (b.nodes.length:Int))):uR b m n=false:=by
 unfold uR
 by_cases h0:0<=n
 ·rw [getElem?_eq_none (by omega)];simp
 ·simp [h0]
theorem LF {b:aW} {m:bC} {k:Nat} (h:k < b.nodes.length):uR b m ((k:Nat):Int)=decide (b.nodes[k].name=m):=by
 unfold uR
 simp [getElem?_eq_getElem h]
theorem zD {b:aW} {t:bH} (h:t.kind=2):addToken b t=({b with opens:=nA b t.name (b.opens.length - 1)}, -1):=by unfold addToken;rw [if_pos h]
theorem Dx {b:aW} {t:bH} (h:¬t.kind=2) (h1:¬t.kind=1) (h3:t.kind=3->t.text=[]):addToken b t=(b, -1):=by
 unfold addToken
 rw [if_neg h,if_pos]
 rintro (h|⟨h,h'⟩)
 ·exact h1 h
 ·exact h' (h3 h)
theorem EJ {b:aW} {t:bH} (h:¬t.kind=2) (hf:40<=b.nodes.length\/b.opens=[]\/(kR t=true/\8<=b.opens.length)):addToken b t=(b, -1):=by
 unfold addToken
 rw [if_neg h]
 split<;>first|rfl|(rw [if_pos hf])
theorem Hm {b:aW} {t:bH} (h:¬t.kind=2) (hk:t.kind=1\/(t.kind=3/\t.text≠[])) (hf:¬(40<=b.nodes.length\/b.opens=[]\/(kR t=true/\8<=b.opens.length))):
  addToken b t=({nodes:=b.nodes++[pQ b t],opens:=if kR t=true then b.opens++[((b.nodes.length:Nat):Int)] else b.opens},((b.nodes.length:Nat):Int)):=by
 unfold addToken
 rw [if_neg h,if_neg (fun hn=>hn hk),if_neg hf]
theorem Kz {b:aW} {m:bC} {k:Nat} {n:Int} (hg:b.opens[k+1]? =some n) (h:uR b m n=true):nA b m (k+1)=b.opens.take (k+1):=by
 unfold nA;rw [hg];simp [h]
theorem Ho {b:aW} {m:bC} {k:Nat} {n:Int} (hg:b.opens[k+1]? =some n) (h:uR b m n=false):nA b m (k+1)=nA b m k:=by
 conv=>lhs;unfold nA
 rw [hg];simp [h]
theorem FP [aD prog] (b:aW) (t:bH) (hs:aH b<=274877906944) (hk:t.kind=2):Ok prog 188 [.agg (aN .view b),.agg (bB .view t)] (.gV [.agg (aN .own (addToken b t).1),.int .i64 (addToken b t).2]):=by
 have c1:=jB b hs
 have hn:b.nodes.length<=274877906944/\b.opens.length<=274877906944:=by simp only [aH,bP] at hs;omega
 have MW:i64.wrap ((b.opens.length:Int) - 1)=(b.opens.length:Int) - 1:=by rw [wrap64]<;>omega
 rw [zD hk]
 obtain ⟨tk,tn,ta,tx⟩:=t
 simp only at hk
 subst hk
 simp only [aN] at c1
 refine bR aAc func188 ntmps188 ?_
 have W:=MW
 repeat' first|refine we ?_|(refine sq ?_ ?_<;>intro hc<;>try exact hc.elim)|fail
 refine aJ (ι:={q:Int // -1<=q/\q < (b.opens.length:Int)/\nA b tn q.toNat=nA b tn (b.opens.length - 1)}) (fun t o i=>⟨aZ t [(7,.int .i64 i.1),(8,.undef)],o⟩) (fun i=>i.1.toNat) ⟨(b.opens.length:Int) - 1,by omega,by omega,by congr 1;omega⟩ (aI (by simp) (by simp)) ?_
 rintro ⟨q,hq1,hq2,QZ⟩ K1 hK1
 simp only [aZ,set_cons_succ,set_cons_zero] at hK1⊢
 by_cases h1:(1:Int)<=q
 ·obtain ⟨k,rfl⟩:∃k:Nat,q=((k+1:Nat):Int):=⟨(q - 1).toNat,by omega⟩
  have hlt:k+1 < b.opens.length:=by omega
  have hg:=getElem?_eq_getElem hlt
  have Zh:i64.wrap (((k+1:Nat):Int) - 1)=((k:Nat):Int):=by rw [wrap64]<;>omega
  rw [show (((k+1:Nat):Int)).toNat=k+1 from by omega] at QZ
  generalize J4:b.opens[k+1]=n at *
  cases hh:uR b tn n
  ·rw [Ho hg hh] at QZ
   by_cases h0:0<=n
   ·obtain ⟨m,rfl⟩:=Int.eq_ofNat_of_zero_le h0
    by_cases hm:m < b.nodes.length
    ·rw [LF hm] at hh
     have hgm:=getElem?_eq_getElem hm
     have hne:(b.nodes[m].name == tn)=false:=by simpa using hh
     have W:=aA hg (aA Zh (aA hgm (aA hm (aA hne (aA h1 hn)))))
     have V:=hlt
     repeat' first|refine we ?_|(refine sq ?_ ?_<;>intro hc<;>try exact hc.elim)|fail
     all_goals exact hK1 _ ⟨((k:Nat):Int),by omega,by omega,by simpa using QZ⟩ (aI (by simp) (by simp)) (by first|omega|(simp only;omega)|(simp;omega))
    ·have hmi:¬((m:Nat):Int) < ((b.nodes.length:Nat):Int):=by omega
     have W:=aA hg (aA Zh (aA hmi (aA h1 hn)))
     have V:=hlt
     repeat' first|refine we ?_|(refine sq ?_ ?_<;>intro hc<;>try exact hc.elim)|fail
     all_goals exact hK1 _ ⟨((k:Nat):Int),by omega,by omega,by simpa using QZ⟩ (aI (by simp) (by simp)) (by first|omega|(simp only;omega)|(simp;omega))
   ·have W:=aA hg (aA Zh (aA h0 (aA h1 hn)))
    have V:=hlt
    repeat' first|refine we ?_|(refine sq ?_ ?_<;>intro hc<;>try exact hc.elim)|fail
    all_goals exact hK1 _ ⟨((k:Nat):Int),by omega,by omega,by simpa using QZ⟩ (aI (by simp) (by simp)) (by first|omega|(simp only;omega)|(simp;omega))
  ·rw [Kz hg hh] at QZ
   have h01:0<=n/\n < (b.nodes.length:Int):=Classical.byContradiction fun h=>by rw [VY h] at hh;cases hh
   obtain ⟨m,rfl⟩:=Int.eq_ofNat_of_zero_le h01.1
   have hm:m < b.nodes.length:=by omega
   rw [LF hm] at hh
   have hgm:=getElem?_eq_getElem hm
   have hne:(b.nodes[m].name == tn)=true:=by simpa using hh
   rw [<-QZ]
   have W:=aA hg (aA Zh (aA hgm (aA hm (aA hne (aA h1 hn)))))
   have V:=hlt
   repeat' first|refine we ?_|(refine sq ?_ ?_<;>intro hc<;>try exact hc.elim)|fail
   all_goals try(refine ⟨.inr rfl,?_⟩;simp [aB,results188,map_take])
   all_goals (rw [<-map_take];exact MI _)
 ·have hq4:nA b tn (b.opens.length - 1)=b.opens:=by
   rw [<-QZ,show q.toNat=0 by omega];rfl
  rw [hq4]
  have W:=h1
  repeat' first|refine we ?_|(refine sq ?_ ?_<;>intro hc<;>try exact hc.elim)|fail
  all_goals try(refine ⟨.inr rfl,?_⟩;simp [aB,results188,map_take])
theorem qA [aD prog] (b:aW) (t:bH) (hs:aH b<=274877906944) (ht:bF t<=274877906944):Ok prog 188 [.agg (aN .view b),.agg (bB .view t)] (.gV [.agg (aN .own (addToken b t).1),.int .i64 (addToken b t).2]):=by
 by_cases hk2:t.kind=2
 ·exact FP b t hs hk2
 have c1:=jB b hs
 have c2:=Qa t.name
 have hn:b.nodes.length<=274877906944/\b.opens.length<=274877906944:=by simp only [aH,bP] at hs;omega
 have ae:t.attrs.length<=274877906944:=by simp only [bF,bP] at ht;omega
 have other:=Dx (b:=b) hk2
 have full:=EJ (b:=b) hk2
 have new:=Hm (b:=b) hk2
 obtain ⟨tk,tn,ta,tx⟩:=t
 simp only at hk2 other full new c2 ae
 simp only [aN] at c1
 by_cases hk:tk=1\/(tk=3/\tx≠[])
 ·by_cases Hf:(40:Int)<=(b.nodes.length:Int)
  ·rw [full (.inl (by omega))]
   rcases hk with rfl|⟨rfl,hx⟩
   ·refine bR aAc func188 ntmps188 ?_
    have W:=Hf
    repeat' first|refine we ?_|(refine sq ?_ ?_<;>intro hc<;>try exact hc.elim)|fail
    all_goals try(refine ⟨.inr rfl,?_⟩;simp [aB,results188])
   ·refine bR aAc func188 ntmps188 ?_
    have W:=aA Hf hx
    repeat' first|refine we ?_|(refine sq ?_ ?_<;>intro hc<;>try exact hc.elim)|fail
    all_goals try(refine ⟨.inr rfl,?_⟩;simp [aB,results188])
  rcases eq_nil_or_concat b.opens with ho|⟨os,lo,ho⟩
  ·rw [full (.inr (.inl ho))]
   have hl0z:b.opens.length=0:=by rw [ho];rfl
   rcases hk with rfl|⟨rfl,hx⟩
   ·refine bR aAc func188 ntmps188 ?_
    have W:=aA Hf hl0z
    repeat' first|refine we ?_|(refine sq ?_ ?_<;>intro hc<;>try exact hc.elim)|fail
    all_goals try(refine ⟨.inr rfl,?_⟩;simp [aB,results188])
   ·refine bR aAc func188 ntmps188 ?_
    have W:=aA Hf (aA hx hl0z)
    repeat' first|refine we ?_|(refine sq ?_ ?_<;>intro hc<;>try exact hc.elim)|fail
    all_goals try(refine ⟨.inr rfl,?_⟩;simp [aB,results188])
  have hne:b.opens≠[]:=by rw [ho];simp
  have hlast:b.opens.getLastD 0=lo:=by rw [ho];simp
  have hlen:b.opens.length=os.length+1:=by rw [ho];simp
  have hl0z:¬b.opens.length=0:=by omega
  have hlt:os.length < b.opens.length:=by omega
  have hg:b.opens[os.length]? =some lo:=by rw [ho];simp
  have hw:i64.wrap ((b.opens.length:Int) - 1)=((os.length:Nat):Int):=by rw [wrap64]<;>omega
  clear ho hlen
  rcases hk with rfl|⟨rfl,hx⟩
  ·have hnw:pQ b ⟨1,tn,ta,tx⟩=⟨tn,[],lo,ta⟩:=by unfold pQ;rw [hlast];simp
   cases jh:Ca tn
   ·rw [jh] at c2
    have hop:kR ⟨1,tn,ta,tx⟩=true:=by simp [kR,jh]
    by_cases h8:(8:Int)<=(b.opens.length:Int)
    ·rw [full (.inr (.inr ⟨hop,by omega⟩))]
     refine bR aAc func188 ntmps188 ?_
     have W:=aA Hf (aA hl0z h8)
     repeat' first|refine we ?_|(refine sq ?_ ?_<;>intro hc<;>try exact hc.elim)|fail
     all_goals try(refine ⟨.inr rfl,?_⟩;simp [aB,results188])
    ·rw [new (.inl rfl) (by rintro (h|h|⟨_,h⟩);omega;exact hne h;omega),if_pos hop,hnw]
     obtain ⟨l0,hl0⟩:∃l,l=b.nodes++[(⟨tn,[],lo,ta⟩:eY)]:=⟨_,rfl⟩
     have hap:b.nodes.map (bX .own)++[[.str tn,.str [],.int .i64 lo,.sl .own 2 (ta.map fQ)]]=l0.map (bX .own):=by rw [hl0];simp
     obtain ⟨o0,ho0⟩:∃l,l=b.opens++[((b.nodes.length:Nat):Int)]:=⟨_,rfl⟩
     have hao:b.opens.map iX++[[.int .i64 ((b.nodes.length:Nat):Int)]]=o0.map iX:=by rw [ho0];simp
     rw [<-hl0,<-ho0]
     clear hl0 ho0
     refine bR aAc func188 ntmps188 ?_
     have W:=aA Hf (aA hl0z (aA h8 (aA hg (aA hw (aA hn (aA ae (aA hap hao)))))))
     have V:=hlt
     repeat' first|refine we ?_|(refine sq ?_ ?_<;>intro hc<;>try exact hc.elim)|fail
     all_goals try(refine ⟨.inr rfl,?_⟩;simp [aB,results188])
   ·rw [jh] at c2
    have hop:kR ⟨1,tn,ta,tx⟩=false:=by simp [kR,jh]
    rw [new (.inl rfl) (by rintro (h|h|⟨h,_⟩);omega;exact hne h;(rw [hop] at h;cases h)),if_neg (by rw [hop];decide),hnw]
    obtain ⟨l0,hl0⟩:∃l,l=b.nodes++[(⟨tn,[],lo,ta⟩:eY)]:=⟨_,rfl⟩
    have hap:b.nodes.map (bX .own)++[[.str tn,.str [],.int .i64 lo,.sl .own 2 (ta.map fQ)]]=l0.map (bX .own):=by rw [hl0];simp
    rw [<-hl0]
    clear hl0
    refine bR aAc func188 ntmps188 ?_
    have W:=aA Hf (aA hl0z (aA hg (aA hw (aA hn (aA ae hap)))))
    have V:=hlt
    repeat' first|refine we ?_|(refine sq ?_ ?_<;>intro hc<;>try exact hc.elim)|fail
    all_goals try(refine ⟨.inr rfl,?_⟩;simp [aB,results188])
  ·have hnw:pQ b ⟨3,tn,ta,tx⟩=⟨[],tx,lo,[]⟩:=by unfold pQ;rw [hlast];simp
   have hop:kR ⟨3,tn,ta,tx⟩=false:=by simp [kR]
   rw [new (.inr ⟨rfl,hx⟩) (by rintro (h|h|⟨h,_⟩);omega;exact hne h;(rw [hop] at h;cases h)),if_neg (by rw [hop];decide),hnw]
   obtain ⟨l0,hl0⟩:∃l,l=b.nodes++[(⟨[],tx,lo,[]⟩:eY)]:=⟨_,rfl⟩
   have hap:b.nodes.map (bX .own)++[[.str [],.str tx,.int .i64 lo,.sl .own 2 []]]=l0.map (bX .own):=by rw [hl0];simp
   rw [<-hl0]
   clear hl0
   have hxb:(tx != [])=true:=by simpa using hx
   refine rU aAc [21] func188 ntmps188 ?_
   have W:=aA Hf (aA hl0z (aA hxb (aA hg (aA hw (aA hn hap)))))
   have V:=hlt
   repeat' first|refine we ?_|(refine sq ?_ ?_<;>intro hc<;>try exact hc.elim)|fail
   ·exact (hx (by assumption)).elim
   refine go_openB 6 0 3 (by rfl) (by rfl) (by rfl) ?_
   have W:=aA Hf (aA hl0z (aA hxb (aA hg (aA hw (aA hn hap)))))
   have V:=hlt
   repeat' first|refine we ?_|(refine sq ?_ ?_<;>intro hc<;>try exact hc.elim)|fail
   all_goals try(refine ⟨.inr rfl,?_⟩;simp [aB,results188])
 ·have h1:¬tk=1:=fun h=>hk (.inl h)
  by_cases h3:tk=3
  ·have hx:tx=[]:=Classical.byContradiction fun h=>hk (.inr ⟨h3,h⟩)
   rw [other h1 (fun _=>hx)]
   subst h3;subst hx
   refine bR aAc func188 ntmps188 ?_
   have W:=trivial
   repeat' first|refine we ?_|(refine sq ?_ ?_<;>intro hc<;>try exact hc.elim)|fail
   all_goals try(refine ⟨.inr rfl,?_⟩;simp [aB,results188])
  ·rw [other h1 (fun h=>absurd h h3)]
   refine bR aAc func188 ntmps188 ?_
   have W:=aA hk2 (aA h1 h3)
   repeat' first|refine we ?_|(refine sq ?_ ?_<;>intro hc<;>try exact hc.elim)|fail
   all_goals try(refine ⟨.inr rfl,?_⟩;simp [aB,results188])
theorem TJ [aD prog] (b:aW) (m:bC) (hs:aH b<=274877906944):IJ prog 234 [.mE (.agg (aN .own b)),.view (.str m)] (.agg (aN .own {b with opens:=nA b m (b.opens.length - 1)})):=by
 have hn:b.nodes.length<=274877906944/\b.opens.length<=274877906944:=by simp only [aH,bP] at hs;omega
 have MW:i64.wrap ((b.opens.length:Int) - 1)=(b.opens.length:Int) - 1:=by rw [wrap64]<;>omega
 have hw1:i64.wrap ((b.nodes.length:Int) - 1)=(b.nodes.length:Int) - 1:=by rw [wrap64]<;>omega
 have cI:=fun n lo hi=>iA n lo hi
 refine oI aAc func234 ntmps234 ?_
 have W:=MW
 repeat' first|refine we ?_|(refine sq ?_ ?_<;>intro hc<;>try exact hc.elim)|fail
 refine aJ (ι:={q:Int // -1<=q/\q < (b.opens.length:Int)/\nA b m q.toNat=nA b m (b.opens.length - 1)}) (fun t o i=>⟨aZ t [(5,.int .i64 i.1),(6,.undef)],o⟩) (fun i=>i.1.toNat) ⟨(b.opens.length:Int) - 1,by omega,by omega,by congr 1;omega⟩ (aI (by simp) (by simp)) ?_
 rintro ⟨q,hq1,hq2,QZ⟩ K1 hK1
 simp only [aZ,set_cons_succ,set_cons_zero] at hK1⊢
 by_cases h1:(0:Int) < q
 ·obtain ⟨k,rfl⟩:∃k:Nat,q=((k+1:Nat):Int):=⟨(q - 1).toNat,by omega⟩
  have hlt:k+1 < b.opens.length:=by omega
  have hg:=getElem?_eq_getElem hlt
  have Zh:i64.wrap (((k+1:Nat):Int) - 1)=((k:Nat):Int):=by rw [wrap64]<;>omega
  rw [show (((k+1:Nat):Int)).toNat=k+1 from by omega] at QZ
  generalize J4:b.opens[k+1]=n at *
  cases hh:uR b m n
  ·rw [Ho hg hh] at QZ
   by_cases h01:0<=n/\n < (b.nodes.length:Int)
   ·obtain ⟨z,rfl⟩:=Int.eq_ofNat_of_zero_le h01.1
    have hm:z < b.nodes.length:=by omega
    rw [LF hm] at hh
    have hgm:=getElem?_eq_getElem hm
    have hne:(b.nodes[z].name == m)=false:=by simpa using hh
    have c1:=cI ((z:Nat):Int) 0 ((b.nodes.length:Int) - 1)
    rw [show (decide ((0:Int)<=((z:Nat):Int))&&decide (((z:Nat):Int)<=(b.nodes.length:Int) - 1))=true from by simp;omega] at c1
    have W:=aA hg (aA Zh (aA hw1 (aA hgm (aA hm (aA hne (aA h1 hn))))))
    have V:=hlt
    repeat' first|refine we ?_|(refine sq ?_ ?_<;>intro hc<;>try exact hc.elim)|fail
    all_goals exact hK1 _ ⟨((k:Nat):Int),by omega,by omega,by simpa using QZ⟩ (aI (by simp) (by simp)) (by first|omega|(simp only;omega)|(simp;omega))
   ·have c1:=cI n 0 ((b.nodes.length:Int) - 1)
    rw [show (decide ((0:Int)<=n)&&decide (n<=(b.nodes.length:Int) - 1))=false from by simp;omega] at c1
    have W:=aA hg (aA Zh (aA hw1 (aA h1 hn)))
    have V:=hlt
    repeat' first|refine we ?_|(refine sq ?_ ?_<;>intro hc<;>try exact hc.elim)|fail
    all_goals exact hK1 _ ⟨((k:Nat):Int),by omega,by omega,by simpa using QZ⟩ (aI (by simp) (by simp)) (by first|omega|(simp only;omega)|(simp;omega))
  ·rw [Kz hg hh] at QZ
   have h01:0<=n/\n < (b.nodes.length:Int):=Classical.byContradiction fun h=>by rw [VY h] at hh;cases hh
   obtain ⟨z,rfl⟩:=Int.eq_ofNat_of_zero_le h01.1
   have hm:z < b.nodes.length:=by omega
   rw [LF hm] at hh
   have hgm:=getElem?_eq_getElem hm
   have hne:(b.nodes[z].name == m)=true:=by simpa using hh
   have c1:=cI ((z:Nat):Int) 0 ((b.nodes.length:Int) - 1)
   rw [show (decide ((0:Int)<=((z:Nat):Int))&&decide (((z:Nat):Int)<=(b.nodes.length:Int) - 1))=true from by simp;omega] at c1
   rw [<-QZ]
   have W:=aA hg (aA Zh (aA hw1 (aA hgm (aA hm (aA hne (aA h1 hn))))))
   have V:=hlt
   repeat' first|refine we ?_|(refine sq ?_ ?_<;>intro hc<;>try exact hc.elim)|fail
   all_goals try(refine ⟨by first|exact .inr rfl|exact .inl rfl,?_⟩;simp [eZ,cZ,bZ,rowOf,results234,map_take])
   all_goals (rw [<-map_take];exact MI _)
 ·have hq4:nA b m (b.opens.length - 1)=b.opens:=by
   rw [<-QZ,show q.toNat=0 by omega];rfl
  rw [hq4]
  have W:=h1
  repeat' first|refine we ?_|(refine sq ?_ ?_<;>intro hc<;>try exact hc.elim)|fail
  all_goals try(refine ⟨by first|exact .inr rfl|exact .inl rfl,?_⟩;simp [eZ,cZ,bZ,rowOf,results234])
end Go.Proofs.YtlnblmmohpcceaaGreatDoor
