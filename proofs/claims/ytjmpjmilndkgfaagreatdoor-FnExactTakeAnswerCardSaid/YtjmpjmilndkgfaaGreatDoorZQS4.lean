/- Proved here: steps towards the statement of this claim. No condition. -/
import Derived.Test.YtjmpjmilndkgfaaGreatDoorZQY4
import Derived.Test.YtjmpjmilndkgfaaGreatDoorZQRC5
import Derived.Lay
import Derived.SevenTiedAt
import Derived.Test.YtjmpjmilndkgfaaGreatDoorRows
import Derived.Test.YtjmpjmilndkgfaaGreatDoorCards
import Derived.Test.YtjmpjmilndkgfaaGreatDoorTie
set_option linter.all false
set_option maxRecDepth 100000
set_option maxHeartbeats 8000000
namespace Go.Proofs.YtjmpjmilndkgfaaGreatDoor
open Go.Aw Proofs.Tryz List IntKind
def tY (s:bF):List bP:=(feed s).1++oP ⟨(feed s).2⟩
theorem Fs (t:kZ):aQ bO (oP t)<=t.rest.length/\(oP t).length<=1:=by
 unfold oP;split
 .simp [aQ]
 .simp [aQ,bO,bV]
theorem Fu (s:bF):(tY s).length<=s.length+1/\aQ bO (tY s)<=s.length:=by
 obtain ⟨h1,h2⟩:=OO s.length s (eE _);obtain ⟨h3,h4⟩:=Fs ⟨(feed s).2⟩;have hj:∀a b:List bP,aQ bO (a++b)=aQ bO a+aQ bO b:=by
  intro a b;induction a with
  |nil=>simp [aQ]
  |cons x xs ih=>simp only [eI,aQ,ih];omega
 simp only [tY,eR,hj] at *;omega
theorem NN [aC prog] [dD prog] (s:bF) (hl:s.length<=1048576):Ok prog 163 [.str s] (.sl .own 4 ((tY s).map (bK .own))):=by
 have c1:=NL ⟨[]⟩ s (by simp;omega);obtain ⟨h1,h2⟩:=OO s.length s (eE _);simp only [eN,dO] at c1;unfold tY;generalize feed s=f at *;obtain ⟨l,x⟩:=f;simp only at c1 h1 h2⊢;have c2:=Rb ⟨x⟩ (by simp only;omega);have h4:=(Fs ⟨x⟩).2;simp only [dO] at c2;generalize oP ⟨x⟩=g at *;have hb1:(l.length+g.length) * 64<=140737488355328:=by omega
 refine bR aD func163 ntmps163 ?_;have W:=hb1;refine we ?_;all_goals try(refine aR ?_;simp [aG,results163])
 all_goals (first|(rw [<-rB];exact wV _)|simp)
theorem NP [aC prog] [dD prog] (s:bF) (hl:s.length<=1048576):Ok prog 231 [.str s] (.sl .own 4 ((tY s).map (bK .own))):=by
 have c1:=NM ⟨[]⟩ s (by simp;omega);obtain ⟨h1,h2⟩:=OO s.length s (eE _);simp only [eN,dO] at c1;unfold tY;generalize feed s=f at *;obtain ⟨l,x⟩:=f;simp only at c1 h1 h2⊢;have c2:=Ra ⟨x⟩ (by simp only;omega);have h4:=(Fs ⟨x⟩).2;simp only [dO] at c2;generalize oP ⟨x⟩=g at *;have hb1:(l.length+g.length) * 64<=140737488355328:=by omega
 refine bR aD func231 ntmps231 ?_;have W:=hb1;refine we ?_;all_goals try(refine aR ?_;simp [aG,results231])
 all_goals (first|(rw [<-rB];exact wV _)|simp)
def jV (l:List bF) (s:bF):List bF:=if l.length < 40 then l++[s] else l
theorem Ei [aC prog] [eH prog] (p:aI) (s:bF) (hs:p.log.length<=1099511627776):Lf prog 141 [.sH (aJ .own p) (aJ .own {p with log:=jV p.log s}),.view (.str s)] (.iJ []):=by
 by_cases h:p.log.length < 40
 .have hi:(p.log.length:Int) < 40:=by omega
  obtain ⟨l1,hl1⟩:∃l,l=p.log++[s]:=⟨_,rfl⟩;have hap:p.log.map bW++[[.str s]]=l1.map bW:=by rw [hl1];simp
  have e:jV p.log s=l1:=by unfold jV;rw [eK h,hl1]
  rw [e];clear e hl1;refine qU aD func141 ntmps141 ?_;have W:=aA hi (aA hap hs);refine wl ?_;all_goals try(refine ⟨by first|exact .inr rfl|exact .inl rfl,?_⟩;simp [gK,dN,dM,rowOf,results141])
 .have hi:¬(p.log.length:Int) < 40:=by omega
  have e:jV p.log s=p.log:=by unfold jV;rw [cY h]
  rw [e];clear e;refine qU aD func141 ntmps141 ?_;have W:=hi;refine wl ?_;all_goals try(refine ⟨by first|exact .inr rfl|exact .inl rfl,?_⟩;simp [gK,dN,dM,rowOf,results141])
def Du (q:aI):List aM:=[⟨true,false,1,1,q.bG.dG.map bW⟩,⟨true,false,1,1,q.bG.eZ.map bW⟩,⟨true,false,1,1,q.bG.fD.map bW⟩,⟨true,false,4,1,q.queue.map (bK .own)⟩,⟨true,false,4,1,q.builder.nodes.map (dE .own)⟩,⟨true,false,1,1,q.builder.opens.map jE⟩,⟨true,false,8,1,q.aB.map iY⟩,⟨true,false,5,1,q.aN.map bU⟩,⟨true,false,2,1,q.entries.map aO⟩,⟨true,false,2,1,q.oD.map aO⟩,⟨true,false,1,1,q.log.map bW⟩]
def Dv (b:Nat) (q:aI):List AV:=[.str q.addr.host,.str q.addr.path,.bool q.bG.isSet,.obj b 1,.obj (b+1) 1,.obj (b+2) 1,.str q.bG.rM,.str q.tok.rest,.obj (b+3) 1,.bool q.ended,.obj (b+4) 1,.obj (b+5) 1,.obj (b+6) 1,.obj (b+7) 1,.obj (b+8) 1,.int .i64 q.block,.int .i64 q.inline,.int .i64 q.deferred,.int .i64 q.gW,.obj (b+9) 1,.obj (b+10) 1,.bool q.nS]
def LY:List (Nat×Nat):=[(1,17),(2,18),(3,19),(4,20),(5,21),(6,22),(7,23),(8,24),(9,25),(10,26),(11,27)]
theorem aDy {t t':List AV} {o o':List aM} {n1 v1 n2 v2 n3 v3 n4 v4 n5 v5 n6 v6 n7 v7 n8 v8 n9 v9 n10 v10 n11 v11:Nat} {e1 e2 e3 e4 e5 e6 e7 e8 e9 e10 e11:List (List AV)} {o12 o13 o14 o15 o16:aM} {q:aI} (ho:o=[⟨true,true,22,2,[Dv 17 q]⟩,⟨false,false,n1,v1,e1⟩,⟨false,false,n2,v2,e2⟩,⟨false,false,n3,v3,e3⟩,⟨false,false,n4,v4,e4⟩,⟨false,false,n5,v5,e5⟩,⟨false,false,n6,v6,e6⟩,⟨false,false,n7,v7,e7⟩,⟨false,false,n8,v8,e8⟩,⟨false,false,n9,v9,e9⟩,⟨false,false,n10,v10,e10⟩,⟨false,false,n11,v11,e11⟩,o12,o13,o14,o15,o16]++Du q)
  (ho':o'=[⟨true,true,22,2,[Dv 1 q]⟩]++Du q++[o12,o13,o14,o15,o16]) (ht:∀z∈LY,wk (qK z.1 z.2 t') t') (hf:∀z∈LY,o12.mG z.1 z.2=o12/\o13.mG z.1 z.2=o13/\o14.mG z.1 z.2=o14/\o15.mG z.1 z.2=o15/\o16.mG z.1 z.2=o16) (hw:wk t t') (hc:fP 17 t'=true) (hc0:dJ 17 [o12,o13,o14,o15,o16]=true):mK ⟨t,o⟩ ⟨t',o'⟩:=by
 subst ho;subst ho';have e:=λi j (h:(i,j)∈LY)=>hf (i,j) h
 have h:=λi j (h:(i,j)∈LY)=>ht (i,j) h
 simp only [Du,Dv,eI,eN];refine (vQ hw).trans ?_;refine (bA 1 17 rfl rfl ⟨rfl,rfl⟩ (by simp [(e 1 17 (by decide))];rfl) (h 1 17 (by decide))).trans ?_;refine (bA 2 18 rfl rfl ⟨rfl,rfl⟩ (by simp [(e 2 18 (by decide))];rfl) (h 2 18 (by decide))).trans ?_;refine (bA 3 19 rfl rfl ⟨rfl,rfl⟩ (by simp [(e 3 19 (by decide))];rfl) (h 3 19 (by decide))).trans ?_;refine (bA 4 20 rfl rfl ⟨rfl,rfl⟩ (by simp [(e 4 20 (by decide))];rfl) (h 4 20 (by decide))).trans ?_;refine (bA 5 21 rfl rfl ⟨rfl,rfl⟩ (by simp [(e 5 21 (by decide))];rfl) (h 5 21 (by decide))).trans ?_;refine (bA 6 22 rfl rfl ⟨rfl,rfl⟩ (by simp [(e 6 22 (by decide))];rfl) (h 6 22 (by decide))).trans ?_;refine (bA 7 23 rfl rfl ⟨rfl,rfl⟩ (by simp [(e 7 23 (by decide))];rfl) (h 7 23 (by decide))).trans ?_;refine (bA 8 24 rfl rfl ⟨rfl,rfl⟩ (by simp [(e 8 24 (by decide))];rfl) (h 8 24 (by decide))).trans ?_;refine (bA 9 25 rfl rfl ⟨rfl,rfl⟩ (by simp [(e 9 25 (by decide))];rfl) (h 9 25 (by decide))).trans ?_;refine (bA 10 26 rfl rfl ⟨rfl,rfl⟩ (by simp [(e 10 26 (by decide))];rfl) (h 10 26 (by decide))).trans ?_;refine (bA 11 27 rfl rfl ⟨rfl,rfl⟩ (by simp [(e 11 27 (by decide))];rfl) (h 11 27 (by decide))).trans ?_;refine aW 17 (by simp) (lC _) hc ?_;simpa [dJ,fP,closed] using hc0
theorem aH0 {t t':List AV} {o o' o1 o2:List aM} {a b c d e:aM} (h5:o[5]? =some a) (h14:o[14]? =some b) (hb:a.box=false/\b.box=false) (e1:((o.set 5 b).set 14 a).map (aM.mG 5 14)=o1) (h6:o1[6]? =some c) (h15:o1[15]? =some d) (hd:c.box=false/\d.box=false) (e2:((o1.set 6 d).set 15 c).map (aM.mG 6 15)=o2) (mi:o2[12]? =some e) (e3:o2.set 12 ⟨false,false,0,e.bY,[]⟩=o') (w1:wk (qK 5 14 t) t') (w2:wk (qK 6 15 t') t'):mK ⟨t,o⟩ ⟨t',o'⟩:=
 (bA 5 14 h5 h14 hb e1 w1).trans ((bA 6 15 h6 h15 hd e2 w2).trans (VD 12 mi e3 (lC _)))
def mZ (l ss:List bF):List bF:=ss.foldl jV l
theorem Fv (l ss:List bF) (k:Nat) (h:k < ss.length):mZ l (ss.take (k+1))=jV (mZ l (ss.take k)) ss[k]:=by unfold mZ;rw [eA h,DQ];rfl
theorem IE (l:List bF):∀ss:List bF,(mZ l ss).length<=l.length+ss.length:=by
 intro ss;induction ss generalizing l with
 |nil=>simp [mZ]
 |cons s ss ih=>
  have h1:(jV l s).length<=l.length+1:=by unfold jV;split<;>simp
  have h2:=ih (jV l s);have e:mZ l (s::ss)=mZ (jV l s) ss:=rfl;rw [e];simp only [eL];omega
def lL (p:aI) (l:List jP) (w:Bool):aI:=
 {p with builder:=(eU p.builder (dI p) l).1,log:=mZ p.log (eU p.builder (dI p) l).2.2,queue:=if w=true then tY (eU p.builder (dI p) l).2.1++p.queue else p.queue}
theorem EC [aC prog] [eH prog] [dD prog] [qQ prog] (p:aI) (l:List jP) (w:Bool) (hs:aF p<=536870912) (h6:l.length<=6) (hx:∀x∈l,x.text.length<=60):
  Lf prog 182 [.sH (aJ .own p) (aJ .own (lL p l w)),.view (.sl .view 2 (l.map lJ)),.view (.bool w)] (.iJ []):=by
 have hsl:bV gQ p.aB<=1073741824:=by simp only [aF,bV] at *;omega
 have hsb:aP p.builder<=536870912:=by simp only [aF] at hs;omega
 have bu:p.log.length<=536870912:=by simp only [aF,bV] at hs;omega
 have hqu:p.queue.length<=536870912:=by simp only [aF,bV] at hs;omega
 have c1:=NK p hsl;obtain ⟨hb1,hb2⟩:=CE p;have hb1':(dI p).length<=536870912:=by simp only [aF,bV] at hs;omega
 have c2:=LU p.builder (dI p) l (by omega) h6 (λx hm=>by have:=hx x hm;omega) (by omega) (λx hm=>by have:=hb2 x hm;omega) (wK p);obtain ⟨z1,z2,z3,z4⟩:=Bi 60 p.builder (dI p) l (by omega) h6 hx (wK p) (by omega) l.length (eE _);have hend:qY p.builder (dI p) l l.length=eU p.builder (dI p) l:=by simp [qY]
 rw [hend] at z1 z2 z3 z4;have c3:=NP (eU p.builder (dI p) l).2.1 (by omega);obtain ⟨y1,y2⟩:=Fu (eU p.builder (dI p) l).2.1;unfold lL;clear hb2 hx hend;generalize dI p=ss at *;generalize eU p.builder ss l=g at *;obtain ⟨b,wr,lg⟩:=g;simp only at c2 c3 z1 z2 z3 z4 y1 y2⊢;generalize tY wr=tk at *;simp only [aJ,aS] at c1 c2;refine qU aD func182 ntmps182 ?_;refine gJ ?_;obtain ⟨Q,hQ⟩:∃Q:Nat->aI,∀k,Q k={p with builder:=b,log:=mZ p.log (lg.take k)}:=⟨_,λ_=>rfl⟩;have hQ0:Q 0={p with builder:=b}:=by rw [hQ];rfl
 have hQn:Q lg.length={p with builder:=b,log:=mZ p.log lg}:=by rw [hQ,rN]
 have hQl:∀k,k<=lg.length->(Q k).log.length<=1099511627776:=λk hk=>by rw [hQ];have:=IE p.log (lg.take k);simp only [oT] at this⊢;omega
 have hQs:∀k (h:k < lg.length),Q (k+1)={Q k with log:=jV (Q k).log lg[k]}:=λk h=>by rw [hQ,hQ,Fv _ _ _ h]
 refine aL (ι:={k:Nat // k<=lg.length}) (λt o i=>⟨bD t [(31,.int .i64 i.1),(10,.undef),(11,.undef),(15,.undef),(18,.undef),(21,.undef),(22,.undef),(26,.undef)],[⟨true,true,22,2,[Dv 1 (Q i.1)]⟩]++Du (Q i.1)++[⟨false,false,0,1,[]⟩,⟨true,false,1,1,ss.map (eG .own)⟩,⟨true,false,4,1,p.builder.nodes.map (dE .own)⟩,⟨true,false,1,1,p.builder.opens.map jE⟩,⟨true,false,1,1,lg.map bW⟩]⟩)
  (λi=>lg.length - i.1) ⟨0,by simp⟩ ?_ ?_
 .simp only [hQ0,Dv,Du,bD,cW,cU,eI,eN];exact aH0 rfl rfl ⟨rfl,rfl⟩ (by simp;rfl) rfl rfl ⟨rfl,rfl⟩ (by simp;rfl) rfl (by simp) (by simp) (by simp)
 rintro ⟨k,hk⟩ K1 hK1;have hk1:=oW (k:=k);by_cases hlt:k < lg.length
 .have hg:=aE hlt;have hnext:=hQs k hlt;have c4:=Ei (Q k) lg[k] (hQl k hk);rw [<-hnext] at c4;have hK2:=hK1;clear hQ hQ0 hQn hQl hQs hnext;generalize hq':Q (k+1)=q' at *;generalize hq:Q k=q at *;simp only [bD,cW,cU,eI,eN,Du,Dv] at hK1⊢;simp only [aJ] at c4;have W:=aA hk1 (aA hg hlt);repeat' first|refine wg ?_|(refine nx ?_;refine sg (hc:=c4) (h:=?_))|(refine sq ?_ ?_<;>intro hc<;>try exact hc.elim)|fail
  refine hK2 _ ⟨k+1,by omega⟩ ?_ (by simp only;omega);exact aDy (q:=q') rfl (by simp [Du,Dv,hq']) (by simp [LY]) (by simp [LY]) (by simp) (by simp) (by simp [dJ])
 .have hkl:k=lg.length:=by omega
  subst hkl;simp only [hQn,bD,cW,cU,eI,eN,Du,Dv] at hK1⊢;clear hQ hQ0 hQn hQl hQs hK1;cases w
  .have W:=hk1;refine wl ?_;all_goals try(refine ⟨by first|exact .inr rfl|exact .inl rfl,?_⟩;simp [gK,dN,dM,rowOf,results182])
  .rw [eK rfl];have hbq:(tk.length+p.queue.length) * 64<=140737488355328:=by omega
   have W:=aA hk1 hbq;refine wl ?_;all_goals try(refine ⟨by first|exact .inr rfl|exact .inl rfl,?_⟩;simp [gK,dN,dM,rowOf,results182])
   all_goals (rw [<-rB];exact wV _)
def LZ:bF:=[101,114,114,111,114]
def mM (p:aI) (code:bF) (w:Bool):aI:=
 if (fZ code).2=true then lL p (fZ code).1 w else {p with log:=jV p.log LZ}
theorem Bo [aC prog] [eH prog] [dD prog] [qQ prog] (p:aI) (code:bF) (w:Bool) (hs:aF p<=536870912) (hc:code.length<=1073741824):Ok prog 132 [.agg (aJ .view p),.str code,.bool w] (.agg (aJ .own (mM p code w))):=by
 have c1:=jC p (by omega);have c2:=Bl code hc;have bu:p.log.length<=536870912:=by simp only [aF,bV] at hs;omega
 obtain ⟨b1,b2⟩:=yU code;have c3:=Ei p LZ (by omega);have c4:=EC p (fZ code).1 w hs b1 b2;unfold mM;generalize fZ code=g at *;obtain ⟨l,ok⟩:=g;simp only at c2 c4⊢;generalize lL p l w=r at *;simp only [aJ,LZ] at c1 c3 c4⊢;cases ok
 .rw [cY (by simp)];refine bR aD func132 ntmps132 ?_;have W:=trivial;repeat' first|refine wg ?_|(refine nx ?_;refine sg (hc:=c3) (h:=?_))|(refine sq ?_ ?_<;>intro hc<;>try exact hc.elim)|fail
  exact aK results132
 .rw [eK rfl];refine bR aD func132 ntmps132 ?_;have W:=trivial;repeat' first|refine wg ?_|(refine nx ?_;refine sg (hc:=c4) (h:=?_))|(refine sq ?_ ?_<;>intro hc<;>try exact hc.elim)|fail
  exact aK results132
theorem IJ [aC prog] (p:aI) (s:bF) (hs:p.log.length<=1099511627776):Lf prog 118 [.nX (.agg (aJ .own p)),.view (.str s)] (.agg (aJ .own {p with log:=jV p.log s})):=by
 by_cases h:p.log.length < 40
 .have hi:(p.log.length:Int) < 40:=by omega
  obtain ⟨l1,hl1⟩:∃l,l=p.log++[s]:=⟨_,rfl⟩;have hap:p.log.map bW++[[.str s]]=l1.map bW:=by rw [hl1];simp
  have e:jV p.log s=l1:=by unfold jV;rw [eK h,hl1]
  rw [e];clear e hl1;refine qU aD func118 ntmps118 ?_;have W:=aA hi (aA hap hs);refine we ?_;all_goals try(refine ⟨by first|exact .inr rfl|exact .inl rfl,?_⟩;simp [gK,dN,dM,rowOf,results118])
 .have hi:¬(p.log.length:Int) < 40:=by omega
  have e:jV p.log s=p.log:=by unfold jV;rw [cY h]
  rw [e];clear e;refine qU aD func118 ntmps118 ?_;have W:=hi;refine we ?_;all_goals try(refine ⟨by first|exact .inr rfl|exact .inl rfl,?_⟩;simp [gK,dN,dM,rowOf,results118])
theorem aH4 {α:Type} {f:α->Bool} {l:List α} (hn:∀x∈l,f x=false):l.find? f=none:=Dg.2 λx hx=>by simp [hn x hx]
theorem ZM {α:Type} {f:α->Bool}:∀l:List α,¬(∀x∈l,f x=false)->∃k,∃hk:k < l.length,f l[k]=true/\∀x∈l.take k,f x=false
 |[],h=>absurd (λx hx=>by cases hx) h
 |x::l,h=>by
  cases hx:f x with
  |true=>exact ⟨0,by simp,by simpa using hx,by simp⟩
  |false=>
   obtain ⟨k,hk,h1,h2⟩:=ZM l (λhl=>h (λy hy=>by
    rcases lB.1 hy with rfl|hy
    .exact hx
    .exact hl y hy))
   refine ⟨k+1,by simpa using hk,by simpa using h1,λy hy=> ?_⟩;simp only [eM,lB] at hy;rcases hy with rfl|hy
   .exact hx
   .exact h2 y hy
theorem aH5 {α:Type} {f:α->Bool} {l:List α} {k:Nat} (h:k < l.length) (hf:f l[k]=true) (hn:∀x∈l.take k,f x=false):l.find? f=some l[k]:=by
 have e:l=l.take k++l[k]::l.drop (k+1):=by simp
 have h5:=An (find? f) e;rw [h5,find?_append];have:(l.take k).find? f=none:=Dg.2 λx hx=>by simp [hn x hx]
 rw [this];simp only [Option.none_or,find?_cons,hf]
theorem uA {α:Type} (f:α->Bool) (l:List α):(wX f l= -1/\l.find? f=none)\/∃k,∃h:k < l.length,wX f l=(k:Int)/\l.find? f=some l[k]:=by
 by_cases h:∀x∈l,f x=false
 .exact .inl ⟨wI h,aH4 h⟩
 .right;obtain ⟨k,hk,h1,h2⟩:=ZM l h;exact ⟨k,hk,DY hk h1 h2,aH5 hk h1 h2⟩
theorem ry (p:aI) (a:aT) (k:Nat):bV bE (vN p a k)=bV bE p.aN+1+aU a:=by
 have h1:aQ bE (p.aN.take k)+aQ bE (p.aN.drop k)=aQ bE p.aN:=by rw [<-jA,oA]
 have h2:(p.aN.take k).length+(p.aN.drop k).length=p.aN.length:=by rw [<-eR,oA]
 have h3:bE (Bz p a)=aU a:=by unfold Bz;split<;>simp [bE]
 simp only [vN,bV,eR,eL,jA,aQ,h3];omega
theorem aLs (p:aI) (a:aT):aF (gT p a)<=aF p+aU a+1:=by
 have h:=ry p a (xY p.aN a);unfold gT;split
 .split
  .omega
  .simp only [aF,h];omega
 .simp only [aF,h];omega
theorem FQ {P:Program} (h:P.funcs.toList.all (λfn=> !fn.goes)=true) (c:OpenClaim) (hs:c.start= .entering):false=c.goesBy P:=by
 have h1:∀f,P.goes f=false:=by
  intro f;have ha:P.funcs.any Func.goes=false:=by rw [Array.any_eq_false];intro i hi;have:=fS.1 h (P.funcs[i]) (by simp);simpa using this
  unfold Program.goes;rw [ha,Bool.and_false,Bool.or_false,any_eq_false];intro g _;cases hg:P.funcs[g]? with
  |none=>simp
  |some fn=>have:=fS.1 h fn (by simpa using oE (by simpa using hg:P.funcs.toList[g]? =some fn));simpa using this
 unfold OpenClaim.goesBy Program.goesAt Program.goesFrom;rw [hs];cases P.funcNamed c.func<;>simp [h1]
theorem Ow:false=Rows.fnExactTakeAnswerRow.goesBy Tryz.pinned.checked.prog:=FQ (by as_aux_lemma=>kernel_rfl) _ rfl
end Go.Proofs.YtjmpjmilndkgfaaGreatDoor
