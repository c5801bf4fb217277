/- Proved here: steps towards the statement of this claim. No condition. -/
import Derived.Test.YtlnblmmohpcceaaGreatDoorZQR5
set_option linter.all false
set_option maxRecDepth 4000
set_option maxHeartbeats 4000000
namespace Go.Proofs.YtlnblmmohpcceaaGreatDoor
open Go.Aw Proofs.Tryz List IntKind
theorem Rm [aD prog] [eO prog] (s:bC) (c:UInt8) (hs:s.length < 4294967281):Ok prog 123 [.str s,.str [c]] (.sl .own 1 ((eF c s).map fF)):=UQ Tryz.laysM146 (by kernel_rfl) s c hs
def dM:bH:=⟨0,[],[],[]⟩
def pM (w:bC):bC:=w.take (gG 61 w)
def sD (w:bC):bC:=w.drop (gG 61 w+1)
def fT:List bC->List iU->Option (List iU)
 |[],acc=>some acc
 |w::ws,acc=>if (decide (gG 61 w < w.length)&&dJ (pM w)&&isValue (sD w)&& !(aQ acc (pM w)).2)=true then fT ws (acc++[⟨pM w,sD w⟩]) else none
def Cs (w0:bC) (ws:List bC):bH×Bool:=
 if dJ w0=true/\ws.length<=4 then (match fT ws [] with
  |some l=>(⟨1,w0,l,[]⟩,true)
  |none=>(dM,false)) else (dM,false)
def nX (s:bC):bH×Bool:=
 if 60 < s.length then (dM,false)
 else if Cr [47] s=true then (if dJ (s.drop 1)=true then (⟨2,s.drop 1,[],[]⟩,true) else (dM,false))
 else Cs (s.take (gG 32 s)) (if gG 32 s < s.length then eF 32 (s.drop (gG 32 s+1)) else [])
theorem qZ (c:UInt8) (s:bC):eF c s=s.take (gG c s)::(if gG c s < s.length then eF c (s.drop (gG c s+1)) else []):=by
 rw [IY]
 have h:=qW c s
 split
 ·rfl
 ·rw [take_of_length_le (by omega)]
theorem NB {w0:bC} {ws:List bC} (h:¬(dJ w0=true/\ws.length<=4)):Cs w0 ws=(dM,false):=by unfold Cs;rw [if_neg h]
theorem NC {w0:bC} {ws:List bC} (h:fT ws []=none):Cs w0 ws=(dM,false):=by
 unfold Cs;rw [h];split<;>rfl
theorem ND {w0:bC} {ws:List bC} {l:List iU} (h1:dJ w0=true) (h2:ws.length<=4) (h:fT ws []=some l):Cs w0 ws=(⟨1,w0,l,[]⟩,true):=by
 unfold Cs;rw [h,if_pos ⟨h1,h2⟩]
theorem BS:∀(ws:List bC) (acc l:List iU),fT ws acc=some l->l.length=acc.length+ws.length
 |[],acc,l,h=>by simp only [fT,Option.some.injEq] at h;subst h;simp
 |w::ws,acc,l,h=>by
  simp only [fT] at h
  split at h
  ·have:=BS ws _ l h
   simp at this⊢;omega
  ·cases h
theorem Kn:∀(ws:List bC) (acc l:List iU),fT ws acc=some l->bP fI l<=bP fI acc+aO gT ws
 |[],acc,l,h=>by simp only [fT,Option.some.injEq] at h;subst h;simp [aO]
 |w::ws,acc,l,h=>by
  simp only [fT] at h
  split at h
  ·rename_i hc
   simp only [Bool.and_eq_true,decide_eq_true_eq] at hc
   have:=Kn ws _ l h
   have hj:∀a b:List iU,aO fI (a++b)=aO fI a+aO fI b:=by
    intro a b
    induction a with
    |nil=>simp [aO]
    |cons x xs ih=>simp only [cons_append,aO,ih];omega
   simp only [bP,hj,aO,fI,pM,sD,length_append,length_take,length_drop,length_cons,length_nil,gT] at this⊢
   omega
  ·cases h
theorem yK (c:UInt8):∀s:bC,aO gT (eF c s)<=s.length
 |[]=>by simp [eF,aO,gT]
 |x::s=>by
  have ih:=yK c s
  simp only [eF]
  split
  ·simp only [aO,gT,length_nil,length_cons] at ih⊢;omega
  ·split
   ·rename_i h0;exact absurd h0 (xV c s)
   ·rename_i p q h0
    rw [h0] at ih
    simp only [aO,gT,length_cons] at ih⊢;omega
theorem M0 (s:bC):bF (nX s).1<=s.length:=by
 have hn:bF dM=0:=by simp [dM,bF,bP,aO]
 unfold nX
 split
 ·simp only [hn];omega
 ·split
  ·split
   ·simp [bF,bP,aO]
   ·simp only [hn];omega
  ·have hs:=yK 32 s
   rw [qZ] at hs
   simp only [aO,gT] at hs
   generalize (if gG 32 s < s.length then eF 32 (s.drop (gG 32 s+1)) else [])=ws at *
   unfold Cs
   split
   ·split
    ·rename_i l hl
     have:=Kn ws [] l hl
     simp only [bF,bP,aO,length_nil] at this⊢
     omega
    ·simp only [hn];omega
   ·simp only [hn];omega
theorem Ty [aD prog] [eO prog] (s:bC) (hl:s.length<=1099511627776):Ok prog 130 [.str s] (.gV [.agg (bB .own (nX s).1),.bool (nX s).2]):=by
 by_cases M3:(60:Int) < (s.length:Int)
 ·have hr:nX s=(dM,false):=by unfold nX;rw [if_pos (by omega)]
  rw [hr]
  refine NA aAc func130 ntmps130 ?_
  have W:=M3
  repeat' first|refine we ?_|(refine sq ?_ ?_<;>intro hc<;>try exact hc.elim)|fail
  all_goals try(first|(refine ⟨.inr rfl,.inl ?_⟩;simp [aB,results130,dM];done)|(refine ⟨.inr rfl,.inr (fD ?_)⟩;simp [AS.FB,AS.Cy,AS.rv,results130,dM];done)|(refine ⟨.inr rfl,.inl ?_⟩;simp [aB,results130,dM]))
 have c0:=BR s [47] hl (by simp)
 cases hp:Cr [47] s
 case true=>
  rw [hp] at c0
  simp only [if_true] at c0
  have c1:=gJ (s.drop 1) (by simp;omega)
  simp only [length_cons,length_nil,Nat.zero_add,Nat.reduceAdd] at c0
  generalize hs1:s.drop 1=s1 at *
  cases hn:dJ s1
  ·have hr:nX s=(dM,false):=by unfold nX;rw [if_neg (by omega),if_pos hp,hs1,hn];rfl
   rw [hr]
   rw [hn] at c1
   refine NA aAc func130 ntmps130 ?_
   have W:=M3
   repeat' first|refine we ?_|(refine sq ?_ ?_<;>intro hc<;>try exact hc.elim)|fail
   all_goals try(first|(refine ⟨.inr rfl,.inl ?_⟩;simp [aB,results130,dM];done)|(refine ⟨.inr rfl,.inr (fD ?_)⟩;simp [AS.FB,AS.Cy,AS.rv,results130,dM];done)|(refine ⟨.inr rfl,.inl ?_⟩;simp [aB,results130,dM]))
  ·have hr:nX s=(⟨2,s1,[],[]⟩,true):=by unfold nX;rw [if_neg (by omega),if_pos hp,hs1,hn];rfl
   rw [hr]
   rw [hn] at c1
   refine NA aAc func130 ntmps130 ?_
   have W:=M3
   repeat' first|refine we ?_|(refine sq ?_ ?_<;>intro hc<;>try exact hc.elim)|fail
   all_goals try(first|(refine ⟨.inr rfl,.inl ?_⟩;simp [aB,results130];done)|(refine ⟨.inr rfl,.inr (fD ?_)⟩;simp [AS.FB,AS.Cy,AS.rv,results130];done)|(refine ⟨.inr rfl,.inl ?_⟩;simp [aB,results130]))
 case false=>
  rw [hp] at c0
  simp only [Bool.false_eq_true,if_false] at c0
  have hr:nX s=Cs (s.take (gG 32 s)) (if gG 32 s < s.length then eF 32 (s.drop (gG 32 s+1)) else []):=by unfold nX;rw [if_neg (by omega),if_neg (by rw [hp];simp)]
  have c2:=Rm s 32 (by omega)
  have hsl:=iV 32 s
  have hcn:s.count 32<=s.length:=count_le_length
  have hsm:=yK 32 s
  rw [qZ] at c2 hsl hsm
  rw [hr]
  have c1:=gJ (s.take (gG 32 s)) (by simp;omega)
  generalize (if gG 32 s < s.length then eF 32 (s.drop (gG 32 s+1)) else [])=ws at *
  generalize s.take (gG 32 s)=w0 at *
  simp only [aO,gT,length_cons] at hsl hsm
  simp only [map_cons] at c2
  clear hr hp
  have hw1:i64.wrap ((ws.length:Int)+1 - 1)=(ws.length:Int):=by rw [wrap64]<;>omega
  have htk:take ws.length (ws.map fF)=ws.map fF:=take_of_length_le (by simp)
  cases hn:dJ w0
  ·rw [NB (by rw [hn];simp)]
   rw [hn] at c1
   refine NA aAc func130 ntmps130 ?_
   have W:=aA M3 hw1
   repeat' first|refine we ?_|(refine sq ?_ ?_<;>intro hc<;>try exact hc.elim)|fail
   all_goals try(first|(refine ⟨.inr rfl,.inl ?_⟩;simp [aB,results130,dM];done)|(refine ⟨.inr rfl,.inr (fD ?_)⟩;simp [AS.FB,AS.Cy,AS.rv,results130,dM];done)|(refine ⟨.inr rfl,.inl ?_⟩;simp [aB,results130,dM]))
  rw [hn] at c1
  by_cases h4:(4:Int) < (ws.length:Int)
  ·rw [NB (by omega)]
   refine NA aAc func130 ntmps130 ?_
   have W:=aA M3 (aA hw1 h4)
   repeat' first|refine we ?_|(refine sq ?_ ?_<;>intro hc<;>try exact hc.elim)|fail
   all_goals try(first|(refine ⟨.inr rfl,.inl ?_⟩;simp [aB,results130,dM];done)|(refine ⟨.inr rfl,.inr (fD ?_)⟩;simp [AS.FB,AS.Cy,AS.rv,results130,dM];done)|(refine ⟨.inr rfl,.inl ?_⟩;simp [aB,results130,dM]))
  have yS:=fun h=>NC (w0:=w0) (ws:=ws) h
  have GQ:=fun l=>ND (w0:=w0) (ws:=ws) (l:=l) hn (by omega)
  generalize Cs w0 ws=res at *
  refine NA aAc func130 ntmps130 ?_
  have W:=aA M3 (aA hw1 (aA h4 htk))
  repeat' first|refine we ?_|(refine sq ?_ ?_<;>intro hc<;>try exact hc.elim)|fail
  refine aJ (ι:={q:Nat×Nat×List iU // (q.1<=ws.length/\1<=q.2.1)/\q.2.2.length=q.1/\fT ws []=fT (ws.drop q.1) q.2.2}) (fun t o i=>⟨aZ t [(52,.int .i64 i.1.1),(48,.undef)],[⟨true,true,4,0,[[.int .i64 0,.str [],.sl .own 2 [],.str []]]⟩,⟨true,false,1,2,ws.map fF⟩,⟨true,true,4,0,[[.int .i64 1,.str w0,.obj 3 i.1.2.1,.str []]]⟩,⟨true,false,2,i.1.2.1,i.1.2.2.map fQ⟩]⟩)
   (fun i=>ws.length - i.1.1) ⟨(0,1,[]),by simp,by simp,by simp⟩ (qX 2 0 2 (ob:=⟨true,true,4,0,[[.int .i64 1,.str w0,.sl .own 2 [],.str []]]⟩) (by rfl) (by rfl) (by rfl) (by simp) (by rfl) (by rfl) (by simp) (by simp [wT,rt,gM])) ?_
  rintro ⟨⟨k,v,acc⟩,⟨hk,hv⟩,sV,qH⟩ K1 hK1
  simp only at hk hv sV qH
  simp only [aZ,set_cons_succ,set_cons_zero] at hK1⊢
  have hk1:i64.wrap ((k:Int)+1)=((k+1:Nat):Int):=by rw [wrap64]<;>omega
  by_cases hlt:k < ws.length
  ·have hg:=getElem?_eq_getElem hlt
   have ma:=dV gT ws k hlt
   rw [drop_eq_getElem_cons hlt] at qH
   simp only [gT] at ma
   have cC:=vW ws[k] 61 (by omega)
   have cN:=gJ (pM ws[k]) (by simp [pM];omega)
   have cV:=Dh (sD ws[k]) (by simp [sD];omega)
   have cF:=kH acc (pM ws[k]) (by omega)
   have iK:(decide (gG 61 ws[k] < ws[k].length)&&dJ (pM ws[k])&&isValue (sD ws[k])&& !(aQ acc (pM ws[k])).2)=false->res=(dM,false):=fun h=>yS (by rw [qH];simp only [fT];rw [h];rfl)
   have hnext:(decide (gG 61 ws[k] < ws[k].length)&&dJ (pM ws[k])&&isValue (sD ws[k])&& !(aQ acc (pM ws[k])).2)=true->fT ws []=fT (ws.drop (k+1)) (acc++[⟨pM ws[k],sD ws[k]⟩]):=fun h=>by rw [qH];simp only [fT];rw [if_pos h]
   change Ok _ _ _ (.gV [.str (pM ws[k]),.str (sD ws[k]),.bool (decide (gG 61 ws[k] < ws[k].length))]) at cC
   clear qH yS GQ
   generalize decide (gG 61 ws[k] < ws[k].length)=b1 at *
   generalize dJ (pM ws[k])=b2 at *
   generalize isValue (sD ws[k])=b3 at *
   generalize aQ acc (pM ws[k])=fa at *
   obtain ⟨fv,b4⟩:=fa
   generalize pM ws[k]=ky at *
   generalize sD ws[k]=vl at *
   simp only at cF iK hnext
   cases b1
   ·rw [iK (by simp)]
    clear iK hnext hK1
    have W:=aA hk1 (aA hg hlt)
    repeat' first|refine we ?_|(refine sq ?_ ?_<;>intro hc<;>try exact hc.elim)|fail
    all_goals try(first|(refine ⟨.inr rfl,.inl ?_⟩;simp [aB,results130,dM];done)|(refine ⟨.inr rfl,.inr (fD ?_)⟩;simp [AS.FB,AS.Cy,AS.rv,results130,dM];done)|(refine ⟨.inr rfl,.inl ?_⟩;simp [aB,results130,dM]))
   cases b2
   ·rw [iK (by simp)]
    clear iK hnext hK1
    have W:=aA hk1 (aA hg hlt)
    repeat' first|refine we ?_|(refine sq ?_ ?_<;>intro hc<;>try exact hc.elim)|fail
    all_goals try(first|(refine ⟨.inr rfl,.inl ?_⟩;simp [aB,results130,dM];done)|(refine ⟨.inr rfl,.inr (fD ?_)⟩;simp [AS.FB,AS.Cy,AS.rv,results130,dM];done)|(refine ⟨.inr rfl,.inl ?_⟩;simp [aB,results130,dM]))
   cases b3
   ·rw [iK (by simp)]
    clear iK hnext hK1
    have W:=aA hk1 (aA hg hlt)
    repeat' first|refine we ?_|(refine sq ?_ ?_<;>intro hc<;>try exact hc.elim)|fail
    all_goals try(first|(refine ⟨.inr rfl,.inl ?_⟩;simp [aB,results130,dM];done)|(refine ⟨.inr rfl,.inr (fD ?_)⟩;simp [AS.FB,AS.Cy,AS.rv,results130,dM];done)|(refine ⟨.inr rfl,.inl ?_⟩;simp [aB,results130,dM]))
   cases b4
   ·have hn2:=hnext (by simp)
    clear iK hnext
    have W:=aA hk1 (aA hg hlt)
    repeat' first|refine we ?_|(refine sq ?_ ?_<;>intro hc<;>try exact hc.elim)|fail
    all_goals refine hK1 _ ⟨(k+1,v+1,acc++[⟨ky,vl⟩]),⟨by simp only;omega,by simp only;omega⟩,by simp;omega,hn2⟩ (aS 4 (by simp) (by simp) (by simp) (by simp)) (by simp only;omega)
   ·rw [iK (by simp)]
    clear iK hnext hK1
    have W:=aA hk1 (aA hg hlt)
    repeat' first|refine we ?_|(refine sq ?_ ?_<;>intro hc<;>try exact hc.elim)|fail
    all_goals try(first|(refine ⟨.inr rfl,.inl ?_⟩;simp [aB,results130,dM];done)|(refine ⟨.inr rfl,.inr (fD ?_)⟩;simp [AS.FB,AS.Cy,AS.rv,results130,dM];done)|(refine ⟨.inr rfl,.inl ?_⟩;simp [aB,results130,dM]))
  ·have FC:ws.drop k=[]:=drop_of_length_le (by omega)
   rw [FC] at qH
   rw [GQ acc (by rw [qH];rfl)]
   clear hK1
   have W:=hk1
   repeat' first|refine we ?_|(refine sq ?_ ?_<;>intro hc<;>try exact hc.elim)|fail
   all_goals try(first|(refine ⟨.inr rfl,.inl ?_⟩;simp [aB,results130];done)|(refine ⟨.inr rfl,.inr (fD ?_)⟩;simp [AS.FB,AS.Cy,AS.rv,results130];done)|(refine ⟨.inr rfl,.inl ?_⟩;simp [aB,results130]))
def Jj (p:bC):bC:=p.take (gG 58 p)
def Bg (p:bC):bC:=p.drop (gG 58 p+1)
def rA (p:bC):Option Cm:=match xB (Bg p) with
 |some v=>if dJ (Jj p)=true/\1<=v/\v<=999 then some ⟨Jj p,v⟩ else none
 |none=>none
def jZ (l:List bC):List Cm:=(l.filterMap rA).take 8
def rC (s:bC):fE:=⟨jZ (eF 59 s)⟩
theorem Ef {p:bC} (h:xB (Bg p)=none):rA p=none:=by rw [rA,h]
theorem Ko {p:bC} (h:dJ (Jj p)=false):rA p=none:=by
 unfold rA
 split
 ·rw [if_neg (by simp [h])]
 ·rfl
theorem NF {p:bC} {v:Int} (h:xB (Bg p)=some v) (h1:¬(1<=v/\v<=999)):rA p=none:=by
 rw [rA,h];exact if_neg (fun h=>h1 h.2)
theorem NG {p:bC} {v:Int} (h:xB (Bg p)=some v) (hn:dJ (Jj p)=true) (h1:1<=v/\v<=999):rA p=some ⟨Jj p,v⟩:=by
 rw [rA,h];exact if_pos ⟨hn,h1⟩
theorem NH {l:List bC} {k:Nat} (h:k < l.length) (hr:rA l[k]=none):jZ (l.take (k+1))=jZ (l.take k):=by
 unfold jZ
 rw [take_succ_eq_append_getElem h,filterMap_append]
 simp [hr]
theorem NI {l:List bC} {k:Nat} {r:Cm} (h:k < l.length) (hr:rA l[k]=some r) (h8:(jZ (l.take k)).length < 8):jZ (l.take (k+1))=jZ (l.take k)++[r]:=by
 unfold jZ at *
 rw [take_succ_eq_append_getElem h,filterMap_append]
 simp only [length_take] at h8
 simp only [filterMap_cons,hr,filterMap_nil]
 generalize (l.take k).filterMap rA=x at *
 rw [take_of_length_le (l:=x++[r]) (by simp;omega),take_of_length_le (l:=x) (by omega)]
theorem NJ {l:List bC} {k:Nat} (h8:¬(jZ (l.take k)).length < 8):jZ l=jZ (l.take k):=by
 unfold jZ at *
 conv=>lhs;rw [<-take_append_drop k l,filterMap_append]
 simp only [length_take] at h8
 rw [take_append_of_le_length (by omega)]
theorem VI {l:List bC} {k:Nat} (h8:¬(jZ (l.take k)).length < 8):jZ (l.take (k+1))=jZ (l.take k):=by
 have:= @NJ (l.take (k+1)) k
 rw [take_take,Nat.min_eq_left (by omega)] at this
 exact this h8
theorem VJ (l:List bC):(jZ l).length<=8:=by unfold jZ;simp;omega
theorem Yq {p:bC} {x:UInt8} (hx:x∈Bg p) (h:x=58):xB (Bg p)=none:=by
 obtain ⟨k,hk,e⟩:=mem_iff_getElem.1 hx
 refine VA hk ?_
 rw [e,h];decide
theorem aHd (p:bC):(eF 58 p=[Jj p,Bg p])\/((eF 58 p).length≠2/\rA p=none):=by
 rw [qZ]
 by_cases h:gG 58 p < p.length
 ·rw [if_pos h]
  by_cases h2:∀x∈Bg p,x≠58
  ·left
   rw [show p.drop (gG 58 p+1)=Bg p from rfl,CW _ _ h2];rfl
  ·right
   have ⟨x,hx⟩:=Classical.not_forall.1 h2
   have ⟨hm,hne⟩:=Classical.not_imp.1 hx
   have aLo:=Classical.not_not.1 hne
   refine ⟨?_,Ef (Yq hm aLo)⟩
   rw [show p.drop (gG 58 p+1)=Bg p from rfl,length_cons,iV]
   have:0 < (Bg p).count 58:=count_pos_iff.2 (aLo▸hm)
   omega
 ·right
  rw [if_neg h]
  refine ⟨by simp,Ef ?_⟩
  have e:Bg p=[]:=by
   unfold Bg
   exact drop_eq_nil_of_le (by omega)
  rw [e]
  exact Rh (by simp)
theorem GR [aD prog] [eO prog] [fV prog] [qF prog] (s:bC) (hl:s.length<=1073741824):Ok prog 270 [.str s] (.agg (dI .own (rC s))):=by
 have cS:=Rm s 59 (by omega)
 have hsm:=yK 59 s
 have hsl:=iV 59 s
 have hcn:s.count 59<=s.length:=count_le_length
 unfold rC
 generalize eF 59 s=l at *
 have Lx:l.length<=1073741825:=by omega
 simp only [dI]
 refine bR aAc func270 ntmps270 ?_
 have W:=trivial
 repeat' first|refine we ?_|(refine sq ?_ ?_<;>intro hc<;>try exact hc.elim)|fail
 refine aJ (ι:={q:Nat×Nat×List Cm // (q.1<=l.length/\1<=q.2.1)/\q.2.2=jZ (l.take q.1)}) (fun t o i=>⟨aZ t [(15,.int .i64 i.1.1),(11,.undef)],o.take 1++[⟨true,true,1,0,[[.obj 3 i.1.2.1]]⟩,⟨true,false,1,1,l.map fF⟩,⟨true,false,2,i.1.2.1,i.1.2.2.map wI⟩]⟩)
  (fun i=>l.length - i.1.1) ⟨(0,1,[]),by simp,by simp [jZ]⟩ (qX 1 0 0 (ob:=⟨true,true,1,0,[[.sl .own 2 []]]⟩) (by rfl) (by rfl) (by rfl) (by simp) (by rfl) (by rfl) (by simp) (by simp [wT,rt,gM])) ?_
 rintro ⟨⟨k,v,acc⟩,⟨hk,hv⟩,sV⟩ K1 hK1
 simp only at hk hv sV
 simp only [aZ,set_cons_succ,set_cons_zero,take_succ_cons,take_zero,cons_append,nil_append] at hK1⊢
 have hk1:i64.wrap ((k:Int)+1)=((k+1:Nat):Int):=by rw [wrap64]<;>omega
 by_cases hlt:k < l.length
 ·have hg:=getElem?_eq_getElem hlt
  have ma:=dV gT l k hlt
  simp only [gT] at ma
  have cC:=vW l[k] 58 (by omega)
  have cN:=gJ (Jj l[k]) (by simp [Jj];omega)
  have cP:=KN (Bg l[k]) (by simp [Bg];omega)
  change Ok _ _ _ (.gV [.str (Jj l[k]),.str (Bg l[k]),.bool (decide (gG 58 l[k] < l[k].length))]) at cC
  have n1:= @NH l k hlt
  have n2:=fun r=> @NI l k r hlt
  have n3:= @VI l k
  have r1:= @Ef l[k]
  have r2:= @Ko l[k]
  have r3:=fun v=> @NF l[k] v
  have r4:=fun v=> @NG l[k] v
  have ha8:=VJ (l.take k)
  rw [<-sV] at n1 n2 n3 ha8
  generalize LA:jZ (l.take (k+1))=NK at *
  generalize hrl:rA l[k]=ru at *
  generalize decide (gG 58 l[k] < l[k].length)=b1 at *
  generalize Jj l[k]=ky at *
  generalize Bg l[k]=vl at *
  cases hp:xB vl with
  |none=>
   rw [qY hp] at cP
   have e2:=n1 (r1 hp)
   clear r1 r2 r3 r4 n1 n2 n3
   have W:=aA hk1 (aA hg hlt)
   repeat' first|refine we ?_|(refine sq ?_ ?_<;>intro hc<;>try exact hc.elim)|fail
   exact hK1 _ ⟨(k+1,v,acc),⟨by simp only;omega,hv⟩,(by simp only;rw [LA];exact e2.symm)⟩ (aS 4 (by simp) (by simp) (by simp) (by simp)) (by simp only;omega)
  |some x=>
   rw [BQ hp] at cP
   cases hn:dJ ky with
   |false=>
    rw [hn] at cN
    have e2:=n1 (r2 hn)
    clear r1 r2 r3 r4 n1 n2 n3
    have W:=aA hk1 (aA hg hlt)
    repeat' first|refine we ?_|(refine sq ?_ ?_<;>intro hc<;>try exact hc.elim)|fail
    exact hK1 _ ⟨(k+1,v,acc),⟨by simp only;omega,hv⟩,(by simp only;rw [LA];exact e2.symm)⟩ (aS 4 (by simp) (by simp) (by simp) (by simp)) (by simp only;omega)
   |true=>
    rw [hn] at cN
    have cR:=kX x 1 999
    by_cases hx:1<=x/\x<=999
    ·have hb:(decide ((1:Int)<=x)&&decide (x<=(999:Int)))=true:=by simp;omega
     rw [hb] at cR
     have hr:=r4 x hp hn hx
     by_cases h8:acc.length < 8
     ·have M4:((acc.length:Int) < 8):=by omega
      have e2:=n2 _ hr h8
      clear r1 r2 r3 r4 n1 n2 n3
      have hps:NK.map wI=acc.map wI++[wI ⟨ky,x⟩]:=by rw [e2];simp
      have Lt:(acc.map wI).length=acc.length:=by simp
      have W:=aA hk1 (aA hg (aA hlt M4))
      repeat' first|refine we ?_|(refine sq ?_ ?_<;>intro hc<;>try exact hc.elim)|fail
      exact hK1 _ ⟨(k+1,v+1,NK),⟨by simp only;omega,by simp only;omega⟩,(by simp only;exact LA.symm)⟩ (aS 4 (by simp [hps]) (by simp) (by simp) (by simp)) (by simp only;omega)
     ·have M4:¬((acc.length:Int) < 8):=by omega
      have e2:=n3 h8
      clear r1 r2 r3 r4 n1 n2 n3
      have W:=aA hk1 (aA hg (aA hlt M4))
      repeat' first|refine we ?_|(refine sq ?_ ?_<;>intro hc<;>try exact hc.elim)|fail
      exact hK1 _ ⟨(k+1,v,acc),⟨by simp only;omega,hv⟩,(by simp only;rw [LA];exact e2.symm)⟩ (aS 4 (by simp) (by simp) (by simp) (by simp)) (by simp only;omega)
    ·have hb:(decide ((1:Int)<=x)&&decide (x<=(999:Int)))=false:=by simp only [Bool.and_eq_false_iff,decide_eq_false_iff_not];omega
     rw [hb] at cR
     have e2:=n1 (r3 x hp hx)
     clear r1 r2 r3 r4 n1 n2 n3
     have W:=aA hk1 (aA hg hlt)
     repeat' first|refine we ?_|(refine sq ?_ ?_<;>intro hc<;>try exact hc.elim)|fail
     exact hK1 _ ⟨(k+1,v,acc),⟨by simp only;omega,hv⟩,(by simp only;rw [LA];exact e2.symm)⟩ (aS 4 (by simp) (by simp) (by simp) (by simp)) (by simp only;omega)
 ·have htk:l.take k=l:=take_of_length_le (by omega)
  rw [htk] at sV
  subst sV
  have W:=hk1
  repeat' first|refine we ?_|(refine sq ?_ ?_<;>intro hc<;>try exact hc.elim)|fail
  all_goals try(refine ⟨.inr rfl,?_⟩;simp [aB,results270])
end Go.Proofs.YtlnblmmohpcceaaGreatDoor
