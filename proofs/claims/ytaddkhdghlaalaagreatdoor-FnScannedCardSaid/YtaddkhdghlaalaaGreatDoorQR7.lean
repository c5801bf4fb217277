/-
  Proved here: steps towards the statement of this claim, text QR7.
  No condition beyond what each statement spells out.
-/
import Derived.Test.YtaddkhdghlaalaaGreatDoorQR5
import Derived.Test.YtaddkhdghlaalaaGreatDoorQMK1
import Derived.Test.YtaddkhdghlaalaaGreatDoorQY4
import Derived.Test.YtaddkhdghlaalaaGreatDoorF6
set_option linter.all false
set_option maxRecDepth 4000
set_option maxHeartbeats 4000000
namespace Go.Proofs.YtaddkhdghlaalaaGreatDoor
open Go.Aw
def jN:Str:=[115,99,114,105,112,116]
def aCq:Str:=[108,105,110,107]
def aC4:Str:=[105,109,103]
def zK:Str:=[107,105,110,100]
def yS:Str:=[109,111,100,117,108,101]
def gK:Str:=[115,114,99]
def mV:Str:=[104,114,101,102]
def dN:Str:=[100,105,103,101,115,116]
def pG:dA:=⟨0,kZ,[],[]⟩
def rO (k:Int) (v d b:Str):dA×Bool:=if (bO v b).2=true then (⟨k,(bO v b).1,b,d⟩,true) else (pG,false)
def iD (t:bE) (b:Str):dA×Bool:=
 if t.kind=1 then
  if t.name=jN then
   if (aP t.attrs zK).1=yS then rO 5 (aP t.attrs gK).1 [] b else rO 2 (aP t.attrs gK).1 (aP t.attrs dN).1 b
  else if t.name=aCq then rO 3 (aP t.attrs mV).1 (aP t.attrs dN).1 b
  else if t.name=aC4 then rO 4 (aP t.attrs gK).1 (aP t.attrs dN).1 b
  else (pG,false)
 else (pG,false)
theorem iY (l:List iJ) (n:Str):(aP l n).1.length≤aK lI l:=by
 unfold aP
 split
 ·rename_i a h
  have:=List.mem_of_find?_eq_some h
  have:=dL lI this
  simp only [lI] at this⊢
  omega
 ·simp
theorem aPk (b:Str):bO [] b=(kZ,false):=by simp [bO,addrOf,aNq,nT,bU]
theorem vS (l:List iJ) (n b:Str) (h:(aP l n).2=false):(bO (aP l n).1 b).2=false:=by
 unfold aP at h⊢
 split at h
 ·cases h
 ·show (bO [] b).2=false
  rw [aPk]
theorem aBa [aB Tryz.prog] (t:bE) (b:Str) (hl:bN t+b.length≤1099511627776):Ok Tryz.prog 16 [.agg (bL .view t),.str b] (.tup [.agg (bT (iD t b).1),.bool (iD t b).2]):=by
 simp only [bN,szL] at hl
 have z1:=iY t.attrs gK
 have z2:=iY t.attrs mV
 have h1:=fZ t.attrs zK (by omega)
 have h2:=fZ t.attrs gK (by omega)
 have h3:=fZ t.attrs mV (by omega)
 have h4:=fZ t.attrs dN (by omega)
 have h5:=pV (aP t.attrs gK).1 b (by omega)
 have h6:=pV (aP t.attrs mV).1 b (by omega)
 have n1:=vS t.attrs gK b
 have n2:=vS t.attrs mV b
 refine ent Tryz.mix Tryz.func16 Tryz.ntmps16 ?_
 have W:=trivial
 repeat' first|refine st ?_|(refine nx ?_;refine so ?_)|(refine cx ?_;refine sc (fun hc=>?_) (fun hc=>?_)<;>try exact hc.elim)|(refine lx ?_;refine sp (fun hc=>?_) (fun hc=>?_)<;>try exact hc.elim)|refine sx ?_ ?_|refine sy ?_ ?_|fail
 clear h1 h2 h3 h4 h5 h6
 all_goals (try (refine ⟨.inr rfl,?_⟩;simp [Hands,Tryz.results16,iD,rO,pG,kZ]))
 all_goals (simp_all [iD,rO,pG,kZ,jN,aCq,aC4,zK,yS,gK,mV,dN];done)
theorem aBv [aB Tryz.prog] (t:bE) (b:Str) (hl:bN t+b.length≤1099511627776):Ok Tryz.prog 15 [.agg (bL .view t),.str b] (.tup [.agg (bT (iD t b).1),.bool (iD t b).2]):=by
 simp only [bN,szL] at hl
 have z1:=iY t.attrs gK
 have z2:=iY t.attrs mV
 have h1:=qL t.attrs zK (by omega)
 have h2:=qL t.attrs gK (by omega)
 have h3:=qL t.attrs mV (by omega)
 have h4:=qL t.attrs dN (by omega)
 have h5:=aBo (aP t.attrs gK).1 b (by omega)
 have h6:=aBo (aP t.attrs mV).1 b (by omega)
 have n1:=vS t.attrs gK b
 have n2:=vS t.attrs mV b
 refine ent Tryz.mix Tryz.func15 Tryz.ntmps15 ?_
 have W:=trivial
 repeat' first|refine st ?_|(refine nx ?_;refine so ?_)|(refine cx ?_;refine sc (fun hc=>?_) (fun hc=>?_)<;>try exact hc.elim)|(refine lx ?_;refine sp (fun hc=>?_) (fun hc=>?_)<;>try exact hc.elim)|refine sx ?_ ?_|refine sy ?_ ?_|fail
 clear h1 h2 h3 h4 h5 h6
 all_goals (try (refine ⟨.inr rfl,?_⟩;simp [Hands,Tryz.results15,iD,rO,pG,kZ]))
 all_goals (simp_all [iD,rO,pG,kZ,jN,aCq,aC4,zK,yS,gK,mV,dN];done)
theorem aY6 (s b:Str):aI (addrOf s b)≤s.length+b.length:=by
 have:=oU 47 s
 unfold addrOf
 split<;>simp [aI]<;>omega
theorem aFx (s b:Str):aI (bO s b).1≤s.length+b.length:=by
 have:=aY6 s b
 unfold bO
 split
 ·exact this
 ·simp [aI,kZ]
theorem aCf (k:Int) (v d b:Str):fE (rO k v d b).1≤v.length+d.length+2 * b.length:=by
 have:=aFx v b
 unfold rO
 split
 ·simp only [fE];omega
 ·simp [fE,pG,aI,kZ]
theorem aQy (t:bE) (b:Str):fE (iD t b).1≤2 * bN t+2 * b.length:=by
 have z1:=iY t.attrs gK
 have z2:=iY t.attrs mV
 have z3:=iY t.attrs dN
 have n0:fE pG=0:=by simp [fE,pG,aI,kZ]
 have h1:=aCf 5 (aP t.attrs gK).1 [] b
 have h2:=aCf 2 (aP t.attrs gK).1 (aP t.attrs dN).1 b
 have h3:=aCf 3 (aP t.attrs mV).1 (aP t.attrs dN).1 b
 have h4:=aCf 4 (aP t.attrs gK).1 (aP t.attrs dN).1 b
 simp only [bN,szL]
 simp only [List.length_nil] at h1
 unfold iD
 repeat' split
 all_goals first|omega|(simp only [n0];omega)
def aD9 (b:Str) (t:bE):Option dA:=if (iD t b).2=true then some (iD t b).1 else none
def bZ (l:List bE) (b:Str):List dA:=l.filterMap (aD9 b)
@[simp] theorem bFb (b:Str):bZ [] b=[]:=rfl
theorem aCw (l:List bE) (b:Str) (k:Nat) (h:k < l.length):bZ (l.take (k+1)) b=bZ (l.take k) b++(if (iD l[k] b).2=true then [(iD l[k] b).1] else []):=by
 simp only [bZ]
 rw [List.take_succ_eq_append_getElem h,List.filterMap_append]
 simp only [List.filterMap_cons,List.filterMap_nil,aD9]
 split<;>simp_all
theorem mO (l:List bE) (b:Str):(bZ l b).length≤l.length:=List.length_filterMap_le _ _
theorem aAg (b:Str):∀l:List bE,aK fE (bZ l b)≤2 * aK bN l+2 * (l.length * b.length)
 |[]=>by simp [bZ,aK]
 |t::l=>by
  have h:=aQy t b
  have ih:=aAg b l
  have e:(t::l).length * b.length=l.length * b.length+b.length:=by rw [List.length_cons,Nat.succ_mul]
  rw [e]
  simp only [bZ,List.filterMap_cons,aD9,aK] at ih⊢
  generalize l.length * b.length=q at *
  split
  ·omega
  ·rename_i x hx
   split at hx
   ·cases hx
    simp only [aK]
    omega
   ·cases hx
theorem aAm [aB Tryz.prog] (l:List bE) (b:Str) (hl:szL bN l+b.length≤1099511627776):Ok Tryz.prog 24 [.sl .view 4 (l.map (bL .view)),.str b] (.sl .own 5 ((bZ l b).map bT)):=by
 simp only [szL] at hl
 refine ent Tryz.mix Tryz.func24 Tryz.ntmps24 ?_
 refine bA ?_
 refine aR (ι:={q:Nat×Nat // q.1≤l.length∧1≤q.2}) (fun t o i=>⟨aS t [(5,.obj 0 i.1.2),(6,.int .i64 i.1.1)],o.take 0++[⟨true,false,5,i.1.2,(bZ (l.take i.1.1) b).map bT⟩]⟩)
  (fun i=>l.length - i.1.1) ⟨(0,1),by simp,by first|(simp;done)|(simp only;omega)⟩ aO ?_
 rintro ⟨⟨k,v⟩,hk,hv⟩ K1 hK1
 simp only at hk hv
 simp only [aS,List.set_cons_succ,List.set_cons_zero,List.take_succ_cons,List.take_zero,List.cons_append,List.nil_append] at hK1⊢
 have hk1:=wk1 (k:=k) (by omega)
 by_cases hlt:k < l.length
 ·have hg:=List.getElem?_eq_getElem hlt
  have hps:=aCw l b k hlt
  have hpl:=mO (l.take k) b
  have htl:(l.take k).length=k:=by simp;omega
  have hb1:((bZ (l.take k) b).length+1) * 72≤140737488355328:=by omega
  have hb2:(bZ (l.take k) b).length+1≤9223372036854775807:=by omega
  have hb3:(bZ (l.take k) b).length≤9223372036854775806:=by omega
  have hz:=fM bN l k hlt
  have hc1:=aBa l[k] b (by omega)
  simp only [bL,bT] at hc1
  have W:=And.intro hk1 (And.intro hg (And.intro hlt (And.intro hb1 (And.intro hb2 hb3))))
  repeat' first|refine st ?_|(refine nx ?_;refine so ?_)|(refine cx ?_;refine sc (fun hc=>?_) (fun hc=>?_)<;>try exact hc.elim)|(refine lx ?_;refine sp (fun hc=>?_) (fun hc=>?_)<;>try exact hc.elim)|refine sx ?_ ?_|refine sy ?_ ?_|fail
  ·refine hK1 _ ⟨(k+1,v+1),by simp only;omega,by simp only;omega⟩ (aN 1 (by simp [hps,hc])) (by simp only;omega)
  ·refine hK1 _ ⟨(k+1,v),by simp only;omega,hv⟩ (aN 1 (by simp [hps,hc])) (by simp only;omega)
 ·have htk:l.take k=l:=List.take_of_length_le (by omega)
  rw [htk]
  have W:=hk1
  refine wl ?_
  exact aM Tryz.results24
theorem aAo [aB Tryz.prog] (l:List bE) (b:Str) (hl:szL bN l+b.length≤1099511627776):Ok Tryz.prog 20 [.sl .view 4 (l.map (bL .view)),.str b] (.sl .own 5 ((bZ l b).map bT)):=by
 simp only [szL] at hl
 refine ent Tryz.mix Tryz.func20 Tryz.ntmps20 ?_
 refine bA ?_
 refine aR (ι:={q:Nat×Nat // q.1≤l.length∧1≤q.2}) (fun t o i=>⟨aS t [(5,.obj 0 i.1.2),(13,.int .i64 i.1.1)],o.take 0++[⟨true,false,5,i.1.2,(bZ (l.take i.1.1) b).map bT⟩]⟩)
  (fun i=>l.length - i.1.1) ⟨(0,1),by simp,by first|(simp;done)|(simp only;omega)⟩ aO ?_
 rintro ⟨⟨k,v⟩,hk,hv⟩ K1 hK1
 simp only at hk hv
 simp only [aS,List.set_cons_succ,List.set_cons_zero,List.take_succ_cons,List.take_zero,List.cons_append,List.nil_append] at hK1⊢
 have hk1:=wk1 (k:=k) (by omega)
 by_cases hlt:k < l.length
 ·have hg:=List.getElem?_eq_getElem hlt
  have hps:=aCw l b k hlt
  have hpl:=mO (l.take k) b
  have htl:(l.take k).length=k:=by simp;omega
  have hb1:((bZ (l.take k) b).length+1) * 72≤140737488355328:=by omega
  have hb2:(bZ (l.take k) b).length+1≤9223372036854775807:=by omega
  have hb3:(bZ (l.take k) b).length≤9223372036854775806:=by omega
  have hz:=fM bN l k hlt
  have hc1:=aBv l[k] b (by omega)
  simp only [bL,bT] at hc1
  have W:=And.intro hk1 (And.intro hg (And.intro hlt (And.intro hb1 (And.intro hb2 hb3))))
  repeat' first|refine st ?_|(refine nx ?_;refine so ?_)|(refine cx ?_;refine sc (fun hc=>?_) (fun hc=>?_)<;>try exact hc.elim)|(refine lx ?_;refine sp (fun hc=>?_) (fun hc=>?_)<;>try exact hc.elim)|refine sx ?_ ?_|refine sy ?_ ?_|fail
  ·refine hK1 _ ⟨(k+1,v+1),by simp only;omega,by simp only;omega⟩ (aN 1 (by simp [hps,hc])) (by simp only;omega)
  ·refine hK1 _ ⟨(k+1,v),by simp only;omega,hv⟩ (aN 1 (by simp [hps,hc])) (by simp only;omega)
 ·have htk:l.take k=l:=List.take_of_length_le (by omega)
  rw [htk]
  have W:=hk1
  refine wl ?_
  exact aM Tryz.results20
def gP (s:Str):List bE:=(feed s).1++iI ⟨(feed s).2⟩
theorem aC5 (t:kV):aK bN (iI t)≤t.rest.length∧(iI t).length≤1:=by
 unfold iI
 split
 ·simp [aK]
 ·simp [aK,bN,szL]
theorem zN (s:Str):(gP s).length≤s.length+1∧aK bN (gP s)≤s.length:=by
 obtain ⟨h1,h2⟩:=aA5 s.length s (Nat.le_refl _)
 obtain ⟨h3,h4⟩:=aC5 ⟨(feed s).2⟩
 have hj:∀a b:List bE,aK bN (a++b)=aK bN a+aK bN b:=by
  intro a b
  induction a with
  |nil=>simp [aK]
  |cons x xs ih=>simp only [List.cons_append,aK,ih];omega
 simp only [gP,List.length_append,hj] at *
 omega
theorem xD [aB Tryz.prog] [dB Tryz.prog] (s:Str) (hl:s.length≤1048576):Ok Tryz.prog 18 [.str s] (.sl .own 4 ((gP s).map (bL .own))):=by
 have c1:=aCj ⟨[]⟩ s (by simp;omega)
 obtain ⟨h1,h2⟩:=aA5 s.length s (Nat.le_refl _)
 simp only [List.nil_append,fI] at c1
 unfold gP
 generalize feed s=f at *
 obtain ⟨l,x⟩:=f
 simp only at c1 h1 h2⊢
 have c2:=aDv ⟨x⟩ (by simp only;omega)
 have h4:=(aC5 ⟨x⟩).2
 simp only [fI] at c2
 generalize iI ⟨x⟩=g at *
 have hb1:(l.length+g.length) * 64≤140737488355328:=by omega
 refine ent Tryz.mix Tryz.func18 Tryz.ntmps18 ?_
 have W:=hb1
 refine we ?_
 all_goals (try (refine ⟨.inr rfl,?_⟩;simp [Hands,Tryz.results18]))
 all_goals (first|(rw [←List.map_append];exact pX _)|simp)
theorem aKp [aB Tryz.prog] [dB Tryz.prog] (s:Str) (hl:s.length≤1048576):Ok Tryz.prog 38 [.str s] (.sl .own 4 ((gP s).map (bL .own))):=by
 have c1:=aLy ⟨[]⟩ s (by simp;omega)
 obtain ⟨h1,h2⟩:=aA5 s.length s (Nat.le_refl _)
 simp only [List.nil_append,fI] at c1
 unfold gP
 generalize feed s=f at *
 obtain ⟨l,x⟩:=f
 simp only at c1 h1 h2⊢
 have c2:=aNa ⟨x⟩ (by simp only;omega)
 have h4:=(aC5 ⟨x⟩).2
 simp only [fI] at c2
 generalize iI ⟨x⟩=g at *
 have hb1:(l.length+g.length) * 64≤140737488355328:=by omega
 refine ent Tryz.mix Tryz.func38 Tryz.ntmps38 ?_
 have W:=hb1
 refine we ?_
 all_goals (try (refine ⟨.inr rfl,?_⟩;simp [Hands,Tryz.results38]))
 all_goals (first|(rw [←List.map_append];exact pX _)|simp)
theorem aL4 [aB Tryz.prog] [dB Tryz.prog] (s b:Str) (hl:s.length≤1048576) (hb:b.length≤1048576):Ok Tryz.prog 17 [.str s,.str b] (.sl .own 5 ((bZ (gP s) b).map bT)):=by
 have c1:=xD s hl
 obtain ⟨h1,h2⟩:=zN s
 generalize gP s=l at *
 have c2:=aAm l b (by simp only [szL];omega)
 refine ent Tryz.mix Tryz.func17 Tryz.ntmps17 ?_
 refine aW ?_
 exact aM Tryz.results17
theorem aLk [aB Tryz.prog] [dB Tryz.prog] (s b:Str) (hl:s.length≤1048576) (hb:b.length≤1048576):Ok Tryz.prog 13 [.str s,.str b] (.sl .own 5 ((bZ (gP s) b).map bT)):=by
 have c1:=aKp s hl
 obtain ⟨h1,h2⟩:=zN s
 generalize gP s=l at *
 have c2:=aAo l b (by simp only [szL];omega)
 refine ent Tryz.mix Tryz.func13 Tryz.ntmps13 ?_
 refine aW ?_
 exact aM Tryz.results13
def wd:Nat→Str
 |1=>[119,114,105,116,101]
 |2=>[97,100,100]
 |3=>[99,111,117,110,116]
 |4=>[108,111,111,107]
 |5=>[115,97,121]
 |_=>[]
def aGu (op:Nat):Bool:=op == 1 || op == 5
def jQ (op:Nat) (x:Str):Bool:=if aGu op=true then decide (x.length≤60) else bU x
def gZ (s:Str) (op:Nat):Option (iG×Bool):=
 if (wd op).length+1≤s.length∧s.take ((wd op).length+1)=wd op++[32] then some (⟨op,s.drop ((wd op).length+1)⟩,jQ op (s.drop ((wd op).length+1))) else none
def eF (s:Str):iG×Bool:=((((gZ s 1).or (gZ s 2)).or (gZ s 3)).or (gZ s 4)).or (gZ s 5) |>.getD (⟨0,[]⟩,false)
theorem aW1 [aB Tryz.prog]:Ok Tryz.prog 205 [] (.sl .own 1 [[.str []],[.str [119,114,105,116,101,32]],[.str [97,100,100,32]],[.str [99,111,117,110,116,32]],[.str [108,111,111,107,32]],[.str [115,97,121,32]]]):=by
 refine ent Tryz.mix Tryz.func205 Tryz.ntmps205 ?_
 refine aW ?_
 exact aM Tryz.results205
theorem nM {s:Str} {op:Nat} (h:¬((((wd op).length+1:Nat):Int)≤(s.length:Int)∧s.take ((wd op).length+1)=wd op++[32])):gZ s op=none:=by
 unfold gZ
 rw [if_neg]
 rintro ⟨h1,h2⟩
 exact h ⟨by omega,h2⟩
theorem wZ {s:Str} {op:Nat} (h1:(((wd op).length+1:Nat):Int)≤(s.length:Int)) (h2:s.take ((wd op).length+1)=wd op++[32]):gZ s op=some (⟨op,s.drop ((wd op).length+1)⟩,jQ op (s.drop ((wd op).length+1))):=by
 unfold gZ
 exact if_pos ⟨by omega,h2⟩
theorem pF {s:Str} {k:Nat} (hn:∀j,1≤j→j < k→gZ s j=none) (h:gZ s k=none):∀j,1≤j→j < k+1→gZ s j=none:=by
 intro j h1 h2
 rcases Nat.lt_or_ge j k with h3|h3
 ·exact hn j h1 h3
 ·obtain rfl:j=k:=by omega
  exact h
theorem aY9 [aB Tryz.prog] (s:Str) (hl:s.length≤1099511627776):Ok Tryz.prog 190 [.str s] (.tup [.agg (mM (eF s).1),.bool (eF s).2]):=by
 have c0:=aW1
 refine ent Tryz.mix Tryz.func190 Tryz.ntmps190 ?_
 refine aW ?_
 refine aR (ι:={i:Nat // (1≤i∧i≤6)∧∀j,1≤j→j < i→gZ s j=none}) (fun t o i=>⟨aS t [(5,.int .i64 i.1)],o⟩) (fun i=>6 - i.1) ⟨1,by simp,fun j h1 h2=>by omega⟩ aO ?_
 rintro ⟨k,⟨hk,hk6⟩,hn⟩ K1 hK1
 try simp only at hk hk6 hn
 simp only [aS,List.set_cons_succ,List.set_cons_zero] at hK1⊢
 obtain rfl|rfl|rfl|rfl|rfl|rfl:k=1∨k=2∨k=3∨k=4∨k=5∨k=6:=by omega
 ·by_cases h1:(6:Int)≤(s.length:Int)
  ·have h1n:((6:Nat):Int)≤(s.length:Int):=by omega
   by_cases h2:s.take 6=[119,114,105,116,101,32]
   ·have ht:gZ s 1=some (⟨1,s.drop 6⟩,jQ 1 (s.drop 6)):=wZ (op:=1) h1n h2
    have hr:eF s=(⟨1,s.drop 6⟩,jQ 1 (s.drop 6)):=by simp [eF,ht]
    rw [hr]
    clear hr ht hn h1n
    by_cases h3:((s.length - 6:Nat):Int)≤60
    ·have hg:jQ 1 (s.drop 6)=true:=by simp [jQ,aGu];omega
     rw [hg]
     have W:=And.intro h1 (And.intro h2 h3)
     refine we ?_
     exact aM Tryz.results190
    ·have hg:jQ 1 (s.drop 6)=false:=by simp [jQ,aGu];omega
     rw [hg]
     have W:=And.intro h1 (And.intro h2 h3)
     refine we ?_
     exact aM Tryz.results190
   ·have ht:gZ s 1=none:=nM (op:=1) (fun h=>h2 h.2)
    have hb:(s.take 6 == ([119,114,105,116,101,32]:Str))=false:=by simpa using h2
    have W:=And.intro h1 (And.intro h2 hb)
    refine we ?_
    exact hK1 _ ⟨2,by omega,pF hn ht⟩ aO (by simp only;omega)
  ·have ht:gZ s 1=none:=nM (op:=1) (fun h=>h1 (by have:=h.1;simp only [wd,List.length_cons,List.length_nil] at this;omega))
   have W:=h1
   refine we ?_
   exact hK1 _ ⟨2,by omega,pF hn ht⟩ aO (by simp only;omega)
 ·by_cases h1:(4:Int)≤(s.length:Int)
  ·have h1n:((4:Nat):Int)≤(s.length:Int):=by omega
   by_cases h2:s.take 4=[97,100,100,32]
   ·have ht:gZ s 2=some (⟨2,s.drop 4⟩,jQ 2 (s.drop 4)):=wZ (op:=2) h1n h2
    have hr:eF s=(⟨2,s.drop 4⟩,jQ 2 (s.drop 4)):=by simp [eF,hn 1 (by omega) (by omega),ht]
    rw [hr]
    clear hr ht hn h1n
    have c1:=dW (s.drop 4) (by simp;omega)
    have hg:jQ 2 (s.drop 4)=bU (s.drop 4):=rfl
    rw [hg]
    generalize bU (s.drop 4)=b at *
    have W:=And.intro h1 h2
    refine we ?_
    exact aM Tryz.results190
   ·have ht:gZ s 2=none:=nM (op:=2) (fun h=>h2 h.2)
    have hb:(s.take 4 == ([97,100,100,32]:Str))=false:=by simpa using h2
    have W:=And.intro h1 (And.intro h2 hb)
    refine we ?_
    exact hK1 _ ⟨3,by omega,pF hn ht⟩ aO (by simp only;omega)
  ·have ht:gZ s 2=none:=nM (op:=2) (fun h=>h1 (by have:=h.1;simp only [wd,List.length_cons,List.length_nil] at this;omega))
   have W:=h1
   refine we ?_
   exact hK1 _ ⟨3,by omega,pF hn ht⟩ aO (by simp only;omega)
 ·by_cases h1:(6:Int)≤(s.length:Int)
  ·have h1n:((6:Nat):Int)≤(s.length:Int):=by omega
   by_cases h2:s.take 6=[99,111,117,110,116,32]
   ·have ht:gZ s 3=some (⟨3,s.drop 6⟩,jQ 3 (s.drop 6)):=wZ (op:=3) h1n h2
    have hr:eF s=(⟨3,s.drop 6⟩,jQ 3 (s.drop 6)):=by simp [eF,hn 1 (by omega) (by omega),hn 2 (by omega) (by omega),ht]
    rw [hr]
    clear hr ht hn h1n
    have c1:=dW (s.drop 6) (by simp;omega)
    have hg:jQ 3 (s.drop 6)=bU (s.drop 6):=rfl
    rw [hg]
    generalize bU (s.drop 6)=b at *
    have W:=And.intro h1 h2
    refine we ?_
    exact aM Tryz.results190
   ·have ht:gZ s 3=none:=nM (op:=3) (fun h=>h2 h.2)
    have hb:(s.take 6 == ([99,111,117,110,116,32]:Str))=false:=by simpa using h2
    have W:=And.intro h1 (And.intro h2 hb)
    refine we ?_
    exact hK1 _ ⟨4,by omega,pF hn ht⟩ aO (by simp only;omega)
  ·have ht:gZ s 3=none:=nM (op:=3) (fun h=>h1 (by have:=h.1;simp only [wd,List.length_cons,List.length_nil] at this;omega))
   have W:=h1
   refine we ?_
   exact hK1 _ ⟨4,by omega,pF hn ht⟩ aO (by simp only;omega)
 ·by_cases h1:(5:Int)≤(s.length:Int)
  ·have h1n:((5:Nat):Int)≤(s.length:Int):=by omega
   by_cases h2:s.take 5=[108,111,111,107,32]
   ·have ht:gZ s 4=some (⟨4,s.drop 5⟩,jQ 4 (s.drop 5)):=wZ (op:=4) h1n h2
    have hr:eF s=(⟨4,s.drop 5⟩,jQ 4 (s.drop 5)):=by simp [eF,hn 1 (by omega) (by omega),hn 2 (by omega) (by omega),hn 3 (by omega) (by omega),ht]
    rw [hr]
    clear hr ht hn h1n
    have c1:=dW (s.drop 5) (by simp;omega)
    have hg:jQ 4 (s.drop 5)=bU (s.drop 5):=rfl
    rw [hg]
    generalize bU (s.drop 5)=b at *
    have W:=And.intro h1 h2
    refine we ?_
    exact aM Tryz.results190
   ·have ht:gZ s 4=none:=nM (op:=4) (fun h=>h2 h.2)
    have hb:(s.take 5 == ([108,111,111,107,32]:Str))=false:=by simpa using h2
    have W:=And.intro h1 (And.intro h2 hb)
    refine we ?_
    exact hK1 _ ⟨5,by omega,pF hn ht⟩ aO (by simp only;omega)
  ·have ht:gZ s 4=none:=nM (op:=4) (fun h=>h1 (by have:=h.1;simp only [wd,List.length_cons,List.length_nil] at this;omega))
   have W:=h1
   refine we ?_
   exact hK1 _ ⟨5,by omega,pF hn ht⟩ aO (by simp only;omega)
 ·by_cases h1:(4:Int)≤(s.length:Int)
  ·have h1n:((4:Nat):Int)≤(s.length:Int):=by omega
   by_cases h2:s.take 4=[115,97,121,32]
   ·have ht:gZ s 5=some (⟨5,s.drop 4⟩,jQ 5 (s.drop 4)):=wZ (op:=5) h1n h2
    have hr:eF s=(⟨5,s.drop 4⟩,jQ 5 (s.drop 4)):=by simp [eF,hn 1 (by omega) (by omega),hn 2 (by omega) (by omega),hn 3 (by omega) (by omega),hn 4 (by omega) (by omega),ht]
    rw [hr]
    clear hr ht hn h1n
    by_cases h3:((s.length - 4:Nat):Int)≤60
    ·have hg:jQ 5 (s.drop 4)=true:=by simp [jQ,aGu];omega
     rw [hg]
     have W:=And.intro h1 (And.intro h2 h3)
     refine we ?_
     exact aM Tryz.results190
    ·have hg:jQ 5 (s.drop 4)=false:=by simp [jQ,aGu];omega
     rw [hg]
     have W:=And.intro h1 (And.intro h2 h3)
     refine we ?_
     exact aM Tryz.results190
   ·have ht:gZ s 5=none:=nM (op:=5) (fun h=>h2 h.2)
    have hb:(s.take 4 == ([115,97,121,32]:Str))=false:=by simpa using h2
    have W:=And.intro h1 (And.intro h2 hb)
    refine we ?_
    exact hK1 _ ⟨6,by omega,pF hn ht⟩ aO (by simp only;omega)
  ·have ht:gZ s 5=none:=nM (op:=5) (fun h=>h1 (by have:=h.1;simp only [wd,List.length_cons,List.length_nil] at this;omega))
   have W:=h1
   refine we ?_
   exact hK1 _ ⟨6,by omega,pF hn ht⟩ aO (by simp only;omega)
 ·have hr:eF s=(⟨0,[]⟩,false):=by simp [eF,hn 1 (by omega) (by omega),hn 2 (by omega) (by omega),hn 3 (by omega) (by omega),hn 4 (by omega) (by omega),hn 5 (by omega) (by omega)]
  rw [hr]
  refine aW ?_
  exact aM Tryz.results190
end Go.Proofs.YtaddkhdghlaalaaGreatDoor
