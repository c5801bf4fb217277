/-
  Proved here: steps towards the statement of this claim, text QJ1.
  No condition beyond what each statement spells out.
-/
import Derived.Test.YtaddkhdghlaalaaGreatDoorQ1
import Derived.Test.YtaddkhdghlaalaaGreatDoorF5
import Derived.Test.YtaddkhdghlaalaaGreatDoorQR5
import Derived.Test.YtaddkhdghlaalaaGreatDoorF8
import Derived.Test.YtaddkhdghlaalaaGreatDoorYShelf
set_option linter.all false
set_option maxRecDepth 4000
set_option maxHeartbeats 4000000
namespace Go.Proofs.YtaddkhdghlaalaaGreatDoor
open Go.Aw
def nG (l:List Str):Bool:=l.all bU&&decide (l.length≤4)
def yA (p:dU):Bool:=
 if p.isSet=true then nG p.scripts&&nG p.styles&&nG p.images&&(p.nonce == [] || gG p.nonce)
 else p.scripts == []&&p.styles == []&&p.images == []&&p.nonce == []
def wP:Str:=[115,99,114,105,112,116]
def zV:Str:=[115,116,121,108,101]
def aGd:Str:=[105,109,103]
def aQ6:Str:=[110,111,110,99,101,32]
def words (w:Str) (l:List Str):Str:=Lib.join (w::l) [32]
def aMa (n:Str):Str:=if n=[] then [] else 59::(aQ6++n)
def lY (p:dU):Str:=
 if yA p=true∧p.isSet=true then words wP p.scripts++59::(words zV p.styles++59::(words aGd p.images++aMa p.nonce)) else []
def sD:dU:=⟨false,[],[],[],[]⟩
def tJ (f:Str→Str) (s:Str):dU:=
 ⟨true,(bF 32 ((bF 59 s).getD 0 [])).tail,(bF 32 ((bF 59 s).getD 1 [])).tail,(bF 32 ((bF 59 s).getD 2 [])).tail,match (bF 59 s)[3]? with|some x=>f x|none=>[]⟩
def aA7 (f:Str→Str) (s:Str):dU×Bool:=
 if s=[] then (sD,true) else if (bF 59 s).length < 3 then (sD,false) else if lY (tJ f s)=s then (tJ f s,true) else (sD,false)
def mZ (x:Str):Str:=if 6 < x.length then x.drop 6 else []
def iX (s:Str):dU×Bool:=aA7 mZ s
theorem bCv {l:List Str} {k:Nat} (h:k < l.length) (hc:bU l[k]=false):nG l=false:=by
 have:l.all bU=false:=by
  rw [List.all_eq_false]
  exact ⟨l[k],List.getElem_mem h,by simp [hc]⟩
 simp [nG,this]
theorem bAm {l:List Str} (h:∀x∈l,bU x=true):nG l=decide ((l.length:Int)≤4):=by
 have:l.all bU=true:=List.all_eq_true.2 h
 have h1:decide ((l.length:Int)≤4)=decide (l.length≤4):=by simp only [decide_eq_decide];omega
 rw [nG,this,h1,Bool.true_and]
theorem aBy [aB Tryz.prog] (l:List Str) (hs:szL dH l≤1099511627776):Ok Tryz.prog 189 [.sl .view 1 (l.map bX)] (.bool (nG l)):=by
 simp only [szL] at hs
 refine ent Tryz.mix Tryz.func189 Tryz.ntmps189 ?_
 refine aW ?_
 refine aR (ι:={k:Nat // k≤l.length∧∀x∈l.take k,bU x=true}) (fun t o i=>⟨aS t [(3,.int .i64 i.1)],o⟩)
  (fun i=>l.length - i.1) ⟨0,by simp,by simp⟩ aO ?_
 rintro ⟨k,hk,hi⟩ K1 hK1
 simp only [aS,List.set_cons_succ,List.set_cons_zero] at hK1⊢
 have hk1:=wk1 (k:=k) (by omega)
 by_cases hlt:k < l.length
 ·have hg:=List.getElem?_eq_getElem hlt
  have hel:=fM dH l k hlt
  simp only [dH] at hel
  have c1:=dW l[k] (by omega)
  generalize hb:bU l[k]=b at *
  cases b
  ·have W:=And.intro hk1 (And.intro hg hlt)
   refine we ?_
   rw [bCv hlt hb]
   all_goals (try (refine ⟨.inr rfl,?_⟩;simp [Hands,Tryz.results189]))
  ·have W:=And.intro hk1 (And.intro hg hlt)
   refine we ?_
   exact hK1 _ ⟨k+1,by omega,dK hlt hi hb⟩ aO (by simp only;omega)
 ·have W:=hk1
  refine we ?_
  rw [bAm (iQ (by omega) hi)]
  all_goals (try (refine ⟨.inr rfl,?_⟩;simp [Hands,Tryz.results189]))
theorem aMd [aB Tryz.prog] (p:dU) (hs:dX p≤1099511627776):Ok Tryz.prog 165 [.agg (bY .view p)] (.bool (yA p)):=by
 simp only [dX] at hs
 have c1:=aBy p.scripts (by omega)
 have c2:=aBy p.styles (by omega)
 have c3:=aBy p.images (by omega)
 have c4:=uS p.nonce (by omega)
 have l1:(p.scripts == [])=decide ((p.scripts.length:Int)=0):=by cases p.scripts<;>simp<;>omega
 have l2:(p.styles == [])=decide ((p.styles.length:Int)=0):=by cases p.styles<;>simp<;>omega
 have l3:(p.images == [])=decide ((p.images.length:Int)=0):=by cases p.images<;>simp<;>omega
 unfold yA
 rw [l1,l2,l3]
 generalize nG p.scripts=b1 at *
 generalize nG p.styles=b2 at *
 generalize nG p.images=b3 at *
 generalize gG p.nonce=b4 at *
 generalize hb:p.isSet=b at *
 cases b
 ·refine ent Tryz.mix Tryz.func165 Tryz.ntmps165 ?_
  have W:=hb
  repeat' first|refine st ?_|(refine nx ?_;first|refine se ?_|refine so ?_)|(refine cx ?_;refine sc (fun hc=>?_) (fun hc=>?_)<;>try exact hc.elim)|(refine lx ?_;refine sp (fun hc=>?_) (fun hc=>?_)<;>try exact hc.elim)|refine sx ?_ ?_|refine sy ?_ ?_|fail
  all_goals (try (refine ⟨.inr rfl,?_⟩;simp [Hands,Tryz.results165,hb]))
  all_goals simp_all
 ·refine ent Tryz.mix Tryz.func165 Tryz.ntmps165 ?_
  have W:=hb
  repeat' first|refine st ?_|(refine nx ?_;first|refine se ?_|refine so ?_)|(refine cx ?_;refine sc (fun hc=>?_) (fun hc=>?_)<;>try exact hc.elim)|(refine lx ?_;refine sp (fun hc=>?_) (fun hc=>?_)<;>try exact hc.elim)|refine sx ?_ ?_|refine sy ?_ ?_|fail
  all_goals (try (refine ⟨.inr rfl,?_⟩;simp [Hands,Tryz.results165,hb]))
  all_goals simp_all
theorem aY0 (w:Str) (l:List Str) (x:Str):words w (l++[x])=words w l++32::x:=by
 unfold words
 rw [Lib.join_cons,Lib.join_cons]
 simp [Lib.joinTail]
theorem bBf (w:Str):words w []=w:=by simp [words,Lib.join_one]
theorem aB9 (w:Str) (l:List Str):(words w l).length=w.length+l.length+aK dH l:=by
 unfold words
 rw [Lib.join_cons]
 unfold Lib.joinTail
 have:∀l:List Str,((l.map (([32]:Str)++ ·)).flatten).length=l.length+aK dH l:=by
  intro l
  induction l with
  |nil=>simp [aK]
  |cons x l ih=>simp only [List.map_cons,List.flatten_cons,List.length_append,ih,aK,dH,List.length_cons,List.length_nil];omega
 rw [List.length_append,this];omega
theorem aE6 [aB Tryz.prog] (w:Str) (l:List Str) (hs:w.length+szL dH l≤1099511627776):Ok Tryz.prog 166 [.str w,.sl .view 1 (l.map bX)] (.str (words w l)):=by
 simp only [szL] at hs
 refine ent Tryz.mix Tryz.func166 Tryz.ntmps166 ?_
 refine aW ?_
 refine aR (ι:={k:Nat // k≤l.length}) (fun t o i=>⟨aS t [(5,.int .i64 i.1),(0,.str (words w (l.take i.1)))],o⟩)
  (fun i=>l.length - i.1) ⟨0,by simp⟩ (aO (by simp) (by simp [bBf])) ?_
 rintro ⟨k,hk⟩ K1 hK1
 simp only [aS,List.set_cons_succ,List.set_cons_zero] at hK1⊢
 have hk1:=wk1 (k:=k) (by omega)
 by_cases hlt:k < l.length
 ·have hg:=List.getElem?_eq_getElem hlt
  have hel:=fM dH l k hlt
  simp only [dH] at hel
  have hw:=aB9 w (l.take k)
  have hts:=aBi dH l k
  have htl:(l.take k).length≤l.length:=by simp;omega
  have e:l.take (k+1)=l.take k++[l[k]]:=by rw [List.take_add_one,hg];rfl
  have e2:=aY0 w (l.take k) l[k]
  rw [←e] at e2
  generalize words w (l.take k)=q at *
  have W:=And.intro hk1 (And.intro hg hlt)
  refine we ?_
  exact hK1 _ ⟨k+1,by omega⟩ (aO (by simp) (by simp [e2])) (by simp only;omega)
 ·have htk:l.take k=l:=List.take_of_length_le (by omega)
  rw [htk]
  have W:=hk1
  refine we ?_
  exact aM Tryz.results166
theorem aGp {l:List Str} (h:nG l=true):l.length≤4∧aK dH l≤32:=by
 simp only [nG,Bool.and_eq_true,decide_eq_true_eq,List.all_eq_true] at h
 have key:∀l:List Str,(∀x∈l,bU x=true)→aK dH l≤8 * l.length:=by
  intro l
  induction l with
  |nil=>intro _;simp [aK]
  |cons x l ih=>
   intro hl
   have h1:=hl x (by simp)
   simp only [bU,Bool.and_eq_true,decide_eq_true_eq] at h1
   have:=ih fun y hy=>hl y (by simp [hy])
   simp only [aK,dH,List.length_cons]
   omega
 have:=key l h.1
 exact ⟨h.2,by omega⟩
theorem aZ1 {s:Str} (h:(s == [])=true∨gG s=true):s.length≤20:=by
 rcases h with h|h
 ·simp only [beq_iff_eq] at h;simp [h]
 ·simp only [gG,Bool.and_eq_true,decide_eq_true_eq] at h;exact h.2.2
theorem aW6 {p:dU} (h:yA p=true) (hs:p.isSet=true):(words wP p.scripts).length≤42∧(words zV p.styles).length≤41∧(words aGd p.images).length≤39∧p.nonce.length≤20:=by
 simp only [yA,hs,if_true,Bool.and_eq_true,Bool.or_eq_true] at h
 obtain ⟨⟨⟨h1,h2⟩,h3⟩,h4⟩:=h
 have k1:=aGp h1
 have k2:=aGp h2
 have k3:=aGp h3
 refine ⟨by rw [aB9];simp [wP];omega,by rw [aB9];simp [zV];omega,by rw [aB9];simp [aGd];omega,aZ1 h4⟩
theorem tF [aB Tryz.prog] (p:dU) (hs:dX p≤274877906944):Ok Tryz.prog 134 [.agg (bY .view p)] (.str (lY p)):=by
 have c0:=aMd p (by omega)
 simp only [bY] at c0
 have hq:= @aW6 p
 simp only [dX] at hs
 have c1:Ok Tryz.prog 166 [.str [115,99,114,105,112,116],.sl .view 1 (p.scripts.map bX)] (.str (words wP p.scripts)):=aE6 wP p.scripts (by simp [wP];omega)
 have c2:Ok Tryz.prog 166 [.str [115,116,121,108,101],.sl .view 1 (p.styles.map bX)] (.str (words zV p.styles)):=aE6 zV p.styles (by simp [zV];omega)
 have c3:Ok Tryz.prog 166 [.str [105,109,103],.sl .view 1 (p.images.map bX)] (.str (words aGd p.images)):=aE6 aGd p.images (by simp [aGd];omega)
 unfold lY
 by_cases h1:yA p=true
 ·by_cases h2:p.isSet=true
  ·obtain ⟨k1,k2,k3,k4⟩:=hq h1 h2
   rw [if_pos ⟨h1,h2⟩]
   unfold aMa
   rw [h1,h2] at c0
   generalize words wP p.scripts=q1 at *
   generalize words zV p.styles=q2 at *
   generalize words aGd p.images=q3 at *
   by_cases hn:p.nonce=[]
   ·rw [if_pos hn]
    rw [hn] at c0
    refine ent Tryz.mix Tryz.func134 Tryz.ntmps134 ?_
    have W:=And.intro h2 hn
    have V:=And.intro h2 hn
    repeat' first|refine st ?_|(refine nx ?_;first|refine se ?_|refine so ?_)|(refine cx ?_;first|refine sT ?_|refine sF ?_)|fail
    all_goals (try (refine ⟨.inr rfl,?_⟩;simp [Hands,Tryz.results134,h2,hn]))
   ·rw [if_neg hn]
    refine ent Tryz.mix Tryz.func134 Tryz.ntmps134 ?_
    have W:=And.intro h2 hn
    have V:=And.intro h2 hn
    repeat' first|refine st ?_|(refine nx ?_;first|refine se ?_|refine so ?_)|(refine cx ?_;refine sc (fun hc=>?_) (fun hc=>?_)<;>try exact hc.elim)|(refine lx ?_;refine sp (fun hc=>?_) (fun hc=>?_)<;>try exact hc.elim)|refine sx ?_ ?_|refine sy ?_ ?_|fail
    all_goals (try (refine ⟨.inr rfl,?_⟩;simp [Hands,Tryz.results134,h2,hn,aQ6]))
    all_goals (exact absurd (by assumption) hn)
  ·rw [if_neg (fun h=>h2 h.2)]
   simp only [Bool.not_eq_true] at h2
   rw [h1,h2] at c0
   refine ent Tryz.mix Tryz.func134 Tryz.ntmps134 ?_
   have W:=h2
   have V:=h2
   repeat' first|refine st ?_|(refine nx ?_;first|refine se ?_|refine so ?_)|(refine cx ?_;first|refine sT ?_|refine sF ?_)|fail
   exact aM Tryz.results134
 ·rw [if_neg (fun h=>h1 h.1)]
  simp only [Bool.not_eq_true] at h1
  rw [h1] at c0
  refine ent Tryz.mix Tryz.func134 Tryz.ntmps134 ?_
  refine aW ?_
  exact aM Tryz.results134
theorem aG4 (c:UInt8):∀s:Str,aK dH (bF c s)≤s.length
 |[]=>by simp [bF,aK,dH]
 |x::s=>by
  have ih:=aG4 c s
  simp only [bF]
  split
  ·simp only [aK,dH,List.length_nil,List.length_cons] at ih⊢;omega
  ·split
   ·rename_i h0;exact absurd h0 (pR c s)
   ·rename_i p q h0
    rw [h0] at ih
    simp only [aK,dH,List.length_cons] at ih⊢;omega
theorem bDb (c:UInt8) (s:Str):szL dH (bF c s)≤2 * s.length+1:=by
 have h1:=aG4 c s
 have h2:=jO c s
 have h3:=List.count_le_length (a:=c) (l:=s)
 simp only [szL];omega
theorem aEb (c:UInt8) (s:Str):szL dH (bF c s).tail≤2 * s.length+1:=by
 have h:=bDb c s
 cases hs:bF c s with
 |nil=>exact absurd hs (pR c s)
 |cons x l=>rw [hs] at h;simp only [szL,aK,List.length_cons,List.tail_cons] at h⊢;omega
theorem tT {c:UInt8} {s x:Str} (h:x∈bF c s):x.length≤s.length:=by
 have h1:=aG4 c s
 have h2:=dL dH h
 simp only [dH] at h2;omega
theorem aIr (f:Str→Str) {s x0 x1 x2:Str} {r:List Str} (h:bF 59 s=x0::x1::x2::r):tJ f s=⟨true,(bF 32 x0).tail,(bF 32 x1).tail,(bF 32 x2).tail,match r[0]? with|some x=>f x|none=>[]⟩:=by
 unfold tJ
 rw [h]
 rfl
theorem aLg (f:Str→Str) (hf:∀x,(f x).length≤x.length) {s:Str} (h:¬(bF 59 s).length < 3):dX (tJ f s)≤7 * s.length+3:=by
 match hs:bF 59 s with
 |[]=>rw [hs] at h;simp at h
 |[_]=>rw [hs] at h;simp at h
 |[_,_]=>rw [hs] at h;simp at h
 |x0::x1::x2::r=>
  rw [aIr f hs]
  have h0:=tT (c:=59) (s:=s) (x:=x0) (by rw [hs];simp)
  have h1:=tT (c:=59) (s:=s) (x:=x1) (by rw [hs];simp)
  have h2:=tT (c:=59) (s:=s) (x:=x2) (by rw [hs];simp)
  have k0:=aEb 32 x0
  have k1:=aEb 32 x1
  have k2:=aEb 32 x2
  simp only [dX]
  cases r with
  |nil=>simp;omega
  |cons x r=>
   have h3:=tT (c:=59) (s:=s) (x:=x) (by rw [hs];simp)
   have:=hf x
   simp only [List.getElem?_cons_zero];omega
theorem aOw (x:Str):(mZ x).length≤x.length:=by unfold mZ;split<;>simp
theorem yX [aB Tryz.prog] (s:Str) (c:UInt8) (hl:s.length≤1099511627776):Ok Tryz.prog 65 [.str s,.int .u8 c.toNat] (.sl .view 1 ((bF c s).map bX)):=(sO s c hl).vwas (by simp [rt])
theorem zZ [aB Tryz.prog] (s:Str) (hl:s.length≤1073741824):Ok Tryz.prog 168 [.str s] (.tup [.agg (bY .view (aA7 mZ s).1),.bool (aA7 mZ s).2]):=by
 have z1:Ok Tryz.prog 168 [.str []] (.tup [.agg [.bool false,.sl .own 1 [],.sl .own 1 [],.sl .own 1 [],.str []],.bool true]):=by
  refine aC6 Tryz.mix Tryz.func168 Tryz.ntmps168 ?_
  refine aW ?_
  all_goals (try (first|(refine ⟨.inr rfl,.inl ?_⟩;simp [jA,Tryz.results168];done)|(refine ⟨.inr rfl,.inr (nN ?_)⟩;simp [AS.rvB,AS.rvs,AS.rv,Tryz.results168];done)|(refine ⟨.inr rfl,.inl ?_⟩;simp [jA,Tryz.results168])))
 have c0:Ok Tryz.prog 65 [.str s,.int .u8 59] (.sl .view 1 ((bF 59 s).map bX)):=yX s 59 (by omega)
 unfold aA7
 by_cases h0:s=[]
 ·rw [if_pos h0]
  subst h0
  exact z1.vwas (by simp [rt,rtc,sD])
 rw [if_neg h0]
 by_cases h3:(bF 59 s).length < 3
 ·rw [if_pos h3]
  have z2:Ok Tryz.prog 168 [.str s] (.tup [.agg [.bool false,.sl .own 1 [],.sl .own 1 [],.sl .own 1 [],.str []],.bool false]):=by
   have h3':((bF 59 s).length:Int) < 3:=by omega
   generalize bF 59 s=L at *
   refine aC6 Tryz.mix Tryz.func168 Tryz.ntmps168 ?_
   have W:=And.intro h0 (And.intro h3' h3)
   have V:=h0
   repeat' first|refine st ?_|(refine nx ?_;first|refine se ?_|refine so ?_)|(refine cx ?_;refine sc (fun hc=>?_) (fun hc=>?_)<;>try exact hc.elim)|(refine lx ?_;refine sp (fun hc=>?_) (fun hc=>?_)<;>try exact hc.elim)|refine sx ?_ ?_|refine sy ?_ ?_|fail
   all_goals (try (first|(refine ⟨.inr rfl,.inl ?_⟩;simp [jA,Tryz.results168];done)|(refine ⟨.inr rfl,.inr (nN ?_)⟩;simp [AS.rvB,AS.rvs,AS.rv,Tryz.results168];done)|(refine ⟨.inr rfl,.inl ?_⟩;simp [jA,Tryz.results168])))
   all_goals exact absurd (by assumption) h0
  exact z2.vwas (by simp [rt,rtc,sD])
 rw [if_neg h3]
 have hz:=aLg mZ aOw h3
 have cf:=tF (tJ mZ s) (by omega)
 obtain ⟨x0,x1,x2,r,hs⟩:∃x0 x1 x2 r,bF 59 s=x0::x1::x2::r:=by
  match hs:bF 59 s with
  |[]=>rw [hs] at h3;simp at h3
  |[_]=>rw [hs] at h3;simp at h3
  |[_,_]=>rw [hs] at h3;simp at h3
  |x0::x1::x2::r=>exact ⟨x0,x1,x2,r,rfl⟩
 have m0:=tT (c:=59) (s:=s) (x:=x0) (by rw [hs];simp)
 have m1:=tT (c:=59) (s:=s) (x:=x1) (by rw [hs];simp)
 have m2:=tT (c:=59) (s:=s) (x:=x2) (by rw [hs];simp)
 have hrl:r.length≤s.length:=by
  have:=jO 59 s
  have h3:=List.count_le_length (a:=(59:UInt8)) (l:=s)
  rw [hs] at this;simp at this;omega
 rw [hs] at c0
 have e:=aIr mZ hs
 have c1:Ok Tryz.prog 65 [.str x0,.int .u8 32] (.sl .view 1 ((bF 32 x0).map bX)):=yX x0 32 (by omega)
 have c2:Ok Tryz.prog 65 [.str x1,.int .u8 32] (.sl .view 1 ((bF 32 x1).map bX)):=yX x1 32 (by omega)
 have c3:Ok Tryz.prog 65 [.str x2,.int .u8 32] (.sl .view 1 ((bF 32 x2).map bX)):=yX x2 32 (by omega)
 obtain ⟨y0,t0,e0⟩:=List.exists_cons_of_ne_nil (pR 32 x0)
 obtain ⟨y1,t1,e1⟩:=List.exists_cons_of_ne_nil (pR 32 x1)
 obtain ⟨y2,t2,e2⟩:=List.exists_cons_of_ne_nil (pR 32 x2)
 rw [e0] at c1;rw [e1] at c2;rw [e2] at c3
 rw [e0,e1,e2] at e
 simp only [List.tail_cons] at e
 clear hs m0 m1 m2 e0 e1 e2 h3 hz
 have tk:∀(t:List Str),(t.map bX).take t.length=t.map bX:=fun t=>List.take_of_length_le (by simp)
 have key:∀(n:Str),tJ mZ s=⟨true,t0,t1,t2,n⟩→∀b,decide (lY (tJ mZ s)=s)=b→Ok Tryz.prog 134 [.agg [.bool true,.sl .view 1 (t0.map bX),.sl .view 1 (t1.map bX),.sl .view 1 (t2.map bX),.str n]] (.str (lY (tJ mZ s))):=by
  intro n hn b _
  rw [hn] at cf⊢
  simpa only [bY] using cf
 have hres:∀n,tJ mZ s=⟨true,t0,t1,t2,n⟩→(Ok Tryz.prog 134 [.agg [.bool true,.sl .view 1 (t0.map bX),.sl .view 1 (t1.map bX),.sl .view 1 (t2.map bX),.str n]] (.str (lY (tJ mZ s))))→
   Ok Tryz.prog 168 [.str s] (if lY (tJ mZ s)=s then .tup [.agg [.bool true,.sl .view 1 (t0.map bX),.sl .view 1 (t1.map bX),.sl .view 1 (t2.map bX),.str n],.bool true] else .tup [.agg [.bool false,.sl .own 1 [],.sl .own 1 [],.sl .own 1 [],.str []],.bool false]):=by
  intro n hn cF
  rw [e] at hn
  simp only [dU.mk.injEq,true_and] at hn
  subst hn
  generalize lY (tJ mZ s)=F at *
  cases r with
  |nil=>
   simp only [List.getElem?_nil] at cF⊢
   by_cases hF:F=s
   ·rw [if_pos hF]
    refine aC6 Tryz.mix Tryz.func168 Tryz.ntmps168 ?_
    have W:=And.intro h0 (And.intro hF tk)
    have V:=And.intro h0 tk
    repeat' first|refine st ?_|(refine nx ?_;first|refine se ?_|refine so ?_)|(refine cx ?_;refine sc (fun hc=>?_) (fun hc=>?_)<;>try exact hc.elim)|(refine lx ?_;refine sp (fun hc=>?_) (fun hc=>?_)<;>try exact hc.elim)|refine sx ?_ ?_|refine sy ?_ ?_|fail
    all_goals (try (first|(refine ⟨.inr rfl,.inl ?_⟩;simp [jA,Tryz.results168];done)|(refine ⟨.inr rfl,.inr (nN ?_)⟩;simp [AS.rvB,AS.rvs,AS.rv,Tryz.results168];done)|(refine ⟨.inr rfl,.inl ?_⟩;simp [jA,Tryz.results168])))
    all_goals first|exact absurd (by assumption) h0|omega|simp_all
   ·rw [if_neg hF]
    refine aC6 Tryz.mix Tryz.func168 Tryz.ntmps168 ?_
    have W:=And.intro h0 (And.intro hF tk)
    have V:=And.intro h0 tk
    repeat' first|refine st ?_|(refine nx ?_;first|refine se ?_|refine so ?_)|(refine cx ?_;refine sc (fun hc=>?_) (fun hc=>?_)<;>try exact hc.elim)|(refine lx ?_;refine sp (fun hc=>?_) (fun hc=>?_)<;>try exact hc.elim)|refine sx ?_ ?_|refine sy ?_ ?_|fail
    all_goals (try (first|(refine ⟨.inr rfl,.inl ?_⟩;simp [jA,Tryz.results168];done)|(refine ⟨.inr rfl,.inr (nN ?_)⟩;simp [AS.rvB,AS.rvs,AS.rv,Tryz.results168];done)|(refine ⟨.inr rfl,.inl ?_⟩;simp [jA,Tryz.results168])))
    all_goals first|exact absurd (by assumption) h0|omega|simp_all
  |cons x r=>
   simp only [List.getElem?_cons_zero] at cF⊢
   unfold mZ at cF⊢
   by_cases hx:6 < x.length
   ·rw [if_pos hx] at cF⊢
    by_cases hF:F=s
    ·rw [if_pos hF]
     refine aC6 Tryz.mix Tryz.func168 Tryz.ntmps168 ?_
     have W:=And.intro h0 (And.intro hF (And.intro hx tk))
     have V:=And.intro h0 tk
     repeat' first|refine st ?_|(refine nx ?_;first|refine se ?_|refine so ?_)|(refine cx ?_;refine sc (fun hc=>?_) (fun hc=>?_)<;>try exact hc.elim)|(refine lx ?_;refine sp (fun hc=>?_) (fun hc=>?_)<;>try exact hc.elim)|refine sx ?_ ?_|refine sy ?_ ?_|fail
     all_goals (try (first|(refine ⟨.inr rfl,.inl ?_⟩;simp [jA,Tryz.results168];done)|(refine ⟨.inr rfl,.inr (nN ?_)⟩;simp [AS.rvB,AS.rvs,AS.rv,Tryz.results168];done)|(refine ⟨.inr rfl,.inl ?_⟩;simp [jA,Tryz.results168])))
     all_goals first|exact absurd (by assumption) h0|omega|simp_all
    ·rw [if_neg hF]
     refine aC6 Tryz.mix Tryz.func168 Tryz.ntmps168 ?_
     have W:=And.intro h0 (And.intro hF (And.intro hx tk))
     have V:=And.intro h0 tk
     repeat' first|refine st ?_|(refine nx ?_;first|refine se ?_|refine so ?_)|(refine cx ?_;refine sc (fun hc=>?_) (fun hc=>?_)<;>try exact hc.elim)|(refine lx ?_;refine sp (fun hc=>?_) (fun hc=>?_)<;>try exact hc.elim)|refine sx ?_ ?_|refine sy ?_ ?_|fail
     all_goals (try (first|(refine ⟨.inr rfl,.inl ?_⟩;simp [jA,Tryz.results168];done)|(refine ⟨.inr rfl,.inr (nN ?_)⟩;simp [AS.rvB,AS.rvs,AS.rv,Tryz.results168];done)|(refine ⟨.inr rfl,.inl ?_⟩;simp [jA,Tryz.results168])))
     all_goals first|exact absurd (by assumption) h0|omega|simp_all
   ·rw [if_neg hx] at cF⊢
    by_cases hF:F=s
    ·rw [if_pos hF]
     refine aC6 Tryz.mix Tryz.func168 Tryz.ntmps168 ?_
     have W:=And.intro h0 (And.intro hF (And.intro hx tk))
     have V:=And.intro h0 tk
     repeat' first|refine st ?_|(refine nx ?_;first|refine se ?_|refine so ?_)|(refine cx ?_;refine sc (fun hc=>?_) (fun hc=>?_)<;>try exact hc.elim)|(refine lx ?_;refine sp (fun hc=>?_) (fun hc=>?_)<;>try exact hc.elim)|refine sx ?_ ?_|refine sy ?_ ?_|fail
     all_goals (try (first|(refine ⟨.inr rfl,.inl ?_⟩;simp [jA,Tryz.results168];done)|(refine ⟨.inr rfl,.inr (nN ?_)⟩;simp [AS.rvB,AS.rvs,AS.rv,Tryz.results168];done)|(refine ⟨.inr rfl,.inl ?_⟩;simp [jA,Tryz.results168])))
     all_goals first|exact absurd (by assumption) h0|omega|simp_all
    ·rw [if_neg hF]
     refine aC6 Tryz.mix Tryz.func168 Tryz.ntmps168 ?_
     have W:=And.intro h0 (And.intro hF (And.intro hx tk))
     have V:=And.intro h0 tk
     repeat' first|refine st ?_|(refine nx ?_;first|refine se ?_|refine so ?_)|(refine cx ?_;refine sc (fun hc=>?_) (fun hc=>?_)<;>try exact hc.elim)|(refine lx ?_;refine sp (fun hc=>?_) (fun hc=>?_)<;>try exact hc.elim)|refine sx ?_ ?_|refine sy ?_ ?_|fail
     all_goals (try (first|(refine ⟨.inr rfl,.inl ?_⟩;simp [jA,Tryz.results168];done)|(refine ⟨.inr rfl,.inr (nN ?_)⟩;simp [AS.rvB,AS.rvs,AS.rv,Tryz.results168];done)|(refine ⟨.inr rfl,.inl ?_⟩;simp [jA,Tryz.results168])))
     all_goals first|exact absurd (by assumption) h0|omega|simp_all
 have:=hres _ e (key _ e _ rfl)
 by_cases hF:lY (tJ mZ s)=s
 ·rw [if_pos hF] at this⊢
  rw [e]
  exact this.vwas (by simp [rt,rtc])
 ·rw [if_neg hF] at this⊢
  exact this.vwas (by simp [rt,rtc,sD])
end Go.Proofs.YtaddkhdghlaalaaGreatDoor
