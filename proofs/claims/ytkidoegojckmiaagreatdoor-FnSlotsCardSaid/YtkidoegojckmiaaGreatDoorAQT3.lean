/-
  Proved here: steps towards the statement of this claim, text QT3.
  No condition beyond what each statement spells out.
-/
import Derived.Test.YtkidoegojckmiaaGreatDoorAQT1
import Derived.Test.YtkidoegojckmiaaGreatDoorAQJ6
set_option linter.all false
set_option maxRecDepth 4000
set_option maxHeartbeats 4000000
namespace Go.Proofs.YtkidoegojckmiaaGreatDoor
open Go.Aw
def rD (p:Str):Str:=p.take (ixB 58 p)
def lU (p:Str):Str:=p.drop (ixB 58 p+1)
def jA (p:Str):Option nN:=match jI (lU p) with
 |some v=>if bL (rD p)=true∧1≤v∧v≤999 then some ⟨rD p,v⟩ else none
 |none=>none
def dV (l:List Str):List nN:=(l.filterMap jA).take 8
def iR (s:Str):iL:=⟨dV (aT 59 s)⟩
theorem vL {p:Str} (h:jI (lU p)=none):jA p=none:=by rw [jA,h]
theorem aB5 {p:Str} (h:bL (rD p)=false):jA p=none:=by
 unfold jA
 split
 ·rw [if_neg (by simp [h])]
 ·rfl
theorem aEq {p:Str} {v:Int} (h:jI (lU p)=some v) (h1:¬(1≤v∧v≤999)):jA p=none:=by
 rw [jA,h];exact if_neg (fun h=>h1 h.2)
theorem aEu {p:Str} {v:Int} (h:jI (lU p)=some v) (hn:bL (rD p)=true) (h1:1≤v∧v≤999):jA p=some ⟨rD p,v⟩:=by
 rw [jA,h];exact if_pos ⟨hn,h1⟩
theorem aD5 {l:List Str} {k:Nat} (h:k < l.length) (hr:jA l[k]=none):dV (l.take (k+1))=dV (l.take k):=by
 unfold dV
 rw [List.take_succ_eq_append_getElem h,List.filterMap_append]
 simp [hr]
theorem aEv {l:List Str} {k:Nat} {r:nN} (h:k < l.length) (hr:jA l[k]=some r) (h8:(dV (l.take k)).length < 8):dV (l.take (k+1))=dV (l.take k)++[r]:=by
 unfold dV at *
 rw [List.take_succ_eq_append_getElem h,List.filterMap_append]
 simp only [List.length_take] at h8
 simp only [List.filterMap_cons,hr,List.filterMap_nil]
 generalize (l.take k).filterMap jA=x at *
 rw [List.take_of_length_le (l:=x++[r]) (by simp;omega),List.take_of_length_le (l:=x) (by omega)]
theorem aDe {l:List Str} {k:Nat} (h8:¬(dV (l.take k)).length < 8):dV l=dV (l.take k):=by
 unfold dV at *
 conv=>lhs;rw [←List.take_append_drop k l,List.filterMap_append]
 simp only [List.length_take] at h8
 rw [List.take_append_of_le_length (by omega)]
theorem aLj {l:List Str} {k:Nat} (h8:¬(dV (l.take k)).length < 8):dV (l.take (k+1))=dV (l.take k):=by
 have:= @aDe (l.take (k+1)) k
 rw [List.take_take,Nat.min_eq_left (by omega)] at this
 exact this h8
theorem aI4 (l:List Str):(dV l).length≤8:=by unfold dV;simp;omega
theorem aM7 {p:Str} {x:UInt8} (hx:x∈lU p) (h:x=58):jI (lU p)=none:=by
 obtain ⟨k,hk,e⟩:=List.mem_iff_getElem.1 hx
 refine aJc hk ?_
 rw [e,h];decide
theorem aVg (p:Str):(aT 58 p=[rD p,lU p])∨((aT 58 p).length≠2∧jA p=none):=by
 rw [mR]
 by_cases h:ixB 58 p < p.length
 ·rw [if_pos h]
  by_cases h2:∀x∈lU p,x≠58
  ·left
   rw [show p.drop (ixB 58 p+1)=lU p from rfl,oN _ _ h2];rfl
  ·right
   have ⟨x,hx⟩:=Classical.not_forall.1 h2
   have ⟨hm,hne⟩:=Classical.not_imp.1 hx
   have hx58:=Classical.not_not.1 hne
   refine ⟨?_,vL (aM7 hm hx58)⟩
   rw [show p.drop (ixB 58 p+1)=lU p from rfl,List.length_cons,fV]
   have:0 < (lU p).count 58:=List.count_pos_iff.2 (hx58▸hm)
   omega
 ·right
  rw [if_neg h]
  refine ⟨by simp,vL ?_⟩
  have e:lU p=[]:=by
   unfold lU
   exact List.drop_eq_nil_of_le (by omega)
  rw [e]
  exact aG1 (by simp)
theorem aBu [aB Tryz.prog] [bV Tryz.prog] [eG Tryz.prog] [uQ Tryz.prog] (s:Str) (hl:s.length≤1073741824):Ok Tryz.prog 49 [.str s] (.agg (bY .own (iR s))):=by
 have cS:=aPa s 59 (by omega)
 have hsm:=sI 59 s
 have hsl:=fV 59 s
 have hcn:s.count 59≤s.length:=List.count_le_length
 unfold iR
 generalize aT 59 s=l at *
 have hll:l.length≤1073741825:=by omega
 simp only [bY]
 refine ent Tryz.mix Tryz.func49 Tryz.ntmps49 ?_
 have W:=trivial
 repeat' first|refine st ?_|(refine nx ?_;first|refine se ?_|refine so ?_)|(refine cx ?_;refine sc (fun hc=>?_) (fun hc=>?_)<;>try exact hc.elim)|(refine lx ?_;refine sp (fun hc=>?_) (fun hc=>?_)<;>try exact hc.elim)|refine sx ?_ ?_|refine sy ?_ ?_|fail
 refine aJ (ι:={q:Nat×Nat×List nN // (q.1≤l.length∧1≤q.2.1)∧q.2.2=dV (l.take q.1)}) (fun t o i=>⟨aL t [(15,.int .i64 i.1.1),(11,.undef)],o.take 1++[⟨true,true,1,0,[[.obj 3 i.1.2.1]]⟩,⟨true,false,1,1,l.map aK⟩,⟨true,false,2,i.1.2.1,i.1.2.2.map jJ⟩]⟩)
  (fun i=>l.length - i.1.1) ⟨(0,1,[]),by simp,by simp [dV]⟩ (nR 1 0 0 (ob:=⟨true,true,1,0,[[.sl .own 2 []]]⟩) (by rfl) (by rfl) (by rfl) (by simp) (by rfl) (by rfl) (by simp) (by simp [rtc,rt,dW])) ?_
 rintro ⟨⟨k,v,acc⟩,⟨hk,hv⟩,hacc⟩ K1 hK1
 simp only at hk hv hacc
 simp only [aL,List.set_cons_succ,List.set_cons_zero,List.take_succ_cons,List.take_zero,List.cons_append,List.nil_append] at hK1⊢
 have hk1:IntKind.i64.wrap ((k:Int)+1)=((k+1:Nat):Int):=by rw [wrap64]<;>omega
 by_cases hlt:k < l.length
 ·have hg:=List.getElem?_eq_getElem hlt
  have hwz:=dJ bU l k hlt
  simp only [bU] at hwz
  have cC:=aHr l[k] 58 (by omega)
  have cN:=mM (rD l[k]) (by simp [rD];omega)
  have cP:=aEn (lU l[k]) (by simp [lU];omega)
  change Ok _ _ _ (.tup [.str (rD l[k]),.str (lU l[k]),.bool (decide (ixB 58 l[k] < l[k].length))]) at cC
  have n1:= @aD5 l k hlt
  have n2:=fun r=> @aEv l k r hlt
  have n3:= @aLj l k
  have r1:= @vL l[k]
  have r2:= @aB5 l[k]
  have r3:=fun v=> @aEq l[k] v
  have r4:=fun v=> @aEu l[k] v
  have ha8:=aI4 (l.take k)
  rw [←hacc] at n1 n2 n3 ha8
  generalize hE2:dV (l.take (k+1))=acc2 at *
  generalize hrl:jA l[k]=ru at *
  generalize decide (ixB 58 l[k] < l[k].length)=b1 at *
  generalize rD l[k]=ky at *
  generalize lU l[k]=vl at *
  cases hp:jI vl with
  |none=>
   rw [kR hp] at cP
   have e2:=n1 (r1 hp)
   clear r1 r2 r3 r4 n1 n2 n3
   have W:=And.intro hk1 (And.intro hg hlt)
   repeat' first|refine st ?_|(refine nx ?_;first|refine se ?_|refine so ?_)|(refine cx ?_;refine sc (fun hc=>?_) (fun hc=>?_)<;>try exact hc.elim)|(refine lx ?_;refine sp (fun hc=>?_) (fun hc=>?_)<;>try exact hc.elim)|refine sx ?_ ?_|refine sy ?_ ?_|fail
   exact hK1 _ ⟨(k+1,v,acc),⟨by simp only;omega,hv⟩,(by simp only;rw [hE2];exact e2.symm)⟩ (aG 4 (by simp) (by simp) (by simp) (by simp)) (by simp only;omega)
  |some x=>
   rw [tF hp] at cP
   cases hn:bL ky with
   |false=>
    rw [hn] at cN
    have e2:=n1 (r2 hn)
    clear r1 r2 r3 r4 n1 n2 n3
    have W:=And.intro hk1 (And.intro hg hlt)
    repeat' first|refine st ?_|(refine nx ?_;first|refine se ?_|refine so ?_)|(refine cx ?_;refine sc (fun hc=>?_) (fun hc=>?_)<;>try exact hc.elim)|(refine lx ?_;refine sp (fun hc=>?_) (fun hc=>?_)<;>try exact hc.elim)|refine sx ?_ ?_|refine sy ?_ ?_|fail
    exact hK1 _ ⟨(k+1,v,acc),⟨by simp only;omega,hv⟩,(by simp only;rw [hE2];exact e2.symm)⟩ (aG 4 (by simp) (by simp) (by simp) (by simp)) (by simp only;omega)
   |true=>
    rw [hn] at cN
    have cR:=lW x 1 999
    by_cases hx:1≤x∧x≤999
    ·have hb:(decide ((1:Int)≤x)&&decide (x≤(999:Int)))=true:=by simp;omega
     rw [hb] at cR
     have hr:=r4 x hp hn hx
     by_cases h8:acc.length < 8
     ·have h8i:((acc.length:Int) < 8):=by omega
      have e2:=n2 _ hr h8
      clear r1 r2 r3 r4 n1 n2 n3
      have hps:acc2.map jJ=acc.map jJ++[jJ ⟨ky,x⟩]:=by rw [e2];simp
      have hgl:(acc.map jJ).length=acc.length:=by simp
      have W:=And.intro hk1 (And.intro hg (And.intro hlt h8i))
      repeat' first|refine st ?_|(refine nx ?_;first|refine se ?_|refine so ?_)|(refine cx ?_;refine sc (fun hc=>?_) (fun hc=>?_)<;>try exact hc.elim)|(refine lx ?_;refine sp (fun hc=>?_) (fun hc=>?_)<;>try exact hc.elim)|refine sx ?_ ?_|refine sy ?_ ?_|fail
      exact hK1 _ ⟨(k+1,v+1,acc2),⟨by simp only;omega,by simp only;omega⟩,(by simp only;exact hE2.symm)⟩ (aG 4 (by simp [hps]) (by simp) (by simp) (by simp)) (by simp only;omega)
     ·have h8i:¬((acc.length:Int) < 8):=by omega
      have e2:=n3 h8
      clear r1 r2 r3 r4 n1 n2 n3
      have W:=And.intro hk1 (And.intro hg (And.intro hlt h8i))
      repeat' first|refine st ?_|(refine nx ?_;first|refine se ?_|refine so ?_)|(refine cx ?_;refine sc (fun hc=>?_) (fun hc=>?_)<;>try exact hc.elim)|(refine lx ?_;refine sp (fun hc=>?_) (fun hc=>?_)<;>try exact hc.elim)|refine sx ?_ ?_|refine sy ?_ ?_|fail
      exact hK1 _ ⟨(k+1,v,acc),⟨by simp only;omega,hv⟩,(by simp only;rw [hE2];exact e2.symm)⟩ (aG 4 (by simp) (by simp) (by simp) (by simp)) (by simp only;omega)
    ·have hb:(decide ((1:Int)≤x)&&decide (x≤(999:Int)))=false:=by simp only [Bool.and_eq_false_iff,decide_eq_false_iff_not];omega
     rw [hb] at cR
     have e2:=n1 (r3 x hp hx)
     clear r1 r2 r3 r4 n1 n2 n3
     have W:=And.intro hk1 (And.intro hg hlt)
     repeat' first|refine st ?_|(refine nx ?_;first|refine se ?_|refine so ?_)|(refine cx ?_;refine sc (fun hc=>?_) (fun hc=>?_)<;>try exact hc.elim)|(refine lx ?_;refine sp (fun hc=>?_) (fun hc=>?_)<;>try exact hc.elim)|refine sx ?_ ?_|refine sy ?_ ?_|fail
     exact hK1 _ ⟨(k+1,v,acc),⟨by simp only;omega,hv⟩,(by simp only;rw [hE2];exact e2.symm)⟩ (aG 4 (by simp) (by simp) (by simp) (by simp)) (by simp only;omega)
 ·have htk:l.take k=l:=List.take_of_length_le (by omega)
  rw [htk] at hacc
  subst hacc
  have W:=hk1
  repeat' first|refine st ?_|(refine nx ?_;first|refine se ?_|refine so ?_)|(refine cx ?_;refine sc (fun hc=>?_) (fun hc=>?_)<;>try exact hc.elim)|(refine lx ?_;refine sp (fun hc=>?_) (fun hc=>?_)<;>try exact hc.elim)|refine sx ?_ ?_|refine sy ?_ ?_|fail
  all_goals (try (refine ⟨.inr rfl,?_⟩;simp [Hands,Tryz.results49]))
theorem aBr [aB Tryz.prog] [bV Tryz.prog] [eG Tryz.prog] (s:Str) (hl:s.length≤1073741824):Ok Tryz.prog 50 [.str s] (.agg (bY .own (iR s))):=by
 have cS:Ok Tryz.prog 85 [.str s,.int .u8 59] (.sl .own 1 ((aT 59 s).map aK)):=nU s 59 (by omega)
 have hsm:=sI 59 s
 have hsl:=fV 59 s
 have hcn:s.count 59≤s.length:=List.count_le_length
 unfold iR
 generalize aT 59 s=l at *
 have hll:l.length≤1073741825:=by omega
 simp only [bY]
 refine ent Tryz.mix Tryz.func50 Tryz.ntmps50 ?_
 have W:=trivial
 repeat' first|refine st ?_|(refine nx ?_;first|refine se ?_|refine so ?_)|(refine cx ?_;refine sc (fun hc=>?_) (fun hc=>?_)<;>try exact hc.elim)|(refine lx ?_;refine sp (fun hc=>?_) (fun hc=>?_)<;>try exact hc.elim)|refine sx ?_ ?_|refine sy ?_ ?_|fail
 refine aJ (ι:={q:Nat×Nat×List nN // (q.1≤l.length∧1≤q.2.1)∧q.2.2=dV (l.take q.1)}) (fun t o i=>⟨aL t [(5,.int .i64 i.1.1),(9,.undef)],o.take 1++[⟨true,true,1,0,[[.obj 3 i.1.2.1]]⟩,⟨true,false,1,1,l.map aK⟩,⟨true,false,2,i.1.2.1,i.1.2.2.map jJ⟩]⟩)
  (fun i=>l.length - i.1.1) ⟨(0,1,[]),by simp,by simp [dV]⟩ (nR 1 0 0 (ob:=⟨true,true,1,0,[[.sl .own 2 []]]⟩) (by rfl) (by rfl) (by rfl) (by simp) (by rfl) (by rfl) (by simp) (by simp [rtc,rt,dW])) ?_
 rintro ⟨⟨k,v,acc⟩,⟨hk,hv⟩,hacc⟩ K1 hK1
 simp only at hk hv hacc
 simp only [aL,List.set_cons_succ,List.set_cons_zero,List.take_succ_cons,List.take_zero,List.cons_append,List.nil_append] at hK1⊢
 have hk1:IntKind.i64.wrap ((k:Int)+1)=((k+1:Nat):Int):=by rw [wrap64]<;>omega
 have hgl:(acc.map jJ).length=acc.length:=by simp
 by_cases hlt:k < l.length
 ·have hg:=List.getElem?_eq_getElem hlt
  by_cases h8:acc.length < 8
  ·have h8i:((acc.length:Int) < 8):=by omega
   have hwz:=dJ bU l k hlt
   simp only [bU] at hwz
   have cC:Ok Tryz.prog 85 [.str l[k],.int .u8 58] (.sl .own 1 ((aT 58 l[k]).map aK)):=nU l[k] 58 (by omega)
   have cN:=gU (rD l[k]) (by simp [rD];omega)
   have cP:=aD3 (lU l[k]) (by simp [lU];omega)
   have n1:= @aD5 l k hlt
   have n2:=fun r=> @aEv l k r hlt
   have r1:= @vL l[k]
   have r2:= @aB5 l[k]
   have r3:=fun v=> @aEq l[k] v
   have r4:=fun v=> @aEu l[k] v
   have h2:=aVg l[k]
   have hsg:=fV 58 l[k]
   have hcg:l[k].count 58≤l[k].length:=List.count_le_length
   rw [←hacc] at n1 n2
   generalize hE2:dV (l.take (k+1))=acc2 at *
   generalize hrl:jA l[k]=ru at *
   generalize rD l[k]=ky at *
   generalize lU l[k]=vl at *
   generalize aT 58 l[k]=ps at *
   rcases h2 with h2|⟨h2,hr⟩
   ·subst h2
    simp only [List.map_cons,List.map_nil,aK] at cC
    cases hn:bL ky with
    |false=>
     rw [hn] at cN
     have e2:=n1 (r2 hn)
     clear r1 r2 r3 r4 n1 n2
     have W:=And.intro hk1 (And.intro hg (And.intro hlt h8i))
     repeat' first|refine st ?_|(refine nx ?_;first|refine se ?_|refine so ?_)|(refine cx ?_;refine sc (fun hc=>?_) (fun hc=>?_)<;>try exact hc.elim)|(refine lx ?_;refine sp (fun hc=>?_) (fun hc=>?_)<;>try exact hc.elim)|refine sx ?_ ?_|refine sy ?_ ?_|fail
     exact hK1 _ ⟨(k+1,v,acc),⟨by simp only;omega,hv⟩,(by simp only;rw [hE2];exact e2.symm)⟩ (aG 4 (by simp) (by simp) (by simp) (by simp)) (by simp only;omega)
    |true=>
     rw [hn] at cN
     cases hp:jI vl with
     |none=>
      rw [kR hp] at cP
      have e2:=n1 (r1 hp)
      clear r1 r2 r3 r4 n1 n2
      have W:=And.intro hk1 (And.intro hg (And.intro hlt h8i))
      repeat' first|refine st ?_|(refine nx ?_;first|refine se ?_|refine so ?_)|(refine cx ?_;refine sc (fun hc=>?_) (fun hc=>?_)<;>try exact hc.elim)|(refine lx ?_;refine sp (fun hc=>?_) (fun hc=>?_)<;>try exact hc.elim)|refine sx ?_ ?_|refine sy ?_ ?_|fail
      exact hK1 _ ⟨(k+1,v,acc),⟨by simp only;omega,hv⟩,(by simp only;rw [hE2];exact e2.symm)⟩ (aG 4 (by simp) (by simp) (by simp) (by simp)) (by simp only;omega)
     |some x=>
      rw [tF hp] at cP
      have cR:=gH x 1 999
      by_cases hx:1≤x∧x≤999
      ·have hb:(decide ((1:Int)≤x)&&decide (x≤(999:Int)))=true:=by simp;omega
       rw [hb] at cR
       have e2:=n2 _ (r4 x hp hn hx) h8
       clear r1 r2 r3 r4 n1 n2
       have hps:acc2.map jJ=acc.map jJ++[jJ ⟨ky,x⟩]:=by rw [e2];simp
       have W:=And.intro hk1 (And.intro hg (And.intro hlt (And.intro h8i hgl)))
       repeat' first|refine st ?_|(refine nx ?_;first|refine se ?_|refine so ?_)|(refine cx ?_;refine sc (fun hc=>?_) (fun hc=>?_)<;>try exact hc.elim)|(refine lx ?_;refine sp (fun hc=>?_) (fun hc=>?_)<;>try exact hc.elim)|refine sx ?_ ?_|refine sy ?_ ?_|fail
       all_goals exact hK1 _ ⟨(k+1,v+1,acc2),⟨by simp only;omega,by simp only;omega⟩,(by simp only;exact hE2.symm)⟩ (aG 4 (by simp [hps]) (by simp) (by simp) (by simp)) (by simp only;omega)
      ·have hb:(decide ((1:Int)≤x)&&decide (x≤(999:Int)))=false:=by simp only [Bool.and_eq_false_iff,decide_eq_false_iff_not];omega
       rw [hb] at cR
       have e2:=n1 (r3 x hp hx)
       clear r1 r2 r3 r4 n1 n2
       have W:=And.intro hk1 (And.intro hg (And.intro hlt h8i))
       repeat' first|refine st ?_|(refine nx ?_;first|refine se ?_|refine so ?_)|(refine cx ?_;refine sc (fun hc=>?_) (fun hc=>?_)<;>try exact hc.elim)|(refine lx ?_;refine sp (fun hc=>?_) (fun hc=>?_)<;>try exact hc.elim)|refine sx ?_ ?_|refine sy ?_ ?_|fail
       exact hK1 _ ⟨(k+1,v,acc),⟨by simp only;omega,hv⟩,(by simp only;rw [hE2];exact e2.symm)⟩ (aG 4 (by simp) (by simp) (by simp) (by simp)) (by simp only;omega)
   ·have e2:=n1 hr
    have h2i:¬((ps.length:Int)=2):=by omega
    clear r1 r2 r3 r4 n1 n2 cN cP
    have W:=And.intro hk1 (And.intro hg (And.intro hlt (And.intro h8i h2i)))
    repeat' first|refine st ?_|(refine nx ?_;first|refine se ?_|refine so ?_)|(refine cx ?_;refine sc (fun hc=>?_) (fun hc=>?_)<;>try exact hc.elim)|(refine lx ?_;refine sp (fun hc=>?_) (fun hc=>?_)<;>try exact hc.elim)|refine sx ?_ ?_|refine sy ?_ ?_|fail
    exact hK1 _ ⟨(k+1,v,acc),⟨by simp only;omega,hv⟩,(by simp only;rw [hE2];exact e2.symm)⟩ (aG 4 (by simp) (by simp) (by simp) (by simp)) (by simp only;omega)
  ·have h8i:¬((acc.length:Int) < 8):=by omega
   have hf:=aDe (l:=l) (k:=k) (by rw [←hacc];exact h8)
   rw [←hacc] at hf
   rw [hf]
   have W:=And.intro hk1 (And.intro hg (And.intro hlt (And.intro h8i hgl)))
   repeat' first|refine st ?_|(refine nx ?_;first|refine se ?_|refine so ?_)|(refine cx ?_;refine sc (fun hc=>?_) (fun hc=>?_)<;>try exact hc.elim)|(refine lx ?_;refine sp (fun hc=>?_) (fun hc=>?_)<;>try exact hc.elim)|refine sx ?_ ?_|refine sy ?_ ?_|fail
   all_goals (try (refine ⟨.inr rfl,?_⟩;simp [Hands,Tryz.results50]))
 ·have htk:l.take k=l:=List.take_of_length_le (by omega)
  rw [htk] at hacc
  subst hacc
  have W:=hk1
  repeat' first|refine st ?_|(refine nx ?_;first|refine se ?_|refine so ?_)|(refine cx ?_;refine sc (fun hc=>?_) (fun hc=>?_)<;>try exact hc.elim)|(refine lx ?_;refine sp (fun hc=>?_) (fun hc=>?_)<;>try exact hc.elim)|refine sx ?_ ?_|refine sy ?_ ?_|fail
  all_goals (try (refine ⟨.inr rfl,?_⟩;simp [Hands,Tryz.results50]))
end Go.Proofs.YtkidoegojckmiaaGreatDoor
