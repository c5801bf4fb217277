/-
  Proved here: steps towards the statement of this claim, text QT3.
  No condition beyond what each statement spells out.
-/
import Derived.Test.YtlnblmmohpcceaaGreatDoorQT1
import Derived.Test.YtlnblmmohpcceaaGreatDoorQQ1
set_option linter.all false
set_option maxRecDepth 4000
set_option maxHeartbeats 4000000
namespace Go.Proofs.YtlnblmmohpcceaaGreatDoor
open Go.Aw
def yA (p:Str):Str:=p.take (ixB 58 p)
def qL (p:Str):Str:=p.drop (ixB 58 p+1)
def mX (p:Str):Option uU:=match nG (qL p) with
 |some v=>if bS (yA p)=true∧1≤v∧v≤999 then some ⟨yA p,v⟩ else none
 |none=>none
def iB (l:List Str):List uU:=(l.filterMap mX).take 8
def pF (s:Str):dU:=⟨iB (bH 59 s)⟩
theorem aB0 {p:Str} (h:nG (qL p)=none):mX p=none:=by rw [mX,h]
theorem aHi {p:Str} (h:bS (yA p)=false):mX p=none:=by
 unfold mX
 split
 ·rw [if_neg (by simp [h])]
 ·rfl
theorem aJ9 {p:Str} {v:Int} (h:nG (qL p)=some v) (h1:¬(1≤v∧v≤999)):mX p=none:=by
 rw [mX,h];exact if_neg (fun h=>h1 h.2)
theorem aKu {p:Str} {v:Int} (h:nG (qL p)=some v) (hn:bS (yA p)=true) (h1:1≤v∧v≤999):mX p=some ⟨yA p,v⟩:=by
 rw [mX,h];exact if_pos ⟨hn,h1⟩
theorem aJl {l:List Str} {k:Nat} (h:k < l.length) (hr:mX l[k]=none):iB (l.take (k+1))=iB (l.take k):=by
 unfold iB
 rw [List.take_succ_eq_append_getElem h,List.filterMap_append]
 simp [hr]
theorem aLb {l:List Str} {k:Nat} {r:uU} (h:k < l.length) (hr:mX l[k]=some r) (h8:(iB (l.take k)).length < 8):iB (l.take (k+1))=iB (l.take k)++[r]:=by
 unfold iB at *
 rw [List.take_succ_eq_append_getElem h,List.filterMap_append]
 simp only [List.length_take] at h8
 simp only [List.filterMap_cons,hr,List.filterMap_nil]
 generalize (l.take k).filterMap mX=x at *
 rw [List.take_of_length_le (l:=x++[r]) (by simp;omega),List.take_of_length_le (l:=x) (by omega)]
theorem aKf {l:List Str} {k:Nat} (h8:¬(iB (l.take k)).length < 8):iB l=iB (l.take k):=by
 unfold iB at *
 conv=>lhs;rw [←List.take_append_drop k l,List.filterMap_append]
 simp only [List.length_take] at h8
 rw [List.take_append_of_le_length (by omega)]
theorem aUt {l:List Str} {k:Nat} (h8:¬(iB (l.take k)).length < 8):iB (l.take (k+1))=iB (l.take k):=by
 have:= @aKf (l.take (k+1)) k
 rw [List.take_take,Nat.min_eq_left (by omega)] at this
 exact this h8
theorem aRk (l:List Str):(iB l).length≤8:=by unfold iB;simp;omega
theorem aWu {p:Str} {x:UInt8} (hx:x∈qL p) (h:x=58):nG (qL p)=none:=by
 obtain ⟨k,hk,e⟩:=List.mem_iff_getElem.1 hx
 refine aQm hk ?_
 rw [e,h];decide
theorem bFk (p:Str):(bH 58 p=[yA p,qL p])∨((bH 58 p).length≠2∧mX p=none):=by
 rw [pX]
 by_cases h:ixB 58 p < p.length
 ·rw [if_pos h]
  by_cases h2:∀x∈qL p,x≠58
  ·left
   rw [show p.drop (ixB 58 p+1)=qL p from rfl,aAi _ _ h2];rfl
  ·right
   have ⟨x,hx⟩:=Classical.not_forall.1 h2
   have ⟨hm,hne⟩:=Classical.not_imp.1 hx
   have hx58:=Classical.not_not.1 hne
   refine ⟨?_,aB0 (aWu hm hx58)⟩
   rw [show p.drop (ixB 58 p+1)=qL p from rfl,List.length_cons,iP]
   have:0 < (qL p).count 58:=List.count_pos_iff.2 (hx58▸hm)
   omega
 ·right
  rw [if_neg h]
  refine ⟨by simp,aB0 ?_⟩
  have e:qL p=[]:=by
   unfold qL
   exact List.drop_eq_nil_of_le (by omega)
  rw [e]
  exact aNn (by simp)
theorem aG4 [aA Tryz.prog] [dG Tryz.prog] [dY Tryz.prog] [lY Tryz.prog] (s:Str) (hl:s.length≤1073741824):Ok Tryz.prog 270 [.str s] (.agg (bP .own (pF s))):=by
 have cS:=aNp s 59 (by omega)
 have hsm:=vQ 59 s
 have hsl:=iP 59 s
 have hcn:s.count 59≤s.length:=List.count_le_length
 unfold pF
 generalize bH 59 s=l at *
 have hll:l.length≤1073741825:=by omega
 simp only [bP]
 refine ent Tryz.mix Tryz.func270 Tryz.ntmps270 ?_
 have W:=trivial
 repeat' first|refine we ?_|(refine sq (fun hc=>?_) (fun hc=>?_)<;>try exact hc.elim)|fail
 refine aM (ι:={q:Nat×Nat×List uU // (q.1≤l.length∧1≤q.2.1)∧q.2.2=iB (l.take q.1)}) (fun t o i=>⟨aO t [(15,.int .i64 i.1.1),(11,.undef)],o.take 1++[⟨true,true,1,0,[[.obj 3 i.1.2.1]]⟩,⟨true,false,1,1,l.map bU⟩,⟨true,false,2,i.1.2.1,i.1.2.2.map oW⟩]⟩)
  (fun i=>l.length - i.1.1) ⟨(0,1,[]),by simp,by simp [iB]⟩ (pR 1 0 0 (ob:=⟨true,true,1,0,[[.sl .own 2 []]]⟩) (by rfl) (by rfl) (by rfl) (by simp) (by rfl) (by rfl) (by simp) (by simp [rtc,rt,dQ])) ?_
 rintro ⟨⟨k,v,acc⟩,⟨hk,hv⟩,hacc⟩ K1 hK1
 simp only at hk hv hacc
 simp only [aO,List.set_cons_succ,List.set_cons_zero,List.take_succ_cons,List.take_zero,List.cons_append,List.nil_append] at hK1⊢
 have hk1:IntKind.i64.wrap ((k:Int)+1)=((k+1:Nat):Int):=by rw [wrap64]<;>omega
 by_cases hlt:k < l.length
 ·have hg:=List.getElem?_eq_getElem hlt
  have hwz:=dO cB l k hlt
  simp only [cB] at hwz
  have cC:=uV l[k] 58 (by omega)
  have cN:=gJ (yA l[k]) (by simp [yA];omega)
  have cP:=aKa (qL l[k]) (by simp [qL];omega)
  change Ok _ _ _ (.tup [.str (yA l[k]),.str (qL l[k]),.bool (decide (ixB 58 l[k] < l[k].length))]) at cC
  have n1:= @aJl l k hlt
  have n2:=fun r=> @aLb l k r hlt
  have n3:= @aUt l k
  have r1:= @aB0 l[k]
  have r2:= @aHi l[k]
  have r3:=fun v=> @aJ9 l[k] v
  have r4:=fun v=> @aKu l[k] v
  have ha8:=aRk (l.take k)
  rw [←hacc] at n1 n2 n3 ha8
  generalize hE2:iB (l.take (k+1))=acc2 at *
  generalize hrl:mX l[k]=ru at *
  generalize decide (ixB 58 l[k] < l[k].length)=b1 at *
  generalize yA l[k]=ky at *
  generalize qL l[k]=vl at *
  cases hp:nG vl with
  |none=>
   rw [pE hp] at cP
   have e2:=n1 (r1 hp)
   clear r1 r2 r3 r4 n1 n2 n3
   have W:=And.intro hk1 (And.intro hg hlt)
   repeat' first|refine we ?_|(refine sq (fun hc=>?_) (fun hc=>?_)<;>try exact hc.elim)|fail
   exact hK1 _ ⟨(k+1,v,acc),⟨by simp only;omega,hv⟩,(by simp only;rw [hE2];exact e2.symm)⟩ (aQ 4 (by simp) (by simp) (by simp) (by simp)) (by simp only;omega)
  |some x=>
   rw [zY hp] at cP
   cases hn:bS ky with
   |false=>
    rw [hn] at cN
    have e2:=n1 (r2 hn)
    clear r1 r2 r3 r4 n1 n2 n3
    have W:=And.intro hk1 (And.intro hg hlt)
    repeat' first|refine we ?_|(refine sq (fun hc=>?_) (fun hc=>?_)<;>try exact hc.elim)|fail
    exact hK1 _ ⟨(k+1,v,acc),⟨by simp only;omega,hv⟩,(by simp only;rw [hE2];exact e2.symm)⟩ (aQ 4 (by simp) (by simp) (by simp) (by simp)) (by simp only;omega)
   |true=>
    rw [hn] at cN
    have cR:=jT x 1 999
    by_cases hx:1≤x∧x≤999
    ·have hb:(decide ((1:Int)≤x)&&decide (x≤(999:Int)))=true:=by simp;omega
     rw [hb] at cR
     have hr:=r4 x hp hn hx
     by_cases h8:acc.length < 8
     ·have h8i:((acc.length:Int) < 8):=by omega
      have e2:=n2 _ hr h8
      clear r1 r2 r3 r4 n1 n2 n3
      have hps:acc2.map oW=acc.map oW++[oW ⟨ky,x⟩]:=by rw [e2];simp
      have hgl:(acc.map oW).length=acc.length:=by simp
      have W:=And.intro hk1 (And.intro hg (And.intro hlt h8i))
      repeat' first|refine we ?_|(refine sq (fun hc=>?_) (fun hc=>?_)<;>try exact hc.elim)|fail
      exact hK1 _ ⟨(k+1,v+1,acc2),⟨by simp only;omega,by simp only;omega⟩,(by simp only;exact hE2.symm)⟩ (aQ 4 (by simp [hps]) (by simp) (by simp) (by simp)) (by simp only;omega)
     ·have h8i:¬((acc.length:Int) < 8):=by omega
      have e2:=n3 h8
      clear r1 r2 r3 r4 n1 n2 n3
      have W:=And.intro hk1 (And.intro hg (And.intro hlt h8i))
      repeat' first|refine we ?_|(refine sq (fun hc=>?_) (fun hc=>?_)<;>try exact hc.elim)|fail
      exact hK1 _ ⟨(k+1,v,acc),⟨by simp only;omega,hv⟩,(by simp only;rw [hE2];exact e2.symm)⟩ (aQ 4 (by simp) (by simp) (by simp) (by simp)) (by simp only;omega)
    ·have hb:(decide ((1:Int)≤x)&&decide (x≤(999:Int)))=false:=by simp only [Bool.and_eq_false_iff,decide_eq_false_iff_not];omega
     rw [hb] at cR
     have e2:=n1 (r3 x hp hx)
     clear r1 r2 r3 r4 n1 n2 n3
     have W:=And.intro hk1 (And.intro hg hlt)
     repeat' first|refine we ?_|(refine sq (fun hc=>?_) (fun hc=>?_)<;>try exact hc.elim)|fail
     exact hK1 _ ⟨(k+1,v,acc),⟨by simp only;omega,hv⟩,(by simp only;rw [hE2];exact e2.symm)⟩ (aQ 4 (by simp) (by simp) (by simp) (by simp)) (by simp only;omega)
 ·have htk:l.take k=l:=List.take_of_length_le (by omega)
  rw [htk] at hacc
  subst hacc
  have W:=hk1
  repeat' first|refine we ?_|(refine sq (fun hc=>?_) (fun hc=>?_)<;>try exact hc.elim)|fail
  all_goals (try (refine ⟨.inr rfl,?_⟩;simp [Hands,Tryz.results270]))
theorem aHe [aA Tryz.prog] [dG Tryz.prog] [dY Tryz.prog] (s:Str) (hl:s.length≤1073741824):Ok Tryz.prog 213 [.str s] (.agg (bP .own (pF s))):=by
 have cS:Ok Tryz.prog 136 [.str s,.int .u8 59] (.sl .own 1 ((bH 59 s).map bU)):=tV s 59 (by omega)
 have hsm:=vQ 59 s
 have hsl:=iP 59 s
 have hcn:s.count 59≤s.length:=List.count_le_length
 unfold pF
 generalize bH 59 s=l at *
 have hll:l.length≤1073741825:=by omega
 simp only [bP]
 refine ent Tryz.mix Tryz.func213 Tryz.ntmps213 ?_
 have W:=trivial
 repeat' first|refine we ?_|(refine sq (fun hc=>?_) (fun hc=>?_)<;>try exact hc.elim)|fail
 refine aM (ι:={q:Nat×Nat×List uU // (q.1≤l.length∧1≤q.2.1)∧q.2.2=iB (l.take q.1)}) (fun t o i=>⟨aO t [(5,.int .i64 i.1.1),(9,.undef)],o.take 1++[⟨true,true,1,0,[[.obj 3 i.1.2.1]]⟩,⟨true,false,1,1,l.map bU⟩,⟨true,false,2,i.1.2.1,i.1.2.2.map oW⟩]⟩)
  (fun i=>l.length - i.1.1) ⟨(0,1,[]),by simp,by simp [iB]⟩ (pR 1 0 0 (ob:=⟨true,true,1,0,[[.sl .own 2 []]]⟩) (by rfl) (by rfl) (by rfl) (by simp) (by rfl) (by rfl) (by simp) (by simp [rtc,rt,dQ])) ?_
 rintro ⟨⟨k,v,acc⟩,⟨hk,hv⟩,hacc⟩ K1 hK1
 simp only at hk hv hacc
 simp only [aO,List.set_cons_succ,List.set_cons_zero,List.take_succ_cons,List.take_zero,List.cons_append,List.nil_append] at hK1⊢
 have hk1:IntKind.i64.wrap ((k:Int)+1)=((k+1:Nat):Int):=by rw [wrap64]<;>omega
 have hgl:(acc.map oW).length=acc.length:=by simp
 by_cases hlt:k < l.length
 ·have hg:=List.getElem?_eq_getElem hlt
  by_cases h8:acc.length < 8
  ·have h8i:((acc.length:Int) < 8):=by omega
   have hwz:=dO cB l k hlt
   simp only [cB] at hwz
   have cC:Ok Tryz.prog 136 [.str l[k],.int .u8 58] (.sl .own 1 ((bH 58 l[k]).map bU)):=tV l[k] 58 (by omega)
   have cN:=eP (yA l[k]) (by simp [yA];omega)
   have cP:=aK6 (qL l[k]) (by simp [qL];omega)
   have n1:= @aJl l k hlt
   have n2:=fun r=> @aLb l k r hlt
   have r1:= @aB0 l[k]
   have r2:= @aHi l[k]
   have r3:=fun v=> @aJ9 l[k] v
   have r4:=fun v=> @aKu l[k] v
   have h2:=bFk l[k]
   have hsg:=iP 58 l[k]
   have hcg:l[k].count 58≤l[k].length:=List.count_le_length
   rw [←hacc] at n1 n2
   generalize hE2:iB (l.take (k+1))=acc2 at *
   generalize hrl:mX l[k]=ru at *
   generalize yA l[k]=ky at *
   generalize qL l[k]=vl at *
   generalize bH 58 l[k]=ps at *
   rcases h2 with h2|⟨h2,hr⟩
   ·subst h2
    simp only [List.map_cons,List.map_nil,bU] at cC
    cases hn:bS ky with
    |false=>
     rw [hn] at cN
     have e2:=n1 (r2 hn)
     clear r1 r2 r3 r4 n1 n2
     have W:=And.intro hk1 (And.intro hg (And.intro hlt h8i))
     repeat' first|refine we ?_|(refine sq (fun hc=>?_) (fun hc=>?_)<;>try exact hc.elim)|fail
     exact hK1 _ ⟨(k+1,v,acc),⟨by simp only;omega,hv⟩,(by simp only;rw [hE2];exact e2.symm)⟩ (aQ 4 (by simp) (by simp) (by simp) (by simp)) (by simp only;omega)
    |true=>
     rw [hn] at cN
     cases hp:nG vl with
     |none=>
      rw [pE hp] at cP
      have e2:=n1 (r1 hp)
      clear r1 r2 r3 r4 n1 n2
      have W:=And.intro hk1 (And.intro hg (And.intro hlt h8i))
      repeat' first|refine we ?_|(refine sq (fun hc=>?_) (fun hc=>?_)<;>try exact hc.elim)|fail
      exact hK1 _ ⟨(k+1,v,acc),⟨by simp only;omega,hv⟩,(by simp only;rw [hE2];exact e2.symm)⟩ (aQ 4 (by simp) (by simp) (by simp) (by simp)) (by simp only;omega)
     |some x=>
      rw [zY hp] at cP
      have cR:=gM x 1 999
      by_cases hx:1≤x∧x≤999
      ·have hb:(decide ((1:Int)≤x)&&decide (x≤(999:Int)))=true:=by simp;omega
       rw [hb] at cR
       have e2:=n2 _ (r4 x hp hn hx) h8
       clear r1 r2 r3 r4 n1 n2
       have hps:acc2.map oW=acc.map oW++[oW ⟨ky,x⟩]:=by rw [e2];simp
       have W:=And.intro hk1 (And.intro hg (And.intro hlt (And.intro h8i hgl)))
       repeat' first|refine we ?_|(refine sq (fun hc=>?_) (fun hc=>?_)<;>try exact hc.elim)|fail
       all_goals exact hK1 _ ⟨(k+1,v+1,acc2),⟨by simp only;omega,by simp only;omega⟩,(by simp only;exact hE2.symm)⟩ (aQ 4 (by simp [hps]) (by simp) (by simp) (by simp)) (by simp only;omega)
      ·have hb:(decide ((1:Int)≤x)&&decide (x≤(999:Int)))=false:=by simp only [Bool.and_eq_false_iff,decide_eq_false_iff_not];omega
       rw [hb] at cR
       have e2:=n1 (r3 x hp hx)
       clear r1 r2 r3 r4 n1 n2
       have W:=And.intro hk1 (And.intro hg (And.intro hlt h8i))
       repeat' first|refine we ?_|(refine sq (fun hc=>?_) (fun hc=>?_)<;>try exact hc.elim)|fail
       exact hK1 _ ⟨(k+1,v,acc),⟨by simp only;omega,hv⟩,(by simp only;rw [hE2];exact e2.symm)⟩ (aQ 4 (by simp) (by simp) (by simp) (by simp)) (by simp only;omega)
   ·have e2:=n1 hr
    have h2i:¬((ps.length:Int)=2):=by omega
    clear r1 r2 r3 r4 n1 n2 cN cP
    have W:=And.intro hk1 (And.intro hg (And.intro hlt (And.intro h8i h2i)))
    repeat' first|refine we ?_|(refine sq (fun hc=>?_) (fun hc=>?_)<;>try exact hc.elim)|fail
    exact hK1 _ ⟨(k+1,v,acc),⟨by simp only;omega,hv⟩,(by simp only;rw [hE2];exact e2.symm)⟩ (aQ 4 (by simp) (by simp) (by simp) (by simp)) (by simp only;omega)
  ·have h8i:¬((acc.length:Int) < 8):=by omega
   have hf:=aKf (l:=l) (k:=k) (by rw [←hacc];exact h8)
   rw [←hacc] at hf
   rw [hf]
   have W:=And.intro hk1 (And.intro hg (And.intro hlt (And.intro h8i hgl)))
   repeat' first|refine we ?_|(refine sq (fun hc=>?_) (fun hc=>?_)<;>try exact hc.elim)|fail
   all_goals (try (refine ⟨.inr rfl,?_⟩;simp [Hands,Tryz.results213]))
 ·have htk:l.take k=l:=List.take_of_length_le (by omega)
  rw [htk] at hacc
  subst hacc
  have W:=hk1
  repeat' first|refine we ?_|(refine sq (fun hc=>?_) (fun hc=>?_)<;>try exact hc.elim)|fail
  all_goals (try (refine ⟨.inr rfl,?_⟩;simp [Hands,Tryz.results213]))
def aCx (x:gP):Bool:=decide (x.mode=2)&&x.done&&decide (x.code=1)
def jU (l:List gP):List dU:=(l.filter aCx).map fun x=>pF x.body
def bO (p:aJ):List dU:=jU p.slots
theorem aKm {l:List gP} {k:Nat} (h:k < l.length) (ho:aCx l[k]=true):jU (l.take (k+1))=jU (l.take k)++[pF l[k].body]:=by
 unfold jU
 rw [List.take_succ_eq_append_getElem h,List.filter_append,List.map_append]
 simp [ho]
theorem aNh {l:List gP} {k:Nat} (h:k < l.length) (ho:aCx l[k]=false):jU (l.take (k+1))=jU (l.take k):=by
 unfold jU
 rw [List.take_succ_eq_append_getElem h,List.filter_append]
 simp [ho]
theorem aBd (l:List gP):(jU l).length≤l.length:=by
 unfold jU;rw [List.length_map];exact List.length_filter_le _ _
theorem aJ2 [aA Tryz.prog] [dG Tryz.prog] [dY Tryz.prog] [lY Tryz.prog] (p:aJ) (hs:szL fG p.slots≤1073741824):Ok Tryz.prog 225 [.agg (aG .view p)] (.sl .own 1 ((bO p).map (bP .own))):=by
 simp only [szL] at hs
 unfold bO
 simp only [aG]
 generalize p.slots=l at *
 refine ent Tryz.mix Tryz.func225 Tryz.ntmps225 ?_
 have W:=trivial
 repeat' first|refine wl ?_|(refine sq (fun hc=>?_) (fun hc=>?_)<;>try exact hc.elim)|fail
 refine aM (ι:={q:Nat×Nat×List dU // (q.1≤l.length∧1≤q.2.1)∧q.2.2=jU (l.take q.1)}) (fun t o i=>⟨aO t [(10,.int .i64 i.1.1),(3,.obj 1 i.1.2.1)],o.take 1++[⟨true,false,1,i.1.2.1,i.1.2.2.map (bP .own)⟩]⟩)
  (fun i=>l.length - i.1.1) ⟨(0,1,[]),by simp,by simp [jU]⟩ (aH (by simp) (by simp)) ?_
 rintro ⟨⟨k,v,acc⟩,⟨hk,hv⟩,hacc⟩ K1 hK1
 simp only at hk hv hacc
 simp only [aO,List.set_cons_succ,List.set_cons_zero,List.take_succ_cons,List.take_zero,List.cons_append,List.nil_append] at hK1⊢
 have hk1:IntKind.i64.wrap ((k:Int)+1)=((k+1:Nat):Int):=by rw [wrap64]<;>omega
 by_cases hlt:k < l.length
 ·have hg:=List.getElem?_eq_getElem hlt
  have hwz:=dO fG l k hlt
  simp only [fG] at hwz
  have cP:=aG4 l[k].body (by omega)
  have n1:= @aNh l k hlt
  have n2:= @aKm l k hlt
  have hal:acc.length≤k:=by rw [hacc];have:=aBd (l.take k);rw [List.length_take] at this;omega
  have hgl:(acc.map (bP .own)).length=acc.length:=by simp
  rw [←hacc] at n1 n2
  generalize hE2:jU (l.take (k+1))=acc2 at *
  generalize pF l[k].body=sh at *
  unfold aCx at n1 n2
  by_cases h1:l[k].mode=2
  ·cases h2:l[k].done
   ·have e2:=n1 (by simp [h2])
    have W:=And.intro hk1 (And.intro hg (And.intro hlt (And.intro h1 h2)))
    repeat' first|refine wl ?_|(refine sq (fun hc=>?_) (fun hc=>?_)<;>try exact hc.elim)|fail
    all_goals exact hK1 _ ⟨(k+1,v,acc),⟨by simp only;omega,hv⟩,(by simp only;rw [hE2];exact e2.symm)⟩ (aQ 2 (by simp) (by simp) (by simp) (by simp)) (by simp only;omega)
   ·by_cases h3:l[k].code=1
    ·have e2:=n2 (by simp [h1,h2,h3])
     have hps:acc2.map (bP .own)=acc.map (bP .own)++[bP .own sh]:=by rw [e2];simp
     simp only [bP] at cP
     clear n1 n2
     generalize acc.map (bP .own)=g at *
     have W:=And.intro hk1 (And.intro hg (And.intro hlt (And.intro h1 (And.intro h2 (And.intro h3 hgl)))))
     repeat' first|refine wl ?_|(refine sq (fun hc=>?_) (fun hc=>?_)<;>try exact hc.elim)|fail
     all_goals exact hK1 _ ⟨(k+1,v+1,acc2),⟨by simp only;omega,by simp only;omega⟩,(by simp only;exact hE2.symm)⟩ (aQ 2 (by simp [hps]) (by simp) (by simp) (by simp)) (by simp only;omega)
    ·have e2:=n1 (by simp [h3])
     have W:=And.intro hk1 (And.intro hg (And.intro hlt (And.intro h1 (And.intro h2 h3))))
     repeat' first|refine wl ?_|(refine sq (fun hc=>?_) (fun hc=>?_)<;>try exact hc.elim)|fail
     all_goals exact hK1 _ ⟨(k+1,v,acc),⟨by simp only;omega,hv⟩,(by simp only;rw [hE2];exact e2.symm)⟩ (aQ 2 (by simp) (by simp) (by simp) (by simp)) (by simp only;omega)
  ·have e2:=n1 (by simp [h1])
   have W:=And.intro hk1 (And.intro hg (And.intro hlt h1))
   repeat' first|refine wl ?_|(refine sq (fun hc=>?_) (fun hc=>?_)<;>try exact hc.elim)|fail
   all_goals exact hK1 _ ⟨(k+1,v,acc),⟨by simp only;omega,hv⟩,(by simp only;rw [hE2];exact e2.symm)⟩ (aQ 2 (by simp) (by simp) (by simp) (by simp)) (by simp only;omega)
 ·have htk:l.take k=l:=List.take_of_length_le (by omega)
  rw [htk] at hacc
  subst hacc
  have W:=hk1
  repeat' first|refine wl ?_|(refine sq (fun hc=>?_) (fun hc=>?_)<;>try exact hc.elim)|fail
  all_goals (try (refine ⟨.inr rfl,?_⟩;simp [Hands,Tryz.results225]))
theorem aBn [aA Tryz.prog] [dG Tryz.prog] [dY Tryz.prog] (p:aJ) (hs:szL fG p.slots≤1073741824):Ok Tryz.prog 152 [.agg (aG .view p)] (.sl .own 1 ((bO p).map (bP .own))):=by
 simp only [szL] at hs
 unfold bO
 simp only [aG]
 generalize p.slots=l at *
 refine ent Tryz.mix Tryz.func152 Tryz.ntmps152 ?_
 have W:=trivial
 repeat' first|refine wl ?_|(refine sq (fun hc=>?_) (fun hc=>?_)<;>try exact hc.elim)|fail
 refine aM (ι:={q:Nat×Nat×List dU // (q.1≤l.length∧1≤q.2.1)∧q.2.2=jU (l.take q.1)}) (fun t o i=>⟨aO t [(4,.int .i64 i.1.1),(3,.obj 1 i.1.2.1)],o.take 1++[⟨true,false,1,i.1.2.1,i.1.2.2.map (bP .own)⟩]⟩)
  (fun i=>l.length - i.1.1) ⟨(0,1,[]),by simp,by simp [jU]⟩ (aH (by simp) (by simp)) ?_
 rintro ⟨⟨k,v,acc⟩,⟨hk,hv⟩,hacc⟩ K1 hK1
 simp only at hk hv hacc
 simp only [aO,List.set_cons_succ,List.set_cons_zero,List.take_succ_cons,List.take_zero,List.cons_append,List.nil_append] at hK1⊢
 have hk1:IntKind.i64.wrap ((k:Int)+1)=((k+1:Nat):Int):=by rw [wrap64]<;>omega
 by_cases hlt:k < l.length
 ·have hg:=List.getElem?_eq_getElem hlt
  have hwz:=dO fG l k hlt
  simp only [fG] at hwz
  have cP:=aHe l[k].body (by omega)
  have n1:= @aNh l k hlt
  have n2:= @aKm l k hlt
  have hal:acc.length≤k:=by rw [hacc];have:=aBd (l.take k);rw [List.length_take] at this;omega
  have hgl:(acc.map (bP .own)).length=acc.length:=by simp
  rw [←hacc] at n1 n2
  generalize hE2:jU (l.take (k+1))=acc2 at *
  generalize pF l[k].body=sh at *
  unfold aCx at n1 n2
  by_cases h1:l[k].mode=2
  ·cases h2:l[k].done
   ·have e2:=n1 (by simp [h2])
    have W:=And.intro hk1 (And.intro hg (And.intro hlt (And.intro h1 h2)))
    repeat' first|refine wl ?_|(refine sq (fun hc=>?_) (fun hc=>?_)<;>try exact hc.elim)|fail
    all_goals exact hK1 _ ⟨(k+1,v,acc),⟨by simp only;omega,hv⟩,(by simp only;rw [hE2];exact e2.symm)⟩ (aQ 2 (by simp) (by simp) (by simp) (by simp)) (by simp only;omega)
   ·by_cases h3:l[k].code=1
    ·have e2:=n2 (by simp [h1,h2,h3])
     have hps:acc2.map (bP .own)=acc.map (bP .own)++[bP .own sh]:=by rw [e2];simp
     simp only [bP] at cP
     clear n1 n2
     generalize acc.map (bP .own)=g at *
     have W:=And.intro hk1 (And.intro hg (And.intro hlt (And.intro h1 (And.intro h2 (And.intro h3 hgl)))))
     repeat' first|refine wl ?_|(refine sq (fun hc=>?_) (fun hc=>?_)<;>try exact hc.elim)|fail
     all_goals exact hK1 _ ⟨(k+1,v+1,acc2),⟨by simp only;omega,by simp only;omega⟩,(by simp only;exact hE2.symm)⟩ (aQ 2 (by simp [hps]) (by simp) (by simp) (by simp)) (by simp only;omega)
    ·have e2:=n1 (by simp [h3])
     have W:=And.intro hk1 (And.intro hg (And.intro hlt (And.intro h1 (And.intro h2 h3))))
     repeat' first|refine wl ?_|(refine sq (fun hc=>?_) (fun hc=>?_)<;>try exact hc.elim)|fail
     all_goals exact hK1 _ ⟨(k+1,v,acc),⟨by simp only;omega,hv⟩,(by simp only;rw [hE2];exact e2.symm)⟩ (aQ 2 (by simp) (by simp) (by simp) (by simp)) (by simp only;omega)
  ·have e2:=n1 (by simp [h1])
   have W:=And.intro hk1 (And.intro hg (And.intro hlt h1))
   repeat' first|refine wl ?_|(refine sq (fun hc=>?_) (fun hc=>?_)<;>try exact hc.elim)|fail
   all_goals exact hK1 _ ⟨(k+1,v,acc),⟨by simp only;omega,hv⟩,(by simp only;rw [hE2];exact e2.symm)⟩ (aQ 2 (by simp) (by simp) (by simp) (by simp)) (by simp only;omega)
 ·have htk:l.take k=l:=List.take_of_length_le (by omega)
  rw [htk] at hacc
  subst hacc
  have W:=hk1
  repeat' first|refine wl ?_|(refine sq (fun hc=>?_) (fun hc=>?_)<;>try exact hc.elim)|fail
  all_goals (try (refine ⟨.inr rfl,?_⟩;simp [Hands,Tryz.results152]))
end Go.Proofs.YtlnblmmohpcceaaGreatDoor
