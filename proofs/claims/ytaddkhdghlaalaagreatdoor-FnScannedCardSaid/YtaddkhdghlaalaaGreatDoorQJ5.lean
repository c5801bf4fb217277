/-
  Proved here: steps towards the statement of this claim, text QJ5.
  No condition beyond what each statement spells out.
-/
import Derived.Test.YtaddkhdghlaalaaGreatDoorQJ1
import Derived.Test.YtaddkhdghlaalaaGreatDoorQR5
import Derived.Test.YtaddkhdghlaalaaGreatDoorQMK1
import Derived.Test.YtaddkhdghlaalaaGreatDoorF6
import Derived.Test.YtaddkhdghlaalaaGreatDoorQD1
import Derived.Test.YtaddkhdghlaalaaGreatDoorF4
import Derived.Test.YtaddkhdghlaalaaGreatDoorF5
import Derived.Test.YtaddkhdghlaalaaGreatDoorQRLsd
import Derived.Test.YtaddkhdghlaalaaGreatDoorQN1
set_option linter.all false
set_option maxRecDepth 4000
set_option maxHeartbeats 4000000
namespace Go.Proofs.YtaddkhdghlaalaaGreatDoor
open Go.Aw
def iP (x:aV):Bool:=
 (decide (100≤x.status)&&decide (x.status≤599))&&(decide (1≤x.kind)&&decide (x.kind≤5))&&decide (x.body.length≤400)&&(decide (0≤x.age)&&decide (x.age≤1000))&&(iX x.policy).2
theorem uZ [aB Tryz.prog] [dB Tryz.prog] (x:aV) (hl:dC x≤1073741824):Ok Tryz.prog 162 [.agg (cZ x)] (.bool (iP x)):=by
 simp only [dC] at hl
 have c0:Ok Tryz.prog 168 [.str x.policy] (.tup [.agg (bY .view (iX x.policy).1),.bool (iX x.policy).2]):=zZ x.policy (by omega)
 have c1:=eQ x.status 100 599
 have c2:=eQ x.kind 1 5
 have c3:=eQ x.age 0 1000
 have e:decide (x.body.length≤400)=decide ((x.body.length:Int)≤400):=by simp only [decide_eq_decide];omega
 unfold iP
 rw [e]
 generalize (decide (100≤x.status)&&decide (x.status≤599))=b1 at *
 generalize (decide (1≤x.kind)&&decide (x.kind≤5))=b2 at *
 generalize (decide (0≤x.age)&&decide (x.age≤1000))=b3 at *
 generalize (iX x.policy).1=q at *
 generalize (iX x.policy).2=b4 at *
 simp only [bY] at c0
 refine ent Tryz.mix Tryz.func162 Tryz.ntmps162 ?_
 have W:=trivial
 repeat' first|refine st ?_|(refine nx ?_;first|refine se ?_|refine so ?_)|(refine cx ?_;refine sc (fun hc=>?_) (fun hc=>?_)<;>try exact hc.elim)|(refine lx ?_;refine sp (fun hc=>?_) (fun hc=>?_)<;>try exact hc.elim)|refine sx ?_ ?_|refine sy ?_ ?_|fail
 all_goals (try (refine ⟨.inr rfl,?_⟩;simp [Hands,Tryz.results162]))
 all_goals first|(simp_all;done)|(simp_all;omega)|(simp_all;intros;omega)
def uV:aX:=⟨[⟨[112,97,103,101],[], -1,[]⟩],[0]⟩
theorem aIa [aB Tryz.prog] [dB Tryz.prog]:Ok Tryz.prog 169 [] (.agg (aZ .own uV)):=by
 refine ent Tryz.mix Tryz.func169 Tryz.ntmps169 ?_
 refine aW ?_
 all_goals (try (refine ⟨.inr rfl,?_⟩;simp [Hands,Tryz.results169,uV]))
def aAd:aC:=⟨⟨[],[]⟩,sD,⟨[]⟩,[],false,⟨[],[]⟩,[],[],[],0,0,0,0,[],[],false⟩
def aLo (a:aD) (p:dU):aC:=⟨a,p,⟨[]⟩,[],false,uV,[],[],[],0,0,0,0,[],[],false⟩
def uW (a:aD) (x:aV):aC×Bool:=
 if nT a=true∧iP x=true∧x.status=200∧x.kind=1 then (aLo a (iX x.policy).1,true) else (aAd,false)
theorem aX2 (a:aD) (x:aV):uW a x=if (!nT a || !iP x || !decide (x.status=200) || !decide (x.kind=1))=true then (aAd,false) else (aLo a (iX x.policy).1,true):=by
 unfold uW
 cases nT a<;>cases iP x<;>by_cases h1:x.status=200<;>by_cases h2:x.kind=1<;>simp [h1,h2]
theorem aMz [aB Tryz.prog] [dB Tryz.prog] (a : aD) (x : aV) (ha : aI a ≤ 1073741824) (hl : dC x ≤ 1073741824) : Ok Tryz.prog 136 [.agg (aF a), .agg (cZ x)] (.tup [.agg (aG .view (uW a x).1), .bool (uW a x).2]) := by
  have c1 := sQ a (by omega)
  simp only [aI] at ha
  have c2 := uZ x hl
  have c4 := aIa
  have hb : iP x = true → (iX x.policy).2 = true := by
    intro h
    simp only [iP, Bool.and_eq_true] at h
    exact h.2
  simp only [dC] at hl
  have c3 : Ok Tryz.prog 168 [.str x.policy] (.tup [.agg (bY .view (iX x.policy).1), .bool (iX x.policy).2]) := zZ x.policy (by omega)
  simp only [aF] at c1
  simp only [cZ] at c2
  simp only [bY] at c3
  simp only [aZ, uV, List.map_cons, List.map_nil, dY, jI] at c4
  rw [aX2]
  generalize nT a = b1 at *
  generalize iP x = b2 at *
  generalize (iX x.policy).1 = q at *
  generalize (iX x.policy).2 = b4 at *
  have bad : (b1 = false ∨ b2 = false ∨ x.status ≠ 200 ∨ x.kind ≠ 1) → Ok Tryz.prog 136 [.agg (aF a), .agg (cZ x)] (.tup [.agg (aG .own aAd), .bool false]) := by
    intro h
    by_cases h1 : x.status = 200 <;> by_cases h2 : x.kind = 1 <;> cases b1 <;> cases b2 <;> cases b4
    all_goals first
      | exact (Bool.false_ne_true (hb rfl)).elim
      | (exfalso; simp_all; done)
      | ((try rw [h1] at c2)
         (try rw [h2] at c2)
         refine aC6 Tryz.mix Tryz.func136 Tryz.ntmps136 ?_
         have W := And.intro h1 h2
         repeat' first|refine st ?_|(refine nx ?_;first|refine se ?_|refine so ?_)|(refine cx ?_;refine sc (fun hc=>?_) (fun hc=>?_)<;>try exact hc.elim)|(refine lx ?_;refine sp (fun hc=>?_) (fun hc=>?_)<;>try exact hc.elim)|refine sx ?_ ?_|refine sy ?_ ?_|fail
         all_goals (try (first | (refine ⟨.inr rfl, .inl ?_⟩; simp [jA, Tryz.results136, aAd, sD, h1, h2]; done) | (refine ⟨.inr rfl, .inr (nN ?_)⟩; simp [AS.rvB, AS.rvs, AS.rv, Tryz.results136, aAd, sD, h1, h2]; done) | (refine ⟨.inr rfl, .inl ?_⟩; simp [jA, Tryz.results136, aAd, sD, h1, h2])))
         done)
  have good : b1 = true → b2 = true → x.status = 200 → x.kind = 1 → Ok Tryz.prog 136 [.agg (aF a), .agg (cZ x)] (.tup [.agg [.str a.host, .str a.path, .bool q.isSet, .sl .view 1 (q.scripts.map bX), .sl .view 1 (q.styles.map bX), .sl .view 1 (q.images.map bX), .str q.nonce, .str [], .sl .own 4 [], .bool false, .sl .own 4 [[.str [112, 97, 103, 101], .str [], .int .i64 (-1), .sl .own 2 []]], .sl .own 1 [[.int .i64 0]], .sl .own 8 [], .sl .own 5 [], .sl .own 2 [], .int .i64 0, .int .i64 0, .int .i64 0, .int .i64 0, .sl .own 2 [], .sl .own 1 [], .bool false], .bool true]) := by
    intro h1 h2 h3 h4
    have hb' := hb h2
    subst h1; subst h2; subst hb'
    rw [h3, h4] at c2
    refine aC6 Tryz.mix Tryz.func136 Tryz.ntmps136 ?_
    have W := And.intro h3 h4
    refine we ?_
    all_goals (try (first | (refine ⟨.inr rfl, .inl ?_⟩; simp [jA, Tryz.results136, h3, h4]; done) | (refine ⟨.inr rfl, .inr (nN ?_)⟩; simp [AS.rvB, AS.rvs, AS.rv, Tryz.results136, h3, h4]; done) | (refine ⟨.inr rfl, .inl ?_⟩; simp [jA, Tryz.results136, h3, h4])))
  by_cases hc : (!b1 || !b2 || !decide (x.status = 200) || !decide (x.kind = 1)) = true
  · rw [if_pos hc]
    refine (bad ?_).vwas (by simp [rt, rtc, rtr, aAd, sD])
    simp only [Bool.or_eq_true, Bool.not_eq_true', decide_eq_false_iff_not] at hc
    rcases hc with ((h | h) | h) | h
    · exact .inl h
    · exact .inr (.inl h)
    · exact .inr (.inr (.inl h))
    · exact .inr (.inr (.inr h))
  · rw [if_neg hc]
    simp only [Bool.or_eq_true, Bool.not_eq_true', decide_eq_false_iff_not, not_or, Bool.not_eq_false, Decidable.not_not] at hc
    exact (good hc.1.1.1 hc.1.1.2 hc.1.2 hc.2).vwas (by simp [rt, rtc, rtr, aLo, uV])
theorem bIr (v:Int):(0≤v∧v.tmod 2147483647=v % 2147483647)∨(v < 0∧∃r,v.tmod 2147483647= -r∧0≤r∧r < 2147483647∧(r=0→v % 2147483647=0)∧(r≠0→v % 2147483647=2147483647 - r)):=by
 by_cases h:0≤v
 ·exact .inl ⟨h,Int.tmod_eq_emod_of_nonneg h⟩
 ·right
  obtain ⟨u,hu⟩:∃u:Nat,v= -(u:Int):=⟨v.natAbs,by omega⟩
  subst hu
  refine ⟨by omega,((u % 2147483647:Nat):Int),by rw [Int.neg_tmod];rfl,by omega,by omega,by omega,by omega⟩
theorem aYu [aB Tryz.prog] (v:Int) (h:rgI v):Ok Tryz.prog 213 [.int .i64 v,.int .i64 2147483647] (.int .i64 (v % 2147483647)):=by
 have c1:=eQ 2147483647 1 1000000000000
 rw [show (decide ((1:Int)≤2147483647)&&decide ((2147483647:Int)≤1000000000000))=true by decide] at c1
 obtain ⟨h1,h2⟩:=h
 rcases bIr v with ⟨h0,hm⟩|⟨h0,r,hm,hr0,hr1,hz,hnz⟩
 ·have hm2:(v % 2147483647+2147483647).tmod 2147483647=v % 2147483647:=by
   rw [Int.tmod_eq_emod_of_nonneg (by omega)];omega
  have hb1:0≤v % 2147483647:=by omega
  have hb2:v % 2147483647 < 2147483647:=by omega
  generalize v % 2147483647=m at *
  refine ent Tryz.mix Tryz.func213 Tryz.ntmps213 ?_
  have W:=And.intro hm hm2
  refine wl ?_
  exact aM Tryz.results213
 ·have hm2:(-r+2147483647).tmod 2147483647=v % 2147483647:=by
   rw [Int.tmod_eq_emod_of_nonneg (by omega)]
   by_cases e:r=0
   ·rw [hz e,e];rfl
   ·rw [hnz e];omega
  generalize v % 2147483647=m at *
  refine ent Tryz.mix Tryz.func213 Tryz.ntmps213 ?_
  have W:=And.intro hm hm2
  refine wl ?_
  exact aM Tryz.results213
def uI (acc v:Int):Int:=(acc * 1000003+v % 2147483647+13) % 2147483647
def qZ (l:List Int):Int:=l.foldl uI 11
theorem aUm:∀(l:List Int),0≤qZ l∧qZ l < 2147483647:=by
 have:∀(l:List Int) (a:Int),0≤a∧a < 2147483647→0≤l.foldl uI a∧l.foldl uI a < 2147483647:=by
  intro l
  induction l with
  |nil=>intro a h;exact h
  |cons x l ih=>intro a h;exact ih _ (by unfold uI;omega)
 intro l
 exact this l 11 (by omega)
theorem aYz (l:List Int) (k:Nat) (h:k < l.length):qZ (l.take (k+1))=uI (qZ (l.take k)) l[k]:=by
 unfold qZ
 rw [List.take_succ_eq_append_getElem h,List.foldl_append]
 rfl
theorem aUn [aB Tryz.prog] (l:List Int) (hl:l.length≤1099511627776) (hr:∀y∈l,rgI y):Ok Tryz.prog 210 [.sl .view 1 (l.map jI)] (.int .i64 (qZ l)):=by
 refine ent Tryz.mix Tryz.func210 Tryz.ntmps210 ?_
 refine bA ?_
 refine aR (ι:={k:Nat // k≤l.length}) (fun t o i=>⟨aS t [(4,.int .i64 i.1),(3,.int .i64 (qZ (l.take i.1)))],o⟩)
  (fun i=>l.length - i.1) ⟨0,by simp⟩ (aO (by simp) (by simp [qZ])) ?_
 rintro ⟨k,hk⟩ K1 hK1
 simp only [aS,List.set_cons_succ,List.set_cons_zero] at hK1⊢
 have hk1:=wk1 (k:=k) (by omega)
 by_cases hlt:k < l.length
 ·have hg:=List.getElem?_eq_getElem hlt
  have hs:=aYz l k hlt
  have hb:=aUm (l.take k)
  have c1:=aYu l[k] (hr _ (List.getElem_mem hlt))
  have hm:(qZ (l.take k) * 1000003+l[k] % 2147483647+13).tmod 2147483647=qZ (l.take (k+1)):=by
   rw [hs,Int.tmod_eq_emod_of_nonneg (by omega)];rfl
  have hb1:0≤l[k] % 2147483647:=by omega
  have hb2:l[k] % 2147483647 < 2147483647:=by omega
  clear hs
  generalize ha':qZ (l.take (k+1))=a' at *
  generalize qZ (l.take k)=a at *
  generalize l[k] % 2147483647=m at *
  have W:=And.intro hk1 (And.intro hg (And.intro hlt hm))
  refine wl ?_
  all_goals exact hK1 _ ⟨k+1,by omega⟩ (aO (by simp) (by simp [ha'])) (by simp only;omega)
 ·have htk:l.take k=l:=List.take_of_length_le (by omega)
  rw [htk]
  have W:=hk1
  refine wl ?_
  exact aM Tryz.results210
def aDm (s:Str):List Int:=qE (fun c:UInt8=>(c.toNat:Int)) s
def pE (s:Str):List Int:=(s.length:Int)::aDm s
theorem aPf (s:Str) (k:Nat) (h:k < s.length):(aT s)[k]? =some [.int .u8 s[k].toNat]:=by
 simp [aT,h]
theorem aGh [aB Tryz.prog] (s:Str) (hl:s.length≤1099511627776):Ok Tryz.prog 211 [.sl .view 1 (aT s)] (.sl .own 1 ((pE s).map jI)):=by
 have hbl:=nE s
 refine ent Tryz.mix Tryz.func211 Tryz.ntmps211 ?_
 have W:=hbl
 refine wl ?_
 refine aR (ι:={q:Nat×Nat // q.1≤s.length∧1≤q.2}) (fun t o i=>⟨aS t [(3,.obj 0 i.1.2),(4,.int .i64 i.1.1)],o.take 0++[⟨true,false,1,i.1.2,((s.length:Int)::aDm (s.take i.1.1)).map jI⟩]⟩)
  (fun i=>s.length - i.1.1) ⟨(0,1),by simp,by first|(simp;done)|(simp only;omega)⟩ (aO (by simp [aDm]) (by simp)) ?_
 rintro ⟨⟨k,v⟩,hk,hv⟩ K1 hK1
 simp only at hk hv
 simp only [aS,List.set_cons_succ,List.set_cons_zero,List.take_succ_cons,List.take_zero,List.cons_append,List.nil_append] at hK1⊢
 have hk1:=wk1 (k:=k) (by omega)
 by_cases hlt:k < s.length
 ·have hg:=aPf s k hlt
  have hps:=aCm (fun c:UInt8=>(c.toNat:Int)) s k hlt
  have hpl:=vH (fun c:UInt8=>(c.toNat:Int)) (s.take k)
  have htl:(s.take k).length=k:=by simp;omega
  have hu:s[k].toNat < 256:=UInt8.toNat_lt s[k]
  have hlb:k < (aT s).length:=by omega
  simp only [aDm] at hK1⊢
  generalize qE (fun c:UInt8=>(c.toNat:Int)) (s.take k)=g at *
  have W:=And.intro hk1 (And.intro hg hbl)
  have V:=And.intro hk1 (And.intro hlt hbl)
  repeat' first|refine st ?_|(refine nx ?_;refine so ?_)|(refine cx ?_;first|refine sT ?_|refine sF ?_)|fail
  all_goals refine hK1 _ ⟨(k+1,v+1),by simp only;omega,by simp only;omega⟩ (aN 1 (by simp [hps])) (by simp only;omega)
 ·have htk:s.take k=s:=List.take_of_length_le (by omega)
  rw [htk]
  have W:=And.intro hk1 hbl
  refine wl ?_
  all_goals (try (refine ⟨.inr rfl,?_⟩;simp [Hands,Tryz.results211,pE]))
@[simp] theorem bFy (f:Tg→Option Tg) (b:Bool) (l:Str):rtr f b (aT l)=aT l:=by
 induction l with
 |nil=>rfl
 |cons x l ih=>simp only [aT,List.map_cons,rtr,rtc,rt] at ih⊢;rw [ih]
def yJ (s:Str):Int:=qZ (151::pE s)
theorem bBo (s:Str) (h:s.length≤60000000):∀y∈(151::pE s),rgI y:=by
 intro y hy
 unfold rgI
 rcases List.mem_cons.1 hy with rfl|hy
 ·omega
 rcases List.mem_cons.1 hy with rfl|hy
 ·omega
 ·simp only [aDm,qE,List.mem_map] at hy
  obtain ⟨c,_,rfl⟩:=hy
  have:c.toNat < 256:=UInt8.toNat_lt c
  omega
theorem aOv (s:Str):(pE s).length=s.length+1:=by simp [pE,aDm,qE]
theorem bBs (l:List Int):0≤qZ l∧qZ l≤2147483647:=by
 unfold qZ
 have:∀(l:List Int) (a:Int),0≤a∧a≤2147483647→0≤l.foldl uI a∧l.foldl uI a≤2147483647:=by
  intro l
  induction l with
  |nil=>intro a h;exact h
  |cons x l ih=>
   intro a _
   refine ih _ ?_
   unfold uI
   omega
 exact this l 11 (by omega)
theorem aKn [aB Tryz.prog] [dB Tryz.prog] (s:Str) (hl:s.length≤1048576):Ok Tryz.prog 201 [.str s] (.int .i64 (yJ s)):=by
 have c3:=aGh s (by omega)
 have c4:=aUn (151::pE s) (by simp only [List.length_cons,aOv];omega) (bBo _ (by omega))
 have hil:=aOv s
 have hq:(pE s).length≤1048577:=by omega
 simp only [List.map_cons] at c4
 unfold yJ
 generalize pE s=q at *
 refine ent Tryz.mix Tryz.func201 Tryz.ntmps201 ?_
 have W:=trivial
 repeat' first|refine st ?_|(refine nx ?_;first|refine se ?_|refine so ?_|refine sb ?_)|(refine cx ?_;refine sc (fun hc=>?_) (fun hc=>?_)<;>try exact hc.elim)|(refine lx ?_;refine sp (fun hc=>?_) (fun hc=>?_)<;>try exact hc.elim)|refine sx ?_ ?_|refine sy ?_ ?_|fail
 exact aM Tryz.results201
def yZ (body v:Str):Bool:=v == [] || v == Lib.itoa (yJ body)
theorem aGn [aB Tryz.prog] [dB Tryz.prog] (s v:Str) (hl:s.length≤1048576):Ok Tryz.prog 182 [.str s,.str v] (.bool (yZ s v)):=by
 have c1:=aKn s hl
 have hr:=bBs (151::pE s)
 have c2:=eX (yJ s) (by unfold yJ;omega)
 unfold yZ
 generalize yJ s=d at *
 generalize Lib.itoa d=t at *
 refine ent Tryz.mix Tryz.func182 Tryz.ntmps182 ?_
 have W:=trivial
 repeat' first|refine st ?_|(refine nx ?_;first|refine se ?_|refine so ?_|refine sb ?_)|(refine cx ?_;refine sc (fun hc=>?_) (fun hc=>?_)<;>try exact hc.elim)|(refine lx ?_;refine sp (fun hc=>?_) (fun hc=>?_)<;>try exact hc.elim)|refine sx ?_ ?_|refine sy ?_ ?_|fail
 all_goals (try (refine ⟨.inr rfl,?_⟩;simp [Hands,Tryz.results182]))
 all_goals simp_all
def aEy (x:aV) (k:Int):Bool:=decide (x.kind=k) || (decide (k=5)&&decide (x.kind=2))
theorem aMg [aB Tryz.prog] [dB Tryz.prog] (x:aV) (k:Int):Ok Tryz.prog 181 [.agg (cZ x),.int .i64 k] (.bool (aEy x k)):=by
 unfold aEy
 refine ent Tryz.mix Tryz.func181 Tryz.ntmps181 ?_
 have W:=trivial
 repeat' first|refine st ?_|(refine nx ?_;first|refine se ?_|refine so ?_|refine sb ?_)|(refine cx ?_;refine sc (fun hc=>?_) (fun hc=>?_)<;>try exact hc.elim)|(refine lx ?_;refine sp (fun hc=>?_) (fun hc=>?_)<;>try exact hc.elim)|refine sx ?_ ?_|refine sy ?_ ?_|fail
 all_goals (try (refine ⟨.inr rfl,?_⟩;simp [Hands,Tryz.results181]))
 all_goals first|(simp_all;done)|(by_cases hk2:x.kind=2<;>simp_all)
def aRa (r:dA) (x:aV):Bool:=decide (r.frm≠r.to.host)&& !x.shares&&(decide (r.kind=5) || decide (r.digest≠[]))
def gQ (p:dU) (r:dA) (x:aV):Int:=
 if eY p r≠1 then 2 else if iP x=false∨x.status≠200 then 3 else if aEy x r.kind=false then 4 else if aRa r x=true then 5 else if yZ x.body r.digest=false then 6 else 1
theorem rZ [aB Tryz.prog] [dB Tryz.prog] (p:dU) (r:dA) (x:aV) (hp:dX p≤274877906944) (hr:fE r≤274877906944) (hx:dC x≤1048576):Ok Tryz.prog 150 [.agg (bY .view p),.agg (bT r),.agg (cZ x)] (.int .i64 (gQ p r x)):=by
 have c1:=qC p r (by omega) (by omega)
 have c2:=uZ x (by omega)
 have c3:=aMg x r.kind
 have c4:=aGn x.body r.digest (by simp only [dC] at hx;omega)
 simp only [bY,bT] at c1
 simp only [cZ] at c2 c3
 unfold gQ aRa
 generalize eY p r=n at *
 generalize iP x=b2 at *
 generalize aEy x r.kind=b3 at *
 generalize yZ x.body r.digest=b4 at *
 by_cases h1:n=1
 ·subst h1
  refine ent Tryz.mix Tryz.func150 Tryz.ntmps150 ?_
  have W:=trivial
  repeat' first|refine st ?_|(refine nx ?_;first|refine se ?_|refine so ?_|refine sb ?_)|(refine cx ?_;refine sc (fun hc=>?_) (fun hc=>?_)<;>try exact hc.elim)|(refine lx ?_;refine sp (fun hc=>?_) (fun hc=>?_)<;>try exact hc.elim)|refine sx ?_ ?_|refine sy ?_ ?_|fail
  all_goals (try (refine ⟨.inr rfl,?_⟩;simp [Hands,Tryz.results150]))
  all_goals simp_all
 ·refine ent Tryz.mix Tryz.func150 Tryz.ntmps150 ?_
  have W:=h1
  repeat' first|refine st ?_|(refine nx ?_;first|refine se ?_|refine so ?_|refine sb ?_)|(refine cx ?_;refine sc (fun hc=>?_) (fun hc=>?_)<;>try exact hc.elim)|(refine lx ?_;refine sp (fun hc=>?_) (fun hc=>?_)<;>try exact hc.elim)|refine sx ?_ ?_|refine sy ?_ ?_|fail
  all_goals (try (refine ⟨.inr rfl,?_⟩;simp [Hands,Tryz.results150,h1]))
  all_goals simp_all
def mJ (p:dU) (r:dA) (x:aV):Str:=if gQ p r x=1 then x.body else []
theorem aAq [aB Tryz.prog] [dB Tryz.prog] (p:dU) (r:dA) (x:aV) (hp:dX p≤274877906944) (hr:fE r≤274877906944) (hx:dC x≤1048576):Ok Tryz.prog 151 [.agg (bY .view p),.agg (bT r),.agg (cZ x)] (.tup [.str (mJ p r x),.bool (decide (gQ p r x=1))]):=by
 have c1:=rZ p r x hp hr hx
 simp only [bY,bT,cZ] at c1
 unfold mJ
 generalize gQ p r x=n at *
 by_cases h1:n=1
 ·subst h1
  refine ent Tryz.mix Tryz.func151 Tryz.ntmps151 ?_
  have W:=trivial
  repeat' first|refine st ?_|(refine nx ?_;first|refine se ?_|refine so ?_|refine sb ?_)|(refine cx ?_;refine sc (fun hc=>?_) (fun hc=>?_)<;>try exact hc.elim)|(refine lx ?_;refine sp (fun hc=>?_) (fun hc=>?_)<;>try exact hc.elim)|refine sx ?_ ?_|refine sy ?_ ?_|fail
  exact aM Tryz.results151
 ·refine ent Tryz.mix Tryz.func151 Tryz.ntmps151 ?_
  have W:=h1
  repeat' first|refine st ?_|(refine nx ?_;first|refine se ?_|refine so ?_|refine sb ?_)|(refine cx ?_;refine sc (fun hc=>?_) (fun hc=>?_)<;>try exact hc.elim)|(refine lx ?_;refine sp (fun hc=>?_) (fun hc=>?_)<;>try exact hc.elim)|refine sx ?_ ?_|refine sy ?_ ?_|fail
  all_goals (try (refine ⟨.inr rfl,?_⟩;simp [Hands,Tryz.results151,h1]))
def filled (p:aC) (s:iK) (x:aV):iK:={s with done:=true,code:=gQ p.policy (iN p s) x,body:=mJ p.policy (iN p s) x}
def gD (p:aC) (k:Int) (x:aV):aC:=
 if 0≤k then match p.slots[k.toNat]? with
  |some s=>if s.done=true then p else {p with slots:=p.slots.set k.toNat (filled p s x)}
  |none=>p
 else p
theorem aWt {p:aC} {k:Int} {x:aV} (h:¬(0≤k∧k < p.slots.length)):gD p k x=p:=by
 unfold gD
 split
 ·have:p.slots[k.toNat]? =none:=by rw [List.getElem?_eq_none_iff];omega
  rw [this]
 ·rfl
theorem aOj {p:aC} {k:Int} {x:aV} {s:iK} (hg:p.slots[k.toNat]? =some s) (hd:s.done=true):gD p k x=p:=by
 unfold gD
 rw [hg]
 simp [hd]
theorem bDi {p:aC} {k:Int} {x:aV} {s:iK} (h0:0≤k) (hg:p.slots[k.toNat]? =some s) (hd:s.done=false):gD p k x={p with slots:=p.slots.set k.toNat (filled p s x)}:=by
 unfold gD
 rw [if_pos h0,hg]
 simp [hd]
theorem aUc (p:aC) {s:iK} {k:Nat} (hg:p.slots[k]? =some s):fE (iN p s)≤aJ p:=by
 have hm:=dL kH (List.mem_of_getElem? hg)
 simp only [kH] at hm
 simp only [fE,iN,aJ,aI,szL] at *
 omega
theorem aKh [aB Tryz.prog] [dB Tryz.prog] (p:aC) (k:Int) (x:aV) (hs:aJ p≤137438953472) (hx:dC x≤1048576):Ok Tryz.prog 154 [.agg (aG .view p),.int .i64 k,.agg (cZ x)] (.agg (aG .own (gD p k x))):=by
 have c1:=fH p (by omega)
 have hsn:p.slots.length≤274877906944:=by simp only [aJ,szL] at hs;omega
 have hpol:dX p.policy≤274877906944:=by simp only [aJ] at hs;omega
 have ci:=eQ k 0 ((p.slots.length:Int) - 1)
 by_cases hk0:k < 0
 ·rw [aWt (by omega)]
  rw [show (decide (0≤k)&&decide (k≤(p.slots.length:Int) - 1))=false by simp;omega] at ci
  simp only [aG] at c1
  refine ent Tryz.mix Tryz.func154 Tryz.ntmps154 ?_
  have W:=hk0
  refine we ?_
  exact aM Tryz.results154
 by_cases hk1:(p.slots.length:Int)≤k
 ·rw [aWt (by omega)]
  rw [show (decide (0≤k)&&decide (k≤(p.slots.length:Int) - 1))=false by simp;omega] at ci
  simp only [aG] at c1
  refine ent Tryz.mix Tryz.func154 Tryz.ntmps154 ?_
  have W:=And.intro hk0 hk1
  refine we ?_
  exact aM Tryz.results154
 have h0:0≤k:=by omega
 rw [show (decide (0≤k)&&decide (k≤(p.slots.length:Int) - 1))=true by simp;omega] at ci
 have hlt:k.toNat < p.slots.length:=by omega
 have hg:p.slots[k.toNat]? =some p.slots[k.toNat]:=List.getElem?_eq_getElem hlt
 cases hd:p.slots[k.toNat].done
 ·rw [bDi h0 hg hd]
  have c2:=tO p k h0 (by omega) (by omega)
  have hr:=aUc p hg
  have e:mQ p k=iN p p.slots[k.toNat]:=by simp [mQ,hg]
  rw [e] at c2
  have c3:=rZ p.policy (iN p p.slots[k.toNat]) x hpol (by omega) hx
  have c4:=aAq p.policy (iN p p.slots[k.toNat]) x hpol (by omega) hx
  have hset:∀(c:Int) (b:Str),(p.slots.map oG).set k.toNat [.int .i64 p.slots[k.toNat].mode,.str p.slots[k.toNat].to.host,.str p.slots[k.toNat].to.path,.str p.slots[k.toNat].digest,.int .i64 p.slots[k.toNat].node,.bool true,.int .i64 c,.str b]=(p.slots.set k.toNat {p.slots[k.toNat] with done:=true,code:=c,body:=b}).map oG:=by
   intro c b;rw [List.map_set];rfl
  have hset:=hset (gQ p.policy (iN p p.slots[k.toNat]) x) (mJ p.policy (iN p p.slots[k.toNat]) x)
  unfold filled
  generalize gQ p.policy (iN p p.slots[k.toNat]) x=c at *
  generalize mJ p.policy (iN p p.slots[k.toNat]) x=b at *
  generalize iN p p.slots[k.toNat]=q at *
  generalize p.slots.set k.toNat {p.slots[k.toNat] with done:=true,code:=c,body:=b}=l3 at *
  simp only [aG,bT] at c2
  simp only [bY,bT,cZ] at c3 c4
  simp only [aG] at c1
  simp only [aG]
  clear e
  refine ent Tryz.mix Tryz.func154 Tryz.ntmps154 ?_
  have W:=And.intro hk0 (And.intro hk1 (And.intro h0 (And.intro hg (And.intro hd hlt))))
  refine we ?_
  all_goals (try (refine ⟨.inr rfl,?_⟩;simp [Hands,Tryz.results154]))
  all_goals exact hset
 ·rw [aOj hg hd]
  simp only [aG] at c1
  refine ent Tryz.mix Tryz.func154 Tryz.ntmps154 ?_
  have W:=And.intro hk0 (And.intro hk1 (And.intro h0 (And.intro hg (And.intro hd hlt))))
  refine we ?_
  exact aM Tryz.results154
end Go.Proofs.YtaddkhdghlaalaaGreatDoor
