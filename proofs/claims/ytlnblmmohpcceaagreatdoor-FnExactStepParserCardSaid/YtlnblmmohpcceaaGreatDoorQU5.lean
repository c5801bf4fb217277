/-
  Proved here: steps towards the statement of this claim, text QU5.
  No condition beyond what each statement spells out.
-/
import Derived.Test.YtlnblmmohpcceaaGreatDoorQU3
import Derived.Test.YtlnblmmohpcceaaGreatDoorF6
import Derived.Test.YtlnblmmohpcceaaGreatDoorF3
import Derived.Test.YtlnblmmohpcceaaGreatDoorQMK6
import Derived.Test.YtlnblmmohpcceaaGreatDoorF2
set_option linter.all false
set_option maxRecDepth 4000
set_option maxHeartbeats 4000000
namespace Go.Proofs.YtlnblmmohpcceaaGreatDoor
open Go.Aw
theorem aTq [aA Tryz.prog] (a:aS) (hs:aI a≤1048576):Ok Tryz.prog 76 [.agg (aL .view a)] (.agg (aL .own a)):=by
 simp only [aI] at hs
 refine ent Tryz.mix Tryz.func76 Tryz.ntmps76 ?_
 have W:=trivial
 repeat' first|refine wl ?_|(refine nx ?_;first|refine sk (hc:=aW4 a.nodes (by omega)) (h:=?_)|refine sk (hc:=aZy a.opens (by omega)) (h:=?_))|(refine sq (fun hc=>?_) (fun hc=>?_)<;>try exact hc.elim)|fail
 all_goals (try (refine ⟨.inr rfl,?_⟩;simp [Hands,Tryz.results76]))
theorem aQr [aA Tryz.prog] (a:aS) (n:Int) (h0:0≤n) (h1:n≤1048576) (hw:aE5 a):Ok Tryz.prog 57 [.agg (aL .view a),.int .i64 n] (.int .i64 (sub n (aI a))):=by
 simp only [aE5] at hw
 obtain ⟨wnodes,wopens⟩:=hw
 refine ent Tryz.mix Tryz.func57 Tryz.ntmps57 ?_
 have W:=trivial
 repeat' first|refine wl ?_|(refine nx ?_;first|refine sk (hc:=aWp a.nodes _ (by omega) (by repeat' (first|omega|apply jA|apply gU)) wnodes) (h:=?_)|refine sk (hc:=aYh a.opens _ (by omega) (by repeat' (first|omega|apply jA|apply gU)) wopens) (h:=?_))|(refine sq (fun hc=>?_) (fun hc=>?_)<;>try exact hc.elim)|fail
 all_goals (try (refine ⟨.inr rfl,?_⟩;simp [Hands,Tryz.results57,aI]))
 all_goals (
  (try generalize e0:sub n (szL dW a.nodes)=m0 at *)
  (try (first|have f0:=iX e0 (by omega)|have f0:=gV e0 (by omega) (by omega)))
  (try generalize e1:sub m0 (a.opens.length)=m1 at *)
  (try (first|have f1:=iX e1 (by omega)|have f1:=gV e1 (by omega) (by omega)))
  repeat (simp (disch:=omega) only [wrap64] at *)
  (try simp only [sub]);(try split);all_goals omega)
theorem aQ5 [aA Tryz.prog] (a b:aS) (hs:aI a≤1099511627776):Ok Tryz.prog 94 [.agg (aL .view a),.agg (aL .view b)] (.bool (decide (a=b))):=by
 simp only [aI] at hs
 refine ent Tryz.mix Tryz.func94 Tryz.ntmps94 ?_
 have W:=trivial
 repeat' first|refine wl ?_|(refine nx ?_;first|refine sk (hc:=aX5 a.nodes b.nodes (by omega)) (h:=?_)|refine sk (hc:=aYt a.opens b.opens (by omega)) (h:=?_))|(refine sq (fun hc=>?_) (fun hc=>?_)<;>try exact hc.elim)|fail
 all_goals (try (refine ⟨.inr rfl,?_⟩;simp [Hands,Tryz.results94]))
 all_goals ((repeat clear hK K);cases a;cases b;simp_all)
theorem aDv {α β:Type} (f:α→β) (l:List α) (k:Nat) (h:k < l.length):(l.take (k+1)).map f=(l.take k).map f++[f l[k]]:=by
 rw [List.take_succ_eq_append_getElem h,List.map_append];rfl
theorem aDi [aA Tryz.prog] (l:List fA) (hl:l.length≤1099511627776):Ok Tryz.prog 210 [.sl .view 2 (l.map dI)] (.sl .own 2 (l.map dI)):=by
 refine ent Tryz.mix Tryz.func210 Tryz.ntmps210 ?_
 have W:=trivial
 repeat' first|refine we ?_|(refine sq (fun hc=>?_) (fun hc=>?_)<;>try exact hc.elim)|fail
 all_goals (try (refine ⟨.inr rfl,?_⟩;simp [Hands,Tryz.results210]))
theorem aSx [aA Tryz.prog] (t:aW) (hl:t.attrs.length≤1099511627776):Ok Tryz.prog 195 [.agg (aU .view t)] (.agg (aU .own t)):=by
 refine ent Tryz.mix Tryz.func195 Tryz.ntmps195 ?_
 have W:=trivial
 repeat' first|refine we ?_|(refine sq (fun hc=>?_) (fun hc=>?_)<;>try exact hc.elim)|fail
 all_goals (try (refine ⟨.inr rfl,?_⟩;simp [Hands,Tryz.results195]))
theorem aPb [aA Tryz.prog] (l:List aW) (hs:szL aV l≤274877906944):Ok Tryz.prog 127 [.sl .view 4 (l.map (aU .view))] (.sl .own 4 (l.map (aU .own))):=by
 simp only [szL] at hs
 refine ent Tryz.mix Tryz.func127 Tryz.ntmps127 ?_
 have W:=trivial
 repeat' first|refine we ?_|(refine sq (fun hc=>?_) (fun hc=>?_)<;>try exact hc.elim)|fail
 refine aM (ι:={q:Nat×Nat // q.1≤l.length∧1≤q.2}) (fun t o i=>⟨aO t [(3,.obj 0 i.1.2),(9,.int .i64 i.1.1),(5,.undef)],o.take 0++[⟨true,false,4,i.1.2,(l.take i.1.1).map (aU .own)⟩]⟩)
  (fun i=>l.length - i.1.1) ⟨(0,1),by simp,by first|(simp;done)|(simp only;omega)⟩ (aH (by simp) (by simp)) ?_
 rintro ⟨⟨k,v⟩,hk,hv⟩ K1 hK1
 simp only at hk hv
 simp only [aO,List.set_cons_succ,List.set_cons_zero,List.take_succ_cons,List.take_zero,List.cons_append,List.nil_append] at hK1⊢
 have hk1:IntKind.i64.wrap ((k:Int)+1)=((k+1:Nat):Int):=by rw [wrap64]<;>omega
 by_cases hlt:k < l.length
 ·have hg:=List.getElem?_eq_getElem hlt
  have hps:=aDv (aU .own) l k hlt
  have hz:=dO aV l k hlt
  simp only [aV,szL] at hz
  have c1:=aSx l[k] (by omega)
  simp only [aU] at c1
  have hgl:((l.take k).map (aU .own)).length=k:=by simp;omega
  generalize (l.take k).map (aU .own)=g at *
  have W:=And.intro hk1 (And.intro hg (And.intro hlt hgl))
  repeat' first|refine we ?_|(refine sq (fun hc=>?_) (fun hc=>?_)<;>try exact hc.elim)|fail
  all_goals refine hK1 _ ⟨(k+1,v+1),by simp only;omega,by simp only;omega⟩ (aQ 1 (by simp [hps]) (by simp) (by simp) (by simp)) (by simp only;omega)
 ·have htk:l.take k=l:=List.take_of_length_le (by omega)
  rw [htk]
  have W:=hk1
  repeat' first|refine we ?_|(refine sq (fun hc=>?_) (fun hc=>?_)<;>try exact hc.elim)|fail
  all_goals (try (refine ⟨.inr rfl,?_⟩;simp [Hands,Tryz.results127]))
theorem aOp [aA Tryz.prog] (l:List aW) (hs:szL aV l≤274877906944):Ok Tryz.prog 148 [.sl .view 4 (l.map (aU .view))] (.sl .own 4 (l.map (aU .own))):=by
 simp only [szL] at hs
 refine ent Tryz.mix Tryz.func148 Tryz.ntmps148 ?_
 have W:=trivial
 repeat' first|refine we ?_|(refine sq (fun hc=>?_) (fun hc=>?_)<;>try exact hc.elim)|fail
 refine aM (ι:={q:Nat×Nat // q.1≤l.length∧1≤q.2}) (fun t o i=>⟨aO t [(3,.obj 0 i.1.2),(4,.int .i64 i.1.1),(5,.undef)],o.take 0++[⟨true,false,4,i.1.2,(l.take i.1.1).map (aU .own)⟩]⟩)
  (fun i=>l.length - i.1.1) ⟨(0,1),by simp,by first|(simp;done)|(simp only;omega)⟩ (aH (by simp) (by simp)) ?_
 rintro ⟨⟨k,v⟩,hk,hv⟩ K1 hK1
 simp only at hk hv
 simp only [aO,List.set_cons_succ,List.set_cons_zero,List.take_succ_cons,List.take_zero,List.cons_append,List.nil_append] at hK1⊢
 have hk1:IntKind.i64.wrap ((k:Int)+1)=((k+1:Nat):Int):=by rw [wrap64]<;>omega
 by_cases hlt:k < l.length
 ·have hg:=List.getElem?_eq_getElem hlt
  have hps:=aDv (aU .own) l k hlt
  have hz:=dO aV l k hlt
  simp only [aV,szL] at hz
  have c1:=aDi l[k].attrs (by omega)
  have hgl:((l.take k).map (aU .own)).length=k:=by simp;omega
  generalize (l.take k).map (aU .own)=g at *
  have W:=And.intro hk1 (And.intro hg (And.intro hlt hgl))
  repeat' first|refine we ?_|(refine sq (fun hc=>?_) (fun hc=>?_)<;>try exact hc.elim)|fail
  all_goals refine hK1 _ ⟨(k+1,v+1),by simp only;omega,by simp only;omega⟩ (aQ 1 (by simp [hps]) (by simp) (by simp) (by simp)) (by simp only;omega)
 ·have htk:l.take k=l:=List.take_of_length_le (by omega)
  rw [htk]
  have W:=hk1
  repeat' first|refine we ?_|(refine sq (fun hc=>?_) (fun hc=>?_)<;>try exact hc.elim)|fail
  all_goals (try (refine ⟨.inr rfl,?_⟩;simp [Hands,Tryz.results148]))
theorem aOq [aA Tryz.prog] (a:fC) (hs:gL a≤274877906944):Ok Tryz.prog 126 [.agg (bJ .view a)] (.agg (bJ .own a)):=by
 simp only [gL,szL] at hs
 refine ent Tryz.mix Tryz.func126 Tryz.ntmps126 ?_
 have W:=trivial
 repeat' first|refine we ?_|(refine sq (fun hc=>?_) (fun hc=>?_)<;>try exact hc.elim)|fail
 all_goals (try (refine ⟨.inr rfl,?_⟩;simp [Hands,Tryz.results126]))
theorem aPm [aA Tryz.prog] (a:fC) (hs:gL a≤274877906944):Ok Tryz.prog 147 [.agg (bJ .view a)] (.agg (bJ .own a)):=by
 simp only [gL,szL] at hs
 refine ent Tryz.mix Tryz.func147 Tryz.ntmps147 ?_
 have W:=trivial
 repeat' first|refine we ?_|(refine sq (fun hc=>?_) (fun hc=>?_)<;>try exact hc.elim)|fail
 all_goals (try (refine ⟨.inr rfl,?_⟩;simp [Hands,Tryz.results147]))
def kR (t:iU):List aW:=if t.rest=[]∨t.rest.head? =some 60 then [] else [⟨3,[],[],t.rest⟩]
theorem aN4 (u:List Nat) (b:Bool) (l:List dA):rtr (dQ u) b (l.map (bB .view))=l.map (bB .view):=by
 induction l with
 |nil=>rfl
 |cons x l ih=>rw [List.map_cons,rtr,ih];simp [rtc,rt,bB,dQ]
theorem jG [aA Tryz.prog] (b:aS) (hs:aI b≤274877906944):Ok Tryz.prog 128 [.agg (aL .view b)] (.agg (aL .own b)):=by
 simp only [aI,szL] at hs
 obtain ⟨l,opens⟩:=b
 simp only at hs
 refine ent Tryz.mix Tryz.func128 Tryz.ntmps128 ?_
 have W:=trivial
 repeat' first|refine we ?_|(refine sq (fun hc=>?_) (fun hc=>?_)<;>try exact hc.elim)|fail
 refine aM (ι:={q:Nat×Nat // q.1≤l.length∧1≤q.2}) (fun t o i=>⟨aO t [(14,.int .i64 i.1.1),(5,.undef),(10,.undef)],o.take 3++[⟨true,true,2,0,[[.obj 4 i.1.2,.obj 2 2]]⟩,⟨true,false,4,i.1.2,(l.take i.1.1).map (bB .own)⟩]⟩)
  (fun i=>l.length - i.1.1) ⟨(0,1),by simp,by simp⟩ (pR 3 0 0 (ob:=⟨true,true,2,0,[[.sl .own 4 [],.obj 2 2]]⟩) (by rfl) (by rfl) (by rfl) (by simp) (by rfl) (by rfl) (by simp) (by simp [rtc,rt,dQ,aN4])) ?_
 rintro ⟨⟨k,v⟩,hk,hv⟩ K1 hK1
 simp only at hk hv
 simp only [aO,List.set_cons_succ,List.set_cons_zero,List.take_succ_cons,List.take_zero,List.cons_append,List.nil_append] at hK1⊢
 have hk1:IntKind.i64.wrap ((k:Int)+1)=((k+1:Nat):Int):=by rw [wrap64]<;>omega
 by_cases hlt:k < l.length
 ·have hg:=List.getElem?_eq_getElem hlt
  have hps:=aDv (bB .own) l k hlt
  have hz:=dO dW l k hlt
  simp only [dW,szL] at hz
  have hgl:((l.take k).map (bB .own)).length=k:=by simp;omega
  generalize (l.take k).map (bB .own)=g at *
  have W:=And.intro hk1 (And.intro hg (And.intro hlt hgl))
  repeat' first|refine we ?_|(refine sq (fun hc=>?_) (fun hc=>?_)<;>try exact hc.elim)|fail
  all_goals refine hK1 _ ⟨(k+1,v+1),by simp only;omega,by simp only;omega⟩ (aQ 5 (by simp [hps]) (by simp) (by simp) (by simp)) (by simp only;omega)
 ·have htk:l.take k=l:=List.take_of_length_le (by omega)
  rw [htk]
  have W:=hk1
  repeat' first|refine we ?_|(refine sq (fun hc=>?_) (fun hc=>?_)<;>try exact hc.elim)|fail
  all_goals (try (refine ⟨.inr rfl,?_⟩;simp [Hands,Tryz.results128]))
theorem jH [aA Tryz.prog] (b:aS) (hs:aI b≤274877906944):Ok Tryz.prog 149 [.agg (aL .view b)] (.agg (aL .own b)):=by
 simp only [aI,szL] at hs
 obtain ⟨l,opens⟩:=b
 simp only at hs
 refine ent Tryz.mix Tryz.func149 Tryz.ntmps149 ?_
 have W:=trivial
 repeat' first|refine we ?_|(refine sq (fun hc=>?_) (fun hc=>?_)<;>try exact hc.elim)|fail
 refine aM (ι:={q:Nat×Nat // q.1≤l.length∧1≤q.2}) (fun t o i=>⟨aO t [(4,.int .i64 i.1.1),(5,.undef),(10,.undef)],o.take 3++[⟨true,true,2,0,[[.obj 4 i.1.2,.obj 2 2]]⟩,⟨true,false,4,i.1.2,(l.take i.1.1).map (bB .own)⟩]⟩)
  (fun i=>l.length - i.1.1) ⟨(0,1),by simp,by simp⟩ (pR 3 0 0 (ob:=⟨true,true,2,0,[[.sl .own 4 [],.obj 2 2]]⟩) (by rfl) (by rfl) (by rfl) (by simp) (by rfl) (by rfl) (by simp) (by simp [rtc,rt,dQ,aN4])) ?_
 rintro ⟨⟨k,v⟩,hk,hv⟩ K1 hK1
 simp only at hk hv
 simp only [aO,List.set_cons_succ,List.set_cons_zero,List.take_succ_cons,List.take_zero,List.cons_append,List.nil_append] at hK1⊢
 have hk1:IntKind.i64.wrap ((k:Int)+1)=((k+1:Nat):Int):=by rw [wrap64]<;>omega
 by_cases hlt:k < l.length
 ·have hg:=List.getElem?_eq_getElem hlt
  have hps:=aDv (bB .own) l k hlt
  have hz:=dO dW l k hlt
  simp only [dW,szL] at hz
  have c1:=aDi l[k].attrs (by omega)
  have hgl:((l.take k).map (bB .own)).length=k:=by simp;omega
  generalize (l.take k).map (bB .own)=g at *
  have W:=And.intro hk1 (And.intro hg (And.intro hlt hgl))
  repeat' first|refine we ?_|(refine sq (fun hc=>?_) (fun hc=>?_)<;>try exact hc.elim)|fail
  all_goals refine hK1 _ ⟨(k+1,v+1),by simp only;omega,by simp only;omega⟩ (aQ 5 (by simp [hps]) (by simp) (by simp) (by simp)) (by simp only;omega)
 ·have htk:l.take k=l:=List.take_of_length_le (by omega)
  rw [htk]
  have W:=hk1
  repeat' first|refine we ?_|(refine sq (fun hc=>?_) (fun hc=>?_)<;>try exact hc.elim)|fail
  all_goals (try (refine ⟨.inr rfl,?_⟩;simp [Hands,Tryz.results149]))
theorem aY4 (s:Str) (k:Nat) (h:k < s.length):(eD s)[k]? =some [.int .u8 s[k].toNat]:=by
 simp [eD,h]
theorem aFj:∀s:Str,bytesOf (eD s)=some s
 |[]=>rfl
 |c::s=>by
  have ih:=aFj s
  simp only [eD,List.map_cons] at ih⊢
  simp only [bytesOf,ih,Option.map_some,Int.toNat_natCast]
  simp
@[simp] theorem bGv (f:Tg→Option Tg) (b:Bool) (l:Str):rtr f b (eD l)=eD l:=by
 induction l with
 |nil=>rfl
 |cons x l ih=>simp only [eD,List.map_cons,rtr,rtc,rt] at ih⊢;rw [ih]
def upTo (s:Str) (k:Nat):Str:=(s.take k).map kK++s.drop k
theorem aSe (s:Str) (k:Nat):(upTo s k).length=s.length:=by
 unfold upTo
 rw [List.length_append,List.length_map,List.length_take,List.length_drop];omega
theorem aRq (s:Str) (k:Nat) (h:k < s.length):(upTo s k)[k]? =some s[k]:=by
 unfold upTo
 rw [List.getElem?_append_right (by rw [List.length_map,List.length_take];omega)]
 simp [show min k s.length=k by omega,List.getElem?_eq_getElem h]
theorem aTh (s:Str) (k:Nat) (h:k < s.length):(upTo s k).set k (kK s[k])=upTo s (k+1):=by
 unfold upTo
 have hl:((s.take k).map kK).length=k:=by simp;omega
 rw [List.set_append_right _ _ (by omega),hl,Nat.sub_self,List.drop_eq_getElem_cons h,List.set_cons_zero,List.take_succ_eq_append_getElem h,List.map_append]
 simp
theorem aZb (s:Str) (k:Nat) (h:k < s.length) (hm:kK s[k]=s[k]):upTo s (k+1)=upTo s k:=by
 rw [←aTh s k h,hm]
 have e:=aRq s k h
 refine List.ext_getElem? fun i=> ?_
 rw [List.getElem?_set]
 split
 ·rename_i hi
  subst hi
  rw [if_pos (by rw [aSe];exact h)]
  exact e.symm
 ·rfl
theorem aQb (l:Str) (k:Nat) (c:UInt8):(eD l).set k [.int .u8 c.toNat]=eD (l.set k c):=by simp [eD,List.map_set]
theorem mZ [aA Tryz.prog] (s:Str) (hl:s.length≤1099511627776):Ok Tryz.prog 261 [.str s] (.str (s.map kK)):=by
 refine ent Tryz.mix Tryz.func261 Tryz.ntmps261 ?_
 have W:=trivial
 repeat' first|refine st ?_|(refine nx ?_;first|refine se ?_|refine so ?_|refine sb ?_)|(refine cx ?_;refine sc (fun hc=>?_) (fun hc=>?_)<;>try exact hc.elim)|(refine lx ?_;refine sp (fun hc=>?_) (fun hc=>?_)<;>try exact hc.elim)|refine sx ?_ ?_|refine sy ?_ ?_|fail
 refine aM (ι:={k:Nat // k≤s.length}) (fun t o i=>⟨aO t [(4,.int .i64 i.1)],[⟨true,false,1,1,eD (upTo s i.1)⟩]⟩)
  (fun i=>s.length - i.1) ⟨0,by simp⟩ (aH (by simp [upTo]) (by simp)) ?_
 rintro ⟨k,hk⟩ K1 hK1
 simp only [aO,List.set_cons_succ,List.set_cons_zero] at hK1⊢
 have hk1:IntKind.i64.wrap ((k:Int)+1)=((k+1:Nat):Int):=by rw [wrap64]<;>omega
 by_cases hlt:k < s.length
 ·have hul:=aSe s k
  have hug:=aRq s k hlt
  have hbl:=oD (upTo s k)
  have hg:(eD (upTo s k))[k]? =some [.int .u8 s[k].toNat]:=by
   rw [aY4 _ _ (by omega)]
   rw [List.getElem?_eq_getElem (by omega)] at hug
   rw [Option.some.inj hug]
  have hlb:k < (eD (upTo s k)).length:=by omega
  have hs1:=aTh s k hlt
  have hsame:=aZb s k hlt
  by_cases h1:s[k]=91
  ·have h1i:((s[k].toNat:Nat):Int)=91:=by rw [h1];rfl
   have hset:(eD (upTo s k)).set k [.int .u8 60]=eD (upTo s (k+1)):=by
    rw [←hs1,←aQb];simp [kK,h1]
   have W:=And.intro hk1 (And.intro hg (And.intro hbl (And.intro hul (And.intro h1i hset))))
   have V:=And.intro hlb hlt
   repeat' first|refine st ?_|(refine nx ?_;first|refine se ?_|refine so ?_|refine sb ?_)|(refine cx ?_;refine sc (fun hc=>?_) (fun hc=>?_)<;>try exact hc.elim)|(refine lx ?_;refine sp (fun hc=>?_) (fun hc=>?_)<;>try exact hc.elim)|refine sx ?_ ?_|refine sy ?_ ?_|fail
   all_goals exact hK1 _ ⟨k+1,by omega⟩ (aH (by simp) (by simp)) (by simp only;omega)
  ·have h1i:¬((s[k].toNat:Nat):Int)=91:=fun h=>h1 (UInt8.toNat.inj (by exact_mod_cast h))
   by_cases h2:s[k]=93
   ·have h2i:((s[k].toNat:Nat):Int)=93:=by rw [h2];rfl
    have hset:(eD (upTo s k)).set k [.int .u8 62]=eD (upTo s (k+1)):=by
     rw [←hs1,←aQb];simp [kK,h2]
    have W:=And.intro hk1 (And.intro hg (And.intro hbl (And.intro hul (And.intro h1i (And.intro h2i hset)))))
    have V:=And.intro hlb hlt
    repeat' first|refine st ?_|(refine nx ?_;first|refine se ?_|refine so ?_|refine sb ?_)|(refine cx ?_;refine sc (fun hc=>?_) (fun hc=>?_)<;>try exact hc.elim)|(refine lx ?_;refine sp (fun hc=>?_) (fun hc=>?_)<;>try exact hc.elim)|refine sx ?_ ?_|refine sy ?_ ?_|fail
    all_goals exact hK1 _ ⟨k+1,by omega⟩ (aH (by simp) (by simp)) (by simp only;omega)
   ·have h2i:¬((s[k].toNat:Nat):Int)=93:=fun h=>h2 (UInt8.toNat.inj (by exact_mod_cast h))
    have hsm:=hsame (by simp [kK,h1,h2])
    have W:=And.intro hk1 (And.intro hg (And.intro hbl (And.intro hul (And.intro h1i h2i))))
    have V:=And.intro hlb hlt
    repeat' first|refine st ?_|(refine nx ?_;first|refine se ?_|refine so ?_|refine sb ?_)|(refine cx ?_;refine sc (fun hc=>?_) (fun hc=>?_)<;>try exact hc.elim)|(refine lx ?_;refine sp (fun hc=>?_) (fun hc=>?_)<;>try exact hc.elim)|refine sx ?_ ?_|refine sy ?_ ?_|fail
    all_goals exact hK1 _ ⟨k+1,by omega⟩ (aH (by simp [hsm]) (by simp)) (by simp only;omega)
 ·have hk2:k=s.length:=by omega
  have hup:upTo s k=s.map kK:=by simp [upTo,hk2]
  have hul:(s.map kK).length=s.length:=by simp
  have hbl:=oD (s.map kK)
  have hbo:=aFj (s.map kK)
  rw [hup]
  have hnk:¬k < s.length:=hlt
  have W:=And.intro hk1 (And.intro hbl (And.intro hul hbo))
  repeat' first|refine st ?_|(refine nx ?_;first|refine se ?_|refine so ?_|refine sb ?_)|(refine cx ?_;refine sc (fun hc=>?_) (fun hc=>?_)<;>try exact hc.elim)|(refine lx ?_;refine sp (fun hc=>?_) (fun hc=>?_)<;>try exact hc.elim)|refine sx ?_ ?_|refine sy ?_ ?_|fail
  all_goals (try (refine ⟨.inr rfl,?_⟩;simp [Hands,Tryz.results261]))
def aP (b:aS) (n:Str):Int:=(((b.nodes.filter fun x=>decide (x.name=n)).length:Nat):Int)
theorem aKn (b:aS) (n:Str) (k:Nat) (h:k < b.nodes.length):((b.nodes.take (k+1)).filter fun x=>decide (x.name=n)).length=((b.nodes.take k).filter fun x=>decide (x.name=n)).length+(if b.nodes[k].name=n then 1 else 0):=by
 rw [List.take_succ_eq_append_getElem h,List.filter_append,List.length_append]
 congr 1
 by_cases hn:b.nodes[k].name=n<;>simp [hn]
end Go.Proofs.YtlnblmmohpcceaaGreatDoor
