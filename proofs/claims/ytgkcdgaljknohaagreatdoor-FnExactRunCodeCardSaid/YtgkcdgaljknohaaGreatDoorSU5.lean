/-
  Proved here: steps towards the statement of this claim, text SU5.
  No condition beyond what each statement spells out.
-/
import Derived.Test.YtgkcdgaljknohaaGreatDoorU4
import Derived.Test.YtgkcdgaljknohaaGreatDoorF6
set_option linter.all false
set_option maxRecDepth 4000
set_option maxHeartbeats 4000000
namespace Go.Proofs.YtgkcdgaljknohaaGreatDoor
open Go.Aw
theorem toBuilder_ok [Tabs Tryz.prog] (a:DBuilder) (hs:szBuilder a≤1048576):Ok Tryz.prog 43 [.agg (eBuilder .view a)] (.agg (eBuilder .own a)):=by
 simp only [szBuilder] at hs
 refine ent Tryz.mix Tryz.func43 Tryz.ntmps43 ?_
 have W:=trivial
 repeat' first|refine wl ?_|(refine nx ?_;first|refine sk (hc:=toNodeS_ok a.nodes (by omega)) (h:=?_)|refine sk (hc:=toIntS_ok a.opens (by omega)) (h:=?_))|refine sq (fun hc=>?_) fun hc=>?_|fail
 all_goals (try (refine ⟨.inr rfl,?_⟩;simp [Hands,Tryz.results43]))
theorem szBuilder_ok [Tabs Tryz.prog] (a:DBuilder) (n:Int) (h0:0≤n) (h1:n≤1048576) (hw:wfBuilder a):Ok Tryz.prog 30 [.agg (eBuilder .view a),.int .i64 n] (.int .i64 (sub n (szBuilder a))):=by
 simp only [wfBuilder] at hw
 obtain ⟨wnodes,wopens⟩:=hw
 refine ent Tryz.mix Tryz.func30 Tryz.ntmps30 ?_
 have W:=trivial
 repeat' first|refine wl ?_|(refine nx ?_;first|refine sk (hc:=szNodeS_ok a.nodes _ (by omega) (by repeat' (first|omega|apply purse_le|apply purse_len)) wnodes) (h:=?_)|refine sk (hc:=szIntS_ok a.opens _ (by omega) (by repeat' (first|omega|apply purse_le|apply purse_len)) wopens) (h:=?_))|refine sq (fun hc=>?_) fun hc=>?_|fail
 all_goals (try (refine ⟨.inr rfl,?_⟩;simp [Hands,Tryz.results30,szBuilder]))
 all_goals (
  (try generalize e0:sub n (szL szNode a.nodes)=m0 at *)
  (try (first|have f0:=purse_ok e0 (by omega)|have f0:=purse_bad e0 (by omega) (by omega)))
  (try generalize e1:sub m0 (a.opens.length)=m1 at *)
  (try (first|have f1:=purse_ok e1 (by omega)|have f1:=purse_bad e1 (by omega) (by omega)))
  repeat (simp (disch:=omega) only [wrap64] at *)
  (try simp only [sub]);(try split);all_goals omega)
theorem eqBuilder_ok [Tabs Tryz.prog] (a b:DBuilder) (hs:szBuilder a≤1099511627776):Ok Tryz.prog 56 [.agg (eBuilder .view a),.agg (eBuilder .view b)] (.bool (decide (a=b))):=by
 simp only [szBuilder] at hs
 refine ent Tryz.mix Tryz.func56 Tryz.ntmps56 ?_
 have W:=trivial
 repeat' first|refine wl ?_|(refine nx ?_;first|refine sk (hc:=eqNodeS_ok a.nodes b.nodes (by omega)) (h:=?_)|refine sk (hc:=eqIntS_ok a.opens b.opens (by omega)) (h:=?_))|refine sq (fun hc=>?_) fun hc=>?_|fail
 all_goals (try (refine ⟨.inr rfl,?_⟩;simp [Hands,Tryz.results56]))
 all_goals ((repeat clear hK K);cases a;cases b;simp_all)
end Go.Proofs.YtgkcdgaljknohaaGreatDoor

set_option maxRecDepth 4000
set_option maxHeartbeats 4000000
namespace Go.Proofs.YtgkcdgaljknohaaGreatDoor
open Go.Aw
theorem map_succ {α β:Type} (f:α→β) (l:List α) (k:Nat) (h:k < l.length):(l.take (k+1)).map f=(l.take k).map f++[f l[k]]:=by
 rw [List.take_succ_eq_append_getElem h,List.map_append];rfl
theorem l6Attrs_ok [Tabs Tryz.prog] (l:List DAttr) (hl:l.length≤1099511627776):Ok Tryz.prog 169 [.sl .view 2 (l.map eAttr)] (.sl .own 2 (l.map eAttr)):=by
 refine ent Tryz.mix Tryz.func169 Tryz.ntmps169 ?_
 have W:=trivial
 repeat' first|refine we ?_|refine sq (fun hc=>?_) fun hc=>?_|fail
 all_goals (try (refine ⟨.inr rfl,?_⟩;simp [Hands,Tryz.results169]))
theorem copyToken_ok [Tabs Tryz.prog] (t:DToken) (hl:t.attrs.length≤1099511627776):Ok Tryz.prog 181 [.agg (eToken .view t)] (.agg (eToken .own t)):=by
 refine ent Tryz.mix Tryz.func181 Tryz.ntmps181 ?_
 have W:=trivial
 repeat' first|refine we ?_|refine sq (fun hc=>?_) fun hc=>?_|fail
 all_goals (try (refine ⟨.inr rfl,?_⟩;simp [Hands,Tryz.results181]))
theorem copyTokens_ok [Tabs Tryz.prog] (l:List DToken) (hs:szL szToken l≤274877906944):Ok Tryz.prog 119 [.sl .view 4 (l.map (eToken .view))] (.sl .own 4 (l.map (eToken .own))):=by
 simp only [szL] at hs
 refine ent Tryz.mix Tryz.func119 Tryz.ntmps119 ?_
 have W:=trivial
 repeat' first|refine we ?_|refine sq (fun hc=>?_) fun hc=>?_|fail
 refine awp_loop' (ι:={q:Nat×Nat // q.1≤l.length∧1≤q.2}) (fun t o i=>⟨upds t [(3,.obj 0 i.1.2),(9,.int .i64 i.1.1),(5,.undef)],o.take 0++[⟨true,false,4,i.1.2,(l.take i.1.1).map (eToken .own)⟩]⟩)
  (fun i=>l.length - i.1.1) ⟨(0,1),by simp,by first|(simp;done)|(simp only;omega)⟩ (weak_o (by simp) (by simp)) ?_
 rintro ⟨⟨k,v⟩,hk,hv⟩ K1 hK1
 simp only at hk hv
 simp only [upds,List.set_cons_succ,List.set_cons_zero,List.take_succ_cons,List.take_zero,List.cons_append,List.nil_append] at hK1⊢
 have hk1:IntKind.i64.wrap ((k:Int)+1)=((k+1:Nat):Int):=by rw [wrap64]<;>omega
 by_cases hlt:k < l.length
 ·have hg:=List.getElem?_eq_getElem hlt
  have hps:=map_succ (eToken .own) l k hlt
  have hz:=sumN_get_le szToken l k hlt
  simp only [szToken,szL] at hz
  have c1:=copyToken_ok l[k] (by omega)
  simp only [eToken] at c1
  have hgl:((l.take k).map (eToken .own)).length=k:=by simp;omega
  generalize (l.take k).map (eToken .own)=g at *
  have W:=And.intro hk1 (And.intro hg (And.intro hlt hgl))
  repeat' first|refine we ?_|refine sq (fun hc=>?_) fun hc=>?_|fail
  all_goals refine hK1 _ ⟨(k+1,v+1),by simp only;omega,by simp only;omega⟩ (weak_take 1 (by simp [hps]) (by simp) (by simp) (by simp)) (by simp only;omega)
 ·have htk:l.take k=l:=List.take_of_length_le (by omega)
  rw [htk]
  have W:=hk1
  repeat' first|refine we ?_|refine sq (fun hc=>?_) fun hc=>?_|fail
  all_goals (try (refine ⟨.inr rfl,?_⟩;simp [Hands,Tryz.results119]))
theorem specTokens_ok [Tabs Tryz.prog] (l:List DToken) (hs:szL szToken l≤274877906944):Ok Tryz.prog 105 [.sl .view 4 (l.map (eToken .view))] (.sl .own 4 (l.map (eToken .own))):=by
 simp only [szL] at hs
 refine ent Tryz.mix Tryz.func105 Tryz.ntmps105 ?_
 have W:=trivial
 repeat' first|refine we ?_|refine sq (fun hc=>?_) fun hc=>?_|fail
 refine awp_loop' (ι:={q:Nat×Nat // q.1≤l.length∧1≤q.2}) (fun t o i=>⟨upds t [(3,.obj 0 i.1.2),(4,.int .i64 i.1.1),(5,.undef)],o.take 0++[⟨true,false,4,i.1.2,(l.take i.1.1).map (eToken .own)⟩]⟩)
  (fun i=>l.length - i.1.1) ⟨(0,1),by simp,by first|(simp;done)|(simp only;omega)⟩ (weak_o (by simp) (by simp)) ?_
 rintro ⟨⟨k,v⟩,hk,hv⟩ K1 hK1
 simp only at hk hv
 simp only [upds,List.set_cons_succ,List.set_cons_zero,List.take_succ_cons,List.take_zero,List.cons_append,List.nil_append] at hK1⊢
 have hk1:IntKind.i64.wrap ((k:Int)+1)=((k+1:Nat):Int):=by rw [wrap64]<;>omega
 by_cases hlt:k < l.length
 ·have hg:=List.getElem?_eq_getElem hlt
  have hps:=map_succ (eToken .own) l k hlt
  have hz:=sumN_get_le szToken l k hlt
  simp only [szToken,szL] at hz
  have c1:=l6Attrs_ok l[k].attrs (by omega)
  have hgl:((l.take k).map (eToken .own)).length=k:=by simp;omega
  generalize (l.take k).map (eToken .own)=g at *
  have W:=And.intro hk1 (And.intro hg (And.intro hlt hgl))
  repeat' first|refine we ?_|refine sq (fun hc=>?_) fun hc=>?_|fail
  all_goals refine hK1 _ ⟨(k+1,v+1),by simp only;omega,by simp only;omega⟩ (weak_take 1 (by simp [hps]) (by simp) (by simp) (by simp)) (by simp only;omega)
 ·have htk:l.take k=l:=List.take_of_length_le (by omega)
  rw [htk]
  have W:=hk1
  repeat' first|refine we ?_|refine sq (fun hc=>?_) fun hc=>?_|fail
  all_goals (try (refine ⟨.inr rfl,?_⟩;simp [Hands,Tryz.results105]))
theorem copyPolicy_ok [Tabs Tryz.prog] (a:DPolicy) (hs:szPolicy a≤274877906944):Ok Tryz.prog 118 [.agg (ePolicy .view a)] (.agg (ePolicy .own a)):=by
 simp only [szPolicy,szL] at hs
 refine ent Tryz.mix Tryz.func118 Tryz.ntmps118 ?_
 have W:=trivial
 repeat' first|refine we ?_|refine sq (fun hc=>?_) fun hc=>?_|fail
 all_goals (try (refine ⟨.inr rfl,?_⟩;simp [Hands,Tryz.results118]))
theorem specPolicy_ok [Tabs Tryz.prog] (a:DPolicy) (hs:szPolicy a≤274877906944):Ok Tryz.prog 104 [.agg (ePolicy .view a)] (.agg (ePolicy .own a)):=by
 simp only [szPolicy,szL] at hs
 refine ent Tryz.mix Tryz.func104 Tryz.ntmps104 ?_
 have W:=trivial
 repeat' first|refine we ?_|refine sq (fun hc=>?_) fun hc=>?_|fail
 all_goals (try (refine ⟨.inr rfl,?_⟩;simp [Hands,Tryz.results104]))
def endText (t:DTokenizer):List DToken:=if t.rest=[]∨t.rest.head? =some 60 then [] else [⟨3,[],[],t.rest⟩]
end Go.Proofs.YtgkcdgaljknohaaGreatDoor
