/-
  Proved here: contracts of the copies of a builder.
  No condition beyond what each statement spells out.
-/
import Derived.Test.YtgkcdgaljknohaaGreatDoorSU5
import Derived.Test.YtgkcdgaljknohaaGreatDoorF3
import Derived.Test.YtgkcdgaljknohaaGreatDoorSMK5
import Derived.Test.YtgkcdgaljknohaaGreatDoorF2
set_option linter.all false
set_option maxRecDepth 4000
set_option maxHeartbeats 4000000
namespace Go.Proofs.YtgkcdgaljknohaaGreatDoor
open Go.Aw
theorem rtr_nodes (u:List Nat) (b:Bool) (l:List DNode):rtr (dropf u) b (l.map (eNode .view))=l.map (eNode .view):=by
 induction l with
 |nil=>rfl
 |cons x l ih=>rw [List.map_cons,rtr,ih];simp [rtc,rt,eNode,dropf]
theorem copyBuilder_ok [Tabs Tryz.prog] (b:DBuilder) (hs:szBuilder b≤274877906944):Ok Tryz.prog 120 [.agg (eBuilder .view b)] (.agg (eBuilder .own b)):=by
 simp only [szBuilder,szL] at hs
 obtain ⟨l,opens⟩:=b
 simp only at hs
 refine ent Tryz.mix Tryz.func120 Tryz.ntmps120 ?_
 have W:=trivial
 repeat' first|refine we ?_|refine sq (fun hc=>?_) fun hc=>?_|fail
 refine awp_loop' (ι:={q:Nat×Nat // q.1≤l.length∧1≤q.2}) (fun t o i=>⟨upds t [(14,.int .i64 i.1.1),(5,.undef),(10,.undef)],o.take 3++[⟨true,true,2,0,[[.obj 4 i.1.2,.obj 2 2]]⟩,⟨true,false,4,i.1.2,(l.take i.1.1).map (eNode .own)⟩]⟩)
  (fun i=>l.length - i.1.1) ⟨(0,1),by simp,by simp⟩ (weak_openB 3 0 0 (ob:=⟨true,true,2,0,[[.sl .own 4 [],.obj 2 2]]⟩) (by rfl) (by rfl) (by rfl) (by simp) (by rfl) (by rfl) (by simp) (by simp [rtc,rt,dropf,rtr_nodes])) ?_
 rintro ⟨⟨k,v⟩,hk,hv⟩ K1 hK1
 simp only at hk hv
 simp only [upds,List.set_cons_succ,List.set_cons_zero,List.take_succ_cons,List.take_zero,List.cons_append,List.nil_append] at hK1⊢
 have hk1:IntKind.i64.wrap ((k:Int)+1)=((k+1:Nat):Int):=by rw [wrap64]<;>omega
 by_cases hlt:k < l.length
 ·have hg:=List.getElem?_eq_getElem hlt
  have hps:=map_succ (eNode .own) l k hlt
  have hz:=sumN_get_le szNode l k hlt
  simp only [szNode,szL] at hz
  have hgl:((l.take k).map (eNode .own)).length=k:=by simp;omega
  generalize (l.take k).map (eNode .own)=g at *
  have W:=And.intro hk1 (And.intro hg (And.intro hlt hgl))
  repeat' first|refine we ?_|refine sq (fun hc=>?_) fun hc=>?_|fail
  all_goals refine hK1 _ ⟨(k+1,v+1),by simp only;omega,by simp only;omega⟩ (weak_take 5 (by simp [hps]) (by simp) (by simp) (by simp)) (by simp only;omega)
 ·have htk:l.take k=l:=List.take_of_length_le (by omega)
  rw [htk]
  have W:=hk1
  repeat' first|refine we ?_|refine sq (fun hc=>?_) fun hc=>?_|fail
  all_goals (try (refine ⟨.inr rfl,?_⟩;simp [Hands,Tryz.results120]))
theorem specBuilder_ok [Tabs Tryz.prog] (b:DBuilder) (hs:szBuilder b≤274877906944):Ok Tryz.prog 106 [.agg (eBuilder .view b)] (.agg (eBuilder .own b)):=by
 simp only [szBuilder,szL] at hs
 obtain ⟨l,opens⟩:=b
 simp only at hs
 refine ent Tryz.mix Tryz.func106 Tryz.ntmps106 ?_
 have W:=trivial
 repeat' first|refine we ?_|refine sq (fun hc=>?_) fun hc=>?_|fail
 refine awp_loop' (ι:={q:Nat×Nat // q.1≤l.length∧1≤q.2}) (fun t o i=>⟨upds t [(4,.int .i64 i.1.1),(5,.undef),(10,.undef)],o.take 3++[⟨true,true,2,0,[[.obj 4 i.1.2,.obj 2 2]]⟩,⟨true,false,4,i.1.2,(l.take i.1.1).map (eNode .own)⟩]⟩)
  (fun i=>l.length - i.1.1) ⟨(0,1),by simp,by simp⟩ (weak_openB 3 0 0 (ob:=⟨true,true,2,0,[[.sl .own 4 [],.obj 2 2]]⟩) (by rfl) (by rfl) (by rfl) (by simp) (by rfl) (by rfl) (by simp) (by simp [rtc,rt,dropf,rtr_nodes])) ?_
 rintro ⟨⟨k,v⟩,hk,hv⟩ K1 hK1
 simp only at hk hv
 simp only [upds,List.set_cons_succ,List.set_cons_zero,List.take_succ_cons,List.take_zero,List.cons_append,List.nil_append] at hK1⊢
 have hk1:IntKind.i64.wrap ((k:Int)+1)=((k+1:Nat):Int):=by rw [wrap64]<;>omega
 by_cases hlt:k < l.length
 ·have hg:=List.getElem?_eq_getElem hlt
  have hps:=map_succ (eNode .own) l k hlt
  have hz:=sumN_get_le szNode l k hlt
  simp only [szNode,szL] at hz
  have c1:=l6Attrs_ok l[k].attrs (by omega)
  have hgl:((l.take k).map (eNode .own)).length=k:=by simp;omega
  generalize (l.take k).map (eNode .own)=g at *
  have W:=And.intro hk1 (And.intro hg (And.intro hlt hgl))
  repeat' first|refine we ?_|refine sq (fun hc=>?_) fun hc=>?_|fail
  all_goals refine hK1 _ ⟨(k+1,v+1),by simp only;omega,by simp only;omega⟩ (weak_take 5 (by simp [hps]) (by simp) (by simp) (by simp)) (by simp only;omega)
 ·have htk:l.take k=l:=List.take_of_length_le (by omega)
  rw [htk]
  have W:=hk1
  repeat' first|refine we ?_|refine sq (fun hc=>?_) fun hc=>?_|fail
  all_goals (try (refine ⟨.inr rfl,?_⟩;simp [Hands,Tryz.results106]))
end Go.Proofs.YtgkcdgaljknohaaGreatDoor

set_option maxRecDepth 4000
set_option maxHeartbeats 4000000
namespace Go.Proofs.YtgkcdgaljknohaaGreatDoor
open Go.Aw
theorem rowsB_get (s:Str) (k:Nat) (h:k < s.length):(bytesRows s)[k]? =some [.int .u8 s[k].toNat]:=by
 simp [bytesRows,h]
theorem bytesOf_rows:∀s:Str,bytesOf (bytesRows s)=some s
 |[]=>rfl
 |c::s=>by
  have ih:=bytesOf_rows s
  simp only [bytesRows,List.map_cons] at ih⊢
  simp only [bytesOf,ih,Option.map_some,Int.toNat_natCast]
  simp
@[simp] theorem rtr_rowsB (f:Tg→Option Tg) (b:Bool) (l:Str):rtr f b (bytesRows l)=bytesRows l:=by
 induction l with
 |nil=>rfl
 |cons x l ih=>simp only [bytesRows,List.map_cons,rtr,rtc,rt] at ih⊢;rw [ih]
def upTo (s:Str) (k:Nat):Str:=(s.take k).map markC++s.drop k
theorem upTo_len (s:Str) (k:Nat):(upTo s k).length=s.length:=by
 unfold upTo
 rw [List.length_append,List.length_map,List.length_take,List.length_drop];omega
theorem upTo_get (s:Str) (k:Nat) (h:k < s.length):(upTo s k)[k]? =some s[k]:=by
 unfold upTo
 rw [List.getElem?_append_right (by rw [List.length_map,List.length_take];omega)]
 simp [show min k s.length=k by omega,List.getElem?_eq_getElem h]
theorem upTo_set (s:Str) (k:Nat) (h:k < s.length):(upTo s k).set k (markC s[k])=upTo s (k+1):=by
 unfold upTo
 have hl:((s.take k).map markC).length=k:=by simp;omega
 rw [List.set_append_right _ _ (by omega),hl,Nat.sub_self,List.drop_eq_getElem_cons h,List.set_cons_zero,List.take_succ_eq_append_getElem h,List.map_append]
 simp
theorem upTo_same (s:Str) (k:Nat) (h:k < s.length) (hm:markC s[k]=s[k]):upTo s (k+1)=upTo s k:=by
 rw [←upTo_set s k h,hm]
 have e:=upTo_get s k h
 refine List.ext_getElem? fun i=> ?_
 rw [List.getElem?_set]
 split
 ·rename_i hi
  subst hi
  rw [if_pos (by rw [upTo_len];exact h)]
  exact e.symm
 ·rfl
theorem rows_set (l:Str) (k:Nat) (c:UInt8):(bytesRows l).set k [.int .u8 c.toNat]=bytesRows (l.set k c):=by simp [bytesRows,List.map_set]
theorem specMarkupOf_ok [Tabs Tryz.prog] (s:Str) (hl:s.length≤1099511627776):Ok Tryz.prog 172 [.str s] (.str (s.map markC)):=by
 refine ent Tryz.mix Tryz.func172 Tryz.ntmps172 ?_
 have W:=trivial
 repeat' first|refine st ?_|(refine nx ?_;first|refine se ?_|refine so ?_|refine sb ?_)|(refine cx ?_;refine sc (fun hc=>?_) (fun hc=>?_)<;>try exact hc.elim)|(refine lx ?_;refine sp (fun hc=>?_) (fun hc=>?_)<;>try exact hc.elim)|refine sx ?_ ?_|refine sy ?_ ?_|fail
 refine awp_loop' (ι:={k:Nat // k≤s.length}) (fun t o i=>⟨upds t [(4,.int .i64 i.1)],[⟨true,false,1,1,bytesRows (upTo s i.1)⟩]⟩)
  (fun i=>s.length - i.1) ⟨0,by simp⟩ (weak_o (by simp [upTo]) (by simp)) ?_
 rintro ⟨k,hk⟩ K1 hK1
 simp only [upds,List.set_cons_succ,List.set_cons_zero] at hK1⊢
 have hk1:IntKind.i64.wrap ((k:Int)+1)=((k+1:Nat):Int):=by rw [wrap64]<;>omega
 by_cases hlt:k < s.length
 ·have hul:=upTo_len s k
  have hug:=upTo_get s k hlt
  have hbl:=bytesRows_length (upTo s k)
  have hg:(bytesRows (upTo s k))[k]? =some [.int .u8 s[k].toNat]:=by
   rw [rowsB_get _ _ (by omega)]
   rw [List.getElem?_eq_getElem (by omega)] at hug
   rw [Option.some.inj hug]
  have hlb:k < (bytesRows (upTo s k)).length:=by omega
  have hs1:=upTo_set s k hlt
  have hsame:=upTo_same s k hlt
  by_cases h1:s[k]=91
  ·have h1i:((s[k].toNat:Nat):Int)=91:=by rw [h1];rfl
   have hset:(bytesRows (upTo s k)).set k [.int .u8 60]=bytesRows (upTo s (k+1)):=by
    rw [←hs1,←rows_set];simp [markC,h1]
   have W:=And.intro hk1 (And.intro hg (And.intro hbl (And.intro hul (And.intro h1i hset))))
   have V:=And.intro hlb hlt
   repeat' first|refine st ?_|(refine nx ?_;first|refine se ?_|refine so ?_|refine sb ?_)|(refine cx ?_;refine sc (fun hc=>?_) (fun hc=>?_)<;>try exact hc.elim)|(refine lx ?_;refine sp (fun hc=>?_) (fun hc=>?_)<;>try exact hc.elim)|refine sx ?_ ?_|refine sy ?_ ?_|fail
   all_goals exact hK1 _ ⟨k+1,by omega⟩ (weak_o (by simp) (by simp)) (by simp only;omega)
  ·have h1i:¬((s[k].toNat:Nat):Int)=91:=fun h=>h1 (UInt8.toNat.inj (by exact_mod_cast h))
   by_cases h2:s[k]=93
   ·have h2i:((s[k].toNat:Nat):Int)=93:=by rw [h2];rfl
    have hset:(bytesRows (upTo s k)).set k [.int .u8 62]=bytesRows (upTo s (k+1)):=by
     rw [←hs1,←rows_set];simp [markC,h2]
    have W:=And.intro hk1 (And.intro hg (And.intro hbl (And.intro hul (And.intro h1i (And.intro h2i hset)))))
    have V:=And.intro hlb hlt
    repeat' first|refine st ?_|(refine nx ?_;first|refine se ?_|refine so ?_|refine sb ?_)|(refine cx ?_;refine sc (fun hc=>?_) (fun hc=>?_)<;>try exact hc.elim)|(refine lx ?_;refine sp (fun hc=>?_) (fun hc=>?_)<;>try exact hc.elim)|refine sx ?_ ?_|refine sy ?_ ?_|fail
    all_goals exact hK1 _ ⟨k+1,by omega⟩ (weak_o (by simp) (by simp)) (by simp only;omega)
   ·have h2i:¬((s[k].toNat:Nat):Int)=93:=fun h=>h2 (UInt8.toNat.inj (by exact_mod_cast h))
    have hsm:=hsame (by simp [markC,h1,h2])
    have W:=And.intro hk1 (And.intro hg (And.intro hbl (And.intro hul (And.intro h1i h2i))))
    have V:=And.intro hlb hlt
    repeat' first|refine st ?_|(refine nx ?_;first|refine se ?_|refine so ?_|refine sb ?_)|(refine cx ?_;refine sc (fun hc=>?_) (fun hc=>?_)<;>try exact hc.elim)|(refine lx ?_;refine sp (fun hc=>?_) (fun hc=>?_)<;>try exact hc.elim)|refine sx ?_ ?_|refine sy ?_ ?_|fail
    all_goals exact hK1 _ ⟨k+1,by omega⟩ (weak_o (by simp [hsm]) (by simp)) (by simp only;omega)
 ·have hk2:k=s.length:=by omega
  have hup:upTo s k=s.map markC:=by simp [upTo,hk2]
  have hul:(s.map markC).length=s.length:=by simp
  have hbl:=bytesRows_length (s.map markC)
  have hbo:=bytesOf_rows (s.map markC)
  rw [hup]
  have hnk:¬k < s.length:=hlt
  have W:=And.intro hk1 (And.intro hbl (And.intro hul hbo))
  repeat' first|refine st ?_|(refine nx ?_;first|refine se ?_|refine so ?_|refine sb ?_)|(refine cx ?_;refine sc (fun hc=>?_) (fun hc=>?_)<;>try exact hc.elim)|(refine lx ?_;refine sp (fun hc=>?_) (fun hc=>?_)<;>try exact hc.elim)|refine sx ?_ ?_|refine sy ?_ ?_|fail
  all_goals (try (refine ⟨.inr rfl,?_⟩;simp [Hands,Tryz.results172]))
def countName (b:DBuilder) (n:Str):Int:=(((b.nodes.filter fun x=>decide (x.name=n)).length:Nat):Int)
theorem count_step (b:DBuilder) (n:Str) (k:Nat) (h:k < b.nodes.length):((b.nodes.take (k+1)).filter fun x=>decide (x.name=n)).length=((b.nodes.take k).filter fun x=>decide (x.name=n)).length+(if b.nodes[k].name=n then 1 else 0):=by
 rw [List.take_succ_eq_append_getElem h,List.filter_append,List.length_append]
 congr 1
 by_cases hn:b.nodes[k].name=n<;>simp [hn]
end Go.Proofs.YtgkcdgaljknohaaGreatDoor
