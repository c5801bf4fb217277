/-
  Proved here: contracts of the library's Itoa and Join, and of FormatInt in the reference and in the program.
  No condition beyond what each statement spells out.
-/
import Derived.Test.YtajppdidkjbmkaaGreatDoorQA0
import Derived.Test.YtajppdidkjbmkaaGreatDoorYShelf
import Derived.Test.YtajppdidkjbmkaaGreatDoorF5
import Derived.Test.YtajppdidkjbmkaaGreatDoorQJ1
import Derived.Test.YtajppdidkjbmkaaGreatDoorF8
set_option linter.all false
set_option maxRecDepth 4000
set_option maxHeartbeats 4000000
namespace Go.Proofs.YtajppdidkjbmkaaGreatDoor
open Go.Aw
theorem aVi [aB Tryz.prog] [iD Tryz.prog] (n:Int) (h: -9223372036854775808≤n∧n≤9223372036854775807):Ok Tryz.prog 152 [.int .i64 n] (.str (Lib.itoa n)):=aVu Tryz.laysM171 n h.1 h.2
theorem aDz [aB Tryz.prog] [iD Tryz.prog] (n:Int) (h: -9223372036854775808≤n∧n≤9223372036854775807):Ok Tryz.prog 125 [.int .i64 n] (.str (Lib.itoa n)):=by
 have h1:=aVi n h
 refine ent Tryz.mix Tryz.func125 Tryz.ntmps125 ?_
 have W:=trivial
 repeat' first|refine st ?_|(refine nx ?_;refine so ?_)|(refine cx ?_;refine sc (fun hc=>?_) (fun hc=>?_)<;>try exact hc.elim)|(refine lx ?_;refine sp (fun hc=>?_) (fun hc=>?_)<;>try exact hc.elim)|refine sx ?_ ?_|refine sy ?_ ?_|fail
 all_goals (try (refine ⟨.inr rfl,?_⟩;simp [Hands,Tryz.results125]))
theorem aEf [aB Tryz.prog] [iD Tryz.prog] (n:Int) (h: -9223372036854775808≤n∧n≤9223372036854775807):Ok Tryz.prog 134 [.int .i64 n] (.str (Lib.itoa n)):=by
 by_cases h0:n=0
 ·subst h0
  refine ent Tryz.mix Tryz.func134 Tryz.ntmps134 ?_
  have W:=trivial
  repeat' first|refine st ?_|(refine nx ?_;refine so ?_)|(refine cx ?_;refine sc (fun hc=>?_) (fun hc=>?_)<;>try exact hc.elim)|(refine lx ?_;refine sp (fun hc=>?_) (fun hc=>?_)<;>try exact hc.elim)|refine sx ?_ ?_|refine sy ?_ ?_|fail
  all_goals (try (refine ⟨.inr rfl,?_⟩;simp [Hands,Tryz.results134]))
  all_goals exact aRw.symm
 ·refine ent Tryz.mix Tryz.func134 Tryz.ntmps134 ?_
  have W:=h0
  repeat' first|refine st ?_|(refine nx ?_;refine so ?_)|(refine cx ?_;refine sc (fun hc=>?_) (fun hc=>?_)<;>try exact hc.elim)|(refine lx ?_;refine sp (fun hc=>?_) (fun hc=>?_)<;>try exact hc.elim)|refine sx ?_ ?_|refine sy ?_ ?_|fail
  refine aJ (ι:={p:Int×Str // (-9223372036854775808≤p.1∧p.1≤9223372036854775807)∧qA p.1.natAbs++p.2=qA n.natAbs}) (fun t o i=>⟨aS t [(4,.int .i64 i.1.1),(3,.str i.1.2),(5,.undef)],o⟩)
   (fun i=>i.1.1.natAbs) ⟨(n,[]),h,by simp⟩ (aD (by simp) (by simp)) ?_
  rintro ⟨⟨x,s⟩,⟨hx1,hx2⟩,hi⟩ K1 hK1
  simp only [aS,List.set_cons_succ,List.set_cons_zero] at hK1 hx1 hx2 hi⊢
  have hsl:=congrArg List.length hi
  have hnl:=aTc n h.1 h.2
  rw [List.length_append] at hsl
  have hs1:1+s.length≤9223372036854775807:=by omega
  have hs2:s.length≤9223372036854775806:=by omega
  clear hsl hnl
  by_cases hx:x=0
  ·subst hx
   have hs:s=qA n.natAbs:=by simpa [qA] using hi
   have W:=And.intro hs1 hs2
   repeat' first|refine st ?_|(refine nx ?_;refine so ?_)|(refine cx ?_;refine sc (fun hc=>?_) (fun hc=>?_)<;>try exact hc.elim)|(refine lx ?_;refine sp (fun hc=>?_) (fun hc=>?_)<;>try exact hc.elim)|refine sx ?_ ?_|refine sy ?_ ?_|fail
   ·all_goals (try (refine ⟨.inr rfl,?_⟩;simp [Hands,Tryz.results134]))
    exact (itoa_neg (by omega) hs).symm
   ·all_goals (try (refine ⟨.inr rfl,?_⟩;simp [Hands,Tryz.results134]))
    exact (aSz h0 (by omega) hs).symm
  ·obtain ⟨r,q,hr0,hr9,hq,hq1,hq2,hqa,hr,ht⟩:=aO1 x hx1 hx2
   have hp:=aQu x.natAbs (by omega)
   have hu8:=aXl (48+r) (by omega) (by omega)
   have hb:UInt8.ofNat (48+r).toNat=UInt8.ofNat (48+x.natAbs % 10):=by congr 1;omega
   have hi2:qA q.natAbs++UInt8.ofNat (48+r).toNat::s=qA n.natAbs:=by rw [←hi,hp,hqa,hb];simp
   have hm:q.natAbs < x.natAbs:=by omega
   clear hr hb hp
   rcases ht with ht|⟨ht,hrp⟩
   ·have W:=And.intro hx (And.intro ht (And.intro hq (And.intro hu8 (And.intro hs1 hs2))))
    repeat' first|refine st ?_|(refine nx ?_;refine so ?_)|(refine cx ?_;refine sc (fun hc=>?_) (fun hc=>?_)<;>try exact hc.elim)|(refine lx ?_;refine sp (fun hc=>?_) (fun hc=>?_)<;>try exact hc.elim)|refine sx ?_ ?_|refine sy ?_ ?_|fail
    refine hK1 _ ⟨(q,UInt8.ofNat (48+r).toNat::s),⟨hq1,hq2⟩,hi2⟩ (aQ 0 (by simp) (by simp) (by simp) (by simp)) (by simp only;omega)
   ·have W:=And.intro hx (And.intro ht (And.intro hq (And.intro hu8 (And.intro hs1 hs2))))
    repeat' first|refine st ?_|(refine nx ?_;refine so ?_)|(refine cx ?_;refine sc (fun hc=>?_) (fun hc=>?_)<;>try exact hc.elim)|(refine lx ?_;refine sp (fun hc=>?_) (fun hc=>?_)<;>try exact hc.elim)|refine sx ?_ ?_|refine sy ?_ ?_|fail
    refine hK1 _ ⟨(q,UInt8.ofNat (48+r).toNat::s),⟨hq1,hq2⟩,hi2⟩ (aQ 0 (by simp) (by simp) (by simp) (by simp)) (by simp only;omega)
theorem aRb {c:UInt8} {s:Str} {f i:Nat} (hf:f≤i) (hi:i < s.length) (hc:s[i]=c) (hn:∀x∈(s.take i).drop f,x≠c):bC c (s.drop f)=(s.take i).drop f::bC c (s.drop (i+1)):=by
 have e:s.drop f=(s.take i).drop f++c::s.drop (i+1):=by
  have h1:s=s.take i++s[i]::s.drop (i+1):=by simp
  conv=>lhs;rw [h1]
  rw [List.drop_append_of_le_length (by simp;omega),hc]
 rw [e,sS c _ _ hn]
theorem aSk {c:UInt8} {s:Str} {f:Nat} (hn:∀x∈(s.take s.length).drop f,x≠c):bC c (s.drop f)=[(s.take s.length).drop f]:=by
 rw [List.take_length] at hn⊢
 exact vJ c _ hn
theorem aSf {c:UInt8} {s:Str} {f i:Nat} (hf:f≤i) (hi:i < s.length) (hc:s[i]≠c) (hn:∀x∈(s.take i).drop f,x≠c):∀x∈(s.take (i+1)).drop f,x≠c:=by
 rw [List.take_succ_eq_append_getElem hi,List.drop_append_of_le_length (by simp;omega)]
 intro x hx
 rcases List.mem_append.1 hx with h|h
 ·exact hn x h
 ·rw [List.mem_singleton.1 h];exact hc
theorem aE4 [aB Tryz.prog] (s:Str) (c:UInt8) (hl:s.length≤1099511627776):Ok Tryz.prog 67 [.str s,.int .u8 c.toNat] (.sl .own 1 ((bC c s).map aU)):=by
 refine ent Tryz.mix Tryz.func67 Tryz.ntmps67 ?_
 have W:=trivial
 repeat' first|refine st ?_|(refine nx ?_;refine so ?_)|(refine cx ?_;refine sc (fun hc=>?_) (fun hc=>?_)<;>try exact hc.elim)|(refine lx ?_;refine sp (fun hc=>?_) (fun hc=>?_)<;>try exact hc.elim)|refine sx ?_ ?_|refine sy ?_ ?_|fail
 refine aJ (ι:={q:Nat×Nat×List Str×Nat // q.1≤s.length+1∧q.2.1≤q.1∧q.2.2.1.length≤q.1∧1≤q.2.2.2∧(q.1≤s.length→bC c s=q.2.2.1++bC c (s.drop q.2.1)∧∀x∈(s.take q.1).drop q.2.1,x≠c)∧(q.1=s.length+1→q.2.2.1=bC c s)})
  (fun t o i=>⟨aS t [(7,.int .i64 i.1.1),(6,.int .i64 i.1.2.1),(5,.obj 0 i.1.2.2.2)],[⟨true,false,1,i.1.2.2.2,i.1.2.2.1.map aU⟩]⟩)
  (fun i=>s.length+1 - i.1.1) ⟨(0,0,[],1),by simp,by simp,by simp,by simp,by simp,by simp⟩ (aD (by simp) (by simp)) ?_
 rintro ⟨⟨k,f,out,v⟩,hk,hf,ho,hv,hin,hout⟩ K1 hK1
 simp only at hk hf ho hv hin hout
 simp only [aS,List.set_cons_succ,List.set_cons_zero] at hK1⊢
 have hk1:IntKind.i64.wrap ((k:Int)+1)=((k+1:Nat):Int):=by rw [wrap64]<;>omega
 by_cases h1:k=s.length+1
 ·have e:=hout h1
  subst e
  subst h1
  have W:=hk1
  repeat' first|refine st ?_|(refine nx ?_;refine so ?_)|(refine cx ?_;refine sc (fun hc=>?_) (fun hc=>?_)<;>try exact hc.elim)|(refine lx ?_;refine sp (fun hc=>?_) (fun hc=>?_)<;>try exact hc.elim)|refine sx ?_ ?_|refine sy ?_ ?_|fail
  all_goals (try (refine ⟨.inr rfl,?_⟩;simp [Hands,Tryz.results67]))
 ·have hle:k≤s.length:=by omega
  obtain ⟨g1,g2⟩:=hin hle
  by_cases h2:k=s.length
  ·subst h2
   have e:=aSk g2
   rw [e,List.take_length] at g1
   have W:=hk1
   repeat' first|refine st ?_|(refine nx ?_;refine so ?_)|(refine cx ?_;refine sc (fun hc=>?_) (fun hc=>?_)<;>try exact hc.elim)|(refine lx ?_;refine sp (fun hc=>?_) (fun hc=>?_)<;>try exact hc.elim)|refine sx ?_ ?_|refine sy ?_ ?_|fail
   exact hK1 _ ⟨(s.length+1,s.length+1,out++[s.drop f],v+1),by simp only;omega,by simp only;omega,by simp;omega,by simp only;omega,fun h=>by simp only at h;omega,fun _=>g1.symm⟩ (aQ 1 (by simp) (by simp) (by simp) (by simp)) (by simp only;omega)
  ·have hlt:k < s.length:=by omega
   have hg:=List.getElem?_eq_getElem hlt
   have W:=And.intro hk1 (And.intro hg hlt)
   repeat' first|refine st ?_|(refine nx ?_;refine so ?_)|(refine cx ?_;refine sc (fun hc=>?_) (fun hc=>?_)<;>try exact hc.elim)|(refine lx ?_;refine sp (fun hc=>?_) (fun hc=>?_)<;>try exact hc.elim)|refine sx ?_ ?_|refine sy ?_ ?_|fail
   ·have hcc:s[k]=c:=UInt8.toNat_inj.1 (by omega)
    rw [aRb hf hlt hcc g2] at g1
    exact hK1 _ ⟨(k+1,k+1,out++[(s.take k).drop f],v+1),by simp only;omega,by simp only;omega,by simp;omega,by simp only;omega,fun _=>⟨by rw [g1];simp,by simp⟩,fun h=>by simp only at h;omega⟩ (aQ 1 (by simp) (by simp) (by simp) (by simp)) (by simp only;omega)
   ·have hcc:s[k]≠c:=fun h=>hc (by rw [h])
    exact hK1 _ ⟨(k+1,f,out,v),by simp only;omega,by simp only;omega,by simp only;omega,by simp only;omega,fun _=>⟨g1,aSf hf hlt hcc g2⟩,fun h=>by simp only at h;omega⟩ (aQ 1 (by simp) (by simp) (by simp) (by simp)) (by simp only;omega)
theorem aSx {l:List Str} {k:Nat} (h:k < l.length) (hc:bV l[k]=false):fD l=false:=by
 have:l.all bV=false:=by
  rw [List.all_eq_false]
  exact ⟨l[k],List.getElem_mem h,by simp [hc]⟩
 simp [fD,this]
theorem aQt {l:List Str} (h:∀x∈l,bV x=true):fD l=decide ((l.length:Int)≤4):=by
 have:l.all bV=true:=List.all_eq_true.2 h
 have h1:decide ((l.length:Int)≤4)=decide (l.length≤4):=by simp only [decide_eq_decide];omega
 rw [fD,this,h1,Bool.true_and]
theorem vW [aB Tryz.prog] (l:List Str) (hs:szL dK l≤1099511627776):Ok Tryz.prog 166 [.sl .view 1 (l.map aU)] (.bool (fD l)):=by
 simp only [szL] at hs
 refine ent Tryz.mix Tryz.func166 Tryz.ntmps166 ?_
 have W:=trivial
 repeat' first|refine st ?_|(refine nx ?_;first|refine se ?_|refine so ?_)|(refine cx ?_;refine sc (fun hc=>?_) (fun hc=>?_)<;>try exact hc.elim)|(refine lx ?_;refine sp (fun hc=>?_) (fun hc=>?_)<;>try exact hc.elim)|refine sx ?_ ?_|refine sy ?_ ?_|fail
 refine aJ (ι:={k:Nat // k≤l.length∧∀x∈l.take k,bV x=true}) (fun t o i=>⟨aS t [(3,.int .i64 i.1)],o⟩)
  (fun i=>l.length - i.1) ⟨0,by simp,by simp⟩ (aD (by simp) (by simp)) ?_
 rintro ⟨k,hk,hi⟩ K1 hK1
 simp only [aS,List.set_cons_succ,List.set_cons_zero] at hK1⊢
 have hk1:IntKind.i64.wrap ((k:Int)+1)=((k+1:Nat):Int):=by rw [wrap64]<;>omega
 by_cases hlt:k < l.length
 ·have hg:=List.getElem?_eq_getElem hlt
  have hel:=eX dK l k hlt
  simp only [dK] at hel
  have c1:=iQ l[k] (by omega)
  generalize hb:bV l[k]=b at *
  cases b
  ·have W:=And.intro hk1 (And.intro hg hlt)
   repeat' first|refine st ?_|(refine nx ?_;first|refine se ?_|refine so ?_)|(refine cx ?_;refine sc (fun hc=>?_) (fun hc=>?_)<;>try exact hc.elim)|(refine lx ?_;refine sp (fun hc=>?_) (fun hc=>?_)<;>try exact hc.elim)|refine sx ?_ ?_|refine sy ?_ ?_|fail
   rw [aSx hlt hb]
   all_goals (try (refine ⟨.inr rfl,?_⟩;simp [Hands,Tryz.results166]))
  ·have W:=And.intro hk1 (And.intro hg hlt)
   repeat' first|refine st ?_|(refine nx ?_;first|refine se ?_|refine so ?_)|(refine cx ?_;refine sc (fun hc=>?_) (fun hc=>?_)<;>try exact hc.elim)|(refine lx ?_;refine sp (fun hc=>?_) (fun hc=>?_)<;>try exact hc.elim)|refine sx ?_ ?_|refine sy ?_ ?_|fail
   exact hK1 _ ⟨k+1,by omega,dX hlt hi hb⟩ (aD (by simp) (by simp)) (by simp only;omega)
 ·have W:=hk1
  repeat' first|refine st ?_|(refine nx ?_;first|refine se ?_|refine so ?_)|(refine cx ?_;refine sc (fun hc=>?_) (fun hc=>?_)<;>try exact hc.elim)|(refine lx ?_;refine sp (fun hc=>?_) (fun hc=>?_)<;>try exact hc.elim)|refine sx ?_ ?_|refine sy ?_ ?_|fail
  rw [aQt (jB (by omega) hi)]
  all_goals (try (refine ⟨.inr rfl,?_⟩;simp [Hands,Tryz.results166]))
theorem aE9 [aB Tryz.prog] (p:bR) (hs:bM p≤1099511627776):Ok Tryz.prog 145 [.agg (bD .view p)] (.bool (gX p)):=by
 simp only [bM] at hs
 have c1:=vW p.scripts (by omega)
 have c2:=vW p.styles (by omega)
 have c3:=vW p.images (by omega)
 have c4:=yT p.nonce (by omega)
 have l1:(p.scripts == [])=decide ((p.scripts.length:Int)=0):=by cases p.scripts<;>simp<;>omega
 have l2:(p.styles == [])=decide ((p.styles.length:Int)=0):=by cases p.styles<;>simp<;>omega
 have l3:(p.images == [])=decide ((p.images.length:Int)=0):=by cases p.images<;>simp<;>omega
 unfold gX
 rw [l1,l2,l3]
 generalize fD p.scripts=b1 at *
 generalize fD p.styles=b2 at *
 generalize fD p.images=b3 at *
 generalize iH p.nonce=b4 at *
 generalize hb:p.isSet=b at *
 cases b
 ·refine ent Tryz.mix Tryz.func145 Tryz.ntmps145 ?_
  have W:=hb
  repeat' first|refine st ?_|(refine nx ?_;first|refine se ?_|refine so ?_)|(refine cx ?_;refine sc (fun hc=>?_) (fun hc=>?_)<;>try exact hc.elim)|(refine lx ?_;refine sp (fun hc=>?_) (fun hc=>?_)<;>try exact hc.elim)|refine sx ?_ ?_|refine sy ?_ ?_|fail
  all_goals (try (refine ⟨.inr rfl,?_⟩;simp [Hands,Tryz.results145,hb]))
  all_goals simp_all
 ·refine ent Tryz.mix Tryz.func145 Tryz.ntmps145 ?_
  have W:=hb
  repeat' first|refine st ?_|(refine nx ?_;first|refine se ?_|refine so ?_)|(refine cx ?_;refine sc (fun hc=>?_) (fun hc=>?_)<;>try exact hc.elim)|(refine lx ?_;refine sp (fun hc=>?_) (fun hc=>?_)<;>try exact hc.elim)|refine sx ?_ ?_|refine sy ?_ ?_|fail
  all_goals (try (refine ⟨.inr rfl,?_⟩;simp [Hands,Tryz.results145,hb]))
  all_goals simp_all
theorem aOs (w:Str) (l:List Str) (x:Str):words w (l++[x])=words w l++32::x:=by
 unfold words
 rw [Lib.join_cons,Lib.join_cons]
 simp [Lib.joinTail]
theorem aR4 (w:Str):words w []=w:=by simp [words,Lib.join_one]
theorem wI (w:Str) (l:List Str):(words w l).length=w.length+l.length+bX dK l:=by
 unfold words
 rw [Lib.join_cons]
 unfold Lib.joinTail
 have:∀l:List Str,((l.map (([32]:Str)++ ·)).flatten).length=l.length+bX dK l:=by
  intro l
  induction l with
  |nil=>simp [bX]
  |cons x l ih=>simp only [List.map_cons,List.flatten_cons,List.length_append,ih,bX,dK,List.length_cons,List.length_nil];omega
 rw [List.length_append,this];omega
theorem zY [aB Tryz.prog] (w:Str) (l:List Str) (hs:w.length+szL dK l≤1099511627776):Ok Tryz.prog 146 [.str w,.sl .view 1 (l.map aU)] (.str (words w l)):=by
 simp only [szL] at hs
 refine ent Tryz.mix Tryz.func146 Tryz.ntmps146 ?_
 have W:=trivial
 repeat' first|refine st ?_|(refine nx ?_;first|refine se ?_|refine so ?_)|(refine cx ?_;refine sc (fun hc=>?_) (fun hc=>?_)<;>try exact hc.elim)|(refine lx ?_;refine sp (fun hc=>?_) (fun hc=>?_)<;>try exact hc.elim)|refine sx ?_ ?_|refine sy ?_ ?_|fail
 refine aJ (ι:={k:Nat // k≤l.length}) (fun t o i=>⟨aS t [(5,.int .i64 i.1),(0,.str (words w (l.take i.1)))],o⟩)
  (fun i=>l.length - i.1) ⟨0,by simp⟩ (aD (by simp) (by simp [aR4])) ?_
 rintro ⟨k,hk⟩ K1 hK1
 simp only [aS,List.set_cons_succ,List.set_cons_zero] at hK1⊢
 have hk1:IntKind.i64.wrap ((k:Int)+1)=((k+1:Nat):Int):=by rw [wrap64]<;>omega
 by_cases hlt:k < l.length
 ·have hg:=List.getElem?_eq_getElem hlt
  have hel:=eX dK l k hlt
  simp only [dK] at hel
  have hw:=wI w (l.take k)
  have hts:=vV dK l k
  have htl:(l.take k).length≤l.length:=by simp;omega
  have e:l.take (k+1)=l.take k++[l[k]]:=by rw [List.take_add_one,hg];rfl
  have e2:=aOs w (l.take k) l[k]
  rw [←e] at e2
  generalize words w (l.take k)=q at *
  have W:=And.intro hk1 (And.intro hg hlt)
  repeat' first|refine st ?_|(refine nx ?_;first|refine se ?_|refine so ?_)|(refine cx ?_;refine sc (fun hc=>?_) (fun hc=>?_)<;>try exact hc.elim)|(refine lx ?_;refine sp (fun hc=>?_) (fun hc=>?_)<;>try exact hc.elim)|refine sx ?_ ?_|refine sy ?_ ?_|fail
  exact hK1 _ ⟨k+1,by omega⟩ (aD (by simp) (by simp [e2])) (by simp only;omega)
 ·have htk:l.take k=l:=List.take_of_length_le (by omega)
  rw [htk]
  have W:=hk1
  repeat' first|refine st ?_|(refine nx ?_;first|refine se ?_|refine so ?_)|(refine cx ?_;refine sc (fun hc=>?_) (fun hc=>?_)<;>try exact hc.elim)|(refine lx ?_;refine sp (fun hc=>?_) (fun hc=>?_)<;>try exact hc.elim)|refine sx ?_ ?_|refine sy ?_ ?_|fail
  all_goals (try (refine ⟨.inr rfl,?_⟩;simp [Hands,Tryz.results146]))
theorem qL {l:List Str} (h:fD l=true):l.length≤4∧bX dK l≤32:=by
 simp only [fD,Bool.and_eq_true,decide_eq_true_eq,List.all_eq_true] at h
 have key:∀l:List Str,(∀x∈l,bV x=true)→bX dK l≤8 * l.length:=by
  intro l
  induction l with
  |nil=>intro _;simp [bX]
  |cons x l ih=>
   intro hl
   have h1:=hl x (by simp)
   simp only [bV,Bool.and_eq_true,decide_eq_true_eq] at h1
   have:=ih fun y hy=>hl y (by simp [hy])
   simp only [bX,dK,List.length_cons]
   omega
 have:=key l h.1
 exact ⟨h.2,by omega⟩
theorem aR6 {s:Str} (h:(s == [])=true∨iH s=true):s.length≤20:=by
 rcases h with h|h
 ·simp only [beq_iff_eq] at h;simp [h]
 ·simp only [iH,Bool.and_eq_true,decide_eq_true_eq] at h;exact h.2.2
theorem aF1 {p:bR} (h:gX p=true) (hs:p.isSet=true):(words kC p.scripts).length≤42∧(words lZ p.styles).length≤41∧(words qB p.images).length≤39∧p.nonce.length≤20:=by
 simp only [gX,hs,if_true,Bool.and_eq_true,Bool.or_eq_true] at h
 obtain ⟨⟨⟨h1,h2⟩,h3⟩,h4⟩:=h
 have k1:=qL h1
 have k2:=qL h2
 have k3:=qL h3
 refine ⟨by rw [wI];simp [kC];omega,by rw [wI];simp [lZ];omega,by rw [wI];simp [qB];omega,aR6 h4⟩
theorem nT [aB Tryz.prog] (p:bR) (hs:bM p≤274877906944):Ok Tryz.prog 118 [.agg (bD .view p)] (.str (dF p)):=by
 have c0:=aE9 p (by omega)
 simp only [bD] at c0
 have hq:= @aF1 p
 simp only [bM] at hs
 have c1:Ok Tryz.prog 146 [.str [115,99,114,105,112,116],.sl .view 1 (p.scripts.map aU)] (.str (words kC p.scripts)):=zY kC p.scripts (by simp [kC];omega)
 have c2:Ok Tryz.prog 146 [.str [115,116,121,108,101],.sl .view 1 (p.styles.map aU)] (.str (words lZ p.styles)):=zY lZ p.styles (by simp [lZ];omega)
 have c3:Ok Tryz.prog 146 [.str [105,109,103],.sl .view 1 (p.images.map aU)] (.str (words qB p.images)):=zY qB p.images (by simp [qB];omega)
 unfold dF
 by_cases h1:gX p=true
 ·by_cases h2:p.isSet=true
  ·obtain ⟨k1,k2,k3,k4⟩:=hq h1 h2
   rw [if_pos ⟨h1,h2⟩]
   unfold yR
   rw [h1,h2] at c0
   generalize words kC p.scripts=q1 at *
   generalize words lZ p.styles=q2 at *
   generalize words qB p.images=q3 at *
   by_cases hn:p.nonce=[]
   ·rw [if_pos hn]
    rw [hn] at c0
    refine ent Tryz.mix Tryz.func118 Tryz.ntmps118 ?_
    have W:=And.intro h2 hn
    have V:=And.intro h2 hn
    repeat' first|refine st ?_|(refine nx ?_;first|refine se ?_|refine so ?_)|(refine cx ?_;refine sc (fun hc=>?_) (fun hc=>?_)<;>try exact hc.elim)|(refine lx ?_;refine sp (fun hc=>?_) (fun hc=>?_)<;>try exact hc.elim)|refine sx ?_ ?_|refine sy ?_ ?_|fail
    all_goals (try (refine ⟨.inr rfl,?_⟩;simp [Hands,Tryz.results118,h2,hn]))
   ·rw [if_neg hn]
    refine ent Tryz.mix Tryz.func118 Tryz.ntmps118 ?_
    have W:=And.intro h2 hn
    have V:=And.intro h2 hn
    repeat' first|refine st ?_|(refine nx ?_;first|refine se ?_|refine so ?_)|(refine cx ?_;refine sc (fun hc=>?_) (fun hc=>?_)<;>try exact hc.elim)|(refine lx ?_;refine sp (fun hc=>?_) (fun hc=>?_)<;>try exact hc.elim)|refine sx ?_ ?_|refine sy ?_ ?_|fail
    all_goals (try (refine ⟨.inr rfl,?_⟩;simp [Hands,Tryz.results118,h2,hn,fT]))
    all_goals (exact absurd (by assumption) hn)
  ·rw [if_neg (fun h=>h2 h.2)]
   simp only [Bool.not_eq_true] at h2
   rw [h1,h2] at c0
   refine ent Tryz.mix Tryz.func118 Tryz.ntmps118 ?_
   have W:=h2
   have V:=h2
   repeat' first|refine st ?_|(refine nx ?_;first|refine se ?_|refine so ?_)|(refine cx ?_;refine sc (fun hc=>?_) (fun hc=>?_)<;>try exact hc.elim)|(refine lx ?_;refine sp (fun hc=>?_) (fun hc=>?_)<;>try exact hc.elim)|refine sx ?_ ?_|refine sy ?_ ?_|fail
   all_goals (try (refine ⟨.inr rfl,?_⟩;simp [Hands,Tryz.results118]))
 ·rw [if_neg (fun h=>h1 h.1)]
  simp only [Bool.not_eq_true] at h1
  rw [h1] at c0
  refine ent Tryz.mix Tryz.func118 Tryz.ntmps118 ?_
  have W:=trivial
  repeat' first|refine st ?_|(refine nx ?_;first|refine se ?_|refine so ?_)|(refine cx ?_;refine sc (fun hc=>?_) (fun hc=>?_)<;>try exact hc.elim)|(refine lx ?_;refine sp (fun hc=>?_) (fun hc=>?_)<;>try exact hc.elim)|refine sx ?_ ?_|refine sy ?_ ?_|fail
  all_goals (try (refine ⟨.inr rfl,?_⟩;simp [Hands,Tryz.results118]))
end Go.Proofs.YtajppdidkjbmkaaGreatDoor
