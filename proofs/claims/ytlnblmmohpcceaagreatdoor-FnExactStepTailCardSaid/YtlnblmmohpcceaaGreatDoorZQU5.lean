/- Proved here: steps towards the statement of this claim. No condition. -/
import Derived.Test.YtlnblmmohpcceaaGreatDoorZQU3
set_option linter.all false
set_option maxRecDepth 4000
set_option maxHeartbeats 4000000
namespace Go.Proofs.YtlnblmmohpcceaaGreatDoor
open Go.Aw Proofs.Tryz List IntKind
theorem toBuilder_ok [aD prog] (a:aW) (hs:aH a<=1048576):Ok prog 76 [.agg (aN .view a)] (.agg (aN .own a)):=by
 simp only [aH] at hs
 refine bR aAc func76 ntmps76 ?_
 have W:=trivial
 repeat' first|refine wl ?_|(refine nx ?_;first|refine sk (hc:=toNodeS_ok a.nodes (by omega)) (h:=?_)|refine sk (hc:=toIntS_ok a.opens (by omega)) (h:=?_))|(refine sq ?_ ?_<;>intro hc<;>try exact hc.elim)|fail
 all_goals try(refine ⟨.inr rfl,?_⟩;simp [aB,results76])
theorem SV [aD prog] (a:aW) (n:Int) (h0:0<=n) (h1:n<=1048576) (hw:IV a):Ok prog 57 [.agg (aN .view a),.int .i64 n] (.int .i64 (sub n (aH a))):=by
 simp only [IV] at hw
 obtain ⟨aG1,aG2⟩:=hw
 refine bR aAc func57 ntmps57 ?_
 have W:=trivial
 repeat' first|refine wl ?_|(refine nx ?_;first|refine sk (hc:=Yh a.nodes _ (by omega) (by repeat' (first|omega|apply jX|apply iI)) aG1) (h:=?_)|refine sk (hc:=iq a.opens _ (by omega) (by repeat' (first|omega|apply jX|apply iI)) aG2) (h:=?_))|(refine sq ?_ ?_<;>intro hc<;>try exact hc.elim)|fail
 all_goals try(refine ⟨.inr rfl,?_⟩;simp [aB,results57,aH])
 all_goals (
  (try generalize e0:sub n (bP fU a.nodes)=m0 at *)
  (try (first|have f0:=jY e0 (by omega)|have f0:=iJ e0 (by omega) (by omega)))
  (try generalize e1:sub m0 (a.opens.length)=m1 at *)
  (try (first|have f1:=jY e1 (by omega)|have f1:=iJ e1 (by omega) (by omega)))
  repeat (simp (disch:=omega) only [wrap64] at *)
  (try simp only [sub]);(try split);all_goals omega)
theorem SX [aD prog] (a b:aW) (hs:aH a<=1099511627776):Ok prog 94 [.agg (aN .view a),.agg (aN .view b)] (.bool (decide (a=b))):=by
 simp only [aH] at hs
 refine bR aAc func94 ntmps94 ?_
 have W:=trivial
 repeat' first|refine wl ?_|(refine nx ?_;first|refine sk (hc:=Yi a.nodes b.nodes (by omega)) (h:=?_)|refine sk (hc:=iw a.opens b.opens (by omega)) (h:=?_))|(refine sq ?_ ?_<;>intro hc<;>try exact hc.elim)|fail
 all_goals try(refine ⟨.inr rfl,?_⟩;simp [aB,results94])
 all_goals ((repeat clear hK K);cases a;cases b;simp_all)
theorem GK {α β:Type} (f:α->β) (l:List α) (k:Nat) (h:k < l.length):(l.take (k+1)).map f=(l.take k).map f++[f l[k]]:=by
 rw [take_succ_eq_append_getElem h,map_append];rfl
theorem Fw [aD prog] (l:List iU) (hl:l.length<=1099511627776):Ok prog 210 [.sl .view 2 (l.map fQ)] (.sl .own 2 (l.map fQ)):=by
 refine bR aAc func210 ntmps210 ?_
 have W:=trivial
 repeat' first|refine we ?_|(refine sq ?_ ?_<;>intro hc<;>try exact hc.elim)|fail
 all_goals try(refine ⟨.inr rfl,?_⟩;simp [aB,results210])
theorem SY [aD prog] (t:bH) (hl:t.attrs.length<=1099511627776):Ok prog 195 [.agg (bB .view t)] (.agg (bB .own t)):=by
 refine bR aAc func195 ntmps195 ?_
 have W:=trivial
 repeat' first|refine we ?_|(refine sq ?_ ?_<;>intro hc<;>try exact hc.elim)|fail
 all_goals try(refine ⟨.inr rfl,?_⟩;simp [aB,results195])
theorem PD [aD prog] (l:List bH) (hs:bP bF l<=274877906944):Ok prog 127 [.sl .view 4 (l.map (bB .view))] (.sl .own 4 (l.map (bB .own))):=by
 simp only [bP] at hs
 refine bR aAc func127 ntmps127 ?_
 have W:=trivial
 repeat' first|refine we ?_|(refine sq ?_ ?_<;>intro hc<;>try exact hc.elim)|fail
 refine aJ (ι:={q:Nat×Nat // q.1<=l.length/\1<=q.2}) (fun t o i=>⟨aZ t [(3,.obj 0 i.1.2),(9,.int .i64 i.1.1),(5,.undef)],o.take 0++[⟨true,false,4,i.1.2,(l.take i.1.1).map (bB .own)⟩]⟩)
  (fun i=>l.length - i.1.1) ⟨(0,1),by simp,by first|(simp;done)|(simp only;omega)⟩ (aI (by simp) (by simp)) ?_
 rintro ⟨⟨k,v⟩,hk,hv⟩ K1 hK1
 simp only at hk hv
 simp only [aZ,set_cons_succ,set_cons_zero,take_succ_cons,take_zero,cons_append,nil_append] at hK1⊢
 have hk1:i64.wrap ((k:Int)+1)=((k+1:Nat):Int):=by rw [wrap64]<;>omega
 by_cases hlt:k < l.length
 ·have hg:=getElem?_eq_getElem hlt
  have hps:=GK (bB .own) l k hlt
  have hz:=dV bF l k hlt
  simp only [bF,bP] at hz
  have c1:=SY l[k] (by omega)
  simp only [bB] at c1
  have Lt:((l.take k).map (bB .own)).length=k:=by simp;omega
  generalize (l.take k).map (bB .own)=g at *
  have W:=aA hk1 (aA hg (aA hlt Lt))
  repeat' first|refine we ?_|(refine sq ?_ ?_<;>intro hc<;>try exact hc.elim)|fail
  all_goals refine hK1 _ ⟨(k+1,v+1),by simp only;omega,by simp only;omega⟩ (aS 1 (by simp [hps]) (by simp) (by simp) (by simp)) (by simp only;omega)
 ·have htk:l.take k=l:=take_of_length_le (by omega)
  rw [htk]
  have W:=hk1
  repeat' first|refine we ?_|(refine sq ?_ ?_<;>intro hc<;>try exact hc.elim)|fail
  all_goals try(refine ⟨.inr rfl,?_⟩;simp [aB,results127])
theorem PE [aD prog] (l:List bH) (hs:bP bF l<=274877906944):Ok prog 148 [.sl .view 4 (l.map (bB .view))] (.sl .own 4 (l.map (bB .own))):=by
 simp only [bP] at hs
 refine bR aAc func148 ntmps148 ?_
 have W:=trivial
 repeat' first|refine we ?_|(refine sq ?_ ?_<;>intro hc<;>try exact hc.elim)|fail
 refine aJ (ι:={q:Nat×Nat // q.1<=l.length/\1<=q.2}) (fun t o i=>⟨aZ t [(3,.obj 0 i.1.2),(4,.int .i64 i.1.1),(5,.undef)],o.take 0++[⟨true,false,4,i.1.2,(l.take i.1.1).map (bB .own)⟩]⟩)
  (fun i=>l.length - i.1.1) ⟨(0,1),by simp,by first|(simp;done)|(simp only;omega)⟩ (aI (by simp) (by simp)) ?_
 rintro ⟨⟨k,v⟩,hk,hv⟩ K1 hK1
 simp only at hk hv
 simp only [aZ,set_cons_succ,set_cons_zero,take_succ_cons,take_zero,cons_append,nil_append] at hK1⊢
 have hk1:i64.wrap ((k:Int)+1)=((k+1:Nat):Int):=by rw [wrap64]<;>omega
 by_cases hlt:k < l.length
 ·have hg:=getElem?_eq_getElem hlt
  have hps:=GK (bB .own) l k hlt
  have hz:=dV bF l k hlt
  simp only [bF,bP] at hz
  have c1:=Fw l[k].attrs (by omega)
  have Lt:((l.take k).map (bB .own)).length=k:=by simp;omega
  generalize (l.take k).map (bB .own)=g at *
  have W:=aA hk1 (aA hg (aA hlt Lt))
  repeat' first|refine we ?_|(refine sq ?_ ?_<;>intro hc<;>try exact hc.elim)|fail
  all_goals refine hK1 _ ⟨(k+1,v+1),by simp only;omega,by simp only;omega⟩ (aS 1 (by simp [hps]) (by simp) (by simp) (by simp)) (by simp only;omega)
 ·have htk:l.take k=l:=take_of_length_le (by omega)
  rw [htk]
  have W:=hk1
  repeat' first|refine we ?_|(refine sq ?_ ?_<;>intro hc<;>try exact hc.elim)|fail
  all_goals try(refine ⟨.inr rfl,?_⟩;simp [aB,results148])
theorem PG [aD prog] (a:gN) (hs:iC a<=274877906944):Ok prog 126 [.agg (bV .view a)] (.agg (bV .own a)):=by
 simp only [iC,bP] at hs
 refine bR aAc func126 ntmps126 ?_
 have W:=trivial
 repeat' first|refine we ?_|(refine sq ?_ ?_<;>intro hc<;>try exact hc.elim)|fail
 all_goals try(refine ⟨.inr rfl,?_⟩;simp [aB,results126])
theorem PH [aD prog] (a:gN) (hs:iC a<=274877906944):Ok prog 147 [.agg (bV .view a)] (.agg (bV .own a)):=by
 simp only [iC,bP] at hs
 refine bR aAc func147 ntmps147 ?_
 have W:=trivial
 repeat' first|refine we ?_|(refine sq ?_ ?_<;>intro hc<;>try exact hc.elim)|fail
 all_goals try(refine ⟨.inr rfl,?_⟩;simp [aB,results147])
def mZ (t:jH):List bH:=if t.rest=[]\/t.rest.head? =some 60 then [] else [⟨3,[],[],t.rest⟩]
theorem Rb (u:List Nat) (b:Bool) (l:List eY):lD (gM u) b (l.map (bX .view))=l.map (bX .view):=by
 induction l with
 |nil=>rfl
 |cons x l ih=>rw [map_cons,lD,ih];simp [wT,rt,bX,gM]
theorem jB [aD prog] (b:aW) (hs:aH b<=274877906944):Ok prog 128 [.agg (aN .view b)] (.agg (aN .own b)):=by
 simp only [aH,bP] at hs
 obtain ⟨l,opens⟩:=b
 simp only at hs
 refine bR aAc func128 ntmps128 ?_
 have W:=trivial
 repeat' first|refine we ?_|(refine sq ?_ ?_<;>intro hc<;>try exact hc.elim)|fail
 refine aJ (ι:={q:Nat×Nat // q.1<=l.length/\1<=q.2}) (fun t o i=>⟨aZ t [(14,.int .i64 i.1.1),(5,.undef),(10,.undef)],o.take 3++[⟨true,true,2,0,[[.obj 4 i.1.2,.obj 2 2]]⟩,⟨true,false,4,i.1.2,(l.take i.1.1).map (bX .own)⟩]⟩)
  (fun i=>l.length - i.1.1) ⟨(0,1),by simp,by simp⟩ (qX 3 0 0 (ob:=⟨true,true,2,0,[[.sl .own 4 [],.obj 2 2]]⟩) (by rfl) (by rfl) (by rfl) (by simp) (by rfl) (by rfl) (by simp) (by simp [wT,rt,gM,Rb])) ?_
 rintro ⟨⟨k,v⟩,hk,hv⟩ K1 hK1
 simp only at hk hv
 simp only [aZ,set_cons_succ,set_cons_zero,take_succ_cons,take_zero,cons_append,nil_append] at hK1⊢
 have hk1:i64.wrap ((k:Int)+1)=((k+1:Nat):Int):=by rw [wrap64]<;>omega
 by_cases hlt:k < l.length
 ·have hg:=getElem?_eq_getElem hlt
  have hps:=GK (bX .own) l k hlt
  have hz:=dV fU l k hlt
  simp only [fU,bP] at hz
  have Lt:((l.take k).map (bX .own)).length=k:=by simp;omega
  generalize (l.take k).map (bX .own)=g at *
  have W:=aA hk1 (aA hg (aA hlt Lt))
  repeat' first|refine we ?_|(refine sq ?_ ?_<;>intro hc<;>try exact hc.elim)|fail
  all_goals refine hK1 _ ⟨(k+1,v+1),by simp only;omega,by simp only;omega⟩ (aS 5 (by simp [hps]) (by simp) (by simp) (by simp)) (by simp only;omega)
 ·have htk:l.take k=l:=take_of_length_le (by omega)
  rw [htk]
  have W:=hk1
  repeat' first|refine we ?_|(refine sq ?_ ?_<;>intro hc<;>try exact hc.elim)|fail
  all_goals try(refine ⟨.inr rfl,?_⟩;simp [aB,results128])
theorem jC [aD prog] (b:aW) (hs:aH b<=274877906944):Ok prog 149 [.agg (aN .view b)] (.agg (aN .own b)):=by
 simp only [aH,bP] at hs
 obtain ⟨l,opens⟩:=b
 simp only at hs
 refine bR aAc func149 ntmps149 ?_
 have W:=trivial
 repeat' first|refine we ?_|(refine sq ?_ ?_<;>intro hc<;>try exact hc.elim)|fail
 refine aJ (ι:={q:Nat×Nat // q.1<=l.length/\1<=q.2}) (fun t o i=>⟨aZ t [(4,.int .i64 i.1.1),(5,.undef),(10,.undef)],o.take 3++[⟨true,true,2,0,[[.obj 4 i.1.2,.obj 2 2]]⟩,⟨true,false,4,i.1.2,(l.take i.1.1).map (bX .own)⟩]⟩)
  (fun i=>l.length - i.1.1) ⟨(0,1),by simp,by simp⟩ (qX 3 0 0 (ob:=⟨true,true,2,0,[[.sl .own 4 [],.obj 2 2]]⟩) (by rfl) (by rfl) (by rfl) (by simp) (by rfl) (by rfl) (by simp) (by simp [wT,rt,gM,Rb])) ?_
 rintro ⟨⟨k,v⟩,hk,hv⟩ K1 hK1
 simp only at hk hv
 simp only [aZ,set_cons_succ,set_cons_zero,take_succ_cons,take_zero,cons_append,nil_append] at hK1⊢
 have hk1:i64.wrap ((k:Int)+1)=((k+1:Nat):Int):=by rw [wrap64]<;>omega
 by_cases hlt:k < l.length
 ·have hg:=getElem?_eq_getElem hlt
  have hps:=GK (bX .own) l k hlt
  have hz:=dV fU l k hlt
  simp only [fU,bP] at hz
  have c1:=Fw l[k].attrs (by omega)
  have Lt:((l.take k).map (bX .own)).length=k:=by simp;omega
  generalize (l.take k).map (bX .own)=g at *
  have W:=aA hk1 (aA hg (aA hlt Lt))
  repeat' first|refine we ?_|(refine sq ?_ ?_<;>intro hc<;>try exact hc.elim)|fail
  all_goals refine hK1 _ ⟨(k+1,v+1),by simp only;omega,by simp only;omega⟩ (aS 5 (by simp [hps]) (by simp) (by simp) (by simp)) (by simp only;omega)
 ·have htk:l.take k=l:=take_of_length_le (by omega)
  rw [htk]
  have W:=hk1
  repeat' first|refine we ?_|(refine sq ?_ ?_<;>intro hc<;>try exact hc.elim)|fail
  all_goals try(refine ⟨.inr rfl,?_⟩;simp [aB,results149])
theorem jd (s:bC) (k:Nat) (h:k < s.length):(fC s)[k]? =some [.int .u8 s[k].toNat]:=by
 simp [fC,h]
theorem GL:∀s:bC,bytesOf (fC s)=some s
 |[]=>rfl
 |c::s=>by
  have ih:=GL s
  simp only [fC,map_cons] at ih⊢
  simp only [bytesOf,ih,Option.map_some,Int.toNat_natCast]
  simp
@[simp] theorem aIl (f:Tg->Option Tg) (b:Bool) (l:bC):lD f b (fC l)=fC l:=by
 induction l with
 |nil=>rfl
 |cons x l ih=>simp only [fC,map_cons,lD,wT,rt] at ih⊢;rw [ih]
def Be (s:bC) (k:Nat):bC:=(s.take k).map oZ++s.drop k
theorem Vu (s:bC) (k:Nat):(Be s k).length=s.length:=by
 unfold Be
 rw [length_append,length_map,length_take,length_drop];omega
theorem Vv (s:bC) (k:Nat) (h:k < s.length):(Be s k)[k]? =some s[k]:=by
 unfold Be
 rw [getElem?_append_right (by rw [length_map,length_take];omega)]
 simp [show min k s.length=k by omega,getElem?_eq_getElem h]
theorem Vw (s:bC) (k:Nat) (h:k < s.length):(Be s k).set k (oZ s[k])=Be s (k+1):=by
 unfold Be
 have hl:((s.take k).map oZ).length=k:=by simp;omega
 rw [set_append_right _ _ (by omega),hl,Nat.sub_self,drop_eq_getElem_cons h,set_cons_zero,take_succ_eq_append_getElem h,map_append]
 simp
theorem je (s:bC) (k:Nat) (h:k < s.length) (hm:oZ s[k]=s[k]):Be s (k+1)=Be s k:=by
 rw [<-Vw s k h,hm]
 have e:=Vv s k h
 refine ext_getElem? fun i=> ?_
 rw [getElem?_set]
 split
 ·rename_i hi
  subst hi
  rw [if_pos (by rw [Vu];exact h)]
  exact e.symm
 ·rfl
theorem Vx (l:bC) (k:Nat) (c:UInt8):(fC l).set k [.int .u8 c.toNat]=fC (l.set k c):=by simp [fC,map_set]
theorem nH [aD prog] (s:bC) (hl:s.length<=1099511627776):Ok prog 261 [.str s] (.str (s.map oZ)):=by
 refine bR aAc func261 ntmps261 ?_
 have W:=trivial
 repeat' first|refine st ?_|(refine nx ?_;first|refine se ?_|refine so ?_|refine sb ?_)|(refine cx ?_;refine sc (fun hc=>?_) (fun hc=>?_)<;>try exact hc.elim)|(refine lx ?_;refine sp (fun hc=>?_) (fun hc=>?_)<;>try exact hc.elim)|refine sx ?_ ?_|refine sy ?_ ?_|fail
 refine aJ (ι:={k:Nat // k<=s.length}) (fun t o i=>⟨aZ t [(4,.int .i64 i.1)],[⟨true,false,1,1,fC (Be s i.1)⟩]⟩)
  (fun i=>s.length - i.1) ⟨0,by simp⟩ (aI (by simp [Be]) (by simp)) ?_
 rintro ⟨k,hk⟩ K1 hK1
 simp only [aZ,set_cons_succ,set_cons_zero] at hK1⊢
 have hk1:i64.wrap ((k:Int)+1)=((k+1:Nat):Int):=by rw [wrap64]<;>omega
 by_cases hlt:k < s.length
 ·have xZ:=Vu s k
  have hug:=Vv s k hlt
  have hbl:=oF (Be s k)
  have hg:(fC (Be s k))[k]? =some [.int .u8 s[k].toNat]:=by
   rw [jd _ _ (by omega)]
   rw [getElem?_eq_getElem (by omega)] at hug
   rw [Option.some.inj hug]
  have hlb:k < (fC (Be s k)).length:=by omega
  have hs1:=Vw s k hlt
  have mJ:=je s k hlt
  by_cases h1:s[k]=91
  ·have h1i:((s[k].toNat:Nat):Int)=91:=by rw [h1];rfl
   have hset:(fC (Be s k)).set k [.int .u8 60]=fC (Be s (k+1)):=by
    rw [<-hs1,<-Vx];simp [oZ,h1]
   have W:=aA hk1 (aA hg (aA hbl (aA xZ (aA h1i hset))))
   have V:=aA hlb hlt
   repeat' first|refine st ?_|(refine nx ?_;first|refine se ?_|refine so ?_|refine sb ?_)|(refine cx ?_;refine sc (fun hc=>?_) (fun hc=>?_)<;>try exact hc.elim)|(refine lx ?_;refine sp (fun hc=>?_) (fun hc=>?_)<;>try exact hc.elim)|refine sx ?_ ?_|refine sy ?_ ?_|fail
   all_goals exact hK1 _ ⟨k+1,by omega⟩ (aI (by simp) (by simp)) (by simp only;omega)
  ·have h1i:¬((s[k].toNat:Nat):Int)=91:=fun h=>h1 (UInt8.toNat.inj (by exact_mod_cast h))
   by_cases h2:s[k]=93
   ·have h2i:((s[k].toNat:Nat):Int)=93:=by rw [h2];rfl
    have hset:(fC (Be s k)).set k [.int .u8 62]=fC (Be s (k+1)):=by
     rw [<-hs1,<-Vx];simp [oZ,h2]
    have W:=aA hk1 (aA hg (aA hbl (aA xZ (aA h1i (aA h2i hset)))))
    have V:=aA hlb hlt
    repeat' first|refine st ?_|(refine nx ?_;first|refine se ?_|refine so ?_|refine sb ?_)|(refine cx ?_;refine sc (fun hc=>?_) (fun hc=>?_)<;>try exact hc.elim)|(refine lx ?_;refine sp (fun hc=>?_) (fun hc=>?_)<;>try exact hc.elim)|refine sx ?_ ?_|refine sy ?_ ?_|fail
    all_goals exact hK1 _ ⟨k+1,by omega⟩ (aI (by simp) (by simp)) (by simp only;omega)
   ·have h2i:¬((s[k].toNat:Nat):Int)=93:=fun h=>h2 (UInt8.toNat.inj (by exact_mod_cast h))
    have hsm:=mJ (by simp [oZ,h1,h2])
    have W:=aA hk1 (aA hg (aA hbl (aA xZ (aA h1i h2i))))
    have V:=aA hlb hlt
    repeat' first|refine st ?_|(refine nx ?_;first|refine se ?_|refine so ?_|refine sb ?_)|(refine cx ?_;refine sc (fun hc=>?_) (fun hc=>?_)<;>try exact hc.elim)|(refine lx ?_;refine sp (fun hc=>?_) (fun hc=>?_)<;>try exact hc.elim)|refine sx ?_ ?_|refine sy ?_ ?_|fail
    all_goals exact hK1 _ ⟨k+1,by omega⟩ (aI (by simp [hsm]) (by simp)) (by simp only;omega)
 ·have hk2:k=s.length:=by omega
  have hup:Be s k=s.map oZ:=by simp [Be,hk2]
  have xZ:(s.map oZ).length=s.length:=by simp
  have hbl:=oF (s.map oZ)
  have hbo:=GL (s.map oZ)
  rw [hup]
  have J6:¬k < s.length:=hlt
  have W:=aA hk1 (aA hbl (aA xZ hbo))
  repeat' first|refine st ?_|(refine nx ?_;first|refine se ?_|refine so ?_|refine sb ?_)|(refine cx ?_;refine sc (fun hc=>?_) (fun hc=>?_)<;>try exact hc.elim)|(refine lx ?_;refine sp (fun hc=>?_) (fun hc=>?_)<;>try exact hc.elim)|refine sx ?_ ?_|refine sy ?_ ?_|fail
  all_goals try(refine ⟨.inr rfl,?_⟩;simp [aB,results261])
def aR (b:aW) (n:bC):Int:=(((b.nodes.filter fun x=>decide (x.name=n)).length:Nat):Int)
theorem Nv (b:aW) (n:bC) (k:Nat) (h:k < b.nodes.length):((b.nodes.take (k+1)).filter fun x=>decide (x.name=n)).length=((b.nodes.take k).filter fun x=>decide (x.name=n)).length+(if b.nodes[k].name=n then 1 else 0):=by
 rw [take_succ_eq_append_getElem h,filter_append,length_append]
 congr 1
 by_cases hn:b.nodes[k].name=n<;>simp [hn]
end Go.Proofs.YtlnblmmohpcceaaGreatDoor
