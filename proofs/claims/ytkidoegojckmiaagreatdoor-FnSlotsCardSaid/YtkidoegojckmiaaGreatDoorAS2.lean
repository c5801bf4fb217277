/-
  Proved here: steps towards the statement of this claim, text S2.
  No condition beyond what each statement spells out.
-/
import Derived.Test.YtkidoegojckmiaaGreatDoorAQJ6
set_option linter.all false
set_option maxRecDepth 4000
set_option maxHeartbeats 4000000
namespace Go.Proofs.YtkidoegojckmiaaGreatDoor
open Go.Aw
theorem aIj {w:Str} (h:(aT 61 w).length=2):ixB 61 w < w.length∧aT 61 w=[iO w,jL w]:=by
 rw [mR] at h⊢
 by_cases hi:ixB 61 w < w.length
 ·rw [if_pos hi] at h⊢
  refine ⟨hi,?_⟩
  rw [mR] at h⊢
  by_cases h2:ixB 61 (w.drop (ixB 61 w+1)) < (w.drop (ixB 61 w+1)).length
  ·rw [if_pos h2] at h
   have:=lV 61 ((w.drop (ixB 61 w+1)).drop (ixB 61 (w.drop (ixB 61 w+1))+1))
   have hl:=List.length_pos_iff.2 this
   simp only [List.length_cons] at h
   omega
  ·rw [if_neg h2]
   have hle:=uN 61 (w.drop (ixB 61 w+1))
   rw [List.take_of_length_le (l:=w.drop (ixB 61 w+1)) (by omega)]
   rfl
 ·rw [if_neg hi] at h
  simp at h
theorem aI3 {w:Str} (h:ixB 61 w < w.length) (hv:dB (jL w)=true):(aT 61 w).length=2:=by
 have hno:∀x∈jL w,x≠61:=by
  intro x hx
  simp only [dB,Bool.and_eq_true] at hv
  have:=List.all_eq_true.1 hv.1 x hx
  rintro rfl
  simp [jX] at this
 rw [mR,if_pos h]
 have:=oN 61 (jL w) hno
 unfold jL at this
 rw [this]
 rfl
theorem aJe [aB Tryz.prog] [bV Tryz.prog] (s:Str) (hl:s.length≤1099511627776):Ok Tryz.prog 164 [.str s] (.tup [.agg (bP .own (lL s).1),.bool (lL s).2]):=by
 by_cases h60:(60:Int) < (s.length:Int)
 ·have hr:lL s=(bT,false):=by unfold lL;rw [if_pos (by omega)]
  rw [hr]
  refine uJ Tryz.mix Tryz.func164 Tryz.ntmps164 ?_
  have W:=h60
  repeat' first|refine st ?_|(refine nx ?_;first|refine se ?_|refine so ?_)|(refine cx ?_;refine sc (fun hc=>?_) (fun hc=>?_)<;>try exact hc.elim)|(refine lx ?_;refine sp (fun hc=>?_) (fun hc=>?_)<;>try exact hc.elim)|refine sx ?_ ?_|refine sy ?_ ?_|fail
  all_goals (try (first|(refine ⟨.inr rfl,.inl ?_⟩;simp [Hands,Tryz.results164,bT];done)|(refine ⟨.inr rfl,.inr (dD ?_)⟩;simp [AS.rvB,AS.rvs,AS.rv,Tryz.results164,bT];done)|(refine ⟨.inr rfl,.inl ?_⟩;simp [Hands,Tryz.results164,bT])))
 cases hp:pfx [47] s
 case true=>
  have c1:=gU (s.drop 1) (by simp;omega)
  have hlen:=aQq hp
  simp only [List.length_cons,List.length_nil,Nat.zero_add] at hlen
  cases s with
  |nil=>simp at hlen
  |cons x s1=>
   obtain rfl:x=47:=by simpa [pfx] using hp
   have h61:¬(60:Int) < (s1.length:Int)+1:=by simp only [List.length_cons] at h60;omega
   simp only [List.drop_succ_cons,List.drop_zero] at c1
   cases hn:bL s1
   ·have hr:lL (47::s1)=(bT,false):=by unfold lL;rw [if_neg (by omega),if_pos hp];simp [hn]
    rw [hr]
    rw [hn] at c1
    clear hp
    refine uJ Tryz.mix Tryz.func164 Tryz.ntmps164 ?_
    have W:=h61
    repeat' first|refine st ?_|(refine nx ?_;first|refine se ?_|refine so ?_)|(refine cx ?_;refine sc (fun hc=>?_) (fun hc=>?_)<;>try exact hc.elim)|(refine lx ?_;refine sp (fun hc=>?_) (fun hc=>?_)<;>try exact hc.elim)|refine sx ?_ ?_|refine sy ?_ ?_|fail
    all_goals (try (first|(refine ⟨.inr rfl,.inl ?_⟩;simp [Hands,Tryz.results164,bT];done)|(refine ⟨.inr rfl,.inr (dD ?_)⟩;simp [AS.rvB,AS.rvs,AS.rv,Tryz.results164,bT];done)|(refine ⟨.inr rfl,.inl ?_⟩;simp [Hands,Tryz.results164,bT])))
   ·have hr:lL (47::s1)=(⟨2,s1,[],[]⟩,true):=by unfold lL;rw [if_neg (by omega),if_pos hp];simp [hn]
    rw [hr]
    rw [hn] at c1
    clear hp
    refine uJ Tryz.mix Tryz.func164 Tryz.ntmps164 ?_
    have W:=h61
    repeat' first|refine st ?_|(refine nx ?_;first|refine se ?_|refine so ?_)|(refine cx ?_;refine sc (fun hc=>?_) (fun hc=>?_)<;>try exact hc.elim)|(refine lx ?_;refine sp (fun hc=>?_) (fun hc=>?_)<;>try exact hc.elim)|refine sx ?_ ?_|refine sy ?_ ?_|fail
    all_goals (try (first|(refine ⟨.inr rfl,.inl ?_⟩;simp [Hands,Tryz.results164];done)|(refine ⟨.inr rfl,.inr (dD ?_)⟩;simp [AS.rvB,AS.rvs,AS.rv,Tryz.results164];done)|(refine ⟨.inr rfl,.inl ?_⟩;simp [Hands,Tryz.results164])))
 case false=>
  have hr:lL s=rW (s.take (ixB 32 s)) (if ixB 32 s < s.length then aT 32 (s.drop (ixB 32 s+1)) else []):=by unfold lL;rw [if_neg (by omega),if_neg (by rw [hp];simp)]
  have c2:Ok Tryz.prog 85 [.str s,.int .u8 32] (.sl .own 1 ((aT 32 s).map aK)):=nU s 32 (by omega)
  have hsl:=fV 32 s
  have hcn:s.count 32≤s.length:=List.count_le_length
  have hsm:=sI 32 s
  rw [hr]
  have c1:=gU (s.take (ixB 32 s)) (by simp;omega)
  have hLc:=mR 32 s
  generalize (if ixB 32 s < s.length then aT 32 (s.drop (ixB 32 s+1)) else [])=ws at *
  generalize s.take (ixB 32 s)=w0 at *
  generalize aT 32 s=L at *
  have hL0:L[0]? =some w0:=by rw [hLc];rfl
  have hLd:L.drop 1=ws:=by rw [hLc];rfl
  have hLl:L.length=ws.length+1:=by rw [hLc];rfl
  have hnone:=fun h=>aNh (w0:=w0) (ws:=ws) h
  have hsome:=fun l=>aOq (w0:=w0) (ws:=ws) (l:=l)
  have hno:=aQ1 (w0:=w0) (ws:=ws)
  generalize rW w0 ws=res at *
  clear hr hLc
  have hfirst:s=[]∨∃x r,s=x::r∧¬((x.toNat:Int)=47):=by
   cases s with
   |nil=>exact .inl rfl
   |cons x r=>
    refine .inr ⟨x,r,rfl,fun h=> ?_⟩
    have:x=47:=UInt8.toNat_inj.1 (by simp;omega)
    subst this
    simp [pfx] at hp
  clear hp
  rcases hfirst with rfl|⟨x,r,rfl,hx⟩
  ·refine uJ Tryz.mix Tryz.func164 Tryz.ntmps164 ?_
   have W:=And.intro h60 hL0
   repeat' first|refine st ?_|(refine nx ?_;first|refine se ?_|refine so ?_)|(refine cx ?_;refine sc (fun hc=>?_) (fun hc=>?_)<;>try exact hc.elim)|(refine lx ?_;refine sp (fun hc=>?_) (fun hc=>?_)<;>try exact hc.elim)|refine sx ?_ ?_|refine sy ?_ ?_|fail
   refine aJ (ι:={q:Nat×Nat×List iF // (q.1≤L.length∧1≤q.2.1)∧q.2.2.length+1=q.1∧dO ws []=dO (L.drop q.1) q.2.2}) (fun t o i=>⟨aL t [(6,.int .i64 i.1.1),(35,.undef)],[⟨true,true,4,0,[[.int .i64 0,.str [],.sl .own 2 [],.str []]]⟩,⟨true,false,1,1,L.map aK⟩,⟨true,true,4,0,[[.int .i64 1,.str w0,.obj 3 i.1.2.1,.str []]]⟩,⟨true,false,2,i.1.2.1,i.1.2.2.map lN⟩]⟩)
    (fun i=>L.length - i.1.1) ⟨(1,1,[]),by simp only;omega,by simp,by rw [hLd]⟩ (nR 2 0 2 (ob:=⟨true,true,4,0,[[.int .i64 1,.str w0,.sl .own 2 [],.str []]]⟩) (by rfl) (by rfl) (by rfl) (by simp) (by rfl) (by rfl) (by simp) (by simp [rtc,rt,dW])) ?_
   rintro ⟨⟨k,v,acc⟩,⟨hk,hv⟩,hacc,hgo⟩ K1 hK1
   simp only at hk hv hacc hgo
   simp only [aL,List.set_cons_succ,List.set_cons_zero] at hK1⊢
   have hk1:IntKind.i64.wrap ((k:Int)+1)=((k+1:Nat):Int):=by rw [wrap64]<;>omega
   by_cases hlt:k < L.length
   ·have hg:=List.getElem?_eq_getElem hlt
    have hwz:=dJ bU L k hlt
    rw [List.drop_eq_getElem_cons hlt] at hgo
    simp only [bU] at hwz
    have cS:Ok Tryz.prog 85 [.str L[k],.int .u8 61] (.sl .own 1 ((aT 61 L[k]).map aK)):=nU L[k] 61 (by omega)
    have cN:=gU (iO L[k]) (by simp [iO];omega)
    have cV:=nS (jL L[k]) (by simp [jL];omega)
    have cF:=vI acc (iO L[k]) (by omega)
    have hbad:(decide (ixB 61 L[k] < L[k].length)&&bL (iO L[k])&&dB (jL L[k])&& !(iM acc (iO L[k])).2)=false→res=(bT,false):=fun h=>hnone (by rw [hgo];simp only [dO];rw [h];rfl)
    have hnext:(decide (ixB 61 L[k] < L[k].length)&&bL (iO L[k])&&dB (jL L[k])&& !(iM acc (iO L[k])).2)=true→dO ws []=dO (L.drop (k+1)) (acc++[⟨iO L[k],jL L[k]⟩]):=fun h=>by rw [hgo];simp only [dO];rw [if_pos h]
    have htwo:=aIj (w:=L[k])
    have hback:=aI3 (w:=L[k])
    have hsn:=fV 61 L[k]
    have hsc:L[k].count 61≤L[k].length:=List.count_le_length
    clear hgo hnone hsome hno
    by_cases h2:(aT 61 L[k]).length=2
    ·obtain ⟨hi,hsg⟩:=htwo h2
     rw [hsg] at cS
     simp only [List.map_cons,List.map_nil,aK] at cS
     rw [decide_eq_true hi] at hbad hnext
     clear htwo hback h2 hsg hsn hsc hi
     generalize bL (iO L[k])=b2 at *
     generalize dB (jL L[k])=b3 at *
     generalize iM acc (iO L[k])=fa at *
     obtain ⟨fv,b4⟩:=fa
     generalize iO L[k]=ky at *
     generalize jL L[k]=vl at *
     simp only at cF hbad hnext
     cases b2
     ·rw [hbad (by simp)]
      clear hbad hnext hK1
      have W:=And.intro hk1 (And.intro hg hlt)
      repeat' first|refine st ?_|(refine nx ?_;first|refine se ?_|refine so ?_)|(refine cx ?_;refine sc (fun hc=>?_) (fun hc=>?_)<;>try exact hc.elim)|(refine lx ?_;refine sp (fun hc=>?_) (fun hc=>?_)<;>try exact hc.elim)|refine sx ?_ ?_|refine sy ?_ ?_|fail
      all_goals (try (first|(refine ⟨.inr rfl,.inl ?_⟩;simp [Hands,Tryz.results164,bT];done)|(refine ⟨.inr rfl,.inr (dD ?_)⟩;simp [AS.rvB,AS.rvs,AS.rv,Tryz.results164,bT];done)|(refine ⟨.inr rfl,.inl ?_⟩;simp [Hands,Tryz.results164,bT])))
     cases b3
     ·rw [hbad (by simp)]
      clear hbad hnext hK1
      have W:=And.intro hk1 (And.intro hg hlt)
      repeat' first|refine st ?_|(refine nx ?_;first|refine se ?_|refine so ?_)|(refine cx ?_;refine sc (fun hc=>?_) (fun hc=>?_)<;>try exact hc.elim)|(refine lx ?_;refine sp (fun hc=>?_) (fun hc=>?_)<;>try exact hc.elim)|refine sx ?_ ?_|refine sy ?_ ?_|fail
      all_goals (try (first|(refine ⟨.inr rfl,.inl ?_⟩;simp [Hands,Tryz.results164,bT];done)|(refine ⟨.inr rfl,.inr (dD ?_)⟩;simp [AS.rvB,AS.rvs,AS.rv,Tryz.results164,bT];done)|(refine ⟨.inr rfl,.inl ?_⟩;simp [Hands,Tryz.results164,bT])))
     cases b4
     ·have hn2:=hnext (by simp)
      clear hbad hnext
      have W:=And.intro hk1 (And.intro hg hlt)
      repeat' first|refine st ?_|(refine nx ?_;first|refine se ?_|refine so ?_)|(refine cx ?_;refine sc (fun hc=>?_) (fun hc=>?_)<;>try exact hc.elim)|(refine lx ?_;refine sp (fun hc=>?_) (fun hc=>?_)<;>try exact hc.elim)|refine sx ?_ ?_|refine sy ?_ ?_|fail
      all_goals refine hK1 _ ⟨(k+1,v+1,acc++[⟨ky,vl⟩]),⟨by simp only;omega,by simp only;omega⟩,by simp;omega,hn2⟩ (aG 4 (by simp) (by simp) (by simp) (by simp)) (by simp only;omega)
     ·rw [hbad (by simp)]
      clear hbad hnext hK1
      have W:=And.intro hk1 (And.intro hg hlt)
      repeat' first|refine st ?_|(refine nx ?_;first|refine se ?_|refine so ?_)|(refine cx ?_;refine sc (fun hc=>?_) (fun hc=>?_)<;>try exact hc.elim)|(refine lx ?_;refine sp (fun hc=>?_) (fun hc=>?_)<;>try exact hc.elim)|refine sx ?_ ?_|refine sy ?_ ?_|fail
      all_goals (try (first|(refine ⟨.inr rfl,.inl ?_⟩;simp [Hands,Tryz.results164,bT];done)|(refine ⟨.inr rfl,.inr (dD ?_)⟩;simp [AS.rvB,AS.rvs,AS.rv,Tryz.results164,bT];done)|(refine ⟨.inr rfl,.inl ?_⟩;simp [Hands,Tryz.results164,bT])))
    ·have hres:res=(bT,false):=hbad (by
      cases hi:decide (ixB 61 L[k] < L[k].length)
      ·simp
      ·cases hv2:dB (jL L[k])
       ·simp
       ·exact absurd (hback (of_decide_eq_true hi) hv2) h2)
     rw [hres]
     have h2':¬(((aT 61 L[k]).length:Int)=2):=by omega
     clear hbad hnext hK1 htwo hback hres h2
     generalize aT 61 L[k]=sg at *
     have W:=And.intro hk1 (And.intro hg (And.intro hlt h2'))
     repeat' first|refine st ?_|(refine nx ?_;first|refine se ?_|refine so ?_)|(refine cx ?_;refine sc (fun hc=>?_) (fun hc=>?_)<;>try exact hc.elim)|(refine lx ?_;refine sp (fun hc=>?_) (fun hc=>?_)<;>try exact hc.elim)|refine sx ?_ ?_|refine sy ?_ ?_|fail
     all_goals (try (first|(refine ⟨.inr rfl,.inl ?_⟩;simp [Hands,Tryz.results164,bT];done)|(refine ⟨.inr rfl,.inr (dD ?_)⟩;simp [AS.rvB,AS.rvs,AS.rv,Tryz.results164,bT];done)|(refine ⟨.inr rfl,.inl ?_⟩;simp [Hands,Tryz.results164,bT])))
   ·have hdn:L.drop k=[]:=List.drop_of_length_le (by omega)
    rw [hdn] at hgo
    have hal:=vD ws [] acc (by rw [hgo];rfl)
    have hs2:=fun h1 h2=>hsome acc h1 h2 (by rw [hgo];rfl)
    clear hK1 hgo hsome hnone
    cases hn:bL w0
    ·rw [hno (by rw [hn];simp)]
     rw [hn] at c1
     have W:=hk1
     repeat' first|refine st ?_|(refine nx ?_;first|refine se ?_|refine so ?_)|(refine cx ?_;refine sc (fun hc=>?_) (fun hc=>?_)<;>try exact hc.elim)|(refine lx ?_;refine sp (fun hc=>?_) (fun hc=>?_)<;>try exact hc.elim)|refine sx ?_ ?_|refine sy ?_ ?_|fail
     all_goals (try (first|(refine ⟨.inr rfl,.inl ?_⟩;simp [Hands,Tryz.results164,bT];done)|(refine ⟨.inr rfl,.inr (dD ?_)⟩;simp [AS.rvB,AS.rvs,AS.rv,Tryz.results164,bT];done)|(refine ⟨.inr rfl,.inl ?_⟩;simp [Hands,Tryz.results164,bT])))
    ·rw [hn] at c1
     by_cases h4:(4:Int) < (acc.length:Int)
     ·exfalso;simp only [List.length_nil,List.count_nil] at hal hsl;omega
     ·rw [hs2 hn (by simp only [List.length_nil] at hal;omega)]
      have W:=And.intro hk1 h4
      repeat' first|refine st ?_|(refine nx ?_;first|refine se ?_|refine so ?_)|(refine cx ?_;refine sc (fun hc=>?_) (fun hc=>?_)<;>try exact hc.elim)|(refine lx ?_;refine sp (fun hc=>?_) (fun hc=>?_)<;>try exact hc.elim)|refine sx ?_ ?_|refine sy ?_ ?_|fail
      all_goals (try (first|(refine ⟨.inr rfl,.inl ?_⟩;simp [Hands,Tryz.results164];done)|(refine ⟨.inr rfl,.inr (dD ?_)⟩;simp [AS.rvB,AS.rvs,AS.rv,Tryz.results164];done)|(refine ⟨.inr rfl,.inl ?_⟩;simp [Hands,Tryz.results164])))
  ·have h61:¬(60:Int) < (r.length:Int)+1:=by simp only [List.length_cons] at h60;omega
   refine uJ Tryz.mix Tryz.func164 Tryz.ntmps164 ?_
   have W:=And.intro h61 (And.intro hx hL0)
   repeat' first|refine st ?_|(refine nx ?_;first|refine se ?_|refine so ?_)|(refine cx ?_;refine sc (fun hc=>?_) (fun hc=>?_)<;>try exact hc.elim)|(refine lx ?_;refine sp (fun hc=>?_) (fun hc=>?_)<;>try exact hc.elim)|refine sx ?_ ?_|refine sy ?_ ?_|fail
   refine aJ (ι:={q:Nat×Nat×List iF // (q.1≤L.length∧1≤q.2.1)∧q.2.2.length+1=q.1∧dO ws []=dO (L.drop q.1) q.2.2}) (fun t o i=>⟨aL t [(6,.int .i64 i.1.1),(35,.undef)],[⟨true,true,4,0,[[.int .i64 0,.str [],.sl .own 2 [],.str []]]⟩,⟨true,false,1,1,L.map aK⟩,⟨true,true,4,0,[[.int .i64 1,.str w0,.obj 3 i.1.2.1,.str []]]⟩,⟨true,false,2,i.1.2.1,i.1.2.2.map lN⟩]⟩)
    (fun i=>L.length - i.1.1) ⟨(1,1,[]),by simp only;omega,by simp,by rw [hLd]⟩ (nR 2 0 2 (ob:=⟨true,true,4,0,[[.int .i64 1,.str w0,.sl .own 2 [],.str []]]⟩) (by rfl) (by rfl) (by rfl) (by simp) (by rfl) (by rfl) (by simp) (by simp [rtc,rt,dW])) ?_
   rintro ⟨⟨k,v,acc⟩,⟨hk,hv⟩,hacc,hgo⟩ K1 hK1
   simp only at hk hv hacc hgo
   simp only [aL,List.set_cons_succ,List.set_cons_zero] at hK1⊢
   have hk1:IntKind.i64.wrap ((k:Int)+1)=((k+1:Nat):Int):=by rw [wrap64]<;>omega
   by_cases hlt:k < L.length
   ·have hg:=List.getElem?_eq_getElem hlt
    have hwz:=dJ bU L k hlt
    rw [List.drop_eq_getElem_cons hlt] at hgo
    simp only [bU] at hwz
    have cS:Ok Tryz.prog 85 [.str L[k],.int .u8 61] (.sl .own 1 ((aT 61 L[k]).map aK)):=nU L[k] 61 (by omega)
    have cN:=gU (iO L[k]) (by simp [iO];omega)
    have cV:=nS (jL L[k]) (by simp [jL];omega)
    have cF:=vI acc (iO L[k]) (by omega)
    have hbad:(decide (ixB 61 L[k] < L[k].length)&&bL (iO L[k])&&dB (jL L[k])&& !(iM acc (iO L[k])).2)=false→res=(bT,false):=fun h=>hnone (by rw [hgo];simp only [dO];rw [h];rfl)
    have hnext:(decide (ixB 61 L[k] < L[k].length)&&bL (iO L[k])&&dB (jL L[k])&& !(iM acc (iO L[k])).2)=true→dO ws []=dO (L.drop (k+1)) (acc++[⟨iO L[k],jL L[k]⟩]):=fun h=>by rw [hgo];simp only [dO];rw [if_pos h]
    have htwo:=aIj (w:=L[k])
    have hback:=aI3 (w:=L[k])
    have hsn:=fV 61 L[k]
    have hsc:L[k].count 61≤L[k].length:=List.count_le_length
    clear hgo hnone hsome hno
    by_cases h2:(aT 61 L[k]).length=2
    ·obtain ⟨hi,hsg⟩:=htwo h2
     rw [hsg] at cS
     simp only [List.map_cons,List.map_nil,aK] at cS
     rw [decide_eq_true hi] at hbad hnext
     clear htwo hback h2 hsg hsn hsc hi
     generalize bL (iO L[k])=b2 at *
     generalize dB (jL L[k])=b3 at *
     generalize iM acc (iO L[k])=fa at *
     obtain ⟨fv,b4⟩:=fa
     generalize iO L[k]=ky at *
     generalize jL L[k]=vl at *
     simp only at cF hbad hnext
     cases b2
     ·rw [hbad (by simp)]
      clear hbad hnext hK1
      have W:=And.intro hk1 (And.intro hg hlt)
      repeat' first|refine st ?_|(refine nx ?_;first|refine se ?_|refine so ?_)|(refine cx ?_;refine sc (fun hc=>?_) (fun hc=>?_)<;>try exact hc.elim)|(refine lx ?_;refine sp (fun hc=>?_) (fun hc=>?_)<;>try exact hc.elim)|refine sx ?_ ?_|refine sy ?_ ?_|fail
      all_goals (try (first|(refine ⟨.inr rfl,.inl ?_⟩;simp [Hands,Tryz.results164,bT];done)|(refine ⟨.inr rfl,.inr (dD ?_)⟩;simp [AS.rvB,AS.rvs,AS.rv,Tryz.results164,bT];done)|(refine ⟨.inr rfl,.inl ?_⟩;simp [Hands,Tryz.results164,bT])))
     cases b3
     ·rw [hbad (by simp)]
      clear hbad hnext hK1
      have W:=And.intro hk1 (And.intro hg hlt)
      repeat' first|refine st ?_|(refine nx ?_;first|refine se ?_|refine so ?_)|(refine cx ?_;refine sc (fun hc=>?_) (fun hc=>?_)<;>try exact hc.elim)|(refine lx ?_;refine sp (fun hc=>?_) (fun hc=>?_)<;>try exact hc.elim)|refine sx ?_ ?_|refine sy ?_ ?_|fail
      all_goals (try (first|(refine ⟨.inr rfl,.inl ?_⟩;simp [Hands,Tryz.results164,bT];done)|(refine ⟨.inr rfl,.inr (dD ?_)⟩;simp [AS.rvB,AS.rvs,AS.rv,Tryz.results164,bT];done)|(refine ⟨.inr rfl,.inl ?_⟩;simp [Hands,Tryz.results164,bT])))
     cases b4
     ·have hn2:=hnext (by simp)
      clear hbad hnext
      have W:=And.intro hk1 (And.intro hg hlt)
      repeat' first|refine st ?_|(refine nx ?_;first|refine se ?_|refine so ?_)|(refine cx ?_;refine sc (fun hc=>?_) (fun hc=>?_)<;>try exact hc.elim)|(refine lx ?_;refine sp (fun hc=>?_) (fun hc=>?_)<;>try exact hc.elim)|refine sx ?_ ?_|refine sy ?_ ?_|fail
      all_goals refine hK1 _ ⟨(k+1,v+1,acc++[⟨ky,vl⟩]),⟨by simp only;omega,by simp only;omega⟩,by simp;omega,hn2⟩ (aG 4 (by simp) (by simp) (by simp) (by simp)) (by simp only;omega)
     ·rw [hbad (by simp)]
      clear hbad hnext hK1
      have W:=And.intro hk1 (And.intro hg hlt)
      repeat' first|refine st ?_|(refine nx ?_;first|refine se ?_|refine so ?_)|(refine cx ?_;refine sc (fun hc=>?_) (fun hc=>?_)<;>try exact hc.elim)|(refine lx ?_;refine sp (fun hc=>?_) (fun hc=>?_)<;>try exact hc.elim)|refine sx ?_ ?_|refine sy ?_ ?_|fail
      all_goals (try (first|(refine ⟨.inr rfl,.inl ?_⟩;simp [Hands,Tryz.results164,bT];done)|(refine ⟨.inr rfl,.inr (dD ?_)⟩;simp [AS.rvB,AS.rvs,AS.rv,Tryz.results164,bT];done)|(refine ⟨.inr rfl,.inl ?_⟩;simp [Hands,Tryz.results164,bT])))
    ·have hres:res=(bT,false):=hbad (by
      cases hi:decide (ixB 61 L[k] < L[k].length)
      ·simp
      ·cases hv2:dB (jL L[k])
       ·simp
       ·exact absurd (hback (of_decide_eq_true hi) hv2) h2)
     rw [hres]
     have h2':¬(((aT 61 L[k]).length:Int)=2):=by omega
     clear hbad hnext hK1 htwo hback hres h2
     generalize aT 61 L[k]=sg at *
     have W:=And.intro hk1 (And.intro hg (And.intro hlt h2'))
     repeat' first|refine st ?_|(refine nx ?_;first|refine se ?_|refine so ?_)|(refine cx ?_;refine sc (fun hc=>?_) (fun hc=>?_)<;>try exact hc.elim)|(refine lx ?_;refine sp (fun hc=>?_) (fun hc=>?_)<;>try exact hc.elim)|refine sx ?_ ?_|refine sy ?_ ?_|fail
     all_goals (try (first|(refine ⟨.inr rfl,.inl ?_⟩;simp [Hands,Tryz.results164,bT];done)|(refine ⟨.inr rfl,.inr (dD ?_)⟩;simp [AS.rvB,AS.rvs,AS.rv,Tryz.results164,bT];done)|(refine ⟨.inr rfl,.inl ?_⟩;simp [Hands,Tryz.results164,bT])))
   ·have hdn:L.drop k=[]:=List.drop_of_length_le (by omega)
    rw [hdn] at hgo
    have hal:=vD ws [] acc (by rw [hgo];rfl)
    have hs2:=fun h1 h2=>hsome acc h1 h2 (by rw [hgo];rfl)
    clear hK1 hgo hsome hnone
    cases hn:bL w0
    ·rw [hno (by rw [hn];simp)]
     rw [hn] at c1
     have W:=hk1
     repeat' first|refine st ?_|(refine nx ?_;first|refine se ?_|refine so ?_)|(refine cx ?_;refine sc (fun hc=>?_) (fun hc=>?_)<;>try exact hc.elim)|(refine lx ?_;refine sp (fun hc=>?_) (fun hc=>?_)<;>try exact hc.elim)|refine sx ?_ ?_|refine sy ?_ ?_|fail
     all_goals (try (first|(refine ⟨.inr rfl,.inl ?_⟩;simp [Hands,Tryz.results164,bT];done)|(refine ⟨.inr rfl,.inr (dD ?_)⟩;simp [AS.rvB,AS.rvs,AS.rv,Tryz.results164,bT];done)|(refine ⟨.inr rfl,.inl ?_⟩;simp [Hands,Tryz.results164,bT])))
    ·rw [hn] at c1
     by_cases h4:(4:Int) < (acc.length:Int)
     ·rw [hno (by simp only [List.length_nil] at hal;omega)]
      have W:=And.intro hk1 h4
      repeat' first|refine st ?_|(refine nx ?_;first|refine se ?_|refine so ?_)|(refine cx ?_;refine sc (fun hc=>?_) (fun hc=>?_)<;>try exact hc.elim)|(refine lx ?_;refine sp (fun hc=>?_) (fun hc=>?_)<;>try exact hc.elim)|refine sx ?_ ?_|refine sy ?_ ?_|fail
      all_goals (try (first|(refine ⟨.inr rfl,.inl ?_⟩;simp [Hands,Tryz.results164,bT];done)|(refine ⟨.inr rfl,.inr (dD ?_)⟩;simp [AS.rvB,AS.rvs,AS.rv,Tryz.results164,bT];done)|(refine ⟨.inr rfl,.inl ?_⟩;simp [Hands,Tryz.results164,bT])))
     ·rw [hs2 hn (by simp only [List.length_nil] at hal;omega)]
      have W:=And.intro hk1 h4
      repeat' first|refine st ?_|(refine nx ?_;first|refine se ?_|refine so ?_)|(refine cx ?_;refine sc (fun hc=>?_) (fun hc=>?_)<;>try exact hc.elim)|(refine lx ?_;refine sp (fun hc=>?_) (fun hc=>?_)<;>try exact hc.elim)|refine sx ?_ ?_|refine sy ?_ ?_|fail
      all_goals (try (first|(refine ⟨.inr rfl,.inl ?_⟩;simp [Hands,Tryz.results164];done)|(refine ⟨.inr rfl,.inr (dD ?_)⟩;simp [AS.rvB,AS.rvs,AS.rv,Tryz.results164];done)|(refine ⟨.inr rfl,.inl ?_⟩;simp [Hands,Tryz.results164])))
end Go.Proofs.YtkidoegojckmiaaGreatDoor
