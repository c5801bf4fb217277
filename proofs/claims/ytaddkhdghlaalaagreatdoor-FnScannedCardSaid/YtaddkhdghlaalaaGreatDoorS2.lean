/-
  Proved here: steps towards the statement of this claim, text S2.
  No condition beyond what each statement spells out.
-/
import Derived.Test.YtaddkhdghlaalaaGreatDoorQS1
set_option linter.all false
set_option maxRecDepth 4000
set_option maxHeartbeats 4000000
namespace Go.Proofs.YtaddkhdghlaalaaGreatDoor
open Go.Aw
theorem aS7 {w:Str} (h:(bF 61 w).length=2):ixB 61 w < w.length∧bF 61 w=[jE w,lJ w]:=by
 rw [qV] at h⊢
 by_cases hi:ixB 61 w < w.length
 ·rw [if_pos hi] at h⊢
  refine ⟨hi,?_⟩
  rw [qV] at h⊢
  by_cases h2:ixB 61 (w.drop (ixB 61 w+1)) < (w.drop (ixB 61 w+1)).length
  ·rw [if_pos h2] at h
   have:=pR 61 ((w.drop (ixB 61 w+1)).drop (ixB 61 (w.drop (ixB 61 w+1))+1))
   have hl:=List.length_pos_iff.2 this
   simp only [List.length_cons] at h
   omega
  ·rw [if_neg h2]
   have hle:=oU 61 (w.drop (ixB 61 w+1))
   rw [List.take_of_length_le (l:=w.drop (ixB 61 w+1)) (by omega)]
   rfl
 ·rw [if_neg hi] at h
  simp at h
theorem aSc {w:Str} (h:ixB 61 w < w.length) (hv:gG (lJ w)=true):(bF 61 w).length=2:=by
 have hno:∀x∈lJ w,x≠61:=by
  intro x hx
  simp only [gG,Bool.and_eq_true] at hv
  have:=List.all_eq_true.1 hv.1 x hx
  rintro rfl
  simp [qK] at this
 rw [qV,if_pos h]
 have:=aBc 61 (lJ w) hno
 unfold lJ at this
 rw [this]
 rfl
theorem aGt [aB Tryz.prog] [dB Tryz.prog] (s:Str) (hl:s.length≤1099511627776):Ok Tryz.prog 39 [.str s] (.tup [.agg (bL .own (iZ s).1),.bool (iZ s).2]):=by
 by_cases h60:(60:Int) < (s.length:Int)
 ·have hr:iZ s=(bW,false):=by unfold iZ;rw [if_pos (by omega)]
  rw [hr]
  refine aBb Tryz.mix Tryz.func39 Tryz.ntmps39 ?_
  have W:=h60
  refine we ?_
  all_goals (try (first|(refine ⟨.inr rfl,.inl ?_⟩;simp [Hands,Tryz.results39,bW];done)|(refine ⟨.inr rfl,.inr (eT ?_)⟩;simp [AS.rvB,AS.rvs,AS.rv,Tryz.results39,bW];done)|(refine ⟨.inr rfl,.inl ?_⟩;simp [Hands,Tryz.results39,bW])))
 cases hp:pfx [47] s
 case true=>
  have c1:=dW (s.drop 1) (by simp;omega)
  have hlen:=aLi hp
  simp only [List.length_cons,List.length_nil,Nat.zero_add] at hlen
  cases s with
  |nil=>simp at hlen
  |cons x s1=>
   obtain rfl:x=47:=by simpa [pfx] using hp
   have h61:¬(60:Int) < (s1.length:Int)+1:=by simp only [List.length_cons] at h60;omega
   simp only [List.drop_succ_cons,List.drop_zero] at c1
   cases hn:bU s1
   ·have hr:iZ (47::s1)=(bW,false):=by unfold iZ;rw [if_neg (by omega),if_pos hp];simp [hn]
    rw [hr]
    rw [hn] at c1
    clear hp
    refine aBb Tryz.mix Tryz.func39 Tryz.ntmps39 ?_
    have W:=h61
    refine we ?_
    all_goals (try (first|(refine ⟨.inr rfl,.inl ?_⟩;simp [Hands,Tryz.results39,bW];done)|(refine ⟨.inr rfl,.inr (eT ?_)⟩;simp [AS.rvB,AS.rvs,AS.rv,Tryz.results39,bW];done)|(refine ⟨.inr rfl,.inl ?_⟩;simp [Hands,Tryz.results39,bW])))
   ·have hr:iZ (47::s1)=(⟨2,s1,[],[]⟩,true):=by unfold iZ;rw [if_neg (by omega),if_pos hp];simp [hn]
    rw [hr]
    rw [hn] at c1
    clear hp
    refine aBb Tryz.mix Tryz.func39 Tryz.ntmps39 ?_
    have W:=h61
    refine we ?_
    all_goals (try (first|(refine ⟨.inr rfl,.inl ?_⟩;simp [Hands,Tryz.results39];done)|(refine ⟨.inr rfl,.inr (eT ?_)⟩;simp [AS.rvB,AS.rvs,AS.rv,Tryz.results39];done)|(refine ⟨.inr rfl,.inl ?_⟩;simp [Hands,Tryz.results39])))
 case false=>
  have hr:iZ s=vT (s.take (ixB 32 s)) (if ixB 32 s < s.length then bF 32 (s.drop (ixB 32 s+1)) else []):=by unfold iZ;rw [if_neg (by omega),if_neg (by rw [hp];simp)]
  have c2:Ok Tryz.prog 65 [.str s,.int .u8 32] (.sl .own 1 ((bF 32 s).map bX)):=sO s 32 (by omega)
  have hsl:=jO 32 s
  have hcn:s.count 32≤s.length:=List.count_le_length
  have hsm:=zT 32 s
  rw [hr]
  have c1:=dW (s.take (ixB 32 s)) (by simp;omega)
  have hLc:=qV 32 s
  generalize (if ixB 32 s < s.length then bF 32 (s.drop (ixB 32 s+1)) else [])=ws at *
  generalize s.take (ixB 32 s)=w0 at *
  generalize bF 32 s=L at *
  have hL0:L[0]? =some w0:=by rw [hLc];rfl
  have hLd:L.drop 1=ws:=by rw [hLc];rfl
  have hLl:L.length=ws.length+1:=by rw [hLc];rfl
  have hnone:=fun h=>aK7 (w0:=w0) (ws:=ws) h
  have hsome:=fun l=>aKb (w0:=w0) (ws:=ws) (l:=l)
  have hno:=aJb (w0:=w0) (ws:=ws)
  generalize vT w0 ws=res at *
  clear hr hLc
  have hfirst:s=[]∨∃x r,s=x::r∧¬((x.toNat:Int)=47):=by
   cases s with
   |nil=>exact .inl rfl
   |cons x r=>
    refine .inr ⟨x,r,rfl,fun h=> ?_⟩
    have:x=47:=UInt8.toNat_inj.1 (by simp;omega)
    subst this
    simp [pfx] at hp
  clear hp
  rcases hfirst with rfl|⟨x,r,rfl,hx⟩
  ·refine aBb Tryz.mix Tryz.func39 Tryz.ntmps39 ?_
   have W:=And.intro h60 hL0
   refine we ?_
   refine aR (ι:={q:Nat×Nat×List iJ // (q.1≤L.length∧1≤q.2.1)∧q.2.2.length+1=q.1∧fF ws []=fF (L.drop q.1) q.2.2}) (fun t o i=>⟨aS t [(6,.int .i64 i.1.1),(35,.undef)],[⟨true,true,4,0,[[.int .i64 0,.str [],.sl .own 2 [],.str []]]⟩,⟨true,false,1,1,L.map bX⟩,⟨true,true,4,0,[[.int .i64 1,.str w0,.obj 3 i.1.2.1,.str []]]⟩,⟨true,false,2,i.1.2.1,i.1.2.2.map mW⟩]⟩)
    (fun i=>L.length - i.1.1) ⟨(1,1,[]),by simp only;omega,by simp,by rw [hLd]⟩ (sP 2 0 2 (ob:=⟨true,true,4,0,[[.int .i64 1,.str w0,.sl .own 2 [],.str []]]⟩) (by rfl) (by rfl) (by rfl) (by simp) (by rfl) (by rfl) (by simp) (by simp [rtc,rt,eZ])) ?_
   rintro ⟨⟨k,v,acc⟩,⟨hk,hv⟩,hacc,hgo⟩ K1 hK1
   simp only at hk hv hacc hgo
   simp only [aS,List.set_cons_succ,List.set_cons_zero] at hK1⊢
   have hk1:=wk1 (k:=k) (by omega)
   by_cases hlt:k < L.length
   ·have hg:=List.getElem?_eq_getElem hlt
    have hwz:=fM dH L k hlt
    rw [List.drop_eq_getElem_cons hlt] at hgo
    simp only [dH] at hwz
    have cS:Ok Tryz.prog 65 [.str L[k],.int .u8 61] (.sl .own 1 ((bF 61 L[k]).map bX)):=sO L[k] 61 (by omega)
    have cN:=dW (jE L[k]) (by simp [jE];omega)
    have cV:=uS (lJ L[k]) (by simp [lJ];omega)
    have cF:=fZ acc (jE L[k]) (by omega)
    have hbad:(decide (ixB 61 L[k] < L[k].length)&&bU (jE L[k])&&gG (lJ L[k])&& !(aP acc (jE L[k])).2)=false→res=(bW,false):=fun h=>hnone (by rw [hgo];simp only [fF];rw [h];rfl)
    have hnext:(decide (ixB 61 L[k] < L[k].length)&&bU (jE L[k])&&gG (lJ L[k])&& !(aP acc (jE L[k])).2)=true→fF ws []=fF (L.drop (k+1)) (acc++[⟨jE L[k],lJ L[k]⟩]):=fun h=>by rw [hgo];simp only [fF];rw [if_pos h]
    have htwo:=aS7 (w:=L[k])
    have hback:=aSc (w:=L[k])
    have hsn:=jO 61 L[k]
    have hsc:L[k].count 61≤L[k].length:=List.count_le_length
    clear hgo hnone hsome hno
    by_cases h2:(bF 61 L[k]).length=2
    ·obtain ⟨hi,hsg⟩:=htwo h2
     rw [hsg] at cS
     simp only [List.map_cons,List.map_nil,bX] at cS
     rw [decide_eq_true hi] at hbad hnext
     clear htwo hback h2 hsg hsn hsc hi
     generalize bU (jE L[k])=b2 at *
     generalize gG (lJ L[k])=b3 at *
     generalize aP acc (jE L[k])=fa at *
     obtain ⟨fv,b4⟩:=fa
     generalize jE L[k]=ky at *
     generalize lJ L[k]=vl at *
     simp only at cF hbad hnext
     cases b2
     ·rw [hbad (by simp)]
      clear hbad hnext hK1
      have W:=And.intro hk1 (And.intro hg hlt)
      refine we ?_
      all_goals (try (first|(refine ⟨.inr rfl,.inl ?_⟩;simp [Hands,Tryz.results39,bW];done)|(refine ⟨.inr rfl,.inr (eT ?_)⟩;simp [AS.rvB,AS.rvs,AS.rv,Tryz.results39,bW];done)|(refine ⟨.inr rfl,.inl ?_⟩;simp [Hands,Tryz.results39,bW])))
     cases b3
     ·rw [hbad (by simp)]
      clear hbad hnext hK1
      have W:=And.intro hk1 (And.intro hg hlt)
      refine we ?_
      all_goals (try (first|(refine ⟨.inr rfl,.inl ?_⟩;simp [Hands,Tryz.results39,bW];done)|(refine ⟨.inr rfl,.inr (eT ?_)⟩;simp [AS.rvB,AS.rvs,AS.rv,Tryz.results39,bW];done)|(refine ⟨.inr rfl,.inl ?_⟩;simp [Hands,Tryz.results39,bW])))
     cases b4
     ·have hn2:=hnext (by simp)
      clear hbad hnext
      have W:=And.intro hk1 (And.intro hg hlt)
      refine we ?_
      all_goals refine hK1 _ ⟨(k+1,v+1,acc++[⟨ky,vl⟩]),⟨by simp only;omega,by simp only;omega⟩,by simp;omega,hn2⟩ (aN 4) (by simp only;omega)
     ·rw [hbad (by simp)]
      clear hbad hnext hK1
      have W:=And.intro hk1 (And.intro hg hlt)
      refine we ?_
      all_goals (try (first|(refine ⟨.inr rfl,.inl ?_⟩;simp [Hands,Tryz.results39,bW];done)|(refine ⟨.inr rfl,.inr (eT ?_)⟩;simp [AS.rvB,AS.rvs,AS.rv,Tryz.results39,bW];done)|(refine ⟨.inr rfl,.inl ?_⟩;simp [Hands,Tryz.results39,bW])))
    ·have hres:res=(bW,false):=hbad (by
      cases hi:decide (ixB 61 L[k] < L[k].length)
      ·simp
      ·cases hv2:gG (lJ L[k])
       ·simp
       ·exact absurd (hback (of_decide_eq_true hi) hv2) h2)
     rw [hres]
     have h2':¬(((bF 61 L[k]).length:Int)=2):=by omega
     clear hbad hnext hK1 htwo hback hres h2
     generalize bF 61 L[k]=sg at *
     have W:=And.intro hk1 (And.intro hg (And.intro hlt h2'))
     refine we ?_
     all_goals (try (first|(refine ⟨.inr rfl,.inl ?_⟩;simp [Hands,Tryz.results39,bW];done)|(refine ⟨.inr rfl,.inr (eT ?_)⟩;simp [AS.rvB,AS.rvs,AS.rv,Tryz.results39,bW];done)|(refine ⟨.inr rfl,.inl ?_⟩;simp [Hands,Tryz.results39,bW])))
   ·have hdn:L.drop k=[]:=List.drop_of_length_le (by omega)
    rw [hdn] at hgo
    have hal:=aBe ws [] acc (by rw [hgo];rfl)
    have hs2:=fun h1 h2=>hsome acc h1 h2 (by rw [hgo];rfl)
    clear hK1 hgo hsome hnone
    cases hn:bU w0
    ·rw [hno (by rw [hn];simp)]
     rw [hn] at c1
     have W:=hk1
     refine we ?_
     all_goals (try (first|(refine ⟨.inr rfl,.inl ?_⟩;simp [Hands,Tryz.results39,bW];done)|(refine ⟨.inr rfl,.inr (eT ?_)⟩;simp [AS.rvB,AS.rvs,AS.rv,Tryz.results39,bW];done)|(refine ⟨.inr rfl,.inl ?_⟩;simp [Hands,Tryz.results39,bW])))
    ·rw [hn] at c1
     by_cases h4:(4:Int) < (acc.length:Int)
     ·exfalso;simp only [List.length_nil,List.count_nil] at hal hsl;omega
     ·rw [hs2 hn (by simp only [List.length_nil] at hal;omega)]
      have W:=And.intro hk1 h4
      refine we ?_
      all_goals (try (first|(refine ⟨.inr rfl,.inl ?_⟩;simp [Hands,Tryz.results39];done)|(refine ⟨.inr rfl,.inr (eT ?_)⟩;simp [AS.rvB,AS.rvs,AS.rv,Tryz.results39];done)|(refine ⟨.inr rfl,.inl ?_⟩;simp [Hands,Tryz.results39])))
  ·have h61:¬(60:Int) < (r.length:Int)+1:=by simp only [List.length_cons] at h60;omega
   refine aBb Tryz.mix Tryz.func39 Tryz.ntmps39 ?_
   have W:=And.intro h61 (And.intro hx hL0)
   refine we ?_
   refine aR (ι:={q:Nat×Nat×List iJ // (q.1≤L.length∧1≤q.2.1)∧q.2.2.length+1=q.1∧fF ws []=fF (L.drop q.1) q.2.2}) (fun t o i=>⟨aS t [(6,.int .i64 i.1.1),(35,.undef)],[⟨true,true,4,0,[[.int .i64 0,.str [],.sl .own 2 [],.str []]]⟩,⟨true,false,1,1,L.map bX⟩,⟨true,true,4,0,[[.int .i64 1,.str w0,.obj 3 i.1.2.1,.str []]]⟩,⟨true,false,2,i.1.2.1,i.1.2.2.map mW⟩]⟩)
    (fun i=>L.length - i.1.1) ⟨(1,1,[]),by simp only;omega,by simp,by rw [hLd]⟩ (sP 2 0 2 (ob:=⟨true,true,4,0,[[.int .i64 1,.str w0,.sl .own 2 [],.str []]]⟩) (by rfl) (by rfl) (by rfl) (by simp) (by rfl) (by rfl) (by simp) (by simp [rtc,rt,eZ])) ?_
   rintro ⟨⟨k,v,acc⟩,⟨hk,hv⟩,hacc,hgo⟩ K1 hK1
   simp only at hk hv hacc hgo
   simp only [aS,List.set_cons_succ,List.set_cons_zero] at hK1⊢
   have hk1:=wk1 (k:=k) (by omega)
   by_cases hlt:k < L.length
   ·have hg:=List.getElem?_eq_getElem hlt
    have hwz:=fM dH L k hlt
    rw [List.drop_eq_getElem_cons hlt] at hgo
    simp only [dH] at hwz
    have cS:Ok Tryz.prog 65 [.str L[k],.int .u8 61] (.sl .own 1 ((bF 61 L[k]).map bX)):=sO L[k] 61 (by omega)
    have cN:=dW (jE L[k]) (by simp [jE];omega)
    have cV:=uS (lJ L[k]) (by simp [lJ];omega)
    have cF:=fZ acc (jE L[k]) (by omega)
    have hbad:(decide (ixB 61 L[k] < L[k].length)&&bU (jE L[k])&&gG (lJ L[k])&& !(aP acc (jE L[k])).2)=false→res=(bW,false):=fun h=>hnone (by rw [hgo];simp only [fF];rw [h];rfl)
    have hnext:(decide (ixB 61 L[k] < L[k].length)&&bU (jE L[k])&&gG (lJ L[k])&& !(aP acc (jE L[k])).2)=true→fF ws []=fF (L.drop (k+1)) (acc++[⟨jE L[k],lJ L[k]⟩]):=fun h=>by rw [hgo];simp only [fF];rw [if_pos h]
    have htwo:=aS7 (w:=L[k])
    have hback:=aSc (w:=L[k])
    have hsn:=jO 61 L[k]
    have hsc:L[k].count 61≤L[k].length:=List.count_le_length
    clear hgo hnone hsome hno
    by_cases h2:(bF 61 L[k]).length=2
    ·obtain ⟨hi,hsg⟩:=htwo h2
     rw [hsg] at cS
     simp only [List.map_cons,List.map_nil,bX] at cS
     rw [decide_eq_true hi] at hbad hnext
     clear htwo hback h2 hsg hsn hsc hi
     generalize bU (jE L[k])=b2 at *
     generalize gG (lJ L[k])=b3 at *
     generalize aP acc (jE L[k])=fa at *
     obtain ⟨fv,b4⟩:=fa
     generalize jE L[k]=ky at *
     generalize lJ L[k]=vl at *
     simp only at cF hbad hnext
     cases b2
     ·rw [hbad (by simp)]
      clear hbad hnext hK1
      have W:=And.intro hk1 (And.intro hg hlt)
      refine we ?_
      all_goals (try (first|(refine ⟨.inr rfl,.inl ?_⟩;simp [Hands,Tryz.results39,bW];done)|(refine ⟨.inr rfl,.inr (eT ?_)⟩;simp [AS.rvB,AS.rvs,AS.rv,Tryz.results39,bW];done)|(refine ⟨.inr rfl,.inl ?_⟩;simp [Hands,Tryz.results39,bW])))
     cases b3
     ·rw [hbad (by simp)]
      clear hbad hnext hK1
      have W:=And.intro hk1 (And.intro hg hlt)
      refine we ?_
      all_goals (try (first|(refine ⟨.inr rfl,.inl ?_⟩;simp [Hands,Tryz.results39,bW];done)|(refine ⟨.inr rfl,.inr (eT ?_)⟩;simp [AS.rvB,AS.rvs,AS.rv,Tryz.results39,bW];done)|(refine ⟨.inr rfl,.inl ?_⟩;simp [Hands,Tryz.results39,bW])))
     cases b4
     ·have hn2:=hnext (by simp)
      clear hbad hnext
      have W:=And.intro hk1 (And.intro hg hlt)
      refine we ?_
      all_goals refine hK1 _ ⟨(k+1,v+1,acc++[⟨ky,vl⟩]),⟨by simp only;omega,by simp only;omega⟩,by simp;omega,hn2⟩ (aN 4) (by simp only;omega)
     ·rw [hbad (by simp)]
      clear hbad hnext hK1
      have W:=And.intro hk1 (And.intro hg hlt)
      refine we ?_
      all_goals (try (first|(refine ⟨.inr rfl,.inl ?_⟩;simp [Hands,Tryz.results39,bW];done)|(refine ⟨.inr rfl,.inr (eT ?_)⟩;simp [AS.rvB,AS.rvs,AS.rv,Tryz.results39,bW];done)|(refine ⟨.inr rfl,.inl ?_⟩;simp [Hands,Tryz.results39,bW])))
    ·have hres:res=(bW,false):=hbad (by
      cases hi:decide (ixB 61 L[k] < L[k].length)
      ·simp
      ·cases hv2:gG (lJ L[k])
       ·simp
       ·exact absurd (hback (of_decide_eq_true hi) hv2) h2)
     rw [hres]
     have h2':¬(((bF 61 L[k]).length:Int)=2):=by omega
     clear hbad hnext hK1 htwo hback hres h2
     generalize bF 61 L[k]=sg at *
     have W:=And.intro hk1 (And.intro hg (And.intro hlt h2'))
     refine we ?_
     all_goals (try (first|(refine ⟨.inr rfl,.inl ?_⟩;simp [Hands,Tryz.results39,bW];done)|(refine ⟨.inr rfl,.inr (eT ?_)⟩;simp [AS.rvB,AS.rvs,AS.rv,Tryz.results39,bW];done)|(refine ⟨.inr rfl,.inl ?_⟩;simp [Hands,Tryz.results39,bW])))
   ·have hdn:L.drop k=[]:=List.drop_of_length_le (by omega)
    rw [hdn] at hgo
    have hal:=aBe ws [] acc (by rw [hgo];rfl)
    have hs2:=fun h1 h2=>hsome acc h1 h2 (by rw [hgo];rfl)
    clear hK1 hgo hsome hnone
    cases hn:bU w0
    ·rw [hno (by rw [hn];simp)]
     rw [hn] at c1
     have W:=hk1
     refine we ?_
     all_goals (try (first|(refine ⟨.inr rfl,.inl ?_⟩;simp [Hands,Tryz.results39,bW];done)|(refine ⟨.inr rfl,.inr (eT ?_)⟩;simp [AS.rvB,AS.rvs,AS.rv,Tryz.results39,bW];done)|(refine ⟨.inr rfl,.inl ?_⟩;simp [Hands,Tryz.results39,bW])))
    ·rw [hn] at c1
     by_cases h4:(4:Int) < (acc.length:Int)
     ·rw [hno (by simp only [List.length_nil] at hal;omega)]
      have W:=And.intro hk1 h4
      refine we ?_
      all_goals (try (first|(refine ⟨.inr rfl,.inl ?_⟩;simp [Hands,Tryz.results39,bW];done)|(refine ⟨.inr rfl,.inr (eT ?_)⟩;simp [AS.rvB,AS.rvs,AS.rv,Tryz.results39,bW];done)|(refine ⟨.inr rfl,.inl ?_⟩;simp [Hands,Tryz.results39,bW])))
     ·rw [hs2 hn (by simp only [List.length_nil] at hal;omega)]
      have W:=And.intro hk1 h4
      refine we ?_
      all_goals (try (first|(refine ⟨.inr rfl,.inl ?_⟩;simp [Hands,Tryz.results39];done)|(refine ⟨.inr rfl,.inr (eT ?_)⟩;simp [AS.rvB,AS.rvs,AS.rv,Tryz.results39];done)|(refine ⟨.inr rfl,.inl ?_⟩;simp [Hands,Tryz.results39])))
end Go.Proofs.YtaddkhdghlaalaaGreatDoor
