/- Proved here: steps towards the statement of this claim. No condition. -/
import Derived.Test.YtlnblmmohpcceaaGreatDoorZQS1
set_option linter.all false
set_option maxRecDepth 4000
set_option maxHeartbeats 4000000
namespace Go.Proofs.YtlnblmmohpcceaaGreatDoor
open Go.Aw Proofs.Tryz List IntKind
theorem VQ {w:bC} (h:(eF 61 w).length=2):gG 61 w < w.length/\eF 61 w=[pM w,sD w]:=by
 rw [qZ] at h⊢
 by_cases hi:gG 61 w < w.length
 ·rw [if_pos hi] at h⊢
  refine ⟨hi,?_⟩
  rw [qZ] at h⊢
  by_cases h2:gG 61 (w.drop (gG 61 w+1)) < (w.drop (gG 61 w+1)).length
  ·rw [if_pos h2] at h
   have:=xV 61 ((w.drop (gG 61 w+1)).drop (gG 61 (w.drop (gG 61 w+1))+1))
   have hl:=length_pos_iff.2 this
   simp only [length_cons] at h
   omega
  ·rw [if_neg h2]
   have hle:=qW 61 (w.drop (gG 61 w+1))
   rw [take_of_length_le (l:=w.drop (gG 61 w+1)) (by omega)]
   rfl
 ·rw [if_neg hi] at h
  simp at h
theorem VR {w:bC} (h:gG 61 w < w.length) (hv:isValue (sD w)=true):(eF 61 w).length=2:=by
 have Ir:∀x∈sD w,x≠61:=by
  intro x hx
  simp only [isValue,Bool.and_eq_true] at hv
  have:=all_eq_true.1 hv.1 x hx
  rintro rfl
  simp [uH] at this
 rw [qZ,if_pos h]
 have:=CW 61 (sD w) Ir
 unfold sD at this
 rw [this]
 rfl
theorem TD [aD prog] [eO prog] (s:bC) (hl:s.length<=1099511627776):Ok prog 266 [.str s] (.gV [.agg (bB .own (nX s).1),.bool (nX s).2]):=by
 by_cases M3:(60:Int) < (s.length:Int)
 ·have hr:nX s=(dM,false):=by unfold nX;rw [if_pos (by omega)]
  rw [hr]
  refine NA aAc func266 ntmps266 ?_
  have W:=M3
  repeat' first|refine we ?_|(refine sq ?_ ?_<;>intro hc<;>try exact hc.elim)|fail
  all_goals try(first|(refine ⟨.inr rfl,.inl ?_⟩;simp [aB,results266,dM];done)|(refine ⟨.inr rfl,.inr (fD ?_)⟩;simp [AS.FB,AS.Cy,AS.rv,results266,dM];done)|(refine ⟨.inr rfl,.inl ?_⟩;simp [aB,results266,dM]))
 cases hp:Cr [47] s
 case true=>
  have c1:=eP (s.drop 1) (by simp;omega)
  have hlen:=Tw hp
  simp only [length_cons,length_nil,Nat.zero_add] at hlen
  cases s with
  |nil=>simp at hlen
  |cons x s1=>
   obtain rfl:x=47:=by simpa [Cr] using hp
   have h61:¬(60:Int) < (s1.length:Int)+1:=by simp only [length_cons] at M3;omega
   simp only [drop_succ_cons,drop_zero] at c1
   cases hn:dJ s1
   ·have hr:nX (47::s1)=(dM,false):=by unfold nX;rw [if_neg (by omega),if_pos hp];simp [hn]
    rw [hr]
    rw [hn] at c1
    clear hp
    refine NA aAc func266 ntmps266 ?_
    have W:=h61
    repeat' first|refine we ?_|(refine sq ?_ ?_<;>intro hc<;>try exact hc.elim)|fail
    all_goals try(first|(refine ⟨.inr rfl,.inl ?_⟩;simp [aB,results266,dM];done)|(refine ⟨.inr rfl,.inr (fD ?_)⟩;simp [AS.FB,AS.Cy,AS.rv,results266,dM];done)|(refine ⟨.inr rfl,.inl ?_⟩;simp [aB,results266,dM]))
   ·have hr:nX (47::s1)=(⟨2,s1,[],[]⟩,true):=by unfold nX;rw [if_neg (by omega),if_pos hp];simp [hn]
    rw [hr]
    rw [hn] at c1
    clear hp
    refine NA aAc func266 ntmps266 ?_
    have W:=h61
    repeat' first|refine we ?_|(refine sq ?_ ?_<;>intro hc<;>try exact hc.elim)|fail
    all_goals try(first|(refine ⟨.inr rfl,.inl ?_⟩;simp [aB,results266];done)|(refine ⟨.inr rfl,.inr (fD ?_)⟩;simp [AS.FB,AS.Cy,AS.rv,results266];done)|(refine ⟨.inr rfl,.inl ?_⟩;simp [aB,results266]))
 case false=>
  have hr:nX s=Cs (s.take (gG 32 s)) (if gG 32 s < s.length then eF 32 (s.drop (gG 32 s+1)) else []):=by unfold nX;rw [if_neg (by omega),if_neg (by rw [hp];simp)]
  have c2:Ok prog 136 [.str s,.int .u8 32] (.sl .own 1 ((eF 32 s).map fF)):=vK s 32 (by omega)
  have hsl:=iV 32 s
  have hcn:s.count 32<=s.length:=count_le_length
  have hsm:=yK 32 s
  rw [hr]
  have c1:=eP (s.take (gG 32 s)) (by simp;omega)
  have hLc:=qZ 32 s
  generalize (if gG 32 s < s.length then eF 32 (s.drop (gG 32 s+1)) else [])=ws at *
  generalize s.take (gG 32 s)=w0 at *
  generalize eF 32 s=L at *
  have hL0:L[0]? =some w0:=by rw [hLc];rfl
  have hLd:L.drop 1=ws:=by rw [hLc];rfl
  have hLl:L.length=ws.length+1:=by rw [hLc];rfl
  have yS:=fun h=>NC (w0:=w0) (ws:=ws) h
  have GQ:=fun l=>ND (w0:=w0) (ws:=ws) (l:=l)
  have Ir:=NB (w0:=w0) (ws:=ws)
  generalize Cs w0 ws=res at *
  clear hr hLc
  have aHj:s=[]\/∃x r,s=x::r/\¬((x.toNat:Int)=47):=by
   cases s with
   |nil=>exact .inl rfl
   |cons x r=>
    refine .inr ⟨x,r,rfl,fun h=> ?_⟩
    have:x=47:=UInt8.toNat_inj.1 (by simp;omega)
    subst this
    simp [Cr] at hp
  clear hp
  rcases aHj with rfl|⟨x,r,rfl,hx⟩
  ·refine NA aAc func266 ntmps266 ?_
   have W:=aA M3 hL0
   repeat' first|refine we ?_|(refine sq ?_ ?_<;>intro hc<;>try exact hc.elim)|fail
   refine aJ (ι:={q:Nat×Nat×List iU // (q.1<=L.length/\1<=q.2.1)/\q.2.2.length+1=q.1/\fT ws []=fT (L.drop q.1) q.2.2}) (fun t o i=>⟨aZ t [(6,.int .i64 i.1.1),(35,.undef)],[⟨true,true,4,0,[[.int .i64 0,.str [],.sl .own 2 [],.str []]]⟩,⟨true,false,1,1,L.map fF⟩,⟨true,true,4,0,[[.int .i64 1,.str w0,.obj 3 i.1.2.1,.str []]]⟩,⟨true,false,2,i.1.2.1,i.1.2.2.map fQ⟩]⟩)
    (fun i=>L.length - i.1.1) ⟨(1,1,[]),by simp only;omega,by simp,by rw [hLd]⟩ (qX 2 0 2 (ob:=⟨true,true,4,0,[[.int .i64 1,.str w0,.sl .own 2 [],.str []]]⟩) (by rfl) (by rfl) (by rfl) (by simp) (by rfl) (by rfl) (by simp) (by simp [wT,rt,gM])) ?_
   rintro ⟨⟨k,v,acc⟩,⟨hk,hv⟩,sV,qH⟩ K1 hK1
   simp only at hk hv sV qH
   simp only [aZ,set_cons_succ,set_cons_zero] at hK1⊢
   have hk1:i64.wrap ((k:Int)+1)=((k+1:Nat):Int):=by rw [wrap64]<;>omega
   by_cases hlt:k < L.length
   ·have hg:=getElem?_eq_getElem hlt
    have ma:=dV gT L k hlt
    rw [drop_eq_getElem_cons hlt] at qH
    simp only [gT] at ma
    have cS:Ok prog 136 [.str L[k],.int .u8 61] (.sl .own 1 ((eF 61 L[k]).map fF)):=vK L[k] 61 (by omega)
    have cN:=eP (pM L[k]) (by simp [pM];omega)
    have cV:=yQ (sD L[k]) (by simp [sD];omega)
    have cF:=jE acc (pM L[k]) (by omega)
    have iK:(decide (gG 61 L[k] < L[k].length)&&dJ (pM L[k])&&isValue (sD L[k])&& !(aQ acc (pM L[k])).2)=false->res=(dM,false):=fun h=>yS (by rw [qH];simp only [fT];rw [h];rfl)
    have hnext:(decide (gG 61 L[k] < L[k].length)&&dJ (pM L[k])&&isValue (sD L[k])&& !(aQ acc (pM L[k])).2)=true->fT ws []=fT (L.drop (k+1)) (acc++[⟨pM L[k],sD L[k]⟩]):=fun h=>by rw [qH];simp only [fT];rw [if_pos h]
    have Yx:=VQ (w:=L[k])
    have hback:=VR (w:=L[k])
    have Yv:=iV 61 L[k]
    have hsc:L[k].count 61<=L[k].length:=count_le_length
    clear qH yS GQ Ir
    by_cases h2:(eF 61 L[k]).length=2
    ·obtain ⟨hi,Ti⟩:=Yx h2
     rw [Ti] at cS
     simp only [map_cons,map_nil,fF] at cS
     rw [decide_eq_true hi] at iK hnext
     clear Yx hback h2 Ti Yv hsc hi
     generalize dJ (pM L[k])=b2 at *
     generalize isValue (sD L[k])=b3 at *
     generalize aQ acc (pM L[k])=fa at *
     obtain ⟨fv,b4⟩:=fa
     generalize pM L[k]=ky at *
     generalize sD L[k]=vl at *
     simp only at cF iK hnext
     cases b2
     ·rw [iK (by simp)]
      clear iK hnext hK1
      have W:=aA hk1 (aA hg hlt)
      repeat' first|refine we ?_|(refine sq ?_ ?_<;>intro hc<;>try exact hc.elim)|fail
      all_goals try(first|(refine ⟨.inr rfl,.inl ?_⟩;simp [aB,results266,dM];done)|(refine ⟨.inr rfl,.inr (fD ?_)⟩;simp [AS.FB,AS.Cy,AS.rv,results266,dM];done)|(refine ⟨.inr rfl,.inl ?_⟩;simp [aB,results266,dM]))
     cases b3
     ·rw [iK (by simp)]
      clear iK hnext hK1
      have W:=aA hk1 (aA hg hlt)
      repeat' first|refine we ?_|(refine sq ?_ ?_<;>intro hc<;>try exact hc.elim)|fail
      all_goals try(first|(refine ⟨.inr rfl,.inl ?_⟩;simp [aB,results266,dM];done)|(refine ⟨.inr rfl,.inr (fD ?_)⟩;simp [AS.FB,AS.Cy,AS.rv,results266,dM];done)|(refine ⟨.inr rfl,.inl ?_⟩;simp [aB,results266,dM]))
     cases b4
     ·have hn2:=hnext (by simp)
      clear iK hnext
      have W:=aA hk1 (aA hg hlt)
      repeat' first|refine we ?_|(refine sq ?_ ?_<;>intro hc<;>try exact hc.elim)|fail
      all_goals refine hK1 _ ⟨(k+1,v+1,acc++[⟨ky,vl⟩]),⟨by simp only;omega,by simp only;omega⟩,by simp;omega,hn2⟩ (aS 4 (by simp) (by simp) (by simp) (by simp)) (by simp only;omega)
     ·rw [iK (by simp)]
      clear iK hnext hK1
      have W:=aA hk1 (aA hg hlt)
      repeat' first|refine we ?_|(refine sq ?_ ?_<;>intro hc<;>try exact hc.elim)|fail
      all_goals try(first|(refine ⟨.inr rfl,.inl ?_⟩;simp [aB,results266,dM];done)|(refine ⟨.inr rfl,.inr (fD ?_)⟩;simp [AS.FB,AS.Cy,AS.rv,results266,dM];done)|(refine ⟨.inr rfl,.inl ?_⟩;simp [aB,results266,dM]))
    ·have jD:res=(dM,false):=iK (by
      cases hi:decide (gG 61 L[k] < L[k].length)
      ·simp
      ·cases PT:isValue (sD L[k])
       ·simp
       ·exact absurd (hback (of_decide_eq_true hi) PT) h2)
     rw [jD]
     have h2':¬(((eF 61 L[k]).length:Int)=2):=by omega
     clear iK hnext hK1 Yx hback jD h2
     generalize eF 61 L[k]=sg at *
     have W:=aA hk1 (aA hg (aA hlt h2'))
     repeat' first|refine we ?_|(refine sq ?_ ?_<;>intro hc<;>try exact hc.elim)|fail
     all_goals try(first|(refine ⟨.inr rfl,.inl ?_⟩;simp [aB,results266,dM];done)|(refine ⟨.inr rfl,.inr (fD ?_)⟩;simp [AS.FB,AS.Cy,AS.rv,results266,dM];done)|(refine ⟨.inr rfl,.inl ?_⟩;simp [aB,results266,dM]))
   ·have FC:L.drop k=[]:=drop_of_length_le (by omega)
    rw [FC] at qH
    have M9:=BS ws [] acc (by rw [qH];rfl)
    have hs2:=fun h1 h2=>GQ acc h1 h2 (by rw [qH];rfl)
    clear hK1 qH GQ yS
    cases hn:dJ w0
    ·rw [Ir (by rw [hn];simp)]
     rw [hn] at c1
     have W:=hk1
     repeat' first|refine we ?_|(refine sq ?_ ?_<;>intro hc<;>try exact hc.elim)|fail
     all_goals try(first|(refine ⟨.inr rfl,.inl ?_⟩;simp [aB,results266,dM];done)|(refine ⟨.inr rfl,.inr (fD ?_)⟩;simp [AS.FB,AS.Cy,AS.rv,results266,dM];done)|(refine ⟨.inr rfl,.inl ?_⟩;simp [aB,results266,dM]))
    ·rw [hn] at c1
     by_cases h4:(4:Int) < (acc.length:Int)
     ·exfalso;simp only [length_nil,count_nil] at M9 hsl;omega
     ·rw [hs2 hn (by simp only [length_nil] at M9;omega)]
      have W:=aA hk1 h4
      repeat' first|refine we ?_|(refine sq ?_ ?_<;>intro hc<;>try exact hc.elim)|fail
      all_goals try(first|(refine ⟨.inr rfl,.inl ?_⟩;simp [aB,results266];done)|(refine ⟨.inr rfl,.inr (fD ?_)⟩;simp [AS.FB,AS.Cy,AS.rv,results266];done)|(refine ⟨.inr rfl,.inl ?_⟩;simp [aB,results266]))
  ·have h61:¬(60:Int) < (r.length:Int)+1:=by simp only [length_cons] at M3;omega
   refine NA aAc func266 ntmps266 ?_
   have W:=aA h61 (aA hx hL0)
   repeat' first|refine we ?_|(refine sq ?_ ?_<;>intro hc<;>try exact hc.elim)|fail
   refine aJ (ι:={q:Nat×Nat×List iU // (q.1<=L.length/\1<=q.2.1)/\q.2.2.length+1=q.1/\fT ws []=fT (L.drop q.1) q.2.2}) (fun t o i=>⟨aZ t [(6,.int .i64 i.1.1),(35,.undef)],[⟨true,true,4,0,[[.int .i64 0,.str [],.sl .own 2 [],.str []]]⟩,⟨true,false,1,1,L.map fF⟩,⟨true,true,4,0,[[.int .i64 1,.str w0,.obj 3 i.1.2.1,.str []]]⟩,⟨true,false,2,i.1.2.1,i.1.2.2.map fQ⟩]⟩)
    (fun i=>L.length - i.1.1) ⟨(1,1,[]),by simp only;omega,by simp,by rw [hLd]⟩ (qX 2 0 2 (ob:=⟨true,true,4,0,[[.int .i64 1,.str w0,.sl .own 2 [],.str []]]⟩) (by rfl) (by rfl) (by rfl) (by simp) (by rfl) (by rfl) (by simp) (by simp [wT,rt,gM])) ?_
   rintro ⟨⟨k,v,acc⟩,⟨hk,hv⟩,sV,qH⟩ K1 hK1
   simp only at hk hv sV qH
   simp only [aZ,set_cons_succ,set_cons_zero] at hK1⊢
   have hk1:i64.wrap ((k:Int)+1)=((k+1:Nat):Int):=by rw [wrap64]<;>omega
   by_cases hlt:k < L.length
   ·have hg:=getElem?_eq_getElem hlt
    have ma:=dV gT L k hlt
    rw [drop_eq_getElem_cons hlt] at qH
    simp only [gT] at ma
    have cS:Ok prog 136 [.str L[k],.int .u8 61] (.sl .own 1 ((eF 61 L[k]).map fF)):=vK L[k] 61 (by omega)
    have cN:=eP (pM L[k]) (by simp [pM];omega)
    have cV:=yQ (sD L[k]) (by simp [sD];omega)
    have cF:=jE acc (pM L[k]) (by omega)
    have iK:(decide (gG 61 L[k] < L[k].length)&&dJ (pM L[k])&&isValue (sD L[k])&& !(aQ acc (pM L[k])).2)=false->res=(dM,false):=fun h=>yS (by rw [qH];simp only [fT];rw [h];rfl)
    have hnext:(decide (gG 61 L[k] < L[k].length)&&dJ (pM L[k])&&isValue (sD L[k])&& !(aQ acc (pM L[k])).2)=true->fT ws []=fT (L.drop (k+1)) (acc++[⟨pM L[k],sD L[k]⟩]):=fun h=>by rw [qH];simp only [fT];rw [if_pos h]
    have Yx:=VQ (w:=L[k])
    have hback:=VR (w:=L[k])
    have Yv:=iV 61 L[k]
    have hsc:L[k].count 61<=L[k].length:=count_le_length
    clear qH yS GQ Ir
    by_cases h2:(eF 61 L[k]).length=2
    ·obtain ⟨hi,Ti⟩:=Yx h2
     rw [Ti] at cS
     simp only [map_cons,map_nil,fF] at cS
     rw [decide_eq_true hi] at iK hnext
     clear Yx hback h2 Ti Yv hsc hi
     generalize dJ (pM L[k])=b2 at *
     generalize isValue (sD L[k])=b3 at *
     generalize aQ acc (pM L[k])=fa at *
     obtain ⟨fv,b4⟩:=fa
     generalize pM L[k]=ky at *
     generalize sD L[k]=vl at *
     simp only at cF iK hnext
     cases b2
     ·rw [iK (by simp)]
      clear iK hnext hK1
      have W:=aA hk1 (aA hg hlt)
      repeat' first|refine we ?_|(refine sq ?_ ?_<;>intro hc<;>try exact hc.elim)|fail
      all_goals try(first|(refine ⟨.inr rfl,.inl ?_⟩;simp [aB,results266,dM];done)|(refine ⟨.inr rfl,.inr (fD ?_)⟩;simp [AS.FB,AS.Cy,AS.rv,results266,dM];done)|(refine ⟨.inr rfl,.inl ?_⟩;simp [aB,results266,dM]))
     cases b3
     ·rw [iK (by simp)]
      clear iK hnext hK1
      have W:=aA hk1 (aA hg hlt)
      repeat' first|refine we ?_|(refine sq ?_ ?_<;>intro hc<;>try exact hc.elim)|fail
      all_goals try(first|(refine ⟨.inr rfl,.inl ?_⟩;simp [aB,results266,dM];done)|(refine ⟨.inr rfl,.inr (fD ?_)⟩;simp [AS.FB,AS.Cy,AS.rv,results266,dM];done)|(refine ⟨.inr rfl,.inl ?_⟩;simp [aB,results266,dM]))
     cases b4
     ·have hn2:=hnext (by simp)
      clear iK hnext
      have W:=aA hk1 (aA hg hlt)
      repeat' first|refine we ?_|(refine sq ?_ ?_<;>intro hc<;>try exact hc.elim)|fail
      all_goals refine hK1 _ ⟨(k+1,v+1,acc++[⟨ky,vl⟩]),⟨by simp only;omega,by simp only;omega⟩,by simp;omega,hn2⟩ (aS 4 (by simp) (by simp) (by simp) (by simp)) (by simp only;omega)
     ·rw [iK (by simp)]
      clear iK hnext hK1
      have W:=aA hk1 (aA hg hlt)
      repeat' first|refine we ?_|(refine sq ?_ ?_<;>intro hc<;>try exact hc.elim)|fail
      all_goals try(first|(refine ⟨.inr rfl,.inl ?_⟩;simp [aB,results266,dM];done)|(refine ⟨.inr rfl,.inr (fD ?_)⟩;simp [AS.FB,AS.Cy,AS.rv,results266,dM];done)|(refine ⟨.inr rfl,.inl ?_⟩;simp [aB,results266,dM]))
    ·have jD:res=(dM,false):=iK (by
      cases hi:decide (gG 61 L[k] < L[k].length)
      ·simp
      ·cases PT:isValue (sD L[k])
       ·simp
       ·exact absurd (hback (of_decide_eq_true hi) PT) h2)
     rw [jD]
     have h2':¬(((eF 61 L[k]).length:Int)=2):=by omega
     clear iK hnext hK1 Yx hback jD h2
     generalize eF 61 L[k]=sg at *
     have W:=aA hk1 (aA hg (aA hlt h2'))
     repeat' first|refine we ?_|(refine sq ?_ ?_<;>intro hc<;>try exact hc.elim)|fail
     all_goals try(first|(refine ⟨.inr rfl,.inl ?_⟩;simp [aB,results266,dM];done)|(refine ⟨.inr rfl,.inr (fD ?_)⟩;simp [AS.FB,AS.Cy,AS.rv,results266,dM];done)|(refine ⟨.inr rfl,.inl ?_⟩;simp [aB,results266,dM]))
   ·have FC:L.drop k=[]:=drop_of_length_le (by omega)
    rw [FC] at qH
    have M9:=BS ws [] acc (by rw [qH];rfl)
    have hs2:=fun h1 h2=>GQ acc h1 h2 (by rw [qH];rfl)
    clear hK1 qH GQ yS
    cases hn:dJ w0
    ·rw [Ir (by rw [hn];simp)]
     rw [hn] at c1
     have W:=hk1
     repeat' first|refine we ?_|(refine sq ?_ ?_<;>intro hc<;>try exact hc.elim)|fail
     all_goals try(first|(refine ⟨.inr rfl,.inl ?_⟩;simp [aB,results266,dM];done)|(refine ⟨.inr rfl,.inr (fD ?_)⟩;simp [AS.FB,AS.Cy,AS.rv,results266,dM];done)|(refine ⟨.inr rfl,.inl ?_⟩;simp [aB,results266,dM]))
    ·rw [hn] at c1
     by_cases h4:(4:Int) < (acc.length:Int)
     ·rw [Ir (by simp only [length_nil] at M9;omega)]
      have W:=aA hk1 h4
      repeat' first|refine we ?_|(refine sq ?_ ?_<;>intro hc<;>try exact hc.elim)|fail
      all_goals try(first|(refine ⟨.inr rfl,.inl ?_⟩;simp [aB,results266,dM];done)|(refine ⟨.inr rfl,.inr (fD ?_)⟩;simp [AS.FB,AS.Cy,AS.rv,results266,dM];done)|(refine ⟨.inr rfl,.inl ?_⟩;simp [aB,results266,dM]))
     ·rw [hs2 hn (by simp only [length_nil] at M9;omega)]
      have W:=aA hk1 h4
      repeat' first|refine we ?_|(refine sq ?_ ?_<;>intro hc<;>try exact hc.elim)|fail
      all_goals try(first|(refine ⟨.inr rfl,.inl ?_⟩;simp [aB,results266];done)|(refine ⟨.inr rfl,.inr (fD ?_)⟩;simp [AS.FB,AS.Cy,AS.rv,results266];done)|(refine ⟨.inr rfl,.inl ?_⟩;simp [aB,results266]))
end Go.Proofs.YtlnblmmohpcceaaGreatDoor
