/- Proved here: steps towards the statement of this claim. No condition. -/
import Derived.Test.YtlnblmmohpcceaaGreatDoorZQN1
import Derived.Test.YtlnblmmohpcceaaGreatDoorZQRCB
set_option linter.all false
set_option maxRecDepth 4000
set_option maxHeartbeats 4000000
namespace Go.Proofs.YtlnblmmohpcceaaGreatDoor
open Go.Aw Proofs.Tryz List IntKind
theorem FR [aD prog] (p:aP) (s:bC) (hs:p.log.length<=1099511627776):IJ prog 71 [.mE (.agg (aM .own p)),.view (.str s)] (.agg (aM .own {p with log:=iL p.log s})):=by
 by_cases h:p.log.length < 40
 ·have hi:(p.log.length:Int) < 40:=by omega
  obtain ⟨l1,hl1⟩:∃l,l=p.log++[s]:=⟨_,rfl⟩
  have hap:p.log.map fF++[[.str s]]=l1.map fF:=by rw [hl1];simp
  have e:iL p.log s=l1:=by unfold iL;rw [if_pos h,hl1]
  rw [e]
  clear e hl1
  refine oI aAc func71 ntmps71 ?_
  have W:=aA hi (aA hap hs)
  repeat' first|refine we ?_|(refine sq ?_ ?_<;>intro hc<;>try exact hc.elim)|fail
  all_goals try(refine ⟨by first|exact .inr rfl|exact .inl rfl,?_⟩;simp [eZ,cZ,bZ,rowOf,results71])
 ·have hi:¬(p.log.length:Int) < 40:=by omega
  have e:iL p.log s=p.log:=by unfold iL;rw [if_neg h]
  rw [e]
  clear e
  refine oI aAc func71 ntmps71 ?_
  have W:=hi
  repeat' first|refine we ?_|(refine sq ?_ ?_<;>intro hc<;>try exact hc.elim)|fail
  all_goals try(refine ⟨by first|exact .inr rfl|exact .inl rfl,?_⟩;simp [eZ,cZ,bZ,rowOf,results71])
theorem Hu [aD prog] (a:aT) (hl:aV a<=1099511627776):Ok prog 157 [.agg (aK a)] (.str (jW a)):=by
 have c1:=vU a (by omega)
 simp only [aV] at hl
 have f1:a.host.length<=9223372036854775806:=by omega
 have f2:a.host.length+1<=9223372036854775807:=by omega
 have f3:a.host.length+1+a.path.length<=9223372036854775807:=by omega
 have f4:a.host.length+(a.path.length+1)<=9223372036854775807:=by omega
 refine bR aAc func157 ntmps157 ?_
 have W:=aA f1 (aA f2 (aA f3 f4))
 repeat' first|refine wl ?_|(refine sq ?_ ?_<;>intro hc<;>try exact hc.elim)|fail
 all_goals try(refine ⟨.inr rfl,?_⟩;simp [aB,results157,jW])
 all_goals simp_all [jW]
theorem zI (a:aT):(jW a).length<=17:=by
 unfold jW
 split
 ·rename_i h
  simp [yO,dJ] at h
  simp
  omega
 ·simp
theorem Hw [aD prog] (a:aT) (hl:aV a<=1099511627776):Ok prog 170 [.agg (aK a)] (.str (jW a)):=by
 have c1:=vV a (by omega)
 simp only [aV] at hl
 have f1:a.host.length<=9223372036854775806:=by omega
 have f2:a.host.length+1<=9223372036854775807:=by omega
 have f3:a.host.length+1+a.path.length<=9223372036854775807:=by omega
 have f4:a.host.length+(a.path.length+1)<=9223372036854775807:=by omega
 refine bR aAc func170 ntmps170 ?_
 have W:=aA f1 (aA f2 (aA f3 f4))
 repeat' first|refine wl ?_|(refine sq ?_ ?_<;>intro hc<;>try exact hc.elim)|fail
 all_goals try(refine ⟨.inr rfl,?_⟩;simp [aB,results170,jW])
 all_goals simp_all [jW]
def xG:bC:=[105,109,112,111,114,116,32]
def nV (base:bC):List bC->Option (List aT×List bC)
 |[]=>some ([],[])
 |p::ps=>if Cr xG p=true then (if (bQ (p.drop 7) base).2=true then (nV base ps).map (fun q=>((bQ (p.drop 7) base).1::q.1,q.2)) else none) else some ([],p::ps)
def bA (body base:bC):List aT×List iG×Bool:=
 match nV base (eF 59 body) with
 |none=>([],[],false)
 |some (l,r)=>if (eG (Lib.join r [59])).2=true then (l,(eG (Lib.join r [59])).1,true) else ([],[],false)
def vQ (base:bC) (l:List bC) (acc:List aT) (r:List bC):Prop:=nV base l=(nV base r).map fun q=>(acc++q.1,q.2)
theorem Hy (base:bC) (l:List bC):vQ base l [] l:=by
 unfold vQ
 cases nV base l<;>simp
theorem Oe {base:bC} {l:List bC} {acc:List aT} {p:bC} {ps:List bC} (h:vQ base l acc (p::ps)) (h1:Cr xG p=true) (h2:(bQ (p.drop 7) base).2=false):nV base l=none:=by
 unfold vQ at h
 rw [h]
 simp [nV,h1,h2]
theorem KA {base:bC} {l:List bC} {acc:List aT} {p:bC} {ps:List bC} (h:vQ base l acc (p::ps)) (h1:Cr xG p=true) (h2:(bQ (p.drop 7) base).2=true):vQ base l (acc++[(bQ (p.drop 7) base).1]) ps:=by
 unfold vQ at h⊢
 rw [h]
 simp only [nV,h1,h2,if_true]
 cases nV base ps<;>simp
theorem Og {base:bC} {l:List bC} {acc:List aT} (h:vQ base l acc []):nV base l=some (acc,[]):=by
 unfold vQ at h
 rw [h]
 simp [nV]
theorem KC {base:bC} {l:List bC} {acc:List aT} {p:bC} {ps:List bC} (h:vQ base l acc (p::ps)) (h1:Cr xG p=false):nV base l=some (acc,p::ps):=by
 unfold vQ at h
 rw [h]
 simp [nV,h1]
theorem JC (c:UInt8):∀s:bC,Lib.join (eF c s) [c]=s
 |[]=>by simp [eF,Lib.join_one]
 |x::s=>by
  have ih:=JC c s
  simp only [eF]
  split
  ·rename_i h
   subst h
   cases hs:eF x s with
   |nil=>exact absurd hs (xV x s)
   |cons p r=>
    rw [hs] at ih
    simp only [Lib.join,intercalate] at ih⊢
    simp only [intersperse,flatten_cons,nil_append,singleton_append] at ih⊢
    rw [ih]
  ·split
   ·rename_i h0;exact absurd h0 (xV c s)
   ·rename_i p r h0
    rw [h0] at ih
    simp only [Lib.join,intercalate] at ih⊢
    cases r with
    |nil=>simp only [intersperse,flatten_cons,flatten_nil,append_nil] at ih⊢;rw [ih]
    |cons q r=>simp only [intersperse,flatten_cons,cons_append] at ih⊢;rw [ih]
theorem X3 [aD prog] [eO prog] (l:List bC) (sep:bC) (hl:l.length<=140737488355328) (hs:(Lib.join l sep).length<=140737488355328):
  Ok prog 194 [.sl .view 1 (l.map fF),.str sep] (.str (Lib.join l sep)):=aCo Tryz.lays156 Tryz.Builder_Extra_156 l sep hl hs
theorem TM (x:bC) (xs:List bC) (c:UInt8):(Lib.join xs [c]).length<=(Lib.join (x::xs) [c]).length:=by
 cases xs with
 |nil=>simp [Lib.join_nil]
 |cons y ys=>
  simp only [Lib.join,intercalate,intersperse,flatten_cons,length_append]
  omega
theorem Hz (c:UInt8):∀(k:Nat) (l:List bC),(Lib.join (l.drop k) [c]).length<=(Lib.join l [c]).length
 |0,l=>by simp
 |_+1,[]=>by simp
 |k+1,x::xs=>by
  rw [drop_succ_cons]
  exact Nat.le_trans (Hz c k xs) (TM x xs c)
theorem oh [aD prog] [eO prog] {s:bC} (hl:s.length<=1099511627776) (h:Cr xG s=false):Ok prog 197 [.str s,.str [105,109,112,111,114,116,32]] (.gV [.str s,.bool false]):=by
 have c:=BR s xG hl (by simp [xG])
 rw [h] at c
 exact c
theorem YO [aD prog] [eO prog] {s:bC} (hl:s.length<=1099511627776) (h:Cr xG s=true):Ok prog 197 [.str s,.str [105,109,112,111,114,116,32]] (.gV [.str (s.drop 7),.bool true]):=by
 have c:=BR s xG hl (by simp [xG])
 rw [h] at c
 exact c
theorem sZ [aD prog] [eO prog] (body base:bC) (hl:body.length<=1073741824) (hb:base.length<=1073741824):Ok prog 172 [.str body,.str base] (.gV [.sl .own 2 ((bA body base).1.map aK),.sl .own 2 ((bA body base).2.1.map jL),.bool (bA body base).2.2]):=by
 have cS:=VU body 59 (by omega)
 have hle:=LC 59 body
 have hst:=Hy base (eF 59 body)
 have hn:=iV 59 body
 have hcn:body.count 59<=body.length:=count_le_length
 have Lx:(eF 59 body).length<=1073741825:=by omega
 have jD:∀acc r,nV base (eF 59 body)=some (acc,r)->∀ls ok,eG (Lib.join r [59])=(ls,ok)->bA body base=if ok=true then (acc,ls,true) else ([],[],false):=by
  intro acc r h1 ls ok h2
  unfold bA
  rw [h1]
  simp only [h2]
 have yS:nV base (eF 59 body)=none->bA body base=([],[],false):=by
  intro h1
  unfold bA
  rw [h1]
 generalize bA body base=g at *
 have hjl:(Lib.join (eF 59 body) [59]).length<=1073741824:=by rw [JC];exact hl
 generalize eF 59 body=l at *
 refine bR aAc func172 ntmps172 ?_
 have W:=trivial
 repeat' first|refine we ?_|(refine sq ?_ ?_<;>intro hc<;>try exact hc.elim)|fail
 refine aJ (ι:={q:Nat×List aT×Nat // (q.1<=l.length/\1<=q.2.2)/\q.2.1.length=q.1/\vQ base l q.2.1 (l.drop q.1)}) (fun t o i=>⟨aZ t [(7,.obj 0 (i.1.1+1)),(8,.obj 1 i.1.2.2),(9,.undef),(10,.undef),(11,.undef),(12,.undef)],[⟨true,false,1,i.1.1+1,(l.drop i.1.1).map fF⟩,⟨true,false,2,i.1.2.2,i.1.2.1.map aK⟩]⟩)
  (fun i=>l.length - i.1.1) ⟨(0,[],1),by simp,by simp,by simpa using hst⟩ (aI (by simp) (by simp)) ?_
 rintro ⟨⟨k,acc,v⟩,⟨hk,hv⟩,sV,qH⟩ K1 hK1
 simp only at hk hv sV qH
 simp only [aZ,set_cons_succ,set_cons_zero] at hK1⊢
 have hjd:=Hz 59 k l
 have hdl:(l.drop k).length<=1073741825:=by simp;omega
 have cJ:=X3 (l.drop k) [59] (by omega) (by omega)
 have cP:=yV (Lib.join (l.drop k) [59]) (by omega)
 by_cases hlt:k < l.length
 ·have hd:l.drop k=l[k]::l.drop (k+1):=drop_eq_getElem_cons hlt
  have hpl:=hle _ (getElem_mem hlt)
  have c2:=vJ (l[k].drop 7) base (by simp;omega)
  simp only [aK] at c2
  rw [hd] at qH cJ cP hdl⊢
  generalize hps:l.drop (k+1)=ps at *
  generalize l[k]=p at *
  simp only [length_cons] at hdl
  cases hp:Cr xG p with
  |false=>
   have hs:=KC qH hp
   have c1:=oh (by omega) hp
   have hr:=jD _ _ hs
   clear hp hs qH hst hK1
   have hdp:(0:Int) < (ps.length:Int)+1:=by omega
   generalize Lib.join (p::ps) [59]=J2 at *
   generalize eG J2=q at *
   obtain ⟨ls,ok⟩:=q
   have hr:=hr ls ok rfl
   subst hr
   simp only at cP
   cases ok
   ·simp only [Bool.false_eq_true,if_false]
    have W:=hdp
    repeat' first|refine we ?_|(refine sq ?_ ?_<;>intro hc<;>try exact hc.elim)|fail
    all_goals try(refine ⟨.inr rfl,?_⟩;simp [aB,results172])
   ·simp only [if_true]
    have W:=hdp
    repeat' first|refine we ?_|(refine sq ?_ ?_<;>intro hc<;>try exact hc.elim)|fail
    all_goals try(refine ⟨.inr rfl,?_⟩;simp [aB,results172])
  |true=>
   have iK:=Oe qH hp
   have hnext:=KA qH hp
   have c1:=YO (by omega) hp
   clear hp
   have hdp:(0:Int) < (ps.length:Int)+1:=by omega
   generalize bQ (p.drop 7) base=pa at *
   obtain ⟨a,ok⟩:=pa
   simp only at c2 iK hnext
   have htk:take ps.length (ps.map fF)=ps.map fF:=take_of_length_le (by simp)
   cases ok with
   |false=>
    have hr:=yS (iK rfl)
    subst hr
    have W:=hdp
    repeat' first|refine we ?_|(refine sq ?_ ?_<;>intro hc<;>try exact hc.elim)|fail
    all_goals try(refine ⟨.inr rfl,?_⟩;simp [aB,results172])
   |true=>
    have W:=hdp
    repeat' first|refine we ?_|(refine sq ?_ ?_<;>intro hc<;>try exact hc.elim)|fail
    all_goals exact hK1 _ ⟨(k+1,acc++[a],v+1),⟨by simp only;omega,by simp only;omega⟩,by simp;omega,by simp only [hps];exact hnext rfl⟩ (aS 2 (by simp [hps,htk]) (by simp) (by simp) (by simp)) (by simp only;omega)
 ·have hd:l.drop k=[]:=drop_of_length_le (by omega)
  rw [hd] at qH cJ cP⊢
  have hr:=jD _ _ (Og qH) [] true rfl
  subst hr
  have hq:eG []=([],true):=rfl
  simp only [Lib.join_nil,hq,map_nil,if_true] at cJ cP⊢
  have W:=trivial
  repeat' first|refine we ?_|(refine sq ?_ ?_<;>intro hc<;>try exact hc.elim)|fail
  all_goals try(refine ⟨.inr rfl,?_⟩;simp [aB,results172])
theorem Oh (c:UInt8) (s:bC):eF c s=s.take (gG c s)::(if gG c s < s.length then eF c (s.drop (gG c s+1)) else []):=by
 rw [IY]
 have h:=qW c s
 split
 ·rfl
 ·rw [take_of_length_le (by omega)]
theorem X4 {p s:bC} {k:Nat} (h:Cr p (s.take k)=true):Cr p s=true:=by
 simp only [Cr,Bool.and_eq_true,decide_eq_true_eq,beq_iff_eq,take_take,length_take] at h⊢
 obtain ⟨h1,h2⟩:=h
 rw [Nat.min_eq_left (by omega)] at h2
 exact ⟨by omega,h2⟩
theorem X5 {s:bC} (h:Cr xG s=true):7<=gG 59 s:=by
 simp only [Cr,Bool.and_eq_true,decide_eq_true_eq,beq_iff_eq] at h
 obtain ⟨h1,h2⟩:=h
 have h3:s=xG++s.drop 7:=by
  have:=take_append_drop 7 s
  rw [show xG.length=7 from rfl] at h2
  rw [h2] at this;exact this.symm
 rw [h3,Gy 59 xG _ (by decide)]
 simp [xG]
theorem oo {s:bC} (h:Cr xG s=true):Cr xG (s.take (gG 59 s))=true:=by
 have h7:=X5 h
 have hle:=qW 59 s
 simp only [Cr,Bool.and_eq_true,decide_eq_true_eq,beq_iff_eq,take_take,length_take,show xG.length=7 from rfl] at h⊢
 rw [Nat.min_eq_left h7]
 exact ⟨by omega,h.2⟩
theorem zJ [aD prog] [eO prog] (body base:bC) (hl:body.length<=1073741824) (hb:base.length<=1073741824):Ok prog 159 [.str body,.str base] (.gV [.sl .own 2 ((bA body base).1.map aK),.sl .own 2 ((bA body base).2.1.map jL),.bool (bA body base).2.2]):=by
 have hst:=Hy base (eF 59 body)
 have hn:=iV 59 body
 have hcn:body.count 59<=body.length:=count_le_length
 have Lx:(eF 59 body).length<=1073741825:=by omega
 have jD:∀acc r,nV base (eF 59 body)=some (acc,r)->∀ls ok,eG (Lib.join r [59])=(ls,ok)->bA body base=if ok=true then (acc,ls,true) else ([],[],false):=by
  intro acc r h1 ls ok h2
  unfold bA
  rw [h1]
  simp only [h2]
 have yS:nV base (eF 59 body)=none->bA body base=([],[],false):=by
  intro h1
  unfold bA
  rw [h1]
 generalize bA body base=g at *
 have hi0:eF 59 body=eF 59 body\/(eF 59 body=[]/\body=[]):= .inl rfl
 generalize hL:eF 59 body=l at hst hn Lx jD yS hi0
 refine bR aAc func159 ntmps159 ?_
 have W:=trivial
 repeat' first|refine we ?_|(refine sq ?_ ?_<;>intro hc<;>try exact hc.elim)|fail
 refine aJ (ι:={q:bC×List bC×List aT×Nat // (q.1.length<=body.length/\1<=q.2.2.2)/\(q.2.1=eF 59 q.1\/(q.2.1=[]/\q.1=[]))/\q.2.2.1.length+q.2.1.length<=l.length/\vQ base l q.2.2.1 q.2.1}) (fun t o i=>⟨aZ t [(8,.str i.1.1),(7,.obj 0 i.1.2.2.2),(9,.undef),(10,.undef),(11,.undef)],[⟨true,false,2,i.1.2.2.2,i.1.2.2.1.map aK⟩]⟩)
  (fun i=>i.1.2.1.length) ⟨(body,l,[],1),by simp,.inl hL.symm,by simp,hst⟩ (aI (by simp) (by simp)) ?_
 rintro ⟨⟨rest,parts,acc,v⟩,⟨hrl,hv⟩,wY,hac,qH⟩ K1 hK1
 simp only at hrl hv wY hac qH
 simp only [aZ,set_cons_succ,set_cons_zero] at hK1⊢
 have aMd:Lib.join parts [59]=rest:=by
  rcases wY with rfl|⟨rfl,rfl⟩
  ·exact JC 59 rest
  ·rfl
 cases hp:Cr xG rest with
 |false=>
  have hs:nV base l=some (acc,parts):=by
   rcases wY with rfl|⟨rfl,rfl⟩
   ·rw [Oh] at qH⊢
    refine KC qH ?_
    cases h:Cr xG (rest.take (gG 59 rest)) with
    |false=>rfl
    |true=>rw [X4 h] at hp;cases hp
   ·exact Og qH
  have hr:=jD _ _ hs
  rw [aMd] at hr
  have cP:=yU rest (by omega)
  generalize eG rest=q at *
  obtain ⟨ls,ok⟩:=q
  have hr:=hr ls ok rfl
  subst hr
  simp only at cP
  clear hK1 hs jD yS qH
  by_cases h7:(7:Int)<=(rest.length:Int)
  ·have he:(rest.take 7 == ([105,109,112,111,114,116,32]:bC))=false:=by
    simp only [Cr,show xG.length=7 from rfl,Bool.and_eq_false_iff,decide_eq_false_iff_not] at hp
    rcases hp with hp|hp
    ·omega
    ·exact hp
   clear hp
   cases ok
   ·simp only [Bool.false_eq_true,if_false]
    have W:=aA h7 he
    repeat' first|refine we ?_|(refine sq ?_ ?_<;>intro hc<;>try exact hc.elim)|fail
    all_goals try(refine ⟨.inr rfl,?_⟩;simp [aB,results159])
   ·simp only [if_true]
    have W:=aA h7 he
    repeat' first|refine we ?_|(refine sq ?_ ?_<;>intro hc<;>try exact hc.elim)|fail
    all_goals try(refine ⟨.inr rfl,?_⟩;simp [aB,results159])
  ·clear hp
   cases ok
   ·simp only [Bool.false_eq_true,if_false]
    have W:=h7
    repeat' first|refine we ?_|(refine sq ?_ ?_<;>intro hc<;>try exact hc.elim)|fail
    all_goals try(refine ⟨.inr rfl,?_⟩;simp [aB,results159])
   ·simp only [if_true]
    have W:=h7
    repeat' first|refine we ?_|(refine sq ?_ ?_<;>intro hc<;>try exact hc.elim)|fail
    all_goals try(refine ⟨.inr rfl,?_⟩;simp [aB,results159])
 |true=>
  have h7n:=Tw hp
  have h7:(7:Int)<=(rest.length:Int):=by simp only [show xG.length=7 from rfl] at h7n;omega
  have he:(rest.take 7 == ([105,109,112,111,114,116,32]:bC))=true:=by
   simp only [Cr,show xG.length=7 from rfl,Bool.and_eq_true] at hp
   exact hp.2
  have hpt:=oo hp
  have hix:=X5 hp
  have hxl:=qW 59 rest
  have Ti:parts=eF 59 rest:=by
   rcases wY with h|⟨_,h⟩
   ·exact h
   ·subst h;simp at h7
  rw [Oh] at Ti
  have cI:Ok prog 218 [.str rest,.int .u8 59] (.int .i64 (gG 59 rest:Nat)):=Fy rest 59 (by omega)
  generalize gG 59 rest=k at *
  subst Ti
  have c2:=vI ((rest.take k).drop 7) base (by simp;omega)
  simp only [aK] at c2
  have iK:=Oe qH hpt
  have hnext:=KA qH hpt
  have cM:=aHa (rest.length:Int) ((k:Int)+1)
  have hk7:(7:Int)<=(k:Int):=by omega
  have hkl:(k:Int)<=(rest.length:Int):=by omega
  generalize bQ ((rest.take k).drop 7) base=pa at *
  obtain ⟨a,ok⟩:=pa
  simp only at c2 iK hnext
  clear hp hpt
  cases ok with
  |false=>
   have hr:=yS (iK rfl)
   subst hr
   clear hK1
   have W:=aA h7 (aA he (aA hk7 hkl))
   repeat' first|refine we ?_|(refine sq ?_ ?_<;>intro hc<;>try exact hc.elim)|fail
   all_goals try(refine ⟨.inr rfl,?_⟩;simp [aB,results159])
  |true=>
   by_cases hkk:k < rest.length
   ·have hm:min (rest.length:Int) ((k:Int)+1)=((k+1:Nat):Int):=by omega
    rw [hm] at cM
    have hk1:i64.wrap ((k:Int)+1)=((k+1:Nat):Int):=by rw [wrap64]<;>omega
    rw [if_pos hkk] at hnext hac
    have W:=aA h7 (aA he (aA hk7 (aA hkl hk1)))
    repeat' first|refine we ?_|(refine sq ?_ ?_<;>intro hc<;>try exact hc.elim)|fail
    all_goals exact hK1 _ ⟨(rest.drop (k+1),eF 59 (rest.drop (k+1)),acc++[a],v+1),⟨by simp;omega,by simp only;omega⟩,.inl rfl,by simp at hac⊢;omega,hnext rfl⟩ (aS 1 (by simp) (by simp) (by simp) (by simp)) (by simp [if_pos hkk])
   ·have hm:min (rest.length:Int) ((k:Int)+1)=(rest.length:Int):=by omega
    rw [hm] at cM
    rw [if_neg hkk] at hnext hac
    have W:=aA h7 (aA he (aA hk7 hkl))
    repeat' first|refine we ?_|(refine sq ?_ ?_<;>intro hc<;>try exact hc.elim)|fail
    all_goals exact hK1 _ ⟨([],[],acc++[a],v+1),⟨by simp,by simp only;omega⟩,.inr ⟨rfl,rfl⟩,by simp at hac⊢;omega,hnext rfl⟩ (aS 1 (by simp) (by simp) (by simp) (by simp)) (by simp)
def lC (p:aP) (a:aT):List aT:=
 match p.aX.find? (pF a) with
 |some m=>if m.done=true/\m.code=1 then (bA m.body a.host).1 else []
 |none=>[]
def qP (p:aP):List aT:=p.aX.flatMap fun m=>(bA m.body m.to.host).1
def eU (p:aP):Nat->aT->List aT->List aT->List aT×List aT
 |0,_,seen,out=>(seen,out)
 |n+1,a,seen,out=>if seen.any (gL a)=true then (seen,out) else
   (((lC p a).foldl (fun s b=>eU p n b s.1 s.2) (seen++[a],out)).1,((lC p a).foldl (fun s b=>eU p n b s.1 s.2) (seen++[a],out)).2++[a])
def nW (p:aP) (seen:List aT):Nat:=(p.aX.filter fun m=> !seen.any (gL m.to)).length
def dG (p:aP) (n:Nat) (l:List aT) (s:List aT×List aT):List aT×List aT:=l.foldl (fun s b=>eU p n b s.1 s.2) s
theorem DC (p:aP) (n:Nat) (l:List aT) (b:aT) (s:List aT×List aT):dG p n (l++[b]) s=eU p n b (dG p n l s).1 (dG p n l s).2:=by
 simp [dG]
theorem uS {l:List aT} {a:aT}:l.any (gL a)=true↔a∈l:=by
 simp [gL]
theorem FT (p:aP) (a:aT):∀b∈lC p a,b∈qP p:=by
 intro b hb
 unfold lC at hb
 split at hb
 ·rename_i m hm
  split at hb
  ·have h1:=find?_some hm
   have h2:=mem_of_find?_eq_some hm
   simp only [pF,decide_eq_true_eq] at h1
   subst h1
   exact mem_flatMap.2 ⟨m,h2,hb⟩
  ·cases hb
 ·cases hb
theorem YP {p:aP} {a:aT} (h:lC p a≠[]):∃m∈p.aX,m.to=a:=by
 unfold lC at h
 split at h
 ·rename_i m hm
  have h1:=find?_some hm
  simp only [pF,decide_eq_true_eq] at h1
  exact ⟨m,mem_of_find?_eq_some hm,h1⟩
 ·exact absurd rfl h
structure Seen (U : List aT) (s : List aT × List aT) : Prop where
  nd : s.1.Nodup
  sub : ∀ x ∈ s.1, x ∈ U
  ond : s.2.Nodup
  Wm : ∀ x ∈ s.2, x ∈ s.1
theorem KD {p:aP} {s s':List aT} (h:∀x∈s,x∈s'):nW p s'<=nW p s:=by
 unfold nW
 have:∀l:List dD,(l.filter fun m=> !s'.any (gL m.to)).length<=(l.filter fun m=> !s.any (gL m.to)).length:=by
  intro l
  induction l with
  |nil=>simp
  |cons m l ih=>
   simp only [filter_cons]
   by_cases h1:s.any (gL m.to)=true
   ·have h2:s'.any (gL m.to)=true:=uS.2 (h _ (uS.1 h1))
    simp [h1,h2,ih]
   ·simp only [Bool.not_eq_true] at h1
    simp only [h1]
    split<;>simp<;>omega
 exact this p.aX
theorem RA {p:aP} {s:List aT} {a:aT} (h:¬s.any (gL a)=true) (hm:∃m∈p.aX,m.to=a):nW p (s++[a]) < nW p s:=by
 obtain ⟨m,hm,rfl⟩:=hm
 unfold nW
 have key:∀l:List dD,(l.filter fun x=> !(s++[m.to]).any (gL x.to)).length<=(l.filter fun x=> !s.any (gL x.to)).length/\(m∈l->(l.filter fun x=> !(s++[m.to]).any (gL x.to)).length < (l.filter fun x=> !s.any (gL x.to)).length):=by
  intro l
  induction l with
  |nil=>simp
  |cons x l ih=>
   simp only [filter_cons]
   by_cases h1:s.any (gL x.to)=true
   ·have h2:(s++[m.to]).any (gL x.to)=true:=uS.2 (mem_append_left _ (uS.1 h1))
    simp only [h1,h2,Bool.not_true,Bool.false_eq_true,if_false]
    refine ⟨ih.1,fun hmem=> ?_⟩
    rcases mem_cons.1 hmem with rfl|hmem
    ·exact absurd h1 h
    ·exact ih.2 hmem
   ·by_cases h2:(s++[m.to]).any (gL x.to)=true
    ·simp only [Bool.not_eq_true] at h1
     simp only [h1,h2,Bool.not_true,Bool.false_eq_true,if_false,Bool.not_false,if_true,length_cons]
     exact ⟨by omega,fun _=>by omega⟩
    ·have h2':=h2
     simp only [Bool.not_eq_true] at h1 h2
     simp only [h1,h2,Bool.not_false,if_true,length_cons]
     refine ⟨by omega,fun hmem=> ?_⟩
     rcases mem_cons.1 hmem with rfl|hmem
     ·exact absurd (uS.2 (by simp)) h2'
     ·have:=ih.2 hmem;omega
 exact (key p.aX).2 hm
theorem Cf {p:aP} {U:List aT} (hU:∀x∈qP p,x∈U):∀(n:Nat) (a:aT) (s:List aT×List aT),a∈U->Seen U s->Seen U (eU p n a s.1 s.2)/\(∀x∈s.1,x∈(eU p n a s.1 s.2).1)
 |0,a,s,_,hs=>by simp only [eU];exact ⟨hs,fun _ h=>h⟩
 |n+1,a,s,ha,hs=>by
  simp only [eU]
  split
  ·exact ⟨hs,fun _ h=>h⟩
  ·rename_i hn
   have hna:a∉s.1:=fun h=>hn (uS.2 h)
   have key:∀(l:List aT) (q:List aT×List aT),(∀x∈l,x∈U)->Seen U q->(a∈q.1/\a∉q.2)->Seen U (l.foldl (fun s b=>eU p n b s.1 s.2) q)/\(∀x∈q.1,x∈(l.foldl (fun s b=>eU p n b s.1 s.2) q).1)/\a∉(l.foldl (fun s b=>eU p n b s.1 s.2) q).2:=by
    intro l
    induction l with
    |nil=>intro q _ hq ha;exact ⟨hq,fun _ h=>h,ha.2⟩
    |cons b l ih=>
     intro q hl hq haq
     obtain ⟨h1,h2⟩:=Cf hU n b q (hl b (by simp)) hq
     have h3:a∉(eU p n b q.1 q.2).2:=RB n b q haq.1 haq.2
     obtain ⟨h4,h5,h6⟩:=ih (eU p n b q.1 q.2) (fun x hx=>hl x (by simp [hx])) h1 ⟨h2 a haq.1,h3⟩
     exact ⟨h4,fun x hx=>h5 x (h2 x hx),h6⟩
   have hs1:Seen U (s.1++[a],s.2):=⟨nodup_append.2 ⟨hs.nd,by simp,fun x hx y hy e=>hna (by simp at hy;subst hy;subst e;exact hx)⟩,fun x hx=>by
    rcases mem_append.1 hx with h|h
    ·exact hs.sub x h
    ·simp at h;subst h;exact ha,hs.ond,fun x hx=>mem_append_left _ (hs.Wm x hx)⟩
   obtain ⟨h1,h2,h3⟩:=key (lC p a) (s.1++[a],s.2) (fun x hx=>hU x (FT p a x hx)) hs1 ⟨by simp,fun h=>hna (hs.Wm a h)⟩
   refine ⟨⟨h1.nd,h1.sub,?_,?_⟩,fun x hx=>h2 x (mem_append_left _ hx)⟩
   ·exact nodup_append.2 ⟨h1.ond,by simp,fun x hx y hy e=>h3 (by simp at hy;subst hy;subst e;exact hx)⟩
   ·intro x hx
    rcases mem_append.1 hx with h|h
    ·exact h1.Wm x h
    ·simp at h;subst h;exact h2 x (by simp)
where
 RB {p:aP} {a:aT}:∀(n:Nat) (b:aT) (q:List aT×List aT),a∈q.1->a∉q.2->a∉(eU p n b q.1 q.2).2
  |0,b,q,h1,h2=>by simpa only [eU] using h2
  |n+1,b,q,h1,h2=>by
   simp only [eU]
   split
   ·exact h2
   ·rename_i hn
    have hne:a≠b:=fun e=>hn (uS.2 (e▸h1))
    have key:∀(l:List aT) (q:List aT×List aT),a∈q.1->a∉q.2->a∉(l.foldl (fun s b=>eU p n b s.1 s.2) q).2:=by
     intro l
     induction l with
     |nil=>intro q _ h;exact h
     |cons c l ih=>
      intro q h1 h2
      exact ih _ (Wn n c q h1) (RB n c q h1 h2)
    intro hm
    rcases mem_append.1 hm with h|h
    ·exact key (lC p b) (q.1++[b],q.2) (mem_append_left _ h1) h2 h
    ·simp at h;exact hne h
 Wn {p:aP} {a:aT}:∀(n:Nat) (b:aT) (q:List aT×List aT),a∈q.1->a∈(eU p n b q.1 q.2).1
  |0,b,q,h1=>by simpa only [eU] using h1
  |n+1,b,q,h1=>by
   simp only [eU]
   split
   ·exact h1
   ·have key:∀(l:List aT) (q:List aT×List aT),a∈q.1->a∈(l.foldl (fun s b=>eU p n b s.1 s.2) q).1:=by
     intro l
     induction l with
     |nil=>intro q h;exact h
     |cons c l ih=>intro q h1;exact ih _ (Wn n c q h1)
    exact key (lC p b) (q.1++[b],q.2) (mem_append_left _ h1)
theorem Bp {α:Type} (f:α->Nat):∀(l U:List α),l.Nodup->(∀x∈l,x∈U)->aO f l<=aO f U/\l.length<=U.length
 |[],U,_,_=>by simp [aO]
 |x::l,U,hn,hs=>by
  simp only [nodup_cons] at hn
  obtain ⟨U1,U2,rfl⟩:=append_of_mem (hs x (by simp))
  have ih:=Bp f l (U1++U2) hn.2 (fun y hy=>by
   have:=hs y (by simp [hy])
   simp only [mem_append,mem_cons] at this⊢
   rcases this with h|h|h
   ·exact .inl h
   ·subst h;exact absurd hy hn.1
   ·exact .inr h)
  have e:∀(A B:List α),aO f (A++B)=aO f A+aO f B:=by
   intro A B
   induction A with
   |nil=>simp [aO]
   |cons a A ih=>simp only [cons_append,aO,ih];omega
  simp only [e,aO,length_append,length_cons] at ih⊢
  omega
theorem aEd {α:Type} {f:α->Bool} {l:List α} {k:Nat} (h:k < l.length) (hf:f l[k]=true) (hn:∀x∈l.take k,f x=false):l.find? f=some l[k]:=by
 have e:l=l.take k++l[k]::l.drop (k+1):=by simp
 have h5:=congrArg (find? f) e
 rw [h5,find?_append]
 have:(l.take k).find? f=none:=find?_eq_none.2 fun x hx=>by simp [hn x hx]
 rw [this]
 simp only [Option.none_or,find?_cons,hf]
theorem aEe {α:Type} {f:α->Bool} {l:List α} (hn:∀x∈l,f x=false):l.find? f=none:=find?_eq_none.2 fun x hx=>by simp [hn x hx]
theorem Wo {α:Type} {f:α->Bool}:∀l:List α,¬(∀x∈l,f x=false)->∃k,∃hk:k < l.length,f l[k]=true/\∀x∈l.take k,f x=false
 |[],h=>absurd (fun x hx=>by cases hx) h
 |x::l,h=>by
  cases hx:f x with
  |true=>exact ⟨0,by simp,by simpa using hx,by simp⟩
  |false=>
   obtain ⟨k,hk,h1,h2⟩:=Wo l (fun hl=>h (fun y hy=>by
    rcases mem_cons.1 hy with rfl|hy
    ·exact hx
    ·exact hl y hy))
   refine ⟨k+1,by simpa using hk,by simpa using h1,fun y hy=> ?_⟩
   simp only [take_succ_cons,mem_cons] at hy
   rcases hy with rfl|hy
   ·exact hx
   ·exact h2 y hy
theorem zK {α:Type} (f:α->Bool) (l:List α):(BN f l= -1/\l.find? f=none)\/∃k,∃h:k < l.length,BN f l=(k:Int)/\l.find? f=some l[k]:=by
 by_cases h:∀x∈l,f x=false
 ·exact .inl ⟨vH h,aEe h⟩
 ·right
  obtain ⟨k,hk,h1,h2⟩:=Wo l h
  exact ⟨k,hk,Eb hk h1 h2,aEd hk h1 h2⟩
end Go.Proofs.YtlnblmmohpcceaaGreatDoor
