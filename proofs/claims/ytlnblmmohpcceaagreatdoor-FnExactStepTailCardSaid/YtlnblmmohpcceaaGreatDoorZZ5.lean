/- Proved here: steps towards the statement of this claim. No condition. -/
import Derived.Test.YtlnblmmohpcceaaGreatDoorZQSL
set_option linter.all false
set_option maxRecDepth 4000
set_option maxHeartbeats 4000000
namespace Go.Proofs.YtlnblmmohpcceaaGreatDoor
open Go.Aw Proofs.Tryz List IntKind
theorem rR {α:Type} {f:α->List AV} {i j:Nat} (h:∀x,qI i j (f x)=f x):∀l:List α,sW i j (l.map f)=l.map f
 |[]=>rfl
 |x::l=>by simp only [map_cons,sW,h,rR h l]
@[simp] theorem aJb (i j:Nat) (l:List bC):sW i j (l.map fF)=l.map fF:=rR (fun _=>rfl) l
@[simp] theorem aJc (i j:Nat) (l:List Int):sW i j (l.map iX)=l.map iX:=rR (fun _=>rfl) l
@[simp] theorem aHr (i j:Nat) (l:List aT):sW i j (l.map aK)=l.map aK:=rR (fun _=>rfl) l
@[simp] theorem aHs (i j:Nat) (l:List iU):sW i j (l.map fQ)=l.map fQ:=rR (fun _=>rfl) l
@[simp] theorem aHt (i j:Nat) (l:List lF):sW i j (l.map iO)=l.map iO:=rR (fun _=>rfl) l
@[simp] theorem aEf (i j:Nat) (l:List dD):sW i j (l.map bO)=l.map bO:=rR (fun _=>rfl) l
@[simp] theorem aEg (i j:Nat) (l:List bH):sW i j (l.map (bB .view))=l.map (bB .view):=rR (fun _=>by simp) l
@[simp] theorem aFl (i j:Nat) (l:List eY):sW i j (l.map (bX .view))=l.map (bX .view):=rR (fun _=>by simp) l
@[simp] theorem aMe (u:List Nat) (b:Bool) (l:List bH):lD (gM u) b (l.map (bB .view))=l.map (bB .view):=by
 induction l with
 |nil=>rfl
 |cons x l ih=>rw [map_cons,lD,ih];simp [wT,rt,bB,gM]
@[simp] theorem aJd (u:List Nat) (b:Bool) (l:List eY):lD (gM u) b (l.map (bX .view))=l.map (bX .view):=by
 induction l with
 |nil=>rfl
 |cons x l ih=>rw [map_cons,lD,ih];simp [wT,rt,bX,gM]
theorem YQ {t t':List AV} {o o':List aG} {v:Nat} {l1 l3 m1 m3:List (List AV)} {o4 o5 o6 o7 o8 o9:aG}
  (ho:o=[⟨true,true,1,2,[[.obj 10 1]]⟩,⟨false,false,2,v,l1⟩,⟨true,true,1,2,[[.obj 11 1]]⟩,⟨false,false,2,1,l3⟩,o4,o5,o6,o7,o8,o9,⟨true,false,2,1,m1⟩,⟨true,false,2,1,m3⟩])
  (ho':o'=[⟨true,true,1,2,[[.obj 1 1]]⟩,⟨true,false,2,1,m1⟩,⟨true,true,1,2,[[.obj 3 1]]⟩,⟨true,false,2,1,m3⟩,o4,o5,o6,o7,o8])
  (hf:(o4.mH 1 10=o4/\o5.mH 1 10=o5/\o6.mH 1 10=o6/\o7.mH 1 10=o7/\o8.mH 1 10=o8/\o9.mH 1 10=o9)/\(o4.mH 3 11=o4/\o5.mH 3 11=o5/\o6.mH 3 11=o6/\o7.mH 3 11=o7/\o8.mH 3 11=o8/\o9.mH 3 11=o9))
  (hw:wk t t') (h1:wk (qI 1 10 t') t') (h3:wk (qI 3 11 t') t') (hc:fM 9 t'=true) (hc0:dL 9 [o4,o5,o6,o7,o8]=true):lS ⟨t,o⟩ ⟨t',o'⟩:=by
 subst ho;subst ho'
 obtain ⟨⟨a4,a5,a6,a7,a8,a9⟩,b4,b5,b6,b7,b8,b9⟩:=hf
 refine (wZ hw).trans ?_
 refine (bJ 1 10 rfl rfl ⟨rfl,rfl⟩ (by simp [a4,a5,a6,a7,a8,a9];rfl) h1).trans ?_
 refine (bJ 3 11 rfl rfl ⟨rfl,rfl⟩ (by simp [b4,b5,b6,b7,b8,b9];rfl) h3).trans ?_
 refine aS 9 (by simp) (kK _) hc ?_
 simpa [dL,fM,closed] using hc0
theorem zL {p:aP} {U:List aT} (hU:∀x∈qP p,x∈U) (n:Nat):∀(l:List aT) (s:List aT×List aT),(∀b∈l,b∈U)->Seen U s->Seen U (dG p n l s)/\(∀x∈s.1,x∈(dG p n l s).1)
 |[],s,_,h=>⟨h,fun _ h=>h⟩
 |b::l,s,hl,h=>by
  obtain ⟨h1,h2⟩:=Cf hU n b s (hl b (by simp)) h
  obtain ⟨h3,h4⟩:=zL hU n l _ (fun x hx=>hl x (by simp [hx])) h1
  exact ⟨h3,fun x hx=>h4 x (h2 x hx)⟩
theorem yE [aD prog] [eO prog] (p:aP) (a:aT) (hl:p.aX.length<=1099511627776):Ok prog 168 [.agg (aM .view p),.agg (aK a)] (.int .i64 (BN (pF a) p.aX)):=by
 have c1:=VX p.aX a hl
 simp only [aK] at c1
 refine bR aAc func168 ntmps168 ?_
 have W:=trivial
 repeat' first|refine we ?_|(refine sq ?_ ?_<;>intro hc<;>try exact hc.elim)|fail
 all_goals try(refine ⟨.inr rfl,?_⟩;simp [aB,results168])
structure jk (p : aP) (U : List aT) : Prop where
  hs : bP bE p.aX <= 268435456
  im : ∀ x ∈ qP p, x ∈ U
  len : U.length <= 1073741824
  host : ∀ x ∈ U, x.host.length <= 1073741824
  ps : ∀ m ∈ p.aX, (bA m.body m.to.host).1.length <= 1073741824
theorem Seen.len {U:List aT} {s:List aT×List aT} (h:Seen U s):s.1.length<=U.length/\s.2.length<=U.length:=
 ⟨(Bp (fun _=>0) s.1 U h.nd h.sub).2,(Bp (fun _=>0) s.2 U h.ond (fun x hx=>h.sub x (h.Wm x hx))).2⟩
theorem Oi [aD prog] [eO prog] (p:aP) (U:List aT) (hb:jk p U) (a:aT) (s1 s2:List aT) (hn:s1.any (gL a)=true) (h1:s1.length<=1073741824):
  IJ prog 227 [.view (.agg (aM .view p)),.view (.agg (aK a)),.pX [.sl .own 2 (s1.map aK)] [.sl .own 2 (s1.map aK)],.pX [.sl .own 2 (s2.map aK)] [.sl .own 2 (s2.map aK)]] (.gV []):=by
 have c1:=xE s1 a (by omega)
 simp only [aK] at c1
 rw [hn] at c1
 refine oI aAc func227 ntmps227 ?_
 have W:=trivial
 repeat' first|refine we ?_|(refine sq ?_ ?_<;>intro hc<;>try exact hc.elim)|fail
 all_goals try(refine ⟨by first|exact .inr rfl|exact .inl rfl,?_⟩;simp [eZ,cZ,bZ,rowOf,results227])
theorem Qf [aD prog] [eO prog] (p:aP) (U:List aT) (hb:jk p U) (n:Nat) (a:aT) (ha:a∈U) (s1 s2:List aT) (hn:s1.any (gL a)=false) (hs:Seen U (s1,s2)) (hf:nW p s1 < n+1)
  (ih:∀(b:aT) (q1 q2:List aT),nW p q1 < n->Seen U (q1,q2)->b∈U->IJ prog 227 [.view (.agg (aM .view p)),.view (.agg (aK b)),.pX [.sl .own 2 (q1.map aK)] [.sl .own 2 ((eU p n b q1 q2).1.map aK)],.pX [.sl .own 2 (q2.map aK)] [.sl .own 2 ((eU p n b q1 q2).2.map aK)]] (.gV [])):
  IJ prog 227 [.view (.agg (aM .view p)),.view (.agg (aK a)),.pX [.sl .own 2 (s1.map aK)] [.sl .own 2 ((eU p (n+1) a s1 s2).1.map aK)],.pX [.sl .own 2 (s2.map aK)] [.sl .own 2 ((eU p (n+1) a s1 s2).2.map aK)]] (.gV []):=by
 have hps:=hb.hs
 have hl:=hs.len
 have hU:=hb.len
 simp only [aL,bP] at hps
 simp only at hl
 have c1:=xE s1 a (by omega)
 have c2:=yE p a (by omega)
 rw [hn] at c1
 have hna:a∉s1:=fun h=>by rw [uS.2 h] at hn;cases hn
 obtain ⟨t1,ht1⟩:∃l:List aT,l=s1++[a]:=⟨_,rfl⟩
 have e1:s1.map aK++[[.str a.host,.str a.path]]=t1.map aK:=by simp [ht1]
 have hl1:(s1.map aK).length=s1.length:=by simp
 have hv:eU p (n+1) a s1 s2=((dG p n (lC p a) (s1++[a],s2)).1,(dG p n (lC p a) (s1++[a],s2)).2++[a]):=by
  simp only [eU,hn,dG];rfl
 rw [hv]
 clear hv
 rw [<-ht1]
 rcases zK (pF a) p.aX with ⟨hi,hf⟩|⟨k,hk,hi,hf⟩
 ·have hL:lC p a=[]:=by unfold lC;rw [hf]
  have hl2:(s2.map aK).length=s2.length:=by simp
  rw [hL]
  rw [hi] at c2
  simp only [aK,aM] at c1 c2
  obtain ⟨t2,ht2⟩:∃l:List aT,l=s2++[a]:=⟨_,rfl⟩
  have e2:s2.map aK++[[.str a.host,.str a.path]]=t2.map aK:=by simp [ht2]
  simp only [dG,foldl_nil]
  rw [<-ht2]
  clear ht2 ht1
  refine oI aAc func227 ntmps227 ?_
  have W:=aA e1 (aA e2 (aA hl1 hl2))
  repeat' first|refine we ?_|(refine sq ?_ ?_<;>intro hc<;>try exact hc.elim)|fail
  all_goals try(refine ⟨by first|exact .inr rfl|exact .inl rfl,?_⟩;simp [eZ,cZ,bZ,rowOf,results227,dG])
 ·have hm:=getElem_mem hk
  have hz:=bU bE hm
  have hpm:=hb.ps _ hm
  have ae:(p.aX[k]).to=a:=by
   have:=find?_some hf
   simpa [pF] using this
  have hha:=hb.host _ ha
  rw [hi] at c2
  have hg:=getElem?_eq_getElem hk
  have hL:lC p a=if p.aX[k].done=true/\p.aX[k].code=1 then (bA p.aX[k].body a.host).1 else []:=by unfold lC;rw [hf]
  simp only [bE,aV] at hz
  have cp:=sZ p.aX[k].body a.host (by omega) hha
  rw [ae] at hpm
  simp only [aK,aM] at c1 c2
  by_cases hd:p.aX[k].done=true/\p.aX[k].code=1
  ·rw [if_pos hd] at hL
   rw [<-hL] at cp hpm
   obtain ⟨hd1,hd2⟩:=hd
   refine oI aAc func227 ntmps227 ?_
   have W:=aA e1 (aA hl1 (aA hg (aA hk (aA hd1 hd2))))
   repeat' first|refine we ?_|(refine sq ?_ ?_<;>intro hc<;>try exact hc.elim)|fail
   have hst:Seen U (t1,s2):=by
    subst ht1
    exact ⟨nodup_append.2 ⟨hs.nd,by simp,fun x hx y hy e=>hna (by simp at hy;subst hy;subst e;exact hx)⟩,fun x hx=>by
     rcases mem_append.1 hx with h|h
     ·exact hs.sub x h
     ·simp at h;subst h;exact ha,hs.ond,fun x hx=>mem_append_left _ (hs.Wm x hx)⟩
   have hun:nW p t1 < n:=by
    have:=RA (p:=p) (s:=s1) (a:=a) (by rw [hn];simp) ⟨_,hm,ae⟩
    rw [<-ht1] at this
    omega
   have hLU:∀b∈lC p a,b∈U:=fun b h=>hb.im b (FT p a b h)
   clear hL ht1
   generalize lC p a=L at *
   refine aJ (ι:={k:Nat×Nat // k.1<=L.length/\1<=k.2}) (fun t o i=>⟨aZ t [(64,.int .i64 i.1.1),(13,.undef),(16,.undef),(22,.undef),(25,.undef)],[⟨true,true,1,2,[[.obj 1 i.1.2]]⟩,⟨true,false,2,i.1.2,(dG p n (L.take i.1.1) (t1,s2)).1.map aK⟩,⟨true,true,1,2,[[.obj 3 1]]⟩,⟨true,false,2,1,(dG p n (L.take i.1.1) (t1,s2)).2.map aK⟩]++o.drop 4⟩)
    (fun i=>L.length - i.1.1) ⟨(0,2),by simp,by simp⟩ (aI (by simp [dG]) (by simp)) ?_
   rintro ⟨⟨k,v⟩,hk,hv⟩ K1 hK1
   simp only [aZ,set_cons_succ,set_cons_zero,drop_succ_cons,drop_zero,cons_append,nil_append] at hk hv hK1⊢
   have hk1:i64.wrap ((k:Int)+1)=((k+1:Nat):Int):=by rw [wrap64]<;>omega
   by_cases hlt:k < L.length
   ·have hg2:=getElem?_eq_getElem hlt
    obtain ⟨f1,f2⟩:=zL hb.im n (L.take k) (t1,s2) (fun b h=>hLU b (mem_of_mem_take h)) hst
    have f3:=KD (p:=p) f2
    have c3:=ih L[k] (dG p n (L.take k) (t1,s2)).1 (dG p n (L.take k) (t1,s2)).2 (by simp only at f3;omega) f1 (hLU _ (getElem_mem hlt))
    have hnext:dG p n (L.take (k+1)) (t1,s2)=eU p n L[k] (dG p n (L.take k) (t1,s2)).1 (dG p n (L.take k) (t1,s2)).2:=by
     rw [take_succ_eq_append_getElem hlt,DC]
    generalize dG p n (L.take k) (t1,s2)=q at *
    obtain ⟨q1,q2⟩:=q
    simp only at c3 hnext⊢
    generalize eU p n L[k] q1 q2=w at *
    obtain ⟨w1,w2⟩:=w
    simp only [aK,aM] at c3
    have W:=aA hk1 (aA hg2 hlt)
    repeat' first|refine we ?_|(refine nx ?_;refine sg (hc:=c3) (h:=?_))|(refine sq ?_ ?_<;>intro hc<;>try exact hc.elim)|fail
    refine hK1 _ ⟨(k+1,1),by simp only;omega,by simp⟩ ?_ (by simp only;omega)
    simp only [hnext]
    exact YQ rfl rfl (by simp) (by simp) (by simp) (by simp) (by simp) (by simp [dL,fM,closed])
   ·have htk:L.take k=L:=take_of_length_le (by omega)
    rw [htk]
    have f1:=(zL hb.im n L (t1,s2) hLU hst).1.len
    generalize dG p n L (t1,s2)=q at *
    obtain ⟨q1,q2⟩:=q
    simp only at f1
    have hl2:(q2.map aK).length=q2.length:=by simp
    obtain ⟨t2,ht2⟩:∃l:List aT,l=q2++[a]:=⟨_,rfl⟩
    have e2:q2.map aK++[[.str a.host,.str a.path]]=t2.map aK:=by simp [ht2]
    simp only
    rw [<-ht2]
    clear ht2
    have W:=aA hk1 (aA e2 hl2)
    repeat' first|refine we ?_|(refine sq ?_ ?_<;>intro hc<;>try exact hc.elim)|fail
    all_goals try(refine ⟨by first|exact .inr rfl|exact .inl rfl,?_⟩;simp [eZ,cZ,bZ,rowOf,results227])
  ·rw [if_neg hd] at hL
   have hl2:(s2.map aK).length=s2.length:=by simp
   rw [hL]
   obtain ⟨t2,ht2⟩:∃l:List aT,l=s2++[a]:=⟨_,rfl⟩
   have e2:s2.map aK++[[.str a.host,.str a.path]]=t2.map aK:=by simp [ht2]
   simp only [dG,foldl_nil]
   rw [<-ht2]
   clear ht2 ht1
   cases hd1:p.aX[k].done
   ·refine oI aAc func227 ntmps227 ?_
    have W:=aA e1 (aA e2 (aA hl1 (aA hl2 (aA hg (aA hk hd1)))))
    repeat' first|refine we ?_|(refine sq ?_ ?_<;>intro hc<;>try exact hc.elim)|fail
    all_goals try(refine ⟨by first|exact .inr rfl|exact .inl rfl,?_⟩;simp [eZ,cZ,bZ,rowOf,results227])
   ·have hd2:¬p.aX[k].code=1:=fun h=>hd ⟨hd1,h⟩
    refine oI aAc func227 ntmps227 ?_
    have W:=aA e1 (aA e2 (aA hl1 (aA hl2 (aA hg (aA hk (aA hd1 hd2))))))
    repeat' first|refine we ?_|(refine sq ?_ ?_<;>intro hc<;>try exact hc.elim)|fail
    all_goals try(refine ⟨by first|exact .inr rfl|exact .inl rfl,?_⟩;simp [eZ,cZ,bZ,rowOf,results227])
theorem HV [aD prog] [eO prog] (p:aP) (U:List aT) (hb:jk p U):∀(n:Nat) (a:aT) (s1 s2:List aT),nW p s1 < n->Seen U (s1,s2)->a∈U->IJ prog 227 [.view (.agg (aM .view p)),.view (.agg (aK a)),.pX [.sl .own 2 (s1.map aK)] [.sl .own 2 ((eU p n a s1 s2).1.map aK)],.pX [.sl .own 2 (s2.map aK)] [.sl .own 2 ((eU p n a s1 s2).2.map aK)]] (.gV [])
 |0,_,_,_,h,_,_=>absurd h (by omega)
 |n+1,a,s1,s2,h,hs,ha=>by
  have hl:=hs.len
  have hU:=hb.len
  simp only at hl
  cases hn:s1.any (gL a)
  ·exact Qf p U hb n a ha s1 s2 hn hs h (fun b q1 q2 h1 h2 h3=>HV p U hb n b q1 q2 h1 h2 h3)
  ·have:eU p (n+1) a s1 s2=(s1,s2):=by simp [eU,hn]
   rw [this]
   exact Oi p U hb a s1 s2 hn (by omega)
def dH (p:aP) (a:aT):List aT:=(eU p (nW p []+1) a [] []).2
theorem zM [aD prog] [eO prog] (p:aP) (U:List aT) (hb:jk p U) (a:aT) (ha:a∈U):Ok prog 167 [.agg (aM .view p),.agg (aK a)] (.sl .own 2 ((dH p a).map aK)):=by
 have c1:=HV p U hb (nW p []+1) a [] [] (by omega) ⟨by simp,by simp,by simp,by simp⟩ ha
 unfold dH
 generalize eU p (nW p []+1) a [] []=w at *
 obtain ⟨w1,w2⟩:=w
 simp only [aK,aM,map_nil] at c1
 refine bR aAc func167 ntmps167 ?_
 have W:=trivial
 repeat' first|refine we ?_|(refine nx ?_;refine sg (hc:=c1) (h:=?_))|(refine sq ?_ ?_<;>intro hc<;>try exact hc.elim)|fail
 all_goals try(refine ⟨.inr rfl,?_⟩;simp [aB,results167])
end Go.Proofs.YtlnblmmohpcceaaGreatDoor
