/- Proved here: steps towards the statement of this claim. No condition. -/
import Derived.Test.YtlnblmmohpcceaaGreatDoorZQS1
import Derived.Test.YtlnblmmohpcceaaGreatDoorZQU5
set_option linter.all false
set_option maxRecDepth 4000
set_option maxHeartbeats 4000000
namespace Go.Proofs.YtlnblmmohpcceaaGreatDoor
open Go.Aw Proofs.Tryz List IntKind
theorem GU [aD prog] [eO prog] [fV prog] (s:bC) (hl:s.length<=1073741824):Ok prog 213 [.str s] (.agg (dI .own (rC s))):=by
 have cS:Ok prog 136 [.str s,.int .u8 59] (.sl .own 1 ((eF 59 s).map fF)):=vK s 59 (by omega)
 have hsm:=yK 59 s
 have hsl:=iV 59 s
 have hcn:s.count 59<=s.length:=count_le_length
 unfold rC
 generalize eF 59 s=l at *
 have Lx:l.length<=1073741825:=by omega
 simp only [dI]
 refine bR aAc func213 ntmps213 ?_
 have W:=trivial
 repeat' first|refine we ?_|(refine sq ?_ ?_<;>intro hc<;>try exact hc.elim)|fail
 refine aJ (ι:={q:Nat×Nat×List Cm // (q.1<=l.length/\1<=q.2.1)/\q.2.2=jZ (l.take q.1)}) (fun t o i=>⟨aZ t [(5,.int .i64 i.1.1),(9,.undef)],o.take 1++[⟨true,true,1,0,[[.obj 3 i.1.2.1]]⟩,⟨true,false,1,1,l.map fF⟩,⟨true,false,2,i.1.2.1,i.1.2.2.map wI⟩]⟩)
  (fun i=>l.length - i.1.1) ⟨(0,1,[]),by simp,by simp [jZ]⟩ (qX 1 0 0 (ob:=⟨true,true,1,0,[[.sl .own 2 []]]⟩) (by rfl) (by rfl) (by rfl) (by simp) (by rfl) (by rfl) (by simp) (by simp [wT,rt,gM])) ?_
 rintro ⟨⟨k,v,acc⟩,⟨hk,hv⟩,sV⟩ K1 hK1
 simp only at hk hv sV
 simp only [aZ,set_cons_succ,set_cons_zero,take_succ_cons,take_zero,cons_append,nil_append] at hK1⊢
 have hk1:i64.wrap ((k:Int)+1)=((k+1:Nat):Int):=by rw [wrap64]<;>omega
 have Lt:(acc.map wI).length=acc.length:=by simp
 by_cases hlt:k < l.length
 ·have hg:=getElem?_eq_getElem hlt
  by_cases h8:acc.length < 8
  ·have M4:((acc.length:Int) < 8):=by omega
   have ma:=dV gT l k hlt
   simp only [gT] at ma
   have cC:Ok prog 136 [.str l[k],.int .u8 58] (.sl .own 1 ((eF 58 l[k]).map fF)):=vK l[k] 58 (by omega)
   have cN:=eP (Jj l[k]) (by simp [Jj];omega)
   have cP:=KM (Bg l[k]) (by simp [Bg];omega)
   have n1:= @NH l k hlt
   have n2:=fun r=> @NI l k r hlt
   have r1:= @Ef l[k]
   have r2:= @Ko l[k]
   have r3:=fun v=> @NF l[k] v
   have r4:=fun v=> @NG l[k] v
   have h2:=aHd l[k]
   have Ti:=iV 58 l[k]
   have hcg:l[k].count 58<=l[k].length:=count_le_length
   rw [<-sV] at n1 n2
   generalize LA:jZ (l.take (k+1))=NK at *
   generalize hrl:rA l[k]=ru at *
   generalize Jj l[k]=ky at *
   generalize Bg l[k]=vl at *
   generalize eF 58 l[k]=ps at *
   rcases h2 with h2|⟨h2,hr⟩
   ·subst h2
    simp only [map_cons,map_nil,fF] at cC
    cases hn:dJ ky with
    |false=>
     rw [hn] at cN
     have e2:=n1 (r2 hn)
     clear r1 r2 r3 r4 n1 n2
     have W:=aA hk1 (aA hg (aA hlt M4))
     repeat' first|refine we ?_|(refine sq ?_ ?_<;>intro hc<;>try exact hc.elim)|fail
     exact hK1 _ ⟨(k+1,v,acc),⟨by simp only;omega,hv⟩,(by simp only;rw [LA];exact e2.symm)⟩ (aS 4 (by simp) (by simp) (by simp) (by simp)) (by simp only;omega)
    |true=>
     rw [hn] at cN
     cases hp:xB vl with
     |none=>
      rw [qY hp] at cP
      have e2:=n1 (r1 hp)
      clear r1 r2 r3 r4 n1 n2
      have W:=aA hk1 (aA hg (aA hlt M4))
      repeat' first|refine we ?_|(refine sq ?_ ?_<;>intro hc<;>try exact hc.elim)|fail
      exact hK1 _ ⟨(k+1,v,acc),⟨by simp only;omega,hv⟩,(by simp only;rw [LA];exact e2.symm)⟩ (aS 4 (by simp) (by simp) (by simp) (by simp)) (by simp only;omega)
     |some x=>
      rw [BQ hp] at cP
      have cR:=iA x 1 999
      by_cases hx:1<=x/\x<=999
      ·have hb:(decide ((1:Int)<=x)&&decide (x<=(999:Int)))=true:=by simp;omega
       rw [hb] at cR
       have e2:=n2 _ (r4 x hp hn hx) h8
       clear r1 r2 r3 r4 n1 n2
       have hps:NK.map wI=acc.map wI++[wI ⟨ky,x⟩]:=by rw [e2];simp
       have W:=aA hk1 (aA hg (aA hlt (aA M4 Lt)))
       repeat' first|refine we ?_|(refine sq ?_ ?_<;>intro hc<;>try exact hc.elim)|fail
       all_goals exact hK1 _ ⟨(k+1,v+1,NK),⟨by simp only;omega,by simp only;omega⟩,(by simp only;exact LA.symm)⟩ (aS 4 (by simp [hps]) (by simp) (by simp) (by simp)) (by simp only;omega)
      ·have hb:(decide ((1:Int)<=x)&&decide (x<=(999:Int)))=false:=by simp only [Bool.and_eq_false_iff,decide_eq_false_iff_not];omega
       rw [hb] at cR
       have e2:=n1 (r3 x hp hx)
       clear r1 r2 r3 r4 n1 n2
       have W:=aA hk1 (aA hg (aA hlt M4))
       repeat' first|refine we ?_|(refine sq ?_ ?_<;>intro hc<;>try exact hc.elim)|fail
       exact hK1 _ ⟨(k+1,v,acc),⟨by simp only;omega,hv⟩,(by simp only;rw [LA];exact e2.symm)⟩ (aS 4 (by simp) (by simp) (by simp) (by simp)) (by simp only;omega)
   ·have e2:=n1 hr
    have h2i:¬((ps.length:Int)=2):=by omega
    clear r1 r2 r3 r4 n1 n2 cN cP
    have W:=aA hk1 (aA hg (aA hlt (aA M4 h2i)))
    repeat' first|refine we ?_|(refine sq ?_ ?_<;>intro hc<;>try exact hc.elim)|fail
    exact hK1 _ ⟨(k+1,v,acc),⟨by simp only;omega,hv⟩,(by simp only;rw [LA];exact e2.symm)⟩ (aS 4 (by simp) (by simp) (by simp) (by simp)) (by simp only;omega)
  ·have M4:¬((acc.length:Int) < 8):=by omega
   have hf:=NJ (l:=l) (k:=k) (by rw [<-sV];exact h8)
   rw [<-sV] at hf
   rw [hf]
   have W:=aA hk1 (aA hg (aA hlt (aA M4 Lt)))
   repeat' first|refine we ?_|(refine sq ?_ ?_<;>intro hc<;>try exact hc.elim)|fail
   all_goals try(refine ⟨.inr rfl,?_⟩;simp [aB,results213])
 ·have htk:l.take k=l:=take_of_length_le (by omega)
  rw [htk] at sV
  subst sV
  have W:=hk1
  repeat' first|refine we ?_|(refine sq ?_ ?_<;>intro hc<;>try exact hc.elim)|fail
  all_goals try(refine ⟨.inr rfl,?_⟩;simp [aB,results213])
def GV (x:lF):Bool:=decide (x.mode=2)&&x.done&&decide (x.code=1)
def lQ (l:List lF):List fE:=(l.filter GV).map fun x=>rC x.body
def bY (p:aP):List fE:=lQ p.aF
theorem NL {l:List lF} {k:Nat} (h:k < l.length) (ho:GV l[k]=true):lQ (l.take (k+1))=lQ (l.take k)++[rC l[k].body]:=by
 unfold lQ
 rw [take_succ_eq_append_getElem h,filter_append,map_append]
 simp [ho]
theorem Rn {l:List lF} {k:Nat} (h:k < l.length) (ho:GV l[k]=false):lQ (l.take (k+1))=lQ (l.take k):=by
 unfold lQ
 rw [take_succ_eq_append_getElem h,filter_append]
 simp [ho]
theorem BU (l:List lF):(lQ l).length<=l.length:=by
 unfold lQ;rw [length_map];exact length_filter_le _ _
theorem KP [aD prog] [eO prog] [fV prog] [qF prog] (p:aP) (hs:bP gZ p.aF<=1073741824):Ok prog 225 [.agg (aM .view p)] (.sl .own 1 ((bY p).map (dI .own))):=by
 simp only [bP] at hs
 unfold bY
 simp only [aM]
 generalize p.aF=l at *
 refine bR aAc func225 ntmps225 ?_
 have W:=trivial
 repeat' first|refine wl ?_|(refine sq ?_ ?_<;>intro hc<;>try exact hc.elim)|fail
 refine aJ (ι:={q:Nat×Nat×List fE // (q.1<=l.length/\1<=q.2.1)/\q.2.2=lQ (l.take q.1)}) (fun t o i=>⟨aZ t [(10,.int .i64 i.1.1),(3,.obj 1 i.1.2.1)],o.take 1++[⟨true,false,1,i.1.2.1,i.1.2.2.map (dI .own)⟩]⟩)
  (fun i=>l.length - i.1.1) ⟨(0,1,[]),by simp,by simp [lQ]⟩ (aI (by simp) (by simp)) ?_
 rintro ⟨⟨k,v,acc⟩,⟨hk,hv⟩,sV⟩ K1 hK1
 simp only at hk hv sV
 simp only [aZ,set_cons_succ,set_cons_zero,take_succ_cons,take_zero,cons_append,nil_append] at hK1⊢
 have hk1:i64.wrap ((k:Int)+1)=((k+1:Nat):Int):=by rw [wrap64]<;>omega
 by_cases hlt:k < l.length
 ·have hg:=getElem?_eq_getElem hlt
  have ma:=dV gZ l k hlt
  simp only [gZ] at ma
  have cP:=GR l[k].body (by omega)
  have n1:= @Rn l k hlt
  have n2:= @NL l k hlt
  have M9:acc.length<=k:=by rw [sV];have:=BU (l.take k);rw [length_take] at this;omega
  have Lt:(acc.map (dI .own)).length=acc.length:=by simp
  rw [<-sV] at n1 n2
  generalize LA:lQ (l.take (k+1))=NK at *
  generalize rC l[k].body=sh at *
  unfold GV at n1 n2
  by_cases h1:l[k].mode=2
  ·cases h2:l[k].done
   ·have e2:=n1 (by simp [h2])
    have W:=aA hk1 (aA hg (aA hlt (aA h1 h2)))
    repeat' first|refine wl ?_|(refine sq ?_ ?_<;>intro hc<;>try exact hc.elim)|fail
    all_goals exact hK1 _ ⟨(k+1,v,acc),⟨by simp only;omega,hv⟩,(by simp only;rw [LA];exact e2.symm)⟩ (aS 2 (by simp) (by simp) (by simp) (by simp)) (by simp only;omega)
   ·by_cases h3:l[k].code=1
    ·have e2:=n2 (by simp [h1,h2,h3])
     have hps:NK.map (dI .own)=acc.map (dI .own)++[dI .own sh]:=by rw [e2];simp
     simp only [dI] at cP
     clear n1 n2
     generalize acc.map (dI .own)=g at *
     have W:=aA hk1 (aA hg (aA hlt (aA h1 (aA h2 (aA h3 Lt)))))
     repeat' first|refine wl ?_|(refine sq ?_ ?_<;>intro hc<;>try exact hc.elim)|fail
     all_goals exact hK1 _ ⟨(k+1,v+1,NK),⟨by simp only;omega,by simp only;omega⟩,(by simp only;exact LA.symm)⟩ (aS 2 (by simp [hps]) (by simp) (by simp) (by simp)) (by simp only;omega)
    ·have e2:=n1 (by simp [h3])
     have W:=aA hk1 (aA hg (aA hlt (aA h1 (aA h2 h3))))
     repeat' first|refine wl ?_|(refine sq ?_ ?_<;>intro hc<;>try exact hc.elim)|fail
     all_goals exact hK1 _ ⟨(k+1,v,acc),⟨by simp only;omega,hv⟩,(by simp only;rw [LA];exact e2.symm)⟩ (aS 2 (by simp) (by simp) (by simp) (by simp)) (by simp only;omega)
  ·have e2:=n1 (by simp [h1])
   have W:=aA hk1 (aA hg (aA hlt h1))
   repeat' first|refine wl ?_|(refine sq ?_ ?_<;>intro hc<;>try exact hc.elim)|fail
   all_goals exact hK1 _ ⟨(k+1,v,acc),⟨by simp only;omega,hv⟩,(by simp only;rw [LA];exact e2.symm)⟩ (aS 2 (by simp) (by simp) (by simp) (by simp)) (by simp only;omega)
 ·have htk:l.take k=l:=take_of_length_le (by omega)
  rw [htk] at sV
  subst sV
  have W:=hk1
  repeat' first|refine wl ?_|(refine sq ?_ ?_<;>intro hc<;>try exact hc.elim)|fail
  all_goals try(refine ⟨.inr rfl,?_⟩;simp [aB,results225])
theorem Ct [aD prog] [eO prog] [fV prog] (p:aP) (hs:bP gZ p.aF<=1073741824):Ok prog 152 [.agg (aM .view p)] (.sl .own 1 ((bY p).map (dI .own))):=by
 simp only [bP] at hs
 unfold bY
 simp only [aM]
 generalize p.aF=l at *
 refine bR aAc func152 ntmps152 ?_
 have W:=trivial
 repeat' first|refine wl ?_|(refine sq ?_ ?_<;>intro hc<;>try exact hc.elim)|fail
 refine aJ (ι:={q:Nat×Nat×List fE // (q.1<=l.length/\1<=q.2.1)/\q.2.2=lQ (l.take q.1)}) (fun t o i=>⟨aZ t [(4,.int .i64 i.1.1),(3,.obj 1 i.1.2.1)],o.take 1++[⟨true,false,1,i.1.2.1,i.1.2.2.map (dI .own)⟩]⟩)
  (fun i=>l.length - i.1.1) ⟨(0,1,[]),by simp,by simp [lQ]⟩ (aI (by simp) (by simp)) ?_
 rintro ⟨⟨k,v,acc⟩,⟨hk,hv⟩,sV⟩ K1 hK1
 simp only at hk hv sV
 simp only [aZ,set_cons_succ,set_cons_zero,take_succ_cons,take_zero,cons_append,nil_append] at hK1⊢
 have hk1:i64.wrap ((k:Int)+1)=((k+1:Nat):Int):=by rw [wrap64]<;>omega
 by_cases hlt:k < l.length
 ·have hg:=getElem?_eq_getElem hlt
  have ma:=dV gZ l k hlt
  simp only [gZ] at ma
  have cP:=GU l[k].body (by omega)
  have n1:= @Rn l k hlt
  have n2:= @NL l k hlt
  have M9:acc.length<=k:=by rw [sV];have:=BU (l.take k);rw [length_take] at this;omega
  have Lt:(acc.map (dI .own)).length=acc.length:=by simp
  rw [<-sV] at n1 n2
  generalize LA:lQ (l.take (k+1))=NK at *
  generalize rC l[k].body=sh at *
  unfold GV at n1 n2
  by_cases h1:l[k].mode=2
  ·cases h2:l[k].done
   ·have e2:=n1 (by simp [h2])
    have W:=aA hk1 (aA hg (aA hlt (aA h1 h2)))
    repeat' first|refine wl ?_|(refine sq ?_ ?_<;>intro hc<;>try exact hc.elim)|fail
    all_goals exact hK1 _ ⟨(k+1,v,acc),⟨by simp only;omega,hv⟩,(by simp only;rw [LA];exact e2.symm)⟩ (aS 2 (by simp) (by simp) (by simp) (by simp)) (by simp only;omega)
   ·by_cases h3:l[k].code=1
    ·have e2:=n2 (by simp [h1,h2,h3])
     have hps:NK.map (dI .own)=acc.map (dI .own)++[dI .own sh]:=by rw [e2];simp
     simp only [dI] at cP
     clear n1 n2
     generalize acc.map (dI .own)=g at *
     have W:=aA hk1 (aA hg (aA hlt (aA h1 (aA h2 (aA h3 Lt)))))
     repeat' first|refine wl ?_|(refine sq ?_ ?_<;>intro hc<;>try exact hc.elim)|fail
     all_goals exact hK1 _ ⟨(k+1,v+1,NK),⟨by simp only;omega,by simp only;omega⟩,(by simp only;exact LA.symm)⟩ (aS 2 (by simp [hps]) (by simp) (by simp) (by simp)) (by simp only;omega)
    ·have e2:=n1 (by simp [h3])
     have W:=aA hk1 (aA hg (aA hlt (aA h1 (aA h2 h3))))
     repeat' first|refine wl ?_|(refine sq ?_ ?_<;>intro hc<;>try exact hc.elim)|fail
     all_goals exact hK1 _ ⟨(k+1,v,acc),⟨by simp only;omega,hv⟩,(by simp only;rw [LA];exact e2.symm)⟩ (aS 2 (by simp) (by simp) (by simp) (by simp)) (by simp only;omega)
  ·have e2:=n1 (by simp [h1])
   have W:=aA hk1 (aA hg (aA hlt h1))
   repeat' first|refine wl ?_|(refine sq ?_ ?_<;>intro hc<;>try exact hc.elim)|fail
   all_goals exact hK1 _ ⟨(k+1,v,acc),⟨by simp only;omega,hv⟩,(by simp only;rw [LA];exact e2.symm)⟩ (aS 2 (by simp) (by simp) (by simp) (by simp)) (by simp only;omega)
 ·have htk:l.take k=l:=take_of_length_le (by omega)
  rw [htk] at sV
  subst sV
  have W:=hk1
  repeat' first|refine wl ?_|(refine sq ?_ ?_<;>intro hc<;>try exact hc.elim)|fail
  all_goals try(refine ⟨.inr rfl,?_⟩;simp [aB,results152])
def look {α:Type} (f:α->Option Int) (l:List α) (k:Nat):Option Int:=((l.take k).reverse).findSome? f
theorem Eg {α:Type} (f:α->Option Int) {l:List α} {k:Nat} (h:k < l.length):look f l (k+1)=match f l[k] with|some x=>some x|none=>look f l k:=by
 unfold look
 rw [take_succ_eq_append_getElem h,reverse_append]
 simp only [reverse_cons,reverse_nil,nil_append,singleton_append,findSome?_cons]
 cases f l[k]<;>rfl
theorem Eh {α:Type} (f:α->Option Int) (l:List α):look f l 0=none:=rfl
def EG (n:bC) (r:Cm):Option Int:=if r.name=n then some r.color else none
def vL (n:bC) (s:fE):Option Int:=look (EG n) s.rules s.rules.length
def aY (ss:List fE) (n:bC):Int:=(look (vL n) ss ss.length).getD 0
theorem oK [aD prog] (ss:List fE) (n:bC) (hl:ss.length<=1099511627776) (hr:∀x∈ss,x.rules.length<=1099511627776):Ok prog 292 [.sl .view 1 (ss.map (dI .view)),.str n] (.int .i64 (aY ss n)):=by
 unfold aY
 refine bR aAc func292 ntmps292 ?_
 have W:=trivial
 repeat' first|refine wl ?_|(refine sq ?_ ?_<;>intro hc<;>try exact hc.elim)|fail
 refine aJ (ι:={k:Nat // k<=ss.length/\look (vL n) ss ss.length=look (vL n) ss k}) (fun t o i=>⟨aZ t [(5,.int .i64 ((i.1:Int) - 1))],o⟩)
  (fun i=>i.1) ⟨ss.length,by simp,rfl⟩ (aI (by simp) (by simp)) ?_
 rintro ⟨k,hk,hi⟩ K1 hK1
 simp only [aZ,set_cons_succ,set_cons_zero] at hK1 hi hk⊢
 cases k with
 |zero=>
  rw [hi,Eh]
  have W:=trivial
  repeat' first|refine wl ?_|(refine sq ?_ ?_<;>intro hc<;>try exact hc.elim)|fail
  all_goals try(refine ⟨.inr rfl,?_⟩;simp [aB,results292])
 |succ k=>
  have hlt:k < ss.length:=by omega
  have hk0:(((k+1:Nat):Int) - 1)=(k:Int):=by omega
  have hg:=getElem?_eq_getElem hlt
  have hk1:i64.wrap ((k:Int) - 1)=(k:Int) - 1:=by rw [wrap64]<;>omega
  have hrl:=hr _ (getElem_mem hlt)
  have mf:=Eg (vL n) hlt
  have hsc:vL n ss[k]=look (EG n) ss[k].rules ss[k].rules.length:=rfl
  have hw6:i64.wrap ((ss[k].rules.length:Int) - 1)=(ss[k].rules.length:Int) - 1:=by rw [wrap64]<;>omega
  rw [hk0]
  have W:=aA hlt (aA hg hw6)
  repeat' first|refine wl ?_|(refine sq ?_ ?_<;>intro hc<;>try exact hc.elim)|fail
  refine aJ (ι:={m:Nat // m<=ss[k].rules.length/\vL n ss[k]=look (EG n) ss[k].rules m}) (fun t o i=>⟨aZ t [(6,.int .i64 ((i.1:Int) - 1))],o⟩)
   (fun i=>i.1) ⟨ss[k].rules.length,by simp,rfl⟩ (aI (by simp) (by simp)) ?_
  rintro ⟨m,hm,hj⟩ K2 hK2
  simp only [aZ,set_cons_succ,set_cons_zero] at hK2 hm hj⊢
  cases m with
  |zero=>
   rw [hj,Eh] at mf
   simp only at mf
   have W:=hk1
   repeat' first|refine wl ?_|(refine sq ?_ ?_<;>intro hc<;>try exact hc.elim)|fail
   exact hK1 _ ⟨k,by omega,by rw [hi,mf]⟩ (aI (by simp) (by simp)) (by simp only;omega)
  |succ m=>
   have Qu:m < ss[k].rules.length:=by omega
   have VK:(((m+1:Nat):Int) - 1)=(m:Int):=by omega
   have hgm:=getElem?_eq_getElem Qu
   have Zh:i64.wrap ((m:Int) - 1)=(m:Int) - 1:=by rw [wrap64]<;>omega
   have mg:=Eg (EG n) Qu
   have rW:EG n ss[k].rules[m]=if ss[k].rules[m].name=n then some ss[k].rules[m].color else none:=rfl
   rw [VK]
   by_cases hn:ss[k].rules[m].name=n
   ·rw [if_pos hn] at rW
    rw [rW] at mg
    simp only at mg
    rw [hj,mg] at mf
    simp only at mf
    rw [hi,mf]
    have W:=aA hlt (aA hg (aA Qu (aA hgm hn)))
    repeat' first|refine wl ?_|(refine sq ?_ ?_<;>intro hc<;>try exact hc.elim)|fail
    all_goals try(refine ⟨.inr rfl,?_⟩;simp [aB,results292])
   ·rw [if_neg hn] at rW
    rw [rW] at mg
    simp only at mg
    have W:=aA hlt (aA hg (aA Qu (aA hgm (aA hn Zh))))
    repeat' first|refine wl ?_|(refine sq ?_ ?_<;>intro hc<;>try exact hc.elim)|fail
    ·exact absurd hc hn
    ·exact hK2 _ ⟨m,by omega,by rw [hj,mg]⟩ (aI (by simp) (by simp)) (by simp only;omega)
theorem oL [aD prog] (ss:List fE) (n:bC) (hl:ss.length<=1099511627776) (hr:∀x∈ss,x.rules.length<=1099511627776):Ok prog 264 [.sl .view 1 (ss.map (dI .view)),.str n] (.int .i64 (aY ss n)):=by
 unfold aY
 refine bR aAc func264 ntmps264 ?_
 have W:=trivial
 repeat' first|refine wl ?_|(refine sq ?_ ?_<;>intro hc<;>try exact hc.elim)|fail
 refine aJ (ι:={k:Nat // k<=ss.length/\look (vL n) ss ss.length=look (vL n) ss k}) (fun t o i=>⟨aZ t [(5,.int .i64 ((i.1:Int) - 1))],o⟩)
  (fun i=>i.1) ⟨ss.length,by simp,rfl⟩ (aI (by simp) (by simp)) ?_
 rintro ⟨k,hk,hi⟩ K1 hK1
 simp only [aZ,set_cons_succ,set_cons_zero] at hK1 hi hk⊢
 cases k with
 |zero=>
  rw [hi,Eh]
  have W:=trivial
  repeat' first|refine wl ?_|(refine sq ?_ ?_<;>intro hc<;>try exact hc.elim)|fail
  all_goals try(refine ⟨.inr rfl,?_⟩;simp [aB,results264])
 |succ k=>
  have hlt:k < ss.length:=by omega
  have hk0:(((k+1:Nat):Int) - 1)=(k:Int):=by omega
  have hg:=getElem?_eq_getElem hlt
  have hk1:i64.wrap ((k:Int) - 1)=(k:Int) - 1:=by rw [wrap64]<;>omega
  have hrl:=hr _ (getElem_mem hlt)
  have mf:=Eg (vL n) hlt
  have hsc:vL n ss[k]=look (EG n) ss[k].rules ss[k].rules.length:=rfl
  have hw6:i64.wrap ((ss[k].rules.length:Int) - 1)=(ss[k].rules.length:Int) - 1:=by rw [wrap64]<;>omega
  rw [hk0]
  have W:=aA hlt (aA hg hw6)
  repeat' first|refine wl ?_|(refine sq ?_ ?_<;>intro hc<;>try exact hc.elim)|fail
  refine aJ (ι:={m:Nat // m<=ss[k].rules.length/\vL n ss[k]=look (EG n) ss[k].rules m}) (fun t o i=>⟨aZ t [(6,.int .i64 ((i.1:Int) - 1))],o⟩)
   (fun i=>i.1) ⟨ss[k].rules.length,by simp,rfl⟩ (aI (by simp) (by simp)) ?_
  rintro ⟨m,hm,hj⟩ K2 hK2
  simp only [aZ,set_cons_succ,set_cons_zero] at hK2 hm hj⊢
  cases m with
  |zero=>
   rw [hj,Eh] at mf
   simp only at mf
   have W:=hk1
   repeat' first|refine wl ?_|(refine sq ?_ ?_<;>intro hc<;>try exact hc.elim)|fail
   exact hK1 _ ⟨k,by omega,by rw [hi,mf]⟩ (aI (by simp) (by simp)) (by simp only;omega)
  |succ m=>
   have Qu:m < ss[k].rules.length:=by omega
   have VK:(((m+1:Nat):Int) - 1)=(m:Int):=by omega
   have hgm:=getElem?_eq_getElem Qu
   have Zh:i64.wrap ((m:Int) - 1)=(m:Int) - 1:=by rw [wrap64]<;>omega
   have mg:=Eg (EG n) Qu
   have rW:EG n ss[k].rules[m]=if ss[k].rules[m].name=n then some ss[k].rules[m].color else none:=rfl
   rw [VK]
   by_cases hn:ss[k].rules[m].name=n
   ·rw [if_pos hn] at rW
    rw [rW] at mg
    simp only at mg
    rw [hj,mg] at mf
    simp only at mf
    rw [hi,mf]
    have W:=aA hlt (aA hg (aA Qu (aA hgm hn)))
    repeat' first|refine wl ?_|(refine sq ?_ ?_<;>intro hc<;>try exact hc.elim)|fail
    all_goals try(refine ⟨.inr rfl,?_⟩;simp [aB,results264])
   ·rw [if_neg hn] at rW
    rw [rW] at mg
    simp only at mg
    have W:=aA hlt (aA hg (aA Qu (aA hgm (aA hn Zh))))
    repeat' first|refine wl ?_|(refine sq ?_ ?_<;>intro hc<;>try exact hc.elim)|fail
    ·exact absurd hc hn
    ·exact hK2 _ ⟨m,by omega,by rw [hj,mg]⟩ (aI (by simp) (by simp)) (by simp only;omega)
theorem mF [aD prog] (b:aW) (n:bC) (hl:b.nodes.length<=1099511627776):Ok prog 291 [.agg (aN .view b),.str n] (.int .i64 (aR b n)):=by
 refine bR aAc func291 ntmps291 ?_
 have W:=trivial
 repeat' first|refine we ?_|(refine sq ?_ ?_<;>intro hc<;>try exact hc.elim)|fail
 refine aJ (ι:={k:Nat // k<=b.nodes.length}) (fun t o i=>⟨aZ t [(11,.int .i64 i.1),(5,.int .i64 ((((b.nodes.take i.1).filter fun x=>decide (x.name=n)).length:Nat):Int)),(7,.undef)],o.take 1⟩)
  (fun i=>b.nodes.length - i.1) ⟨0,by simp⟩ (aI (by simp) (by simp)) ?_
 rintro ⟨k,hk⟩ K1 hK1
 simp only [aZ,set_cons_succ,set_cons_zero,take_succ_cons,take_zero] at hK1⊢
 have hk1:i64.wrap ((k:Int)+1)=((k+1:Nat):Int):=by rw [wrap64]<;>omega
 have wU:((b.nodes.take k).filter fun x=>decide (x.name=n)).length<=b.nodes.length:=by
  refine Nat.le_trans (length_filter_le _ _) ?_
  simp;omega
 by_cases hlt:k < b.nodes.length
 ·have hg:=getElem?_eq_getElem hlt
  have hst:=Nv b n k hlt
  generalize ((b.nodes.take k).filter fun x=>decide (x.name=n)).length=c at *
  have hc1:i64.wrap ((c:Int)+1)=((c+1:Nat):Int):=by rw [wrap64]<;>omega
  by_cases hn:b.nodes[k].name=n
  ·have hnb:(b.nodes[k].name == n)=true:=by simpa using hn
   rw [if_pos hn] at hst
   have W:=aA hk1 (aA hc1 (aA hg (aA hlt hnb)))
   repeat' first|refine we ?_|(refine sq ?_ ?_<;>intro hc<;>try exact hc.elim)|fail
   all_goals exact hK1 _ ⟨k+1,by omega⟩ (aS 1 (by simp) (by simp [hst]) (by simp) (by simp)) (by simp only;omega)
  ·have hnb:(b.nodes[k].name == n)=false:=by simpa using hn
   rw [if_neg hn] at hst
   have W:=aA hk1 (aA hc1 (aA hg (aA hlt hnb)))
   repeat' first|refine we ?_|(refine sq ?_ ?_<;>intro hc<;>try exact hc.elim)|fail
   all_goals exact hK1 _ ⟨k+1,by omega⟩ (aS 1 (by simp) (by simp [hst]) (by simp) (by simp)) (by simp only;omega)
 ·have htk:b.nodes.take k=b.nodes:=take_of_length_le (by omega)
  rw [htk]
  have W:=hk1
  repeat' first|refine we ?_|(refine sq ?_ ?_<;>intro hc<;>try exact hc.elim)|fail
  all_goals try(refine ⟨.inr rfl,?_⟩;simp [aB,results291,aR])
theorem mG [aD prog] (b:aW) (n:bC) (hl:b.nodes.length<=1099511627776):Ok prog 263 [.agg (aN .view b),.str n] (.int .i64 (aR b n)):=by
 refine bR aAc func263 ntmps263 ?_
 have W:=trivial
 repeat' first|refine we ?_|(refine sq ?_ ?_<;>intro hc<;>try exact hc.elim)|fail
 refine aJ (ι:={k:Nat // k<=b.nodes.length}) (fun t o i=>⟨aZ t [(6,.int .i64 i.1),(5,.int .i64 ((((b.nodes.take i.1).filter fun x=>decide (x.name=n)).length:Nat):Int))],o⟩)
  (fun i=>b.nodes.length - i.1) ⟨0,by simp⟩ (aI (by simp) (by simp)) ?_
 rintro ⟨k,hk⟩ K1 hK1
 simp only [aZ,set_cons_succ,set_cons_zero] at hK1⊢
 have hk1:i64.wrap ((k:Int)+1)=((k+1:Nat):Int):=by rw [wrap64]<;>omega
 by_cases hlt:k < b.nodes.length
 ·have hg:=getElem?_eq_getElem hlt
  have hst:=Nv b n k hlt
  have wU:((b.nodes.take k).filter fun x=>decide (x.name=n)).length<=b.nodes.length:=by
   refine Nat.le_trans (length_filter_le _ _) ?_
   simp;omega
  generalize ((b.nodes.take k).filter fun x=>decide (x.name=n)).length=c at *
  have hc1:i64.wrap ((c:Int)+1)=((c+1:Nat):Int):=by rw [wrap64]<;>omega
  by_cases hn:b.nodes[k].name=n
  ·have hnb:(b.nodes[k].name == n)=true:=by simpa using hn
   rw [if_pos hn] at hst
   have W:=aA hk1 (aA hc1 (aA hg (aA hlt hnb)))
   repeat' first|refine we ?_|(refine sq ?_ ?_<;>intro hc<;>try exact hc.elim)|fail
   all_goals exact hK1 _ ⟨k+1,by omega⟩ (aI (by simp) (by simp [hst])) (by simp only;omega)
  ·have hnb:(b.nodes[k].name == n)=false:=by simpa using hn
   rw [if_neg hn] at hst
   have W:=aA hk1 (aA hc1 (aA hg (aA hlt hnb)))
   repeat' first|refine we ?_|(refine sq ?_ ?_<;>intro hc<;>try exact hc.elim)|fail
   all_goals exact hK1 _ ⟨k+1,by omega⟩ (aI (by simp) (by simp [hst])) (by simp only;omega)
 ·have htk:b.nodes.take k=b.nodes:=take_of_length_le (by omega)
  rw [htk]
  have W:=hk1
  repeat' first|refine we ?_|(refine sq ?_ ?_<;>intro hc<;>try exact hc.elim)|fail
  all_goals try(refine ⟨.inr rfl,?_⟩;simp [aB,results263,aR])
def uK:bC:=[99,111,117,110,116,32]
def Af:bC:=[108,111,111,107,32]
def GX:bC:=[115,97,121,32]
def bM (b:aW) (ss:List fE) (x:iG):aW×bC×bC:=
 if x.op=1 then (b,x.text.map oZ,[])
 else if x.op=2 then (if (1<=b.nodes.length/\b.nodes.length<=39)/\dJ x.text=true then ({b with nodes:=b.nodes++[⟨x.text,[],0,[]⟩]},[],[]) else (b,[],[]))
 else if x.op=3 then (b,[],uK++x.text++[32]++Lib.itoa (aR b x.text))
 else if x.op=4 then (b,[],Af++x.text++[32]++Lib.itoa (aY ss x.text))
 else if x.op=5 then (b,[],GX++x.text)
 else (b,[],[])
theorem O1 [aD prog] [fV prog] (b:aW) (ss:List fE) (x:iG) (hs:aH b<=274877906944) (hx:x.text.length<=268435456) (hl:ss.length<=1099511627776) (hr:∀x∈ss,x.rules.length<=1099511627776) (sN:∀n,0<=aY ss n/\aY ss n<=999) (hop:x.op=1):
  Ok prog 269 [.agg (aN .view b),.sl .view 1 (ss.map (dI .view)),.agg (jL x)] (.gV [.agg (aN .own (bM b ss x).1),.str (bM b ss x).2.1,.str (bM b ss x).2.2]):=by
 have c1:=jB b hs
 have hn:b.nodes.length<=274877906944:=by simp only [aH,bP] at hs;omega
 obtain ⟨op,tx⟩:=x
 simp only at hx hop
 have c2:=nG tx (by omega)
 have c3:=mF b tx (by omega)
 have c4:=oK ss tx hl hr
 have c5:=gJ tx (by omega)
 have c6:=kX (b.nodes.length:Int) 1 39
 have hcn:0<=aR b tx/\aR b tx<=(b.nodes.length:Int):=by
  unfold aR
  have:=length_filter_le (fun x:eY=>decide (x.name=tx)) b.nodes
  omega
 have OZ:=sN tx
 have c7:=eQ (aR b tx) (by omega)
 have c8:=eQ (aY ss tx) (by omega)
 have z7:=gH (aR b tx) (by omega) (by omega)
 have z8:=gH (aY ss tx) (by omega) (by omega)
 simp only [aN] at c1 c3
 clear hr sN
 simp only [bM,uK,Af,GX]
 generalize Lib.itoa (aR b tx)=i7 at *
 generalize Lib.itoa (aY ss tx)=i8 at *
 generalize aR b tx=cn at *
 generalize aY ss tx=cc at *
 subst hop
 rw [if_pos rfl]
 refine bR aAc func269 ntmps269 ?_
 have W:=trivial
 repeat' first|refine we ?_|(refine sq ?_ ?_<;>intro hc<;>try exact hc.elim)|fail
 all_goals try(refine ⟨.inr rfl,?_⟩;simp [aB,results269])
end Go.Proofs.YtlnblmmohpcceaaGreatDoor
