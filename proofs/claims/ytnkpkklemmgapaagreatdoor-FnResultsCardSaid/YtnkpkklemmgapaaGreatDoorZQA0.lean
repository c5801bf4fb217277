/- Proved here: steps towards the statement of this claim. No condition. -/
import Derived.Test.YtnkpkklemmgapaaGreatDoorZYFacts
import Derived.Test.YtnkpkklemmgapaaGreatDoorZF4
import Derived.Lib.SlicesCompact
set_option linter.all false
namespace Go.Proofs.YtnkpkklemmgapaaGreatDoor
theorem aO:Tryz.prog.follows .mixedOrders=true:=by kernel_rfl
end Go.Proofs.YtnkpkklemmgapaaGreatDoor
set_option maxRecDepth 4000
set_option maxHeartbeats 4000000
namespace Go.Proofs.YtnkpkklemmgapaaGreatDoor
open Go.Aw Proofs.Tryz List IntKind
theorem JQ{α β:Type}(f:α->β)(l:List α)(k:Nat)(h:k<l.length):(l.take (k+1)).map f=(l.take k).map f++[f l[k]]:=by rw[eL h,oX];rfl
theorem Io[aB prog](l:List nY)(hl:l.length<=1099511627776):Ok prog 55 [.sl .view 2 (l.map uH)] (.sl .own 2 (l.map uH)):=by refine dL aO func55 ntmps55 ?_;refine dH ?_;exact aR results55
theorem Sa[aB prog](l:List bU)(hs:bV dR l<=274877906944):Ok prog 147 [.sl .view 4 (l.map (eG .view))] (.sl .own 4 (l.map (eG .own))):=by
 simp only[bV]at hs;refine dL aO func147 ntmps147 ?_;refine dH ?_;refine aI (ι:={q:Nat×Nat // q.1<=l.length/\1<=q.2}) (λt o i=>⟨bH t [(3,.obj 0 i.1.2),(4,.int .i64 i.1.1),(5,.undef)],o.take 0++[⟨true,false,4,i.1.2,(l.take i.1.1).map (eG .own)⟩]⟩)
  (λi=>l.length-i.1.1) ⟨(0,1),by simp,by first|(simp;done)|(simp only;omega)⟩ aG ?_
 rintro⟨⟨k,v⟩,hk,hv⟩ K1 hK1;simp only at hk hv;simp only[bH,cH,cJ,fL,lE,cW,cY]at hK1⊢;have hk1:=rE (k:=k);by_cases hlt:k<l.length
 .have hg:=aE hlt;have hps:=JQ (eG .own) l k hlt;have hz:=dD dR l k hlt;simp only[dR,bV]at hz;have c1:=Io l[k].attrs (by omega);have Lr:((l.take k).map (eG .own)).length=k:=by simp;omega
  generalize (l.take k).map (eG .own)=g at*;have W:=aA hk1 (aA hg (aA hlt Lr));refine we ?_;all_goals refine hK1 _ ⟨(k+1,v+1),by simp only;omega,by simp only;omega⟩ (aL 1 (by simp[hps])) (by simp only;omega)
 .have htk:l.take k=l:=eJ (by omega);rw[htk];have W:=hk1;refine we ?_;exact aR results147
theorem Sb[aB prog](a:fU)(hs:gF a<=274877906944):Ok prog 146 [.agg (dK .view a)] (.agg (dK .own a)):=by simp only[gF,bV]at hs;refine dL aO func146 ntmps146 ?_;refine dH ?_;exact aR results146
def oV(t:nJ):List bU:=if t.rest=[]\/t.rest.head? =some 60 then []else [⟨3,[],[],t.rest⟩]
theorem eX[aB prog](a b c:Int):Ok prog 27 [.int .i64 a,.int .i64 b,.int .i64 c] (.bool (decide (b<=a)&&decide (a<=c))):=by
 refine dL aO func27 ntmps27 ?_;have W:=trivial;repeat' first|refine wg ?_|(refine sq ?_ ?_<;>intro hc<;>try exact hc.elim)|fail
 all_goals try(refine aZ ?_;simp[aX,results27])
 all_goals (first|(simp_all;done)|(simp_all;omega))
theorem Ck[aB prog](a b c:Int):Ok prog 87 [.int .i64 a,.int .i64 b,.int .i64 c] (.bool (decide (b<=a)&&decide (a<=c))):=by
 refine dL aO func87 ntmps87 ?_;have W:=trivial;repeat' first|refine wg ?_|(refine sq ?_ ?_<;>intro hc<;>try exact hc.elim)|fail
 all_goals try(refine aZ ?_;simp[aX,results87])
 all_goals (first|(simp_all;done)|(simp_all;omega))
theorem wh{s:aU}{k:Nat}(h:k<s.length)(hc:lowerB s[k]=false):dJ s=false:=by
 have:s.all lowerB=false:=by rw[all_eq_false];exact⟨s[k],hI h,by simp[hc]⟩
 simp[dJ,this]
theorem wm{s:aU}{k:Nat}(h:k<s.length)(hc:(s[k].toNat:Int)<97):dJ s=false:=wh h (by simp[lowerB];omega)
theorem wo{s:aU}{k:Nat}(h:k<s.length)(hc:122<(s[k].toNat:Int)):dJ s=false:=wh h (by simp[lowerB];omega)
theorem Uj{c:UInt8}(h:97<=(c.toNat:Int))(hc:(c.toNat:Int)<=122):lowerB c=true:=by simp[lowerB];omega
theorem Yc{s:aU}(h:∀x∈s,lowerB x=true):dJ s=(decide ((1:Int)<=s.length)&&decide ((s.length:Int)<=8)):=by
 have:s.all lowerB=true:=fW.2 h;have h1:decide ((1:Int)<=s.length)=decide (1<=s.length):=by simp only[pB];omega
 have h2:decide ((s.length:Int)<=8)=decide (s.length<=8):=by simp only[pB];omega
 rw[dJ,this,h1,h2,tR]
theorem dZ[aB prog](s:aU)(hl:s.length<=1099511627776):Ok prog 94 [.str s] (.bool (dJ s)):=by
 have h1:=eX s.length 1 8;refine dL aO func94 ntmps94 ?_;refine oU ?_;refine aI (ι:={k:Nat // k<=s.length/\∀x∈s.take k,lowerB x=true}) (λt o i=>⟨bH t [(3,.int .i64 i.1)],o⟩)
  (λi=>s.length-i.1) ⟨0,by simp,by simp⟩ aG ?_
 rintro⟨k,hk,hi⟩ K1 hK1;simp only[bH,cH,cJ]at hK1⊢;have hk1:=rE (k:=k);by_cases hlt:k<s.length
 .have hg:=aE hlt;have W:=aA hk1 (aA hg hlt);repeat' first|refine wg ?_|(refine sq ?_ ?_<;>intro hc<;>try exact hc.elim)|fail
  .skip
   all_goals try(refine aZ ?_;simp[aX,results94])
   rw[wm hlt (by assumption)]
  .skip
   all_goals try(refine aZ ?_;simp[aX,results94])
   rw[wo hlt (by assumption)]
  .skip
   exact hK1 _ ⟨k+1,by omega,gB hlt hi (Uj (by assumption) (by assumption))⟩ aG (by simp only;omega)
 .have W:=hk1;refine wl ?_;all_goals try(refine aZ ?_;simp[aX,results94])
  rw[Yc (qM (by omega) hi)]
theorem BN[aB prog](s:aU)(hl:s.length<=1099511627776):Ok prog 86 [.str s] (.bool (dJ s)):=by
 have h1:=Ck s.length 1 8;refine dL aO func86 ntmps86 ?_;refine oU ?_;refine aI (ι:={k:Nat // k<=s.length/\∀x∈s.take k,lowerB x=true}) (λt o i=>⟨bH t [(3,.int .i64 i.1)],o⟩)
  (λi=>s.length-i.1) ⟨0,by simp,by simp⟩ aG ?_
 rintro⟨k,hk,hi⟩ K1 hK1;simp only[bH,cH,cJ]at hK1⊢;have hk1:=rE (k:=k);by_cases hlt:k<s.length
 .have hg:=aE hlt;have W:=aA hk1 (aA hg hlt);repeat' first|refine wg ?_|(refine sq ?_ ?_<;>intro hc<;>try exact hc.elim)|fail
  .skip
   all_goals try(refine aZ ?_;simp[aX,results86])
   rw[wm hlt (by assumption)]
  .skip
   all_goals try(refine aZ ?_;simp[aX,results86])
   rw[wo hlt (by assumption)]
  .skip
   exact hK1 _ ⟨k+1,by omega,gB hlt hi (Uj (by assumption) (by assumption))⟩ aG (by simp only;omega)
 .have W:=hk1;refine wl ?_;all_goals try(refine aZ ?_;simp[aX,results86])
  rw[Yc (qM (by omega) hi)]
theorem uV[aB prog](a:aK)(hl:aP a<=1099511627776):Ok prog 132 [.agg (bC a)] (.bool (vG a)):=by
 simp only[aP]at hl;have h1:=dZ a.host (by omega);have h2:=dZ a.path (by omega);refine dL aO func132 ntmps132 ?_;have W:=trivial;repeat' first|refine wg ?_|(refine sq ?_ ?_<;>intro hc<;>try exact hc.elim)|fail
 all_goals try(refine aZ ?_;simp[aX,results132])
 all_goals simp_all[vG]
theorem Sc[aB prog](a:aK)(hl:aP a<=1099511627776):Ok prog 117 [.agg (bC a)] (.bool (vG a)):=by
 simp only[aP]at hl;have h1:=BN a.host (by omega);have h2:=BN a.path (by omega);refine dL aO func117 ntmps117 ?_;have W:=trivial;repeat' first|refine wg ?_|(refine sq ?_ ?_<;>intro hc<;>try exact hc.elim)|fail
 all_goals try(refine aZ ?_;simp[aX,results117])
 all_goals simp_all[vG]
theorem iX{α:Type}(f:α->Nat):∀a b:List α,bB f (a++b)=bB f a+bB f b
 |[],b=>by simp[bB]
 |x::xs,b=>by simp only[cW,bB,iX f xs b];omega
def places{α:Type}(f:α->Bool):Nat->List α->List Int
 |_,[]=>[]
 |i,x::xs=>if f x then(i:Int)::places f (i+1) xs else places f (i+1) xs
theorem MO{α:Type}(f:α->Bool)(x:α):∀(l:List α) (i:Nat),places f i (l++[x])=places f i l++(if f x then [((i+l.length:Nat):Int)]else [])
 |[],i=>by simp only[cY,places];cases f x<;>simp
 |y::ys,i=>by
  simp only[cW,places];rw[MO f x ys (i+1)];have:i+1+ys.length=i+(y::ys).length:=by simp;omega
  rw[this];cases f y<;>simp
theorem EP{α:Type}(f:α->Bool)(l:List α)(k:Nat)(h:k<l.length):places f 0 (l.take (k+1))=places f 0 (l.take k)++(if f l[k]then [(k:Int)]else []):=by
 rw[eL h,MO];have:(l.take k).length=k:=by simp;omega
 rw[this,lO]
theorem pW{α:Type}(f:α->Bool):∀(l:List α) (i:Nat),(places f i l).length<=l.length
 |[],_=>by simp[places]
 |x::xs,i=>by simp only[places];have:=pW f xs (i+1);cases f x<;>simp<;>omega
def Aq(s:nK):Bool:= !s.done
def Ar(s:fO):Bool:= !s.done
def sI(s:nK):Bool:=s.mode == 4
theorem Cs[aB prog](p:aC)(hl:p.aF.length<=16777216):Ok prog 108 [.agg (aQ .view p)] (.sl .own 1 ((places Aq 0 p.aF).map lI)):=by
 refine dL aO func108 ntmps108 ?_;refine oU ?_;refine aI (ι:={q:Nat×Nat // q.1<=p.aF.length/\1<=q.2}) (λt o i=>⟨bH t [(3,.obj 1 i.1.2),(4,.int .i64 i.1.1)],o.take 1++[⟨true,false,1,i.1.2,(places Aq 0 (p.aF.take i.1.1)).map lI⟩]⟩)
  (λi=>p.aF.length-i.1.1) ⟨(0,1),by simp,by simp⟩ (aG (by simp[places]) (by simp)) ?_
 rintro⟨⟨k,v⟩,hk,hv⟩ K1 hK1;simp only at hk hv;simp only[bH,cH,cJ,fL,lE,cW,cY]at hK1⊢;have hk1:=rE (k:=k);by_cases hlt:k<p.aF.length
 .have hg:=aE hlt;have hps:=EP Aq p.aF k hlt;have hpl:=pW Aq (p.aF.take k) 0;have htl:(p.aF.take k).length=k:=by simp;omega
  have hb1:((places Aq 0 (p.aF.take k)).length+1)*8<=140737488355328:=by omega
  have hb2:(places Aq 0 (p.aF.take k)).length+1<=9223372036854775807:=by omega
  have VL:(places Aq 0 (p.aF.take k)).length<=9223372036854775806:=by omega
  have W:=aA hk1 (aA hg (aA hlt (aA hb1 (aA hb2 VL))));repeat' first|refine wg ?_|(refine sq ?_ ?_<;>intro hc<;>try exact hc.elim)|fail
  .refine hK1 _ ⟨(k+1,v+1),by simp only;omega,by simp only;omega⟩ (aL 2 (by simp[hps,Aq,hc])) (by simp only;omega)
  .refine hK1 _ ⟨(k+1,v),by simp only;omega,hv⟩ (aL 2 (by simp[hps,Aq,hc])) (by simp only;omega)
 .have htk:p.aF.take k=p.aF:=eJ (by omega);rw[htk];have W:=hk1;refine wl ?_;exact aR results108
theorem DV[aB prog](p:aC)(hl:p.aN.length<=16777216):Ok prog 110 [.agg (aQ .view p)] (.sl .own 1 ((places Ar 0 p.aN).map lI)):=by
 refine dL aO func110 ntmps110 ?_;refine oU ?_;refine aI (ι:={q:Nat×Nat // q.1<=p.aN.length/\1<=q.2}) (λt o i=>⟨bH t [(3,.obj 1 i.1.2),(4,.int .i64 i.1.1)],o.take 1++[⟨true,false,1,i.1.2,(places Ar 0 (p.aN.take i.1.1)).map lI⟩]⟩)
  (λi=>p.aN.length-i.1.1) ⟨(0,1),by simp,by simp⟩ (aG (by simp[places]) (by simp)) ?_
 rintro⟨⟨k,v⟩,hk,hv⟩ K1 hK1;simp only at hk hv;simp only[bH,cH,cJ,fL,lE,cW,cY]at hK1⊢;have hk1:=rE (k:=k);by_cases hlt:k<p.aN.length
 .have hg:=aE hlt;have hps:=EP Ar p.aN k hlt;have hpl:=pW Ar (p.aN.take k) 0;have htl:(p.aN.take k).length=k:=by simp;omega
  have hb1:((places Ar 0 (p.aN.take k)).length+1)*8<=140737488355328:=by omega
  have hb2:(places Ar 0 (p.aN.take k)).length+1<=9223372036854775807:=by omega
  have VL:(places Ar 0 (p.aN.take k)).length<=9223372036854775806:=by omega
  have W:=aA hk1 (aA hg (aA hlt (aA hb1 (aA hb2 VL))));repeat' first|refine wg ?_|(refine sq ?_ ?_<;>intro hc<;>try exact hc.elim)|fail
  .refine hK1 _ ⟨(k+1,v+1),by simp only;omega,by simp only;omega⟩ (aL 2 (by simp[hps,Ar,hc])) (by simp only;omega)
  .refine hK1 _ ⟨(k+1,v),by simp only;omega,hv⟩ (aL 2 (by simp[hps,Ar,hc])) (by simp only;omega)
 .have htk:p.aN.take k=p.aN:=eJ (by omega);rw[htk];have W:=hk1;refine wl ?_;exact aR results110
theorem ER[aB prog](p:aC)(hl:p.aF.length<=16777216):Ok prog 153 [.agg (aQ .view p)] (.sl .own 1 ((places sI 0 p.aF).map lI)):=by
 refine dL aO func153 ntmps153 ?_;refine oU ?_;refine aI (ι:={q:Nat×Nat // q.1<=p.aF.length/\1<=q.2}) (λt o i=>⟨bH t [(3,.obj 1 i.1.2),(4,.int .i64 i.1.1)],o.take 1++[⟨true,false,1,i.1.2,(places sI 0 (p.aF.take i.1.1)).map lI⟩]⟩)
  (λi=>p.aF.length-i.1.1) ⟨(0,1),by simp,by simp⟩ (aG (by simp[places]) (by simp)) ?_
 rintro⟨⟨k,v⟩,hk,hv⟩ K1 hK1;simp only at hk hv;simp only[bH,cH,cJ,fL,lE,cW,cY]at hK1⊢;have hk1:=rE (k:=k);by_cases hlt:k<p.aF.length
 .have hg:=aE hlt;have hps:=EP sI p.aF k hlt;have hpl:=pW sI (p.aF.take k) 0;have htl:(p.aF.take k).length=k:=by simp;omega
  have hb1:((places sI 0 (p.aF.take k)).length+1)*8<=140737488355328:=by omega
  have hb2:(places sI 0 (p.aF.take k)).length+1<=9223372036854775807:=by omega
  have VL:(places sI 0 (p.aF.take k)).length<=9223372036854775806:=by omega
  have W:=aA hk1 (aA hg (aA hlt (aA hb1 (aA hb2 VL))));repeat' first|refine wg ?_|(refine sq ?_ ?_<;>intro hc<;>try exact hc.elim)|fail
  .refine hK1 _ ⟨(k+1,v+1),by simp only;omega,by simp only;omega⟩ (aL 2 (by simp[hps,sI,hc])) (by simp only;omega)
  .refine hK1 _ ⟨(k+1,v),by simp only;omega,hv⟩ (aL 2 (by simp[hps,sI,hc])) (by simp only;omega)
 .have htk:p.aF.take k=p.aF:=eJ (by omega);rw[htk];have W:=hk1;refine wl ?_;exact aR results153
theorem II{α:Type}(f:α->Bool):∀(l:List α) (j:Nat) (i:Int),i∈places f j l->(j:Int)<=i/\i<j+l.length
 |[],j,i,h=>by simp[places]at h
 |x::xs,j,i,h=>by
  simp only[places]at h;have ih:=II f xs (j+1) i;simp only[dT];split at h
  .rcases gE.1 h with rfl|h
   .omega
   .have:=ih h;omega
  .have:=ih h;omega
def fK(m:Int):Int:=if m=1 then 4 else if m=2 then 3 else if m=3 then 2 else if m=4 then 2 else 0
theorem wN[aB prog](m:Int):Ok prog 61 [.int .i64 m] (.int .i64 (fK m)):=by
 refine dL aO func61 ntmps61 ?_;have W:=trivial;repeat' first|refine wg ?_|(refine sq ?_ ?_<;>intro hc<;>try exact hc.elim)|fail
 all_goals try(refine aZ ?_;simp[aX,results61,fK])
 all_goals simp_all[fK]
theorem Kg[aB prog](m:Int):Ok prog 49 [.int .i64 m] (.int .i64 (fK m)):=by
 refine dL aO func49 ntmps49 ?_;have W:=trivial;repeat' first|refine wg ?_|(refine sq ?_ ?_<;>intro hc<;>try exact hc.elim)|fail
 all_goals try(refine aZ ?_;simp[aX,results49,fK])
 all_goals simp_all[fK]
def xq:gG:=⟨0,⟨[],[]⟩,[],[]⟩
def jJ(p:aC)(s:nK):gG:=⟨fK s.mode,s.to,p.addr.host,s.digest⟩
def jN(p:aC)(m:fO):gG:=⟨5,m.to,p.addr.host,[]⟩
def qG(p:aC)(i:Int):gG:=match p.aF[i.toNat]? with
 |some s=>jJ p s
 |none=>xq
def Au(p:aC)(i:Int):gG:=match p.aN[i.toNat]? with
 |some s=>jN p s
 |none=>xq
theorem CK{α:Type}{l:List α}{i:Int}(h0:0<=i)(h1:i<l.length):∃s,l[i.toNat]? =some s:=⟨l[i.toNat]'(by omega),aE _⟩
theorem at_eq{α:Type}{l:List α}{k:Nat}{s:α}(h:k<l.length)(hg:l[k]? =some s):l[k]=s:=by rw[aE h]at hg;exact cU hg
theorem vJ[aB prog](p:aC)(i:Int)(h0:0<=i)(h1:i<p.aF.length)(hl:p.aF.length<=1099511627776):Ok prog 109 [.agg (aQ .view p),.int .i64 i] (.agg (gW (qG p i))):=by
 obtain⟨s,hg⟩:=CK h0 h1;have e:qG p i=jJ p s:=by simp[qG,hg]
 rw[e];obtain rfl:p.aF[i.toNat]'(by omega)=s:=at_eq (by omega) hg;have c1:=eX i 0 (p.aF.length-1);rw[show(decide (0<=i)&&decide (i<=(p.aF.length:Int)-1))=true by simp;omega]at c1;have c2:=wN (p.aF[i.toNat]'(by omega)).mode;refine dL aO func109 ntmps109 ?_;have W:=aA hg (aA h0 h1);refine wl ?_;all_goals try(refine aZ ?_;simp[aX,results109,jJ])
theorem Bq[aB prog](p:aC)(i:Int)(h0:0<=i)(h1:i<p.aN.length)(hl:p.aN.length<=1099511627776):Ok prog 111 [.agg (aQ .view p),.int .i64 i] (.agg (gW (Au p i))):=by
 obtain⟨s,hg⟩:=CK h0 h1;have e:Au p i=jN p s:=by simp[Au,hg]
 rw[e];obtain rfl:p.aN[i.toNat]'(by omega)=s:=at_eq (by omega) hg;have c1:=eX i 0 (p.aN.length-1);rw[show(decide (0<=i)&&decide (i<=(p.aN.length:Int)-1))=true by simp;omega]at c1;refine dL aO func111 ntmps111 ?_;have W:=aA hg (aA h0 h1);refine wl ?_;all_goals try(refine aZ ?_;simp[aX,results111,jN])
end Go.Proofs.YtnkpkklemmgapaaGreatDoor
namespace Go.Aw
open List
abbrev S8:=List UInt8
theorem Gi(a:S8):¬a<a:=List.lt_irrefl a
theorem Re{a b c:S8}(h:a<b)(k:b<c):a<c:=List.lt_trans h k
theorem aE1(a b:S8):a<b\/a=b\/b<a:=by
 by_cases h:a<b
 .exact .inl h
 .by_cases k:b<a
  .exact .inr (.inr k)
  .exact .inr (.inl (List.le_antisymm (List.not_lt.1 k) (List.not_lt.1 h)))
theorem aKa{a b:S8}:a<=b↔¬b<a:=List.not_lt.symm
theorem Rf:∀{l1 l2:List S8},l1.Pairwise (· < ·)->l2.Pairwise (· < ·)->(∀x,x∈l1↔x∈l2)->l1=l2
 |[],[],_,_,_=>rfl
 |[],b::l2,_,_,h=>by have:=(h b).2 (by simp);cases this
 |a::l1,[],_,_,h=>by have:=(h a).1 (by simp);cases this
 |a::l1,b::l2,h1,h2,h=>by
  have q1:=pairwise_cons.1 h1;have q2:=pairwise_cons.1 h2;have e:a=b:=by
   have ha:=(h a).1 (by simp);have hb:=(h b).2 (by simp);rcases gE.1 ha with e|ha
   .exact e
   .rcases gE.1 hb with e|hb
    .exact e.symm
    .exact absurd (Re (q1.1 b hb) (q2.1 a ha)) (Gi a)
  subst e;congr 1;refine Rf q1.2 q2.2 λx=> ?_
  constructor
  .intro hx;rcases gE.1 ((h x).1 (tG _ hx))with e|hx2
   .subst e;exact absurd (q1.1 x hx) (Gi x)
   .exact hx2
  .intro hx;rcases gE.1 ((h x).2 (tG _ hx))with e|hx2
   .subst e;exact absurd (q2.1 x hx) (Gi x)
   .exact hx2
def Cx(acc:List S8)(n:S8):Nat:=(acc.reverse.dropWhile λx=>decide (n<x)).length
def iK(acc:List S8)(n:S8):List S8:=
 if 0<Cx acc n/\acc[Cx acc n-1]? =some n then acc else acc.take (Cx acc n)++n::acc.drop (Cx acc n)
theorem Rh{acc:List S8}{n:S8}{k:Nat}(hk:k<=acc.length)(h1:∀x∈acc.drop k,n<x)(h2:∀x,0<k->acc[k-1]? =some x->¬n<x):Cx acc n=k:=by
 unfold Cx;have e:acc.reverse=(acc.drop k).reverse++(acc.take k).reverse:=by rw[<-reverse_append,mN]
 rw[e,dropWhile_append_of_pos (by intro x hx;simpa using h1 x (by simpa using hx))];cases k with
 |zero=>simp
 |succ k=>
  have hk':k<acc.length:=by omega
  have hl:(acc.take (k+1)).reverse=acc[k]::(acc.take k).reverse:=by rw[eL hk'];simp
  have h3:=h2 acc[k] (by omega) (by simp[aE hk']);rw[hl,dropWhile_cons_of_neg (by simpa using h3)];simp;omega
theorem Zv{acc:List S8}(n:S8)(hs:acc.Pairwise (· < ·)):Cx acc n<=acc.length/\(∀x∈acc.drop (Cx acc n),n<x)/\∀x∈acc.take (Cx acc n),¬n<x:=by
 obtain⟨k,hk,h1,h2⟩:∃k,k<=acc.length/\(∀x∈acc.drop k,n<x)/\∀x∈acc.take k,¬n<x:=by
  induction acc with
  |nil=>exact⟨0,by simp,by simp,by simp⟩
  |cons a l ih=>
   have q:=pairwise_cons.1 hs;obtain⟨k,hk,h1,h2⟩:=ih q.2;by_cases hn:n<a
   .refine ⟨0,by simp,?_,by simp⟩;intro x hx;rcases gE.1 (by simpa using hx)with e|hx
    .subst e;exact hn
    .exact Re hn (q.1 x hx)
   .refine ⟨k+1,by simpa using hk,by simpa using h1,?_⟩;intro x hx;rcases gE.1 (by simpa using hx)with e|hx
    .subst e;exact hn
    .exact h2 x hx
 have e:Cx acc n=k:=Rh hk h1 λx h0 hx=>h2 x (mB (i:=k-1) (by rw[getElem?_take_of_lt (by omega)];exact hx))
 rw[e];exact⟨hk,h1,h2⟩
theorem Zw{acc:List S8}(n:S8)(hs:acc.Pairwise (· < ·)):(iK acc n).Pairwise (· < ·)/\∀x,x∈iK acc n↔x∈acc\/x=n:=by
 obtain⟨hk,h1,h2⟩:=Zv n hs;unfold iK;split
 .rename_i h;exact⟨hs,λx=>⟨.inl,λhx=>hx.elim id λe=>by subst e;exact mB h.2⟩⟩
 .rename_i Rt;generalize Cx acc n=k at*;have aE2:=mN k acc;have hp:(acc.take k++acc.drop k).Pairwise (· < ·):=by rw[aE2];exact hs
  have hp2:=pairwise_append.1 hp;have hlt:∀x∈acc.take k,x<n:=by
   intro x hx;rcases aE1 x n with h|h|h
   .exact h
   .subst h;exfalso;apply Rt;have hk0:0<k:=by cases k with
     |zero=>simp at hx
     |succ k=>omega
    refine⟨hk0,?_⟩;obtain⟨j,hj,hje⟩:=DQ hx;have hjk:j<k:=by simp at hj;omega
    have hk1:k-1<acc.length:=by omega
    rw[aE hk1];by_cases hj2:j=k-1
    .subst hj2;rw[<-hje];simp
    .have hjl:j<acc.length:=by omega
     have:=pairwise_iff_getElem.1 hs j (k-1) hjl hk1 (by omega);have e2:acc[j]=x:=by rw[<-hje];simp
     rw[e2]at this;exact absurd this (h2 _ (mB (i:=k-1) (by rw[getElem?_take_of_lt (by omega),aE hk1])))
   .exact absurd h (h2 x hx)
  refine⟨pairwise_append.2 ⟨hp2.1,pairwise_cons.2 ⟨h1,hp2.2.1⟩,?_⟩,?_⟩
  .intro a ha b hb;rcases gE.1 hb with e|hb
   .subst e;exact hlt a ha
   .exact hp2.2.2 a ha b hb
  .intro x;rw[fS,gE];constructor
   .rintro (h|h|h)
    .exact .inl (pC h)
    .exact .inr h
    .exact .inl (AG h)
   .rintro (h|h)
    .rw [<-aE2,fS]at h;rcases h with h|h
     .exact .inl h
     .exact .inr (.inr h)
    .exact .inr (.inl h)
theorem DC:∀(ns acc:List S8),acc.Pairwise (· < ·)->(ns.foldl iK acc).Pairwise (· < ·)/\∀x,x∈ns.foldl iK acc↔x∈acc\/x∈ns
 |[],acc,h=>⟨h,by simp⟩
 |n::ns,acc,h=>by
  obtain⟨h1,h2⟩:=Zw n h;obtain⟨h3,h4⟩:=DC ns (iK acc n) h1;refine⟨h3,λx=> ?_⟩;rw[Fi,h4,h2,gE];constructor
  .rintro ((h|h)|h)
   .exact .inl h
   .exact .inr (.inl h)
   .exact .inr (.inr h)
  .rintro (h|h|h)
   .exact .inl (.inl h)
   .exact .inl (.inr h)
   .exact .inr h
theorem Ni{zs:List S8}(hs:zs.Pairwise (· <= ·)):∀m,m<=zs.length->(Lib.compactUpTo zs.toArray m).Pairwise (· < ·)/\(∀x,x∈Lib.compactUpTo zs.toArray m↔x∈zs.take m)/\∀x∈Lib.compactUpTo zs.toArray m,∀y,0<m->zs[m-1]? =some y->x<=y
 |0,_=>by simp[Lib.compactUpTo]
 |m+1,hm=>by
  obtain⟨h1,h2,h3⟩:=Ni hs m (by omega);have hlt:m<zs.length:=by omega
  have hd:zs.toArray[m]! =zs[m]:=by simp[hlt]
  rw[Lib.compactUpTo_succ,hd];have htk:∀x,x∈zs.take (m+1)↔x∈zs.take m\/x=zs[m]:=λx=>by rw[eL hlt,fS,nF]
  cases hk:Lib.keeps zs.toArray m
  .have hm0:0<m:=by
    cases m with
    |zero=>simp[Lib.keeps]at hk
    |succ m=>omega
   have Hw:m-1<zs.length:=by omega
   have heq:zs[m]=zs[m-1]:=by
    have hne:m≠0:=by omega
    simp[Lib.keeps,hne,hlt,Hw]at hk;exact hk
   have hin:zs[m]∈zs.take m:=by rw[heq];exact mB (i:=m-1) (by rw[getElem?_take_of_lt (by omega),aE Hw])
   simp only[cX,eS,eC,BW];refine⟨h1,λx=> ?_,λx hx y _ hy=> ?_⟩
   .rw [h2,htk];constructor
    .exact .inl
    .rintro (h|h)
     .exact h
     .subst h;exact hin
   .rw [aE hlt]at hy;obtain rfl:=cU hy;rw[heq];exact h3 x hx _ hm0 (aE Hw)
  .simp only[eV,BW];have hall:∀x∈Lib.compactUpTo zs.toArray m,x<zs[m]:=by
    intro x hx;cases m with
    |zero=>simp[Lib.compactUpTo]at hx
    |succ m=>
     have Hw:m<zs.length:=by omega
     have hne:zs[m+1]≠zs[m]:=by simp[Lib.keeps,hlt,Hw]at hk;exact hk
     have hle:=h3 x hx zs[m] (by omega) (by simp[aE Hw]);have aQh:=pairwise_iff_getElem.1 hs m (m+1) Hw hlt (by omega);rcases aE1 x zs[m+1]with h|h|h
     .exact h
     .subst h;exact absurd (List.le_antisymm hle aQh) hne
     .exact absurd h (aKa.1 (List.le_trans hle aQh))
   refine⟨pairwise_append.2 ⟨h1,by simp,λx hx y hy=>by simp at hy;subst hy;exact hall x hx⟩,λx=> ?_,λx hx y _ hy=> ?_⟩
   .rw [fS,h2,htk];simp
   .rw [aE hlt]at hy;obtain rfl:=cU hy;rcases fS.1 hx with h|h
    .exact aKa.2 λaUh=>Gi _ (Re (hall x h) aUh)
    .simp at h;subst h;exact List.le_refl _
theorem Zx{zs:List S8}(hs:zs.Pairwise (· <= ·)):(Lib.compact zs).Pairwise (· < ·)/\∀x,x∈Lib.compact zs↔x∈zs:=by obtain⟨h1,h2,_⟩:=Ni hs zs.length (eE _);exact⟨h1,λx=>by rw[Lib.compact,h2,tW]⟩
theorem Ri(ns:List S8):Lib.compact (ns.mergeSort λx y=>decide (x<=y))=ns.foldl iK []:=by
 have hs:(ns.mergeSort λx y=>decide (x<=y)).Pairwise (· <= ·):=by have:=pairwise_mergeSort (le:=λx y:S8=>decide (x<=y)) (λa b c h1 h2=>by simp only[fX]at*;exact List.le_trans h1 h2) (λa b=>by simp only[sE,fX];exact List.le_total a b) ns;exact this.imp λh=>by simpa using h
 obtain⟨h1,h2⟩:=Zx hs;obtain⟨h3,h4⟩:=DC ns [] Pairwise.nil;refine Rf h1 h3 λx=> ?_
 rw[h2,h4,mem_mergeSort];simp
end Go.Aw
