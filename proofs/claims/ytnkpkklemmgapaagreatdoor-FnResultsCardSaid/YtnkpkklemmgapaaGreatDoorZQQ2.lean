/- Proved here: steps towards the statement of this claim. No condition. -/
import Derived.Test.YtnkpkklemmgapaaGreatDoorZQ1
import Derived.Test.YtnkpkklemmgapaaGreatDoorZQY2
set_option linter.all false
set_option maxRecDepth 4000
set_option maxHeartbeats 4000000
namespace Go.Proofs.YtnkpkklemmgapaaGreatDoor
open Go.Aw Proofs.Tryz List IntKind
theorem K8{a b:aK}:bC a=bC b↔a=b:=by obtain⟨a1,a2⟩:=a;obtain⟨b1,b2⟩:=b;simp
theorem Di(a b:aK):EqA prog 25 (bC a) (bC b) (decide (a=b)):=
 jy (f:=6) (ss:=[.str,.str]) (by decide) (by kernel_rfl) (by kernel_rfl) (by kernel_rfl) (by kernel_rfl) (by simp[tL,IG]) (by simp[tL,IG]) (by rw[K8,decide_eq_true_iff])
def mP(a:aK)(m:fO):Bool:=decide (m.to=a)
theorem yO[aB prog](p:aC)(a:aK)(hl:p.aN.length<=1099511627776):Ok prog 157 [.agg (aQ .view p),.agg (bC a)] (.int .i64 (zO (mP a) p.aN)):=by
 refine dL aO func157 ntmps157 ?_;refine dH ?_;refine aI (ι:={k:Nat // k<=p.aN.length/\∀x∈p.aN.take k,mP a x=false}) (λt o i=>⟨bH t [(5,.int .i64 i.1)],o⟩)
  (λi=>p.aN.length-i.1) ⟨0,by simp⟩ aG ?_
 rintro⟨k,hk,hpre⟩ K1 hK1;simp only[bH,cH,cJ]at hK1⊢;have hk1:=rE (k:=k);by_cases hlt:k<p.aN.length
 .have hg:=aE hlt;have W:=aA hk1 (aA hg hlt);have c0:=Di p.aN[k].to a;repeat' first|refine wf ?_|(refine sq ?_ ?_<;>intro hc<;>try exact hc.elim)|fail
  .all_goals try(refine aZ ?_;simp[aX,results157])
   rw[Ou hlt (by simpa [mP]using hc) hpre]
  .exact hK1 _ ⟨k+1,by omega,gB hlt hpre (by simpa [mP]using hc)⟩ aG (by simp only;omega)
 .have W:=hk1;refine we ?_;all_goals try(refine aZ ?_;simp[aX,results157])
  rw[FY (qM (by omega) hpre)]
def kG(a x:aK):Bool:=decide (x=a)
theorem Ap[aB prog](l:List aK)(a:aK)(hl:l.length<=1099511627776):Ok prog 197 [.sl .view 2 (l.map bC),.agg (bC a)] (.bool (l.any (kG a))):=by
 refine dL aO func197 ntmps197 ?_;refine dH ?_;refine aI (ι:={k:Nat // k<=l.length/\∀x∈l.take k,kG a x=false}) (λt o i=>⟨bH t [(5,.int .i64 i.1)],o⟩)
  (λi=>l.length-i.1) ⟨0,by simp,by simp⟩ aG ?_
 rintro⟨k,hk,hi⟩ K1 hK1;simp only[bH,cH,cJ]at hK1⊢;have hk1:=rE (k:=k);by_cases hlt:k<l.length
 .have hg:=aE hlt;have W:=aA hk1 (aA hg hlt);have c0:=Di l[k] a;repeat' first|refine wf ?_|(refine sq ?_ ?_<;>intro hc<;>try exact hc.elim)|fail
  .all_goals try(refine aZ ?_;simp[aX,results197])
   refine⟨_,hI hlt,by simpa [kG]using hc⟩
  .exact hK1 _ ⟨k+1,by omega,gB hlt hi (by simpa [kG]using hc)⟩ (aL 1) (by simp only;omega)
 .have W:=hk1;refine we ?_;all_goals try(refine aZ ?_;simp[aX,results197])
  have:=qM (by omega) hi;simpa using this
def zT(a b:aK):Int:=if Lib.compareBytes a.host b.host≠0 then Lib.compareBytes a.host b.host else Lib.compareBytes a.path b.path
theorem BQ:∀l:List UInt8,Op.bytesLess l l=false
 |[]=>rfl
 |x::l=>by simp[Op.bytesLess,BQ l,UInt8.lt_irrefl]
theorem Yv(a b:aK):zT a b=if a=b then 0 else if (Op.bytesLess a.host b.host || (a.host == b.host&&Op.bytesLess a.path b.path))=true then -1 else 1:=by
 unfold zT;obtain⟨h1,p1⟩:=a;obtain⟨h2,p2⟩:=b;simp only[xw,aK.mk.injEq];by_cases e1:h1=h2
 .subst e1;by_cases e2:p1=p2
  .simp [e2]
  .have:=BQ h1;simp[e2,this]
 .cases hb:Op.bytesLess h1 h2<;>simp[e1,hb]
theorem Gq[aB prog](a b:aK):Ok prog 202 [.agg (bC a),.agg (bC b)] (.int .i64 (zT a b)):=by
 rw[Yv];have c1:=Di a b;by_cases he:a=b
 .subst he;simp only[bC,decide_true]at c1;refine dL aO func202 ntmps202 ?_;have c0:=c1;refine dH ?_;exact aR results202
 .simp only[bC,he,decide_false]at c1;simp only[he,eS];cases h1:Op.bytesLess a.host b.host
  .by_cases h2:a.host=b.host
   .rw [h2]at c1;have h0:=BQ b.host;cases h3:Op.bytesLess a.path b.path
    .refine dL aO func202 ntmps202 ?_;have W:=aA h0 (aA h1 (aA h2 h3));have c0:=c1;refine we ?_;all_goals try(refine aZ ?_;simp[aX,results202,h0,h1,h2,h3])
    .refine dL aO func202 ntmps202 ?_;have W:=aA h0 (aA h1 (aA h2 h3));have c0:=c1;refine we ?_;all_goals try(refine aZ ?_;simp[aX,results202,h0,h1,h2,h3])
   .refine dL aO func202 ntmps202 ?_;have W:=aA h1 h2;have c0:=c1;refine we ?_;all_goals try(refine aZ ?_;simp[aX,results202,h1,h2])
  .refine dL aO func202 ntmps202 ?_;have W:=h1;have c0:=c1;refine we ?_;all_goals try(refine aZ ?_;simp[aX,results202,h1])
def yQ(l:List fO)(a:aK):Nat:=(l.takeWhile λm=>decide (zT m.to a<0)).length
theorem Qi{a:aK}:∀{l:List fO} {k:Nat},k<=l.length->(∀x∈l.take k,zT x.to a<0)->(∀m,l[k]? =some m->¬zT m.to a<0)->yQ l a=k
 |[],k,h,_,_=>by simp at h;subst h;rfl
 |m::l,0,_,_,h=>by simp[yQ,h m rfl]
 |m::l,k+1,h0,h1,h2=>by have ih:=Qi (a:=a) (l:=l) (k:=k) (by simpa using h0) (λx hx=>h1 x (by simp[hx])) (λm hm=>h2 m (by simpa using hm));have:=h1 m (by simp);simp only[yQ,takeWhile_cons,Bm this,dT]at ih⊢;simpa using ih
def Dj(p:aC)(a:aK):fO:=if iW p.bM ⟨5,a,p.addr.host,[]⟩=1 then⟨a,false,0,[]⟩else⟨a,true,2,[]⟩
def wP(p:aC)(a:aK)(k:Nat):List fO:=p.aN.take k++Dj p a::p.aN.drop k
def fB(p:aC)(a:aK):aC:=
 match p.aN[yQ p.aN a]? with
 |some m=>if m.to=a then p else {p with aN:=wP p a (yQ p.aN a)}
 |none=>{p with aN:=wP p a (yQ p.aN a)}
end Go.Proofs.YtnkpkklemmgapaaGreatDoor
