/- Proved here: steps towards the statement of this claim. No condition. -/
import Derived.Test.YtdcpobkemdacnaaGreatDoorZQ1
import Derived.Test.YtdcpobkemdacnaaGreatDoorZQU5
set_option linter.all false
set_option maxRecDepth 4000
set_option maxHeartbeats 4000000
namespace Go.Proofs.YtdcpobkemdacnaaGreatDoor
open Go.Aw Proofs.Tryz List IntKind
theorem M4 {a b:aK}:aL a=aL b↔a=b:=by obtain ⟨a1,a2⟩:=a;obtain ⟨b1,b2⟩:=b;simp
theorem nW (a b:aK):EqA prog 42 (aL a) (aL b) (decide (a=b)):=
 aK5 (f:=6) (ss:=[.str,.str]) (by decide) (by kernel_rfl) (by kernel_rfl) (by kernel_rfl) (by kernel_rfl) (by simp [xY,Rb]) (by simp [xY,Rb]) (by rw [M4,decide_eq_true_iff])
def kQ (a:aK) (m:dY):Bool:=decide (m.to=a)
theorem zV [aC prog] (p:aG) (a:aK) (hl:p.aM.length<=1099511627776):Ok prog 115 [.agg (aI .view p),.agg (aL a)] (.int .i64 (pW (kQ a) p.aM)):=by
 refine bO aD func115 ntmps115 ?_;refine aZ ?_;refine aP (ι:={k:Nat // k<=p.aM.length/\∀x∈p.aM.take k,kQ a x=false}) (λt o i=>⟨bE t [(5,.int .i64 i.1)],o⟩)
  (λi=>p.aM.length - i.1) ⟨0,by simp⟩ aO ?_
 rintro ⟨k,hk,hpre⟩ K1 hK1;simp only [bE,cW,cU] at hK1⊢;have hk1:=oW (k:=k);by_cases hlt:k < p.aM.length
 .have hg:=aE hlt;have W:=aA hk1 (aA hg hlt);have c0:=nW p.aM[k].to a;repeat' first|refine wf ?_|(refine sq ?_ ?_<;>intro hc<;>try exact hc.elim)|fail
  .all_goals try(refine aV ?_;simp [aH,results115])
   rw [uM hlt (by simpa [kQ] using hc) hpre]
  .exact hK1 _ ⟨k+1,by omega,bZ hlt hpre (by simpa [kQ] using hc)⟩ aO (by simp only;omega)
 .have W:=hk1;refine we ?_;all_goals try(refine aV ?_;simp [aH,results115])
  rw [nA (iX (by omega) hpre)]
theorem M5 [aC prog] (m:dY) (a:aK):Ok prog 247 [.agg (eZ m),.fA .view (aL a) 0] (.bool (kQ a m)):=by
 refine bO aD func247 ntmps247 ?_;have c0:=nW m.to a;refine aZ ?_;all_goals try(refine aV ?_;simp [aH,results247])
 rfl
theorem Zn [aC prog] (l:List dY) (a:aK) (hl:l.length<=1099511627776):Ok prog 246 [.sl .view 5 (l.map eZ),.fn 247 [.fA .view (aL a) 0]] (.int .i64 (pW (kQ a) l)):=by
 refine bO aD func246 ntmps246 ?_;refine aZ ?_;refine aP (ι:={k:Nat // k<=l.length/\∀x∈l.take k,kQ a x=false}) (λt o i=>⟨bE t [(8,.int .i64 i.1),(5,.undef)],o⟩)
  (λi=>l.length - i.1) ⟨0,by simp⟩ aO ?_
 rintro ⟨k,hk,hpre⟩ K1 hK1;simp only [bE,cW,cU] at hK1⊢;have hk1:=oW (k:=k);by_cases hlt:k < l.length
 .have hg:=aE hlt;have W:=aA hk1 (aA hg hlt);have c0:=M5 l[k] a;repeat' first|refine wf ?_|(refine sq ?_ ?_<;>intro hc<;>try exact hc.elim)|fail
  .all_goals try(refine aV ?_;simp [aH,results246])
   rw [uM hlt (by simpa using hc) hpre]
  .exact hK1 _ ⟨k+1,by omega,bZ hlt hpre (by simpa using hc)⟩ aO (by simp only;omega)
 .have W:=hk1;refine we ?_;all_goals try(refine aV ?_;simp [aH,results246])
  rw [nA (iX (by omega) hpre)]
def iV (a x:aK):Bool:=decide (x=a)
theorem Bp [aC prog] (l:List aK) (a:aK) (hl:l.length<=1099511627776):Ok prog 172 [.sl .view 2 (l.map aL),.agg (aL a)] (.bool (l.any (iV a))):=by
 refine bO aD func172 ntmps172 ?_;refine aZ ?_;refine aP (ι:={k:Nat // k<=l.length/\∀x∈l.take k,iV a x=false}) (λt o i=>⟨bE t [(5,.int .i64 i.1)],o⟩)
  (λi=>l.length - i.1) ⟨0,by simp,by simp⟩ aO ?_
 rintro ⟨k,hk,hi⟩ K1 hK1;simp only [bE,cW,cU] at hK1⊢;have hk1:=oW (k:=k);by_cases hlt:k < l.length
 .have hg:=aE hlt;have W:=aA hk1 (aA hg hlt);have c0:=nW l[k] a;repeat' first|refine wf ?_|(refine sq ?_ ?_<;>intro hc<;>try exact hc.elim)|fail
  .all_goals try(refine aV ?_;simp [aH,results172])
   refine ⟨_,fN hlt,by simpa [iV] using hc⟩
  .exact hK1 _ ⟨k+1,by omega,bZ hlt hi (by simpa [iV] using hc)⟩ (aX 1) (by simp only;omega)
 .have W:=hk1;refine we ?_;all_goals try(refine aV ?_;simp [aH,results172])
  have:=iX (by omega) hi;simpa using this
theorem Xk [aC prog] (l:List aK) (a:aK) (hl:l.length<=1099511627776):Ok prog 279 [.sl .view 2 (l.map aL),.agg (aL a)] (.int .i64 (pW (iV a) l)):=by
 refine bO aD func279 ntmps279 ?_;refine aZ ?_;refine aP (ι:={k:Nat // k<=l.length/\∀x∈l.take k,iV a x=false}) (λt o i=>⟨bE t [(8,.int .i64 i.1),(5,.undef)],o⟩)
  (λi=>l.length - i.1) ⟨0,by simp,by simp⟩ aO ?_
 rintro ⟨k,hk,hi⟩ K1 hK1;simp only [bE,cW,cU] at hK1⊢;have hk1:=oW (k:=k);by_cases hlt:k < l.length
 .have hg:=aE hlt;have hq:EqA prog 42 (aL a) (aL l[k]) (decide (a=l[k])):=nW a l[k];have W:=aA hk1 (aA hg hlt);have c0:=hq;repeat' first|refine wf ?_|(refine sq ?_ ?_<;>intro hc<;>try exact hc.elim)|fail
  .all_goals try(refine aV ?_;simp [aH,results279])
   rw [uM hlt (by simp [iV];exact hc.symm) hi]
  .exact hK1 _ ⟨k+1,by omega,bZ hlt hi (by simp [iV];intro h;exact hc h.symm)⟩ (aX 1) (by simp only;omega)
 .have W:=hk1;refine we ?_;all_goals try(refine aV ?_;simp [aH,results279])
  rw [nA (iX (by omega) hi)]
theorem Ai [aC prog] (l:List aK) (a:aK) (hl:l.length<=1099511627776):Ok prog 248 [.sl .view 2 (l.map aL),.agg (aL a)] (.bool (l.any (iV a))):=by
 have c1:=Xk l a hl;simp only [aL] at c1;refine bO aD func248 ntmps248 ?_;refine aZ ?_;all_goals try(refine aV ?_;simp [aH,results248])
 exact FN _ _
theorem Re [aC prog] (l:List aK) (a:aK) (hl:l.length<=1099511627776):Ok prog 200 [.sl .view 2 (l.map aL),.agg (aL a)] (.bool (l.any (iV a))):=by have c1:=Ai l a hl;simp only [aL] at c1;refine bO aD func200 ntmps200 ?_;refine aZ ?_;exact aF results200
theorem XO [aC prog] (s t:bB):OkN prog 312 [.str s,.str t] (.int .i64 (Lib.compareBytes s t)):=
 ae (fn:=f312) (by kernel_rfl) (by decide+kernel) rfl (by decide+kernel) (by rfl) s t
theorem Na [aC prog] (s t:bB):Ok prog 303 [.str s,.str t] (.int .i64 (Lib.compareBytes s t)):=by refine bO aD func303 ntmps303 ?_;have c0:=XO s t;refine aZ ?_;exact aF results303
theorem CK [aC prog] (s t:bB):Ok prog 284 [.str s,.str t] (.int .i64 (Lib.compareBytes s t)):=by refine bO aD func284 ntmps284 ?_;have c0:=Na s t;refine aZ ?_;exact aF results284
def uP (a b:aK):Int:=if Lib.compareBytes a.host b.host≠0 then Lib.compareBytes a.host b.host else Lib.compareBytes a.path b.path
theorem Hy [aC prog] (a b:aK):Ok prog 258 [.agg (aL a),.agg (aL b)] (.int .i64 (uP a b)):=by
 have c1:=CK a.host b.host;have c2:=CK a.path b.path;unfold uP;generalize Lib.compareBytes a.host b.host=x at *;generalize Lib.compareBytes a.path b.path=y at *;by_cases hx:x=0
 .refine bO aD func258 ntmps258 ?_;have W:=hx;refine we ?_;all_goals try(refine aV ?_;simp [aH,results258,hx])
 .refine bO aD func258 ntmps258 ?_;have W:=hx;refine we ?_;all_goals try(refine aV ?_;simp [aH,results258,hx])
theorem CY:∀l:List UInt8,Op.bytesLess l l=false
 |[]=>rfl
 |x::l=>by simp [Op.bytesLess,CY l,UInt8.lt_irrefl]
theorem af (a b:aK):uP a b=if a=b then 0 else if (Op.bytesLess a.host b.host || (a.host == b.host&&Op.bytesLess a.path b.path))=true then -1 else 1:=by
 unfold uP;obtain ⟨h1,p1⟩:=a;obtain ⟨h2,p2⟩:=b;simp only [zw,aK.mk.injEq];by_cases e1:h1=h2
 .subst e1;by_cases e2:p1=p2
  .simp [e2]
  .have:=CY h1;simp [e2,this]
 .cases hb:Op.bytesLess h1 h2<;>simp [e1,hb]
theorem Hz [aC prog] (a b:aK):Ok prog 179 [.agg (aL a),.agg (aL b)] (.int .i64 (uP a b)):=by
 rw [af];have c1:=nW a b;by_cases he:a=b
 .subst he;simp only [aL,BY] at c1;refine bO aD func179 ntmps179 ?_;have c0:=c1;refine aZ ?_;exact aF results179
 .simp only [aL,he,decide_false] at c1;simp only [he,hH];cases h1:Op.bytesLess a.host b.host
  .by_cases h2:a.host=b.host
   .rw [h2] at c1;have h0:=CY b.host;cases h3:Op.bytesLess a.path b.path
    .refine bO aD func179 ntmps179 ?_;have W:=aA h0 (aA h1 (aA h2 h3));have c0:=c1;refine we ?_;all_goals try(refine aV ?_;simp [aH,results179,h0,h1,h2,h3])
    .refine bO aD func179 ntmps179 ?_;have W:=aA h0 (aA h1 (aA h2 h3));have c0:=c1;refine we ?_;all_goals try(refine aV ?_;simp [aH,results179,h0,h1,h2,h3])
   .refine bO aD func179 ntmps179 ?_;have W:=aA h1 h2;have c0:=c1;refine we ?_;all_goals try(refine aV ?_;simp [aH,results179,h1,h2])
  .refine bO aD func179 ntmps179 ?_;have W:=h1;have c0:=c1;refine we ?_;all_goals try(refine aV ?_;simp [aH,results179,h1])
def wL (l:List dY) (a:aK):Nat:=(l.takeWhile λm=>decide (uP m.to a < 0)).length
theorem Gl {a:aK}:∀{l:List dY} {k:Nat},k<=l.length->(∀x∈l.take k,uP x.to a < 0)->(∀m,l[k]? =some m->¬uP m.to a < 0)->wL l a=k
 |[],k,h,_,_=>by simp at h;subst h;rfl
 |m::l,0,_,_,h=>by simp [wL,h m rfl]
 |m::l,k+1,h0,h1,h2=>by have ih:=Gl (a:=a) (l:=l) (k:=k) (by simpa using h0) (λx hx=>h1 x (by simp [hx])) (λm hm=>h2 m (by simpa using hm));have:=h1 m (by simp);simp only [wL,takeWhile_cons,rL this,eN] at ih⊢;simpa using ih
def BH (p:aG) (a:aK):dY:=if fH p.bD ⟨5,a,p.addr.host,[]⟩=1 then ⟨a,false,0,[]⟩ else ⟨a,true,2,[]⟩
def vY (p:aG) (a:aK) (k:Nat):List dY:=p.aM.take k++BH p a::p.aM.drop k
def eU (p:aG) (a:aK):aG:=
 match p.aM[wL p.aM a]? with
 |some m=>if m.to=a then p else {p with aM:=vY p a (wL p.aM a)}
 |none=>{p with aM:=vY p a (wL p.aM a)}
end Go.Proofs.YtdcpobkemdacnaaGreatDoor
