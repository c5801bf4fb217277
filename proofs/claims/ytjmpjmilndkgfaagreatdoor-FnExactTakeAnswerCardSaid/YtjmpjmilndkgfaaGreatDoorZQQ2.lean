/- Proved here: steps towards the statement of this claim. No condition. -/
import Derived.Test.YtjmpjmilndkgfaaGreatDoorZQ1
import Derived.Test.YtjmpjmilndkgfaaGreatDoorZQMK1
import Derived.Test.YtjmpjmilndkgfaaGreatDoorZQAwIns
set_option linter.all false
set_option maxRecDepth 4000
set_option maxHeartbeats 4000000
namespace Go.Proofs.YtjmpjmilndkgfaaGreatDoor
open Go.Aw Proofs.Tryz List IntKind
theorem O7 {a b:aT}:aO a=aO b↔a=b:=by obtain ⟨a1,a2⟩:=a;obtain ⟨b1,b2⟩:=b;simp
theorem uO (a b:aT):EqA prog 44 (aO a) (aO b) (decide (a=b)):=
 aLj (f:=6) (ss:=[.str,.str]) (by decide) (by kernel_rfl) (by kernel_rfl) (by kernel_rfl) (by kernel_rfl) (by simp [xC,Rh]) (by simp [xC,Rh]) (by rw [O7,decide_eq_true_iff])
def kX (a:aT) (m:dB):Bool:=decide (m.to=a)
theorem zQ [aC prog] (p:aI) (a:aT) (hl:p.aN.length<=1099511627776):Ok prog 68 [.agg (aJ .view p),.agg (aO a)] (.int .i64 (wX (kX a) p.aN)):=by
 refine bR aD func68 ntmps68 ?_;refine bH ?_;refine aL (ι:={k:Nat // k<=p.aN.length/\∀x∈p.aN.take k,kX a x=false}) (λt o i=>⟨bD t [(5,.int .i64 i.1)],o⟩)
  (λi=>p.aN.length - i.1) ⟨0,by simp⟩ aH ?_
 rintro ⟨k,hk,hpre⟩ K1 hK1;simp only [bD,cW,cU] at hK1⊢;have hk1:=oW (k:=k);by_cases hlt:k < p.aN.length
 .have hg:=aE hlt;have W:=aA hk1 (aA hg hlt);have c0:=uO p.aN[k].to a;repeat' first|refine wf ?_|(refine sq ?_ ?_<;>intro hc<;>try exact hc.elim)|fail
  .all_goals try(refine aR ?_;simp [aG,results68])
   rw [DY hlt (by simpa [kX] using hc) hpre]
  .exact hK1 _ ⟨k+1,by omega,dV hlt hpre (by simpa [kX] using hc)⟩ aH (by simp only;omega)
 .have W:=hk1;refine we ?_;all_goals try(refine aR ?_;simp [aG,results68])
  rw [wI (mQ (by omega) hpre)]
theorem O8 [aC prog] (m:dB) (a:aT):Ok prog 143 [.agg (bU m),.gD .view (aO a) 0] (.bool (kX a m)):=by
 refine bR aD func143 ntmps143 ?_;have c0:=uO m.to a;refine bH ?_;all_goals try(refine aR ?_;simp [aG,results143])
 rfl
theorem Zz [aC prog] (l:List dB) (a:aT) (hl:l.length<=1099511627776):Ok prog 142 [.sl .view 5 (l.map bU),.fn 143 [.gD .view (aO a) 0]] (.int .i64 (wX (kX a) l)):=by
 refine bR aD func142 ntmps142 ?_;refine bH ?_;refine aL (ι:={k:Nat // k<=l.length/\∀x∈l.take k,kX a x=false}) (λt o i=>⟨bD t [(8,.int .i64 i.1),(5,.undef)],o⟩)
  (λi=>l.length - i.1) ⟨0,by simp⟩ aH ?_
 rintro ⟨k,hk,hpre⟩ K1 hK1;simp only [bD,cW,cU] at hK1⊢;have hk1:=oW (k:=k);by_cases hlt:k < l.length
 .have hg:=aE hlt;have W:=aA hk1 (aA hg hlt);have c0:=O8 l[k] a;repeat' first|refine wf ?_|(refine sq ?_ ?_<;>intro hc<;>try exact hc.elim)|fail
  .all_goals try(refine aR ?_;simp [aG,results142])
   rw [DY hlt (by simpa using hc) hpre]
  .exact hK1 _ ⟨k+1,by omega,dV hlt hpre (by simpa using hc)⟩ aH (by simp only;omega)
 .have W:=hk1;refine we ?_;all_goals try(refine aR ?_;simp [aG,results142])
  rw [wI (mQ (by omega) hpre)]
def iT (a x:aT):Bool:=decide (x=a)
theorem Bt [aC prog] (l:List aT) (a:aT) (hl:l.length<=1099511627776):Ok prog 170 [.sl .view 2 (l.map aO),.agg (aO a)] (.bool (l.any (iT a))):=by
 refine bR aD func170 ntmps170 ?_;refine bH ?_;refine aL (ι:={k:Nat // k<=l.length/\∀x∈l.take k,iT a x=false}) (λt o i=>⟨bD t [(5,.int .i64 i.1)],o⟩)
  (λi=>l.length - i.1) ⟨0,by simp,by simp⟩ aH ?_
 rintro ⟨k,hk,hi⟩ K1 hK1;simp only [bD,cW,cU] at hK1⊢;have hk1:=oW (k:=k);by_cases hlt:k < l.length
 .have hg:=aE hlt;have W:=aA hk1 (aA hg hlt);have c0:=uO l[k] a;repeat' first|refine wf ?_|(refine sq ?_ ?_<;>intro hc<;>try exact hc.elim)|fail
  .all_goals try(refine aR ?_;simp [aG,results170])
   refine ⟨_,fR hlt,by simpa [iT] using hc⟩
  .exact hK1 _ ⟨k+1,by omega,dV hlt hi (by simpa [iT] using hc)⟩ (aW 1) (by simp only;omega)
 .have W:=hk1;refine we ?_;all_goals try(refine aR ?_;simp [aG,results170])
  have:=mQ (by omega) hi;simpa using this
theorem Xh [aC prog] (l:List aT) (a:aT) (hl:l.length<=1099511627776):Ok prog 272 [.sl .view 2 (l.map aO),.agg (aO a)] (.int .i64 (wX (iT a) l)):=by
 refine bR aD func272 ntmps272 ?_;refine bH ?_;refine aL (ι:={k:Nat // k<=l.length/\∀x∈l.take k,iT a x=false}) (λt o i=>⟨bD t [(8,.int .i64 i.1),(5,.undef)],o⟩)
  (λi=>l.length - i.1) ⟨0,by simp,by simp⟩ aH ?_
 rintro ⟨k,hk,hi⟩ K1 hK1;simp only [bD,cW,cU] at hK1⊢;have hk1:=oW (k:=k);by_cases hlt:k < l.length
 .have hg:=aE hlt;have hq:EqA prog 44 (aO a) (aO l[k]) (decide (a=l[k])):=uO a l[k];have W:=aA hk1 (aA hg hlt);have c0:=hq;repeat' first|refine wf ?_|(refine sq ?_ ?_<;>intro hc<;>try exact hc.elim)|fail
  .all_goals try(refine aR ?_;simp [aG,results272])
   rw [DY hlt (by simp [iT];exact hc.symm) hi]
  .exact hK1 _ ⟨k+1,by omega,dV hlt hi (by simp [iT];intro h;exact hc h.symm)⟩ (aW 1) (by simp only;omega)
 .have W:=hk1;refine we ?_;all_goals try(refine aR ?_;simp [aG,results272])
  rw [wI (mQ (by omega) hi)]
theorem Ad [aC prog] (l:List aT) (a:aT) (hl:l.length<=1099511627776):Ok prog 238 [.sl .view 2 (l.map aO),.agg (aO a)] (.bool (l.any (iT a))):=by
 have c1:=Xh l a hl;simp only [aO] at c1;refine bR aD func238 ntmps238 ?_;refine bH ?_;all_goals try(refine aR ?_;simp [aG,results238])
 exact Fb _ _
theorem Ri [aC prog] (l:List aT) (a:aT) (hl:l.length<=1099511627776):Ok prog 189 [.sl .view 2 (l.map aO),.agg (aO a)] (.bool (l.any (iT a))):=by have c1:=Ad l a hl;simp only [aO] at c1;refine bR aD func189 ntmps189 ?_;refine bH ?_;exact aK results189
theorem Xk [aC prog] (s t:bF):OkN prog 284 [.str s,.str t] (.int .i64 (Lib.compareBytes s t)):=
 ZF (fn:=f284) (by kernel_rfl) (by decide+kernel) rfl (by decide+kernel) (by rfl) s t
theorem Me [aC prog] (s t:bF):Ok prog 255 [.str s,.str t] (.int .i64 (Lib.compareBytes s t)):=by refine bR aD func255 ntmps255 ?_;have c0:=Xk s t;refine bH ?_;exact aK results255
theorem Co [aC prog] (s t:bF):Ok prog 204 [.str s,.str t] (.int .i64 (Lib.compareBytes s t)):=by refine bR aD func204 ntmps204 ?_;have c0:=Me s t;refine bH ?_;exact aK results204
def sW (a b:aT):Int:=if Lib.compareBytes a.host b.host≠0 then Lib.compareBytes a.host b.host else Lib.compareBytes a.path b.path
theorem Gu [aC prog] (a b:aT):Ok prog 153 [.agg (aO a),.agg (aO b)] (.int .i64 (sW a b)):=by
 have c1:=Co a.host b.host;have c2:=Co a.path b.path;unfold sW;generalize Lib.compareBytes a.host b.host=x at *;generalize Lib.compareBytes a.path b.path=y at *;by_cases hx:x=0
 .refine bR aD func153 ntmps153 ?_;have W:=hx;refine we ?_;all_goals try(refine aR ?_;simp [aG,results153,hx])
 .refine bR aD func153 ntmps153 ?_;have W:=hx;refine we ?_;all_goals try(refine aR ?_;simp [aG,results153,hx])
theorem CG:∀l:List UInt8,Op.bytesLess l l=false
 |[]=>rfl
 |x::l=>by simp [Op.bytesLess,CG l,UInt8.lt_irrefl]
theorem ZG (a b:aT):sW a b=if a=b then 0 else if (Op.bytesLess a.host b.host || (a.host == b.host&&Op.bytesLess a.path b.path))=true then -1 else 1:=by
 unfold sW;obtain ⟨h1,p1⟩:=a;obtain ⟨h2,p2⟩:=b;simp only [zb,aT.mk.injEq];by_cases e1:h1=h2
 .subst e1;by_cases e2:p1=p2
  .simp [e2]
  .have:=CG h1;simp [e2,this]
 .cases hb:Op.bytesLess h1 h2<;>simp [e1,hb]
theorem Gv [aC prog] (a b:aT):Ok prog 124 [.agg (aO a),.agg (aO b)] (.int .i64 (sW a b)):=by
 rw [ZG];have c1:=uO a b;by_cases he:a=b
 .subst he;simp only [aO,DO] at c1;refine bR aD func124 ntmps124 ?_;have c0:=c1;refine bH ?_;exact aK results124
 .simp only [aO,he,decide_false] at c1;simp only [he,gS];cases h1:Op.bytesLess a.host b.host
  .by_cases h2:a.host=b.host
   .rw [h2] at c1;have h0:=CG b.host;cases h3:Op.bytesLess a.path b.path
    .refine bR aD func124 ntmps124 ?_;have W:=aA h0 (aA h1 (aA h2 h3));have c0:=c1;refine we ?_;all_goals try(refine aR ?_;simp [aG,results124,h0,h1,h2,h3])
    .refine bR aD func124 ntmps124 ?_;have W:=aA h0 (aA h1 (aA h2 h3));have c0:=c1;refine we ?_;all_goals try(refine aR ?_;simp [aG,results124,h0,h1,h2,h3])
   .refine bR aD func124 ntmps124 ?_;have W:=aA h1 h2;have c0:=c1;refine we ?_;all_goals try(refine aR ?_;simp [aG,results124,h1,h2])
  .refine bR aD func124 ntmps124 ?_;have W:=h1;have c0:=c1;refine we ?_;all_goals try(refine aR ?_;simp [aG,results124,h1])
def xY (l:List dB) (a:aT):Nat:=(l.takeWhile λm=>decide (sW m.to a < 0)).length
theorem FH {a:aT}:∀{l:List dB} {k:Nat},k<=l.length->(∀x∈l.take k,sW x.to a < 0)->(∀m,l[k]? =some m->¬sW m.to a < 0)->xY l a=k
 |[],k,h,_,_=>by simp at h;subst h;rfl
 |m::l,0,_,_,h=>by simp [xY,h m rfl]
 |m::l,k+1,h0,h1,h2=>by have ih:=FH (a:=a) (l:=l) (k:=k) (by simpa using h0) (λx hx=>h1 x (by simp [hx])) (λm hm=>h2 m (by simpa using hm));have:=h1 m (by simp);simp only [xY,takeWhile_cons,sB this,eL] at ih⊢;simpa using ih
def Bz (p:aI) (a:aT):dB:=if fH p.bG ⟨5,a,p.addr.host,[]⟩=1 then ⟨a,false,0,[]⟩ else ⟨a,true,2,[]⟩
def vN (p:aI) (a:aT) (k:Nat):List dB:=p.aN.take k++Bz p a::p.aN.drop k
def gT (p:aI) (a:aT):aI:=
 match p.aN[xY p.aN a]? with
 |some m=>if m.to=a then p else {p with aN:=vN p a (xY p.aN a)}
 |none=>{p with aN:=vN p a (xY p.aN a)}
end Go.Proofs.YtjmpjmilndkgfaaGreatDoor
