/- Proved here: steps towards the statement of this claim. No condition. -/
import Derived.Test.YthddijamfbfibaaGreatDoorZYFacts
import Derived.Test.YthddijamfbfibaaGreatDoorZF8
import Derived.Lib.Overlaps
import Derived.Lib.AppendZerosOnto
set_option linter.all false
namespace Go.Proofs.YthddijamfbfibaaGreatDoor
theorem aG:Tryz.prog.follows .mixedOrders=true:=by kernel_rfl
end Go.Proofs.YthddijamfbfibaaGreatDoor
set_option maxRecDepth 4000
set_option maxHeartbeats 4000000
namespace Go.Proofs.YthddijamfbfibaaGreatDoor
open Go.Aw Proofs.Tryz List IntKind
theorem toAddr_ok[aB prog](a:aD)(hs:aQ a<=1048576):Ok prog 8 [.agg (aH a)] (.agg (aH a)):=by simp only[aQ]at hs;refine bM aG func8 ntmps8 ?_;refine gV ?_;exact aF results8
theorem NS[aB prog](a:aD)(n:Int)(h0:0<=n)(h1:n<=1048576)(hw:NI a):Ok prog 5 [.agg (aH a),.int .i64 n] (.int .i64 (sub n (aQ a))):=by
 simp only[NI]at hw;obtain⟨aSv,aSw⟩:=hw;refine bM aG func5 ntmps5 ?_;have W:=trivial;repeat' first|refine wg ?_|(refine sq ?_ ?_<;>intro hc<;>try exact hc.elim)|fail
 all_goals try(refine aR ?_;simp[aP,results5,aQ])
 all_goals (
  repeat (simp (disch:=omega) only[wrap64]at*)
  (try simp only[sub]);(try split);all_goals omega)
theorem NT[aB prog](a b:aD)(hs:aQ a<=1099511627776):Ok prog 26 [.agg (aH a),.agg (aH b)] (.bool (decide (a=b))):=by
 simp only[aQ]at hs;refine bM aG func26 ntmps26 ?_;have W:=trivial;repeat' first|refine wg ?_|(refine sq ?_ ?_<;>intro hc<;>try exact hc.elim)|fail
 all_goals try(refine aR ?_;simp[aP,results26])
 all_goals ((repeat clear hK K);cases a;cases b;simp_all)
theorem toResponse_ok[aB prog](a:bA)(hs:bG a<=1048576):Ok prog 140 [.agg (bF a)] (.agg (bF a)):=by simp only[bG]at hs;refine bM aG func140 ntmps140 ?_;refine gV ?_;exact aF results140
theorem Jm[aB prog](a:bA)(n:Int)(h0:0<=n)(h1:n<=1048576)(hw:ER a):Ok prog 108 [.agg (bF a),.int .i64 n] (.int .i64 (sub n (bG a))):=by
 simp only[ER]at hw;obtain⟨aYa,aUf⟩:=hw;refine bM aG func108 ntmps108 ?_;have W:=trivial;repeat' first|refine wg ?_|(refine sq ?_ ?_<;>intro hc<;>try exact hc.elim)|fail
 all_goals try(refine aR ?_;simp[aP,results108,bG])
 all_goals (
  repeat (simp (disch:=omega) only[wrap64]at*)
  (try simp only[sub]);(try split);all_goals omega)
theorem Jn[aB prog](a b:bA)(hs:bG a<=1099511627776):Ok prog 177 [.agg (bF a),.agg (bF b)] (.bool (decide (a=b))):=by
 simp only[bG]at hs;refine bM aG func177 ntmps177 ?_;have W:=trivial;repeat' first|refine st ?_|(refine nx ?_;refine so ?_)|(refine cx ?_;refine sc (λhc=>?_) (λhc=>?_)<;>try exact hc.elim)|(refine lx ?_;refine sp (λhc=>?_) (λhc=>?_)<;>try exact hc.elim)|refine sx ?_ ?_|refine sy ?_ ?_|fail
 all_goals try(refine aR ?_;simp[aP,results177])
 all_goals ((repeat clear hK K);cases a;cases b;simp_all)
end Go.Proofs.YthddijamfbfibaaGreatDoor
set_option maxRecDepth 4000
set_option maxHeartbeats 4000000
namespace Go.Proofs.YthddijamfbfibaaGreatDoor
open Go.Aw Proofs.Tryz List IntKind
theorem zy[aB prog](a b:List aD)(hs:bP aQ a<=1099511627776):Ok prog 10 [.sl .view 2 (a.map aH),.sl .view 2 (b.map aH)] (.bool (decide (a=b))):=by
 have hl:a.length<=1099511627776:=by(try simp only[bP]at hs);omega
 refine bM aG func10 ntmps10 ?_;have W:=trivial;repeat' first|refine wg ?_|(refine sq ?_ ?_<;>intro hc<;>try exact hc.elim)|fail
 .all_goals try(refine aR ?_;simp[aP,results10])
  intro h;subst h;exact absurd rfl hc
 .have hlen:a.length=b.length:=by omega
  refine aM (ι:={k:Nat // k<=a.length/\a.take k=b.take k}) (λt o i=>⟨bC t [(5,.int .i64 i.1)],[]⟩)
   (λi=>a.length-i.1) ⟨0,by simp⟩ aK ?_
  rintro⟨k,hk,hpre⟩ K1 hK1;simp only[bC,cW,cU]at hK1⊢;have hk1:=oQ (k:=k);by_cases hlt:k<a.length
  .have hg:=aE hlt;have EX:k<b.length:=by omega
   have hgb:=aE EX;have W:=aA hk1 (aA hg (aA hlt (aA hgb EX)));repeat' first|refine wg ?_|(refine nx ?_;refine sk (hc:=NT a[k] b[k] (by have:=dI aQ a k hlt;(try simp only[bP]at hs);omega)) (h:=?_))|(refine sq ?_ ?_<;>intro hc<;>try exact hc.elim)|fail
   .all_goals try(refine aR ?_;simp[aP,results10])
    intro h;subst h;exact hc rfl
   .have hts:a.take (k+1)=b.take (k+1):=by rw[eJ hlt,eJ EX,hpre,hc]
    refine hK1 _ ⟨k+1,by omega,hts⟩ aK (by simp only;omega)
  .have hka:a.length<=k:=by omega
   rw[cX hka,cX (by omega)]at hpre;subst hpre;have W:=hk1;refine wl ?_;exact aF results10
end Go.Proofs.YthddijamfbfibaaGreatDoor
set_option maxRecDepth 4000
set_option maxHeartbeats 4000000
namespace Go.Proofs.YthddijamfbfibaaGreatDoor
open Go.Aw Proofs.Tryz List IntKind
end Go.Proofs.YthddijamfbfibaaGreatDoor
set_option maxRecDepth 4000
set_option maxHeartbeats 4000000
namespace Go.Proofs.YthddijamfbfibaaGreatDoor
open Go.Aw Proofs.Tryz List IntKind
end Go.Proofs.YthddijamfbfibaaGreatDoor
set_option maxRecDepth 4000
set_option maxHeartbeats 4000000
namespace Go.Proofs.YthddijamfbfibaaGreatDoor
open Go.Aw Proofs.Tryz List IntKind
end Go.Proofs.YthddijamfbfibaaGreatDoor
set_option maxRecDepth 4000
set_option maxHeartbeats 400000
namespace Go.Proofs.YthddijamfbfibaaGreatDoor
open Go.Aw Proofs.Tryz List IntKind
theorem gH[aB prog](a b c:Int):Ok prog 117 [.int .i64 a,.int .i64 b,.int .i64 c] (.bool (decide (b<=a)&&decide (a<=c))):=by
 refine bM aG func117 ntmps117 ?_;have W:=trivial;repeat' first|refine wg ?_|(refine sq ?_ ?_<;>intro hc<;>try exact hc.elim)|fail
 all_goals try(refine aR ?_;simp[aP,results117])
 all_goals (first|(simp_all;done)|(simp_all;omega))
theorem jR[aB prog](a b c:Int):Ok prog 149 [.int .i64 a,.int .i64 b,.int .i64 c] (.bool (decide (b<=a)&&decide (a<=c))):=by
 refine bM aG func149 ntmps149 ?_;have W:=trivial;repeat' first|refine wg ?_|(refine sq ?_ ?_<;>intro hc<;>try exact hc.elim)|fail
 all_goals try(refine aR ?_;simp[aP,results149])
 all_goals (first|(simp_all;done)|(simp_all;omega))
theorem aAg{s:bB}{k:Nat}(h:k<s.length)(hc:lowerB s[k]=false):cZ s=false:=by
 have:s.all lowerB=false:=by rw[all_eq_false];exact⟨s[k],fS h,by simp[hc]⟩
 simp[cZ,this]
theorem aAh{s:bB}{k:Nat}(h:k<s.length)(hc:(s[k].toNat:Int)<97):cZ s=false:=aAg h (by simp[lowerB];omega)
theorem aAi{s:bB}{k:Nat}(h:k<s.length)(hc:122<(s[k].toNat:Int)):cZ s=false:=aAg h (by simp[lowerB];omega)
theorem XC{c:UInt8}(h:97<=(c.toNat:Int))(hc:(c.toNat:Int)<=122):lowerB c=true:=by simp[lowerB];omega
theorem jo{s:bB}(h:∀x∈s,lowerB x=true):cZ s=(decide ((1:Int)<=s.length)&&decide ((s.length:Int)<=8)):=by
 have:s.all lowerB=true:=fR.2 h;have h1:decide ((1:Int)<=s.length)=decide (1<=s.length):=by simp only[sR];omega
 have h2:decide ((s.length:Int)<=8)=decide (s.length<=8):=by simp only[sR];omega
 rw[cZ,this,h1,h2,CH]
theorem fD[aB prog](s:bB)(hl:s.length<=1099511627776):Ok prog 111 [.str s] (.bool (cZ s)):=by
 have h1:=gH s.length 1 8;refine bM aG func111 ntmps111 ?_;refine gV ?_;refine aM (ι:={k:Nat // k<=s.length/\∀x∈s.take k,lowerB x=true}) (λt o i=>⟨bC t [(3,.int .i64 i.1)],o⟩)
  (λi=>s.length-i.1) ⟨0,by simp,by simp⟩ aK ?_
 rintro⟨k,hk,hi⟩ K1 hK1;simp only[bC,cW,cU]at hK1⊢;have hk1:=oQ (k:=k);by_cases hlt:k<s.length
 .have hg:=aE hlt;have W:=aA hk1 (aA hg hlt);repeat' first|refine wg ?_|(refine sq ?_ ?_<;>intro hc<;>try exact hc.elim)|fail
  .skip
   all_goals try(refine aR ?_;simp[aP,results111])
   rw[aAh hlt (by assumption)]
  .skip
   all_goals try(refine aR ?_;simp[aP,results111])
   rw[aAi hlt (by assumption)]
  .skip
   exact hK1 _ ⟨k+1,by omega,bZ hlt hi (XC (by assumption) (by assumption))⟩ aK (by simp only;omega)
 .have W:=hk1;refine wl ?_;all_goals try(refine aR ?_;simp[aP,results111])
  rw[jo (iW (by omega) hi)]
theorem gL[aB prog](s:bB)(hl:s.length<=1099511627776):Ok prog 143 [.str s] (.bool (cZ s)):=by
 have h1:=jR s.length 1 8;refine bM aG func143 ntmps143 ?_;refine gV ?_;refine aM (ι:={k:Nat // k<=s.length/\∀x∈s.take k,lowerB x=true}) (λt o i=>⟨bC t [(3,.int .i64 i.1)],o⟩)
  (λi=>s.length-i.1) ⟨0,by simp,by simp⟩ aK ?_
 rintro⟨k,hk,hi⟩ K1 hK1;simp only[bC,cW,cU]at hK1⊢;have hk1:=oQ (k:=k);by_cases hlt:k<s.length
 .have hg:=aE hlt;have W:=aA hk1 (aA hg hlt);repeat' first|refine wg ?_|(refine sq ?_ ?_<;>intro hc<;>try exact hc.elim)|fail
  .skip
   all_goals try(refine aR ?_;simp[aP,results143])
   rw[aAh hlt (by assumption)]
  .skip
   all_goals try(refine aR ?_;simp[aP,results143])
   rw[aAi hlt (by assumption)]
  .skip
   exact hK1 _ ⟨k+1,by omega,bZ hlt hi (XC (by assumption) (by assumption))⟩ aK (by simp only;omega)
 .have W:=hk1;refine wl ?_;all_goals try(refine aR ?_;simp[aP,results143])
  rw[jo (iW (by omega) hi)]
theorem rW[aB prog](a:aD)(hl:aQ a<=1099511627776):Ok prog 63 [.agg (aH a)] (.bool (pG a)):=by
 simp only[aQ]at hl;have h1:=fD a.host (by omega);have h2:=fD a.path (by omega);refine bM aG func63 ntmps63 ?_;have W:=trivial;repeat' first|refine wg ?_|(refine sq ?_ ?_<;>intro hc<;>try exact hc.elim)|fail
 all_goals try(refine aR ?_;simp[aP,results63])
 all_goals simp_all[pG]
theorem rX[aB prog](a:aD)(hl:aQ a<=1099511627776):Ok prog 87 [.agg (aH a)] (.bool (pG a)):=by
 simp only[aQ]at hl;have h1:=gL a.host (by omega);have h2:=gL a.path (by omega);refine bM aG func87 ntmps87 ?_;have W:=trivial;repeat' first|refine wg ?_|(refine sq ?_ ?_<;>intro hc<;>try exact hc.elim)|fail
 all_goals try(refine aR ?_;simp[aP,results87])
 all_goals simp_all[pG]
end Go.Proofs.YthddijamfbfibaaGreatDoor
namespace Go.Aw
open List
theorem Ff{P:Program}{w:World}{dT sT ty elem:TypeId}{i:TypeInfo}{b o aS3 aWh b2 o2 sLen sCap n:Nat}{C:Array Value}{e:TypeId}{fz:Nat×Nat}{cs:List Value}{q:Prop}
  (hu:P.underlying dT=some (.slice elem)) (hi:P.info? elem=some i) (hm:Nat.min sLen aS3=n) (hn:cs.length=n*i.size)
  (aOn:bK w b2 o2 cs) (hb:w.heap[b]? =some (.cells C e fz)) (hz:(C.size<=fz.1/\q)\/fz.2=0) (hfit:o+cs.length<=C.size) (h1:∀v∈cs,v.oneCell'=true):
  (Builtin.copy_ #[dT,sT] ty #[.slice (some ⟨b,o,none⟩) aS3 aWh,.slice (some ⟨b2,o2,none⟩) sLen sCap]).run P w= .ok (goInt n) (w.setCells b o cs):=by
 have hl:=kR (P:=P) (w:=w) (len:=sLen) (cap:=sCap) hn aOn;have hst:=uM (P:=P) hb hz hfit h1;simp[Builtin.copy_,gC hu,Builtin.lenOf,sizeOf,typeInfo,hi,hm,hl,hst]
theorem GQ{w:World}{b o:Nat}{C:Array Value}{e:TypeId}{fz:Nat×Nat}{cs:List Value}(hb:w.heap[b]? =some (.cells C e fz))(hfit:o+cs.length<=C.size):bK (w.setCells b o cs) b o cs:=by
 intro j v hv;have hj:j<cs.length:=(cH.1 hv).1;have:=Cd b cs o w (λj hj=>by
  have:o+j<C.size:=by omega
  simp[World.cell?,hb,this]) j hj
 rw[this];rw[aE hj]at hv;exact hv
theorem wI{w:World}{b o b2 p:Nat}{cs ds:List Value}(h:bK w b2 p ds)(ho:b2=b->p+ds.length<=o\/o+cs.length<=p):bK (w.setCells b o cs) b2 p ds:=by
 intro j v hv;have hj:j<ds.length:=(cH.1 hv).1;rw[By]
 .exact h j v hv
 .intro h1 _;have:=ho h1;simp only;omega
structure Wl(w w':World)(b k n:Nat)(cs:List Value)(v:Value)(b' off' cap':Nat)(C':Array Value)(e':TypeId)(VE:Nat × Nat): Prop where
  ret:v = .slice (some ⟨b', off', none⟩) n cap'
  Ak:w'.heap[b']? = some (.cells C' e' VE)
  hz:(C'.size <= VE.1 /\ k = 1) \/ VE.2 = 0
  fit:off'+cap'*k <= C'.size
  len:n <= cap'
  max:cap' <= maxLen
  at':bK w' b' off' cs
  new:b' = b \/ w.heap.size <= b'
  lt:b'<w'.heap.size
  size:w.heap.size <= w'.heap.size
  frame:∀ x, x<w.heap.size -> x ≠ b -> w'.heap[x]? = w.heap[x]?
  same:mI w w'
theorem TH{b:Nat}:∀(vs:List Value) (o:Nat) {w w0:World},w0.heap=w.heap->(w0.setCells b o vs).heap=(w.setCells b o vs).heap
 |[],_,_,_,h=>h
 |v::r,o,w,w0,h=>by rw[World.setCells,World.setCells];exact TH r (o+1) (by simp[World.setCell,h])
theorem K4{w W1:World}{b off n c i k:Nat}{C:Array Value}{e:TypeId}{fz:Nat×Nat}{olds news:List Value}(hb:w.heap[b]? =some (.cells C e fz))(hz:(C.size<=fz.1/\k=1)\/fz.2=0)
  (hc:bK w b off olds) (hol:olds.length=n*k) (hnl:news.length=k) (hi:i<n) (hroom:n+1<=c) (hfit:off+c*k<=C.size) (hmax:c<=maxLen)
  (hW:W1.heap=(w.setCells b (off+(i+1)*k) (olds.drop (i*k))).heap) (hs:mI w W1):
  ∃C',Wl w (W1.setCells b (off+i*k) news) b k (n+1) (olds.take (i*k)++news++olds.drop (i*k)) (.slice (some ⟨b,off,none⟩) (n+1) c) b off c C' e fz:=by
 have hik:i*k+k<=n*k:=by rw[<-AN];exact lE k hi
 have hnk:(n+1)*k<=c*k:=lE k hroom;have aS4:(n+1)*k=n*k+k:=AN n k;have aWi:(i+1)*k=i*k+k:=AN i k;have hdl:(olds.drop (i*k)).length=n*k-i*k:=by rw[AE,hol]
 have htl:(olds.take (i*k)).length=i*k:=by rw[oT,hol];omega
 obtain⟨C1,mh,LW⟩:=jT b e fz (olds.drop (i*k)) (off+(i+1)*k) w C hb;rw[<-hW]at mh;obtain⟨C2,hC2,aLo⟩:=jT b e fz news (off+i*k) _ C1 mh;have hlt:b<w.heap.size:=(pH.1 hb).1;have hsz:W1.heap.size=w.heap.size:=by rw[hW,gX]
 refine⟨C2,rfl,hC2,by rw[aLo,LW];exact hz,by rw[aLo,LW];exact hfit,hroom,hmax,?_,.inl rfl,by rw[gX,hsz];exact hlt,by rw[gX,hsz];exact eC _,?_,hs.trans (kQ _ _ _ _)⟩
 .refine bK.append.2 ⟨bK.append.2 ⟨?_,?_⟩,?_⟩
  .refine wI ((wI hc.take λ_=> ?_:bK (w.setCells b (off+(i+1)*k) (olds.drop (i*k))) b off (olds.take (i*k))).heap hW) λ_=> ?_
   .rw [htl];left;omega
   .rw [htl];left;omega
  .rw [htl];exact GQ mh (by omega)
  .rw [eR,htl,hnl,show off+(i*k+k)=off+(i+1)*k by omega];refine wI ((GQ hb (by omega):bK (w.setCells b (off+(i+1)*k) (olds.drop (i*k))) b (off+(i+1)*k) (olds.drop (i*k))).heap hW) λ_=> ?_
   right;omega
 .intro x hx hne;rw[mF b x hne,hW,mF b x hne]
theorem aCn{w W1 W2:World}{b n i k cap:Nat}{ROW:Array Value}{e:TypeId}{olds news:List Value}(hol:olds.length=n*k)(hnl:news.length=k)(hi:i<n)
  (hR:∀(j:Nat) (v:Value),(olds.take (i*k))[j]? =some v->ROW[j]? =some v) (hRs:cap*k<=ROW.size) (hcap:n+1<=cap) (hmax:cap<=maxLen)
  (hN:W1.heap[w.heap.size]? =some (.cells ROW e (0,0))) (hO:∀x,x<w.heap.size->W1.heap[x]? =w.heap[x]?) (hs1:mI w W1)
  (hW:W2.heap=(W1.setCells w.heap.size (i*k) news).heap) (hs2:mI W1 W2):
  ∃C',Wl w (W2.setCells w.heap.size ((i+1)*k) (olds.drop (i*k))) b k (n+1) (olds.take (i*k)++news++olds.drop (i*k)) (.slice (some ⟨w.heap.size,0,none⟩) (n+1) cap) w.heap.size 0 cap C' e (0,0):=by
 have hik:i*k+k<=n*k:=by rw[<-AN];exact lE k hi
 have hnk:(n+1)*k<=cap*k:=lE k hcap;have aS4:(n+1)*k=n*k+k:=AN n k;have aWi:(i+1)*k=i*k+k:=AN i k;have hdl:(olds.drop (i*k)).length=n*k-i*k:=by rw[AE,hol]
 have htl:(olds.take (i*k)).length=i*k:=by rw[oT,hol];omega
 obtain⟨C1,mh,LW⟩:=jT w.heap.size e (0,0) news (i*k) W1 ROW hN;rw[<-hW]at mh;obtain⟨C2,hC2,aLo⟩:=jT w.heap.size e (0,0) (olds.drop (i*k)) ((i+1)*k) W2 C1 mh;have hlt:w.heap.size<W1.heap.size:=(pH.1 hN).1;have hsz:W2.heap.size=W1.heap.size:=by rw[hW,gX]
 have hc0:bK W1 w.heap.size 0 (olds.take (i*k)):=by refine pO hN ?_;intro j v hv;rw[hY];exact hR j v hv
 refine⟨C2,rfl,hC2,.inr rfl,by rw[aLo,LW];omega,hcap,hmax,?_,.inr (eC _),by rw[gX,hsz];exact hlt,by rw[gX,hsz];omega,?_,hs1.trans (hs2.trans (kQ _ _ _ _))⟩
 .refine bK.append.2 ⟨bK.append.2 ⟨?_,?_⟩,?_⟩
  .refine wI ((wI hc0 λ_=> ?_:bK (W1.setCells w.heap.size (i*k) news) w.heap.size 0 (olds.take (i*k))).heap hW) λ_=> ?_
   .rw [htl];left;omega
   .rw [htl];left;omega
  .rw [htl,hY];refine wI ((GQ hN (by omega):bK (W1.setCells w.heap.size (i*k) news) w.heap.size (i*k) news).heap hW) λ_=> ?_
   left;omega
  .rw [eR,htl,hnl,hY,show i*k+k=(i+1)*k by omega];exact GQ mh (by omega)
 .intro x hx hne;have hx':x≠w.heap.size:=by omega
  rw[mF _ x hx',hW,mF _ x hx',hO x hx]
def FP:AV->Bool
 | .int _ _=>true
 | .bool _=>true
 | .str _=>true
 |_=>false
theorem aPj{w w':World}{E E':Env}{x:AV}{v:Value}{fp:List Nat}(h:FP x=true)(hr:R w E x v fp):fp=[]/\R w' E' x v []:=by cases x<;>simp_all[FP,R]
theorem aAq{w w':World}{E E':Env}:∀{c:List AV} {cs:List Value} {fp:List Nat},c.all FP=true->Rc w E c cs fp->fp=[]/\Rc w' E' c cs []
 |[],[],_,_,h=>⟨by simpa [Rc]using h,by simp[Rc]⟩
 |[],_::_,_,_,h=>by simp[Rc]at h
 |_::_,[],_,_,h=>by simp[Rc]at h
 |x::xs,v::vs,fp,hf,h=>by simp only[CC,eI]at hf;simp only[Rc]at h⊢;obtain⟨f1,f2,h1,h2,rfl⟩:=h;obtain⟨rfl,h3⟩:=aPj (w':=w') (E':=E') hf.1 h1;obtain⟨rfl,h4⟩:=aAq (w':=w') (E':=E') hf.2 h2;exact⟨rfl,[],[],h3,h4,rfl⟩
theorem LX{w w':World}{E E':Env}{n:Nat}:∀{l:List (List AV)} {vs:List Value} {fp:List Nat},(l.all λc=>c.all FP)=true->Rv w E l vs n fp->fp=[]/\Rv w' E' l vs n []
 |[],_,_,_,h=>by simp only[Rv]at h⊢;exact⟨h.2,by simp[h.1]⟩
 |c::l,vs,fp,hf,h=>by simp only[CC,eI]at hf;simp only[Rv]at h⊢;obtain⟨cs,rest,f1,f2,rfl,hn,ho,h1,h2,rfl⟩:=h;obtain⟨rfl,h3⟩:=aAq (w':=w') (E':=E') hf.1 h1;obtain⟨rfl,h4⟩:=LX (w':=w') (E':=E') hf.2 h2;exact⟨rfl,cs,rest,[],[],rfl,hn,ho,h3,h4,rfl⟩
theorem mi{w:World}{E:Env}{n:Nat}:∀(i:Nat) {l:List (List AV)} {vs:List Value},Rv w E l vs n []->Rv w E (l.take i) (vs.take (i*n)) n []/\Rv w E (l.drop i) (vs.drop (i*n)) n []
 |0,l,vs,h=>by simp[Rv,h]
 |i+1,[],vs,h=>by simp only[Rv]at h;obtain⟨rfl,_⟩:=h;simp[Rv]
 |i+1,c::l,vs,h=>by
  simp only[Rv]at h;obtain⟨cs,rest,f1,f2,rfl,hn,ho,h1,h2,hf⟩:=h;obtain⟨rfl,rfl⟩:=append_eq_nil_iff.1 hf.symm;obtain⟨h3,h4⟩:=mi i h2;have e:(i+1)*n=cs.length+i*n:=by rw[AN,hn];omega
  simp only[eL,pL,e,take_length_add_append,drop_length_add_append,Rv];exact⟨⟨cs,_,[],[],rfl,hn,ho,h1,h3,rfl⟩,h4⟩
theorem Ce{w:World}{O:Nat->Prop}{x:GA}{xs:List GA}:∀{vs:List Value} {uK:List (List Nat)} {jA:List Nat},EJ w O (x::xs) vs uK jA->
  ∃v vs' f fs k ks,vs=v::vs'/\uK=f::fs/\jA=k::ks/\RG w O x v f k/\EJ w O xs vs' fs ks
 |[],_,_,h=>by simp[EJ]at h
 |_::_,[],_,h=>by simp[EJ]at h
 |_::_,_::_,[],h=>by simp[EJ]at h
 |v::vs,f::fs,k::ks,h=>by simp only[EJ]at h;exact⟨v,vs,f,fs,k,ks,rfl,rfl,rfl,h.1,h.2⟩
theorem Zk{w:World}{O:Nat->Prop}:∀{vs:List Value} {uK:List (List Nat)} {jA:List Nat},EJ w O [] vs uK jA->vs=[]/\uK=[]/\jA=[]
 |[],[],[],_=>⟨rfl,rfl,rfl⟩
 |_::_,_,_,h=>by simp[EJ]at h
 |[],_::_,_,h=>by simp[EJ]at h
 |[],[],_::_,h=>by simp[EJ]at h
theorem aLp{P:Program}[aB P]{f:FuncId}{n i k:Nat}{l:List (List AV)}{x:List AV}(hl:l.length=n)(hi:i<n)(hfl:(l.all λc=>c.all FP)=true)(hfx:x.all FP=true)
  (H:∀(w:World) (b off c:Nat) (C:Array Value) (e:TypeId) (fz:Nat×Nat) (olds news:List Value) (vb voff vc:Nat) (Cv:Array Value) (ev:TypeId) (ZY:Nat×Nat),w.heap[b]? =some (.cells C e fz)->((C.size<=fz.1/\k=1)\/fz.2=0)->bK w b off olds->olds.length=n*k->(∀v∈olds,v.oneCell'=true)->
   off+c*k<=C.size->n<=c->c<=maxLen->vb≠b->w.heap[vb]? =some (.cells Cv ev ZY)->((Cv.size<=ZY.1/\k=1)\/ZY.2=0)->bK w vb voff news->news.length=k->(∀v∈news,v.oneCell'=true)->
   Calls P f #[.slice (some ⟨b,off,none⟩) n c,.int .i64 i,.slice (some ⟨vb,voff,none⟩) 1 vc] w λed w'=>∃v b' off' cap' C' e' VE,ed= .returned v/\Wl w w' b k (n+1) (olds.take (i*k)++news++olds.drop (i*k)) v b' off' cap' C' e' VE):
  Lf P f [.oN (.sl .own k l),.view (.int .i64 i),.oN (.sl .own k [x])] (.sl .own k (l.take i++[x]++l.drop i)):=by
 intro w vs uK jA hh hlow hnd hr;obtain⟨v1,vs,f1,uK,k1,jA,rfl,rfl,rfl,h1,hr⟩:=Ce hr;obtain⟨v2,vs,f2,uK,k2,jA,rfl,rfl,rfl,h2,hr⟩:=Ce hr;obtain⟨v3,vs,f3,uK,k3,jA,rfl,rfl,rfl,h3,hr⟩:=Ce hr;obtain⟨rfl,rfl,rfl⟩:=Zk hr;simp only[RG]at h1 h2 h3;obtain⟨rfl,h2⟩:=h2;obtain⟨a,cap,rfl,hlm,ho⟩:=pM.1 h1;simp only[R]at h2;obtain⟨rfl,_⟩:=h2;rcases ho with⟨h0,_⟩|⟨b,off,C,e,fz,qN,rfl,hb,hz,hfit,hlc,hmax,rfl,hrr⟩
 .subst h0;simp at hl;omega
 obtain⟨a3,aPk,rfl,_,h3⟩:=pM.1 h3;rcases h3 with⟨h0,_⟩|⟨vb,voff,Cv,ev,ZY,aS5,rfl,hb3,hz3,_,_,_,rfl,hr3⟩
 .cases h0
 obtain⟨olds,hv,hc⟩:=qD.1 hrr;obtain⟨news,hv3,hc3⟩:=qD.1 hr3;have hol:=jX hv;have hnl:=jX hv3;have hne:vb≠b:=λh=>by subst h;simp at hnd
 rw[hl]at hol;have:=H w b off cap C e fz olds news vb voff aPk Cv ev ZY hb hz hc hol (RB hv) hfit (by rw[<-hl];exact hlc) hmax hne hb3 hz3 hc3 (by simpa using hnl) (RB hv3);rw[hl];refine this.mono λed w' h=> ?_
 obtain⟨v,b',off',cap',C',e',VE,he,hI⟩:=h;have hq:=(LX (w':=w') (E':=(mJ).plain) hfl hv).2;have TI:=(LX (w':=w') (E':=(mJ).plain) (by simp[hfx]) hv3).2;obtain⟨q1,q2⟩:=mi i hq;have q4:=BF q2 (BF TI q1);have hlen:(l.take i++[x]++l.drop i).length=n+1:=by simp;omega
 have Nn:n+1<=maxLen:=lB hI.len hI.max;refine⟨v,[b'],[[],[],[]],he,pM.2 ⟨_,cap',by rw[hlen];exact hI.ret,by rw[hlen];exact Nn,.inr ⟨b',off',C',e',VE,[],rfl,hI.Ak,hI.hz,hI.fit,by rw[hlen];exact hI.len,hI.max,rfl,qD.2 ⟨_,by simpa using q4,hI.at'⟩⟩⟩,by simp[QY,RP],by simp,?_,hI.size,?_,hI.same⟩
 .intro x hx;obtain rfl:x=b':=by simpa using hx
  refine⟨?_,hI.lt⟩;rcases hI.new with rfl|h
  .left;simp
  .exact .inr h
 .intro x hx hn;exact hI.frame x hx λh=>hn (by simp[h])
theorem Zl{w:World}{b off n c k:Nat}{C:Array Value}{e:TypeId}{fz:Nat×Nat}{olds news:List Value}(hb:w.heap[b]? =some (.cells C e fz))(hz:(C.size<=fz.1/\k=1)\/fz.2=0)
  (hc:bK w b off olds) (hol:olds.length=n*k) (hnl:news.length=k) (hroom:n+1<=c) (hfit:off+c*k<=C.size) (hmax:c<=maxLen):
  ∃C',Wl w (w.setCells b (off+n*k) news) b k (n+1) (olds++news) (.slice (some ⟨b,off,none⟩) (n+1) c) b off c C' e fz:=by
 have hnk:(n+1)*k<=c*k:=lE k hroom;have aS4:(n+1)*k=n*k+k:=AN n k;obtain⟨C1,mh,LW⟩:=jT b e fz news (off+n*k) w C hb;have hlt:b<w.heap.size:=(pH.1 hb).1;refine⟨C1,rfl,mh,by rw[LW];exact hz,by rw[LW];exact hfit,hroom,hmax,?_,.inl rfl,by rw[gX];exact hlt,by rw[gX];exact eC _,?_,kQ _ _ _ _⟩
 .refine bK.append.2 ⟨wI hc λ_=> ?_,?_⟩
  .rw [hol];left;omega
  .rw [hol];exact GQ hb (by omega)
 .intro x hx hne;rw[mF b x hne]
theorem Zm{w:World}{b n k cap:Nat}{ROW:Array Value}{e:TypeId}{olds news:List Value}(hR:∀(j:Nat) (v:Value),(olds++news)[j]? =some v->ROW[j]? =some v)(hRs:cap*k<=ROW.size)(hcap:n+1<=cap)(hmax:cap<=maxLen):
  ∃C',Wl w (w.drew.alloc (.cells ROW e)) b k (n+1) (olds++news) (.slice (some ⟨w.heap.size,0,none⟩) (n+1) cap) w.heap.size 0 cap C' e (0,0):=by
 have hN:(w.drew.alloc (.cells ROW e)).heap[w.heap.size]? =some (.cells ROW e):=fO w.drew _;refine⟨ROW,rfl,hN,.inr rfl,by omega,hcap,hmax,pO hN (by intro j v hv;rw[hY];exact hR j v hv),.inr (eC _),by simp,by simp,λx hx _=>heap_alloc w.drew _ x hx,⟨rfl,rfl,rfl⟩⟩
theorem mo{P:Program}[aB P]{f:FuncId}{n k:Nat}{l:List (List AV)}{x:List AV}(hl:l.length=n)(hfl:(l.all λc=>c.all FP)=true)(hfx:x.all FP=true)
  (H:∀(w:World) (base:Option Addr) (bb c:Nat) (olds news:List Value) (vb voff vc:Nat),olds.length=n*k->n<=c->c<=maxLen->bK w vb voff news->news.length=k->(∀v∈news,v.oneCell'=true)->
   ((n=0/\c=0)\/∃off C e fz,base=some ⟨bb,off,none⟩/\w.heap[bb]? =some (.cells C e fz)/\((C.size<=fz.1/\k=1)\/fz.2=0)/\bK w bb off olds/\off+c*k<=C.size)->
   Calls P f #[.slice base n c,.int .i64 n,.slice (some ⟨vb,voff,none⟩) 1 vc] w λed w'=>∃v b' off' cap' C' e' VE,ed= .returned v/\Wl w w' bb k (n+1) (olds++news) v b' off' cap' C' e' VE):
  Lf P f [.oN (.sl .own k l),.view (.int .i64 n),.oN (.sl .own k [x])] (.sl .own k (l++[x])):=by
 intro w vs uK jA hh hlow hnd hr;obtain⟨v1,vs,f1,uK,k1,jA,rfl,rfl,rfl,h1,hr⟩:=Ce hr;obtain⟨v2,vs,f2,uK,k2,jA,rfl,rfl,rfl,h2,hr⟩:=Ce hr;obtain⟨v3,vs,f3,uK,k3,jA,rfl,rfl,rfl,h3,hr⟩:=Ce hr;obtain⟨rfl,rfl,rfl⟩:=Zk hr;simp only[RG]at h1 h2 h3;obtain⟨rfl,h2⟩:=h2;obtain⟨a,cap,rfl,hlm,ho⟩:=pM.1 h1;simp only[R]at h2;obtain⟨rfl,_⟩:=h2;obtain⟨a3,aPk,rfl,_,h3⟩:=pM.1 h3;rcases h3 with⟨h0,_⟩|⟨vb,voff,Cv,ev,ZY,aS5,rfl,hb3,hz3,_,_,_,rfl,hr3⟩
 .cases h0
 obtain⟨news,hv3,hc3⟩:=qD.1 hr3;have hnl:news.length=k:=by simpa using jX hv3
 obtain⟨bb,olds,hv,hbb,hnc,hmc,hor⟩:∃bb olds,Rv w (sP w (· ∈(f1++([]++((vb::aS5)++[]))))).plain l olds k f1.tail/\(bb∈f1\/w.heap.size<=bb)/\n<=cap/\cap<=maxLen/\
   ((n=0/\cap=0)\/∃off C e fz,a=some ⟨bb,off,none⟩/\w.heap[bb]? =some (.cells C e fz)/\((C.size<=fz.1/\k=1)\/fz.2=0)/\bK w bb off olds/\off+cap*k<=C.size):=by
  rcases ho with⟨h0,h4,h5⟩|⟨b,off,C,e,fz,qN,rfl,hb,hz,hfit,hlc,hmax,rfl,hrr⟩
  .subst h0;subst h5;simp at hl;subst hl;subst h4;exact⟨w.heap.size,[],by simp[Rv],.inr (eC _),eC _,by simp[maxLen],.inl ⟨rfl,rfl⟩⟩
  .obtain ⟨olds,hv,hc⟩:=qD.1 hrr;exact⟨b,olds,hv,.inl (by simp),by rw[<-hl];exact hlc,hmax,.inr ⟨off,C,e,fz,rfl,hb,hz,hc,hfit⟩⟩
 have hol:=jX hv;rw[hl]at hol;have:=H w a bb cap olds news vb voff aPk hol hnc hmc hc3 hnl (RB hv3) hor;rw[hl];refine this.mono λed w' h=> ?_
 obtain⟨v,b',off',cap',C',e',VE,he,hI⟩:=h;have hq:=(LX (w':=w') (E':=(mJ).plain) hfl hv).2;have TI:=(LX (w':=w') (E':=(mJ).plain) (by simp[hfx]) hv3).2;have q4:=BF TI hq;have hlen:(l++[x]).length=n+1:=by simp;omega
 have Nn:n+1<=maxLen:=lB hI.len hI.max;refine⟨v,[b'],[[],[],[]],he,pM.2 ⟨_,cap',by rw[hlen];exact hI.ret,by rw[hlen];exact Nn,.inr ⟨b',off',C',e',VE,[],rfl,hI.Ak,hI.hz,hI.fit,by rw[hlen];exact hI.len,hI.max,rfl,qD.2 ⟨_,by simpa using q4,hI.at'⟩⟩⟩,by simp[QY,RP],by simp,?_,hI.size,?_,hI.same⟩
 .intro x hx;obtain rfl:x=b':=by simpa using hx
  refine⟨?_,hI.lt⟩;rcases hI.new with rfl|h
  .rcases hbb with h|h
   .left;simp[h]
   .exact .inr h
  .exact .inr h
 .intro x hx hn;refine hI.frame x hx λh=> ?_
  subst h;rcases hbb with h|h
  .exact hn (by simp[h])
  .omega
end Go.Aw
set_option maxRecDepth 4000
set_option maxHeartbeats 4000000
namespace Go.Proofs.YthddijamfbfibaaGreatDoor
open Go.Aw Proofs.Tryz List IntKind
def places{α:Type}(f:α->Bool):Nat->List α->List Int
 |_,[]=>[]
 |i,x::xs=>if f x then(i:Int)::places f (i+1) xs else places f (i+1) xs
theorem PK{α:Type}(f:α->Bool)(x:α):∀(l:List α) (i:Nat),places f i (l++[x])=places f i l++(if f x then [((i+l.length:Nat):Int)]else [])
 |[],i=>by simp only[eM,places];cases f x<;>simp
 |y::ys,i=>by
  simp only[eA,places];rw[PK f x ys (i+1)];have:i+1+ys.length=i+(y::ys).length:=by simp;omega
  rw[this];cases f y<;>simp
theorem xV{α:Type}(f:α->Bool)(l:List α)(k:Nat)(h:k<l.length):places f 0 (l.take (k+1))=places f 0 (l.take k)++(if f l[k]then [(k:Int)]else []):=by
 rw[eJ h,PK];have:(l.take k).length=k:=by simp;omega
 rw[this,hY]
theorem jF{α:Type}(f:α->Bool):∀(l:List α) (i:Nat),(places f i l).length<=l.length
 |[],_=>by simp[places]
 |x::xs,i=>by simp only[places];have:=jF f xs (i+1);cases f x<;>simp<;>omega
def sJ(s:pR):Bool:= !s.done
def sK(s:dX):Bool:= !s.done
def jU(s:pR):Bool:=s.mode == 4
theorem Ev[aB prog](p:aI)(hl:p.aC.length<=16777216):Ok prog 76 [.agg (aJ .view p)] (.sl .own 1 ((places sJ 0 p.aC).map mM)):=by
 refine bM aG func76 ntmps76 ?_;refine gV ?_;refine aM (ι:={q:Nat×Nat // q.1<=p.aC.length/\1<=q.2}) (λt o i=>⟨bC t [(3,.obj 1 i.1.2),(4,.int .i64 i.1.1)],o.take 1++[⟨true,false,1,i.1.2,(places sJ 0 (p.aC.take i.1.1)).map mM⟩]⟩)
  (λi=>p.aC.length-i.1.1) ⟨(0,1),by simp,by simp⟩ (aK (by simp[places]) (by simp)) ?_
 rintro⟨⟨k,v⟩,hk,hv⟩ K1 hK1;simp only at hk hv;simp only[bC,cW,cU,eL,fW,eA,eM]at hK1⊢;have hk1:=oQ (k:=k);by_cases hlt:k<p.aC.length
 .have hg:=aE hlt;have hps:=xV sJ p.aC k hlt;have hpl:=jF sJ (p.aC.take k) 0;have htl:(p.aC.take k).length=k:=by simp;omega
  have hb1:((places sJ 0 (p.aC.take k)).length+1)*8<=140737488355328:=by omega
  have hb2:(places sJ 0 (p.aC.take k)).length+1<=9223372036854775807:=by omega
  have hb3:(places sJ 0 (p.aC.take k)).length<=9223372036854775806:=by omega
  have W:=aA hk1 (aA hg (aA hlt (aA hb1 (aA hb2 hb3))));repeat' first|refine wg ?_|(refine sq ?_ ?_<;>intro hc<;>try exact hc.elim)|fail
  .refine hK1 _ ⟨(k+1,v+1),by simp only;omega,by simp only;omega⟩ (aT 2 (by simp[hps,sJ,hc])) (by simp only;omega)
  .refine hK1 _ ⟨(k+1,v),by simp only;omega,hv⟩ (aT 2 (by simp[hps,sJ,hc])) (by simp only;omega)
 .have htk:p.aC.take k=p.aC:=cX (by omega);rw[htk];have W:=hk1;refine wl ?_;exact aF results76
theorem Ew[aB prog](p:aI)(hl:p.aC.length<=16777216):Ok prog 164 [.agg (aJ .view p)] (.sl .own 1 ((places sJ 0 p.aC).map mM)):=by
 refine bM aG func164 ntmps164 ?_;refine gV ?_;refine aM (ι:={q:Nat×Nat // q.1<=p.aC.length/\1<=q.2}) (λt o i=>⟨bC t [(3,.obj 1 i.1.2),(10,.int .i64 i.1.1)],o.take 1++[⟨true,false,1,i.1.2,(places sJ 0 (p.aC.take i.1.1)).map mM⟩]⟩)
  (λi=>p.aC.length-i.1.1) ⟨(0,1),by simp,by simp⟩ (aK (by simp[places]) (by simp)) ?_
 rintro⟨⟨k,v⟩,hk,hv⟩ K1 hK1;simp only at hk hv;simp only[bC,cW,cU,eL,fW,eA,eM]at hK1⊢;have hk1:=oQ (k:=k);by_cases hlt:k<p.aC.length
 .have hg:=aE hlt;have hps:=xV sJ p.aC k hlt;have hpl:=jF sJ (p.aC.take k) 0;have htl:(p.aC.take k).length=k:=by simp;omega
  have hb1:((places sJ 0 (p.aC.take k)).length+1)*8<=140737488355328:=by omega
  have hb2:(places sJ 0 (p.aC.take k)).length+1<=9223372036854775807:=by omega
  have hb3:(places sJ 0 (p.aC.take k)).length<=9223372036854775806:=by omega
  have W:=aA hk1 (aA hg (aA hlt (aA hb1 (aA hb2 hb3))));repeat' first|refine wg ?_|(refine sq ?_ ?_<;>intro hc<;>try exact hc.elim)|fail
  .refine hK1 _ ⟨(k+1,v+1),by simp only;omega,by simp only;omega⟩ (aT 2 (by simp[hps,sJ,hc])) (by simp only;omega)
  .refine hK1 _ ⟨(k+1,v),by simp only;omega,hv⟩ (aT 2 (by simp[hps,sJ,hc])) (by simp only;omega)
 .have htk:p.aC.take k=p.aC:=cX (by omega);rw[htk];have W:=hk1;refine wl ?_;exact aF results164
theorem FX[aB prog](p:aI)(hl:p.aO.length<=16777216):Ok prog 78 [.agg (aJ .view p)] (.sl .own 1 ((places sK 0 p.aO).map mM)):=by
 refine bM aG func78 ntmps78 ?_;refine gV ?_;refine aM (ι:={q:Nat×Nat // q.1<=p.aO.length/\1<=q.2}) (λt o i=>⟨bC t [(3,.obj 1 i.1.2),(4,.int .i64 i.1.1)],o.take 1++[⟨true,false,1,i.1.2,(places sK 0 (p.aO.take i.1.1)).map mM⟩]⟩)
  (λi=>p.aO.length-i.1.1) ⟨(0,1),by simp,by simp⟩ (aK (by simp[places]) (by simp)) ?_
 rintro⟨⟨k,v⟩,hk,hv⟩ K1 hK1;simp only at hk hv;simp only[bC,cW,cU,eL,fW,eA,eM]at hK1⊢;have hk1:=oQ (k:=k);by_cases hlt:k<p.aO.length
 .have hg:=aE hlt;have hps:=xV sK p.aO k hlt;have hpl:=jF sK (p.aO.take k) 0;have htl:(p.aO.take k).length=k:=by simp;omega
  have hb1:((places sK 0 (p.aO.take k)).length+1)*8<=140737488355328:=by omega
  have hb2:(places sK 0 (p.aO.take k)).length+1<=9223372036854775807:=by omega
  have hb3:(places sK 0 (p.aO.take k)).length<=9223372036854775806:=by omega
  have W:=aA hk1 (aA hg (aA hlt (aA hb1 (aA hb2 hb3))));repeat' first|refine wg ?_|(refine sq ?_ ?_<;>intro hc<;>try exact hc.elim)|fail
  .refine hK1 _ ⟨(k+1,v+1),by simp only;omega,by simp only;omega⟩ (aT 2 (by simp[hps,sK,hc])) (by simp only;omega)
  .refine hK1 _ ⟨(k+1,v),by simp only;omega,hv⟩ (aT 2 (by simp[hps,sK,hc])) (by simp only;omega)
 .have htk:p.aO.take k=p.aO:=cX (by omega);rw[htk];have W:=hk1;refine wl ?_;exact aF results78
theorem FY[aB prog](p:aI)(hl:p.aO.length<=16777216):Ok prog 165 [.agg (aJ .view p)] (.sl .own 1 ((places sK 0 p.aO).map mM)):=by
 refine bM aG func165 ntmps165 ?_;refine gV ?_;refine aM (ι:={q:Nat×Nat // q.1<=p.aO.length/\1<=q.2}) (λt o i=>⟨bC t [(3,.obj 1 i.1.2),(10,.int .i64 i.1.1)],o.take 1++[⟨true,false,1,i.1.2,(places sK 0 (p.aO.take i.1.1)).map mM⟩]⟩)
  (λi=>p.aO.length-i.1.1) ⟨(0,1),by simp,by simp⟩ (aK (by simp[places]) (by simp)) ?_
 rintro⟨⟨k,v⟩,hk,hv⟩ K1 hK1;simp only at hk hv;simp only[bC,cW,cU,eL,fW,eA,eM]at hK1⊢;have hk1:=oQ (k:=k);by_cases hlt:k<p.aO.length
 .have hg:=aE hlt;have hps:=xV sK p.aO k hlt;have hpl:=jF sK (p.aO.take k) 0;have htl:(p.aO.take k).length=k:=by simp;omega
  have hb1:((places sK 0 (p.aO.take k)).length+1)*8<=140737488355328:=by omega
  have hb2:(places sK 0 (p.aO.take k)).length+1<=9223372036854775807:=by omega
  have hb3:(places sK 0 (p.aO.take k)).length<=9223372036854775806:=by omega
  have W:=aA hk1 (aA hg (aA hlt (aA hb1 (aA hb2 hb3))));repeat' first|refine wg ?_|(refine sq ?_ ?_<;>intro hc<;>try exact hc.elim)|fail
  .refine hK1 _ ⟨(k+1,v+1),by simp only;omega,by simp only;omega⟩ (aT 2 (by simp[hps,sK,hc])) (by simp only;omega)
  .refine hK1 _ ⟨(k+1,v),by simp only;omega,hv⟩ (aT 2 (by simp[hps,sK,hc])) (by simp only;omega)
 .have htk:p.aO.take k=p.aO:=cX (by omega);rw[htk];have W:=hk1;refine wl ?_;exact aF results165
theorem Hm[aB prog](p:aI)(hl:p.aC.length<=16777216):Ok prog 126 [.agg (aJ .view p)] (.sl .own 1 ((places jU 0 p.aC).map mM)):=by
 refine bM aG func126 ntmps126 ?_;refine gV ?_;refine aM (ι:={q:Nat×Nat // q.1<=p.aC.length/\1<=q.2}) (λt o i=>⟨bC t [(3,.obj 1 i.1.2),(4,.int .i64 i.1.1)],o.take 1++[⟨true,false,1,i.1.2,(places jU 0 (p.aC.take i.1.1)).map mM⟩]⟩)
  (λi=>p.aC.length-i.1.1) ⟨(0,1),by simp,by simp⟩ (aK (by simp[places]) (by simp)) ?_
 rintro⟨⟨k,v⟩,hk,hv⟩ K1 hK1;simp only at hk hv;simp only[bC,cW,cU,eL,fW,eA,eM]at hK1⊢;have hk1:=oQ (k:=k);by_cases hlt:k<p.aC.length
 .have hg:=aE hlt;have hps:=xV jU p.aC k hlt;have hpl:=jF jU (p.aC.take k) 0;have htl:(p.aC.take k).length=k:=by simp;omega
  have hb1:((places jU 0 (p.aC.take k)).length+1)*8<=140737488355328:=by omega
  have hb2:(places jU 0 (p.aC.take k)).length+1<=9223372036854775807:=by omega
  have hb3:(places jU 0 (p.aC.take k)).length<=9223372036854775806:=by omega
  have W:=aA hk1 (aA hg (aA hlt (aA hb1 (aA hb2 hb3))));repeat' first|refine wg ?_|(refine sq ?_ ?_<;>intro hc<;>try exact hc.elim)|fail
  .refine hK1 _ ⟨(k+1,v+1),by simp only;omega,by simp only;omega⟩ (aT 2 (by simp[hps,jU,hc])) (by simp only;omega)
  .refine hK1 _ ⟨(k+1,v),by simp only;omega,hv⟩ (aT 2 (by simp[hps,jU,hc])) (by simp only;omega)
 .have htk:p.aC.take k=p.aC:=cX (by omega);rw[htk];have W:=hk1;refine wl ?_;exact aF results126
theorem Ho[aB prog](p:aI)(hl:p.aC.length<=16777216):Ok prog 161 [.agg (aJ .view p)] (.sl .own 1 ((places jU 0 p.aC).map mM)):=by
 refine bM aG func161 ntmps161 ?_;refine gV ?_;refine aM (ι:={q:Nat×Nat // q.1<=p.aC.length/\1<=q.2}) (λt o i=>⟨bC t [(3,.obj 1 i.1.2),(10,.int .i64 i.1.1)],o.take 1++[⟨true,false,1,i.1.2,(places jU 0 (p.aC.take i.1.1)).map mM⟩]⟩)
  (λi=>p.aC.length-i.1.1) ⟨(0,1),by simp,by simp⟩ (aK (by simp[places]) (by simp)) ?_
 rintro⟨⟨k,v⟩,hk,hv⟩ K1 hK1;simp only at hk hv;simp only[bC,cW,cU,eL,fW,eA,eM]at hK1⊢;have hk1:=oQ (k:=k);by_cases hlt:k<p.aC.length
 .have hg:=aE hlt;have hps:=xV jU p.aC k hlt;have hpl:=jF jU (p.aC.take k) 0;have htl:(p.aC.take k).length=k:=by simp;omega
  have hb1:((places jU 0 (p.aC.take k)).length+1)*8<=140737488355328:=by omega
  have hb2:(places jU 0 (p.aC.take k)).length+1<=9223372036854775807:=by omega
  have hb3:(places jU 0 (p.aC.take k)).length<=9223372036854775806:=by omega
  have W:=aA hk1 (aA hg (aA hlt (aA hb1 (aA hb2 hb3))));repeat' first|refine wg ?_|(refine sq ?_ ?_<;>intro hc<;>try exact hc.elim)|fail
  .refine hK1 _ ⟨(k+1,v+1),by simp only;omega,by simp only;omega⟩ (aT 2 (by simp[hps,jU,hc])) (by simp only;omega)
  .refine hK1 _ ⟨(k+1,v),by simp only;omega,hv⟩ (aT 2 (by simp[hps,jU,hc])) (by simp only;omega)
 .have htk:p.aC.take k=p.aC:=cX (by omega);rw[htk];have W:=hk1;refine wl ?_;exact aF results161
end Go.Proofs.YthddijamfbfibaaGreatDoor
