/- Proved here: steps towards the statement of this claim. No condition. -/
import Derived.Test.YtfbefblglejcaaaGreatDoorZYFacts
import Derived.Test.YtfbefblglejcaaaGreatDoorZF8
import Derived.Lib.Overlaps
import Derived.Lib.AppendZerosOnto
set_option linter.all false
namespace Go.Proofs.YtfbefblglejcaaaGreatDoor
theorem aF:Tryz.prog.follows .mixedOrders=true:=by kernel_rfl
end Go.Proofs.YtfbefblglejcaaaGreatDoor
set_option maxRecDepth 4000
set_option maxHeartbeats 4000000
namespace Go.Proofs.YtfbefblglejcaaaGreatDoor
open Go.Aw Proofs.Tryz List IntKind
theorem toAddr_ok[aC prog](a:aK)(hs:aR a<=1048576):Ok prog 8 [.agg (aL a)] (.agg (aL a)):=by simp only[aR]at hs;refine bM aF func8 ntmps8 ?_;refine iF ?_;exact aD results8
theorem Nu[aC prog](a:aK)(n:Int)(h0:0<=n)(h1:n<=1048576)(hw:Nj a):Ok prog 5 [.agg (aL a),.int .i64 n] (.int .i64 (sub n (aR a))):=by
 simp only[Nj]at hw;obtain⟨aQs,aQt⟩:=hw;refine bM aF func5 ntmps5 ?_;have W:=trivial;repeat' first|refine wg ?_|(refine sq ?_ ?_<;>intro hc<;>try exact hc.elim)|fail
 all_goals try(refine aQ ?_;simp[aP,results5,aR])
 all_goals (
  repeat (simp (disch:=omega) only[wrap64]at*)
  (try simp only[sub]);(try split);all_goals omega)
theorem Wl[aC prog](a b:aK)(hs:aR a<=1099511627776):Ok prog 96 [.agg (aL a),.agg (aL b)] (.bool (decide (a=b))):=by
 simp only[aR]at hs;refine bM aF func96 ntmps96 ?_;have W:=trivial;repeat' first|refine wg ?_|(refine sq ?_ ?_<;>intro hc<;>try exact hc.elim)|fail
 all_goals try(refine aQ ?_;simp[aP,results96])
 all_goals ((repeat clear hK K);cases a;cases b;simp_all)
theorem toResponse_ok[aC prog](a:aZ)(hs:bG a<=1048576):Ok prog 130 [.agg (bF a)] (.agg (bF a)):=by simp only[bG]at hs;refine bM aF func130 ntmps130 ?_;refine iF ?_;exact aD results130
theorem IY[aC prog](a:aZ)(n:Int)(h0:0<=n)(h1:n<=1048576)(hw:EE a):Ok prog 98 [.agg (bF a),.int .i64 n] (.int .i64 (sub n (bG a))):=by
 simp only[EE]at hw;obtain⟨aV2,aSa⟩:=hw;refine bM aF func98 ntmps98 ?_;have W:=trivial;repeat' first|refine wg ?_|(refine sq ?_ ?_<;>intro hc<;>try exact hc.elim)|fail
 all_goals try(refine aQ ?_;simp[aP,results98,bG])
 all_goals (
  repeat (simp (disch:=omega) only[wrap64]at*)
  (try simp only[sub]);(try split);all_goals omega)
theorem IZ[aC prog](a b:aZ)(hs:bG a<=1099511627776):Ok prog 164 [.agg (bF a),.agg (bF b)] (.bool (decide (a=b))):=by
 simp only[bG]at hs;refine bM aF func164 ntmps164 ?_;have W:=trivial;repeat' first|refine st ?_|(refine nx ?_;refine so ?_)|(refine cx ?_;refine sc (λhc=>?_) (λhc=>?_)<;>try exact hc.elim)|(refine lx ?_;refine sp (λhc=>?_) (λhc=>?_)<;>try exact hc.elim)|refine sx ?_ ?_|refine sy ?_ ?_|fail
 all_goals try(refine aQ ?_;simp[aP,results164])
 all_goals ((repeat clear hK K);cases a;cases b;simp_all)
theorem XG[aC prog](a b:List bB)(hs:bQ gG a<=1099511627776):Ok prog 10 [.sl .view 1 (a.map bW),.sl .view 1 (b.map bW)] (.bool (decide (a=b))):=by
 have hl:a.length<=1099511627776:=by(try simp only[bQ]at hs);omega
 refine bM aF func10 ntmps10 ?_;have W:=trivial;repeat' first|refine wg ?_|(refine sq ?_ ?_<;>intro hc<;>try exact hc.elim)|fail
 .all_goals try(refine aQ ?_;simp[aP,results10])
  intro h;subst h;exact absurd rfl hc
 .have hlen:a.length=b.length:=by omega
  refine aO (ι:={k:Nat // k<=a.length/\a.take k=b.take k}) (λt o i=>⟨bC t [(5,.int .i64 i.1)],[]⟩)
   (λi=>a.length-i.1) ⟨0,by simp⟩ aJ ?_
  rintro⟨k,hk,hpre⟩ K1 hK1;simp only[bC,cW,cU]at hK1⊢;have hk1:=oQ (k:=k);by_cases hlt:k<a.length
  .have hg:=aE hlt;have EJ:k<b.length:=by omega
   have hgb:=aE EJ;have W:=aA hk1 (aA hg (aA hlt (aA hgb EJ)));repeat' first|refine wg ?_|(refine sq ?_ ?_<;>intro hc<;>try exact hc.elim)|fail
   .all_goals try(refine aQ ?_;simp[aP,results10])
    intro h;subst h;exact hc rfl
   .have hts:a.take (k+1)=b.take (k+1):=by rw[eI hlt,eI EJ,hpre,hc]
    refine hK1 _ ⟨k+1,by omega,hts⟩ aJ (by simp only;omega)
  .have hka:a.length<=k:=by omega
   rw[cY hka,cY (by omega)]at hpre;subst hpre;have W:=hk1;refine wl ?_;exact aD results10
end Go.Proofs.YtfbefblglejcaaaGreatDoor
namespace Go.Aw
open List
theorem EO{P:Program}{w:World}{dT sT ty elem:TypeId}{i:TypeInfo}{b o aQ0 aT9 b2 o2 sLen sCap n:Nat}{C:Array Value}{e:TypeId}{fz:Nat×Nat}{cs:List Value}{q:Prop}
  (hu:P.underlying dT=some (.slice elem)) (hi:P.info? elem=some i) (hm:Nat.min sLen aQ0=n) (hn:cs.length=n*i.size)
  (aMn:bL w b2 o2 cs) (hb:w.heap[b]? =some (.cells C e fz)) (hz:(C.size<=fz.1/\q)\/fz.2=0) (hfit:o+cs.length<=C.size) (h1:∀v∈cs,v.oneCell'=true):
  (Builtin.copy_ #[dT,sT] ty #[.slice (some ⟨b,o,none⟩) aQ0 aT9,.slice (some ⟨b2,o2,none⟩) sLen sCap]).run P w= .ok (goInt n) (w.setCells b o cs):=by
 have hl:=kK (P:=P) (w:=w) (len:=sLen) (cap:=sCap) hn aMn;have hst:=uH (P:=P) hb hz hfit h1;simp[Builtin.copy_,gE hu,Builtin.lenOf,sizeOf,typeInfo,hi,hm,hl,hst]
theorem Gt{w:World}{b o:Nat}{C:Array Value}{e:TypeId}{fz:Nat×Nat}{cs:List Value}(hb:w.heap[b]? =some (.cells C e fz))(hfit:o+cs.length<=C.size):bL (w.setCells b o cs) b o cs:=by
 intro j v hv;have hj:j<cs.length:=(cH.1 hv).1;have:=BE b cs o w (λj hj=>by
  have:o+j<C.size:=by omega
  simp[World.cell?,hb,this]) j hj
 rw[this];rw[aE hj]at hv;exact hv
theorem wB{w:World}{b o b2 p:Nat}{cs ds:List Value}(h:bL w b2 p ds)(ho:b2=b->p+ds.length<=o\/o+cs.length<=p):bL (w.setCells b o cs) b2 p ds:=by
 intro j v hv;have hj:j<ds.length:=(cH.1 hv).1;rw[Bk]
 .exact h j v hv
 .intro h1 _;have:=ho h1;simp only;omega
structure Vd(w w':World)(b k n:Nat)(cs:List Value)(v:Value)(b' off' cap':Nat)(C':Array Value)(e':TypeId)(Uy:Nat × Nat): Prop where
  ret:v = .slice (some ⟨b', off', none⟩) n cap'
  blk:w'.heap[b']? = some (.cells C' e' Uy)
  hz:(C'.size <= Uy.1 /\ k = 1) \/ Uy.2 = 0
  fit:off'+cap'*k <= C'.size
  len:n <= cap'
  max:cap' <= maxLen
  at':bL w' b' off' cs
  new:b' = b \/ w.heap.size <= b'
  lt:b'<w'.heap.size
  size:w.heap.size <= w'.heap.size
  frame:∀ x, x<w.heap.size -> x ≠ b -> w'.heap[x]? = w.heap[x]?
  same:nS w w'
theorem SX{b:Nat}:∀(vs:List Value) (o:Nat) {w w0:World},w0.heap=w.heap->(w0.setCells b o vs).heap=(w.setCells b o vs).heap
 |[],_,_,_,h=>h
 |v::r,o,w,w0,h=>by rw[World.setCells,World.setCells];exact SX r (o+1) (by simp[World.setCell,h])
theorem za{w W1:World}{b off n c i k:Nat}{C:Array Value}{e:TypeId}{fz:Nat×Nat}{olds news:List Value}(hb:w.heap[b]? =some (.cells C e fz))(hz:(C.size<=fz.1/\k=1)\/fz.2=0)
  (hc:bL w b off olds) (hol:olds.length=n*k) (hnl:news.length=k) (hi:i<n) (hroom:n+1<=c) (hfit:off+c*k<=C.size) (hmax:c<=maxLen)
  (hW:W1.heap=(w.setCells b (off+(i+1)*k) (olds.drop (i*k))).heap) (hs:nS w W1):
  ∃C',Vd w (W1.setCells b (off+i*k) news) b k (n+1) (olds.take (i*k)++news++olds.drop (i*k)) (.slice (some ⟨b,off,none⟩) (n+1) c) b off c C' e fz:=by
 have hik:i*k+k<=n*k:=by rw[<-AG];exact lA k hi
 have hnk:(n+1)*k<=c*k:=lA k hroom;have aQ1:(n+1)*k=n*k+k:=AG n k;have aUa:(i+1)*k=i*k+k:=AG i k;have hdl:(olds.drop (i*k)).length=n*k-i*k:=by rw[An,hol]
 have htl:(olds.take (i*k)).length=i*k:=by rw[oS,hol];omega
 obtain⟨C1,dw,LA⟩:=jQ b e fz (olds.drop (i*k)) (off+(i+1)*k) w C hb;rw[<-hW]at dw;obtain⟨C2,hC2,aJp⟩:=jQ b e fz news (off+i*k) _ C1 dw;have hlt:b<w.heap.size:=(tE.1 hb).1;have hsz:W1.heap.size=w.heap.size:=by rw[hW,gW]
 refine⟨C2,rfl,hC2,by rw[aJp,LA];exact hz,by rw[aJp,LA];exact hfit,hroom,hmax,?_,.inl rfl,by rw[gW,hsz];exact hlt,by rw[gW,hsz];exact eE _,?_,hs.trans (kJ _ _ _ _)⟩
 .refine bL.append.2 ⟨bL.append.2 ⟨?_,?_⟩,?_⟩
  .refine wB ((wB hc.take λ_=> ?_:bL (w.setCells b (off+(i+1)*k) (olds.drop (i*k))) b off (olds.take (i*k))).heap hW) λ_=> ?_
   .rw [htl];left;omega
   .rw [htl];left;omega
  .rw [htl];exact Gt dw (by omega)
  .rw [eR,htl,hnl,show off+(i*k+k)=off+(i+1)*k by omega];refine wB ((Gt hb (by omega):bL (w.setCells b (off+(i+1)*k) (olds.drop (i*k))) b (off+(i+1)*k) (olds.drop (i*k))).heap hW) λ_=> ?_
   right;omega
 .intro x hx hne;rw[lZ b x hne,hW,lZ b x hne]
theorem aA7{w W1 W2:World}{b n i k cap:Nat}{ROW:Array Value}{e:TypeId}{olds news:List Value}(hol:olds.length=n*k)(hnl:news.length=k)(hi:i<n)
  (hR:∀(j:Nat) (v:Value),(olds.take (i*k))[j]? =some v->ROW[j]? =some v) (hRs:cap*k<=ROW.size) (wX:n+1<=cap) (hmax:cap<=maxLen)
  (hN:W1.heap[w.heap.size]? =some (.cells ROW e (0,0))) (hO:∀x,x<w.heap.size->W1.heap[x]? =w.heap[x]?) (hs1:nS w W1)
  (hW:W2.heap=(W1.setCells w.heap.size (i*k) news).heap) (hs2:nS W1 W2):
  ∃C',Vd w (W2.setCells w.heap.size ((i+1)*k) (olds.drop (i*k))) b k (n+1) (olds.take (i*k)++news++olds.drop (i*k)) (.slice (some ⟨w.heap.size,0,none⟩) (n+1) cap) w.heap.size 0 cap C' e (0,0):=by
 have hik:i*k+k<=n*k:=by rw[<-AG];exact lA k hi
 have hnk:(n+1)*k<=cap*k:=lA k wX;have aQ1:(n+1)*k=n*k+k:=AG n k;have aUa:(i+1)*k=i*k+k:=AG i k;have hdl:(olds.drop (i*k)).length=n*k-i*k:=by rw[An,hol]
 have htl:(olds.take (i*k)).length=i*k:=by rw[oS,hol];omega
 obtain⟨C1,dw,LA⟩:=jQ w.heap.size e (0,0) news (i*k) W1 ROW hN;rw[<-hW]at dw;obtain⟨C2,hC2,aJp⟩:=jQ w.heap.size e (0,0) (olds.drop (i*k)) ((i+1)*k) W2 C1 dw;have hlt:w.heap.size<W1.heap.size:=(tE.1 hN).1;have hsz:W2.heap.size=W1.heap.size:=by rw[hW,gW]
 have hc0:bL W1 w.heap.size 0 (olds.take (i*k)):=by refine rG hN ?_;intro j v hv;rw[hM];exact hR j v hv
 refine⟨C2,rfl,hC2,.inr rfl,by rw[aJp,LA];omega,wX,hmax,?_,.inr (eE _),by rw[gW,hsz];exact hlt,by rw[gW,hsz];omega,?_,hs1.trans (hs2.trans (kJ _ _ _ _))⟩
 .refine bL.append.2 ⟨bL.append.2 ⟨?_,?_⟩,?_⟩
  .refine wB ((wB hc0 λ_=> ?_:bL (W1.setCells w.heap.size (i*k) news) w.heap.size 0 (olds.take (i*k))).heap hW) λ_=> ?_
   .rw [htl];left;omega
   .rw [htl];left;omega
  .rw [htl,hM];refine wB ((Gt hN (by omega):bL (W1.setCells w.heap.size (i*k) news) w.heap.size (i*k) news).heap hW) λ_=> ?_
   left;omega
  .rw [eR,htl,hnl,hM,show i*k+k=(i+1)*k by omega];exact Gt dw (by omega)
 .intro x hx hne;have hx':x≠w.heap.size:=by omega
  rw[lZ _ x hx',hW,lZ _ x hx',hO x hx]
def Fy:AV->Bool
 | .int _ _=>true
 | .bool _=>true
 | .str _=>true
 |_=>false
theorem aNl{w w':World}{E E':Env}{x:AV}{v:Value}{fp:List Nat}(h:Fy x=true)(hr:R w E x v fp):fp=[]/\R w' E' x v []:=by cases x<;>simp_all[Fy,R]
theorem O7{w w':World}{E E':Env}:∀{c:List AV} {cs:List Value} {fp:List Nat},c.all Fy=true->Rc w E c cs fp->fp=[]/\Rc w' E' c cs []
 |[],[],_,_,h=>⟨by simpa [Rc]using h,by simp[Rc]⟩
 |[],_::_,_,_,h=>by simp[Rc]at h
 |_::_,[],_,_,h=>by simp[Rc]at h
 |x::xs,v::vs,fp,hf,h=>by simp only[Cd,eJ]at hf;simp only[Rc]at h⊢;obtain⟨f1,f2,h1,h2,rfl⟩:=h;obtain⟨rfl,h3⟩:=aNl (w':=w') (E':=E') hf.1 h1;obtain⟨rfl,h4⟩:=O7 (w':=w') (E':=E') hf.2 h2;exact⟨rfl,[],[],h3,h4,rfl⟩
theorem LB{w w':World}{E E':Env}{n:Nat}:∀{l:List (List AV)} {vs:List Value} {fp:List Nat},(l.all λc=>c.all Fy)=true->Rv w E l vs n fp->fp=[]/\Rv w' E' l vs n []
 |[],_,_,_,h=>by simp only[Rv]at h⊢;exact⟨h.2,by simp[h.1]⟩
 |c::l,vs,fp,hf,h=>by simp only[Cd,eJ]at hf;simp only[Rv]at h⊢;obtain⟨cs,rest,f1,f2,rfl,hn,ho,h1,h2,rfl⟩:=h;obtain⟨rfl,h3⟩:=O7 (w':=w') (E':=E') hf.1 h1;obtain⟨rfl,h4⟩:=LB (w':=w') (E':=E') hf.2 h2;exact⟨rfl,cs,rest,[],[],rfl,hn,ho,h3,h4,rfl⟩
theorem dx{w:World}{E:Env}{n:Nat}:∀(i:Nat) {l:List (List AV)} {vs:List Value},Rv w E l vs n []->Rv w E (l.take i) (vs.take (i*n)) n []/\Rv w E (l.drop i) (vs.drop (i*n)) n []
 |0,l,vs,h=>by simp[Rv,h]
 |i+1,[],vs,h=>by simp only[Rv]at h;obtain⟨rfl,_⟩:=h;simp[Rv]
 |i+1,c::l,vs,h=>by
  simp only[Rv]at h;obtain⟨cs,rest,f1,f2,rfl,hn,ho,h1,h2,hf⟩:=h;obtain⟨rfl,rfl⟩:=append_eq_nil_iff.1 hf.symm;obtain⟨h3,h4⟩:=dx i h2;have e:(i+1)*n=cs.length+i*n:=by rw[AG,hn];omega
  simp only[eL,pC,e,take_length_add_append,drop_length_add_append,Rv];exact⟨⟨cs,_,[],[],rfl,hn,ho,h1,h3,rfl⟩,h4⟩
theorem DX{w:World}{O:Nat->Prop}{x:GA}{xs:List GA}:∀{vs:List Value} {uN:List (List Nat)} {jC:List Nat},Ex w O (x::xs) vs uN jC->
  ∃v vs' f fs k ks,vs=v::vs'/\uN=f::fs/\jC=k::ks/\RG w O x v f k/\Ex w O xs vs' fs ks
 |[],_,_,h=>by simp[Ex]at h
 |_::_,[],_,h=>by simp[Ex]at h
 |_::_,_::_,[],h=>by simp[Ex]at h
 |v::vs,f::fs,k::ks,h=>by simp only[Ex]at h;exact⟨v,vs,f,fs,k,ks,rfl,rfl,rfl,h.1,h.2⟩
theorem O8{w:World}{O:Nat->Prop}:∀{vs:List Value} {uN:List (List Nat)} {jC:List Nat},Ex w O [] vs uN jC->vs=[]/\uN=[]/\jC=[]
 |[],[],[],_=>⟨rfl,rfl,rfl⟩
 |_::_,_,_,h=>by simp[Ex]at h
 |[],_::_,_,h=>by simp[Ex]at h
 |[],[],_::_,h=>by simp[Ex]at h
theorem aJq{P:Program}[aC P]{f:FuncId}{n i k:Nat}{l:List (List AV)}{x:List AV}(hl:l.length=n)(hi:i<n)(hfl:(l.all λc=>c.all Fy)=true)(hfx:x.all Fy=true)
  (H:∀(w:World) (b off c:Nat) (C:Array Value) (e:TypeId) (fz:Nat×Nat) (olds news:List Value) (vb voff vc:Nat) (Cv:Array Value) (ev:TypeId) (YX:Nat×Nat),w.heap[b]? =some (.cells C e fz)->((C.size<=fz.1/\k=1)\/fz.2=0)->bL w b off olds->olds.length=n*k->(∀v∈olds,v.oneCell'=true)->
   off+c*k<=C.size->n<=c->c<=maxLen->vb≠b->w.heap[vb]? =some (.cells Cv ev YX)->((Cv.size<=YX.1/\k=1)\/YX.2=0)->bL w vb voff news->news.length=k->(∀v∈news,v.oneCell'=true)->
   Calls P f #[.slice (some ⟨b,off,none⟩) n c,.int .i64 i,.slice (some ⟨vb,voff,none⟩) 1 vc] w λed w'=>∃v b' off' cap' C' e' Uy,ed= .returned v/\Vd w w' b k (n+1) (olds.take (i*k)++news++olds.drop (i*k)) v b' off' cap' C' e' Uy):
  MP P f [.oM (.sl .own k l),.view (.int .i64 i),.oM (.sl .own k [x])] (.sl .own k (l.take i++[x]++l.drop i)):=by
 intro w vs uN jC hh hlow hnd hr;obtain⟨v1,vs,f1,uN,k1,jC,rfl,rfl,rfl,h1,hr⟩:=DX hr;obtain⟨v2,vs,f2,uN,k2,jC,rfl,rfl,rfl,h2,hr⟩:=DX hr;obtain⟨v3,vs,f3,uN,k3,jC,rfl,rfl,rfl,h3,hr⟩:=DX hr;obtain⟨rfl,rfl,rfl⟩:=O8 hr;simp only[RG]at h1 h2 h3;obtain⟨rfl,h2⟩:=h2;obtain⟨a,cap,rfl,VA,ho⟩:=tJ.1 h1;simp only[R]at h2;obtain⟨rfl,_⟩:=h2;rcases ho with⟨h0,_⟩|⟨b,off,C,e,fz,rE,rfl,hb,hz,hfit,hlc,hmax,rfl,Xj⟩
 .subst h0;simp at hl;omega
 obtain⟨a3,aNm,rfl,_,h3⟩:=tJ.1 h3;rcases h3 with⟨h0,_⟩|⟨vb,voff,Cv,ev,YX,aQ2,rfl,hb3,hz3,_,_,_,rfl,hr3⟩
 .cases h0
 obtain⟨olds,hv,hc⟩:=tQ.1 Xj;obtain⟨news,hv3,hc3⟩:=tQ.1 hr3;have hol:=jU hv;have hnl:=jU hv3;have hne:vb≠b:=λh=>by subst h;simp at hnd
 rw[hl]at hol;have:=H w b off cap C e fz olds news vb voff aNm Cv ev YX hb hz hc hol (QX hv) hfit (by rw[<-hl];exact hlc) hmax hne hb3 hz3 hc3 (by simpa using hnl) (QX hv3);rw[hl];refine this.mono λed w' h=> ?_
 obtain⟨v,b',off',cap',C',e',Uy,he,hI⟩:=h;have hq:=(LB (w':=w') (E':=(mE).plain) hfl hv).2;have WA:=(LB (w':=w') (E':=(mE).plain) (by simp[hfx]) hv3).2;obtain⟨q1,q2⟩:=dx i hq;have q4:=Br q2 (Br WA q1);have hlen:(l.take i++[x]++l.drop i).length=n+1:=by simp;omega
 have MQ:n+1<=maxLen:=kO hI.len hI.max;refine⟨v,[b'],[[],[],[]],he,tJ.2 ⟨_,cap',by rw[hlen];exact hI.ret,by rw[hlen];exact MQ,.inr ⟨b',off',C',e',Uy,[],rfl,hI.blk,hI.hz,hI.fit,by rw[hlen];exact hI.len,hI.max,rfl,tQ.2 ⟨_,by simpa using q4,hI.at'⟩⟩⟩,by simp[Uw,RP],by simp,?_,hI.size,?_,hI.same⟩
 .intro x hx;obtain rfl:x=b':=by simpa using hx
  refine⟨?_,hI.lt⟩;rcases hI.new with rfl|h
  .left;simp
  .exact .inr h
 .intro x hx hn;exact hI.frame x hx λh=>hn (by simp[h])
theorem XZ{w:World}{b off n c k:Nat}{C:Array Value}{e:TypeId}{fz:Nat×Nat}{olds news:List Value}(hb:w.heap[b]? =some (.cells C e fz))(hz:(C.size<=fz.1/\k=1)\/fz.2=0)
  (hc:bL w b off olds) (hol:olds.length=n*k) (hnl:news.length=k) (hroom:n+1<=c) (hfit:off+c*k<=C.size) (hmax:c<=maxLen):
  ∃C',Vd w (w.setCells b (off+n*k) news) b k (n+1) (olds++news) (.slice (some ⟨b,off,none⟩) (n+1) c) b off c C' e fz:=by
 have hnk:(n+1)*k<=c*k:=lA k hroom;have aQ1:(n+1)*k=n*k+k:=AG n k;obtain⟨C1,dw,LA⟩:=jQ b e fz news (off+n*k) w C hb;have hlt:b<w.heap.size:=(tE.1 hb).1;refine⟨C1,rfl,dw,by rw[LA];exact hz,by rw[LA];exact hfit,hroom,hmax,?_,.inl rfl,by rw[gW];exact hlt,by rw[gW];exact eE _,?_,kJ _ _ _ _⟩
 .refine bL.append.2 ⟨wB hc λ_=> ?_,?_⟩
  .rw [hol];left;omega
  .rw [hol];exact Gt hb (by omega)
 .intro x hx hne;rw[lZ b x hne]
theorem Ya{w:World}{b n k cap:Nat}{ROW:Array Value}{e:TypeId}{olds news:List Value}(hR:∀(j:Nat) (v:Value),(olds++news)[j]? =some v->ROW[j]? =some v)(hRs:cap*k<=ROW.size)(wX:n+1<=cap)(hmax:cap<=maxLen):
  ∃C',Vd w (w.drew.alloc (.cells ROW e)) b k (n+1) (olds++news) (.slice (some ⟨w.heap.size,0,none⟩) (n+1) cap) w.heap.size 0 cap C' e (0,0):=by
 have hN:(w.drew.alloc (.cells ROW e)).heap[w.heap.size]? =some (.cells ROW e):=fO w.drew _;refine⟨ROW,rfl,hN,.inr rfl,by omega,wX,hmax,rG hN (by intro j v hv;rw[hM];exact hR j v hv),.inr (eE _),by simp,by simp,λx hx _=>heap_alloc w.drew _ x hx,⟨rfl,rfl,rfl⟩⟩
theorem dz{P:Program}[aC P]{f:FuncId}{n k:Nat}{l:List (List AV)}{x:List AV}(hl:l.length=n)(hfl:(l.all λc=>c.all Fy)=true)(hfx:x.all Fy=true)
  (H:∀(w:World) (base:Option Addr) (bb c:Nat) (olds news:List Value) (vb voff vc:Nat),olds.length=n*k->n<=c->c<=maxLen->bL w vb voff news->news.length=k->(∀v∈news,v.oneCell'=true)->
   ((n=0/\c=0)\/∃off C e fz,base=some ⟨bb,off,none⟩/\w.heap[bb]? =some (.cells C e fz)/\((C.size<=fz.1/\k=1)\/fz.2=0)/\bL w bb off olds/\off+c*k<=C.size)->
   Calls P f #[.slice base n c,.int .i64 n,.slice (some ⟨vb,voff,none⟩) 1 vc] w λed w'=>∃v b' off' cap' C' e' Uy,ed= .returned v/\Vd w w' bb k (n+1) (olds++news) v b' off' cap' C' e' Uy):
  MP P f [.oM (.sl .own k l),.view (.int .i64 n),.oM (.sl .own k [x])] (.sl .own k (l++[x])):=by
 intro w vs uN jC hh hlow hnd hr;obtain⟨v1,vs,f1,uN,k1,jC,rfl,rfl,rfl,h1,hr⟩:=DX hr;obtain⟨v2,vs,f2,uN,k2,jC,rfl,rfl,rfl,h2,hr⟩:=DX hr;obtain⟨v3,vs,f3,uN,k3,jC,rfl,rfl,rfl,h3,hr⟩:=DX hr;obtain⟨rfl,rfl,rfl⟩:=O8 hr;simp only[RG]at h1 h2 h3;obtain⟨rfl,h2⟩:=h2;obtain⟨a,cap,rfl,VA,ho⟩:=tJ.1 h1;simp only[R]at h2;obtain⟨rfl,_⟩:=h2;obtain⟨a3,aNm,rfl,_,h3⟩:=tJ.1 h3;rcases h3 with⟨h0,_⟩|⟨vb,voff,Cv,ev,YX,aQ2,rfl,hb3,hz3,_,_,_,rfl,hr3⟩
 .cases h0
 obtain⟨news,hv3,hc3⟩:=tQ.1 hr3;have hnl:news.length=k:=by simpa using jU hv3
 obtain⟨bb,olds,hv,hbb,hnc,hmc,hor⟩:∃bb olds,Rv w (sI w (· ∈(f1++([]++((vb::aQ2)++[]))))).plain l olds k f1.tail/\(bb∈f1\/w.heap.size<=bb)/\n<=cap/\cap<=maxLen/\
   ((n=0/\cap=0)\/∃off C e fz,a=some ⟨bb,off,none⟩/\w.heap[bb]? =some (.cells C e fz)/\((C.size<=fz.1/\k=1)\/fz.2=0)/\bL w bb off olds/\off+cap*k<=C.size):=by
  rcases ho with⟨h0,h4,h5⟩|⟨b,off,C,e,fz,rE,rfl,hb,hz,hfit,hlc,hmax,rfl,Xj⟩
  .subst h0;subst h5;simp at hl;subst hl;subst h4;exact⟨w.heap.size,[],by simp[Rv],.inr (eE _),eE _,by simp[maxLen],.inl ⟨rfl,rfl⟩⟩
  .obtain ⟨olds,hv,hc⟩:=tQ.1 Xj;exact⟨b,olds,hv,.inl (by simp),by rw[<-hl];exact hlc,hmax,.inr ⟨off,C,e,fz,rfl,hb,hz,hc,hfit⟩⟩
 have hol:=jU hv;rw[hl]at hol;have:=H w a bb cap olds news vb voff aNm hol hnc hmc hc3 hnl (QX hv3) hor;rw[hl];refine this.mono λed w' h=> ?_
 obtain⟨v,b',off',cap',C',e',Uy,he,hI⟩:=h;have hq:=(LB (w':=w') (E':=(mE).plain) hfl hv).2;have WA:=(LB (w':=w') (E':=(mE).plain) (by simp[hfx]) hv3).2;have q4:=Br WA hq;have hlen:(l++[x]).length=n+1:=by simp;omega
 have MQ:n+1<=maxLen:=kO hI.len hI.max;refine⟨v,[b'],[[],[],[]],he,tJ.2 ⟨_,cap',by rw[hlen];exact hI.ret,by rw[hlen];exact MQ,.inr ⟨b',off',C',e',Uy,[],rfl,hI.blk,hI.hz,hI.fit,by rw[hlen];exact hI.len,hI.max,rfl,tQ.2 ⟨_,by simpa using q4,hI.at'⟩⟩⟩,by simp[Uw,RP],by simp,?_,hI.size,?_,hI.same⟩
 .intro x hx;obtain rfl:x=b':=by simpa using hx
  refine⟨?_,hI.lt⟩;rcases hI.new with rfl|h
  .rcases hbb with h|h
   .left;simp[h]
   .exact .inr h
  .exact .inr h
 .intro x hx hn;refine hI.frame x hx λh=> ?_
  subst h;rcases hbb with h|h
  .exact hn (by simp[h])
  .omega
end Go.Aw
set_option maxRecDepth 4000
set_option maxHeartbeats 4000000
namespace Go.Proofs.YtfbefblglejcaaaGreatDoor
open Go.Aw Proofs.Tryz List IntKind
def places{α:Type}(f:α->Bool):Nat->List α->List Int
 |_,[]=>[]
 |i,x::xs=>if f x then(i:Int)::places f (i+1) xs else places f (i+1) xs
theorem Pe{α:Type}(f:α->Bool)(x:α):∀(l:List α) (i:Nat),places f i (l++[x])=places f i l++(if f x then [((i+l.length:Nat):Int)]else [])
 |[],i=>by simp only[eM,places];cases f x<;>simp
 |y::ys,i=>by
  simp only[eA,places];rw[Pe f x ys (i+1)];have:i+1+ys.length=i+(y::ys).length:=by simp;omega
  rw[this];cases f y<;>simp
theorem xO{α:Type}(f:α->Bool)(l:List α)(k:Nat)(h:k<l.length):places f 0 (l.take (k+1))=places f 0 (l.take k)++(if f l[k]then [(k:Int)]else []):=by
 rw[eI h,Pe];have:(l.take k).length=k:=by simp;omega
 rw[this,hM]
theorem jB{α:Type}(f:α->Bool):∀(l:List α) (i:Nat),(places f i l).length<=l.length
 |[],_=>by simp[places]
 |x::xs,i=>by simp only[places];have:=jB f xs (i+1);cases f x<;>simp<;>omega
def rY(s:pJ):Bool:= !s.done
def rZ(s:dX):Bool:= !s.done
def jR(s:pJ):Bool:=s.mode == 4
theorem Eh[aC prog](p:aG)(hl:p.aB.length<=16777216):Ok prog 70 [.agg (aH .view p)] (.sl .own 1 ((places rY 0 p.aB).map mG)):=by
 refine bM aF func70 ntmps70 ?_;refine iF ?_;refine aO (ι:={q:Nat×Nat // q.1<=p.aB.length/\1<=q.2}) (λt o i=>⟨bC t [(3,.obj 1 i.1.2),(4,.int .i64 i.1.1)],o.take 1++[⟨true,false,1,i.1.2,(places rY 0 (p.aB.take i.1.1)).map mG⟩]⟩)
  (λi=>p.aB.length-i.1.1) ⟨(0,1),by simp,by simp⟩ (aJ (by simp[places]) (by simp)) ?_
 rintro⟨⟨k,v⟩,hk,hv⟩ K1 hK1;simp only at hk hv;simp only[bC,cW,cU,eL,fX,eA,eM]at hK1⊢;have hk1:=oQ (k:=k);by_cases hlt:k<p.aB.length
 .have hg:=aE hlt;have hps:=xO rY p.aB k hlt;have hpl:=jB rY (p.aB.take k) 0;have htl:(p.aB.take k).length=k:=by simp;omega
  have hb1:((places rY 0 (p.aB.take k)).length+1)*8<=140737488355328:=by omega
  have hb2:(places rY 0 (p.aB.take k)).length+1<=9223372036854775807:=by omega
  have hb3:(places rY 0 (p.aB.take k)).length<=9223372036854775806:=by omega
  have W:=aA hk1 (aA hg (aA hlt (aA hb1 (aA hb2 hb3))));repeat' first|refine wg ?_|(refine sq ?_ ?_<;>intro hc<;>try exact hc.elim)|fail
  .refine hK1 _ ⟨(k+1,v+1),by simp only;omega,by simp only;omega⟩ (aV 2 (by simp[hps,rY,hc])) (by simp only;omega)
  .refine hK1 _ ⟨(k+1,v),by simp only;omega,hv⟩ (aV 2 (by simp[hps,rY,hc])) (by simp only;omega)
 .have htk:p.aB.take k=p.aB:=cY (by omega);rw[htk];have W:=hk1;refine wl ?_;exact aD results70
theorem Ei[aC prog](p:aG)(hl:p.aB.length<=16777216):Ok prog 154 [.agg (aH .view p)] (.sl .own 1 ((places rY 0 p.aB).map mG)):=by
 refine bM aF func154 ntmps154 ?_;refine iF ?_;refine aO (ι:={q:Nat×Nat // q.1<=p.aB.length/\1<=q.2}) (λt o i=>⟨bC t [(3,.obj 1 i.1.2),(10,.int .i64 i.1.1)],o.take 1++[⟨true,false,1,i.1.2,(places rY 0 (p.aB.take i.1.1)).map mG⟩]⟩)
  (λi=>p.aB.length-i.1.1) ⟨(0,1),by simp,by simp⟩ (aJ (by simp[places]) (by simp)) ?_
 rintro⟨⟨k,v⟩,hk,hv⟩ K1 hK1;simp only at hk hv;simp only[bC,cW,cU,eL,fX,eA,eM]at hK1⊢;have hk1:=oQ (k:=k);by_cases hlt:k<p.aB.length
 .have hg:=aE hlt;have hps:=xO rY p.aB k hlt;have hpl:=jB rY (p.aB.take k) 0;have htl:(p.aB.take k).length=k:=by simp;omega
  have hb1:((places rY 0 (p.aB.take k)).length+1)*8<=140737488355328:=by omega
  have hb2:(places rY 0 (p.aB.take k)).length+1<=9223372036854775807:=by omega
  have hb3:(places rY 0 (p.aB.take k)).length<=9223372036854775806:=by omega
  have W:=aA hk1 (aA hg (aA hlt (aA hb1 (aA hb2 hb3))));repeat' first|refine wg ?_|(refine sq ?_ ?_<;>intro hc<;>try exact hc.elim)|fail
  .refine hK1 _ ⟨(k+1,v+1),by simp only;omega,by simp only;omega⟩ (aV 2 (by simp[hps,rY,hc])) (by simp only;omega)
  .refine hK1 _ ⟨(k+1,v),by simp only;omega,hv⟩ (aV 2 (by simp[hps,rY,hc])) (by simp only;omega)
 .have htk:p.aB.take k=p.aB:=cY (by omega);rw[htk];have W:=hk1;refine wl ?_;exact aD results154
theorem FJ[aC prog](p:aG)(hl:p.aN.length<=16777216):Ok prog 72 [.agg (aH .view p)] (.sl .own 1 ((places rZ 0 p.aN).map mG)):=by
 refine bM aF func72 ntmps72 ?_;refine iF ?_;refine aO (ι:={q:Nat×Nat // q.1<=p.aN.length/\1<=q.2}) (λt o i=>⟨bC t [(3,.obj 1 i.1.2),(4,.int .i64 i.1.1)],o.take 1++[⟨true,false,1,i.1.2,(places rZ 0 (p.aN.take i.1.1)).map mG⟩]⟩)
  (λi=>p.aN.length-i.1.1) ⟨(0,1),by simp,by simp⟩ (aJ (by simp[places]) (by simp)) ?_
 rintro⟨⟨k,v⟩,hk,hv⟩ K1 hK1;simp only at hk hv;simp only[bC,cW,cU,eL,fX,eA,eM]at hK1⊢;have hk1:=oQ (k:=k);by_cases hlt:k<p.aN.length
 .have hg:=aE hlt;have hps:=xO rZ p.aN k hlt;have hpl:=jB rZ (p.aN.take k) 0;have htl:(p.aN.take k).length=k:=by simp;omega
  have hb1:((places rZ 0 (p.aN.take k)).length+1)*8<=140737488355328:=by omega
  have hb2:(places rZ 0 (p.aN.take k)).length+1<=9223372036854775807:=by omega
  have hb3:(places rZ 0 (p.aN.take k)).length<=9223372036854775806:=by omega
  have W:=aA hk1 (aA hg (aA hlt (aA hb1 (aA hb2 hb3))));repeat' first|refine wg ?_|(refine sq ?_ ?_<;>intro hc<;>try exact hc.elim)|fail
  .refine hK1 _ ⟨(k+1,v+1),by simp only;omega,by simp only;omega⟩ (aV 2 (by simp[hps,rZ,hc])) (by simp only;omega)
  .refine hK1 _ ⟨(k+1,v),by simp only;omega,hv⟩ (aV 2 (by simp[hps,rZ,hc])) (by simp only;omega)
 .have htk:p.aN.take k=p.aN:=cY (by omega);rw[htk];have W:=hk1;refine wl ?_;exact aD results72
theorem FK[aC prog](p:aG)(hl:p.aN.length<=16777216):Ok prog 155 [.agg (aH .view p)] (.sl .own 1 ((places rZ 0 p.aN).map mG)):=by
 refine bM aF func155 ntmps155 ?_;refine iF ?_;refine aO (ι:={q:Nat×Nat // q.1<=p.aN.length/\1<=q.2}) (λt o i=>⟨bC t [(3,.obj 1 i.1.2),(10,.int .i64 i.1.1)],o.take 1++[⟨true,false,1,i.1.2,(places rZ 0 (p.aN.take i.1.1)).map mG⟩]⟩)
  (λi=>p.aN.length-i.1.1) ⟨(0,1),by simp,by simp⟩ (aJ (by simp[places]) (by simp)) ?_
 rintro⟨⟨k,v⟩,hk,hv⟩ K1 hK1;simp only at hk hv;simp only[bC,cW,cU,eL,fX,eA,eM]at hK1⊢;have hk1:=oQ (k:=k);by_cases hlt:k<p.aN.length
 .have hg:=aE hlt;have hps:=xO rZ p.aN k hlt;have hpl:=jB rZ (p.aN.take k) 0;have htl:(p.aN.take k).length=k:=by simp;omega
  have hb1:((places rZ 0 (p.aN.take k)).length+1)*8<=140737488355328:=by omega
  have hb2:(places rZ 0 (p.aN.take k)).length+1<=9223372036854775807:=by omega
  have hb3:(places rZ 0 (p.aN.take k)).length<=9223372036854775806:=by omega
  have W:=aA hk1 (aA hg (aA hlt (aA hb1 (aA hb2 hb3))));repeat' first|refine wg ?_|(refine sq ?_ ?_<;>intro hc<;>try exact hc.elim)|fail
  .refine hK1 _ ⟨(k+1,v+1),by simp only;omega,by simp only;omega⟩ (aV 2 (by simp[hps,rZ,hc])) (by simp only;omega)
  .refine hK1 _ ⟨(k+1,v),by simp only;omega,hv⟩ (aV 2 (by simp[hps,rZ,hc])) (by simp only;omega)
 .have htk:p.aN.take k=p.aN:=cY (by omega);rw[htk];have W:=hk1;refine wl ?_;exact aD results155
theorem GL[aC prog](p:aG)(hl:p.aB.length<=16777216):Ok prog 116 [.agg (aH .view p)] (.sl .own 1 ((places jR 0 p.aB).map mG)):=by
 refine bM aF func116 ntmps116 ?_;refine iF ?_;refine aO (ι:={q:Nat×Nat // q.1<=p.aB.length/\1<=q.2}) (λt o i=>⟨bC t [(3,.obj 1 i.1.2),(4,.int .i64 i.1.1)],o.take 1++[⟨true,false,1,i.1.2,(places jR 0 (p.aB.take i.1.1)).map mG⟩]⟩)
  (λi=>p.aB.length-i.1.1) ⟨(0,1),by simp,by simp⟩ (aJ (by simp[places]) (by simp)) ?_
 rintro⟨⟨k,v⟩,hk,hv⟩ K1 hK1;simp only at hk hv;simp only[bC,cW,cU,eL,fX,eA,eM]at hK1⊢;have hk1:=oQ (k:=k);by_cases hlt:k<p.aB.length
 .have hg:=aE hlt;have hps:=xO jR p.aB k hlt;have hpl:=jB jR (p.aB.take k) 0;have htl:(p.aB.take k).length=k:=by simp;omega
  have hb1:((places jR 0 (p.aB.take k)).length+1)*8<=140737488355328:=by omega
  have hb2:(places jR 0 (p.aB.take k)).length+1<=9223372036854775807:=by omega
  have hb3:(places jR 0 (p.aB.take k)).length<=9223372036854775806:=by omega
  have W:=aA hk1 (aA hg (aA hlt (aA hb1 (aA hb2 hb3))));repeat' first|refine wg ?_|(refine sq ?_ ?_<;>intro hc<;>try exact hc.elim)|fail
  .refine hK1 _ ⟨(k+1,v+1),by simp only;omega,by simp only;omega⟩ (aV 2 (by simp[hps,jR,hc])) (by simp only;omega)
  .refine hK1 _ ⟨(k+1,v),by simp only;omega,hv⟩ (aV 2 (by simp[hps,jR,hc])) (by simp only;omega)
 .have htk:p.aB.take k=p.aB:=cY (by omega);rw[htk];have W:=hk1;refine wl ?_;exact aD results116
theorem GM[aC prog](p:aG)(hl:p.aB.length<=16777216):Ok prog 151 [.agg (aH .view p)] (.sl .own 1 ((places jR 0 p.aB).map mG)):=by
 refine bM aF func151 ntmps151 ?_;refine iF ?_;refine aO (ι:={q:Nat×Nat // q.1<=p.aB.length/\1<=q.2}) (λt o i=>⟨bC t [(3,.obj 1 i.1.2),(10,.int .i64 i.1.1)],o.take 1++[⟨true,false,1,i.1.2,(places jR 0 (p.aB.take i.1.1)).map mG⟩]⟩)
  (λi=>p.aB.length-i.1.1) ⟨(0,1),by simp,by simp⟩ (aJ (by simp[places]) (by simp)) ?_
 rintro⟨⟨k,v⟩,hk,hv⟩ K1 hK1;simp only at hk hv;simp only[bC,cW,cU,eL,fX,eA,eM]at hK1⊢;have hk1:=oQ (k:=k);by_cases hlt:k<p.aB.length
 .have hg:=aE hlt;have hps:=xO jR p.aB k hlt;have hpl:=jB jR (p.aB.take k) 0;have htl:(p.aB.take k).length=k:=by simp;omega
  have hb1:((places jR 0 (p.aB.take k)).length+1)*8<=140737488355328:=by omega
  have hb2:(places jR 0 (p.aB.take k)).length+1<=9223372036854775807:=by omega
  have hb3:(places jR 0 (p.aB.take k)).length<=9223372036854775806:=by omega
  have W:=aA hk1 (aA hg (aA hlt (aA hb1 (aA hb2 hb3))));repeat' first|refine wg ?_|(refine sq ?_ ?_<;>intro hc<;>try exact hc.elim)|fail
  .refine hK1 _ ⟨(k+1,v+1),by simp only;omega,by simp only;omega⟩ (aV 2 (by simp[hps,jR,hc])) (by simp only;omega)
  .refine hK1 _ ⟨(k+1,v),by simp only;omega,hv⟩ (aV 2 (by simp[hps,jR,hc])) (by simp only;omega)
 .have htk:p.aB.take k=p.aB:=cY (by omega);rw[htk];have W:=hk1;refine wl ?_;exact aD results151
end Go.Proofs.YtfbefblglejcaaaGreatDoor
