/- Proved here: steps towards the statement of this claim. No condition. -/
import Derived.Lib.Overlaps
import Derived.Lib.AppendZerosOnto
import Derived.Test.YtjkdolejalpflaaGreatDoorZQU3
set_option linter.all false
namespace Go.Aw
open List
theorem AU{P:Program}{w:World}{dT sT ty elem:TypeId}{i:TypeInfo}{b o aEd aH3 b2 o2 sLen sCap n:Nat}{C:Array Value}{e:TypeId}{fz:Nat×Nat}{cs:List Value}{q:Prop}
  (hu:P.underlying dT=some (.slice elem)) (hi:P.info? elem=some i) (hm:Nat.min sLen aEd=n) (hn:cs.length=n*i.size)
  (aAs:bA w b2 o2 cs) (hb:w.heap[b]? =some (.cells C e fz)) (hz:(C.size<=fz.1/\q)\/fz.2=0) (hfit:o+cs.length<=C.size) (h1:∀v∈cs,v.oneCell'=true):
  (Builtin.copy_ #[dT,sT] ty #[.slice (some ⟨b,o,none⟩) aEd aH3,.slice (some ⟨b2,o2,none⟩) sLen sCap]).run P w= .ok (goInt n) (w.setCells b o cs):=by
 have hl:=jG (P:=P) (w:=w) (len:=sLen) (cap:=sCap) hn aAs;have hst:=pE (P:=P) hb hz hfit h1;simp[Builtin.copy_,fL hu,Builtin.lenOf,sizeOf,typeInfo,hi,hm,hl,hst]
theorem Ce{w:World}{b o:Nat}{C:Array Value}{e:TypeId}{fz:Nat×Nat}{cs:List Value}(hb:w.heap[b]? =some (.cells C e fz))(hfit:o+cs.length<=C.size):bA (w.setCells b o cs) b o cs:=by
 intro j v hv;have hj:j<cs.length:=(cA.1 hv).1;have:=xF b cs o w (λj hj=>by
  have:o+j<C.size:=by omega
  simp[World.cell?,hb,this]) j hj
 rw[this];rw[aE hj]at hv;exact hv
theorem qR{w:World}{b o b2 p:Nat}{cs ds:List Value}(h:bA w b2 p ds)(ho:b2=b->p+ds.length<=o\/o+cs.length<=p):bA (w.setCells b o cs) b2 p ds:=by
 intro j v hv;have hj:j<ds.length:=(cA.1 hv).1;rw[vA]
 .exact h j v hv
 .intro h1 _;have:=ho h1;simp only;omega
structure Ns(w w':World)(b k n:Nat)(cs:List Value)(v:Value)(b' off' cap':Nat)(C':Array Value)(e':TypeId)(MZ:Nat × Nat): Prop where
  ret:v = .slice (some ⟨b', off', none⟩) n cap'
  blk:w'.heap[b']? = some (.cells C' e' MZ)
  hz:(C'.size <= MZ.1 /\ k = 1) \/ MZ.2 = 0
  fit:off'+cap'*k <= C'.size
  len:n <= cap'
  max:cap' <= maxLen
  at':bA w' b' off' cs
  new:b' = b \/ w.heap.size <= b'
  lt:b'<w'.heap.size
  size:w.heap.size <= w'.heap.size
  frame:∀ x, x<w.heap.size -> x ≠ b -> w'.heap[x]? = w.heap[x]?
  same:iW w w'
theorem LC{b:Nat}:∀(vs:List Value) (o:Nat) {w w0:World},w0.heap=w.heap->(w0.setCells b o vs).heap=(w.setCells b o vs).heap
 |[],_,_,_,h=>h
 |v::r,o,w,w0,h=>by rw[World.setCells,World.setCells];exact LC r (o+1) (by simp[World.setCell,h])
theorem Vy{w W1:World}{b off n c i k:Nat}{C:Array Value}{e:TypeId}{fz:Nat×Nat}{olds news:List Value}(hb:w.heap[b]? =some (.cells C e fz))(hz:(C.size<=fz.1/\k=1)\/fz.2=0)
  (hc:bA w b off olds) (hol:olds.length=n*k) (hnl:news.length=k) (hi:i<n) (hroom:n+1<=c) (hfit:off+c*k<=C.size) (hmax:c<=maxLen)
  (hW:W1.heap=(w.setCells b (off+(i+1)*k) (olds.drop (i*k))).heap) (hs:iW w W1):
  ∃C',Ns w (W1.setCells b (off+i*k) news) b k (n+1) (olds.take (i*k)++news++olds.drop (i*k)) (.slice (some ⟨b,off,none⟩) (n+1) c) b off c C' e fz:=by
 have hik:i*k+k<=n*k:=by rw[<-Ax];exact hH k hi
 have Z8:(n+1)*k<=c*k:=hH k hroom;have aEe:(n+1)*k=n*k+k:=Ax n k;have aH4:(i+1)*k=i*k+k:=Ax i k;have hdl:(olds.drop (i*k)).length=n*k-i*k:=by rw[tG,hol]
 have htl:(olds.take (i*k)).length=i*k:=by rw[pN,hol];omega
 obtain⟨C1,Td,FN⟩:=gX b e fz (olds.drop (i*k)) (off+(i+1)*k) w C hb;rw[<-hW]at Td;obtain⟨C2,hC2,F5⟩:=gX b e fz news (off+i*k) _ C1 Td;have hlt:b<w.heap.size:=(rL.1 hb).1;have hsz:W1.heap.size=w.heap.size:=by rw[hW,fC]
 refine⟨C2,rfl,hC2,by rw[F5,FN];exact hz,by rw[F5,FN];exact hfit,hroom,hmax,?_,.inl rfl,by rw[fC,hsz];exact hlt,by rw[fC,hsz];exact cX _,?_,hs.trans (iM _ _ _ _)⟩
 .refine bA.append.2 ⟨bA.append.2 ⟨?_,?_⟩,?_⟩
  .refine qR ((qR hc.take λ_=> ?_:bA (w.setCells b (off+(i+1)*k) (olds.drop (i*k))) b off (olds.take (i*k))).heap hW) λ_=> ?_
   .rw [htl];left;omega
   .rw [htl];left;omega
  .rw [htl];exact Ce Td (by omega)
  .rw [eJ,htl,hnl,show off+(i*k+k)=off+(i+1)*k by omega];refine qR ((Ce hb (by omega):bA (w.setCells b (off+(i+1)*k) (olds.drop (i*k))) b (off+(i+1)*k) (olds.drop (i*k))).heap hW) λ_=> ?_
   right;omega
 .intro x hx hne;rw[jC b x hne,hW,jC b x hne]
theorem Yi{w W1 W2:World}{b n i k cap:Nat}{ROW:Array Value}{e:TypeId}{olds news:List Value}(hol:olds.length=n*k)(hnl:news.length=k)(hi:i<n)
  (hR:∀(j:Nat) (v:Value),(olds.take (i*k))[j]? =some v->ROW[j]? =some v) (hRs:cap*k<=ROW.size) (nQ:n+1<=cap) (hmax:cap<=maxLen)
  (hN:W1.heap[w.heap.size]? =some (.cells ROW e (0,0))) (hO:∀x,x<w.heap.size->W1.heap[x]? =w.heap[x]?) (hs1:iW w W1)
  (hW:W2.heap=(W1.setCells w.heap.size (i*k) news).heap) (hs2:iW W1 W2):
  ∃C',Ns w (W2.setCells w.heap.size ((i+1)*k) (olds.drop (i*k))) b k (n+1) (olds.take (i*k)++news++olds.drop (i*k)) (.slice (some ⟨w.heap.size,0,none⟩) (n+1) cap) w.heap.size 0 cap C' e (0,0):=by
 have hik:i*k+k<=n*k:=by rw[<-Ax];exact hH k hi
 have Z8:(n+1)*k<=cap*k:=hH k nQ;have aEe:(n+1)*k=n*k+k:=Ax n k;have aH4:(i+1)*k=i*k+k:=Ax i k;have hdl:(olds.drop (i*k)).length=n*k-i*k:=by rw[tG,hol]
 have htl:(olds.take (i*k)).length=i*k:=by rw[pN,hol];omega
 obtain⟨C1,Td,FN⟩:=gX w.heap.size e (0,0) news (i*k) W1 ROW hN;rw[<-hW]at Td;obtain⟨C2,hC2,F5⟩:=gX w.heap.size e (0,0) (olds.drop (i*k)) ((i+1)*k) W2 C1 Td;have hlt:w.heap.size<W1.heap.size:=(rL.1 hN).1;have hsz:W2.heap.size=W1.heap.size:=by rw[hW,fC]
 have hc0:bA W1 w.heap.size 0 (olds.take (i*k)):=by refine rH hN ?_;intro j v hv;rw[gE];exact hR j v hv
 refine⟨C2,rfl,hC2,.inr rfl,by rw[F5,FN];omega,nQ,hmax,?_,.inr (cX _),by rw[fC,hsz];exact hlt,by rw[fC,hsz];omega,?_,hs1.trans (hs2.trans (iM _ _ _ _))⟩
 .refine bA.append.2 ⟨bA.append.2 ⟨?_,?_⟩,?_⟩
  .refine qR ((qR hc0 λ_=> ?_:bA (W1.setCells w.heap.size (i*k) news) w.heap.size 0 (olds.take (i*k))).heap hW) λ_=> ?_
   .rw [htl];left;omega
   .rw [htl];left;omega
  .rw [htl,gE];refine qR ((Ce hN (by omega):bA (W1.setCells w.heap.size (i*k) news) w.heap.size (i*k) news).heap hW) λ_=> ?_
   left;omega
  .rw [eJ,htl,hnl,gE,show i*k+k=(i+1)*k by omega];exact Ce Td (by omega)
 .intro x hx hne;have hx':x≠w.heap.size:=by omega
  rw[jC _ x hx',hW,jC _ x hx',hO x hx]
def Bv:AV->Bool
 | .int _ _=>true
 | .bool _=>true
 | .str _=>true
 |_=>false
theorem aA7{w w':World}{E E':Env}{x:AV}{v:Value}{fp:List Nat}(h:Bv x=true)(hr:R w E x v fp):fp=[]/\R w' E' x v []:=by cases x<;>simp_all[Bv,R]
theorem Xk{w w':World}{E E':Env}:∀{c:List AV} {cs:List Value} {fp:List Nat},c.all Bv=true->Rc w E c cs fp->fp=[]/\Rc w' E' c cs []
 |[],[],_,_,h=>⟨by simpa [Rc]using h,by simp[Rc]⟩
 |[],_::_,_,_,h=>by simp[Rc]at h
 |_::_,[],_,_,h=>by simp[Rc]at h
 |x::xs,v::vs,fp,hf,h=>by simp only[CD,eC]at hf;simp only[Rc]at h⊢;obtain⟨f1,f2,h1,h2,rfl⟩:=h;obtain⟨rfl,h3⟩:=aA7 (w':=w') (E':=E') hf.1 h1;obtain⟨rfl,h4⟩:=Xk (w':=w') (E':=E') hf.2 h2;exact⟨rfl,[],[],h3,h4,rfl⟩
theorem FO{w w':World}{E E':Env}{n:Nat}:∀{l:List (List AV)} {vs:List Value} {fp:List Nat},(l.all λc=>c.all Bv)=true->Rv w E l vs n fp->fp=[]/\Rv w' E' l vs n []
 |[],_,_,_,h=>by simp only[Rv]at h⊢;exact⟨h.2,by simp[h.1]⟩
 |c::l,vs,fp,hf,h=>by simp only[CD,eC]at hf;simp only[Rv]at h⊢;obtain⟨cs,rest,f1,f2,rfl,hn,ho,h1,h2,rfl⟩:=h;obtain⟨rfl,h3⟩:=Xk (w':=w') (E':=E') hf.1 h1;obtain⟨rfl,h4⟩:=FO (w':=w') (E':=E') hf.2 h2;exact⟨rfl,cs,rest,[],[],rfl,hn,ho,h3,h4,rfl⟩
theorem Te{w:World}{E:Env}{n:Nat}:∀(i:Nat) {l:List (List AV)} {vs:List Value},Rv w E l vs n []->Rv w E (l.take i) (vs.take (i*n)) n []/\Rv w E (l.drop i) (vs.drop (i*n)) n []
 |0,l,vs,h=>by simp[Rv,h]
 |i+1,[],vs,h=>by simp only[Rv]at h;obtain⟨rfl,_⟩:=h;simp[Rv]
 |i+1,c::l,vs,h=>by
  simp only[Rv]at h;obtain⟨cs,rest,f1,f2,rfl,hn,ho,h1,h2,hf⟩:=h;obtain⟨rfl,rfl⟩:=append_eq_nil_iff.1 hf.symm;obtain⟨h3,h4⟩:=Te i h2;have e:(i+1)*n=cs.length+i*n:=by rw[Ax,hn];omega
  simp only[kO,AW,e,take_length_add_append,drop_length_add_append,Rv];exact⟨⟨cs,_,[],[],rfl,hn,ho,h1,h3,rfl⟩,h4⟩
theorem zW{w:World}{O:Nat->Prop}{x:GA}{xs:List GA}:∀{vs:List Value} {pO:List (List Nat)} {gN:List Nat},Av w O (x::xs) vs pO gN->
  ∃v vs' f fs k ks,vs=v::vs'/\pO=f::fs/\gN=k::ks/\RG w O x v f k/\Av w O xs vs' fs ks
 |[],_,_,h=>by simp[Av]at h
 |_::_,[],_,h=>by simp[Av]at h
 |_::_,_::_,[],h=>by simp[Av]at h
 |v::vs,f::fs,k::ks,h=>by simp only[Av]at h;exact⟨v,vs,f,fs,k,ks,rfl,rfl,rfl,h.1,h.2⟩
theorem Xl{w:World}{O:Nat->Prop}:∀{vs:List Value} {pO:List (List Nat)} {gN:List Nat},Av w O [] vs pO gN->vs=[]/\pO=[]/\gN=[]
 |[],[],[],_=>⟨rfl,rfl,rfl⟩
 |_::_,_,_,h=>by simp[Av]at h
 |[],_::_,_,h=>by simp[Av]at h
 |[],[],_::_,h=>by simp[Av]at h
theorem F6{P:Program}[aB P]{f:FuncId}{n i k:Nat}{l:List (List AV)}{x:List AV}(hl:l.length=n)(hi:i<n)(hfl:(l.all λc=>c.all Bv)=true)(Rs:x.all Bv=true)
  (H:∀(w:World) (b off c:Nat) (C:Array Value) (e:TypeId) (fz:Nat×Nat) (olds news:List Value) (vb voff vc:Nat) (Cv:Array Value) (ev:TypeId) (Rt:Nat×Nat),w.heap[b]? =some (.cells C e fz)->((C.size<=fz.1/\k=1)\/fz.2=0)->bA w b off olds->olds.length=n*k->(∀v∈olds,v.oneCell'=true)->
   off+c*k<=C.size->n<=c->c<=maxLen->vb≠b->w.heap[vb]? =some (.cells Cv ev Rt)->((Cv.size<=Rt.1/\k=1)\/Rt.2=0)->bA w vb voff news->news.length=k->(∀v∈news,v.oneCell'=true)->
   Calls P f #[.slice (some ⟨b,off,none⟩) n c,.int .i64 i,.slice (some ⟨vb,voff,none⟩) 1 vc] w λed w'=>∃v b' off' cap' C' e' MZ,ed= .returned v/\Ns w w' b k (n+1) (olds.take (i*k)++news++olds.drop (i*k)) v b' off' cap' C' e' MZ):
  UD P f [.oN (.sl .own k l),.view (.int .i64 i),.oN (.sl .own k [x])] (.sl .own k (l.take i++[x]++l.drop i)):=by
 intro w vs pO gN hh hlow hnd hr;obtain⟨v1,vs,f1,pO,k1,gN,rfl,rfl,rfl,h1,hr⟩:=zW hr;obtain⟨v2,vs,f2,pO,k2,gN,rfl,rfl,rfl,h2,hr⟩:=zW hr;obtain⟨v3,vs,f3,pO,k3,gN,rfl,rfl,rfl,h3,hr⟩:=zW hr;obtain⟨rfl,rfl,rfl⟩:=Xl hr;simp only[RG]at h1 h2 h3;obtain⟨rfl,h2⟩:=h2;obtain⟨a,cap,rfl,WG,ho⟩:=qW.1 h1;simp only[R]at h2;obtain⟨rfl,_⟩:=h2;rcases ho with⟨h0,_⟩|⟨b,off,C,e,fz,nA,rfl,hb,hz,hfit,hlc,hmax,rfl,Jn⟩
 .subst h0;simp at hl;omega
 obtain⟨a3,aA8,rfl,_,h3⟩:=qW.1 h3;rcases h3 with⟨h0,_⟩|⟨vb,voff,Cv,ev,Rt,aEf,rfl,hb3,hz3,_,_,_,rfl,hr3⟩
 .cases h0
 obtain⟨olds,hv,hc⟩:=rA.1 Jn;obtain⟨news,hv3,Y9⟩:=rA.1 hr3;have hol:=jL hv;have hnl:=jL hv3;have hne:vb≠b:=λh=>by subst h;simp at hnd
 rw[hl]at hol;have:=H w b off cap C e fz olds news vb voff aA8 Cv ev Rt hb hz hc hol (Kr hv) hfit (by rw[<-hl];exact hlc) hmax hne hb3 hz3 Y9 (by simpa using hnl) (Kr hv3);rw[hl];refine this.mono λed w' h=> ?_
 obtain⟨v,b',off',cap',C',e',MZ,he,hI⟩:=h;have hq:=(FO (w':=w') (E':=(kZ).plain) hfl hv).2;have OU:=(FO (w':=w') (E':=(kZ).plain) (by simp[Rs]) hv3).2;obtain⟨q1,q2⟩:=Te i hq;have q4:=wO q2 (wO OU q1);have hlen:(l.take i++[x]++l.drop i).length=n+1:=by simp;omega
 have hml:n+1<=maxLen:=fW hI.len hI.max;refine⟨v,[b'],[[],[],[]],he,qW.2 ⟨_,cap',by rw[hlen];exact hI.ret,by rw[hlen];exact hml,.inr ⟨b',off',C',e',MZ,[],rfl,hI.blk,hI.hz,hI.fit,by rw[hlen];exact hI.len,hI.max,rfl,rA.2 ⟨_,by simpa using q4,hI.at'⟩⟩⟩,by simp[MW,RP],by simp,?_,hI.size,?_,hI.same⟩
 .intro x hx;obtain rfl:x=b':=by simpa using hx
  refine⟨?_,hI.lt⟩;rcases hI.new with rfl|h
  .left;simp
  .exact .inr h
 .intro x hx hn;exact hI.frame x hx λh=>hn (by simp[h])
theorem Qj{w:World}{b off n c k:Nat}{C:Array Value}{e:TypeId}{fz:Nat×Nat}{olds news:List Value}(hb:w.heap[b]? =some (.cells C e fz))(hz:(C.size<=fz.1/\k=1)\/fz.2=0)
  (hc:bA w b off olds) (hol:olds.length=n*k) (hnl:news.length=k) (hroom:n+1<=c) (hfit:off+c*k<=C.size) (hmax:c<=maxLen):
  ∃C',Ns w (w.setCells b (off+n*k) news) b k (n+1) (olds++news) (.slice (some ⟨b,off,none⟩) (n+1) c) b off c C' e fz:=by
 have Z8:(n+1)*k<=c*k:=hH k hroom;have aEe:(n+1)*k=n*k+k:=Ax n k;obtain⟨C1,Td,FN⟩:=gX b e fz news (off+n*k) w C hb;have hlt:b<w.heap.size:=(rL.1 hb).1;refine⟨C1,rfl,Td,by rw[FN];exact hz,by rw[FN];exact hfit,hroom,hmax,?_,.inl rfl,by rw[fC];exact hlt,by rw[fC];exact cX _,?_,iM _ _ _ _⟩
 .refine bA.append.2 ⟨qR hc λ_=> ?_,?_⟩
  .rw [hol];left;omega
  .rw [hol];exact Ce hb (by omega)
 .intro x hx hne;rw[jC b x hne]
theorem Qk{w:World}{b n k cap:Nat}{ROW:Array Value}{e:TypeId}{olds news:List Value}(hR:∀(j:Nat) (v:Value),(olds++news)[j]? =some v->ROW[j]? =some v)(hRs:cap*k<=ROW.size)(nQ:n+1<=cap)(hmax:cap<=maxLen):
  ∃C',Ns w (w.drew.alloc (.cells ROW e)) b k (n+1) (olds++news) (.slice (some ⟨w.heap.size,0,none⟩) (n+1) cap) w.heap.size 0 cap C' e (0,0):=by
 have hN:(w.drew.alloc (.cells ROW e)).heap[w.heap.size]? =some (.cells ROW e):=eU w.drew _;refine⟨ROW,rfl,hN,.inr rfl,by omega,nQ,hmax,rH hN (by intro j v hv;rw[gE];exact hR j v hv),.inr (cX _),by simp,by simp,λx hx _=>heap_alloc w.drew _ x hx,⟨rfl,rfl,rfl⟩⟩
theorem Tf{P:Program}[aB P]{f:FuncId}{n k:Nat}{l:List (List AV)}{x:List AV}(hl:l.length=n)(hfl:(l.all λc=>c.all Bv)=true)(Rs:x.all Bv=true)
  (H:∀(w:World) (base:Option Addr) (bb c:Nat) (olds news:List Value) (vb voff vc:Nat),olds.length=n*k->n<=c->c<=maxLen->bA w vb voff news->news.length=k->(∀v∈news,v.oneCell'=true)->
   ((n=0/\c=0)\/∃off C e fz,base=some ⟨bb,off,none⟩/\w.heap[bb]? =some (.cells C e fz)/\((C.size<=fz.1/\k=1)\/fz.2=0)/\bA w bb off olds/\off+c*k<=C.size)->
   Calls P f #[.slice base n c,.int .i64 n,.slice (some ⟨vb,voff,none⟩) 1 vc] w λed w'=>∃v b' off' cap' C' e' MZ,ed= .returned v/\Ns w w' bb k (n+1) (olds++news) v b' off' cap' C' e' MZ):
  UD P f [.oN (.sl .own k l),.view (.int .i64 n),.oN (.sl .own k [x])] (.sl .own k (l++[x])):=by
 intro w vs pO gN hh hlow hnd hr;obtain⟨v1,vs,f1,pO,k1,gN,rfl,rfl,rfl,h1,hr⟩:=zW hr;obtain⟨v2,vs,f2,pO,k2,gN,rfl,rfl,rfl,h2,hr⟩:=zW hr;obtain⟨v3,vs,f3,pO,k3,gN,rfl,rfl,rfl,h3,hr⟩:=zW hr;obtain⟨rfl,rfl,rfl⟩:=Xl hr;simp only[RG]at h1 h2 h3;obtain⟨rfl,h2⟩:=h2;obtain⟨a,cap,rfl,WG,ho⟩:=qW.1 h1;simp only[R]at h2;obtain⟨rfl,_⟩:=h2;obtain⟨a3,aA8,rfl,_,h3⟩:=qW.1 h3;rcases h3 with⟨h0,_⟩|⟨vb,voff,Cv,ev,Rt,aEf,rfl,hb3,hz3,_,_,_,rfl,hr3⟩
 .cases h0
 obtain⟨news,hv3,Y9⟩:=rA.1 hr3;have hnl:news.length=k:=by simpa using jL hv3
 obtain⟨bb,olds,hv,hbb,hnc,hmc,hor⟩:∃bb olds,Rv w (oM w (· ∈(f1++([]++((vb::aEf)++[]))))).plain l olds k f1.tail/\(bb∈f1\/w.heap.size<=bb)/\n<=cap/\cap<=maxLen/\
   ((n=0/\cap=0)\/∃off C e fz,a=some ⟨bb,off,none⟩/\w.heap[bb]? =some (.cells C e fz)/\((C.size<=fz.1/\k=1)\/fz.2=0)/\bA w bb off olds/\off+cap*k<=C.size):=by
  rcases ho with⟨h0,h4,h5⟩|⟨b,off,C,e,fz,nA,rfl,hb,hz,hfit,hlc,hmax,rfl,Jn⟩
  .subst h0;subst h5;simp at hl;subst hl;subst h4;exact⟨w.heap.size,[],by simp[Rv],.inr (cX _),cX _,by simp[maxLen],.inl ⟨rfl,rfl⟩⟩
  .obtain ⟨olds,hv,hc⟩:=rA.1 Jn;exact⟨b,olds,hv,.inl (by simp),by rw[<-hl];exact hlc,hmax,.inr ⟨off,C,e,fz,rfl,hb,hz,hc,hfit⟩⟩
 have hol:=jL hv;rw[hl]at hol;have:=H w a bb cap olds news vb voff aA8 hol hnc hmc Y9 hnl (Kr hv3) hor;rw[hl];refine this.mono λed w' h=> ?_
 obtain⟨v,b',off',cap',C',e',MZ,he,hI⟩:=h;have hq:=(FO (w':=w') (E':=(kZ).plain) hfl hv).2;have OU:=(FO (w':=w') (E':=(kZ).plain) (by simp[Rs]) hv3).2;have q4:=wO OU hq;have hlen:(l++[x]).length=n+1:=by simp;omega
 have hml:n+1<=maxLen:=fW hI.len hI.max;refine⟨v,[b'],[[],[],[]],he,qW.2 ⟨_,cap',by rw[hlen];exact hI.ret,by rw[hlen];exact hml,.inr ⟨b',off',C',e',MZ,[],rfl,hI.blk,hI.hz,hI.fit,by rw[hlen];exact hI.len,hI.max,rfl,rA.2 ⟨_,by simpa using q4,hI.at'⟩⟩⟩,by simp[MW,RP],by simp,?_,hI.size,?_,hI.same⟩
 .intro x hx;obtain rfl:x=b':=by simpa using hx
  refine⟨?_,hI.lt⟩;rcases hI.new with rfl|h
  .rcases hbb with h|h
   .left;simp[h]
   .exact .inr h
  .exact .inr h
 .intro x hx hn;refine hI.frame x hx λh=> ?_
  subst h;rcases hbb with h|h
  .exact hn (by simp[h])
  .omega
end Go.Aw
set_option maxRecDepth 4000
set_option maxHeartbeats 400000
namespace Go.Proofs.YtjkdolejalpflaaGreatDoor
open Go.Aw Proofs.Tryz List IntKind
theorem wC[aB prog](s:aX)(c:UInt8):Ok prog 176 [.str s,.int .u8 c.toNat] (.int .i64 (Sy c s)):=by have h1:=EG s c;refine dA aJ func176 ntmps176 ?_;refine nG ?_;exact aO results176
theorem Jv[aB prog](s:aX)(c:UInt8):Ok prog 171 [.str s,.str [c]] (.int .i64 (Sy c s)):=by
 have h1:=wC s c;refine dA aJ func171 ntmps171 ?_;have W:=trivial;repeat' first|refine wg ?_|(refine sq ?_ ?_<;>intro hc<;>try exact hc.elim)|fail
 all_goals try(refine aP ?_;simp[aT,results171])
 all_goals (subst hc;simp[Sy,xB])
theorem VB[aB prog](s:aX)(c:UInt8)(hl:s.length<=1099511627776):Ok prog 139 [.str s,.str [c]] (.fH [.str (s.take (gD c s)),.str (s.drop (gD c s+1)),.bool (decide (gD c s<s.length))]):=by
 have h1:=Jv s c;have hle:=uL c s;by_cases h:gD c s<s.length
 .have e:Sy c s=gD c s:=eA h;rw[e]at h1;generalize gD c s=k at*;refine dA aJ func139 ntmps139 ?_;have W:=h;refine wl ?_;all_goals try(refine aP ?_;simp[aT,results139])
  all_goals simp_all
 .have e:Sy c s= -1:=cU h;rw[e]at h1;have e2:gD c s=s.length:=by omega
  rw[e2];refine dA aJ func139 ntmps139 ?_;refine nG ?_;all_goals try(refine aP ?_;simp[aT,results139])
  all_goals simp
theorem uZ[aB prog](s:aX)(c:UInt8)(hl:s.length<=1099511627776):Ok prog 104 [.str s,.str [c]] (.fH [.str (s.take (gD c s)),.str (s.drop (gD c s+1)),.bool (decide (gD c s<s.length))]):=by have h1:=VB s c hl;refine dA aJ func104 ntmps104 ?_;refine nG ?_;exact aO results104
end Go.Proofs.YtjkdolejalpflaaGreatDoor
set_option maxRecDepth 4000
set_option maxHeartbeats 400000
namespace Go.Proofs.YtjkdolejalpflaaGreatDoor
open Go.Aw Proofs.Tryz List IntKind
theorem G6{c:UInt8}{n:Nat}(hn:n<256)(h:(c.toNat:Int)=n):c=UInt8.ofNat n:=by
 have:c.toNat=n:=by omega
 rw[<-this];simp
theorem G7{c:UInt8}{n:Nat}(hn:n<256)(h:¬(c.toNat:Int)=n):c≠UInt8.ofNat n:=by rintro rfl;apply h;simp;omega
theorem LF{s b:aX}{k:Nat}(h:gD 47 s=k)(hk:k<s.length):addrOf s b=⟨s.take k,s.drop (k+1)⟩:=by subst h;exact eA hk
theorem IV{s b:aX}(h:gD 47 s=s.length):addrOf s b=⟨b,s⟩:=cU (by omega)
theorem zY[aB prog](s b:aX)(hl:s.length+b.length<=1099511627776):Ok prog 120 [.str s,.str b] (.fH [.agg (dI (bQ s b).1),.bool (bQ s b).2]):=by
 simp only[bQ];refine dA aJ func120 ntmps120 ?_;refine nG ?_;refine aY (ι:={k:Nat // k<=s.length/\∀x∈s.take k,x≠47}) (λt o i=>⟨bN t [(7,.int .i64 i.1)],o⟩)
  (λi=>s.length-i.1) ⟨0,by simp,by simp⟩ aC ?_
 rintro⟨k,hk,hi⟩ K1 hK1;simp only[bN,cH,cG]at hK1⊢;have hk1:=vJ (k:=k);by_cases hlt:k<s.length
 .have hg:=aE hlt;have W:=aA hk1 (aA hg hlt);repeat' first|refine wg ?_|(refine sq ?_ ?_<;>intro hc<;>try exact hc.elim)|fail
  .have e:=LF (b:=b) (Vl hlt (G6 (by decide) hc) hi) hlt;have h1:=uY ⟨s.take k,s.drop (k+1)⟩ (by simp[eB];omega);rw[e];simp only[dI]at h1;have W:=trivial;repeat' first|refine wg ?_|(refine sq ?_ ?_<;>intro hc<;>try exact hc.elim)|fail
   all_goals try(refine aP ?_;simp[aT,results120,uM])
   all_goals simp_all[uM]
  .exact hK1 _ ⟨k+1,by omega,gL hlt hi (G7 (by decide) hc)⟩ aC (by simp only;omega)
 .have e:=IV (b:=b) (Sw (nS (by omega) hi));have h1:=uY ⟨b,s⟩ (by simp[eB];omega);rw[e];simp only[dI]at h1;have W:=hk1;repeat' first|refine wg ?_|(refine sq ?_ ?_<;>intro hc<;>try exact hc.elim)|fail
  all_goals try(refine aP ?_;simp[aT,results120,uM])
  all_goals simp_all[uM]
theorem zZ[aB prog](s b:aX)(hl:s.length+b.length<=1099511627776):Ok prog 90 [.str s,.str b] (.fH [.agg (dI (bQ s b).1),.bool (bQ s b).2]):=by
 have hC:=uZ s 47 (by omega);have hle:=uL 47 s;simp only[bQ];by_cases h:gD 47 s<s.length
 .rw [LF rfl h];rw[pP h]at hC;generalize gD 47 s=k at*;have h1:=zH ⟨s.take k,s.drop (k+1)⟩ (by simp[eB];omega);simp only[dI]at h1;refine dA aJ func90 ntmps90 ?_;have W:=trivial;repeat' first|refine wg ?_|(refine sq ?_ ?_<;>intro hc<;>try exact hc.elim)|fail
  all_goals try(refine aP ?_;simp[aT,results90,uM])
  all_goals simp_all[uM]
 .have e2:gD 47 s=s.length:=by omega
  rw[IV e2];rw[sY h]at hC;have h1:=zH ⟨b,s⟩ (by simp[eB];omega);simp only[dI]at h1;refine dA aJ func90 ntmps90 ?_;have W:=trivial;repeat' first|refine wg ?_|(refine sq ?_ ?_<;>intro hc<;>try exact hc.elim)|fail
  all_goals try(refine aP ?_;simp[aT,results90,uM])
  all_goals simp_all[uM]
end Go.Proofs.YtjkdolejalpflaaGreatDoor
