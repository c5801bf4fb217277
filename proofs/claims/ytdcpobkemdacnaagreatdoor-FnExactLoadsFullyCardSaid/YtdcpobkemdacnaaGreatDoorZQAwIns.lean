/- Proved here: steps towards the statement of this claim. No condition. -/
import Derived.Test.YtdcpobkemdacnaaGreatDoorZF8
import Derived.Test.YtdcpobkemdacnaaGreatDoorZQA0
import Derived.Shelf.Spec.SlicesInsertGrow
set_option linter.all false
namespace Go.Aw
open List
theorem Eu {P:Program} {w:World} {dT sT ty elem:TypeId} {i:TypeInfo} {b o aOt aR0 b2 o2 sLen sCap n:Nat} {C:Array Value} {e:TypeId} {fz:Nat×Nat} {cs:List Value} {q:Prop}
  (hu:P.underlying dT=some (.slice elem)) (hi:P.info? elem=some i) (hm:Nat.min sLen aOt=n) (hn:cs.length=n * i.size)
  (aKf:bN w b2 o2 cs) (hb:w.heap[b]? =some (.cells C e fz)) (hz:(C.size<=fz.1/\q)\/fz.2=0) (hfit:o+cs.length<=C.size) (h1:∀v∈cs,v.oneCell'=true):
  (Builtin.copy_ #[dT,sT] ty #[.slice (some ⟨b,o,none⟩) aOt aR0,.slice (some ⟨b2,o2,none⟩) sLen sCap]).run P w= .ok (goInt n) (w.setCells b o cs):=by
 have hl:=kP (P:=P) (w:=w) (len:=sLen) (cap:=sCap) hn aKf;have hst:=tX (P:=P) hb hz hfit h1;simp [Builtin.copy_,gC hu,Builtin.lenOf,sizeOf,typeInfo,hi,hm,hl,hst]
theorem FV {w:World} {b o:Nat} {C:Array Value} {e:TypeId} {fz:Nat×Nat} {cs:List Value} (hb:w.heap[b]? =some (.cells C e fz)) (hfit:o+cs.length<=C.size):bN (w.setCells b o cs) b o cs:=by
 intro j v hv;have hj:j < cs.length:=(cH.1 hv).1;have:=Bk b cs o w (λj hj=>by
  have:o+j < C.size:=by omega
  simp [World.cell?,hb,this]) j hj
 rw [this];rw [aE hj] at hv;exact hv
theorem vX {w:World} {b o b2 p:Nat} {cs ds:List Value} (h:bN w b2 p ds) (ho:b2=b->p+ds.length<=o\/o+cs.length<=p):bN (w.setCells b o cs) b2 p ds:=by
 intro j v hv;have hj:j < ds.length:=(cH.1 hv).1;rw [AN]
 .exact h j v hv
 .intro h1 _;have:=ho h1;simp only;omega
structure Uu (w w' : World) (b k n : Nat) (cs : List Value) (v : Value) (b' off' cap' : Nat) (C' : Array Value) (e' : TypeId) (TT : Nat × Nat) : Prop where
  ret : v = .slice (some ⟨b', off', none⟩) n cap'
  blk : w'.heap[b']? = some (.cells C' e' TT)
  hz : (C'.size <= TT.1 /\ k = 1) \/ TT.2 = 0
  fit : off' + cap' * k <= C'.size
  len : n <= cap'
  max : cap' <= maxLen
  at' : bN w' b' off' cs
  new : b' = b \/ w.heap.size <= b'
  lt : b' < w'.heap.size
  size : w.heap.size <= w'.heap.size
  frame : ∀ x, x < w.heap.size -> x ≠ b -> w'.heap[x]? = w.heap[x]?
  same : oD w w'
theorem RH {b:Nat}:∀(vs:List Value) (o:Nat) {w w0:World},w0.heap=w.heap->(w0.setCells b o vs).heap=(w.setCells b o vs).heap
 |[],_,_,_,h=>h
 |v::r,o,w,w0,h=>by rw [World.setCells,World.setCells];exact RH r (o+1) (by simp [World.setCell,h])
theorem qp {w W1:World} {b off n c i k:Nat} {C:Array Value} {e:TypeId} {fz:Nat×Nat} {olds news:List Value} (hb:w.heap[b]? =some (.cells C e fz)) (hz:(C.size<=fz.1/\k=1)\/fz.2=0)
  (hc:bN w b off olds) (hol:olds.length=n * k) (hnl:news.length=k) (hi:i < n) (hroom:n+1<=c) (hfit:off+c * k<=C.size) (hmax:c<=maxLen)
  (hW:W1.heap=(w.setCells b (off+(i+1) * k) (olds.drop (i * k))).heap) (hs:oD w W1):
  ∃C',Uu w (W1.setCells b (off+i * k) news) b k (n+1) (olds.take (i * k)++news++olds.drop (i * k)) (.slice (some ⟨b,off,none⟩) (n+1) c) b off c C' e fz:=by
 have hik:i * k+k<=n * k:=by rw [<-AE];exact hY k hi
 have hnk:(n+1) * k<=c * k:=hY k hroom;have aOu:(n+1) * k=n * k+k:=AE n k;have aR1:(i+1) * k=i * k+k:=AE i k;have hdl:(olds.drop (i * k)).length=n * k - i * k:=by rw [zE,hol]
 have htl:(olds.take (i * k)).length=i * k:=by rw [oR,hol];omega
 obtain ⟨C1,ZE,KJ⟩:=jQ b e fz (olds.drop (i * k)) (off+(i+1) * k) w C hb;rw [<-hW] at ZE;obtain ⟨C2,hC2,aHn⟩:=jQ b e fz news (off+i * k) _ C1 ZE;have hlt:b < w.heap.size:=(sY.1 hb).1;have hsz:W1.heap.size=w.heap.size:=by rw [hW,iA]
 refine ⟨C2,rfl,hC2,by rw [aHn,KJ];exact hz,by rw [aHn,KJ];exact hfit,hroom,hmax,?_,.inl rfl,by rw [iA,hsz];exact hlt,by rw [iA,hsz];exact eE _,?_,hs.trans (kM _ _ _ _)⟩
 .refine bN.append.2 ⟨bN.append.2 ⟨?_,?_⟩,?_⟩
  .refine vX ((vX hc.take λ_=> ?_:bN (w.setCells b (off+(i+1) * k) (olds.drop (i * k))) b off (olds.take (i * k))).heap hW) λ_=> ?_
   .rw [htl];left;omega
   .rw [htl];left;omega
  .rw [htl];exact FV ZE (by omega)
  .rw [eR,htl,hnl,show off+(i * k+k)=off+(i+1) * k by omega];refine vX ((FV hb (by omega):bN (w.setCells b (off+(i+1) * k) (olds.drop (i * k))) b (off+(i+1) * k) (olds.drop (i * k))).heap hW) λ_=> ?_
   right;omega
 .intro x hx hne;rw [lU b x hne,hW,lU b x hne]
theorem Q3 {w W1 W2:World} {b n i k cap:Nat} {ROW:Array Value} {e:TypeId} {olds news:List Value} (hol:olds.length=n * k) (hnl:news.length=k) (hi:i < n)
  (hR:∀(j:Nat) (v:Value),(olds.take (i * k))[j]? =some v->ROW[j]? =some v) (hRs:cap * k<=ROW.size) (wS:n+1<=cap) (hmax:cap<=maxLen)
  (hN:W1.heap[w.heap.size]? =some (.cells ROW e (0,0))) (hO:∀x,x < w.heap.size->W1.heap[x]? =w.heap[x]?) (hs1:oD w W1)
  (hW:W2.heap=(W1.setCells w.heap.size (i * k) news).heap) (hs2:oD W1 W2):
  ∃C',Uu w (W2.setCells w.heap.size ((i+1) * k) (olds.drop (i * k))) b k (n+1) (olds.take (i * k)++news++olds.drop (i * k)) (.slice (some ⟨w.heap.size,0,none⟩) (n+1) cap) w.heap.size 0 cap C' e (0,0):=by
 have hik:i * k+k<=n * k:=by rw [<-AE];exact hY k hi
 have hnk:(n+1) * k<=cap * k:=hY k wS;have aOu:(n+1) * k=n * k+k:=AE n k;have aR1:(i+1) * k=i * k+k:=AE i k;have hdl:(olds.drop (i * k)).length=n * k - i * k:=by rw [zE,hol]
 have htl:(olds.take (i * k)).length=i * k:=by rw [oR,hol];omega
 obtain ⟨C1,ZE,KJ⟩:=jQ w.heap.size e (0,0) news (i * k) W1 ROW hN;rw [<-hW] at ZE;obtain ⟨C2,hC2,aHn⟩:=jQ w.heap.size e (0,0) (olds.drop (i * k)) ((i+1) * k) W2 C1 ZE;have hlt:w.heap.size < W1.heap.size:=(sY.1 hN).1;have hsz:W2.heap.size=W1.heap.size:=by rw [hW,iA]
 have hc0:bN W1 w.heap.size 0 (olds.take (i * k)):=by refine qR hN ?_;intro j v hv;rw [lA];exact hR j v hv
 refine ⟨C2,rfl,hC2,.inr rfl,by rw [aHn,KJ];omega,wS,hmax,?_,.inr (eE _),by rw [iA,hsz];exact hlt,by rw [iA,hsz];omega,?_,hs1.trans (hs2.trans (kM _ _ _ _))⟩
 .refine bN.append.2 ⟨bN.append.2 ⟨?_,?_⟩,?_⟩
  .refine vX ((vX hc0 λ_=> ?_:bN (W1.setCells w.heap.size (i * k) news) w.heap.size 0 (olds.take (i * k))).heap hW) λ_=> ?_
   .rw [htl];left;omega
   .rw [htl];left;omega
  .rw [htl,lA];refine vX ((FV hN (by omega):bN (W1.setCells w.heap.size (i * k) news) w.heap.size (i * k) news).heap hW) λ_=> ?_
   left;omega
  .rw [eR,htl,hnl,lA,show i * k+k=(i+1) * k by omega];exact FV ZE (by omega)
 .intro x hx hne;have hx':x≠w.heap.size:=by omega
  rw [lU _ x hx',hW,lU _ x hx',hO x hx]
def ER:AV->Bool
 | .int _ _=>true
 | .bool _=>true
 | .str _=>true
 |_=>false
theorem aLd {w w':World} {E E':Env} {x:AV} {v:Value} {fp:List Nat} (h:ER x=true) (hr:R w E x v fp):fp=[]/\R w' E' x v []:=by cases x<;>simp_all [ER,R]
theorem zk {w w':World} {E E':Env}:∀{c:List AV} {cs:List Value} {fp:List Nat},c.all ER=true->Rc w E c cs fp->fp=[]/\Rc w' E' c cs []
 |[],[],_,_,h=>⟨by simpa [Rc] using h,by simp [Rc]⟩
 |[],_::_,_,_,h=>by simp [Rc] at h
 |_::_,[],_,_,h=>by simp [Rc] at h
 |x::xs,v::vs,fp,hf,h=>by simp only [CN,eJ] at hf;simp only [Rc] at h⊢;obtain ⟨f1,f2,h1,h2,rfl⟩:=h;obtain ⟨rfl,h3⟩:=aLd (w':=w') (E':=E') hf.1 h1;obtain ⟨rfl,h4⟩:=zk (w':=w') (E':=E') hf.2 h2;exact ⟨rfl,[],[],h3,h4,rfl⟩
theorem KL {w w':World} {E E':Env} {n:Nat}:∀{l:List (List AV)} {vs:List Value} {fp:List Nat},(l.all λc=>c.all ER)=true->Rv w E l vs n fp->fp=[]/\Rv w' E' l vs n []
 |[],_,_,_,h=>by simp only [Rv] at h⊢;exact ⟨h.2,by simp [h.1]⟩
 |c::l,vs,fp,hf,h=>by simp only [CN,eJ] at hf;simp only [Rv] at h⊢;obtain ⟨cs,rest,f1,f2,rfl,hn,ho,h1,h2,rfl⟩:=h;obtain ⟨rfl,h3⟩:=zk (w':=w') (E':=E') hf.1 h1;obtain ⟨rfl,h4⟩:=KL (w':=w') (E':=E') hf.2 h2;exact ⟨rfl,cs,rest,[],[],rfl,hn,ho,h3,h4,rfl⟩
theorem ZF {w:World} {E:Env} {n:Nat}:∀(i:Nat) {l:List (List AV)} {vs:List Value},Rv w E l vs n []->Rv w E (l.take i) (vs.take (i * n)) n []/\Rv w E (l.drop i) (vs.drop (i * n)) n []
 |0,l,vs,h=>by simp [Rv,h]
 |i+1,[],vs,h=>by simp only [Rv] at h;obtain ⟨rfl,_⟩:=h;simp [Rv]
 |i+1,c::l,vs,h=>by
  simp only [Rv] at h;obtain ⟨cs,rest,f1,f2,rfl,hn,ho,h1,h2,hf⟩:=h;obtain ⟨rfl,rfl⟩:=append_eq_nil_iff.1 hf.symm;obtain ⟨h3,h4⟩:=ZF i h2;have e:(i+1) * n=cs.length+i * n:=by rw [AE,hn];omega
  simp only [eL,pB,e,take_length_add_append,drop_length_add_append,Rv];exact ⟨⟨cs,_,[],[],rfl,hn,ho,h1,h3,rfl⟩,h4⟩
theorem Du {w:World} {O:Nat->Prop} {x:GA} {xs:List GA}:∀{vs:List Value} {uF:List (List Nat)} {jF:List Nat},Ec w O (x::xs) vs uF jF->
  ∃v vs' f fs k ks,vs=v::vs'/\uF=f::fs/\jF=k::ks/\RG w O x v f k/\Ec w O xs vs' fs ks
 |[],_,_,h=>by simp [Ec] at h
 |_::_,[],_,h=>by simp [Ec] at h
 |_::_,_::_,[],h=>by simp [Ec] at h
 |v::vs,f::fs,k::ks,h=>by simp only [Ec] at h;exact ⟨v,vs,f,fs,k,ks,rfl,rfl,rfl,h.1,h.2⟩
theorem zl {w:World} {O:Nat->Prop}:∀{vs:List Value} {uF:List (List Nat)} {jF:List Nat},Ec w O [] vs uF jF->vs=[]/\uF=[]/\jF=[]
 |[],[],[],_=>⟨rfl,rfl,rfl⟩
 |_::_,_,_,h=>by simp [Ec] at h
 |[],_::_,_,h=>by simp [Ec] at h
 |[],[],_::_,h=>by simp [Ec] at h
theorem aHo {P:Program} [aC P] {f:FuncId} {n i k:Nat} {l:List (List AV)} {x:List AV} (hl:l.length=n) (hi:i < n) (hfl:(l.all λc=>c.all ER)=true) (hfx:x.all ER=true)
  (H:∀(w:World) (b off c:Nat) (C:Array Value) (e:TypeId) (fz:Nat×Nat) (olds news:List Value) (vb voff vc:Nat) (Cv:Array Value) (ev:TypeId) (Yb:Nat×Nat),w.heap[b]? =some (.cells C e fz)->((C.size<=fz.1/\k=1)\/fz.2=0)->bN w b off olds->olds.length=n * k->(∀v∈olds,v.oneCell'=true)->
   off+c * k<=C.size->n<=c->c<=maxLen->vb≠b->w.heap[vb]? =some (.cells Cv ev Yb)->((Cv.size<=Yb.1/\k=1)\/Yb.2=0)->bN w vb voff news->news.length=k->(∀v∈news,v.oneCell'=true)->
   Calls P f #[.slice (some ⟨b,off,none⟩) n c,.int .i64 i,.slice (some ⟨vb,voff,none⟩) 1 vc] w λed w'=>∃v b' off' cap' C' e' TT,ed= .returned v/\Uu w w' b k (n+1) (olds.take (i * k)++news++olds.drop (i * k)) v b' off' cap' C' e' TT):
  Ma P f [.oK (.sl .own k l),.view (.int .i64 i),.oK (.sl .own k [x])] (.sl .own k (l.take i++[x]++l.drop i)):=by
 intro w vs uF jF hh hlow hnd hr;obtain ⟨v1,vs,f1,uF,k1,jF,rfl,rfl,rfl,h1,hr⟩:=Du hr;obtain ⟨v2,vs,f2,uF,k2,jF,rfl,rfl,rfl,h2,hr⟩:=Du hr;obtain ⟨v3,vs,f3,uF,k3,jF,rfl,rfl,rfl,h3,hr⟩:=Du hr;obtain ⟨rfl,rfl,rfl⟩:=zl hr;simp only [RG] at h1 h2 h3;obtain ⟨rfl,h2⟩:=h2;obtain ⟨a,cap,rfl,Vb,ho⟩:=wB.1 h1;simp only [R] at h2;obtain ⟨rfl,_⟩:=h2;rcases ho with ⟨h0,_⟩|⟨b,off,C,e,fz,rD,rfl,hb,hz,hfit,hlc,hmax,rfl,WJ⟩
 .subst h0;simp at hl;omega
 obtain ⟨a3,aLe,rfl,_,h3⟩:=wB.1 h3;rcases h3 with ⟨h0,_⟩|⟨vb,voff,Cv,ev,Yb,aOv,rfl,hb3,hz3,_,_,_,rfl,hr3⟩
 .cases h0
 obtain ⟨olds,hv,hc⟩:=sV.1 WJ;obtain ⟨news,hv3,hc3⟩:=sV.1 hr3;have hol:=jX hv;have hnl:=jX hv3;have hne:vb≠b:=λh=>by subst h;simp at hnd
 rw [hl] at hol;have:=H w b off cap C e fz olds news vb voff aLe Cv ev Yb hb hz hc hol (Qh hv) hfit (by rw [<-hl];exact hlc) hmax hne hb3 hz3 hc3 (by simpa using hnl) (Qh hv3);rw [hl];refine this.mono λed w' h=> ?_
 obtain ⟨v,b',off',cap',C',e',TT,he,hI⟩:=h;have hq:=(KL (w':=w') (E':=(nH).plain) hfl hv).2;have VV:=(KL (w':=w') (E':=(nH).plain) (by simp [hfx]) hv3).2;obtain ⟨q1,q2⟩:=ZF i hq;have q4:=AX q2 (AX VV q1);have hlen:(l.take i++[x]++l.drop i).length=n+1:=by simp;omega
 have hml:n+1<=maxLen:=hM hI.len hI.max;refine ⟨v,[b'],[[],[],[]],he,wB.2 ⟨_,cap',by rw [hlen];exact hI.ret,by rw [hlen];exact hml,.inr ⟨b',off',C',e',TT,[],rfl,hI.blk,hI.hz,hI.fit,by rw [hlen];exact hI.len,hI.max,rfl,sV.2 ⟨_,by simpa using q4,hI.at'⟩⟩⟩,by simp [TR,RP],by simp,?_,hI.size,?_,hI.same⟩
 .intro x hx;obtain rfl:x=b':=by simpa using hx
  refine ⟨?_,hI.lt⟩;rcases hI.new with rfl|h
  .left;simp
  .exact .inr h
 .intro x hx hn;exact hI.frame x hx λh=>hn (by simp [h])
theorem XC {w:World} {b off n c k:Nat} {C:Array Value} {e:TypeId} {fz:Nat×Nat} {olds news:List Value} (hb:w.heap[b]? =some (.cells C e fz)) (hz:(C.size<=fz.1/\k=1)\/fz.2=0)
  (hc:bN w b off olds) (hol:olds.length=n * k) (hnl:news.length=k) (hroom:n+1<=c) (hfit:off+c * k<=C.size) (hmax:c<=maxLen):
  ∃C',Uu w (w.setCells b (off+n * k) news) b k (n+1) (olds++news) (.slice (some ⟨b,off,none⟩) (n+1) c) b off c C' e fz:=by
 have hnk:(n+1) * k<=c * k:=hY k hroom;have aOu:(n+1) * k=n * k+k:=AE n k;obtain ⟨C1,ZE,KJ⟩:=jQ b e fz news (off+n * k) w C hb;have hlt:b < w.heap.size:=(sY.1 hb).1;refine ⟨C1,rfl,ZE,by rw [KJ];exact hz,by rw [KJ];exact hfit,hroom,hmax,?_,.inl rfl,by rw [iA];exact hlt,by rw [iA];exact eE _,?_,kM _ _ _ _⟩
 .refine bN.append.2 ⟨vX hc λ_=> ?_,?_⟩
  .rw [hol];left;omega
  .rw [hol];exact FV hb (by omega)
 .intro x hx hne;rw [lU b x hne]
theorem XD {w:World} {b n k cap:Nat} {ROW:Array Value} {e:TypeId} {olds news:List Value} (hR:∀(j:Nat) (v:Value),(olds++news)[j]? =some v->ROW[j]? =some v) (hRs:cap * k<=ROW.size) (wS:n+1<=cap) (hmax:cap<=maxLen):
  ∃C',Uu w (w.drew.alloc (.cells ROW e)) b k (n+1) (olds++news) (.slice (some ⟨w.heap.size,0,none⟩) (n+1) cap) w.heap.size 0 cap C' e (0,0):=by
 have hN:(w.drew.alloc (.cells ROW e)).heap[w.heap.size]? =some (.cells ROW e):=fT w.drew _;refine ⟨ROW,rfl,hN,.inr rfl,by omega,wS,hmax,qR hN (by intro j v hv;rw [lA];exact hR j v hv),.inr (eE _),by simp,by simp,λx hx _=>heap_alloc w.drew _ x hx,⟨rfl,rfl,rfl⟩⟩
theorem ZG {P:Program} [aC P] {f:FuncId} {n k:Nat} {l:List (List AV)} {x:List AV} (hl:l.length=n) (hfl:(l.all λc=>c.all ER)=true) (hfx:x.all ER=true)
  (H:∀(w:World) (base:Option Addr) (bb c:Nat) (olds news:List Value) (vb voff vc:Nat),olds.length=n * k->n<=c->c<=maxLen->bN w vb voff news->news.length=k->(∀v∈news,v.oneCell'=true)->
   ((n=0/\c=0)\/∃off C e fz,base=some ⟨bb,off,none⟩/\w.heap[bb]? =some (.cells C e fz)/\((C.size<=fz.1/\k=1)\/fz.2=0)/\bN w bb off olds/\off+c * k<=C.size)->
   Calls P f #[.slice base n c,.int .i64 n,.slice (some ⟨vb,voff,none⟩) 1 vc] w λed w'=>∃v b' off' cap' C' e' TT,ed= .returned v/\Uu w w' bb k (n+1) (olds++news) v b' off' cap' C' e' TT):
  Ma P f [.oK (.sl .own k l),.view (.int .i64 n),.oK (.sl .own k [x])] (.sl .own k (l++[x])):=by
 intro w vs uF jF hh hlow hnd hr;obtain ⟨v1,vs,f1,uF,k1,jF,rfl,rfl,rfl,h1,hr⟩:=Du hr;obtain ⟨v2,vs,f2,uF,k2,jF,rfl,rfl,rfl,h2,hr⟩:=Du hr;obtain ⟨v3,vs,f3,uF,k3,jF,rfl,rfl,rfl,h3,hr⟩:=Du hr;obtain ⟨rfl,rfl,rfl⟩:=zl hr;simp only [RG] at h1 h2 h3;obtain ⟨rfl,h2⟩:=h2;obtain ⟨a,cap,rfl,Vb,ho⟩:=wB.1 h1;simp only [R] at h2;obtain ⟨rfl,_⟩:=h2;obtain ⟨a3,aLe,rfl,_,h3⟩:=wB.1 h3;rcases h3 with ⟨h0,_⟩|⟨vb,voff,Cv,ev,Yb,aOv,rfl,hb3,hz3,_,_,_,rfl,hr3⟩
 .cases h0
 obtain ⟨news,hv3,hc3⟩:=sV.1 hr3;have hnl:news.length=k:=by simpa using jX hv3
 obtain ⟨bb,olds,hv,hbb,hnc,hmc,hor⟩:∃bb olds,Rv w (sW w (· ∈(f1++([]++((vb::aOv)++[]))))).plain l olds k f1.tail/\(bb∈f1\/w.heap.size<=bb)/\n<=cap/\cap<=maxLen/\
   ((n=0/\cap=0)\/∃off C e fz,a=some ⟨bb,off,none⟩/\w.heap[bb]? =some (.cells C e fz)/\((C.size<=fz.1/\k=1)\/fz.2=0)/\bN w bb off olds/\off+cap * k<=C.size):=by
  rcases ho with ⟨h0,h4,h5⟩|⟨b,off,C,e,fz,rD,rfl,hb,hz,hfit,hlc,hmax,rfl,WJ⟩
  .subst h0;subst h5;simp at hl;subst hl;subst h4;exact ⟨w.heap.size,[],by simp [Rv],.inr (eE _),eE _,by simp [maxLen],.inl ⟨rfl,rfl⟩⟩
  .obtain ⟨olds,hv,hc⟩:=sV.1 WJ;exact ⟨b,olds,hv,.inl (by simp),by rw [<-hl];exact hlc,hmax,.inr ⟨off,C,e,fz,rfl,hb,hz,hc,hfit⟩⟩
 have hol:=jX hv;rw [hl] at hol;have:=H w a bb cap olds news vb voff aLe hol hnc hmc hc3 hnl (Qh hv3) hor;rw [hl];refine this.mono λed w' h=> ?_
 obtain ⟨v,b',off',cap',C',e',TT,he,hI⟩:=h;have hq:=(KL (w':=w') (E':=(nH).plain) hfl hv).2;have VV:=(KL (w':=w') (E':=(nH).plain) (by simp [hfx]) hv3).2;have q4:=AX VV hq;have hlen:(l++[x]).length=n+1:=by simp;omega
 have hml:n+1<=maxLen:=hM hI.len hI.max;refine ⟨v,[b'],[[],[],[]],he,wB.2 ⟨_,cap',by rw [hlen];exact hI.ret,by rw [hlen];exact hml,.inr ⟨b',off',C',e',TT,[],rfl,hI.blk,hI.hz,hI.fit,by rw [hlen];exact hI.len,hI.max,rfl,sV.2 ⟨_,by simpa using q4,hI.at'⟩⟩⟩,by simp [TR,RP],by simp,?_,hI.size,?_,hI.same⟩
 .intro x hx;obtain rfl:x=b':=by simpa using hx
  refine ⟨?_,hI.lt⟩;rcases hI.new with rfl|h
  .rcases hbb with h|h
   .left;simp [h]
   .exact .inr h
  .exact .inr h
 .intro x hx hn;refine hI.frame x hx λh=> ?_
  subst h;rcases hbb with h|h
  .exact hn (by simp [h])
  .omega
end Go.Aw
set_option maxRecDepth 4000
set_option maxHeartbeats 4000000
namespace Go.Proofs.YtdcpobkemdacnaaGreatDoor
open Go.Aw Proofs.Tryz List IntKind
def places {α:Type} (f:α->Bool):Nat->List α->List Int
 |_,[]=>[]
 |i,x::xs=>if f x then (i:Int)::places f (i+1) xs else places f (i+1) xs
theorem Od {α:Type} (f:α->Bool) (x:α):∀(l:List α) (i:Nat),places f i (l++[x])=places f i l++(if f x then [((i+l.length:Nat):Int)] else [])
 |[],i=>by simp only [eM,places];cases f x<;>simp
 |y::ys,i=>by
  simp only [eA,places];rw [Od f x ys (i+1)];have:i+1+ys.length=i+(y::ys).length:=by simp;omega
  rw [this];cases f y<;>simp
theorem xJ {α:Type} (f:α->Bool) (l:List α) (k:Nat) (h:k < l.length):places f 0 (l.take (k+1))=places f 0 (l.take k)++(if f l[k] then [(k:Int)] else []):=by
 rw [eK h,Od];have:(l.take k).length=k:=by simp;omega
 rw [this,lA]
theorem jE {α:Type} (f:α->Bool):∀(l:List α) (i:Nat),(places f i l).length<=l.length
 |[],_=>by simp [places]
 |x::xs,i=>by simp only [places];have:=jE f xs (i+1);cases f x<;>simp<;>omega
def rH (s:oZ):Bool:= !s.done
def rJ (s:dY):Bool:= !s.done
def jS (s:oZ):Bool:=s.mode == 4
theorem DF [aC prog] (p:aG) (hl:p.aB.length<=16777216):Ok prog 62 [.agg (aI .view p)] (.sl .own 1 ((places rH 0 p.aB).map lW)):=by
 refine bO aD func62 ntmps62 ?_;refine gY ?_;refine aP (ι:={q:Nat×Nat // q.1<=p.aB.length/\1<=q.2}) (λt o i=>⟨bE t [(3,.obj 1 i.1.2),(4,.int .i64 i.1.1)],o.take 1++[⟨true,false,1,i.1.2,(places rH 0 (p.aB.take i.1.1)).map lW⟩]⟩)
  (λi=>p.aB.length - i.1.1) ⟨(0,1),by simp,by simp⟩ (aO (by simp [places]) (by simp)) ?_
 rintro ⟨⟨k,v⟩,hk,hv⟩ K1 hK1;simp only at hk hv;simp only [bE,cW,cU,eL,fS,eA,eM] at hK1⊢;have hk1:=oW (k:=k);by_cases hlt:k < p.aB.length
 .have hg:=aE hlt;have hps:=xJ rH p.aB k hlt;have hpl:=jE rH (p.aB.take k) 0;have htl:(p.aB.take k).length=k:=by simp;omega
  have hb1:((places rH 0 (p.aB.take k)).length+1) * 8<=140737488355328:=by omega
  have hb2:(places rH 0 (p.aB.take k)).length+1<=9223372036854775807:=by omega
  have hb3:(places rH 0 (p.aB.take k)).length<=9223372036854775806:=by omega
  have W:=aA hk1 (aA hg (aA hlt (aA hb1 (aA hb2 hb3))));repeat' first|refine wg ?_|(refine sq ?_ ?_<;>intro hc<;>try exact hc.elim)|fail
  .refine hK1 _ ⟨(k+1,v+1),by simp only;omega,by simp only;omega⟩ (aX 2 (by simp [hps,rH,hc])) (by simp only;omega)
  .refine hK1 _ ⟨(k+1,v),by simp only;omega,hv⟩ (aX 2 (by simp [hps,rH,hc])) (by simp only;omega)
 .have htk:p.aB.take k=p.aB:=cY (by omega);rw [htk];have W:=hk1;refine wl ?_;exact aF results62
theorem DI [aC prog] (p:aG) (hl:p.aB.length<=16777216):Ok prog 146 [.agg (aI .view p)] (.sl .own 1 ((places rH 0 p.aB).map lW)):=by
 refine bO aD func146 ntmps146 ?_;refine gY ?_;refine aP (ι:={q:Nat×Nat // q.1<=p.aB.length/\1<=q.2}) (λt o i=>⟨bE t [(3,.obj 1 i.1.2),(10,.int .i64 i.1.1)],o.take 1++[⟨true,false,1,i.1.2,(places rH 0 (p.aB.take i.1.1)).map lW⟩]⟩)
  (λi=>p.aB.length - i.1.1) ⟨(0,1),by simp,by simp⟩ (aO (by simp [places]) (by simp)) ?_
 rintro ⟨⟨k,v⟩,hk,hv⟩ K1 hK1;simp only at hk hv;simp only [bE,cW,cU,eL,fS,eA,eM] at hK1⊢;have hk1:=oW (k:=k);by_cases hlt:k < p.aB.length
 .have hg:=aE hlt;have hps:=xJ rH p.aB k hlt;have hpl:=jE rH (p.aB.take k) 0;have htl:(p.aB.take k).length=k:=by simp;omega
  have hb1:((places rH 0 (p.aB.take k)).length+1) * 8<=140737488355328:=by omega
  have hb2:(places rH 0 (p.aB.take k)).length+1<=9223372036854775807:=by omega
  have hb3:(places rH 0 (p.aB.take k)).length<=9223372036854775806:=by omega
  have W:=aA hk1 (aA hg (aA hlt (aA hb1 (aA hb2 hb3))));repeat' first|refine wg ?_|(refine sq ?_ ?_<;>intro hc<;>try exact hc.elim)|fail
  .refine hK1 _ ⟨(k+1,v+1),by simp only;omega,by simp only;omega⟩ (aX 2 (by simp [hps,rH,hc])) (by simp only;omega)
  .refine hK1 _ ⟨(k+1,v),by simp only;omega,hv⟩ (aX 2 (by simp [hps,rH,hc])) (by simp only;omega)
 .have htk:p.aB.take k=p.aB:=cY (by omega);rw [htk];have W:=hk1;refine wl ?_;exact aF results146
theorem EZ [aC prog] (p:aG) (hl:p.aM.length<=16777216):Ok prog 64 [.agg (aI .view p)] (.sl .own 1 ((places rJ 0 p.aM).map lW)):=by
 refine bO aD func64 ntmps64 ?_;refine gY ?_;refine aP (ι:={q:Nat×Nat // q.1<=p.aM.length/\1<=q.2}) (λt o i=>⟨bE t [(3,.obj 1 i.1.2),(4,.int .i64 i.1.1)],o.take 1++[⟨true,false,1,i.1.2,(places rJ 0 (p.aM.take i.1.1)).map lW⟩]⟩)
  (λi=>p.aM.length - i.1.1) ⟨(0,1),by simp,by simp⟩ (aO (by simp [places]) (by simp)) ?_
 rintro ⟨⟨k,v⟩,hk,hv⟩ K1 hK1;simp only at hk hv;simp only [bE,cW,cU,eL,fS,eA,eM] at hK1⊢;have hk1:=oW (k:=k);by_cases hlt:k < p.aM.length
 .have hg:=aE hlt;have hps:=xJ rJ p.aM k hlt;have hpl:=jE rJ (p.aM.take k) 0;have htl:(p.aM.take k).length=k:=by simp;omega
  have hb1:((places rJ 0 (p.aM.take k)).length+1) * 8<=140737488355328:=by omega
  have hb2:(places rJ 0 (p.aM.take k)).length+1<=9223372036854775807:=by omega
  have hb3:(places rJ 0 (p.aM.take k)).length<=9223372036854775806:=by omega
  have W:=aA hk1 (aA hg (aA hlt (aA hb1 (aA hb2 hb3))));repeat' first|refine wg ?_|(refine sq ?_ ?_<;>intro hc<;>try exact hc.elim)|fail
  .refine hK1 _ ⟨(k+1,v+1),by simp only;omega,by simp only;omega⟩ (aX 2 (by simp [hps,rJ,hc])) (by simp only;omega)
  .refine hK1 _ ⟨(k+1,v),by simp only;omega,hv⟩ (aX 2 (by simp [hps,rJ,hc])) (by simp only;omega)
 .have htk:p.aM.take k=p.aM:=cY (by omega);rw [htk];have W:=hk1;refine wl ?_;exact aF results64
theorem Fa [aC prog] (p:aG) (hl:p.aM.length<=16777216):Ok prog 147 [.agg (aI .view p)] (.sl .own 1 ((places rJ 0 p.aM).map lW)):=by
 refine bO aD func147 ntmps147 ?_;refine gY ?_;refine aP (ι:={q:Nat×Nat // q.1<=p.aM.length/\1<=q.2}) (λt o i=>⟨bE t [(3,.obj 1 i.1.2),(10,.int .i64 i.1.1)],o.take 1++[⟨true,false,1,i.1.2,(places rJ 0 (p.aM.take i.1.1)).map lW⟩]⟩)
  (λi=>p.aM.length - i.1.1) ⟨(0,1),by simp,by simp⟩ (aO (by simp [places]) (by simp)) ?_
 rintro ⟨⟨k,v⟩,hk,hv⟩ K1 hK1;simp only at hk hv;simp only [bE,cW,cU,eL,fS,eA,eM] at hK1⊢;have hk1:=oW (k:=k);by_cases hlt:k < p.aM.length
 .have hg:=aE hlt;have hps:=xJ rJ p.aM k hlt;have hpl:=jE rJ (p.aM.take k) 0;have htl:(p.aM.take k).length=k:=by simp;omega
  have hb1:((places rJ 0 (p.aM.take k)).length+1) * 8<=140737488355328:=by omega
  have hb2:(places rJ 0 (p.aM.take k)).length+1<=9223372036854775807:=by omega
  have hb3:(places rJ 0 (p.aM.take k)).length<=9223372036854775806:=by omega
  have W:=aA hk1 (aA hg (aA hlt (aA hb1 (aA hb2 hb3))));repeat' first|refine wg ?_|(refine sq ?_ ?_<;>intro hc<;>try exact hc.elim)|fail
  .refine hK1 _ ⟨(k+1,v+1),by simp only;omega,by simp only;omega⟩ (aX 2 (by simp [hps,rJ,hc])) (by simp only;omega)
  .refine hK1 _ ⟨(k+1,v),by simp only;omega,hv⟩ (aX 2 (by simp [hps,rJ,hc])) (by simp only;omega)
 .have htk:p.aM.take k=p.aM:=cY (by omega);rw [htk];have W:=hk1;refine wl ?_;exact aF results147
theorem Gf [aC prog] (p:aG) (hl:p.aB.length<=16777216):Ok prog 108 [.agg (aI .view p)] (.sl .own 1 ((places jS 0 p.aB).map lW)):=by
 refine bO aD func108 ntmps108 ?_;refine gY ?_;refine aP (ι:={q:Nat×Nat // q.1<=p.aB.length/\1<=q.2}) (λt o i=>⟨bE t [(3,.obj 1 i.1.2),(4,.int .i64 i.1.1)],o.take 1++[⟨true,false,1,i.1.2,(places jS 0 (p.aB.take i.1.1)).map lW⟩]⟩)
  (λi=>p.aB.length - i.1.1) ⟨(0,1),by simp,by simp⟩ (aO (by simp [places]) (by simp)) ?_
 rintro ⟨⟨k,v⟩,hk,hv⟩ K1 hK1;simp only at hk hv;simp only [bE,cW,cU,eL,fS,eA,eM] at hK1⊢;have hk1:=oW (k:=k);by_cases hlt:k < p.aB.length
 .have hg:=aE hlt;have hps:=xJ jS p.aB k hlt;have hpl:=jE jS (p.aB.take k) 0;have htl:(p.aB.take k).length=k:=by simp;omega
  have hb1:((places jS 0 (p.aB.take k)).length+1) * 8<=140737488355328:=by omega
  have hb2:(places jS 0 (p.aB.take k)).length+1<=9223372036854775807:=by omega
  have hb3:(places jS 0 (p.aB.take k)).length<=9223372036854775806:=by omega
  have W:=aA hk1 (aA hg (aA hlt (aA hb1 (aA hb2 hb3))));repeat' first|refine wg ?_|(refine sq ?_ ?_<;>intro hc<;>try exact hc.elim)|fail
  .refine hK1 _ ⟨(k+1,v+1),by simp only;omega,by simp only;omega⟩ (aX 2 (by simp [hps,jS,hc])) (by simp only;omega)
  .refine hK1 _ ⟨(k+1,v),by simp only;omega,hv⟩ (aX 2 (by simp [hps,jS,hc])) (by simp only;omega)
 .have htk:p.aB.take k=p.aB:=cY (by omega);rw [htk];have W:=hk1;refine wl ?_;exact aF results108
theorem Gg [aC prog] (p:aG) (hl:p.aB.length<=16777216):Ok prog 143 [.agg (aI .view p)] (.sl .own 1 ((places jS 0 p.aB).map lW)):=by
 refine bO aD func143 ntmps143 ?_;refine gY ?_;refine aP (ι:={q:Nat×Nat // q.1<=p.aB.length/\1<=q.2}) (λt o i=>⟨bE t [(3,.obj 1 i.1.2),(10,.int .i64 i.1.1)],o.take 1++[⟨true,false,1,i.1.2,(places jS 0 (p.aB.take i.1.1)).map lW⟩]⟩)
  (λi=>p.aB.length - i.1.1) ⟨(0,1),by simp,by simp⟩ (aO (by simp [places]) (by simp)) ?_
 rintro ⟨⟨k,v⟩,hk,hv⟩ K1 hK1;simp only at hk hv;simp only [bE,cW,cU,eL,fS,eA,eM] at hK1⊢;have hk1:=oW (k:=k);by_cases hlt:k < p.aB.length
 .have hg:=aE hlt;have hps:=xJ jS p.aB k hlt;have hpl:=jE jS (p.aB.take k) 0;have htl:(p.aB.take k).length=k:=by simp;omega
  have hb1:((places jS 0 (p.aB.take k)).length+1) * 8<=140737488355328:=by omega
  have hb2:(places jS 0 (p.aB.take k)).length+1<=9223372036854775807:=by omega
  have hb3:(places jS 0 (p.aB.take k)).length<=9223372036854775806:=by omega
  have W:=aA hk1 (aA hg (aA hlt (aA hb1 (aA hb2 hb3))));repeat' first|refine wg ?_|(refine sq ?_ ?_<;>intro hc<;>try exact hc.elim)|fail
  .refine hK1 _ ⟨(k+1,v+1),by simp only;omega,by simp only;omega⟩ (aX 2 (by simp [hps,jS,hc])) (by simp only;omega)
  .refine hK1 _ ⟨(k+1,v),by simp only;omega,hv⟩ (aX 2 (by simp [hps,jS,hc])) (by simp only;omega)
 .have htk:p.aB.take k=p.aB:=cY (by omega);rw [htk];have W:=hk1;refine wl ?_;exact aF results143
end Go.Proofs.YtdcpobkemdacnaaGreatDoor
set_option maxRecDepth 100000
set_option maxHeartbeats 4000000
namespace Go.Proofs.YtdcpobkemdacnaaGreatDoor
open Go.Aw Go.Shelf Go.RowKit Go.Lib Proofs.Tryz List IntKind
theorem XN (w:World) (b off n c i vb voff vc:Nat) (C Cv:Array Value) (e ev:TypeId) (fz Yb:Nat×Nat) (olds news:List Value) (hi:i < n) (hroom:n+1<=c)
  (hb:w.heap[b]? =some (.cells C e fz)) (hz:(C.size<=fz.1/\5=1)\/fz.2=0) (hc:bN w b off olds) (hol:olds.length=n * 5) (h1o:∀v∈olds,v.oneCell'=true)
  (hfit:off+c * 5<=C.size) (hmax:c<=maxLen) (hne:vb≠b) (hvb:w.heap[vb]? =some (.cells Cv ev Yb)) (hzv:(Cv.size<=Yb.1/\5=1)\/Yb.2=0) (hcv:bN w vb voff news) (hnl:news.length=5) (OY:∀v∈news,v.oneCell'=true):
  Calls prog 259 #[.slice (some ⟨b,off,none⟩) n c,.int .i64 i,.slice (some ⟨vb,voff,none⟩) 1 vc] w λed w'=>∃v b' off' cap' C' e' TT,ed= .returned v/\Uu w w' b 5 (n+1) (olds.take (i * 5)++news++olds.drop (i * 5)) v b' off' cap' C' e' TT:=by
 have hfz:fz.2=0:=by rcases hz with ⟨_,h⟩|h;cases h;exact h
 have aPe:Yb.2=0:=by rcases hzv with ⟨_,h⟩|h;cases h;exact h
 have hC5:C.size≠0:=by omega
 have hfr:∀x,w.frozen? ⟨vb,x,none⟩=false:=λx=>by simp [World.frozen?,hvb,aPe]
 have hz2:¬((i:Int)=(n:Int)):=by omega
 have aEh:c<=9223372036854775807:=hmax;have hov:∀o lb cb,(callFunc 285 #[.slice (some ⟨vb,voff,none⟩) 1 vc,.slice (some ⟨b,o,none⟩) lb cb]).run prog w= .ok (.value (.bool false)) w:=λo lb cb=>by
  rw [run_callFunc_extern func285 (by kernel_rfl) (by kernel_rfl) (by kernel_rfl) (e:=Extern.SlicesOverlaps.overlaps #[60,60] #[4]) (by kernel_rfl),
   Lib.run_overlaps_apart w 60 4 170 Tryz.underlying60 5 Tryz.sizeOf170 ⟨vb,voff,none⟩ ⟨b,o,none⟩ 1 vc lb cb hne ev e Cv.size C.size (by simp [World.shape?,hvb]) (by simp [World.shape?,hb]) hC5 (hfr _) (hfr _)]
  rfl
 have V6:(olds.drop (i * 5)).length=(n - i) * 5:=by rw [zE,hol];omega
 have hw1:i64.wrap ((i:Int)+1)=(i:Int)+1:=by rw [Bm];omega
 have hw2:i64.wrap ((n:Int)+1)=(n:Int)+1:=by rw [Bm];omega
 have mixed:prog.follows .mixedOrders=true:=by kernel_rfl
 have hb1:(0:Int)<=(i:Int)+1:=by omega
 have hin:i<=n:=by omega
 have hb2:¬(c=i+1):=by omega
 have hb3:(i:Int)<=(n:Int)+1:=by omega
 have hb4:¬(c=i):=by omega
 obtain ⟨inf,Js,hsz⟩:=sX.1 (show (prog.info? 170).map (·.size)=some 5 by kernel_rfl);obtain ⟨W1,hW1⟩:∃W1,W1=w.drew.setCells b (off+(i+1) * 5) (olds.drop (i * 5)):=⟨_,rfl⟩;have hWh:W1.heap=(w.setCells b (off+(i+1) * 5) (olds.drop (i * 5))).heap:=by rw [hW1];exact RH _ _ rfl
 have hWs:oD w W1:=by rw [hW1];exact oD.trans (b:=w.drew) ⟨rfl,rfl,rfl⟩ (kM _ _ _ _)
 have hcp1:∀ty,(Builtin.copy_ #[60,60] ty #[.slice (some ⟨b,off+(i+1) * 5,none⟩) (n - i) (c - (i+1)),.slice (some ⟨b,off+i * 5,none⟩) (n+1 - i) (c - i)]).run prog w.drew= .ok (goInt ((n - i:Nat):Int)) W1:=λty=>by rw [hW1];exact Eu Tryz.underlying60 Js (by simp only [Nat.min_def];split<;>omega) (by rw [V6,hsz]) (show bN w.drew b (off+i * 5) (olds.drop (i * 5)) from hc.drop) hb hz (by rw [V6];omega) (λv hv=>h1o v (By hv))
 obtain ⟨C1,ZE,KJ⟩:=jQ b e fz (olds.drop (i * 5)) (off+(i+1) * 5) w C hb;rw [<-hWh] at ZE;have hcp2:∀ty,(Builtin.copy_ #[60,60] ty #[.slice (some ⟨b,off+i * 5,none⟩) (n+1 - i) (c - i),.slice (some ⟨vb,voff,none⟩) 1 vc]).run prog W1= .ok (goInt ((1:Nat):Int)) (W1.setCells b (off+i * 5) news):=λty=>
  Eu Tryz.underlying60 Js (by simp only [Nat.min_def];split<;>omega) (by rw [hnl,hsz]) (bN.heap (vX hcv (λh=>absurd h hne)) hWh) ZE (by rw [KJ];exact hz) (by rw [KJ];omega) OY
 have fin:∃v b' off' cap' C' e' TT,Ending.returned (.slice (some ⟨b,off,none⟩) (n+1) c)= .returned v/\Uu w (W1.setCells b (off+i * 5) news) b 5 (n+1) (olds.take (i * 5)++news++olds.drop (i * 5)) v b' off' cap' C' e' TT:=by obtain ⟨C',h⟩:=qp (k:=5) (c:=c) hb hz hc hol hnl hi hroom hfit hmax hWh hWs;exact ⟨_,_,_,_,_,_,_,rfl,h⟩
 go_enter func259,ntmps259
 go_wp2_with (simp only [hov])
 clear hb hz hc hol h1o hfit hmax hvb hzv hcv hnl OY hfz aPe hC5 hfr hov V6 Js hsz hW1 hWh hWs ZE KJ
 go_region_law_o (refine step_copy_runI rfl _ _ 60 60 rfl (.slice (some ⟨b,off+(i+1) * 5,none⟩) (n - i) (c - (i+1))) (.slice (some ⟨b,off+i * 5,none⟩) (n+1 - i) (c - i)) (by simp [Act.eval,Act.put]) (by simp [Act.eval,Act.put]) (hcp1 _) ?_)
 go_wp2_with (at_builtin;refine wpList_copy_runI _ rfl _ _ 60 60 rfl _ _ rfl rfl (hcp2 _) ?_)
 go_ret
 exact fin
theorem aa (w:World) (b off n c i vb voff vc:Nat) (C Cv:Array Value) (e ev:TypeId) (fz Yb:Nat×Nat) (olds news:List Value) (hi:i < n) (hroom:c < n+1) (hn:n<=1099511627776)
  (hb:w.heap[b]? =some (.cells C e fz)) (hz:(C.size<=fz.1/\5=1)\/fz.2=0) (hc:bN w b off olds) (hol:olds.length=n * 5) (h1o:∀v∈olds,v.oneCell'=true)
  (hfit:off+c * 5<=C.size) (hnc:n<=c) (hmax:c<=maxLen) (hne:vb≠b) (hvb:w.heap[vb]? =some (.cells Cv ev Yb)) (hzv:(Cv.size<=Yb.1/\5=1)\/Yb.2=0) (hcv:bN w vb voff news) (hnl:news.length=5) (OY:∀v∈news,v.oneCell'=true):
  Calls prog 259 #[.slice (some ⟨b,off,none⟩) n c,.int .i64 i,.slice (some ⟨vb,voff,none⟩) 1 vc] w λed w'=>∃v b' off' cap' C' e' TT,ed= .returned v/\Uu w w' b 5 (n+1) (olds.take (i * 5)++news++olds.drop (i * 5)) v b' off' cap' C' e' TT:=by
 have hz2:¬((i:Int)=(n:Int)):=by omega
 have hz3:(c:Int) < (n:Int)+1:=by omega
 have hw1:i64.wrap ((i:Int)+1)=(i:Int)+1:=by rw [Bm];omega
 have hw2:i64.wrap ((n:Int)+1)=(n:Int)+1:=by rw [Bm];omega
 have hw3:i64.wrap ((n:Int)+1 - (i:Int))=(n:Int)+1 - (i:Int):=by rw [Bm];omega
 have mixed:prog.follows .mixedOrders=true:=by kernel_rfl
 have hb1:(0:Int)<=(i:Int)+1:=by omega
 have hin:i<=n:=by omega
 have hic:i<=c:=by omega
 have hb3:(i:Int)<=(n:Int)+1:=by omega
 have hb4:¬(c=i):=by omega
 have hlt:∀{x:Nat} {q},w.heap[x]? =some q->x < w.heap.size:=λh=>(sY.1 h).1
 have V6:(olds.drop (i * 5)).length=(n - i) * 5:=by rw [zE,hol];omega
 have htl:(olds.take (i * 5)).length=i * 5:=by rw [oR,hol];omega
 obtain ⟨inf,Js,hq⟩:=sX.1 (show (prog.info? 170).map (λi=>(i.size,i.bytes))=some (5,64) by kernel_rfl);obtain ⟨hsz,hby⟩:=Prod.mk.inj hq;obtain ⟨z,hz0,hzc⟩:∃z,inf.zero=some z/\z.cells.size=5:=by
  have h:=Tryz.zsz170;simp only [bQ,Js] at h;cases hz:inf.zero with
  |none=>simp [hz] at h
  |some z=>exact ⟨z,rfl,by simpa [hz] using h⟩
 obtain ⟨G,hG⟩:∃G,G=grownCap w (n+1) c 170:=⟨_,rfl⟩;have hGn:n+1<=G:=by rw [hG];exact grownCap_ge _ _ _ _
 have hGm:G<=maxLen:=by rw [hG];exact DB _ _ _ _ (by simp [maxLen];omega)
 have hG63:G<=9223372036854775807:=hGm;obtain ⟨ROW,hROW⟩:∃ROW:Array Value,ROW=(olds.take (i * 5)).toArray++Builtin.zeroCells z.cells (n+1 - i)++Builtin.zeroCells z.cells (G - (n+1)):=⟨_,rfl⟩;have hRs:ROW.size=G * 5:=by rw [hROW];simp only [Array.size_append,size_toArray,size_zeroCells,hzc,htl,<-pS];congr 1;omega
 have hR:∀(j:Nat) (v:Value),(olds.take (i * 5))[j]? =some v->ROW[j]? =some v:=λj v hv=>by rw [hROW,Array.append_assoc,sR (by simpa using (cH.1 hv).1)];simpa using hv
 obtain ⟨W1,hW1⟩:∃W1,W1=w.drew.alloc (.cells ROW 170):=⟨_,rfl⟩;have hrz:∀ty,(Builtin.append_ #[60,3] ty #[.slice (some ⟨b,off,none⟩) i c,.int .i64 ((n:Int)+1 - (i:Int))]).run prog w= .ok (.slice (some ⟨w.heap.size,0,none⟩) (n+1) G) W1:=λty=>by
  have h:=Lib.run_append_grow_zeros w 60 3 ty 170 inf z .i64 .i64 Tryz.underlying60 Tryz.underlying3 Js hz0 (some ⟨b,off,none⟩) i c (olds.take (i * 5))
   (by rw [hsz];exact kP htl (show bN w.drew b off (olds.take (i * 5)) from hc.take)) (n+1 - i) (by omega) (by omega) (by omega) (by omega) (by rw [hby];omega) (by rw [hby,show i+(n+1 - i)=n+1 by omega];exact growslice_fits hroom (by omega))
  rw [show i+(n+1 - i)=n+1 by omega,<-hG,<-hROW,<-hW1] at h;rw [show (n:Int)+1 - (i:Int)=((n+1 - i:Nat):Int) by omega];exact h
 have hN:W1.heap[w.heap.size]? =some (.cells ROW 170 (0,0)):=by rw [hW1];exact fT w.drew _
 have hO:∀x,x < w.heap.size->W1.heap[x]? =w.heap[x]?:=λx hx=>by rw [hW1];exact heap_alloc w.drew _ x hx
 have hs1:oD w W1:=by rw [hW1];exact ⟨rfl,rfl,rfl⟩
 obtain ⟨W2,hW2⟩:∃W2,W2=W1.setCells w.heap.size (i * 5) news:=⟨_,rfl⟩;have hs2:oD W1 W2.drew:=by rw [hW2];exact (kM _ _ _ _).trans ⟨rfl,rfl,rfl⟩
 have hcp1:∀ty,(Builtin.copy_ #[60,60] ty #[.slice (some ⟨w.heap.size,i * 5,none⟩) (n+1 - i) (G - i),.slice (some ⟨vb,voff,none⟩) 1 vc]).run prog W1= .ok (goInt ((1:Nat):Int)) W2:=λty=>by rw [hW2];exact Eu Tryz.underlying60 Js (by simp only [Nat.min_def];split<;>omega) (by rw [hnl,hsz]) (hcv.same (hO _ (hlt hvb))) hN (q:=True) (.inr rfl) (by omega) OY
 obtain ⟨C1,ZE,KJ⟩:=jQ w.heap.size 170 (0,0) news (i * 5) W1 ROW hN;rw [<-hW2] at ZE;have hcp2:∀ty,(Builtin.copy_ #[60,60] ty #[.slice (some ⟨w.heap.size,(i+1) * 5,none⟩) (n - i) (G - (i+1)),.slice (some ⟨b,off+i * 5,none⟩) (n - i) (c - i)]).run prog W2.drew= .ok (goInt ((n - i:Nat):Int)) (W2.drew.setCells w.heap.size ((i+1) * 5) (olds.drop (i * 5))):=λty=>
  Eu (w:=W2.drew) Tryz.underlying60 Js (by simp only [Nat.min_def];split<;>omega) (by rw [V6,hsz]) (show bN W2.drew b (off+i * 5) (olds.drop (i * 5)) from by
   refine bN.heap (w:=W2) ?_ rfl;rw [hW2];exact vX (hc.drop.same (hO _ (hlt hb))) (λh=>absurd h (by have:=hlt hb;omega))) (show W2.drew.heap[w.heap.size]? =_ from ZE) (q:=True) (.inr rfl) (by rw [KJ];omega) (λv hv=>h1o v (By hv))
 have fin:∃v b' off' cap' C' e' TT,Ending.returned (.slice (some ⟨w.heap.size,0,none⟩) (n+1) G)= .returned v/\Uu w (W2.drew.setCells w.heap.size ((i+1) * 5) (olds.drop (i * 5))) b 5 (n+1) (olds.take (i * 5)++news++olds.drop (i * 5)) v b' off' cap' C' e' TT:=by obtain ⟨C',h⟩:=Q3 (k:=5) (b:=b) (cap:=G) hol hnl hi hR (by omega) hGn hGm hN hO hs1 (show W2.drew.heap=_ by rw [hW2];rfl) hs2;exact ⟨_,_,_,_,_,_,_,rfl,h⟩
 have hG4:¬(G=i):=by omega
 have hG5:¬(G=i+1):=by omega
 clear hb hz hc hol h1o hfit hmax hvb hzv hcv hnl OY V6 htl Js hq hsz hby hz0 hzc hG hROW hRs hR hW1 hN hO hs1 hW2 hs2 ZE KJ hlt
 go_enter func259,ntmps259
 go_wp2_with (first
  |(at_builtin;refine Lib.wpList_append_run _ rfl _ _ _ _ rfl _ _ rfl rfl _ _ (hrz _) ?_)
  |(at_builtin;refine wpList_copy_runI _ rfl _ _ 60 60 rfl _ _ rfl rfl (hcp1 _) ?_))
 go_region_law_o (refine step_copy_runI rfl _ _ 60 60 rfl (.slice (some ⟨w.heap.size,(i+1) * 5,none⟩) (n - i) (G - (i+1))) (.slice (some ⟨b,off+i * 5,none⟩) (n - i) (c - i)) (by simp [Act.eval,Act.put]) (by simp [Act.eval,Act.put]) (hcp2 _) ?_)
 go_wp2
 go_ret
 exact fin
theorem Iw (w:World) (base:Option Addr) (n c vb voff vc:Nat) (v':Value) (w':World) (Q:Ending->World->Prop) (hnc:n<=c) (hmax:c<=9223372036854775807) (hnil:base=none->n=0)
  (hrun:∀ty,(Builtin.append_ #[60,60] ty #[.slice base n c,.slice (some ⟨vb,voff,none⟩) 1 vc]).run prog w= .ok v' w') (fin:Q (.returned v') w'):
  Calls prog 259 #[.slice base n c,.int .i64 n,.slice (some ⟨vb,voff,none⟩) 1 vc] w Q:=by
 have mixed:prog.follows .mixedOrders=true:=by kernel_rfl
 go_enter func259,ntmps259
 cases base with
 |none=>
  have h0:=hnil rfl;subst h0
  go_wp2_with (at_builtin;refine Lib.wpList_append_run _ rfl _ _ _ _ rfl _ _ rfl rfl _ _ (hrun _) ?_)
  exact fin
 |some a=>
  obtain ⟨ab,ao,asp⟩:=a
  go_wp2_with (at_builtin;refine Lib.wpList_append_run _ rfl _ _ _ _ rfl _ _ rfl rfl _ _ (hrun _) ?_)
  all_goals exact fin
end Go.Proofs.YtdcpobkemdacnaaGreatDoor
