/- Proved here: steps towards the statement of this claim. No condition. -/
import Derived.Test.YtjmpjmilndkgfaaGreatDoorZF8
import Derived.Test.YtjmpjmilndkgfaaGreatDoorZQR3
import Derived.Shelf.Spec.SlicesInsertGrow
import Derived.Test.YtjmpjmilndkgfaaGreatDoorZF5
set_option linter.all false
namespace Go.Aw
open List
theorem DZ {P:Program} {w:World} {dT sT ty elem:TypeId} {i:TypeInfo} {b o aOj aRu b2 o2 sLen sCap n:Nat} {C:Array Value} {e:TypeId} {fz:Nat×Nat} {cs:List Value} {q:Prop}
  (hu:P.underlying dT=some (.slice elem)) (hi:P.info? elem=some i) (hm:Nat.min sLen aOj=n) (hn:cs.length=n * i.size)
  (aKe:bN w b2 o2 cs) (hb:w.heap[b]? =some (.cells C e fz)) (hz:(C.size<=fz.1/\q)\/fz.2=0) (hfit:o+cs.length<=C.size) (h1:∀v∈cs,v.oneCell'=true):
  (Builtin.copy_ #[dT,sT] ty #[.slice (some ⟨b,o,none⟩) aOj aRu,.slice (some ⟨b2,o2,none⟩) sLen sCap]).run P w= .ok (goInt n) (w.setCells b o cs):=by
 have hl:=kQ (P:=P) (w:=w) (len:=sLen) (cap:=sCap) hn aKe;have hst:=sG (P:=P) hb hz hfit h1;simp [Builtin.copy_,fY hu,Builtin.lenOf,sizeOf,typeInfo,hi,hm,hl,hst]
theorem Fe {w:World} {b o:Nat} {C:Array Value} {e:TypeId} {fz:Nat×Nat} {cs:List Value} (hb:w.heap[b]? =some (.cells C e fz)) (hfit:o+cs.length<=C.size):bN (w.setCells b o cs) b o cs:=by
 intro j v hv;have hj:j < cs.length:=(cH.1 hv).1;have:=BE b cs o w (λj hj=>by
  have:o+j < C.size:=by omega
  simp [World.cell?,hb,this]) j hj
 rw [this];rw [aE hj] at hv;exact hv
theorem uN {w:World} {b o b2 p:Nat} {cs ds:List Value} (h:bN w b2 p ds) (ho:b2=b->p+ds.length<=o\/o+cs.length<=p):bN (w.setCells b o cs) b2 p ds:=by
 intro j v hv;have hj:j < ds.length:=(cH.1 hv).1;rw [AW]
 .exact h j v hv
 .intro h1 _;have:=ho h1;simp only;omega
structure TI (w w' : World) (b k n : Nat) (cs : List Value) (v : Value) (b' off' cap' : Nat) (C' : Array Value) (e' : TypeId) (Tj : Nat × Nat) : Prop where
  ret : v = .slice (some ⟨b', off', none⟩) n cap'
  blk : w'.heap[b']? = some (.cells C' e' Tj)
  hz : (C'.size <= Tj.1 /\ k = 1) \/ Tj.2 = 0
  fit : off' + cap' * k <= C'.size
  len : n <= cap'
  max : cap' <= maxLen
  at' : bN w' b' off' cs
  new : b' = b \/ w.heap.size <= b'
  lt : b' < w'.heap.size
  size : w.heap.size <= w'.heap.size
  frame : ∀ x, x < w.heap.size -> x ≠ b -> w'.heap[x]? = w.heap[x]?
  same : nG w w'
theorem Qv {b:Nat}:∀(vs:List Value) (o:Nat) {w w0:World},w0.heap=w.heap->(w0.setCells b o vs).heap=(w.setCells b o vs).heap
 |[],_,_,_,h=>h
 |v::r,o,w,w0,h=>by rw [World.setCells,World.setCells];exact Qv r (o+1) (by simp [World.setCell,h])
theorem jr {w W1:World} {b off n c i k:Nat} {C:Array Value} {e:TypeId} {fz:Nat×Nat} {olds news:List Value} (hb:w.heap[b]? =some (.cells C e fz)) (hz:(C.size<=fz.1/\k=1)\/fz.2=0)
  (hc:bN w b off olds) (hol:olds.length=n * k) (hnl:news.length=k) (hi:i < n) (hroom:n+1<=c) (hfit:off+c * k<=C.size) (hmax:c<=maxLen)
  (hW:W1.heap=(w.setCells b (off+(i+1) * k) (olds.drop (i * k))).heap) (hs:nG w W1):
  ∃C',TI w (W1.setCells b (off+i * k) news) b k (n+1) (olds.take (i * k)++news++olds.drop (i * k)) (.slice (some ⟨b,off,none⟩) (n+1) c) b off c C' e fz:=by
 have hik:i * k+k<=n * k:=by rw [<-AF];exact kO k hi
 have hnk:(n+1) * k<=c * k:=kO k hroom;have aOk:(n+1) * k=n * k+k:=AF n k;have aRv:(i+1) * k=i * k+k:=AF i k;have hdl:(olds.drop (i * k)).length=n * k - i * k:=by rw [zE,hol]
 have htl:(olds.take (i * k)).length=i * k:=by rw [oT,hol];omega
 obtain ⟨C1,YJ,JJ⟩:=jL b e fz (olds.drop (i * k)) (off+(i+1) * k) w C hb;rw [<-hW] at YJ;obtain ⟨C2,hC2,aG7⟩:=jL b e fz news (off+i * k) _ C1 YJ;have hlt:b < w.heap.size:=(tD.1 hb).1;have hsz:W1.heap.size=w.heap.size:=by rw [hW,gX]
 refine ⟨C2,rfl,hC2,by rw [aG7,JJ];exact hz,by rw [aG7,JJ];exact hfit,hroom,hmax,?_,.inl rfl,by rw [gX,hsz];exact hlt,by rw [gX,hsz];exact eE _,?_,hs.trans (kP _ _ _ _)⟩
 .refine bN.append.2 ⟨bN.append.2 ⟨?_,?_⟩,?_⟩
  .refine uN ((uN hc.take λ_=> ?_:bN (w.setCells b (off+(i+1) * k) (olds.drop (i * k))) b off (olds.take (i * k))).heap hW) λ_=> ?_
   .rw [htl];left;omega
   .rw [htl];left;omega
  .rw [htl];exact Fe YJ (by omega)
  .rw [eR,htl,hnl,show off+(i * k+k)=off+(i+1) * k by omega];refine uN ((Fe hb (by omega):bN (w.setCells b (off+(i+1) * k) (olds.drop (i * k))) b (off+(i+1) * k) (olds.drop (i * k))).heap hW) λ_=> ?_
   right;omega
 .intro x hx hne;rw [lS b x hne,hW,lS b x hne]
theorem G7 {w W1 W2:World} {b n i k cap:Nat} {ROW:Array Value} {e:TypeId} {olds news:List Value} (hol:olds.length=n * k) (hnl:news.length=k) (hi:i < n)
  (hR:∀(j:Nat) (v:Value),(olds.take (i * k))[j]? =some v->ROW[j]? =some v) (hRs:cap * k<=ROW.size) (vP:n+1<=cap) (hmax:cap<=maxLen)
  (hN:W1.heap[w.heap.size]? =some (.cells ROW e (0,0))) (hO:∀x,x < w.heap.size->W1.heap[x]? =w.heap[x]?) (hs1:nG w W1)
  (hW:W2.heap=(W1.setCells w.heap.size (i * k) news).heap) (hs2:nG W1 W2):
  ∃C',TI w (W2.setCells w.heap.size ((i+1) * k) (olds.drop (i * k))) b k (n+1) (olds.take (i * k)++news++olds.drop (i * k)) (.slice (some ⟨w.heap.size,0,none⟩) (n+1) cap) w.heap.size 0 cap C' e (0,0):=by
 have hik:i * k+k<=n * k:=by rw [<-AF];exact kO k hi
 have hnk:(n+1) * k<=cap * k:=kO k vP;have aOk:(n+1) * k=n * k+k:=AF n k;have aRv:(i+1) * k=i * k+k:=AF i k;have hdl:(olds.drop (i * k)).length=n * k - i * k:=by rw [zE,hol]
 have htl:(olds.take (i * k)).length=i * k:=by rw [oT,hol];omega
 obtain ⟨C1,YJ,JJ⟩:=jL w.heap.size e (0,0) news (i * k) W1 ROW hN;rw [<-hW] at YJ;obtain ⟨C2,hC2,aG7⟩:=jL w.heap.size e (0,0) (olds.drop (i * k)) ((i+1) * k) W2 C1 YJ;have hlt:w.heap.size < W1.heap.size:=(tD.1 hN).1;have hsz:W2.heap.size=W1.heap.size:=by rw [hW,gX]
 have hc0:bN W1 w.heap.size 0 (olds.take (i * k)):=by refine qA hN ?_;intro j v hv;rw [hM];exact hR j v hv
 refine ⟨C2,rfl,hC2,.inr rfl,by rw [aG7,JJ];omega,vP,hmax,?_,.inr (eE _),by rw [gX,hsz];exact hlt,by rw [gX,hsz];omega,?_,hs1.trans (hs2.trans (kP _ _ _ _))⟩
 .refine bN.append.2 ⟨bN.append.2 ⟨?_,?_⟩,?_⟩
  .refine uN ((uN hc0 λ_=> ?_:bN (W1.setCells w.heap.size (i * k) news) w.heap.size 0 (olds.take (i * k))).heap hW) λ_=> ?_
   .rw [htl];left;omega
   .rw [htl];left;omega
  .rw [htl,hM];refine uN ((Fe hN (by omega):bN (W1.setCells w.heap.size (i * k) news) w.heap.size (i * k) news).heap hW) λ_=> ?_
   left;omega
  .rw [eR,htl,hnl,hM,show i * k+k=(i+1) * k by omega];exact Fe YJ (by omega)
 .intro x hx hne;have hx':x≠w.heap.size:=by omega
  rw [lS _ x hx',hW,lS _ x hx',hO x hx]
def Ey:AV->Bool
 | .int _ _=>true
 | .bool _=>true
 | .str _=>true
 |_=>false
theorem aKv {w w':World} {E E':Env} {x:AV} {v:Value} {fp:List Nat} (h:Ey x=true) (hr:R w E x v fp):fp=[]/\R w' E' x v []:=by cases x<;>simp_all [Ey,R]
theorem xz {w w':World} {E E':Env}:∀{c:List AV} {cs:List Value} {fp:List Nat},c.all Ey=true->Rc w E c cs fp->fp=[]/\Rc w' E' c cs []
 |[],[],_,_,h=>⟨by simpa [Rc] using h,by simp [Rc]⟩
 |[],_::_,_,_,h=>by simp [Rc] at h
 |_::_,[],_,_,h=>by simp [Rc] at h
 |x::xs,v::vs,fp,hf,h=>by simp only [BY,eJ] at hf;simp only [Rc] at h⊢;obtain ⟨f1,f2,h1,h2,rfl⟩:=h;obtain ⟨rfl,h3⟩:=aKv (w':=w') (E':=E') hf.1 h1;obtain ⟨rfl,h4⟩:=xz (w':=w') (E':=E') hf.2 h2;exact ⟨rfl,[],[],h3,h4,rfl⟩
theorem JK {w w':World} {E E':Env} {n:Nat}:∀{l:List (List AV)} {vs:List Value} {fp:List Nat},(l.all λc=>c.all Ey)=true->Rv w E l vs n fp->fp=[]/\Rv w' E' l vs n []
 |[],_,_,_,h=>by simp only [Rv] at h⊢;exact ⟨h.2,by simp [h.1]⟩
 |c::l,vs,fp,hf,h=>by simp only [BY,eJ] at hf;simp only [Rv] at h⊢;obtain ⟨cs,rest,f1,f2,rfl,hn,ho,h1,h2,rfl⟩:=h;obtain ⟨rfl,h3⟩:=xz (w':=w') (E':=E') hf.1 h1;obtain ⟨rfl,h4⟩:=JK (w':=w') (E':=E') hf.2 h2;exact ⟨rfl,cs,rest,[],[],rfl,hn,ho,h3,h4,rfl⟩
theorem YK {w:World} {E:Env} {n:Nat}:∀(i:Nat) {l:List (List AV)} {vs:List Value},Rv w E l vs n []->Rv w E (l.take i) (vs.take (i * n)) n []/\Rv w E (l.drop i) (vs.drop (i * n)) n []
 |0,l,vs,h=>by simp [Rv,h]
 |i+1,[],vs,h=>by simp only [Rv] at h;obtain ⟨rfl,_⟩:=h;simp [Rv]
 |i+1,c::l,vs,h=>by
  simp only [Rv] at h;obtain ⟨cs,rest,f1,f2,rfl,hn,ho,h1,h2,hf⟩:=h;obtain ⟨rfl,rfl⟩:=append_eq_nil_iff.1 hf.symm;obtain ⟨h3,h4⟩:=YK i h2;have e:(i+1) * n=cs.length+i * n:=by rw [AF,hn];omega
  simp only [eM,rI,e,take_length_add_append,drop_length_add_append,Rv];exact ⟨⟨cs,_,[],[],rfl,hn,ho,h1,h3,rfl⟩,h4⟩
theorem Da {w:World} {O:Nat->Prop} {x:GA} {xs:List GA}:∀{vs:List Value} {sM:List (List Nat)} {jD:List Nat},DD w O (x::xs) vs sM jD->
  ∃v vs' f fs k ks,vs=v::vs'/\sM=f::fs/\jD=k::ks/\RG w O x v f k/\DD w O xs vs' fs ks
 |[],_,_,h=>by simp [DD] at h
 |_::_,[],_,h=>by simp [DD] at h
 |_::_,_::_,[],h=>by simp [DD] at h
 |v::vs,f::fs,k::ks,h=>by simp only [DD] at h;exact ⟨v,vs,f,fs,k,ks,rfl,rfl,rfl,h.1,h.2⟩
theorem yc {w:World} {O:Nat->Prop}:∀{vs:List Value} {sM:List (List Nat)} {jD:List Nat},DD w O [] vs sM jD->vs=[]/\sM=[]/\jD=[]
 |[],[],[],_=>⟨rfl,rfl,rfl⟩
 |_::_,_,_,h=>by simp [DD] at h
 |[],_::_,_,h=>by simp [DD] at h
 |[],[],_::_,h=>by simp [DD] at h
theorem aG8 {P:Program} [aC P] {f:FuncId} {n i k:Nat} {l:List (List AV)} {x:List AV} (hl:l.length=n) (hi:i < n) (hfl:(l.all λc=>c.all Ey)=true) (hfx:x.all Ey=true)
  (H:∀(w:World) (b off c:Nat) (C:Array Value) (e:TypeId) (fz:Nat×Nat) (olds news:List Value) (vb voff vc:Nat) (Cv:Array Value) (ev:TypeId) (XD:Nat×Nat),w.heap[b]? =some (.cells C e fz)->((C.size<=fz.1/\k=1)\/fz.2=0)->bN w b off olds->olds.length=n * k->(∀v∈olds,v.oneCell'=true)->
   off+c * k<=C.size->n<=c->c<=maxLen->vb≠b->w.heap[vb]? =some (.cells Cv ev XD)->((Cv.size<=XD.1/\k=1)\/XD.2=0)->bN w vb voff news->news.length=k->(∀v∈news,v.oneCell'=true)->
   Calls P f #[.slice (some ⟨b,off,none⟩) n c,.int .i64 i,.slice (some ⟨vb,voff,none⟩) 1 vc] w λed w'=>∃v b' off' cap' C' e' Tj,ed= .returned v/\TI w w' b k (n+1) (olds.take (i * k)++news++olds.drop (i * k)) v b' off' cap' C' e' Tj):
  Lf P f [.nX (.sl .own k l),.view (.int .i64 i),.nX (.sl .own k [x])] (.sl .own k (l.take i++[x]++l.drop i)):=by
 intro w vs sM jD hh hlow hnd hr;obtain ⟨v1,vs,f1,sM,k1,jD,rfl,rfl,rfl,h1,hr⟩:=Da hr;obtain ⟨v2,vs,f2,sM,k2,jD,rfl,rfl,rfl,h2,hr⟩:=Da hr;obtain ⟨v3,vs,f3,sM,k3,jD,rfl,rfl,rfl,h3,hr⟩:=Da hr;obtain ⟨rfl,rfl,rfl⟩:=yc hr;simp only [RG] at h1 h2 h3;obtain ⟨rfl,h2⟩:=h2;obtain ⟨a,cap,rfl,UC,ho⟩:=rH.1 h1;simp only [R] at h2;obtain ⟨rfl,_⟩:=h2;rcases ho with ⟨h0,_⟩|⟨b,off,C,e,fz,pX,rfl,hb,hz,hfit,hlc,hmax,rfl,Wd⟩
 .subst h0;simp at hl;omega
 obtain ⟨a3,aKw,rfl,_,h3⟩:=rH.1 h3;rcases h3 with ⟨h0,_⟩|⟨vb,voff,Cv,ev,XD,aOl,rfl,hb3,hz3,_,_,_,rfl,hr3⟩
 .cases h0
 obtain ⟨olds,hv,hc⟩:=rT.1 Wd;obtain ⟨news,hv3,hc3⟩:=rT.1 hr3;have hol:=jQ hv;have hnl:=jQ hv3;have hne:vb≠b:=λh=>by subst h;simp at hnd
 rw [hl] at hol;have:=H w b off cap C e fz olds news vb voff aKw Cv ev XD hb hz hc hol (Pm hv) hfit (by rw [<-hl];exact hlc) hmax hne hb3 hz3 hc3 (by simpa using hnl) (Pm hv3);rw [hl];refine this.mono λed w' h=> ?_
 obtain ⟨v,b',off',cap',C',e',Tj,he,hI⟩:=h;have hq:=(JK (w':=w') (E':=(lV).plain) hfl hv).2;have Vn:=(JK (w':=w') (E':=(lV).plain) (by simp [hfx]) hv3).2;obtain ⟨q1,q2⟩:=YK i hq;have q4:=AO q2 (AO Vn q1);have hlen:(l.take i++[x]++l.drop i).length=n+1:=by simp;omega
 have DW:n+1<=maxLen:=lO hI.len hI.max;refine ⟨v,[b'],[[],[],[]],he,rH.2 ⟨_,cap',by rw [hlen];exact hI.ret,by rw [hlen];exact DW,.inr ⟨b',off',C',e',Tj,[],rfl,hI.blk,hI.hz,hI.fit,by rw [hlen];exact hI.len,hI.max,rfl,rT.2 ⟨_,by simpa using q4,hI.at'⟩⟩⟩,by simp [Tf,RP],by simp,?_,hI.size,?_,hI.same⟩
 .intro x hx;obtain rfl:x=b':=by simpa using hx
  refine ⟨?_,hI.lt⟩;rcases hI.new with rfl|h
  .left;simp
  .exact .inr h
 .intro x hx hn;exact hI.frame x hx λh=>hn (by simp [h])
theorem WJ {w:World} {b off n c k:Nat} {C:Array Value} {e:TypeId} {fz:Nat×Nat} {olds news:List Value} (hb:w.heap[b]? =some (.cells C e fz)) (hz:(C.size<=fz.1/\k=1)\/fz.2=0)
  (hc:bN w b off olds) (hol:olds.length=n * k) (hnl:news.length=k) (hroom:n+1<=c) (hfit:off+c * k<=C.size) (hmax:c<=maxLen):
  ∃C',TI w (w.setCells b (off+n * k) news) b k (n+1) (olds++news) (.slice (some ⟨b,off,none⟩) (n+1) c) b off c C' e fz:=by
 have hnk:(n+1) * k<=c * k:=kO k hroom;have aOk:(n+1) * k=n * k+k:=AF n k;obtain ⟨C1,YJ,JJ⟩:=jL b e fz news (off+n * k) w C hb;have hlt:b < w.heap.size:=(tD.1 hb).1;refine ⟨C1,rfl,YJ,by rw [JJ];exact hz,by rw [JJ];exact hfit,hroom,hmax,?_,.inl rfl,by rw [gX];exact hlt,by rw [gX];exact eE _,?_,kP _ _ _ _⟩
 .refine bN.append.2 ⟨uN hc λ_=> ?_,?_⟩
  .rw [hol];left;omega
  .rw [hol];exact Fe hb (by omega)
 .intro x hx hne;rw [lS b x hne]
theorem WK {w:World} {b n k cap:Nat} {ROW:Array Value} {e:TypeId} {olds news:List Value} (hR:∀(j:Nat) (v:Value),(olds++news)[j]? =some v->ROW[j]? =some v) (hRs:cap * k<=ROW.size) (vP:n+1<=cap) (hmax:cap<=maxLen):
  ∃C',TI w (w.drew.alloc (.cells ROW e)) b k (n+1) (olds++news) (.slice (some ⟨w.heap.size,0,none⟩) (n+1) cap) w.heap.size 0 cap C' e (0,0):=by
 have hN:(w.drew.alloc (.cells ROW e)).heap[w.heap.size]? =some (.cells ROW e):=fV w.drew _;refine ⟨ROW,rfl,hN,.inr rfl,by omega,vP,hmax,qA hN (by intro j v hv;rw [hM];exact hR j v hv),.inr (eE _),by simp,by simp,λx hx _=>heap_alloc w.drew _ x hx,⟨rfl,rfl,rfl⟩⟩
theorem YL {P:Program} [aC P] {f:FuncId} {n k:Nat} {l:List (List AV)} {x:List AV} (hl:l.length=n) (hfl:(l.all λc=>c.all Ey)=true) (hfx:x.all Ey=true)
  (H:∀(w:World) (base:Option Addr) (bb c:Nat) (olds news:List Value) (vb voff vc:Nat),olds.length=n * k->n<=c->c<=maxLen->bN w vb voff news->news.length=k->(∀v∈news,v.oneCell'=true)->
   ((n=0/\c=0)\/∃off C e fz,base=some ⟨bb,off,none⟩/\w.heap[bb]? =some (.cells C e fz)/\((C.size<=fz.1/\k=1)\/fz.2=0)/\bN w bb off olds/\off+c * k<=C.size)->
   Calls P f #[.slice base n c,.int .i64 n,.slice (some ⟨vb,voff,none⟩) 1 vc] w λed w'=>∃v b' off' cap' C' e' Tj,ed= .returned v/\TI w w' bb k (n+1) (olds++news) v b' off' cap' C' e' Tj):
  Lf P f [.nX (.sl .own k l),.view (.int .i64 n),.nX (.sl .own k [x])] (.sl .own k (l++[x])):=by
 intro w vs sM jD hh hlow hnd hr;obtain ⟨v1,vs,f1,sM,k1,jD,rfl,rfl,rfl,h1,hr⟩:=Da hr;obtain ⟨v2,vs,f2,sM,k2,jD,rfl,rfl,rfl,h2,hr⟩:=Da hr;obtain ⟨v3,vs,f3,sM,k3,jD,rfl,rfl,rfl,h3,hr⟩:=Da hr;obtain ⟨rfl,rfl,rfl⟩:=yc hr;simp only [RG] at h1 h2 h3;obtain ⟨rfl,h2⟩:=h2;obtain ⟨a,cap,rfl,UC,ho⟩:=rH.1 h1;simp only [R] at h2;obtain ⟨rfl,_⟩:=h2;obtain ⟨a3,aKw,rfl,_,h3⟩:=rH.1 h3;rcases h3 with ⟨h0,_⟩|⟨vb,voff,Cv,ev,XD,aOl,rfl,hb3,hz3,_,_,_,rfl,hr3⟩
 .cases h0
 obtain ⟨news,hv3,hc3⟩:=rT.1 hr3;have hnl:news.length=k:=by simpa using jQ hv3
 obtain ⟨bb,olds,hv,hbb,hnc,hmc,hor⟩:∃bb olds,Rv w (qN w (· ∈(f1++([]++((vb::aOl)++[]))))).plain l olds k f1.tail/\(bb∈f1\/w.heap.size<=bb)/\n<=cap/\cap<=maxLen/\
   ((n=0/\cap=0)\/∃off C e fz,a=some ⟨bb,off,none⟩/\w.heap[bb]? =some (.cells C e fz)/\((C.size<=fz.1/\k=1)\/fz.2=0)/\bN w bb off olds/\off+cap * k<=C.size):=by
  rcases ho with ⟨h0,h4,h5⟩|⟨b,off,C,e,fz,pX,rfl,hb,hz,hfit,hlc,hmax,rfl,Wd⟩
  .subst h0;subst h5;simp at hl;subst hl;subst h4;exact ⟨w.heap.size,[],by simp [Rv],.inr (eE _),eE _,by simp [maxLen],.inl ⟨rfl,rfl⟩⟩
  .obtain ⟨olds,hv,hc⟩:=rT.1 Wd;exact ⟨b,olds,hv,.inl (by simp),by rw [<-hl];exact hlc,hmax,.inr ⟨off,C,e,fz,rfl,hb,hz,hc,hfit⟩⟩
 have hol:=jQ hv;rw [hl] at hol;have:=H w a bb cap olds news vb voff aKw hol hnc hmc hc3 hnl (Pm hv3) hor;rw [hl];refine this.mono λed w' h=> ?_
 obtain ⟨v,b',off',cap',C',e',Tj,he,hI⟩:=h;have hq:=(JK (w':=w') (E':=(lV).plain) hfl hv).2;have Vn:=(JK (w':=w') (E':=(lV).plain) (by simp [hfx]) hv3).2;have q4:=AO Vn hq;have hlen:(l++[x]).length=n+1:=by simp;omega
 have DW:n+1<=maxLen:=lO hI.len hI.max;refine ⟨v,[b'],[[],[],[]],he,rH.2 ⟨_,cap',by rw [hlen];exact hI.ret,by rw [hlen];exact DW,.inr ⟨b',off',C',e',Tj,[],rfl,hI.blk,hI.hz,hI.fit,by rw [hlen];exact hI.len,hI.max,rfl,rT.2 ⟨_,by simpa using q4,hI.at'⟩⟩⟩,by simp [Tf,RP],by simp,?_,hI.size,?_,hI.same⟩
 .intro x hx;obtain rfl:x=b':=by simpa using hx
  refine ⟨?_,hI.lt⟩;rcases hI.new with rfl|h
  .rcases hbb with h|h
   .left;simp [h]
   .exact .inr h
  .exact .inr h
 .intro x hx hn;refine hI.frame x hx λh=> ?_
  subst h;rcases hbb with h|h
  .exact hn (by simp [h])
  .omega
end Go.Aw
set_option maxRecDepth 4000
set_option maxHeartbeats 4000000
namespace Go.Proofs.YtjmpjmilndkgfaaGreatDoor
open Go.Aw Proofs.Tryz List IntKind
def places {α:Type} (f:α->Bool):Nat->List α->List Int
 |_,[]=>[]
 |i,x::xs=>if f x then (i:Int)::places f (i+1) xs else places f (i+1) xs
theorem Nh {α:Type} (f:α->Bool) (x:α):∀(l:List α) (i:Nat),places f i (l++[x])=places f i l++(if f x then [((i+l.length:Nat):Int)] else [])
 |[],i=>by simp only [eN,places];cases f x<;>simp
 |y::ys,i=>by
  simp only [eI,places];rw [Nh f x ys (i+1)];have:i+1+ys.length=i+(y::ys).length:=by simp;omega
  rw [this];cases f y<;>simp
theorem wM {α:Type} (f:α->Bool) (l:List α) (k:Nat) (h:k < l.length):places f 0 (l.take (k+1))=places f 0 (l.take k)++(if f l[k] then [(k:Int)] else []):=by
 rw [eA h,Nh];have:(l.take k).length=k:=by simp;omega
 rw [this,hM]
theorem nD {α:Type} (f:α->Bool):∀(l:List α) (i:Nat),(places f i l).length<=l.length
 |[],_=>by simp [places]
 |x::xs,i=>by simp only [places];have:=nD f xs (i+1);cases f x<;>simp<;>omega
def vG (s:kJ):Bool:= !s.done
def vH (s:dB):Bool:= !s.done
def jO (s:kJ):Bool:=s.mode == 4
theorem Mc [aC prog] (p:aI) (hl:p.aB.length<=16777216):Ok prog 116 [.agg (aJ .view p)] (.sl .own 1 ((places vG 0 p.aB).map jE)):=by
 refine bR aD func116 ntmps116 ?_;refine gJ ?_;refine aL (ι:={q:Nat×Nat // q.1<=p.aB.length/\1<=q.2}) (λt o i=>⟨bD t [(3,.obj 1 i.1.2),(4,.int .i64 i.1.1)],o.take 1++[⟨true,false,1,i.1.2,(places vG 0 (p.aB.take i.1.1)).map jE⟩]⟩)
  (λi=>p.aB.length - i.1.1) ⟨(0,1),by simp,by simp⟩ (aH (by simp [places]) (by simp)) ?_
 rintro ⟨⟨k,v⟩,hk,hv⟩ K1 hK1;simp only at hk hv;simp only [bD,cW,cU,eM,gR,eI,eN] at hK1⊢;have hk1:=oW (k:=k);by_cases hlt:k < p.aB.length
 .have hg:=aE hlt;have hps:=wM vG p.aB k hlt;have hpl:=nD vG (p.aB.take k) 0;have htl:(p.aB.take k).length=k:=by simp;omega
  have hb1:((places vG 0 (p.aB.take k)).length+1) * 8<=140737488355328:=by omega
  have hb2:(places vG 0 (p.aB.take k)).length+1<=9223372036854775807:=by omega
  have hb3:(places vG 0 (p.aB.take k)).length<=9223372036854775806:=by omega
  have W:=aA hk1 (aA hg (aA hlt (aA hb1 (aA hb2 hb3))));repeat' first|refine wg ?_|(refine sq ?_ ?_<;>intro hc<;>try exact hc.elim)|fail
  .refine hK1 _ ⟨(k+1,v+1),by simp only;omega,by simp only;omega⟩ (aW 2 (by simp [hps,vG,hc])) (by simp only;omega)
  .refine hK1 _ ⟨(k+1,v),by simp only;omega,hv⟩ (aW 2 (by simp [hps,vG,hc])) (by simp only;omega)
 .have htk:p.aB.take k=p.aB:=cX (by omega);rw [htk];have W:=hk1;refine wl ?_;exact aK results116
theorem Md [aC prog] (p:aI) (hl:p.aB.length<=16777216):Ok prog 139 [.agg (aJ .view p)] (.sl .own 1 ((places vG 0 p.aB).map jE)):=by
 refine bR aD func139 ntmps139 ?_;refine gJ ?_;refine aL (ι:={q:Nat×Nat // q.1<=p.aB.length/\1<=q.2}) (λt o i=>⟨bD t [(3,.obj 1 i.1.2),(10,.int .i64 i.1.1)],o.take 1++[⟨true,false,1,i.1.2,(places vG 0 (p.aB.take i.1.1)).map jE⟩]⟩)
  (λi=>p.aB.length - i.1.1) ⟨(0,1),by simp,by simp⟩ (aH (by simp [places]) (by simp)) ?_
 rintro ⟨⟨k,v⟩,hk,hv⟩ K1 hK1;simp only at hk hv;simp only [bD,cW,cU,eM,gR,eI,eN] at hK1⊢;have hk1:=oW (k:=k);by_cases hlt:k < p.aB.length
 .have hg:=aE hlt;have hps:=wM vG p.aB k hlt;have hpl:=nD vG (p.aB.take k) 0;have htl:(p.aB.take k).length=k:=by simp;omega
  have hb1:((places vG 0 (p.aB.take k)).length+1) * 8<=140737488355328:=by omega
  have hb2:(places vG 0 (p.aB.take k)).length+1<=9223372036854775807:=by omega
  have hb3:(places vG 0 (p.aB.take k)).length<=9223372036854775806:=by omega
  have W:=aA hk1 (aA hg (aA hlt (aA hb1 (aA hb2 hb3))));repeat' first|refine wg ?_|(refine sq ?_ ?_<;>intro hc<;>try exact hc.elim)|fail
  .refine hK1 _ ⟨(k+1,v+1),by simp only;omega,by simp only;omega⟩ (aW 2 (by simp [hps,vG,hc])) (by simp only;omega)
  .refine hK1 _ ⟨(k+1,v),by simp only;omega,hv⟩ (aW 2 (by simp [hps,vG,hc])) (by simp only;omega)
 .have htk:p.aB.take k=p.aB:=cX (by omega);rw [htk];have W:=hk1;refine wl ?_;exact aK results139
theorem NR [aC prog] (p:aI) (hl:p.aN.length<=16777216):Ok prog 117 [.agg (aJ .view p)] (.sl .own 1 ((places vH 0 p.aN).map jE)):=by
 refine bR aD func117 ntmps117 ?_;refine gJ ?_;refine aL (ι:={q:Nat×Nat // q.1<=p.aN.length/\1<=q.2}) (λt o i=>⟨bD t [(3,.obj 1 i.1.2),(4,.int .i64 i.1.1)],o.take 1++[⟨true,false,1,i.1.2,(places vH 0 (p.aN.take i.1.1)).map jE⟩]⟩)
  (λi=>p.aN.length - i.1.1) ⟨(0,1),by simp,by simp⟩ (aH (by simp [places]) (by simp)) ?_
 rintro ⟨⟨k,v⟩,hk,hv⟩ K1 hK1;simp only at hk hv;simp only [bD,cW,cU,eM,gR,eI,eN] at hK1⊢;have hk1:=oW (k:=k);by_cases hlt:k < p.aN.length
 .have hg:=aE hlt;have hps:=wM vH p.aN k hlt;have hpl:=nD vH (p.aN.take k) 0;have htl:(p.aN.take k).length=k:=by simp;omega
  have hb1:((places vH 0 (p.aN.take k)).length+1) * 8<=140737488355328:=by omega
  have hb2:(places vH 0 (p.aN.take k)).length+1<=9223372036854775807:=by omega
  have hb3:(places vH 0 (p.aN.take k)).length<=9223372036854775806:=by omega
  have W:=aA hk1 (aA hg (aA hlt (aA hb1 (aA hb2 hb3))));repeat' first|refine wg ?_|(refine sq ?_ ?_<;>intro hc<;>try exact hc.elim)|fail
  .refine hK1 _ ⟨(k+1,v+1),by simp only;omega,by simp only;omega⟩ (aW 2 (by simp [hps,vH,hc])) (by simp only;omega)
  .refine hK1 _ ⟨(k+1,v),by simp only;omega,hv⟩ (aW 2 (by simp [hps,vH,hc])) (by simp only;omega)
 .have htk:p.aN.take k=p.aN:=cX (by omega);rw [htk];have W:=hk1;refine wl ?_;exact aK results117
theorem NS [aC prog] (p:aI) (hl:p.aN.length<=16777216):Ok prog 140 [.agg (aJ .view p)] (.sl .own 1 ((places vH 0 p.aN).map jE)):=by
 refine bR aD func140 ntmps140 ?_;refine gJ ?_;refine aL (ι:={q:Nat×Nat // q.1<=p.aN.length/\1<=q.2}) (λt o i=>⟨bD t [(3,.obj 1 i.1.2),(10,.int .i64 i.1.1)],o.take 1++[⟨true,false,1,i.1.2,(places vH 0 (p.aN.take i.1.1)).map jE⟩]⟩)
  (λi=>p.aN.length - i.1.1) ⟨(0,1),by simp,by simp⟩ (aH (by simp [places]) (by simp)) ?_
 rintro ⟨⟨k,v⟩,hk,hv⟩ K1 hK1;simp only at hk hv;simp only [bD,cW,cU,eM,gR,eI,eN] at hK1⊢;have hk1:=oW (k:=k);by_cases hlt:k < p.aN.length
 .have hg:=aE hlt;have hps:=wM vH p.aN k hlt;have hpl:=nD vH (p.aN.take k) 0;have htl:(p.aN.take k).length=k:=by simp;omega
  have hb1:((places vH 0 (p.aN.take k)).length+1) * 8<=140737488355328:=by omega
  have hb2:(places vH 0 (p.aN.take k)).length+1<=9223372036854775807:=by omega
  have hb3:(places vH 0 (p.aN.take k)).length<=9223372036854775806:=by omega
  have W:=aA hk1 (aA hg (aA hlt (aA hb1 (aA hb2 hb3))));repeat' first|refine wg ?_|(refine sq ?_ ?_<;>intro hc<;>try exact hc.elim)|fail
  .refine hK1 _ ⟨(k+1,v+1),by simp only;omega,by simp only;omega⟩ (aW 2 (by simp [hps,vH,hc])) (by simp only;omega)
  .refine hK1 _ ⟨(k+1,v),by simp only;omega,hv⟩ (aW 2 (by simp [hps,vH,hc])) (by simp only;omega)
 .have htk:p.aN.take k=p.aN:=cX (by omega);rw [htk];have W:=hk1;refine wl ?_;exact aK results140
theorem Fz [aC prog] (p:aI) (hl:p.aB.length<=16777216):Ok prog 113 [.agg (aJ .view p)] (.sl .own 1 ((places jO 0 p.aB).map jE)):=by
 refine bR aD func113 ntmps113 ?_;refine gJ ?_;refine aL (ι:={q:Nat×Nat // q.1<=p.aB.length/\1<=q.2}) (λt o i=>⟨bD t [(3,.obj 1 i.1.2),(4,.int .i64 i.1.1)],o.take 1++[⟨true,false,1,i.1.2,(places jO 0 (p.aB.take i.1.1)).map jE⟩]⟩)
  (λi=>p.aB.length - i.1.1) ⟨(0,1),by simp,by simp⟩ (aH (by simp [places]) (by simp)) ?_
 rintro ⟨⟨k,v⟩,hk,hv⟩ K1 hK1;simp only at hk hv;simp only [bD,cW,cU,eM,gR,eI,eN] at hK1⊢;have hk1:=oW (k:=k);by_cases hlt:k < p.aB.length
 .have hg:=aE hlt;have hps:=wM jO p.aB k hlt;have hpl:=nD jO (p.aB.take k) 0;have htl:(p.aB.take k).length=k:=by simp;omega
  have hb1:((places jO 0 (p.aB.take k)).length+1) * 8<=140737488355328:=by omega
  have hb2:(places jO 0 (p.aB.take k)).length+1<=9223372036854775807:=by omega
  have hb3:(places jO 0 (p.aB.take k)).length<=9223372036854775806:=by omega
  have W:=aA hk1 (aA hg (aA hlt (aA hb1 (aA hb2 hb3))));repeat' first|refine wg ?_|(refine sq ?_ ?_<;>intro hc<;>try exact hc.elim)|fail
  .refine hK1 _ ⟨(k+1,v+1),by simp only;omega,by simp only;omega⟩ (aW 2 (by simp [hps,jO,hc])) (by simp only;omega)
  .refine hK1 _ ⟨(k+1,v),by simp only;omega,hv⟩ (aW 2 (by simp [hps,jO,hc])) (by simp only;omega)
 .have htk:p.aB.take k=p.aB:=cX (by omega);rw [htk];have W:=hk1;refine wl ?_;exact aK results113
theorem FB [aC prog] (p:aI) (hl:p.aB.length<=16777216):Ok prog 136 [.agg (aJ .view p)] (.sl .own 1 ((places jO 0 p.aB).map jE)):=by
 refine bR aD func136 ntmps136 ?_;refine gJ ?_;refine aL (ι:={q:Nat×Nat // q.1<=p.aB.length/\1<=q.2}) (λt o i=>⟨bD t [(3,.obj 1 i.1.2),(10,.int .i64 i.1.1)],o.take 1++[⟨true,false,1,i.1.2,(places jO 0 (p.aB.take i.1.1)).map jE⟩]⟩)
  (λi=>p.aB.length - i.1.1) ⟨(0,1),by simp,by simp⟩ (aH (by simp [places]) (by simp)) ?_
 rintro ⟨⟨k,v⟩,hk,hv⟩ K1 hK1;simp only at hk hv;simp only [bD,cW,cU,eM,gR,eI,eN] at hK1⊢;have hk1:=oW (k:=k);by_cases hlt:k < p.aB.length
 .have hg:=aE hlt;have hps:=wM jO p.aB k hlt;have hpl:=nD jO (p.aB.take k) 0;have htl:(p.aB.take k).length=k:=by simp;omega
  have hb1:((places jO 0 (p.aB.take k)).length+1) * 8<=140737488355328:=by omega
  have hb2:(places jO 0 (p.aB.take k)).length+1<=9223372036854775807:=by omega
  have hb3:(places jO 0 (p.aB.take k)).length<=9223372036854775806:=by omega
  have W:=aA hk1 (aA hg (aA hlt (aA hb1 (aA hb2 hb3))));repeat' first|refine wg ?_|(refine sq ?_ ?_<;>intro hc<;>try exact hc.elim)|fail
  .refine hK1 _ ⟨(k+1,v+1),by simp only;omega,by simp only;omega⟩ (aW 2 (by simp [hps,jO,hc])) (by simp only;omega)
  .refine hK1 _ ⟨(k+1,v),by simp only;omega,hv⟩ (aW 2 (by simp [hps,jO,hc])) (by simp only;omega)
 .have htk:p.aB.take k=p.aB:=cX (by omega);rw [htk];have W:=hk1;refine wl ?_;exact aK results136
end Go.Proofs.YtjmpjmilndkgfaaGreatDoor
set_option maxRecDepth 4000
set_option maxHeartbeats 400000
namespace Go.Proofs.YtjmpjmilndkgfaaGreatDoor
open Go.Aw Proofs.Tryz List IntKind
def fO (m:Int):Int:=if m=1 then 4 else if m=2 then 3 else if m=3 then 2 else if m=4 then 2 else 0
theorem Cm [aC prog] (m:Int):Ok prog 179 [.int .i64 m] (.int .i64 (fO m)):=by
 refine bR aD func179 ntmps179 ?_;have W:=trivial;repeat' first|refine wg ?_|(refine sq ?_ ?_<;>intro hc<;>try exact hc.elim)|fail
 all_goals try(refine aR ?_;simp [aG,results179,fO])
 all_goals simp_all [fO]
theorem Cn [aC prog] (m:Int):Ok prog 207 [.int .i64 m] (.int .i64 (fO m)):=by
 refine bR aD func207 ntmps207 ?_;have W:=trivial;repeat' first|refine wg ?_|(refine sq ?_ ?_<;>intro hc<;>try exact hc.elim)|fail
 all_goals try(refine aR ?_;simp [aG,results207,fO])
 all_goals simp_all [fO]
def aJf:gV:=⟨0,⟨[],[]⟩,[],[]⟩
def gB (p:aI) (s:kJ):gV:=⟨fO s.mode,s.to,p.addr.host,s.digest⟩
def fF (p:aI) (m:dB):gV:=⟨5,m.to,p.addr.host,[]⟩
def qL (p:aI) (i:Int):gV:=match p.aB[i.toNat]? with
 |some s=>gB p s
 |none=>aJf
def xE (p:aI) (i:Int):gV:=match p.aN[i.toNat]? with
 |some s=>fF p s
 |none=>aJf
theorem Ao {α:Type} {l:List α} {i:Int} (h0:0<=i) (h1:i < l.length):∃s,l[i.toNat]? =some s:=⟨l[i.toNat]'(by omega),aE _⟩
theorem at_eq {α:Type} {l:List α} {k:Nat} {s:α} (h:k < l.length) (hg:l[k]? =some s):l[k]=s:=by rw [aE h] at hg;exact cQ hg
theorem Bu [aC prog] (p:aI) (i:Int) (h0:0<=i) (h1:i < p.aB.length) (hl:p.aB.length<=1099511627776):Ok prog 125 [.agg (aJ .view p),.int .i64 i] (.agg (fE (qL p i))):=by
 obtain ⟨s,hg⟩:=Ao h0 h1;have e:qL p i=gB p s:=by simp [qL,hg]
 rw [e];obtain rfl:p.aB[i.toNat]'(by omega)=s:=at_eq (by omega) hg;have c1:=gM i 0 (p.aB.length - 1);rw [show (decide (0<=i)&&decide (i<=(p.aB.length:Int) - 1))=true by simp;omega] at c1;have c2:=Cm (p.aB[i.toNat]'(by omega)).mode;refine bR aD func125 ntmps125 ?_;have W:=aA hg (aA h0 h1);refine wl ?_;all_goals try(refine aR ?_;simp [aG,results125,gB])
theorem Bv [aC prog] (p:aI) (i:Int) (h0:0<=i) (h1:i < p.aB.length) (hl:p.aB.length<=1099511627776):Ok prog 155 [.agg (aJ .view p),.int .i64 i] (.agg (fE (qL p i))):=by
 obtain ⟨s,hg⟩:=Ao h0 h1;have e:qL p i=gB p s:=by simp [qL,hg]
 rw [e];obtain rfl:p.aB[i.toNat]'(by omega)=s:=at_eq (by omega) hg;have c2:=Cn (p.aB[i.toNat]'(by omega)).mode;have n0:¬i < 0:=by omega
 have n1:¬(p.aB.length:Int)<=i:=by omega
 refine bR aD func155 ntmps155 ?_;have W:=aA hg (aA h0 (aA h1 (aA n0 n1)));refine wl ?_;all_goals try(refine aR ?_;simp [aG,results155,gB])
theorem Ke [aC prog] (p:aI) (i:Int) (h0:0<=i) (h1:i < p.aN.length) (hl:p.aN.length<=1099511627776):Ok prog 69 [.agg (aJ .view p),.int .i64 i] (.agg (fE (xE p i))):=by
 obtain ⟨s,hg⟩:=Ao h0 h1;have e:xE p i=fF p s:=by simp [xE,hg]
 rw [e];obtain rfl:p.aN[i.toNat]'(by omega)=s:=at_eq (by omega) hg;have c1:=gM i 0 (p.aN.length - 1);rw [show (decide (0<=i)&&decide (i<=(p.aN.length:Int) - 1))=true by simp;omega] at c1;refine bR aD func69 ntmps69 ?_;have W:=aA hg (aA h0 h1);refine wl ?_;all_goals try(refine aR ?_;simp [aG,results69,fF])
theorem xG [aC prog] (p:aI) (i:Int) (h0:0<=i) (h1:i < p.aN.length) (hl:p.aN.length<=1099511627776):Ok prog 84 [.agg (aJ .view p),.int .i64 i] (.agg (fE (xE p i))):=by
 obtain ⟨s,hg⟩:=Ao h0 h1;have e:xE p i=fF p s:=by simp [xE,hg]
 rw [e];obtain rfl:p.aN[i.toNat]'(by omega)=s:=at_eq (by omega) hg;have n0:¬i < 0:=by omega
 have n1:¬(p.aN.length:Int)<=i:=by omega
 refine bR aD func84 ntmps84 ?_;have W:=aA hg (aA h0 (aA h1 (aA n0 n1)));refine wl ?_;all_goals try(refine aR ?_;simp [aG,results84,fF])
end Go.Proofs.YtjmpjmilndkgfaaGreatDoor
set_option maxRecDepth 100000
set_option maxHeartbeats 4000000
namespace Go.Proofs.YtjmpjmilndkgfaaGreatDoor
open Go.Aw Go.Shelf Go.RowKit Go.Lib Proofs.Tryz List IntKind
theorem Xj (w:World) (b off n c i vb voff vc:Nat) (C Cv:Array Value) (e ev:TypeId) (fz XD:Nat×Nat) (olds news:List Value) (hi:i < n) (hroom:n+1<=c)
  (hb:w.heap[b]? =some (.cells C e fz)) (hz:(C.size<=fz.1/\5=1)\/fz.2=0) (hc:bN w b off olds) (hol:olds.length=n * 5) (h1o:∀v∈olds,v.oneCell'=true)
  (hfit:off+c * 5<=C.size) (hmax:c<=maxLen) (hne:vb≠b) (hvb:w.heap[vb]? =some (.cells Cv ev XD)) (hzv:(Cv.size<=XD.1/\5=1)\/XD.2=0) (hcv:bN w vb voff news) (hnl:news.length=5) (NQ:∀v∈news,v.oneCell'=true):
  Calls prog 154 #[.slice (some ⟨b,off,none⟩) n c,.int .i64 i,.slice (some ⟨vb,voff,none⟩) 1 vc] w λed w'=>∃v b' off' cap' C' e' Tj,ed= .returned v/\TI w w' b 5 (n+1) (olds.take (i * 5)++news++olds.drop (i * 5)) v b' off' cap' C' e' Tj:=by
 have hfz:fz.2=0:=by rcases hz with ⟨_,h⟩|h;cases h;exact h
 have aPb:XD.2=0:=by rcases hzv with ⟨_,h⟩|h;cases h;exact h
 have hC5:C.size≠0:=by omega
 have hfr:∀x,w.frozen? ⟨vb,x,none⟩=false:=λx=>by simp [World.frozen?,hvb,aPb]
 have hz2:¬((i:Int)=(n:Int)):=by omega
 have aD5:c<=9223372036854775807:=hmax;have hov:∀o lb cb,(callFunc 205 #[.slice (some ⟨vb,voff,none⟩) 1 vc,.slice (some ⟨b,o,none⟩) lb cb]).run prog w= .ok (.value (.bool false)) w:=λo lb cb=>by
  rw [run_callFunc_extern func205 (by kernel_rfl) (by kernel_rfl) (by kernel_rfl) (e:=Extern.SlicesOverlaps.overlaps #[52,52] #[4]) (by kernel_rfl),
   Lib.run_overlaps_apart w 52 4 112 Tryz.underlying52 5 Tryz.sizeOf112 ⟨vb,voff,none⟩ ⟨b,o,none⟩ 1 vc lb cb hne ev e Cv.size C.size (by simp [World.shape?,hvb]) (by simp [World.shape?,hb]) hC5 (hfr _) (hfr _)]
  rfl
 have O9:(olds.drop (i * 5)).length=(n - i) * 5:=by rw [zE,hol];omega
 have hw1:i64.wrap ((i:Int)+1)=(i:Int)+1:=by rw [AG];omega
 have hw2:i64.wrap ((n:Int)+1)=(n:Int)+1:=by rw [AG];omega
 have mixed:prog.follows .mixedOrders=true:=by kernel_rfl
 have hb1:(0:Int)<=(i:Int)+1:=by omega
 have hin:i<=n:=by omega
 have hb2:¬(c=i+1):=by omega
 have hb3:(i:Int)<=(n:Int)+1:=by omega
 have hb4:¬(c=i):=by omega
 obtain ⟨inf,Io,hsz⟩:=tB.1 (show (prog.info? 112).map (·.size)=some 5 by kernel_rfl);obtain ⟨W1,hW1⟩:∃W1,W1=w.drew.setCells b (off+(i+1) * 5) (olds.drop (i * 5)):=⟨_,rfl⟩;have hWh:W1.heap=(w.setCells b (off+(i+1) * 5) (olds.drop (i * 5))).heap:=by rw [hW1];exact Qv _ _ rfl
 have hWs:nG w W1:=by rw [hW1];exact nG.trans (b:=w.drew) ⟨rfl,rfl,rfl⟩ (kP _ _ _ _)
 have hcp1:∀ty,(Builtin.copy_ #[52,52] ty #[.slice (some ⟨b,off+(i+1) * 5,none⟩) (n - i) (c - (i+1)),.slice (some ⟨b,off+i * 5,none⟩) (n+1 - i) (c - i)]).run prog w.drew= .ok (goInt ((n - i:Nat):Int)) W1:=λty=>by rw [hW1];exact DZ Tryz.underlying52 Io (by simp only [Nat.min_def];split<;>omega) (by rw [O9,hsz]) (show bN w.drew b (off+i * 5) (olds.drop (i * 5)) from hc.drop) hb hz (by rw [O9];omega) (λv hv=>h1o v (AK hv))
 obtain ⟨C1,YJ,JJ⟩:=jL b e fz (olds.drop (i * 5)) (off+(i+1) * 5) w C hb;rw [<-hWh] at YJ;have hcp2:∀ty,(Builtin.copy_ #[52,52] ty #[.slice (some ⟨b,off+i * 5,none⟩) (n+1 - i) (c - i),.slice (some ⟨vb,voff,none⟩) 1 vc]).run prog W1= .ok (goInt ((1:Nat):Int)) (W1.setCells b (off+i * 5) news):=λty=>
  DZ Tryz.underlying52 Io (by simp only [Nat.min_def];split<;>omega) (by rw [hnl,hsz]) (bN.heap (uN hcv (λh=>absurd h hne)) hWh) YJ (by rw [JJ];exact hz) (by rw [JJ];omega) NQ
 have fin:∃v b' off' cap' C' e' Tj,Ending.returned (.slice (some ⟨b,off,none⟩) (n+1) c)= .returned v/\TI w (W1.setCells b (off+i * 5) news) b 5 (n+1) (olds.take (i * 5)++news++olds.drop (i * 5)) v b' off' cap' C' e' Tj:=by obtain ⟨C',h⟩:=jr (k:=5) (c:=c) hb hz hc hol hnl hi hroom hfit hmax hWh hWs;exact ⟨_,_,_,_,_,_,_,rfl,h⟩
 go_enter func154,ntmps154
 go_wp2_with (simp only [hov])
 clear hb hz hc hol h1o hfit hmax hvb hzv hcv hnl NQ hfz aPb hC5 hfr hov O9 Io hsz hW1 hWh hWs YJ JJ
 go_region_law_o (refine step_copy_runI rfl _ _ 52 52 rfl (.slice (some ⟨b,off+(i+1) * 5,none⟩) (n - i) (c - (i+1))) (.slice (some ⟨b,off+i * 5,none⟩) (n+1 - i) (c - i)) (by simp [Act.eval,Act.put]) (by simp [Act.eval,Act.put]) (hcp1 _) ?_)
 go_wp2_with (at_builtin;refine wpList_copy_runI _ rfl _ _ 52 52 rfl _ _ rfl rfl (hcp2 _) ?_)
 go_ret
 exact fin
theorem ZE (w:World) (b off n c i vb voff vc:Nat) (C Cv:Array Value) (e ev:TypeId) (fz XD:Nat×Nat) (olds news:List Value) (hi:i < n) (hroom:c < n+1) (hn:n<=1099511627776)
  (hb:w.heap[b]? =some (.cells C e fz)) (hz:(C.size<=fz.1/\5=1)\/fz.2=0) (hc:bN w b off olds) (hol:olds.length=n * 5) (h1o:∀v∈olds,v.oneCell'=true)
  (hfit:off+c * 5<=C.size) (hnc:n<=c) (hmax:c<=maxLen) (hne:vb≠b) (hvb:w.heap[vb]? =some (.cells Cv ev XD)) (hzv:(Cv.size<=XD.1/\5=1)\/XD.2=0) (hcv:bN w vb voff news) (hnl:news.length=5) (NQ:∀v∈news,v.oneCell'=true):
  Calls prog 154 #[.slice (some ⟨b,off,none⟩) n c,.int .i64 i,.slice (some ⟨vb,voff,none⟩) 1 vc] w λed w'=>∃v b' off' cap' C' e' Tj,ed= .returned v/\TI w w' b 5 (n+1) (olds.take (i * 5)++news++olds.drop (i * 5)) v b' off' cap' C' e' Tj:=by
 have hz2:¬((i:Int)=(n:Int)):=by omega
 have hz3:(c:Int) < (n:Int)+1:=by omega
 have hw1:i64.wrap ((i:Int)+1)=(i:Int)+1:=by rw [AG];omega
 have hw2:i64.wrap ((n:Int)+1)=(n:Int)+1:=by rw [AG];omega
 have hw3:i64.wrap ((n:Int)+1 - (i:Int))=(n:Int)+1 - (i:Int):=by rw [AG];omega
 have mixed:prog.follows .mixedOrders=true:=by kernel_rfl
 have hb1:(0:Int)<=(i:Int)+1:=by omega
 have hin:i<=n:=by omega
 have hic:i<=c:=by omega
 have hb3:(i:Int)<=(n:Int)+1:=by omega
 have hb4:¬(c=i):=by omega
 have hlt:∀{x:Nat} {q},w.heap[x]? =some q->x < w.heap.size:=λh=>(tD.1 h).1
 have O9:(olds.drop (i * 5)).length=(n - i) * 5:=by rw [zE,hol];omega
 have htl:(olds.take (i * 5)).length=i * 5:=by rw [oT,hol];omega
 obtain ⟨inf,Io,hq⟩:=tB.1 (show (prog.info? 112).map (λi=>(i.size,i.bytes))=some (5,64) by kernel_rfl);obtain ⟨hsz,hby⟩:=Prod.mk.inj hq;obtain ⟨z,hz0,hzc⟩:∃z,inf.zero=some z/\z.cells.size=5:=by
  have h:=Tryz.zsz112;simp only [bT,Io] at h;cases hz:inf.zero with
  |none=>simp [hz] at h
  |some z=>exact ⟨z,rfl,by simpa [hz] using h⟩
 obtain ⟨G,hG⟩:∃G,G=grownCap w (n+1) c 112:=⟨_,rfl⟩;have hGn:n+1<=G:=by rw [hG];exact grownCap_ge _ _ _ _
 have hGm:G<=maxLen:=by rw [hG];exact DB _ _ _ _ (by simp [maxLen];omega)
 have hG63:G<=9223372036854775807:=hGm;obtain ⟨ROW,hROW⟩:∃ROW:Array Value,ROW=(olds.take (i * 5)).toArray++Builtin.zeroCells z.cells (n+1 - i)++Builtin.zeroCells z.cells (G - (n+1)):=⟨_,rfl⟩;have hRs:ROW.size=G * 5:=by rw [hROW];simp only [Array.size_append,size_toArray,size_zeroCells,hzc,htl,<-pP];congr 1;omega
 have hR:∀(j:Nat) (v:Value),(olds.take (i * 5))[j]? =some v->ROW[j]? =some v:=λj v hv=>by rw [hROW,Array.append_assoc,tA (by simpa using (cH.1 hv).1)];simpa using hv
 obtain ⟨W1,hW1⟩:∃W1,W1=w.drew.alloc (.cells ROW 112):=⟨_,rfl⟩;have hrz:∀ty,(Builtin.append_ #[52,3] ty #[.slice (some ⟨b,off,none⟩) i c,.int .i64 ((n:Int)+1 - (i:Int))]).run prog w= .ok (.slice (some ⟨w.heap.size,0,none⟩) (n+1) G) W1:=λty=>by
  have h:=Lib.run_append_grow_zeros w 52 3 ty 112 inf z .i64 .i64 Tryz.underlying52 Tryz.underlying3 Io hz0 (some ⟨b,off,none⟩) i c (olds.take (i * 5))
   (by rw [hsz];exact kQ htl (show bN w.drew b off (olds.take (i * 5)) from hc.take)) (n+1 - i) (by omega) (by omega) (by omega) (by omega) (by rw [hby];omega) (by rw [hby,show i+(n+1 - i)=n+1 by omega];exact growslice_fits hroom (by omega))
  rw [show i+(n+1 - i)=n+1 by omega,<-hG,<-hROW,<-hW1] at h;rw [show (n:Int)+1 - (i:Int)=((n+1 - i:Nat):Int) by omega];exact h
 have hN:W1.heap[w.heap.size]? =some (.cells ROW 112 (0,0)):=by rw [hW1];exact fV w.drew _
 have hO:∀x,x < w.heap.size->W1.heap[x]? =w.heap[x]?:=λx hx=>by rw [hW1];exact heap_alloc w.drew _ x hx
 have hs1:nG w W1:=by rw [hW1];exact ⟨rfl,rfl,rfl⟩
 obtain ⟨W2,hW2⟩:∃W2,W2=W1.setCells w.heap.size (i * 5) news:=⟨_,rfl⟩;have hs2:nG W1 W2.drew:=by rw [hW2];exact (kP _ _ _ _).trans ⟨rfl,rfl,rfl⟩
 have hcp1:∀ty,(Builtin.copy_ #[52,52] ty #[.slice (some ⟨w.heap.size,i * 5,none⟩) (n+1 - i) (G - i),.slice (some ⟨vb,voff,none⟩) 1 vc]).run prog W1= .ok (goInt ((1:Nat):Int)) W2:=λty=>by rw [hW2];exact DZ Tryz.underlying52 Io (by simp only [Nat.min_def];split<;>omega) (by rw [hnl,hsz]) (hcv.same (hO _ (hlt hvb))) hN (q:=True) (.inr rfl) (by omega) NQ
 obtain ⟨C1,YJ,JJ⟩:=jL w.heap.size 112 (0,0) news (i * 5) W1 ROW hN;rw [<-hW2] at YJ;have hcp2:∀ty,(Builtin.copy_ #[52,52] ty #[.slice (some ⟨w.heap.size,(i+1) * 5,none⟩) (n - i) (G - (i+1)),.slice (some ⟨b,off+i * 5,none⟩) (n - i) (c - i)]).run prog W2.drew= .ok (goInt ((n - i:Nat):Int)) (W2.drew.setCells w.heap.size ((i+1) * 5) (olds.drop (i * 5))):=λty=>
  DZ (w:=W2.drew) Tryz.underlying52 Io (by simp only [Nat.min_def];split<;>omega) (by rw [O9,hsz]) (show bN W2.drew b (off+i * 5) (olds.drop (i * 5)) from by
   refine bN.heap (w:=W2) ?_ rfl;rw [hW2];exact uN (hc.drop.same (hO _ (hlt hb))) (λh=>absurd h (by have:=hlt hb;omega))) (show W2.drew.heap[w.heap.size]? =_ from YJ) (q:=True) (.inr rfl) (by rw [JJ];omega) (λv hv=>h1o v (AK hv))
 have fin:∃v b' off' cap' C' e' Tj,Ending.returned (.slice (some ⟨w.heap.size,0,none⟩) (n+1) G)= .returned v/\TI w (W2.drew.setCells w.heap.size ((i+1) * 5) (olds.drop (i * 5))) b 5 (n+1) (olds.take (i * 5)++news++olds.drop (i * 5)) v b' off' cap' C' e' Tj:=by obtain ⟨C',h⟩:=G7 (k:=5) (b:=b) (cap:=G) hol hnl hi hR (by omega) hGn hGm hN hO hs1 (show W2.drew.heap=_ by rw [hW2];rfl) hs2;exact ⟨_,_,_,_,_,_,_,rfl,h⟩
 have hG4:¬(G=i):=by omega
 have hG5:¬(G=i+1):=by omega
 clear hb hz hc hol h1o hfit hmax hvb hzv hcv hnl NQ O9 htl Io hq hsz hby hz0 hzc hG hROW hRs hR hW1 hN hO hs1 hW2 hs2 YJ JJ hlt
 go_enter func154,ntmps154
 go_wp2_with (first
  |(at_builtin;refine Lib.wpList_append_run _ rfl _ _ _ _ rfl _ _ rfl rfl _ _ (hrz _) ?_)
  |(at_builtin;refine wpList_copy_runI _ rfl _ _ 52 52 rfl _ _ rfl rfl (hcp1 _) ?_))
 go_region_law_o (refine step_copy_runI rfl _ _ 52 52 rfl (.slice (some ⟨w.heap.size,(i+1) * 5,none⟩) (n - i) (G - (i+1))) (.slice (some ⟨b,off+i * 5,none⟩) (n - i) (c - i)) (by simp [Act.eval,Act.put]) (by simp [Act.eval,Act.put]) (hcp2 _) ?_)
 go_wp2
 go_ret
 exact fin
theorem Hd (w:World) (base:Option Addr) (n c vb voff vc:Nat) (v':Value) (w':World) (Q:Ending->World->Prop) (hnc:n<=c) (hmax:c<=9223372036854775807) (hnil:base=none->n=0)
  (hrun:∀ty,(Builtin.append_ #[52,52] ty #[.slice base n c,.slice (some ⟨vb,voff,none⟩) 1 vc]).run prog w= .ok v' w') (fin:Q (.returned v') w'):
  Calls prog 154 #[.slice base n c,.int .i64 n,.slice (some ⟨vb,voff,none⟩) 1 vc] w Q:=by
 have mixed:prog.follows .mixedOrders=true:=by kernel_rfl
 go_enter func154,ntmps154
 cases base with
 |none=>
  have h0:=hnil rfl;subst h0
  go_wp2_with (at_builtin;refine Lib.wpList_append_run _ rfl _ _ _ _ rfl _ _ rfl rfl _ _ (hrun _) ?_)
  exact fin
 |some a=>
  obtain ⟨ab,ao,asp⟩:=a
  go_wp2_with (at_builtin;refine Lib.wpList_append_run _ rfl _ _ _ _ rfl _ _ rfl rfl _ _ (hrun _) ?_)
  all_goals exact fin
end Go.Proofs.YtjmpjmilndkgfaaGreatDoor
set_option maxRecDepth 4000
set_option maxHeartbeats 4000000
namespace Go.Proofs.YtjmpjmilndkgfaaGreatDoor
open Go.Aw Proofs.Tryz List IntKind
set_option maxRecDepth 100000
theorem Q0 [aC prog] (l:List dB) (m:dB) (i:Nat) (hi:i < l.length) (hn:l.length<=1099511627776):Lf prog 154 [.nX (.sl .own 5 (l.map bU)),.view (.int .i64 i),.nX (.sl .own 5 [bU m])] (.sl .own 5 ((l.take i++m::l.drop i).map bU)):=by
 have h:=aG8 (P:=prog) (f:=154) (n:=l.length) (i:=i) (k:=5) (l:=l.map bU) (x:=bU m) (by simp) hi (by simp [all_map,Ey]) (by simp [Ey])
  (λw b off c C e fz olds news vb voff vc Cv ev XD hb hz hc hol h1o hfit hnc hmax hne hvb hzv hcv hnl NQ=>by
   by_cases hr:l.length+1<=c
   .exact Xj w b off l.length c i vb voff vc C Cv e ev fz XD olds news hi hr hb hz hc hol h1o hfit hmax hne hvb hzv hcv hnl NQ
   .exact ZE w b off l.length c i vb voff vc C Cv e ev fz XD olds news hi (by omega) hn hb hz hc hol h1o hfit hnc hmax hne hvb hzv hcv hnl NQ)
 rw [<-map_take,<-map_drop,rL] at h;simpa using h
theorem qh [aC prog] (l:List dB) (m:dB) (hn:l.length<=1099511627776):Lf prog 154 [.nX (.sl .own 5 (l.map bU)),.view (.int .i64 l.length),.nX (.sl .own 5 [bU m])] (.sl .own 5 ((l++[m]).map bU)):=by
 have h:=YL (P:=prog) (f:=154) (n:=l.length) (k:=5) (l:=l.map bU) (x:=bU m) (by simp) (by simp [all_map,Ey]) (by simp [Ey])
  (λw base bb c olds news vb voff vc hol hnc hmax hcv hnl NQ hor=>by
   obtain ⟨inf,Io,hq⟩:=tB.1 (show (prog.info? 112).map (λi=>(i.size,i.bytes))=some (5,64) by kernel_rfl);obtain ⟨hsz,hby⟩:=Prod.mk.inj hq;obtain ⟨z,hz0,hzc⟩:=zA Tryz.zsz112 Io;have aD5:c<=9223372036854775807:=hmax;have holds:∀w',w'.heap=w.heap->(Builtin.firstCells inf.size l.length (.slice base l.length c)).run prog w'= .ok olds.toArray w':=by
    intro w' uq;rcases hor with ⟨h0,h1⟩|⟨off,C,e,fz,rfl,hb,hz,hc,hfit⟩
    .rw [h0] at hol⊢;obtain rfl:=lE (by simpa using hol);cases base with
     |none=>simp [Builtin.firstCells]
     |some a'=>simp [Builtin.firstCells,loadCells,loadCellsFrom]
    .rw [hsz];exact kQ hol (hc.heap uq)
   obtain ⟨hroom,aAi⟩:=Hw (P:=prog) (w:=w) (tS:=52) (xT:=52) (ty:=52) Tryz.underlying52 ⟨_,Tryz.underlying52,λk h=>by cases h⟩ Io hz0 (base:=base) (sLen:=l.length) (sCap:=c) (n:=1) (x:= .slice (some ⟨vb,voff,none⟩) 1 vc)
    (by simp [Builtin.lenOf]) (news:=news) (olds:=olds) (λw' uq=>by rw [hsz];exact kQ (by omega) (hcv.heap uq)) holds (by rw [hby];omega) (by omega)
   by_cases hr:l.length+1<=c
   .rcases hor with ⟨h0,h1⟩|⟨off,C,e,fz,rfl,hb,hz,hc,hfit⟩
    .omega
    .have hst:=sG (P:=prog) (off:=off+l.length * 5) hb hz (by rw [hnl];have:=kO 5 hr;omega) NQ;have hrun:=hroom hr _ (by rw [hsz];simpa [addr_add] using hst);obtain ⟨C',hI⟩:=WJ (k:=5) hb hz hc hol hnl hr hfit hmax;exact Hd w _ l.length c vb voff vc _ _ _ hnc aD5 (λh=>by cases h) (λty=>hrun) ⟨_,_,_,_,_,_,_,rfl,hI⟩
   .have hrun:=aAi (by omega);have hgc:=grownCap_ge w (l.length+1) c 112;have hgm:grownCap w (l.length+1) c 112<=maxLen:=DB _ _ _ _ (by simp [maxLen];omega);obtain ⟨C',hI⟩:=WK (w:=w) (b:=bb) (n:=l.length) (k:=5) (cap:=grownCap w (l.length+1) c 112) (e:=112) (olds:=olds) (news:=news) (ROW:=olds.toArray++news.toArray++Builtin.zeroCells z.cells (grownCap w (l.length+1) c 112 - (l.length+1)))
     (λj v hv=>by
      rw [show olds.toArray++news.toArray=(olds++news).toArray by simp,tA (by simpa using (cH.1 hv).1)];simpa using hv)
     (by simp only [Array.size_append,size_toArray,size_zeroCells,hzc,hol,hnl];omega) hgc hgm
    exact Hd w _ l.length c vb voff vc _ _ _ hnc aD5 (λh=>by
     subst h;rcases hor with ⟨h0,h1⟩|⟨off,C,e,fz,h,_⟩
     .exact h0
     .cases h) (λty=>hrun) ⟨_,_,_,_,_,_,_,rfl,hI⟩)
 simpa using h
theorem VF [aC prog] (l:List dB) (m:dB) (i:Nat) (hi:i<=l.length) (hn:l.length<=1099511627776):Lf prog 154 [.nX (.sl .own 5 (l.map bU)),.view (.int .i64 i),.nX (.sl .own 5 [bU m])] (.sl .own 5 ((l.take i++m::l.drop i).map bU)):=by
 by_cases h:i < l.length
 .exact Q0 l m i h hn
 .obtain rfl:i=l.length:=by omega
  simpa using qh l m hn
end Go.Proofs.YtjmpjmilndkgfaaGreatDoor
