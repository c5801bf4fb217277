/-
  Proved here: what an insertion into a slice leaves in memory, and its contract.
  No condition beyond what each statement spells out.
-/
import Derived.Test.YtajppdidkjbmkaaGreatDoorF1
import Derived.Test.YtajppdidkjbmkaaGreatDoorF8
import Derived.Lib.Overlaps
import Derived.Lib.AppendZerosOnto
set_option linter.all false
namespace Go.Aw
theorem vF {P:Program} {w:World} {dT sT ty elem:TypeId} {i:TypeInfo} {b o dLen dCap b2 o2 sLen sCap n:Nat} {C:Array Value} {e:TypeId} {fz:Nat×Nat} {cs:List Value} {q:Prop}
  (hu:P.underlying dT=some (.slice elem)) (hi:P.info? elem=some i) (hm:Nat.min sLen dLen=n) (hn:cs.length=n * i.size)
  (hsrc:aT w b2 o2 cs) (hb:w.heap[b]? =some (.cells C e fz)) (hz:(C.size≤fz.1∧q)∨fz.2=0) (hfit:o+cs.length≤C.size) (h1:∀v∈cs,v.oneCell'=true):
  (Builtin.copy_ #[dT,sT] ty #[.slice (some ⟨b,o,none⟩) dLen dCap,.slice (some ⟨b2,o2,none⟩) sLen sCap]).run P w= .ok (goInt n) (w.setCells b o cs):=by
 have hl:=iW (P:=P) (w:=w) (len:=sLen) (cap:=sCap) hn hsrc
 have hst:=lU (P:=P) hb hz hfit h1
 simp [Builtin.copy_,run_underlying hu,Builtin.lenOf,sizeOf,typeInfo,hi,hm,hl,hst]
theorem wB {w:World} {b o:Nat} {C:Array Value} {e:TypeId} {fz:Nat×Nat} {cs:List Value} (hb:w.heap[b]? =some (.cells C e fz)) (hfit:o+cs.length≤C.size):aT (w.setCells b o cs) b o cs:=by
 intro j v hv
 have hj:j < cs.length:=(List.getElem?_eq_some_iff.1 hv).1
 have:=World.cell?_setCells_in b cs o w (fun j hj=>by
  have:o+j < C.size:=by omega
  simp [World.cell?,hb,this]) j hj
 rw [this]
 rw [List.getElem?_eq_getElem hj] at hv
 exact hv
theorem lX {w:World} {b o b2 p:Nat} {cs ds:List Value} (h:aT w b2 p ds) (ho:b2=b→p+ds.length≤o∨o+cs.length≤p):aT (w.setCells b o cs) b2 p ds:=by
 intro j v hv
 have hj:j < ds.length:=(List.getElem?_eq_some_iff.1 hv).1
 rw [World.cell?_setCells_out]
 ·exact h j v hv
 ·intro h1 _
  have:=ho h1
  simp only
  omega
structure xX (w w' : World) (b k n : Nat) (cs : List Value) (v : Value) (b' off' cap' : Nat) (C' : Array Value) (e' : TypeId) (fz' : Nat × Nat) : Prop where
  ret : v = .slice (some ⟨b', off', none⟩) n cap'
  blk : w'.heap[b']? = some (.cells C' e' fz')
  hz : (C'.size ≤ fz'.1 ∧ k = 1) ∨ fz'.2 = 0
  fit : off' + cap' * k ≤ C'.size
  len : n ≤ cap'
  max : cap' ≤ maxLen
  at' : aT w' b' off' cs
  new : b' = b ∨ w.heap.size ≤ b'
  lt : b' < w'.heap.size
  size : w.heap.size ≤ w'.heap.size
  frame : ∀ x, x < w.heap.size → x ≠ b → w'.heap[x]? = w.heap[x]?
  same : Same w w'
theorem aEz {b:Nat}:∀(vs:List Value) (o:Nat) {w w0:World},w0.heap=w.heap→(w0.setCells b o vs).heap=(w.setCells b o vs).heap
 |[],_,_,_,h=>h
 |v::r,o,w,w0,h=>by
  rw [World.setCells,World.setCells]
  exact aEz r (o+1) (by simp [World.setCell,h])
theorem aP2 {w W1:World} {b off n c i k:Nat} {C:Array Value} {e:TypeId} {fz:Nat×Nat} {olds news:List Value} (hb:w.heap[b]? =some (.cells C e fz)) (hz:(C.size≤fz.1∧k=1)∨fz.2=0)
  (hc:aT w b off olds) (hol:olds.length=n * k) (hnl:news.length=k) (hi:i < n) (hroom:n+1≤c) (hfit:off+c * k≤C.size) (hmax:c≤maxLen)
  (hW:W1.heap=(w.setCells b (off+(i+1) * k) (olds.drop (i * k))).heap) (hs:Same w W1):
  ∃C',xX w (W1.setCells b (off+i * k) news) b k (n+1) (olds.take (i * k)++news++olds.drop (i * k)) (.slice (some ⟨b,off,none⟩) (n+1) c) b off c C' e fz:=by
 have hik:i * k+k≤n * k:=by rw [←Nat.succ_mul];exact Nat.mul_le_mul_right k hi
 have hnk:(n+1) * k≤c * k:=Nat.mul_le_mul_right k hroom
 have hnk1:(n+1) * k=n * k+k:=Nat.succ_mul n k
 have hik1:(i+1) * k=i * k+k:=Nat.succ_mul i k
 have hdl:(olds.drop (i * k)).length=n * k - i * k:=by rw [List.length_drop,hol]
 have htl:(olds.take (i * k)).length=i * k:=by rw [List.length_take,hol];omega
 obtain ⟨C1,hC1,hCs1⟩:=fA b e fz (olds.drop (i * k)) (off+(i+1) * k) w C hb
 rw [←hW] at hC1
 obtain ⟨C2,hC2,hCs2⟩:=fA b e fz news (off+i * k) _ C1 hC1
 have hlt:b < w.heap.size:=(Array.getElem?_eq_some_iff.1 hb).1
 have hsz:W1.heap.size=w.heap.size:=by rw [hW,size_setCells]
 refine ⟨C2,rfl,hC2,by rw [hCs2,hCs1];exact hz,by rw [hCs2,hCs1];exact hfit,hroom,hmax,?_,.inl rfl,by rw [size_setCells,hsz];exact hlt,by rw [size_setCells,hsz];exact Nat.le_refl _,?_,hs.trans (jD _ _ _ _)⟩
 ·refine aT.append.2 ⟨aT.append.2 ⟨?_,?_⟩,?_⟩
  ·refine lX ((lX hc.take fun _=> ?_:aT (w.setCells b (off+(i+1) * k) (olds.drop (i * k))) b off (olds.take (i * k))).heap hW) fun _=> ?_
   ·rw [htl];left;omega
   ·rw [htl];left;omega
  ·rw [htl]
   exact wB hC1 (by omega)
  ·rw [List.length_append,htl,hnl,show off+(i * k+k)=off+(i+1) * k by omega]
   refine lX ((wB hb (by omega):aT (w.setCells b (off+(i+1) * k) (olds.drop (i * k))) b (off+(i+1) * k) (olds.drop (i * k))).heap hW) fun _=> ?_
   right;omega
 ·intro x hx hne
  rw [iO b x hne,hW,iO b x hne]
theorem aQy {w W1 W2:World} {b n i k cap:Nat} {ROW:Array Value} {e:TypeId} {olds news:List Value} (hol:olds.length=n * k) (hnl:news.length=k) (hi:i < n)
  (hR:∀(j:Nat) (v:Value),(olds.take (i * k))[j]? =some v→ROW[j]? =some v) (hRs:cap * k≤ROW.size) (hcap:n+1≤cap) (hmax:cap≤maxLen)
  (hN:W1.heap[w.heap.size]? =some (.cells ROW e (0,0))) (hO:∀x,x < w.heap.size→W1.heap[x]? =w.heap[x]?) (hs1:Same w W1)
  (hW:W2.heap=(W1.setCells w.heap.size (i * k) news).heap) (hs2:Same W1 W2):
  ∃C',xX w (W2.setCells w.heap.size ((i+1) * k) (olds.drop (i * k))) b k (n+1) (olds.take (i * k)++news++olds.drop (i * k)) (.slice (some ⟨w.heap.size,0,none⟩) (n+1) cap) w.heap.size 0 cap C' e (0,0):=by
 have hik:i * k+k≤n * k:=by rw [←Nat.succ_mul];exact Nat.mul_le_mul_right k hi
 have hnk:(n+1) * k≤cap * k:=Nat.mul_le_mul_right k hcap
 have hnk1:(n+1) * k=n * k+k:=Nat.succ_mul n k
 have hik1:(i+1) * k=i * k+k:=Nat.succ_mul i k
 have hdl:(olds.drop (i * k)).length=n * k - i * k:=by rw [List.length_drop,hol]
 have htl:(olds.take (i * k)).length=i * k:=by rw [List.length_take,hol];omega
 obtain ⟨C1,hC1,hCs1⟩:=fA w.heap.size e (0,0) news (i * k) W1 ROW hN
 rw [←hW] at hC1
 obtain ⟨C2,hC2,hCs2⟩:=fA w.heap.size e (0,0) (olds.drop (i * k)) ((i+1) * k) W2 C1 hC1
 have hlt:w.heap.size < W1.heap.size:=(Array.getElem?_eq_some_iff.1 hN).1
 have hsz:W2.heap.size=W1.heap.size:=by rw [hW,size_setCells]
 have hc0:aT W1 w.heap.size 0 (olds.take (i * k)):=by
  refine lN hN ?_
  intro j v hv
  rw [Nat.zero_add]
  exact hR j v hv
 refine ⟨C2,rfl,hC2,.inr rfl,by rw [hCs2,hCs1];omega,hcap,hmax,?_,.inr (Nat.le_refl _),by rw [size_setCells,hsz];exact hlt,by rw [size_setCells,hsz];omega,?_,hs1.trans (hs2.trans (jD _ _ _ _))⟩
 ·refine aT.append.2 ⟨aT.append.2 ⟨?_,?_⟩,?_⟩
  ·refine lX ((lX hc0 fun _=> ?_:aT (W1.setCells w.heap.size (i * k) news) w.heap.size 0 (olds.take (i * k))).heap hW) fun _=> ?_
   ·rw [htl];left;omega
   ·rw [htl];left;omega
  ·rw [htl,Nat.zero_add]
   refine lX ((wB hN (by omega):aT (W1.setCells w.heap.size (i * k) news) w.heap.size (i * k) news).heap hW) fun _=> ?_
   left;omega
  ·rw [List.length_append,htl,hnl,Nat.zero_add,show i * k+k=(i+1) * k by omega]
   exact wB hC1 (by omega)
 ·intro x hx hne
  have hx':x≠w.heap.size:=by omega
  rw [iO _ x hx',hW,iO _ x hx',hO x hx]
def pR:AV→Bool
 | .int _ _=>true
 | .bool _=>true
 | .str _=>true
 |_=>false
theorem aX8 {w w':World} {E E':Env} {x:AV} {v:Value} {fp:List Nat} (h:pR x=true) (hr:R w E x v fp):fp=[]∧R w' E' x v []:=by
 cases x<;>simp_all [pR,R]
theorem aN8 {w w':World} {E E':Env}:∀{c:List AV} {cs:List Value} {fp:List Nat},c.all pR=true→Rc w E c cs fp→fp=[]∧Rc w' E' c cs []
 |[],[],_,_,h=>⟨by simpa [Rc] using h,by simp [Rc]⟩
 |[],_::_,_,_,h=>by simp [Rc] at h
 |_::_,[],_,_,h=>by simp [Rc] at h
 |x::xs,v::vs,fp,hf,h=>by
  simp only [List.all_cons,Bool.and_eq_true] at hf
  simp only [Rc] at h⊢
  obtain ⟨f1,f2,h1,h2,rfl⟩:=h
  obtain ⟨rfl,h3⟩:=aX8 (w':=w') (E':=E') hf.1 h1
  obtain ⟨rfl,h4⟩:=aN8 (w':=w') (E':=E') hf.2 h2
  exact ⟨rfl,[],[],h3,h4,rfl⟩
theorem yN {w w':World} {E E':Env} {n:Nat}:∀{l:List (List AV)} {vs:List Value} {fp:List Nat},(l.all fun c=>c.all pR)=true→Rv w E l vs n fp→fp=[]∧Rv w' E' l vs n []
 |[],_,_,_,h=>by simp only [Rv] at h⊢;exact ⟨h.2,by simp [h.1]⟩
 |c::l,vs,fp,hf,h=>by
  simp only [List.all_cons,Bool.and_eq_true] at hf
  simp only [Rv] at h⊢
  obtain ⟨cs,rest,f1,f2,rfl,hn,ho,h1,h2,rfl⟩:=h
  obtain ⟨rfl,h3⟩:=aN8 (w':=w') (E':=E') hf.1 h1
  obtain ⟨rfl,h4⟩:=yN (w':=w') (E':=E') hf.2 h2
  exact ⟨rfl,cs,rest,[],[],rfl,hn,ho,h3,h4,rfl⟩
theorem aJ4 {w:World} {E:Env} {n:Nat}:∀(i:Nat) {l:List (List AV)} {vs:List Value},Rv w E l vs n []→Rv w E (l.take i) (vs.take (i * n)) n []∧Rv w E (l.drop i) (vs.drop (i * n)) n []
 |0,l,vs,h=>by simp [Rv,h]
 |i+1,[],vs,h=>by
  simp only [Rv] at h
  obtain ⟨rfl,_⟩:=h
  simp [Rv]
 |i+1,c::l,vs,h=>by
  simp only [Rv] at h
  obtain ⟨cs,rest,f1,f2,rfl,hn,ho,h1,h2,hf⟩:=h
  obtain ⟨rfl,rfl⟩:=List.append_eq_nil_iff.1 hf.symm
  obtain ⟨h3,h4⟩:=aJ4 i h2
  have e:(i+1) * n=cs.length+i * n:=by rw [Nat.succ_mul,hn];omega
  simp only [List.take_succ_cons,List.drop_succ_cons,e,List.take_length_add_append,List.drop_length_add_append,Rv]
  exact ⟨⟨cs,_,[],[],rfl,hn,ho,h1,h3,rfl⟩,h4⟩
theorem sK {w:World} {O:Nat→Prop} {x:GA} {xs:List GA}:∀{vs:List Value} {fss:List (List Nat)} {caps:List Nat},RGs w O (x::xs) vs fss caps→
  ∃v vs' f fs k ks,vs=v::vs'∧fss=f::fs∧caps=k::ks∧RG w O x v f k∧RGs w O xs vs' fs ks
 |[],_,_,h=>by simp [RGs] at h
 |_::_,[],_,h=>by simp [RGs] at h
 |_::_,_::_,[],h=>by simp [RGs] at h
 |v::vs,f::fs,k::ks,h=>by
  simp only [RGs] at h
  exact ⟨v,vs,f,fs,k,ks,rfl,rfl,rfl,h.1,h.2⟩
theorem aN0 {w:World} {O:Nat→Prop}:∀{vs:List Value} {fss:List (List Nat)} {caps:List Nat},RGs w O [] vs fss caps→vs=[]∧fss=[]∧caps=[]
 |[],[],[],_=>⟨rfl,rfl,rfl⟩
 |_::_,_,_,h=>by simp [RGs] at h
 |[],_::_,_,h=>by simp [RGs] at h
 |[],[],_::_,h=>by simp [RGs] at h
theorem aV4 {P:Program} [aB P] {f:FuncId} {n i k:Nat} {l:List (List AV)} {x:List AV} (hl:l.length=n) (hi:i < n) (hfl:(l.all fun c=>c.all pR)=true) (hfx:x.all pR=true)
  (H:∀(w:World) (b off c:Nat) (C:Array Value) (e:TypeId) (fz:Nat×Nat) (olds news:List Value) (vb voff vc:Nat) (Cv:Array Value) (ev:TypeId) (fzv:Nat×Nat),w.heap[b]? =some (.cells C e fz)→((C.size≤fz.1∧k=1)∨fz.2=0)→aT w b off olds→olds.length=n * k→(∀v∈olds,v.oneCell'=true)→
   off+c * k≤C.size→n≤c→c≤maxLen→vb≠b→w.heap[vb]? =some (.cells Cv ev fzv)→((Cv.size≤fzv.1∧k=1)∨fzv.2=0)→aT w vb voff news→news.length=k→(∀v∈news,v.oneCell'=true)→
   Calls P f #[.slice (some ⟨b,off,none⟩) n c,.int .i64 i,.slice (some ⟨vb,voff,none⟩) 1 vc] w fun ed w'=>∃v b' off' cap' C' e' fz',ed= .returned v∧xX w w' b k (n+1) (olds.take (i * k)++news++olds.drop (i * k)) v b' off' cap' C' e' fz'):
  OkG P f [.give (.sl .own k l),.view (.int .i64 i),.give (.sl .own k [x])] (.sl .own k (l.take i++[x]++l.drop i)):=by
 intro w vs fss caps hh hlow hnd hr
 obtain ⟨v1,vs,f1,fss,k1,caps,rfl,rfl,rfl,h1,hr⟩:=sK hr
 obtain ⟨v2,vs,f2,fss,k2,caps,rfl,rfl,rfl,h2,hr⟩:=sK hr
 obtain ⟨v3,vs,f3,fss,k3,caps,rfl,rfl,rfl,h3,hr⟩:=sK hr
 obtain ⟨rfl,rfl,rfl⟩:=aN0 hr
 simp only [RG] at h1 h2 h3
 obtain ⟨rfl,h2⟩:=h2
 obtain ⟨a,cap,rfl,hlm,ho⟩:=iP.1 h1
 simp only [R] at h2
 obtain ⟨rfl,_⟩:=h2
 rcases ho with ⟨h0,_⟩|⟨b,off,C,e,fz,fps,rfl,hb,hz,hfit,hlc,hmax,rfl,hrr⟩
 ·subst h0;simp at hl;omega
 obtain ⟨a3,cap3,rfl,_,h3⟩:=iP.1 h3
 rcases h3 with ⟨h0,_⟩|⟨vb,voff,Cv,ev,fzv,fps3,rfl,hb3,hz3,_,_,_,rfl,hr3⟩
 ·cases h0
 obtain ⟨olds,hv,hc⟩:=jQ.1 hrr
 obtain ⟨news,hv3,hc3⟩:=jQ.1 hr3
 have hol:=fO hv
 have hnl:=fO hv3
 have hne:vb≠b:=fun h=>by
  subst h
  simp at hnd
 rw [hl] at hol
 have:=H w b off cap C e fz olds news vb voff cap3 Cv ev fzv hb hz hc hol (aBz hv) hfit (by rw [←hl];exact hlc) hmax hne hb3 hz3 hc3 (by simpa using hnl) (aBz hv3)
 rw [hl]
 refine this.mono fun ed w' h=> ?_
 obtain ⟨v,b',off',cap',C',e',fz',he,hI⟩:=h
 have hq:=(yN (w':=w') (E':=(gI).plain) hfl hv).2
 have hq3:=(yN (w':=w') (E':=(gI).plain) (by simp [hfx]) hv3).2
 obtain ⟨q1,q2⟩:=aJ4 i hq
 have q4:=qO q2 (qO hq3 q1)
 have hlen:(l.take i++[x]++l.drop i).length=n+1:=by simp;omega
 have hml:n+1≤maxLen:=Nat.le_trans hI.len hI.max
 refine ⟨v,[b'],[[],[],[]],he,iP.2 ⟨_,cap',by rw [hlen];exact hI.ret,by rw [hlen];exact hml,.inr ⟨b',off',C',e',fz',[],rfl,hI.blk,hI.hz,hI.fit,by rw [hlen];exact hI.len,hI.max,rfl,jQ.2 ⟨_,by simpa using q4,hI.at'⟩⟩⟩,by simp [RPs,RP],by simp,?_,hI.size,?_,hI.same⟩
 ·intro x hx
  obtain rfl:x=b':=by simpa using hx
  refine ⟨?_,hI.lt⟩
  rcases hI.new with rfl|h
  ·left;simp
  ·exact .inr h
 ·intro x hx hn
  exact hI.frame x hx fun h=>hn (by simp [h])
theorem aKn {w:World} {b off n c k:Nat} {C:Array Value} {e:TypeId} {fz:Nat×Nat} {olds news:List Value} (hb:w.heap[b]? =some (.cells C e fz)) (hz:(C.size≤fz.1∧k=1)∨fz.2=0)
  (hc:aT w b off olds) (hol:olds.length=n * k) (hnl:news.length=k) (hroom:n+1≤c) (hfit:off+c * k≤C.size) (hmax:c≤maxLen):
  ∃C',xX w (w.setCells b (off+n * k) news) b k (n+1) (olds++news) (.slice (some ⟨b,off,none⟩) (n+1) c) b off c C' e fz:=by
 have hnk:(n+1) * k≤c * k:=Nat.mul_le_mul_right k hroom
 have hnk1:(n+1) * k=n * k+k:=Nat.succ_mul n k
 obtain ⟨C1,hC1,hCs1⟩:=fA b e fz news (off+n * k) w C hb
 have hlt:b < w.heap.size:=(Array.getElem?_eq_some_iff.1 hb).1
 refine ⟨C1,rfl,hC1,by rw [hCs1];exact hz,by rw [hCs1];exact hfit,hroom,hmax,?_,.inl rfl,by rw [size_setCells];exact hlt,by rw [size_setCells];exact Nat.le_refl _,?_,jD _ _ _ _⟩
 ·refine aT.append.2 ⟨lX hc fun _=> ?_,?_⟩
  ·rw [hol];left;omega
  ·rw [hol];exact wB hb (by omega)
 ·intro x hx hne
  rw [iO b x hne]
theorem aLa {w:World} {b n k cap:Nat} {ROW:Array Value} {e:TypeId} {olds news:List Value} (hR:∀(j:Nat) (v:Value),(olds++news)[j]? =some v→ROW[j]? =some v) (hRs:cap * k≤ROW.size) (hcap:n+1≤cap) (hmax:cap≤maxLen):
  ∃C',xX w (w.drew.alloc (.cells ROW e)) b k (n+1) (olds++news) (.slice (some ⟨w.heap.size,0,none⟩) (n+1) cap) w.heap.size 0 cap C' e (0,0):=by
 have hN:(w.drew.alloc (.cells ROW e)).heap[w.heap.size]? =some (.cells ROW e):=fG w.drew _
 refine ⟨ROW,rfl,hN,.inr rfl,by omega,hcap,hmax,lN hN (by intro j v hv;rw [Nat.zero_add];exact hR j v hv),.inr (Nat.le_refl _),by simp,by simp,fun x hx _=>heap_alloc w.drew _ x hx,⟨rfl,rfl,rfl⟩⟩
theorem aNo {P:Program} [aB P] {f:FuncId} {n k:Nat} {l:List (List AV)} {x:List AV} (hl:l.length=n) (hfl:(l.all fun c=>c.all pR)=true) (hfx:x.all pR=true)
  (H:∀(w:World) (base:Option Addr) (bb c:Nat) (olds news:List Value) (vb voff vc:Nat),olds.length=n * k→n≤c→c≤maxLen→aT w vb voff news→news.length=k→(∀v∈news,v.oneCell'=true)→
   ((n=0∧c=0)∨∃off C e fz,base=some ⟨bb,off,none⟩∧w.heap[bb]? =some (.cells C e fz)∧((C.size≤fz.1∧k=1)∨fz.2=0)∧aT w bb off olds∧off+c * k≤C.size)→
   Calls P f #[.slice base n c,.int .i64 n,.slice (some ⟨vb,voff,none⟩) 1 vc] w fun ed w'=>∃v b' off' cap' C' e' fz',ed= .returned v∧xX w w' bb k (n+1) (olds++news) v b' off' cap' C' e' fz'):
  OkG P f [.give (.sl .own k l),.view (.int .i64 n),.give (.sl .own k [x])] (.sl .own k (l++[x])):=by
 intro w vs fss caps hh hlow hnd hr
 obtain ⟨v1,vs,f1,fss,k1,caps,rfl,rfl,rfl,h1,hr⟩:=sK hr
 obtain ⟨v2,vs,f2,fss,k2,caps,rfl,rfl,rfl,h2,hr⟩:=sK hr
 obtain ⟨v3,vs,f3,fss,k3,caps,rfl,rfl,rfl,h3,hr⟩:=sK hr
 obtain ⟨rfl,rfl,rfl⟩:=aN0 hr
 simp only [RG] at h1 h2 h3
 obtain ⟨rfl,h2⟩:=h2
 obtain ⟨a,cap,rfl,hlm,ho⟩:=iP.1 h1
 simp only [R] at h2
 obtain ⟨rfl,_⟩:=h2
 obtain ⟨a3,cap3,rfl,_,h3⟩:=iP.1 h3
 rcases h3 with ⟨h0,_⟩|⟨vb,voff,Cv,ev,fzv,fps3,rfl,hb3,hz3,_,_,_,rfl,hr3⟩
 ·cases h0
 obtain ⟨news,hv3,hc3⟩:=jQ.1 hr3
 have hnl:news.length=k:=by simpa using fO hv3
 obtain ⟨bb,olds,hv,hbb,hnc,hmc,hor⟩:∃bb olds,Rv w (jC w (· ∈(f1++([]++((vb::fps3)++[]))))).plain l olds k f1.tail∧(bb∈f1∨w.heap.size≤bb)∧n≤cap∧cap≤maxLen∧
   ((n=0∧cap=0)∨∃off C e fz,a=some ⟨bb,off,none⟩∧w.heap[bb]? =some (.cells C e fz)∧((C.size≤fz.1∧k=1)∨fz.2=0)∧aT w bb off olds∧off+cap * k≤C.size):=by
  rcases ho with ⟨h0,h4,h5⟩|⟨b,off,C,e,fz,fps,rfl,hb,hz,hfit,hlc,hmax,rfl,hrr⟩
  ·subst h0;subst h5;simp at hl;subst hl;subst h4
   exact ⟨w.heap.size,[],by simp [Rv],.inr (Nat.le_refl _),Nat.le_refl _,by simp [maxLen],.inl ⟨rfl,rfl⟩⟩
  ·obtain ⟨olds,hv,hc⟩:=jQ.1 hrr
   exact ⟨b,olds,hv,.inl (by simp),by rw [←hl];exact hlc,hmax,.inr ⟨off,C,e,fz,rfl,hb,hz,hc,hfit⟩⟩
 have hol:=fO hv
 rw [hl] at hol
 have:=H w a bb cap olds news vb voff cap3 hol hnc hmc hc3 hnl (aBz hv3) hor
 rw [hl]
 refine this.mono fun ed w' h=> ?_
 obtain ⟨v,b',off',cap',C',e',fz',he,hI⟩:=h
 have hq:=(yN (w':=w') (E':=(gI).plain) hfl hv).2
 have hq3:=(yN (w':=w') (E':=(gI).plain) (by simp [hfx]) hv3).2
 have q4:=qO hq3 hq
 have hlen:(l++[x]).length=n+1:=by simp;omega
 have hml:n+1≤maxLen:=Nat.le_trans hI.len hI.max
 refine ⟨v,[b'],[[],[],[]],he,iP.2 ⟨_,cap',by rw [hlen];exact hI.ret,by rw [hlen];exact hml,.inr ⟨b',off',C',e',fz',[],rfl,hI.blk,hI.hz,hI.fit,by rw [hlen];exact hI.len,hI.max,rfl,jQ.2 ⟨_,by simpa using q4,hI.at'⟩⟩⟩,by simp [RPs,RP],by simp,?_,hI.size,?_,hI.same⟩
 ·intro x hx
  obtain rfl:x=b':=by simpa using hx
  refine ⟨?_,hI.lt⟩
  rcases hI.new with rfl|h
  ·rcases hbb with h|h
   ·left;simp [h]
   ·exact .inr h
  ·exact .inr h
 ·intro x hx hn
  refine hI.frame x hx fun h=> ?_
  subst h
  rcases hbb with h|h
  ·exact hn (by simp [h])
  ·omega
end Go.Aw
