/- Proved here: steps towards the statement of this claim. No condition. -/
import Derived.Test.YtdcpobkemdacnaaGreatDoorZQFI
set_option linter.all false
set_option maxRecDepth 8000
set_option maxHeartbeats 8000000
namespace Go.Proofs.YtdcpobkemdacnaaGreatDoor
open Go.Aw Proofs.Tryz List IntKind
theorem Io [aC prog] (c:rV) (top:bB) (a:aK) (now:Int) (hl:c.entries.length<=1099511627776):Ok prog 51 [.agg (iH .view c),.str top,.agg (aL a),.int .i64 now] (.gZ [.agg (bG (wW c top a now).1),.bool (wW c top a now).2]):=by
 have c2:=Ah;simp only [bG] at c2;unfold wW;refine bO aD func51 ntmps51 ?_;refine aZ ?_;refine aP (ι:={k:Nat // k<=c.entries.length/\∀x∈c.entries.take k,Ar top a now x=false}) (λt o i=>⟨bE t [(10,.int .i64 i.1)],o⟩)
  (λi=>c.entries.length - i.1) ⟨0,by simp,by simp⟩ aO ?_
 rintro ⟨k,hk,hi⟩ K1 hK1;simp only [bE,cW,cU] at hK1⊢;have hk1:=oW (k:=k);by_cases hlt:k < c.entries.length
 .have hg:=aE hlt;have hnx:Ar top a now c.entries[k]=false->∀x∈c.entries.take (k+1),Ar top a now x=false:=λh=>bZ hlt hi h
  have hfd:Ar top a now c.entries[k]=true->c.entries.find? (Ar top a now)=some c.entries[k]:=λh=>ze hlt h hi
  by_cases h1:c.entries[k].top=top
  .have JP:(c.entries[k].top == top)=true:=by simp [h1]
   by_cases h2:c.entries[k].to=a
   .by_cases h3:now<=c.entries[k].til
    .rw [hfd (by simp [Ar,h1,h2,h3])];have W:=aA hk1 (aA hg (aA hlt (aA JP (aA h2 h3))));have c0:=nW a a;refine we ?_;exact aF results51
    .have hnx:=hnx (by simp [Ar,h3]);have W:=aA hk1 (aA hg (aA hlt (aA JP (aA h2 h3))));have c0:=nW a a;refine we ?_;exact hK1 _ ⟨k+1,by omega,hnx⟩ aO (by simp only;omega)
   .have hnx:=hnx (by simp [Ar,h2]);have W:=aA hk1 (aA hg (aA hlt (aA JP h2)));have c0:=nW c.entries[k].to a;refine we ?_;exact hK1 _ ⟨k+1,by omega,hnx⟩ aO (by simp only;omega)
  .have JP:(c.entries[k].top == top)=false:=by simp [h1]
   have hnx:=hnx (by simp [Ar,JP]);have W:=aA hk1 (aA hg (aA hlt JP));refine we ?_;exact hK1 _ ⟨k+1,by omega,hnx⟩ aO (by simp only;omega)
 .rw [zb (iX (by omega) hi)];have W:=hk1;refine we ?_;exact aF results51
def fC (n:nN) (top:bB) (a:aK):bA:=
 if oP a=false then notFound else if (wW n.cache top a n.now).2=true then (wW n.cache top a n.now).1 else rX n.jO a
def qA (top:bB) (a:aK) (e:gI):Bool:=e.top == top&&decide (e.to=a)
def Bu (l:List gI) (k:Nat) (e:gI):Bool:=dB e.top&&(oP e.to&&(fU e.response&&(decide (e.response.status=200)&&decide (pW (qA e.top e.to) l=(k:Int)))))
def Rz (l:List gI):Bool:=(range l.length).all λk=>match l[k]? with
 |some e=>Bu l k e
 |none=>true
def nY (l:List gI):Bool:=Rz l&&decide (l.length<=100)
theorem VQ {l:List gI} (h:Rz l=true) {k:Nat} (hk:k < l.length):Bu l k l[k]=true:=by have h2:=(fW.1 h) k (by simpa using hk);simpa [aE hk] using h2
theorem VR {l:List gI} {k:Nat} (hk:k < l.length) (ho:Bu l k l[k]=false):nY l=false:=by
 cases h:Rz l with
 |false=>simp [nY,h]
 |true=>rw [VQ h hk] at ho;cases ho
theorem RA {l:List gI} (h:∀k (hk:k < l.length),Bu l k l[k]=true):nY l=decide (l.length<=100):=by
 have:Rz l=true:=by
  unfold Rz;rw [fW];intro k hk;have hk2:k < l.length:=by simpa using hk
  simp only [aE hk2];exact h k hk2
 simp [nY,this]
def uZ (top:bB) (a:aK) (x:bA) (now:Int):gI:=⟨top,a,x,i64.wrap (now+x.Hm)⟩
def vB (l:List gI) (top:bB) (a:aK) (e:gI):List gI:=if pW (qA top a) l < 0 then l++[e] else l.set (pW (qA top a) l).toNat e
def vC (l:List gI) (top:bB) (a:aK) (x:bA) (now:Int):List gI:=
 if x.Hm=0\/¬(0<=now/\now<=999999999000)\/nY l=false\/nY (vB l top a (uZ top a x now))=false then l else vB l top a (uZ top a x now)
theorem aDh {l:List gI} {top:bB} {a:aK} {e:gI} (h:nY (vB l top a e)=true):fU e.response=true:=by
 simp only [nY,eJ] at h;have hin:∃k,∃hk:k < (vB l top a e).length,(vB l top a e)[k]=e:=by
  unfold vB;rcases lI (qA top a) l with ⟨h1,_⟩|⟨k,hk,h1,_⟩
  .rw [h1,eI (by decide)];exact ⟨l.length,by simp,by simp⟩
  .rw [h1,cX (by omega)];exact ⟨k,by simpa using hk,by simp⟩
 obtain ⟨k,hk,he⟩:=hin;have h2:=VQ h.1 hk;rw [he] at h2;simp only [Bu,eJ] at h2;exact h2.2.2.1
def Cw (n:nN) (top:bB) (a:aK) (x:bA):nN:=
 if fU x=true/\x.status=200/\(wW n.cache top a n.now).2=false then {n with cache:=⟨vC n.cache.entries top a x n.now⟩} else n
def yB (n:nN) (top:bB) (a:aK):nN:=if n.log.length < 400 then {n with log:=n.log++[⟨top,a,false⟩]} else n
def jY (n:nN) (top:bB) (a:aK):nN:=
 if oP a=false then n else if (wW n.cache top a n.now).2=true then n else Cw (yB n top a) top a (rX n.jO a)
theorem VS {α:Type} (f:α->Nat) (x:α):∀(l:List α) (k:Nat),bH f (l.set k x)<=bH f l+f x
 |[],_=>by simp [bH]
 |y::l,0=>by simp [bH];omega
 |y::l,k+1=>by have:=VS f x l k;simp [bH];omega
theorem GX {α:Type} (f:α->Nat):∀a b:List α,bH f (a++b)=bH f a+bH f b
 |[],b=>by simp [bH]
 |x::a,b=>by simp only [eA,bH];rw [GX f a b];omega
theorem qi (l:List gI) (top:bB) (a:aK) (e:gI):bT gT (vB l top a e)<=bT gT l+1+gT e:=by
 unfold vB;split
 .simp only [bT,eR,eN,eW];rw [GX];simp [bH];omega
 .have:=VS gT e l (pW (qA top a) l).toNat;simp only [bT,length_set];omega
theorem O8 {l:List gI} {top:bB} {a:aK} {x:bA} {now:Int} {e:gI} (h:e∈vC l top a x now):e∈l\/e.response=x:=by
 unfold vC at h;split at h
 .exact .inl h
 .unfold vB at h;split at h
  .rcases fL.1 h with h|h
   .exact .inl h
   .rw [pZ.1 h];exact .inr rfl
  .rcases mem_or_eq_of_mem_set h with h|h
   .exact .inl h
   .rw [h];exact .inr rfl
theorem aDi (l:List gI) (top:bB) (a:aK) (x:bA) (now:Int):bT gT (vC l top a x now)<=bT gT l+1+top.length+aQ a+bI x:=by
 unfold vC;split
 .omega
 .have:=qi l top a (uZ top a x now);have h2:gT (uZ top a x now)=top.length+aQ a+bI x:=rfl;omega
theorem AO (l:List iQ) (a:aK):bI (rX l a)<=bT gF l:=by
 unfold rX;split
 .rename_i s hs;split
  .rename_i f hf;have h1:=bU gF (oY hs);have h2:=bU tC (oY hf);simp only [bT,gF,tC] at *;omega
  .simp [bI,notFound]
 .simp [bI,notFound]
structure MO (N : Nat) (n : nN) : Prop where
  srv : bT gF n.jO <= 1048576
  ca : ∀ e ∈ n.cache.entries, bI e.response <= 1048576
  sz : nO n <= N
theorem MO.up {N M:Nat} {n:nN} (h:MO N n) (hm:N<=M):MO M n:=⟨h.srv,h.ca,hM h.sz hm⟩
theorem Xz (n:nN) (h:nO n<=1048576):MO 1048576 n:=by refine ⟨by simp only [nO] at h;omega,λe he=> ?_,h⟩;have h1:=bU gT he;simp only [nO,nV,bT,gT] at h h1;omega
theorem zZ {N:Nat} {n:nN} (h:MO N n) (top:bB) (a:aK):bI (fC n top a)<=1048576:=by
 have h0:bI notFound=0:=rfl;unfold fC;split
 .omega
 .split
  .unfold wW;split
   .rename_i e he;exact h.ca e (oY he)
   .simp only;omega
  .exact hM (AO _ _) h.srv
theorem VT {N:Nat} {n:nN} (h:MO N n) (top:bB) (a:aK):MO (N+2 * top.length+2 * aQ a+1048580) (jY n top a):=by
 unfold jY;split
 .exact h.up (by omega)
 .split
  .exact h.up (by omega)
  .have hx:=hM (AO n.jO a) h.srv;generalize rX n.jO a=x at *;have h2:MO (N+1+top.length+aQ a) (yB n top a)/\(yB n top a).cache=n.cache/\(yB n top a).jO=n.jO:=by
    have hs:=h.sz;unfold yB;split
    .refine ⟨⟨h.srv,h.ca,?_⟩,rfl,rfl⟩;simp only [nO,bT,eR,eN,eW] at hs⊢;rw [GX];simp only [bH,tF];omega
    .exact ⟨h.up (by omega),rfl,rfl⟩
   obtain ⟨h2,h3,h4⟩:=h2;generalize yB n top a=m at *;unfold Cw;split
   .have hs:=h2.sz;have h5:=aDi m.cache.entries top a x m.now;refine ⟨h2.srv,λe he=> ?_,?_⟩
    .rcases O8 he with he|he
     .exact h2.ca e he
     .rw [he];exact hx
    .simp only [nO,nV] at hs⊢;omega
   .exact h2.up (by omega)
theorem EY [aC prog] [dK prog] [bR prog] [mZ prog] (p:aG) (l:List jW) (w:Bool) (hs:aJ p<=536870912) (h6:l.length<=6) (hx:∀x∈l,x.text.length<=60):
  Ma prog 192 [.tY (aI .own p) (aI .own (lM p l w)),.view (.sl .view 2 (l.map lH)),.view (.bool w)] (.gZ []):=by
 have hsl:bT lD p.aB<=1073741824:=by simp only [aJ,bT] at *;omega
 have hsb:aS p.builder<=536870912:=by simp only [aJ] at hs;omega
 have ib:p.log.length<=536870912:=by simp only [aJ,bT] at hs;omega
 have hqu:p.queue.length<=536870912:=by simp only [aJ,bT] at hs;omega
 have c1:=OV p hsl;obtain ⟨hb1,hb2⟩:=CX p;have hb1':(dI p).length<=536870912:=by simp only [aJ,bT] at hs;omega
 have c2:=MS p.builder (dI p) l (by omega) h6 (λx hm=>by have:=hx x hm;omega) (by omega) (λx hm=>by have:=hb2 x hm;omega) (xI p);obtain ⟨z1,z2,z3,z4⟩:=Bw 60 p.builder (dI p) l (by omega) h6 hx (xI p) (by omega) l.length (eE _);have hend:sH p.builder (dI p) l l.length=eH p.builder (dI p) l:=by simp [sH]
 rw [hend] at z1 z2 z3 z4;have c3:=OX (eH p.builder (dI p) l).2.1 (by omega);obtain ⟨y1,y2⟩:=Gc (eH p.builder (dI p) l).2.1;unfold lM;clear hb2 hx hend;generalize dI p=ss at *;generalize eH p.builder ss l=g at *;obtain ⟨b,wr,lg⟩:=g;simp only at c2 c3 z1 z2 z3 z4 y1 y2⊢;generalize vI wr=tk at *;simp only [aI,aU] at c1 c2;refine rO aD func192 ntmps192 ?_;refine gY ?_;obtain ⟨Q,hQ⟩:∃Q:Nat->aG,∀k,Q k={p with builder:=b,log:=nD p.log (lg.take k)}:=⟨_,λ_=>rfl⟩;have hQ0:Q 0={p with builder:=b}:=by rw [hQ];rfl
 have hQn:Q lg.length={p with builder:=b,log:=nD p.log lg}:=by rw [hQ,As]
 have hQl:∀k,k<=lg.length->(Q k).log.length<=1099511627776:=λk hk=>by rw [hQ];have:=Jw p.log (lg.take k);simp only [oR] at this⊢;omega
 have hQs:∀k (h:k < lg.length),Q (k+1)={Q k with log:=kC (Q k).log lg[k]}:=λk h=>by rw [hQ,hQ,Gd _ _ _ h]
 refine aP (ι:={k:Nat // k<=lg.length}) (λt o i=>⟨bE t [(31,.int .i64 i.1),(10,.undef),(11,.undef),(15,.undef),(18,.undef),(21,.undef),(22,.undef),(26,.undef)],[⟨true,true,22,2,[yR 1 (Q i.1)]⟩]++yQ (Q i.1)++[⟨false,false,0,1,[]⟩,⟨true,false,1,1,ss.map (eD .own)⟩,⟨true,false,4,1,p.builder.nodes.map (fD .own)⟩,⟨true,false,1,1,p.builder.opens.map lW⟩,⟨true,false,1,1,lg.map dD⟩]⟩)
  (λi=>lg.length - i.1) ⟨0,by simp⟩ ?_ ?_
 .simp only [hQ0,yR,yQ,bE,cW,cU,eA,eM];exact aH0 rfl rfl ⟨rfl,rfl⟩ (by simp;rfl) rfl rfl ⟨rfl,rfl⟩ (by simp;rfl) rfl (by simp) (by simp) (by simp)
 rintro ⟨k,hk⟩ K1 hK1;have hk1:=oW (k:=k);by_cases hlt:k < lg.length
 .have hg:=aE hlt;have hnext:=hQs k hlt;have c4:=EB (Q k) lg[k] (hQl k hk);rw [<-hnext] at c4;have hK2:=hK1;clear hQ hQ0 hQn hQl hQs hnext;generalize hq':Q (k+1)=q' at *;generalize hq:Q k=q at *;simp only [bE,cW,cU,eA,eM,yQ,yR] at hK1⊢;simp only [aI] at c4;have W:=aA hk1 (aA hg hlt);repeat' first|refine wg ?_|(refine nx ?_;refine sg (hc:=c4) (h:=?_))|(refine sq ?_ ?_<;>intro hc<;>try exact hc.elim)|fail
  refine hK2 _ ⟨k+1,by omega⟩ ?_ (by simp only;omega);exact aEb (q:=q') rfl (by simp [yQ,yR,hq']) (by simp [MX]) (by simp [MX]) (by simp) (by simp) (by simp [dE])
 .have hkl:k=lg.length:=by omega
  subst hkl;simp only [hQn,bE,cW,cU,eA,eM,yQ,yR] at hK1⊢;clear hQ hQ0 hQn hQl hQs hK1;cases w
  .have W:=hk1;refine wl ?_;all_goals try(refine ⟨by first|exact .inr rfl|exact .inl rfl,?_⟩;simp [gJ,dL,dJ,rowOf,results192])
  .rw [eI rfl];have hbq:(tk.length+p.queue.length) * 64<=140737488355328:=by omega
   have W:=aA hk1 hbq;refine wl ?_;all_goals try(refine ⟨by first|exact .inr rfl|exact .inl rfl,?_⟩;simp [gJ,dL,dJ,rowOf,results192])
   all_goals (rw [<-oS];exact lX _)
def MZ:bB:=[101,114,114,111,114]
def lQ (p:aG) (code:bB) (w:Bool):aG:=
 if (gG code).2=true then lM p (gG code).1 w else {p with log:=kC p.log MZ}
theorem BC [aC prog] [dK prog] [bR prog] [mZ prog] (p:aG) (code:bB) (w:Bool) (hs:aJ p<=536870912) (hc:code.length<=1073741824):Ok prog 139 [.agg (aI .view p),.str code,.bool w] (.agg (aI .own (lQ p code w))):=by
 have c1:=iK p (by omega);have c2:=BA code hc;have ib:p.log.length<=536870912:=by simp only [aJ,bT] at hs;omega
 obtain ⟨b1,b2⟩:=zL code;have c3:=EB p MZ (by omega);have c4:=EY p (gG code).1 w hs b1 b2;unfold lQ;generalize gG code=g at *;obtain ⟨l,ok⟩:=g;simp only at c2 c4⊢;generalize lM p l w=r at *;simp only [aI,MZ] at c1 c3 c4⊢;cases ok
 .rw [cX (by simp)];refine bO aD func139 ntmps139 ?_;have W:=trivial;repeat' first|refine wg ?_|(refine nx ?_;refine sg (hc:=c3) (h:=?_))|(refine sq ?_ ?_<;>intro hc<;>try exact hc.elim)|fail
  exact aF results139
 .rw [eI rfl];refine bO aD func139 ntmps139 ?_;have W:=trivial;repeat' first|refine wg ?_|(refine nx ?_;refine sg (hc:=c4) (h:=?_))|(refine sq ?_ ?_<;>intro hc<;>try exact hc.elim)|fail
  exact aF results139
@[simp] theorem aEp (f:Tg->Option Tg) (b:Bool) (l:bB):mM f b (dQ l)=dQ l:=by
 induction l with
 |nil=>rfl
 |cons x l ih=>simp only [dQ,mA,mM,xM,rt] at ih⊢;rw [ih]
def vK (s:bB):Int:=vJ (151::mH s)
theorem dx (s:bB) (h:s.length<=60000000):∀y∈(151::mH s),rgI y:=by
 intro y hy;unfold rgI;rcases lE.1 hy with rfl|hy
 .omega
 rcases lE.1 hy with rfl|hy
 .omega
 .simp only [toInts,yM,AH] at hy;obtain ⟨c,_,rfl⟩:=hy;have:c.toNat < 256:=Cp c;omega
theorem Hf (s:bB):(mH s).length=s.length+1:=by simp [mH,toInts,yM]
theorem dz (l:List Int):0<=vJ l/\vJ l<=2147483647:=by
 unfold vJ;have:∀(l:List Int) (a:Int),0<=a/\a<=2147483647->0<=l.foldl Ac a/\l.foldl Ac a<=2147483647:=by
  intro l;induction l with
  |nil=>intro a h;exact h
  |cons x l ih=>intro a _;refine ih _ ?_;unfold Ac;omega
 exact this l 11 (by omega)
theorem Pj [aC prog] [bR prog] [dK prog] (s:bB) (hl:s.length<=1048576):Ok prog 227 [.str s] (.int .i64 (vK s)):=by
 have c3:=JE s (by omega);have c4:=dm (151::mH s) (by simp only [eN,Hf];omega) (dx _ (by omega));have hil:=Hf s;have hq:(mH s).length<=1048577:=by omega
 simp only [mA] at c4;unfold vK;generalize mH s=q at *;refine bO aD func227 ntmps227 ?_;have W:=trivial;repeat' first|refine wf ?_|(refine nx ?_;refine sb ?_)|(refine sq ?_ ?_<;>intro hc<;>try exact hc.elim)|fail
 exact aF results227
theorem Pk [aC prog] [bR prog] [dK prog] (s:bB) (hl:s.length<=1048576):Ok prog 283 [.str s] (.int .i64 (vK s)):=by
 have c3:=JF s (by omega);have c4:=dw (151::mH s) (by simp only [eN,Hf];omega) (dx _ (by omega));have hil:=Hf s;have hq:(mH s).length<=1048577:=by omega
 simp only [mA] at c4;unfold vK;generalize mH s=q at *;refine bO aD func283 ntmps283 ?_;have W:=trivial;repeat' first|refine wf ?_|(refine nx ?_;refine sb ?_)|(refine sq ?_ ?_<;>intro hc<;>try exact hc.elim)|fail
 exact aF results283
def vL (body v:bB):Bool:=v == [] || v == Lib.itoa (vK body)
theorem JG [aC prog] [bR prog] [dK prog] (s v:bB) (hl:s.length<=1048576):Ok prog 178 [.str s,.str v] (.bool (vL s v)):=by
 have c1:=Pj s hl;have hr:=dz (151::mH s);have c2:=fP (vK s) (by unfold vK;omega);unfold vL;generalize vK s=d at *;generalize Lib.itoa d=t at *;refine bO aD func178 ntmps178 ?_;have W:=trivial;repeat' first|refine wf ?_|(refine nx ?_;refine sb ?_)|(refine sq ?_ ?_<;>intro hc<;>try exact hc.elim)|fail
 all_goals try(refine aV ?_;simp [aH,results178])
 all_goals simp_all
theorem JH [aC prog] [bR prog] [dK prog] (s v:bB) (hl:s.length<=1048576):Ok prog 257 [.str s,.str v] (.bool (vL s v)):=by
 have c1:=Pk s hl;have hr:=dz (151::mH s);have c2:=fO (vK s) (by unfold vK;omega);unfold vL;generalize vK s=d at *;generalize Lib.itoa d=t at *;refine bO aD func257 ntmps257 ?_;have W:=trivial;repeat' first|refine wf ?_|(refine nx ?_;refine sb ?_)|(refine sq ?_ ?_<;>intro hc<;>try exact hc.elim)|fail
 all_goals try(refine aV ?_;simp [aH,results257])
 all_goals simp_all
def BR (x:bA) (k:Int):Bool:=decide (x.kind=k) || (decide (k=5)&&decide (x.kind=2))
theorem Pm [aC prog] [bR prog] [dK prog] (x:bA) (k:Int):Ok prog 177 [.agg (bG x),.int .i64 k] (.bool (BR x k)):=by
 unfold BR;refine bO aD func177 ntmps177 ?_;have W:=trivial;repeat' first|refine wf ?_|(refine nx ?_;refine sb ?_)|(refine sq ?_ ?_<;>intro hc<;>try exact hc.elim)|fail
 all_goals try(refine aV ?_;simp [aH,results177])
 all_goals first|(simp_all;done)|(by_cases hk2:x.kind=2<;>simp_all)
theorem Pn [aC prog] [bR prog] [dK prog] (x:bA) (k:Int):Ok prog 256 [.agg (bG x),.int .i64 k] (.bool (BR x k)):=by
 unfold BR;refine bO aD func256 ntmps256 ?_;have W:=trivial;repeat' first|refine wf ?_|(refine nx ?_;refine sb ?_)|(refine sq ?_ ?_<;>intro hc<;>try exact hc.elim)|fail
 all_goals try(refine aV ?_;simp [aH,results256])
 all_goals first|(simp_all;done)|(by_cases hk2:x.kind=2<;>simp_all)
def SG (r:gD) (x:bA):Bool:=decide (r.frm≠r.to.host)&& !x.shares&&(decide (r.kind=5) || decide (r.digest≠[]))
def dV (p:eY) (r:gD) (x:bA):Int:=
 if fH p r≠1 then 2 else if fU x=false\/x.status≠200 then 3 else if BR x r.kind=false then 4 else if SG r x=true then 5 else if vL x.body r.digest=false then 6 else 1
theorem vM [aC prog] [bR prog] [dK prog] (p:eY) (r:gD) (x:bA) (hp:eO p<=274877906944) (hr:jM r<=274877906944) (hx:bI x<=1048576):Ok prog 116 [.agg (bP .view p),.agg (dF r),.agg (bG x)] (.int .i64 (dV p r x)):=by
 have c1:=wD p r (by omega) (by omega);have c2:=qN x (by omega);have c3:=Pm x r.kind;have c4:=JG x.body r.digest (by simp only [bI] at hx;omega);simp only [bP,dF] at c1;simp only [bG] at c2 c3;unfold dV SG;generalize fH p r=n at *;generalize fU x=b2 at *;generalize BR x r.kind=b3 at *;generalize vL x.body r.digest=b4 at *;by_cases h1:n=1
 .subst h1;refine bO aD func116 ntmps116 ?_;have W:=trivial;repeat' first|refine wf ?_|(refine nx ?_;refine sb ?_)|(refine sq ?_ ?_<;>intro hc<;>try exact hc.elim)|fail
  all_goals try(refine aV ?_;simp [aH,results116])
  all_goals simp_all
 .refine bO aD func116 ntmps116 ?_;have W:=h1;repeat' first|refine wf ?_|(refine nx ?_;refine sb ?_)|(refine sq ?_ ?_<;>intro hc<;>try exact hc.elim)|fail
  all_goals try(refine aV ?_;simp [aH,results116,h1])
  all_goals simp_all
theorem vN [aC prog] [bR prog] [dK prog] (p:eY) (r:gD) (x:bA) (hp:eO p<=274877906944) (hr:jM r<=274877906944) (hx:bI x<=1048576):Ok prog 208 [.agg (bP .view p),.agg (dF r),.agg (bG x)] (.int .i64 (dV p r x)):=by
 have c1:=wE p r (by omega) (by omega);have V5:fH p r=1\/fH p r=2:=by unfold fH;split<;>simp
 have c2:=uN x (by omega);have c3:=Pn x r.kind;have c4:=JH x.body r.digest (by simp only [bI] at hx;omega);simp only [bP,dF] at c1;simp only [bG] at c2 c3;unfold dV SG;generalize fH p r=n at *;generalize fU x=b2 at *;generalize BR x r.kind=b3 at *;generalize vL x.body r.digest=b4 at *;rcases V5 with h1|h1
 .subst h1;refine bO aD func208 ntmps208 ?_;have W:=trivial;repeat' first|refine wf ?_|(refine nx ?_;refine sb ?_)|(refine sq ?_ ?_<;>intro hc<;>try exact hc.elim)|fail
  all_goals try(refine aV ?_;simp [aH,results208])
  all_goals simp_all
 .subst h1;refine bO aD func208 ntmps208 ?_;have W:=trivial;repeat' first|refine wf ?_|(refine nx ?_;refine sb ?_)|(refine sq ?_ ?_<;>intro hc<;>try exact hc.elim)|fail
  exact aF results208
def jH (p:eY) (r:gD) (x:bA):bB:=if dV p r x=1 then x.body else []
theorem CQ [aC prog] [bR prog] [dK prog] (p:eY) (r:gD) (x:bA) (hp:eO p<=274877906944) (hr:jM r<=274877906944) (hx:bI x<=1048576):Ok prog 117 [.agg (bP .view p),.agg (dF r),.agg (bG x)] (.gZ [.str (jH p r x),.bool (decide (dV p r x=1))]):=by
 have c1:=vM p r x hp hr hx;simp only [bP,dF,bG] at c1;unfold jH;generalize dV p r x=n at *;by_cases h1:n=1
 .subst h1;refine bO aD func117 ntmps117 ?_;have W:=trivial;repeat' first|refine wf ?_|(refine nx ?_;refine sb ?_)|(refine sq ?_ ?_<;>intro hc<;>try exact hc.elim)|fail
  exact aF results117
 .refine bO aD func117 ntmps117 ?_;have W:=h1;repeat' first|refine wf ?_|(refine nx ?_;refine sb ?_)|(refine sq ?_ ?_<;>intro hc<;>try exact hc.elim)|fail
  all_goals try(refine aV ?_;simp [aH,results117,h1])
theorem CR [aC prog] [bR prog] [dK prog] (p:eY) (r:gD) (x:bA) (hp:eO p<=274877906944) (hr:jM r<=274877906944) (hx:bI x<=1048576):Ok prog 209 [.agg (bP .view p),.agg (dF r),.agg (bG x)] (.gZ [.str (jH p r x),.bool (decide (dV p r x=1))]):=by
 have c1:=vN p r x hp hr hx;simp only [bP,dF,bG] at c1;unfold jH;generalize dV p r x=n at *;by_cases h1:n=1
 .subst h1;refine bO aD func209 ntmps209 ?_;have W:=trivial;repeat' first|refine wf ?_|(refine nx ?_;refine sb ?_)|(refine sq ?_ ?_<;>intro hc<;>try exact hc.elim)|fail
  exact aF results209
 .refine bO aD func209 ntmps209 ?_;have W:=h1;repeat' first|refine wf ?_|(refine nx ?_;refine sb ?_)|(refine sq ?_ ?_<;>intro hc<;>try exact hc.elim)|fail
  all_goals try(refine aV ?_;simp [aH,results209,h1])
def filled (p:aG) (s:oZ) (x:bA):oZ:={s with done:=true,code:=dV p.bD (fQ p s) x,body:=jH p.bD (fQ p s) x}
def iP (p:aG) (k:Int) (x:bA):aG:=
 if 0<=k then match p.aB[k.toNat]? with
  |some s=>if s.done=true then p else {p with aB:=p.aB.set k.toNat (filled p s x)}
  |none=>p
 else p
theorem Qa {p:aG} {k:Int} {x:bA} (h:¬(0<=k/\k < p.aB.length)):iP p k x=p:=by
 unfold iP;split
 .have:p.aB[k.toNat]? =none:=by rw [tG];omega
  rw [this]
 .rfl
theorem Nk {p:aG} {k:Int} {x:bA} {s:oZ} (hg:p.aB[k.toNat]? =some s) (hd:s.done=true):iP p k x=p:=by unfold iP;rw [hg];simp [hd]
theorem ek {p:aG} {k:Int} {x:bA} {s:oZ} (h0:0<=k) (hg:p.aB[k.toNat]? =some s) (hd:s.done=false):iP p k x={p with aB:=p.aB.set k.toNat (filled p s x)}:=by unfold iP;rw [eI h0,hg];simp [hd]
theorem Ot (p:aG) {s:oZ} {k:Nat} (hg:p.aB[k]? =some s):jM (fQ p s)<=aJ p:=by have hm:=bU lD (mS hg);simp only [lD] at hm;simp only [jM,fQ,aJ,aQ,bT] at *;omega
theorem Po [aC prog] [bR prog] [dK prog] (p:aG) (k:Int) (x:bA) (hs:aJ p<=137438953472) (hx:bI x<=1048576):Ok prog 211 [.agg (aI .view p),.int .i64 k,.agg (bG x)] (.agg (aI .own (iP p k x))):=by
 have c1:=iK p (by omega);have ML:p.aB.length<=274877906944:=by simp only [aJ,bT] at hs;omega
 have Gh:eO p.bD<=274877906944:=by simp only [aJ] at hs;omega
 by_cases hk0:k < 0
 .rw [Qa (by omega)];simp only [aI] at c1;refine bO aD func211 ntmps211 ?_;have W:=hk0;refine we ?_;exact aF results211
 by_cases hk1:(p.aB.length:Int)<=k
 .rw [Qa (by omega)];simp only [aI] at c1;refine bO aD func211 ntmps211 ?_;have W:=aA hk0 hk1;refine we ?_;exact aF results211
 have h0:0<=k:=by omega
 have hlt:k.toNat < p.aB.length:=by omega
 have hg:p.aB[k.toNat]? =some p.aB[k.toNat]:=aE hlt;cases hd:p.aB[k.toNat].done
 .rw [ek h0 hg hd];have c2:=xB p k h0 (by omega) (by omega);have hr:=Ot p hg;have e:jC p k=fQ p p.aB[k.toNat]:=by simp [jC,hg]
  rw [e] at c2;have c3:=vN p.bD (fQ p p.aB[k.toNat]) x Gh (by omega) hx;have c4:=CR p.bD (fQ p p.aB[k.toNat]) x Gh (by omega) hx;have hset:∀(c:Int) (b:bB),(p.aB.map uW).set k.toNat [.int .i64 p.aB[k.toNat].mode,.str p.aB[k.toNat].to.host,.str p.aB[k.toNat].to.path,.str p.aB[k.toNat].digest,.int .i64 p.aB[k.toNat].node,.bool true,.int .i64 c,.str b]=(p.aB.set k.toNat {p.aB[k.toNat] with done:=true,code:=c,body:=b}).map uW:=by intro c b;rw [map_set];rfl
  have hset:=hset (dV p.bD (fQ p p.aB[k.toNat]) x) (jH p.bD (fQ p p.aB[k.toNat]) x);unfold filled;generalize dV p.bD (fQ p p.aB[k.toNat]) x=c at *;generalize jH p.bD (fQ p p.aB[k.toNat]) x=b at *;generalize fQ p p.aB[k.toNat]=q at *;generalize p.aB.set k.toNat {p.aB[k.toNat] with done:=true,code:=c,body:=b}=l3 at *;simp only [aI,dF] at c2;simp only [bP,dF,bG] at c3 c4;simp only [aI] at c1;simp only [aI];clear e;refine bO aD func211 ntmps211 ?_;have W:=aA hk0 (aA hk1 (aA h0 (aA hg (aA hd hlt))));refine we ?_;all_goals try(refine aV ?_;simp [aH,results211])
  all_goals exact hset
 .rw [Nk hg hd];simp only [aI] at c1;refine bO aD func211 ntmps211 ?_;have W:=aA hk0 (aA hk1 (aA h0 (aA hg (aA hd hlt))));refine we ?_;exact aF results211
theorem Pp [aC prog] [bR prog] [dK prog] (p:aG) (k:Int) (x:bA) (hs:aJ p<=137438953472) (hx:bI x<=1048576):Ok prog 120 [.agg (aI .view p),.int .i64 k,.agg (bG x)] (.agg (aI .own (iP p k x))):=by
 have c1:=gP p (by omega);have ML:p.aB.length<=274877906944:=by simp only [aJ,bT] at hs;omega
 have Gh:eO p.bD<=274877906944:=by simp only [aJ] at hs;omega
 have ci:=gK k 0 ((p.aB.length:Int) - 1);by_cases hk0:k < 0
 .rw [Qa (by omega)];rw [show (decide (0<=k)&&decide (k<=(p.aB.length:Int) - 1))=false by simp;omega] at ci;simp only [aI] at c1;refine bO aD func120 ntmps120 ?_;have W:=hk0;refine we ?_;exact aF results120
 by_cases hk1:(p.aB.length:Int)<=k
 .rw [Qa (by omega)];rw [show (decide (0<=k)&&decide (k<=(p.aB.length:Int) - 1))=false by simp;omega] at ci;simp only [aI] at c1;refine bO aD func120 ntmps120 ?_;have W:=aA hk0 hk1;refine we ?_;exact aF results120
 have h0:0<=k:=by omega
 rw [show (decide (0<=k)&&decide (k<=(p.aB.length:Int) - 1))=true by simp;omega] at ci;have hlt:k.toNat < p.aB.length:=by omega
 have hg:p.aB[k.toNat]? =some p.aB[k.toNat]:=aE hlt;cases hd:p.aB[k.toNat].done
 .rw [ek h0 hg hd];have c2:=xA p k h0 (by omega) (by omega);have hr:=Ot p hg;have e:jC p k=fQ p p.aB[k.toNat]:=by simp [jC,hg]
  rw [e] at c2;have c3:=vM p.bD (fQ p p.aB[k.toNat]) x Gh (by omega) hx;have c4:=CQ p.bD (fQ p p.aB[k.toNat]) x Gh (by omega) hx;have hset:∀(c:Int) (b:bB),(p.aB.map uW).set k.toNat [.int .i64 p.aB[k.toNat].mode,.str p.aB[k.toNat].to.host,.str p.aB[k.toNat].to.path,.str p.aB[k.toNat].digest,.int .i64 p.aB[k.toNat].node,.bool true,.int .i64 c,.str b]=(p.aB.set k.toNat {p.aB[k.toNat] with done:=true,code:=c,body:=b}).map uW:=by intro c b;rw [map_set];rfl
  have hset:=hset (dV p.bD (fQ p p.aB[k.toNat]) x) (jH p.bD (fQ p p.aB[k.toNat]) x);unfold filled;generalize dV p.bD (fQ p p.aB[k.toNat]) x=c at *;generalize jH p.bD (fQ p p.aB[k.toNat]) x=b at *;generalize fQ p p.aB[k.toNat]=q at *;generalize p.aB.set k.toNat {p.aB[k.toNat] with done:=true,code:=c,body:=b}=l3 at *;simp only [aI,dF] at c2;simp only [bP,dF,bG] at c3 c4;simp only [aI] at c1;simp only [aI];clear e;refine bO aD func120 ntmps120 ?_;have W:=aA hk0 (aA hk1 (aA h0 (aA hg (aA hd hlt))));refine we ?_;all_goals try(refine aV ?_;simp [aH,results120])
  all_goals exact hset
 .rw [Nk hg hd];simp only [aI] at c1;refine bO aD func120 ntmps120 ?_;have W:=aA hk0 (aA hk1 (aA h0 (aA hg (aA hd hlt))));refine we ?_;exact aF results120
@[simp] theorem aMa (i j:Nat) (l:List zS):qB i j (l.map uA)=l.map uA:=qE (λ_=>rfl) l
@[simp] theorem aFz (i j:Nat) (l:List iQ):qB i j (l.map (dH .view))=l.map (dH .view):=qE (λ_=>by simp) l
@[simp] theorem aJk (i j:Nat) (l:List gI):qB i j (l.map iU)=l.map iU:=qE (λ_=>rfl) l
@[simp] theorem aMb (i j:Nat) (l:List Ap):qB i j (l.map rE)=l.map rE:=qE (λ_=>rfl) l
def ic (m:nN):List aN:=[⟨true,false,2,1,m.jO.map (dH .own)⟩,⟨true,false,10,1,m.cache.entries.map iU⟩,⟨true,false,4,1,m.log.map rE⟩]
def ig (b:Nat) (m:nN):List AV:=[.obj b 1,.obj (b+1) 1,.obj (b+2) 1,.int .i64 m.now]
def zG:List (Nat×Nat):=[(4,23),(5,24),(6,25),(10,26),(11,27),(12,28),(13,29),(14,30),(15,31),(16,32),(17,33),(18,34),(19,35),(20,36)]
theorem aE2 {t t':List AV} {o o':List aN} {l1 l2 l3 l4 l5 l6 l7 l8 l9 l10 l11 l12 l13 l14:Bool} {u1 u2 n1 v1 n2 v2 n3 v3 n4 v4 n5 v5 n6 v6 n7 v7 n8 v8 n9 v9 U6 v10 U9 v11 n12 v12 n13 v13 n14 v14:Nat} {e1 e2 e3 e4 e5 e6 e7 e8 e9 V3 V4 e12 e13 e14:List (List AV)} {g0 g1 g2 g3 g4 z0 z1:aN} {m:nN} {q:aG} (ho:o=[g0,g1,g2,g3,⟨l1,false,n1,v1,e1⟩,⟨l2,false,n2,v2,e2⟩,⟨l3,false,n3,v3,e3⟩,⟨true,true,4,u1,[ig 23 m]⟩,g4,⟨true,true,22,u2,[yR 26 q]⟩,⟨l4,false,n4,v4,e4⟩,⟨l5,false,n5,v5,e5⟩,⟨l6,false,n6,v6,e6⟩,⟨l7,false,n7,v7,e7⟩,⟨l8,false,n8,v8,e8⟩,⟨l9,false,n9,v9,e9⟩,⟨l10,false,U6,v10,V3⟩,⟨l11,false,U9,v11,V4⟩,⟨l12,false,n12,v12,e12⟩,⟨l13,false,n13,v13,e13⟩,⟨l14,false,n14,v14,e14⟩,z0,z1]++ic m++yQ q)
  (ho':o'=[g0,g1,g2,g3]++ic m++[⟨true,true,4,u1,[ig 4 m]⟩,g4,⟨true,true,22,u2,[yR 10 q]⟩]++yQ q) (ht:∀z∈zG,wk (qP z.1 z.2 t') t') (hf:∀z∈zG,g0.lK z.1 z.2=g0/\g1.lK z.1 z.2=g1/\g2.lK z.1 z.2=g2/\g3.lK z.1 z.2=g3/\g4.lK z.1 z.2=g4) (hw:wk t t') (hc:eX 21 t'=true) (hc0:dE 21 [g0,g1,g2,g3,g4]=true):mX ⟨t,o⟩ ⟨t',o'⟩:=by
 subst ho;subst ho';have e:=λi j (h:(i,j)∈zG)=>hf (i,j) h
 have h:=λi j (h:(i,j)∈zG)=>ht (i,j) h
 simp only [ic,ig,yQ,yR,eA,eM,fY];refine (wT hw).trans ?_;refine (aR 4 23 rfl rfl ⟨rfl,rfl⟩ (by simp [(e 4 23 (by decide))];rfl) (h 4 23 (by decide))).trans ?_;refine (aR 5 24 rfl rfl ⟨rfl,rfl⟩ (by simp [(e 5 24 (by decide))];rfl) (h 5 24 (by decide))).trans ?_;refine (aR 6 25 rfl rfl ⟨rfl,rfl⟩ (by simp [(e 6 25 (by decide))];rfl) (h 6 25 (by decide))).trans ?_;refine (aR 10 26 rfl rfl ⟨rfl,rfl⟩ (by simp [(e 10 26 (by decide))];rfl) (h 10 26 (by decide))).trans ?_;refine (aR 11 27 rfl rfl ⟨rfl,rfl⟩ (by simp [(e 11 27 (by decide))];rfl) (h 11 27 (by decide))).trans ?_;refine (aR 12 28 rfl rfl ⟨rfl,rfl⟩ (by simp [(e 12 28 (by decide))];rfl) (h 12 28 (by decide))).trans ?_;refine (aR 13 29 rfl rfl ⟨rfl,rfl⟩ (by simp [(e 13 29 (by decide))];rfl) (h 13 29 (by decide))).trans ?_;refine (aR 14 30 rfl rfl ⟨rfl,rfl⟩ (by simp [(e 14 30 (by decide))];rfl) (h 14 30 (by decide))).trans ?_;refine (aR 15 31 rfl rfl ⟨rfl,rfl⟩ (by simp [(e 15 31 (by decide))];rfl) (h 15 31 (by decide))).trans ?_;refine (aR 16 32 rfl rfl ⟨rfl,rfl⟩ (by simp [(e 16 32 (by decide))];rfl) (h 16 32 (by decide))).trans ?_;refine (aR 17 33 rfl rfl ⟨rfl,rfl⟩ (by simp [(e 17 33 (by decide))];rfl) (h 17 33 (by decide))).trans ?_;refine (aR 18 34 rfl rfl ⟨rfl,rfl⟩ (by simp [(e 18 34 (by decide))];rfl) (h 18 34 (by decide))).trans ?_;refine (aR 19 35 rfl rfl ⟨rfl,rfl⟩ (by simp [(e 19 35 (by decide))];rfl) (h 19 35 (by decide))).trans ?_
 refine (aR 20 36 rfl rfl ⟨rfl,rfl⟩ (by simp [(e 20 36 (by decide))];rfl) (h 20 36 (by decide))).trans ?_;refine aX 21 (by simp) (mD _) hc ?_;simpa [dE,eX,closed,Ek] using hc0
def zH:List (Nat×Nat):=[(0,20),(1,21),(2,22),(3,23),(4,24),(5,25),(6,26),(7,27),(8,28),(9,29),(10,30),(11,31),(12,32),(13,33)]
theorem aE3 {t t':List AV} {o o':List aN} {l1 l2 l3 l4 l5 l6 l7 l8 l9 l10 l11 l12 l13 l14:Bool} {u1 u2 n1 v1 n2 v2 n3 v3 n4 v4 n5 v5 n6 v6 n7 v7 n8 v8 n9 v9 U6 v10 U9 v11 n12 v12 n13 v13 n14 v14:Nat} {e1 e2 e3 e4 e5 e6 e7 e8 e9 V3 V4 e12 e13 e14:List (List AV)} {g0 g1 z0 z1:aN} {m:nN} {q:aG} (ho:o=[⟨l1,false,n1,v1,e1⟩,⟨l2,false,n2,v2,e2⟩,⟨l3,false,n3,v3,e3⟩,⟨l4,false,n4,v4,e4⟩,⟨l5,false,n5,v5,e5⟩,⟨l6,false,n6,v6,e6⟩,⟨l7,false,n7,v7,e7⟩,⟨l8,false,n8,v8,e8⟩,⟨l9,false,n9,v9,e9⟩,⟨l10,false,U6,v10,V3⟩,⟨l11,false,U9,v11,V4⟩,⟨l12,false,n12,v12,e12⟩,⟨l13,false,n13,v13,e13⟩,⟨l14,false,n14,v14,e14⟩,⟨true,true,4,u1,[ig 20 m]⟩,⟨true,true,22,u2,[yR 23 q]⟩,g0,g1,z0,z1]++ic m++yQ q)
  (ho':o'=ic m++yQ q++[⟨true,true,4,u1,[ig 0 m]⟩,⟨true,true,22,u2,[yR 3 q]⟩,g0,g1]) (ht:∀z∈zH,wk (qP z.1 z.2 t') t') (hf:∀z∈zH,g0.lK z.1 z.2=g0/\g1.lK z.1 z.2=g1) (hw:wk t t') (hc:eX 18 t'=true) (hc0:dE 18 [g0,g1]=true):mX ⟨t,o⟩ ⟨t',o'⟩:=by
 subst ho;subst ho';have e:=λi j (h:(i,j)∈zH)=>hf (i,j) h
 have h:=λi j (h:(i,j)∈zH)=>ht (i,j) h
 simp only [ic,ig,yQ,yR,eA,eM,fY];refine (wT hw).trans ?_;refine (aR 0 20 rfl rfl ⟨rfl,rfl⟩ (by simp [(e 0 20 (by decide))];rfl) (h 0 20 (by decide))).trans ?_;refine (aR 1 21 rfl rfl ⟨rfl,rfl⟩ (by simp [(e 1 21 (by decide))];rfl) (h 1 21 (by decide))).trans ?_;refine (aR 2 22 rfl rfl ⟨rfl,rfl⟩ (by simp [(e 2 22 (by decide))];rfl) (h 2 22 (by decide))).trans ?_;refine (aR 3 23 rfl rfl ⟨rfl,rfl⟩ (by simp [(e 3 23 (by decide))];rfl) (h 3 23 (by decide))).trans ?_;refine (aR 4 24 rfl rfl ⟨rfl,rfl⟩ (by simp [(e 4 24 (by decide))];rfl) (h 4 24 (by decide))).trans ?_;refine (aR 5 25 rfl rfl ⟨rfl,rfl⟩ (by simp [(e 5 25 (by decide))];rfl) (h 5 25 (by decide))).trans ?_;refine (aR 6 26 rfl rfl ⟨rfl,rfl⟩ (by simp [(e 6 26 (by decide))];rfl) (h 6 26 (by decide))).trans ?_;refine (aR 7 27 rfl rfl ⟨rfl,rfl⟩ (by simp [(e 7 27 (by decide))];rfl) (h 7 27 (by decide))).trans ?_;refine (aR 8 28 rfl rfl ⟨rfl,rfl⟩ (by simp [(e 8 28 (by decide))];rfl) (h 8 28 (by decide))).trans ?_;refine (aR 9 29 rfl rfl ⟨rfl,rfl⟩ (by simp [(e 9 29 (by decide))];rfl) (h 9 29 (by decide))).trans ?_;refine (aR 10 30 rfl rfl ⟨rfl,rfl⟩ (by simp [(e 10 30 (by decide))];rfl) (h 10 30 (by decide))).trans ?_;refine (aR 11 31 rfl rfl ⟨rfl,rfl⟩ (by simp [(e 11 31 (by decide))];rfl) (h 11 31 (by decide))).trans ?_;refine (aR 12 32 rfl rfl ⟨rfl,rfl⟩ (by simp [(e 12 32 (by decide))];rfl) (h 12 32 (by decide))).trans ?_;refine (aR 13 33 rfl rfl ⟨rfl,rfl⟩ (by simp [(e 13 33 (by decide))];rfl) (h 13 33 (by decide))).trans ?_
 refine aX 18 (by simp) (mD _) hc ?_;simpa [dE,eX,closed,Ek] using hc0
end Go.Proofs.YtdcpobkemdacnaaGreatDoor
