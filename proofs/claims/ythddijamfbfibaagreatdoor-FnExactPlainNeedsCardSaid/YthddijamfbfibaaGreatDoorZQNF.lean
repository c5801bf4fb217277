/- Proved here: steps towards the statement of this claim. No condition. -/
import Derived.Test.YthddijamfbfibaaGreatDoorZQ1
import Derived.Test.YthddijamfbfibaaGreatDoorZQY1
import Derived.Test.YthddijamfbfibaaGreatDoorZQR4
import Derived.Shelf.Small.Strs
import Derived.Shelf.SlLaysF0
set_option linter.all false
set_option maxRecDepth 4000
set_option maxHeartbeats 4000000
namespace Go.Proofs.YthddijamfbfibaaGreatDoor
open Go.Aw Proofs.Tryz List IntKind
def notFound:bA:=⟨404,1,[],0,false,[]⟩
theorem Bb[aB prog]:Ok prog 88 [] (.agg (bF notFound)):=by refine bM aG func88 ntmps88 ?_;refine aZ ?_;all_goals try(refine aR ?_;simp[aP,results88,notFound])
theorem Bc[aB prog]:Ok prog 64 [] (.agg (bF notFound)):=by refine bM aG func64 ntmps64 ?_;refine aZ ?_;all_goals try(refine aR ?_;simp[aP,results64,notFound])
end Go.Proofs.YthddijamfbfibaaGreatDoor
set_option maxRecDepth 4000
set_option maxHeartbeats 4000000
namespace Go.Proofs.YthddijamfbfibaaGreatDoor
open Go.Aw Proofs.Tryz List IntKind
def lU(l:List bB):Bool:=l.all cZ&&decide (l.length<=4)
def nX(p:eX):Bool:=
 if p.isSet=true then lU p.fC&&lU p.gY&&lU p.gZ&&(p.tQ == [] || isValue p.tQ)
 else p.fC == []&&p.gY == []&&p.gZ == []&&p.tQ == []
def wG:bB:=[115,99,114,105,112,116]
def zN:bB:=[115,116,121,108,101]
def LG:bB:=[105,109,103]
def pI:bB:=[110,111,110,99,101,32]
def words(w:bB)(l:List bB):bB:=Lib.join (w::l) [32]
def Za(n:bB):bB:=if n=[]then []else 59::(pI++n)
def iX(p:eX):bB:=
 if nX p=true/\p.isSet=true then words wG p.fC++59::(words zN p.gY++59::(words LG p.gZ++Za p.tQ))else []
def oV:eX:=⟨false,[],[],[],[]⟩
def sH(f:bB->bB)(s:bB):eX:=
 ⟨true,(dE 32 ((dE 59 s).getD 0 [])).tail,(dE 32 ((dE 59 s).getD 1 [])).tail,(dE 32 ((dE 59 s).getD 2 [])).tail,match (dE 59 s)[3]? with|some x=>f x|none=>[]⟩
def vJ(f:bB->bB)(s:bB):eX×Bool:=
 if s=[]then(oV,true)else if (dE 59 s).length<3 then(oV,false)else if iX (sH f s)=s then(sH f s,true)else(oV,false)
def rY(x:bB):bB:=if pI.isPrefixOf x then x.drop 6 else x
def qP(x:bB):bB:=if 6<x.length then x.drop 6 else []
theorem Zb(c:UInt8)(hc:c.toNat<97):∀(s:bB),cZ s=true->∀x∈s,x≠c:=by intro s h x hx e;subst e;simp only[cZ,eI,fR]at h;have:=h.1 x hx;simp[lowerB]at this;omega
theorem E9:∀(s:bB),isValue s=true->∀x∈s,x≠59:=by intro s h x hx e;subst e;simp only[isValue,eI,fR]at h;have:=h.1 _ hx;simp[xC]at this
theorem LH(w:bB)(hw:∀x∈w,x≠59):∀(l:List bB),l.all cZ=true->∀x∈words w l,x≠59:=by
 intro l hl x hx;have key:∀(l:List bB),(∀s∈l,∀x∈s,x≠(59:UInt8))->∀x∈Lib.join l [32],x≠(59:UInt8):=by
  intro l;unfold Lib.join;induction l with
  |nil=>intro _ x hx;simp at hx
  |cons a l ih=>
   intro h x hx;cases l with
   |nil=>simp at hx;exact h a (by simp) x hx
   |cons b l=>
    rw[intercalate_cons_cons]at hx;simp only[eW]at hx;rcases hx with(hx|hx)|hx
    .exact h a (by simp) x hx
    .simp at hx;subst hx;decide
    .exact ih (λs hs=>h s (by simp[hs])) x hx
 refine key (w::l) (λs hs=> ?_) x hx;rcases gS.1 hs with rfl|hs
 .exact hw
 .exact Zb 59 (by decide) s (fR.1 hl s hs)
theorem aGk(p:eX)(h:nX p=true)(hs:p.isSet=true):
  dE 59 (iX p)=words wG p.fC::words zN p.gY::words LG p.gZ::(if p.tQ=[]then []else [pI++p.tQ]):=by
 simp only[nX,hs,gE,lU,eI]at h;obtain⟨⟨⟨h1,h2⟩,h3⟩,h4⟩:=h;have hp:nX p=true:=by simp only[nX,hs,gE,lU,eI];exact⟨⟨⟨h1,h2⟩,h3⟩,h4⟩
 unfold iX;rw[eK ⟨hp,hs⟩,Ed _ _ _ (LH wG (by decide) _ h1.1),Ed _ _ _ (LH zN (by decide) _ h2.1)];unfold Za;by_cases hn:p.tQ=[]
 .rw [eK hn,eK hn,fX,BU _ _ (LH LG (by decide) _ h3.1)]
 .rw [cY hn,cY hn,Ed _ _ _ (LH LG (by decide) _ h3.1),BU];intro x hx;rcases eW.1 hx with hx|hx
  .exact (by decide:∀x∈pI,x≠59) x hx
  .have hv:isValue p.tQ=true:=by simp only[rL,tP]at h4;exact h4.resolve_left hn
   exact E9 _ hv x hx
theorem aPd{p:eX}{s:bB}(hs:s≠[])(h:iX p=s):nX p=true/\p.isSet=true:=by
 unfold iX at h;by_cases hc:nX p=true/\p.isSet=true
 .exact hc
 .rw [cY hc]at h;exact absurd h.symm hs
theorem Tn{f g:bB->bB}(hf:∀n,n≠[]->f (pI++n)=n)(hg:∀n,n≠[]->g (pI++n)=n){s:bB}(hs:s≠[])(h:iX (sH f s)=s):sH f s=sH g s:=by
 obtain⟨h1,h2⟩:=aPd hs h;have h3:=aGk _ h1 h2;rw[h]at h3;unfold sH;congr 1;cases hx:(dE 59 s)[3]? with
 |none=>rfl
 |some x=>
  dsimp only;rw[h3]at hx;by_cases hn:(sH f s).tQ=[]
  .rw [eK hn]at hx;simp at hx
  .rw [cY hn]at hx;simp only[At,tE,eE]at hx;rw[<-hx,hf _ hn,hg _ hn]
theorem XE(n:bB)(h:n≠[]):rY (pI++n)=n:=by unfold rY;rw[eK (by simp[isPrefixOf_iff_prefix])];simp[pI]
theorem XF(n:bB)(h:n≠[]):qP (pI++n)=n:=by unfold qP;have:0<n.length:=Dg.2 h;rw[eK (by simp[pI];omega)];simp[pI]
theorem F3(s:bB):vJ rY s=vJ qP s:=by
 unfold vJ;by_cases hs:s=[]
 .rw [eK hs,eK hs]
 rw[cY hs,cY hs];by_cases hl:(dE 59 s).length<3
 .rw [eK hl,eK hl]
 rw[cY hl,cY hl];by_cases h1:iX (sH rY s)=s
 .have e:=Tn XE XF hs h1;rw[eK h1,eK (by rw[<-e];exact h1),e]
 .by_cases h2:iX (sH qP s)=s
  .have e:=Tn XF XE hs h2;exact absurd (by rw[<-e];exact h2) h1
  .rw [cY h1,cY h2]
def fT(s:bB):eX×Bool:=vJ qP s
end Go.Proofs.YthddijamfbfibaaGreatDoor
set_option maxRecDepth 100000
set_option maxHeartbeats 4000000
namespace Go.Proofs.YthddijamfbfibaaGreatDoor
open Go.Aw Go.RowKit Go.Lib Proofs.Tryz List IntKind
theorem aPm(w:World)(vb vc:Nat)(hc:bK w vb 0 mkPairs):
  Calls prog 339 #[.slice (some ⟨vb,0,none⟩) 4 vc] w λe w'=>∃rb sb sc r0,e= .returned (.pointer (some ⟨rb,0,none⟩))/\w.heap.size<=rb/\rb<w'.heap.size/\w'.cell? ⟨rb,0,none⟩=some (.int .u32 0)/\w'.cell? ⟨rb,1,none⟩=some (.int .i32 0)/\w'.cell? ⟨rb,3,none⟩=some r0/\(∀j,w'.frozen? ⟨rb,j,none⟩=false)/\
   w'.cell? ⟨rb,4,none⟩=some (.slice (some ⟨sb,0,none⟩) 4 sc)/\bK w' sb 0 mkPairs/\sb≠rb/\Ext w w':=by
 obtain⟨inf,Kv,hq⟩:=tU.1 (show(prog.info? 9).map (λi=>(i.size,i.bytes))=some (1,16)by kernel_rfl);obtain⟨hsz,hby⟩:=Prod.mk.inj hq;obtain⟨z,hz0⟩:∃z,inf.zero=some z:=by
  have h:=Tryz.zsz9;simp only[iT,Kv]at h;cases hz:inf.zero with
  |none=>simp[hz]at h
  |some z=>exact⟨z,rfl⟩
 obtain⟨G,hG⟩:∃G,G=grownCap w 4 0 9:=⟨_,rfl⟩;obtain⟨ROW,hROW⟩:∃ROW:Array Value,ROW=mkPairs.toArray++Builtin.zeroCells z.cells (G-4):=⟨_,rfl⟩;have hap:∀ty,(Builtin.append_ #[53,53] ty #[.slice none 0 0,.slice (some ⟨vb,0,none⟩) 4 vc]).run prog w= .ok (.slice (some ⟨w.heap.size,0,none⟩) 4 G) (w.drew.alloc (.cells ROW 9)):=λty=>by have h:=(Go.Aw.JO (P:=prog) (w:=w) (tS:=53) (xT:=53) (ty:=ty) Tryz.underlying53 ⟨_,Tryz.underlying53,λk h=>by cases h⟩ Kv hz0 (base:=none) (sLen:=0) (sCap:=0) (n:=4) (x:= .slice (some ⟨vb,0,none⟩) 4 vc) (by simp[Builtin.lenOf]) (news:=mkPairs) (olds:=[]) (λw' hw=>by rw[hsz];exact kR rfl (show bK w' vb 0 mkPairs from λj v hv=>by simpa [World.cell?,hw]using hc j v hv)) (λw' hw=>by rw[hsz];rfl) (by rw[hby];decide) (by decide)).2 (by decide);rw[hROW,hG];simpa using h
 have hself:=fO w.drew (.cells ROW 9);have hold:=heap_alloc w.drew (.cells ROW 9);have hx1:Ext w (w.drew.alloc (.cells ROW 9)):=⟨by simp,hold,⟨rfl,rfl,rfl⟩⟩;have hs1:(w.drew.alloc (.cells ROW 9)).heap.size=w.heap.size+1:=by simp
 generalize w.drew.alloc (.cells ROW 9)=W1 at*;have hc1:bK W1 w.heap.size 0 mkPairs:=λj v hv=>by
  have Fg:W1.heap[w.heap.size]? =some (.cells ROW 9 (0,0)):=hself;have hj:=(cH.1 hv).1;have:ROW[j]? =some v:=by rw[hROW,rN (by simpa using hj)];simpa using hv
  simp[World.cell?,Fg,this]
 clear hself hold hROW;subst hG
 go_enter func339,ntmps339
 go_wp2_with (at_builtin;refine Lib.wpList_append_run _ rfl _ _ _ _ rfl _ _ rfl rfl _ _ (hap _) ?_)
 go_ret
 have hself:=fO W1 (.cells #[Value.int IntKind.u32 0,Value.int IntKind.i32 0,Value.int IntKind.u32 0,Value.nilIface,Value.slice (some ⟨w.heap.size,0,none⟩) 4 (grownCap w 4 0 9)] 353);have hold:=heap_alloc W1 (.cells #[Value.int IntKind.u32 0,Value.int IntKind.i32 0,Value.int IntKind.u32 0,Value.nilIface,Value.slice (some ⟨w.heap.size,0,none⟩) 4 (grownCap w 4 0 9)] 353);have hsz2:(W1.alloc (.cells #[Value.int IntKind.u32 0,Value.int IntKind.i32 0,Value.int IntKind.u32 0,Value.nilIface,Value.slice (some ⟨w.heap.size,0,none⟩) 4 (grownCap w 4 0 9)] 353)).heap.size=W1.heap.size+1:=by simp
 have hsm:mI W1 (W1.alloc (.cells #[Value.int IntKind.u32 0,Value.int IntKind.i32 0,Value.int IntKind.u32 0,Value.nilIface,Value.slice (some ⟨w.heap.size,0,none⟩) 4 (grownCap w 4 0 9)] 353)):=⟨rfl,rfl,rfl⟩;generalize W1.alloc (.cells #[Value.int IntKind.u32 0,Value.int IntKind.i32 0,Value.int IntKind.u32 0,Value.nilIface,Value.slice (some ⟨w.heap.size,0,none⟩) 4 (grownCap w 4 0 9)] 353)=W2 at*;have Fg:W2.heap[w.heap.size+1]? =some (.cells #[Value.int IntKind.u32 0,Value.int IntKind.i32 0,Value.int IntKind.u32 0,Value.nilIface,Value.slice (some ⟨w.heap.size,0,none⟩) 4 (grownCap w 4 0 9)] 353 (0,0)):=by rw[<-hs1];exact hself
 refine⟨w.heap.size+1,w.heap.size,grownCap w 4 0 9,.nilIface,rfl,by omega,by omega,by simp[World.cell?,Fg],by simp[World.cell?,Fg],by simp[World.cell?,Fg],λj=>by simp[World.frozen?,Fg],by simp[World.cell?,Fg],λj v hv=> ?_,by omega,hx1.trans ⟨by omega,λb hb=>hold b hb,hsm⟩⟩;have h2:=hold w.heap.size (by omega);have:=hc1 j v hv;simpa [World.cell?,h2]using this
theorem aCo(w:World)(s:ByteArray)(hs:s.size<=1099511627776):
  Calls prog 329 #[.string s] w λe w'=>e= .returned (.string ⟨(s.data.toList.map tV).toArray⟩)/\Ext w w':=by
 have hbs:∀w:World,(Instr.buildSlice 53 4 #[(0,.string ⟨#[91]⟩),(1,.string ⟨#[60]⟩),(2,.string ⟨#[93]⟩),(3,.string ⟨#[62]⟩)]).run prog w= .ok (.slice (some ⟨w.heap.size,0,none⟩) 4 4) (w.alloc (.cells mkPairs.toArray 9)):=λw=>by
  letI:aB prog:={holds:=λ_=>True,low:=0,Ru:=λ_ _=>Fo _,Yt:=λ_ _ _ _=>trivial}
  have h:=Go.Aw.vF (P:=prog) (t:=53) (e:=9) (n:=1) (by':=16) (len:=4) (vs:=mkPairs) (w:=w) (by kernel_rfl) (by kernel_rfl) rfl (by decide) (by intro v hv;simp only[mkPairs,gS,Bs,Gk]at hv;rcases hv with rfl|rfl|rfl|rfl<;>rfl);exact h
 go_enter func329,ntmps329
 go_wp2_with (simp only[hbs])
 have hself:=fO w (.cells #[Value.string ⟨#[91]⟩,Value.string ⟨#[60]⟩,Value.string ⟨#[93]⟩,Value.string ⟨#[62]⟩] 9);have hx:Ext w (w.alloc (.cells #[Value.string ⟨#[91]⟩,Value.string ⟨#[60]⟩,Value.string ⟨#[93]⟩,Value.string ⟨#[62]⟩] 9)):=⟨by simp,λb hb=>heap_alloc w _ b hb,⟨rfl,rfl,rfl⟩⟩;generalize w.alloc (.cells #[Value.string ⟨#[91]⟩,Value.string ⟨#[60]⟩,Value.string ⟨#[93]⟩,Value.string ⟨#[62]⟩] 9)=W1 at*;have hc:bK W1 w.heap.size 0 mkPairs:=λj v hv=>by have Fg:W1.heap[w.heap.size]? =some (.cells mkPairs.toArray 9 (0,0)):=hself;simp[World.cell?,Fg,hv]
 clear hself hbs;refine(aPm W1 w.heap.size 4 hc).mono ?_;rintro e W2 ⟨rb,sb,sc,r0,rfl,a1,a2,a3,a4,a5,a6,a7,a8,a9,a10⟩
 go_wp2_with (go_at_call 340;refine(H9 _ rb sb sc r0 s hs a2 a3 a4 a5 a6 a7 a8 a9).mono ?_;rintro e W3 ⟨rfl,b1,b2,b3⟩)
 go_ret
 exact⟨rfl,⟨lB hx.size (lB a10.size b1),λb hb=>by
  have h1:=hx.size;have h2:=a10.size;rw[b2 b (by omega) (by omega),a10.old b (by omega),hx.old b hb],(hx.same.trans a10.same).trans b3⟩⟩
theorem qX[aB prog](s:bB)(hs:s.length<=1099511627776):Ok prog 329 [.str s] (.str (s.map tV)):=by
 intro w vs hg hargs;obtain⟨c,rest,rfl⟩:∃c rest,vs=c::rest:=by
  cases vs with
  |nil=>simp[Rc]at hargs
  |cons c rest=>exact⟨c,rest,rfl⟩
 simp only[Rc,R]at hargs;obtain⟨f1,f2,⟨rfl,_⟩,h2,_⟩:=hargs;obtain rfl:rest=[]:=by
  cases rest with
  |nil=>rfl
  |cons=>simp[Rc]at h2
 refine(aCo w ⟨s.toArray⟩ (by simpa [ByteArray.size]using hs)).mono ?_;rintro e w' ⟨rfl,hx⟩;exact⟨.string ⟨(s.map tV).toArray⟩,[],by simp,by simp[R],by simp,by simp,hx.size,hx.old,hx.same⟩
end Go.Proofs.YthddijamfbfibaaGreatDoor
set_option maxRecDepth 4000
set_option maxHeartbeats 4000000
namespace Go.Proofs.YthddijamfbfibaaGreatDoor
open Go.Aw Proofs.Tryz List IntKind
theorem aCq(s:bB)(k:Nat)(h:k<s.length):(dK s)[k]? =some [.int .u8 s[k].toNat]:=by simp[dK,h]
theorem LY:∀s:bB,bytesOf (dK s)=some s
 |[]=>rfl
 |c::s=>by have ih:=LY s;simp only[dK,mB]at ih⊢;simp only[bytesOf,ih,mT,mA];simp
@[simp] theorem aQ6(f:Tg->Option Tg)(b:Bool)(l:bB):mX f b (dK l)=dK l:=by
 induction l with
 |nil=>rfl
 |cons x l ih=>simp only[dK,mB,mX,xO,rt]at ih⊢;rw[ih]
def Ej(s:bB)(k:Nat):bB:=(s.take k).map tV++s.drop k
theorem ni(s:bB)(k:Nat):(Ej s k).length=s.length:=by unfold Ej;rw[eR,mL,oT,AE];omega
theorem nk(s:bB)(k:Nat)(h:k<s.length):(Ej s k)[k]? =some s[k]:=by unfold Ej;rw[kO (by rw[mL,oT];omega)];simp[show min k s.length=k by omega,aE h]
theorem nu(s:bB)(k:Nat)(h:k<s.length):(Ej s k).set k (tV s[k])=Ej s (k+1):=by
 unfold Ej;have hl:((s.take k).map tV).length=k:=by simp;omega
 rw[tI _ _ (by omega),hl,tR,mC h,cU,eJ h,oY];simp
theorem aCr(s:bB)(k:Nat)(h:k<s.length)(hm:tV s[k]=s[k]):Ej s (k+1)=Ej s k:=by
 rw[<-nu s k h,hm];have e:=nk s k h;refine CA λi=> ?_
 rw[getElem?_set];split
 .rename_i hi;subst hi;rw[eK (by rw[ni];exact h)];exact e.symm
 .rfl
theorem ny(l:bB)(k:Nat)(c:UInt8):(dK l).set k [.int .u8 c.toNat]=dK (l.set k c):=by simp[dK,map_set]
theorem qY[aB prog](s:bB)(hl:s.length<=1099511627776):Ok prog 295 [.str s] (.str (s.map tV)):=by
 refine bM aG func295 ntmps295 ?_;have W:=trivial;repeat' first|refine wf ?_|(refine nx ?_;refine sb ?_)|(refine sq ?_ ?_<;>intro hc<;>try exact hc.elim)|fail
 refine aM (ι:={k:Nat // k<=s.length}) (λt o i=>⟨bC t [(4,.int .i64 i.1)],[⟨true,false,1,1,dK (Ej s i.1)⟩]⟩)
  (λi=>s.length-i.1) ⟨0,by simp⟩ (aK (by simp[Ej]) (by simp)) ?_
 rintro⟨k,hk⟩ K1 hK1;simp only[bC,cW,cU]at hK1⊢;have hk1:=oQ (k:=k);by_cases hlt:k<s.length
 .have IX:=ni s k;have hug:=nk s k hlt;have hbl:=nL (Ej s k);have hg:(dK (Ej s k))[k]? =some [.int .u8 s[k].toNat]:=by rw[aCq _ _ (by omega)];rw[aE (by omega)]at hug;rw[cQ hug]
  have hlb:k<(dK (Ej s k)).length:=by omega
  have hs1:=nu s k hlt;have oF:=aCr s k hlt;by_cases h1:s[k]=91
  .have h1i:((s[k].toNat:Nat):Int)=91:=by rw[h1];rfl
   have hset:(dK (Ej s k)).set k [.int .u8 60]=dK (Ej s (k+1)):=by rw[<-hs1,<-ny];simp[tV,h1]
   have W:=aA hk1 (aA hg (aA hbl (aA IX (aA h1i hset))));have V:=aA hlb hlt;repeat' first|refine wf ?_|(refine nx ?_;refine sb ?_)|(refine sq ?_ ?_<;>intro hc<;>try exact hc.elim)|fail
   all_goals exact hK1 _ ⟨k+1,by omega⟩ aK (by simp only;omega)
  .have h1i:¬((s[k].toNat:Nat):Int)=91:=λh=>h1 (Ek (by exact_mod_cast h))
   by_cases h2:s[k]=93
   .have h2i:((s[k].toNat:Nat):Int)=93:=by rw[h2];rfl
    have hset:(dK (Ej s k)).set k [.int .u8 62]=dK (Ej s (k+1)):=by rw[<-hs1,<-ny];simp[tV,h2]
    have W:=aA hk1 (aA hg (aA hbl (aA IX (aA h1i (aA h2i hset)))));have V:=aA hlb hlt;repeat' first|refine wf ?_|(refine nx ?_;refine sb ?_)|(refine sq ?_ ?_<;>intro hc<;>try exact hc.elim)|fail
    all_goals exact hK1 _ ⟨k+1,by omega⟩ aK (by simp only;omega)
   .have h2i:¬((s[k].toNat:Nat):Int)=93:=λh=>h2 (Ek (by exact_mod_cast h))
    have hsm:=oF (by simp[tV,h1,h2]);have W:=aA hk1 (aA hg (aA hbl (aA IX (aA h1i h2i))));have V:=aA hlb hlt;repeat' first|refine wf ?_|(refine nx ?_;refine sb ?_)|(refine sq ?_ ?_<;>intro hc<;>try exact hc.elim)|fail
    all_goals exact hK1 _ ⟨k+1,by omega⟩ (aK (by simp[hsm]) (by simp)) (by simp only;omega)
 .have hk2:k=s.length:=by omega
  have hup:Ej s k=s.map tV:=by simp[Ej,hk2]
  have IX:(s.map tV).length=s.length:=by simp
  have hbl:=nL (s.map tV);have hbo:=LY (s.map tV);rw[hup];have hnk:¬k<s.length:=hlt;have W:=aA hk1 (aA hbl (aA IX hbo));repeat' first|refine wf ?_|(refine nx ?_;refine sb ?_)|(refine sq ?_ ?_<;>intro hc<;>try exact hc.elim)|fail
  exact aF results295
def aX(b:bE)(n:bB):Int:=(((b.nodes.filter λx=>decide (x.name=n)).length:Nat):Int)
theorem TL(b:bE)(n:bB)(k:Nat)(h:k<b.nodes.length):((b.nodes.take (k+1)).filter λx=>decide (x.name=n)).length=((b.nodes.take k).filter λx=>decide (x.name=n)).length+(if b.nodes[k].name=n then 1 else 0):=by rw[eJ h,filter_append,eR];congr 1;by_cases hn:b.nodes[k].name=n<;>simp[hn]
end Go.Proofs.YthddijamfbfibaaGreatDoor
set_option maxRecDepth 100000
set_option maxHeartbeats 4000000
namespace Go.Proofs.YthddijamfbfibaaGreatDoor
open Go.Aw Go.Shelf Go.RowKit Proofs.Tryz List IntKind
theorem aHc{w:World}{E:Env}{a:bB}{vs:List Value}{fp:List Nat}(h:Rc w E [.str a] vs fp):vs=[.string ⟨a.toArray⟩]:=by
 match vs,h with
 |[],h=>simp[Rc]at h
 |[x],h=>simp only[Rc,R]at h;obtain⟨_,_,h1,_,_⟩:=h;rw[h1.1]
 |_::_::_,h=>simp[Rc]at h
theorem XR[aB prog][dM prog](v:Int)(h1: -9223372036854775808<=v/\v<=9223372036854775807)(w:World)(hg:aB.holds prog w):
  Calls prog 316 #[.int .i64 v] w λe w'=>e= .returned (.string ⟨(Lib.itoa v).toArray⟩)/\Below w.heap.size w w':=by
 refine(fI v h1 w [.int .i64 v] hg (by simp[Rc,R])).mono λe w' h=> ?_
 obtain⟨x,fp,he,hr,_,_,h3,h4,h5⟩:=h;simp only[R]at hr;rw[hr.1]at he;exact⟨he,⟨h5.os,h5.tape,h5.output,h3,h4⟩⟩
theorem Qs[aB prog][dM prog][oO prog](s:bB)(hl:s.length<=1099511627776):Ok prog 332 [.str s] (Px s):=by
 intro w vs hg h;obtain rfl:=aHc h;have fin:∀{e:Ending} {w':World} {n:Int} {b:Bool},Px s= .gM [.int .i64 n,.bool b]->e= .returned (.tuple #[.int .i64 n,.bool b])->Below w.heap.size w w'->∃v fp,e= .returned v/\R w' (BP w.heap.size w' fp) (Px s) v fp/\fp.Nodup/\
   (∀b∈fp,w.heap.size<=b/\b<w'.heap.size)/\w.heap.size<=w'.heap.size/\(∀b,b<w.heap.size->w'.heap[b]? =w.heap[b]?)/\mI w w':=
  λhp he hb=>⟨_,[],he,by rw[hp];simp[R,Rc],nodup_nil,by simp,hb.size,hb.block,ES hb⟩
 have A:=zq Tryz.LaysCx172 s (by omega) w hg
 go_enter func332,ntmps332
 go_wp2_with (go_at_call 341;refine A.mono ?_)
 rintro e w1 ⟨hA,hb⟩;clear A;have hg1:=aB.Yt w w1 hg λb h=>hb.block b (nF h (aB.Ru w hg))
 rcases hA with⟨v,hv,rfl⟩|⟨hn,v,t,p,rfl⟩
 .rcases Xn s with⟨v',hv',h0,h1,hi,hp⟩|⟨hp,hall⟩
  .obtain rfl:v=v':=by rw[hv]at hv';exact Lib.NumEnd.ok.inj hv'
   have d0:decide (v<0)=false:=by simpa using h0
   have d1:decide (1000000000000<v)=false:=by simpa using h1
   have C:=XR v (by omega) w1 hg1;rw[hi]at C;have F:= @fin;clear hv hv' h0 h1 hi fin
   go_wp2_with (go_at_call 316;refine C.mono ?_)
   rintro e w2 ⟨rfl,hb2⟩;clear C
   go_wp2
   go_ret2
   exact F (Fh hp) rfl (hb.trans (hb2.mono hb.size))
  .have hr:=vO hp;have bd:=Lib.atoiAll_bounds hv;by_cases h0:v<0
   .have d0:decide (v<0)=true:=by simpa using h0
    clear hv h0 hall bd
    go_wp2
    go_ret2
    exact fin hr rfl hb
   by_cases h1:1000000000000<v
   .have d0:decide (v<0)=false:=by simpa using h0
    have d1:decide (1000000000000<v)=true:=by simpa using h1
    clear hv h0 h1 hall bd
    go_wp2
    go_ret2
    exact fin hr rfl hb
   .have hi:Lib.itoa v≠s:=by
     rcases hall v hv with h|h|h
     .exact absurd h h0
     .exact absurd h h1
     .exact h
    have d0:decide (v<0)=false:=by simpa using h0
    have d1:decide (1000000000000<v)=false:=by simpa using h1
    have C:=XR v (by omega) w1 hg1;generalize Lib.itoa v=x at C hi;have d2:(x == s)=false:=by simpa using hi
    have d3:(x != s)=true:=by simpa using hi
    clear hv h0 h1 hall bd
    go_wp2_with (go_at_call 316;refine C.mono ?_)
    rintro e w2 ⟨rfl,hb2⟩;clear C
    go_wp2
    go_ret2
    exact fin hr rfl (hb.trans (hb2.mono hb.size))
 .have hp:Ba s=none:=by
   rcases Xn s with⟨v',hv',_⟩|⟨hp,_⟩
   .exact absurd hv' (hn _)
   .exact hp
  have hr:=vO hp;clear hn
  go_wp2
  go_ret2
  exact fin hr rfl hb
end Go.Proofs.YthddijamfbfibaaGreatDoor
set_option maxRecDepth 4000
set_option maxHeartbeats 4000000
namespace Go.Proofs.YthddijamfbfibaaGreatDoor
open Go.Aw Proofs.Tryz List IntKind
theorem iI[aB prog](a:aI)(hs:aL a<=274877906944):Ok prog 95 [.agg (aJ .view a)] (.agg (aJ .own a)):=by simp only[aL]at hs;have c1:=Jp a.bD (by omega);have c2:=VZ a.queue (by omega);have c3:=kX a.builder (by omega);simp only[bP]at hs;simp only[bN]at c1;simp only[aV]at c3;refine bM aG func95 ntmps95 ?_;refine aZ ?_;exact aF results95
theorem gK[aB prog](a:aI)(hs:aL a<=274877906944):Ok prog 71 [.agg (aJ .view a)] (.agg (aJ .own a)):=by simp only[aL]at hs;have c1:=We a.bD (by omega);have c2:=Wd a.queue (by omega);have c3:=kY a.builder (by omega);simp only[bP]at hs;simp only[bN]at c1;simp only[aV]at c3;refine bM aG func71 ntmps71 ?_;refine aZ ?_;exact aF results71
end Go.Proofs.YthddijamfbfibaaGreatDoor
set_option maxRecDepth 4000
set_option maxHeartbeats 400000
namespace Go.Proofs.YthddijamfbfibaaGreatDoor
open Go.Aw Proofs.Tryz List IntKind
def iR:bB:=[115,99,114,105,112,116]
def Jv:bB:=[108,105,110,107]
def Om:bB:=[105,109,103]
def Mg:bB:=[107,105,110,100]
def Dq:bB:=[109,111,100,117,108,101]
def oW:bB:=[115,114,99]
def Bp:bB:=[104,114,101,102]
def dR:bB:=[100,105,103,101,115,116]
def Oo:fV:=⟨0,xD,[],[]⟩
def Zu(k:Int)(v d b:bB):fV×Bool:=if (bY v b).2=true then(⟨k,(bY v b).1,b,d⟩,true)else(Oo,false)
def XW(t:bT)(b:bB):fV×Bool:=
 if t.kind=1 then
  if t.name=iR then
   if (aW t.attrs Mg).1=Dq then Zu 5 (aW t.attrs oW).1 [] b else Zu 2 (aW t.attrs oW).1 (aW t.attrs dR).1 b
  else if t.name=Jv then Zu 3 (aW t.attrs Bp).1 (aW t.attrs dR).1 b
  else if t.name=Om then Zu 4 (aW t.attrs oW).1 (aW t.attrs dR).1 b
  else(Oo,false)
 else(Oo,false)
theorem nE(l:List oU)(n:bB):(aW l n).1.length<=aY oZ l:=by
 unfold aW;split
 .rename_i a h;have:=pB h;have:=bS oZ this;simp only[oZ]at this⊢;omega
 .simp
end Go.Proofs.YthddijamfbfibaaGreatDoor
set_option maxRecDepth 4000
set_option maxHeartbeats 400000
namespace Go.Proofs.YthddijamfbfibaaGreatDoor
open Go.Aw Proofs.Tryz List IntKind
theorem aCv(s b:bB):aQ (addrOf s b)<=s.length+b.length:=by have:=vI 47 s;unfold addrOf;split<;>simp[aQ]<;>omega
theorem Mh(s b:bB):aQ (bY s b).1<=s.length+b.length:=by
 have:=aCv s b;unfold bY;split
 .exact this
 .simp [aQ,xD]
end Go.Proofs.YthddijamfbfibaaGreatDoor
set_option maxRecDepth 4000
set_option maxHeartbeats 400000
namespace Go.Proofs.YthddijamfbfibaaGreatDoor
open Go.Aw Proofs.Tryz List IntKind
def aHu(b:bB)(t:bT):Option fV:=if (XW t b).2=true then some (XW t b).1 else none
def K9(l:List bT)(b:bB):List fV:=l.filterMap (aHu b)
@[simp] theorem aHv(b:bB):K9 [] b=[]:=rfl
end Go.Proofs.YthddijamfbfibaaGreatDoor
set_option maxRecDepth 4000
set_option maxHeartbeats 400000
namespace Go.Proofs.YthddijamfbfibaaGreatDoor
open Go.Aw Proofs.Tryz List IntKind
end Go.Proofs.YthddijamfbfibaaGreatDoor
set_option maxRecDepth 4000
set_option maxHeartbeats 4000000
namespace Go.Proofs.YthddijamfbfibaaGreatDoor
open Go.Aw Proofs.Tryz List IntKind
theorem jE{α:Type}(f:α->Nat):∀a b:List α,aY f (a++b)=aY f a+aY f b
 |[],b=>by simp[aY]
 |x::xs,b=>by simp only[eA,aY,jE f xs b];omega
end Go.Proofs.YthddijamfbfibaaGreatDoor
set_option maxRecDepth 4000
set_option maxHeartbeats 4000000
namespace Go.Proofs.YthddijamfbfibaaGreatDoor
open Go.Aw Proofs.Tryz List IntKind
set_option maxRecDepth 100000
theorem aC0[aB prog](l:List dX)(m:dX)(i:Nat)(hi:i<l.length)(hn:l.length<=1099511627776):Lf prog 287 [.oN (.sl .own 5 (l.map eY)),.view (.int .i64 i),.oN (.sl .own 5 [eY m])] (.sl .own 5 ((l.take i++m::l.drop i).map eY)):=by
 have h:=aLp (P:=prog) (f:=287) (n:=l.length) (i:=i) (k:=5) (l:=l.map eY) (x:=eY m) (by simp) hi (by simp[all_map,FP]) (by simp[FP])
  (λw b off c C e fz olds news vb voff vc Cv ev ZY hb hz hc hol h1o hfit hnc hmax hne hvb hzv hcv hnl Qw=>by
   by_cases hr:l.length+1<=c
   .exact Zy w b off l.length c i vb voff vc C Cv e ev fz ZY olds news hi hr hb hz hc hol h1o hfit hmax hne hvb hzv hcv hnl Qw
   .exact qf w b off l.length c i vb voff vc C Cv e ev fz ZY olds news hi (by omega) hn hb hz hc hol h1o hfit hnc hmax hne hvb hzv hcv hnl Qw)
 rw[<-map_take,<-map_drop,sB]at h;simpa using h
theorem M8[aB prog](l:List dX)(m:dX)(hn:l.length<=1099511627776):Lf prog 287 [.oN (.sl .own 5 (l.map eY)),.view (.int .i64 l.length),.oN (.sl .own 5 [eY m])] (.sl .own 5 ((l++[m]).map eY)):=by
 have h:=mo (P:=prog) (f:=287) (n:=l.length) (k:=5) (l:=l.map eY) (x:=eY m) (by simp) (by simp[all_map,FP]) (by simp[FP])
  (λw base bb c olds news vb voff vc hol hnc hmax hcv hnl Qw hor=>by
   obtain⟨inf,Kv,hq⟩:=tU.1 (show(prog.info? 186).map (λi=>(i.size,i.bytes))=some (5,64)by kernel_rfl);obtain⟨hsz,hby⟩:=Prod.mk.inj hq;obtain⟨z,hz0,hzc⟩:=Ai Tryz.zsz186 Kv;have aH3:c<=9223372036854775807:=hmax;have holds:∀w',w'.heap=w.heap->(Builtin.firstCells inf.size l.length (.slice base l.length c)).run prog w'= .ok olds.toArray w':=by
    intro w' hw';rcases hor with⟨h0,h1⟩|⟨off,C,e,fz,rfl,hb,hz,hc,hfit⟩
    .rw [h0]at hol⊢;obtain rfl:=hS (by simpa using hol);cases base with
     |none=>simp[Builtin.firstCells]
     |some a'=>simp[Builtin.firstCells,loadCells,loadCellsFrom]
    .rw [hsz];exact kR hol (hc.heap hw')
   obtain⟨hroom,aD4⟩:=JO (P:=prog) (w:=w) (tS:=64) (xT:=64) (ty:=64) Tryz.underlying64 ⟨_,Tryz.underlying64,λk h=>by cases h⟩ Kv hz0 (base:=base) (sLen:=l.length) (sCap:=c) (n:=1) (x:= .slice (some ⟨vb,voff,none⟩) 1 vc)
    (by simp[Builtin.lenOf]) (news:=news) (olds:=olds) (λw' hw'=>by rw[hsz];exact kR (by omega) (hcv.heap hw')) holds (by rw[hby];omega) (by omega)
   by_cases hr:l.length+1<=c
   .rcases hor with⟨h0,h1⟩|⟨off,C,e,fz,rfl,hb,hz,hc,hfit⟩
    .omega
    .have hst:=uM (P:=prog) (off:=off+l.length*5) hb hz (by rw[hnl];have:=lE 5 hr;omega) Qw;have hrun:=hroom hr _ (by rw[hsz];simpa [addr_add]using hst);obtain⟨C',hI⟩:=Zl (k:=5) hb hz hc hol hnl hr hfit hmax;exact Jy w _ l.length c vb voff vc _ _ _ hnc aH3 (λh=>by cases h) (λty=>hrun) ⟨_,_,_,_,_,_,_,rfl,hI⟩
   .have hrun:=aD4 (by omega);have hgc:=grownCap_ge w (l.length+1) c 186;have hgm:grownCap w (l.length+1) c 186<=maxLen:=EV _ _ _ _ (by simp[maxLen];omega);obtain⟨C',hI⟩:=Zm (w:=w) (b:=bb) (n:=l.length) (k:=5) (cap:=grownCap w (l.length+1) c 186) (e:=186) (olds:=olds) (news:=news) (ROW:=olds.toArray++news.toArray++Builtin.zeroCells z.cells (grownCap w (l.length+1) c 186-(l.length+1)))
     (λj v hv=>by
      rw[show olds.toArray++news.toArray=(olds++news).toArray by simp,rN (by simpa using(cH.1 hv).1)];simpa using hv)
     (by simp only[FA,DB,size_zeroCells,hzc,hol,hnl];omega) hgc hgm
    exact Jy w _ l.length c vb voff vc _ _ _ hnc aH3 (λh=>by
     subst h;rcases hor with⟨h0,h1⟩|⟨off,C,e,fz,h,_⟩
     .exact h0
     .cases h) (λty=>hrun) ⟨_,_,_,_,_,_,_,rfl,hI⟩)
 simpa using h
theorem Yb[aB prog](l:List dX)(m:dX)(i:Nat)(hi:i<=l.length)(hn:l.length<=1099511627776):Lf prog 287 [.oN (.sl .own 5 (l.map eY)),.view (.int .i64 i),.oN (.sl .own 5 [eY m])] (.sl .own 5 ((l.take i++m::l.drop i).map eY)):=by
 by_cases h:i<l.length
 .exact aC0 l m i h hn
 .obtain rfl:i=l.length:=by omega
  simpa using M8 l m hn
end Go.Proofs.YthddijamfbfibaaGreatDoor
set_option linter.all false
namespace Go.Proofs.YthddijamfbfibaaGreatDoor
open Go.Shelf
def Tryz.Laysx106_ren:Go.Shelf.Ren:=⟨fun|106=>175|213=>241|265=>293|n=>n,fun|9=>9|3=>3|n=>n,fun|n=>n⟩
theorem Tryz.Laysx106:Go.Proofs.Lays.n106 Tryz.prog Tryz.Laysx106_ren:={
 mixed:=by kernel_rfl
 f106:=Tryz.func175.trans (congrArg some (by kernel_rfl))
 f213:=Tryz.func241.trans (congrArg some (by kernel_rfl))
 f265:=Tryz.func293.trans (congrArg some (by kernel_rfl))
 t3:=Tryz.underlying3
 a3:=Tryz.isAgg3
 z3:=Tryz.sizeOf3
 v3:=Tryz.zeroValue3
 t9:=Tryz.underlying9
 a9:=Tryz.isAgg9
 z9:=Tryz.sizeOf9
 v9:=Tryz.zeroValue9}
def Tryz.sortAd_ren:Go.Shelf.Ren:=⟨fun|6=>102|15=>174|14=>173|28=>239|29=>240|20=>231|21=>232|22=>233|23=>234|24=>235|25=>236|26=>237|27=>238|46=>288|47=>289|48=>290|49=>291|50=>292|57=>320|n=>n,fun|22=>33|24=>43|25=>143|3=>3|39=>206|0=>0|53=>257|55=>259|4=>4|46=>250|45=>249|50=>254|5=>5|9=>9|66=>299|70=>303|76=>322|77=>323|n=>n,fun|n=>n⟩
theorem Tryz.sortAd:Go.Proofs.SlLaysF0.n6 Tryz.prog Tryz.sortAd_ren:={
 mixed:=by kernel_rfl
 f6:=⟨Tryz.f102.name,by decide,Tryz.func102.trans (congrArg some (by kernel_rfl))⟩
 f14:=⟨Tryz.f173.name,by decide,Tryz.func173.trans (congrArg some (by kernel_rfl))⟩
 f15:=Tryz.func174.trans (congrArg some (by kernel_rfl))
 f20:=⟨Tryz.f231.name,by decide,Tryz.func231.trans (congrArg some (by kernel_rfl))⟩
 f21:=⟨Tryz.f232.name,by decide,Tryz.func232.trans (congrArg some (by kernel_rfl))⟩
 f22:=⟨Tryz.f233.name,by decide,Tryz.func233.trans (congrArg some (by kernel_rfl))⟩
 f23:=⟨Tryz.f234.name,by decide,Tryz.func234.trans (congrArg some (by kernel_rfl))⟩
 f24:=⟨Tryz.f235.name,by decide,Tryz.func235.trans (congrArg some (by kernel_rfl))⟩
 f25:=⟨Tryz.f236.name,by decide,Tryz.func236.trans (congrArg some (by kernel_rfl))⟩
 f26:=⟨Tryz.f237.name,by decide,Tryz.func237.trans (congrArg some (by kernel_rfl))⟩
 f27:=⟨Tryz.f238.name,by decide,Tryz.func238.trans (congrArg some (by kernel_rfl))⟩
 f28:=Tryz.func239.trans (congrArg some (by kernel_rfl))
 f29:=Tryz.func240.trans (congrArg some (by kernel_rfl))
 f46:=⟨Tryz.f288.name,by decide,Tryz.func288.trans (congrArg some (by kernel_rfl))⟩
 f47:=Tryz.func289.trans (congrArg some (by kernel_rfl))
 f48:=Tryz.func290.trans (congrArg some (by kernel_rfl))
 f49:=⟨Tryz.f291.name,by decide,Tryz.func291.trans (congrArg some (by kernel_rfl))⟩
 f50:=⟨Tryz.f292.name,by decide,Tryz.func292.trans (congrArg some (by kernel_rfl))⟩
 f57:=⟨Tryz.f320.name,by decide,Tryz.func320.trans (congrArg some (by kernel_rfl))⟩
 t0:=Tryz.underlying0
 a0:=Tryz.isAgg0
 z0:=Tryz.sizeOf0
 v0:=Tryz.zeroValue0
 t3:=Tryz.underlying3
 a3:=Tryz.isAgg3
 z3:=Tryz.sizeOf3
 v3:=Tryz.zeroValue3
 t4:=Tryz.underlying4
 a4:=Tryz.isAgg4
 z4:=Tryz.sizeOf4
 v4:=Tryz.zeroValue4
 t5:=Tryz.underlying5
 a5:=Tryz.isAgg5
 z5:=Tryz.sizeOf5
 v5:=Tryz.zeroValue5
 t9:=Tryz.underlying9
 a9:=Tryz.isAgg9
 z9:=Tryz.sizeOf9
 v9:=Tryz.zeroValue9
 t22:=Tryz.underlying33
 a22:=Tryz.isAgg33
 z22:=Tryz.sizeOf33
 v22:=Tryz.zeroValue33
 t25:=Tryz.underlying143
 a25:=Tryz.isAgg143
 z25:=Tryz.sizeOf143
 v25:=Tryz.zeroValue143
 t39:=Tryz.underlying206
 a39:=Tryz.isAgg206
 z39:=Tryz.sizeOf206
 v39:=Tryz.zeroValue206
 t45:=Tryz.underlying249
 a45:=Tryz.isAgg249
 z45:=Tryz.sizeOf249
 v45:=Tryz.zeroValue249
 t46:=Tryz.underlying250
 a46:=Tryz.isAgg250
 z46:=Tryz.sizeOf250
 v46:=Tryz.zeroValue250
 t50:=Tryz.underlying254
 a50:=Tryz.isAgg254
 z50:=Tryz.sizeOf254
 v50:=Tryz.zeroValue254
 t53:=Tryz.underlying257
 a53:=Tryz.isAgg257
 z53:=Tryz.sizeOf257
 v53:=Tryz.zeroValue257
 t55:=Tryz.underlying259
 a55:=Tryz.isAgg259
 z55:=Tryz.sizeOf259
 v55:=Tryz.zeroValue259
 t66:=Tryz.underlying299
 a66:=Tryz.isAgg299
 z66:=Tryz.sizeOf299
 v66:=Tryz.zeroValue299
 t70:=Tryz.underlying303
 a70:=Tryz.isAgg303
 z70:=Tryz.sizeOf303
 v70:=Tryz.zeroValue303
 t76:=Tryz.underlying322
 a76:=Tryz.isAgg322
 z76:=Tryz.sizeOf322
 v76:=Tryz.zeroValue322
 t77:=Tryz.underlying323
 a77:=Tryz.isAgg323
 z77:=Tryz.sizeOf323
 v77:=Tryz.zeroValue323}
end Go.Proofs.YthddijamfbfibaaGreatDoor
set_option maxRecDepth 4000
set_option maxHeartbeats 4000000
namespace Go.Proofs.YthddijamfbfibaaGreatDoor
open Go.Aw Proofs.Tryz List IntKind
theorem xX[aB prog](k:Int)(hk:k<=4611686018427387904):Ok prog 33 [.int .i64 k] (.str (AL k)):=by
 refine bM aG func33 ntmps33 ?_;have W:=trivial;repeat' first|refine wg ?_|(refine sq ?_ ?_<;>intro hc<;>try exact hc.elim)|fail
 .all_goals try(refine aR ?_;simp[aP,results33])
  all_goals (simp[AL];omega)
 .refine aM (ι:={p:Nat×Int×bB // 0<=p.2.1/\p.2.1<10 ^ p.1/\p.2.1<=4611686018427387904/\digits p.1 p.2.1 p.2.2=digits 20 k []/\p.2.2.length<=40-p.1/\p.1<=20}) (λt o i=>⟨bC t [(0,.int .i64 i.1.2.1),(3,.str i.1.2.2)],[]⟩)
   (λi=>i.1.1) ⟨(20,k,[]),by simp only;omega,by simp only;omega,hk,rfl,by simp,by simp⟩ aK ?_
  rintro⟨⟨f,n,out⟩,h0,hf,hn,hd,hl,hf2⟩ K1 hK1;simp only at h0 hf hn hd hl hf2;simp only[bC,cW,cU]at hK1⊢;have ht:n.tdiv 10=n/10:=Int.tdiv_eq_ediv_of_nonneg h0;have hw:i64.wrap (n.tdiv 10)=n.tdiv 10:=by rw[wrap64]<;>omega
  have h63:1+out.length<=9223372036854775807:=by omega
  by_cases aXr:0<n
  .cases f with
   |zero=>exfalso;simp at hf;omega
   |succ f=>
    have W:=aA hw (aA h63 aXr);refine wl ?_;refine hK1 _ ⟨(f,n.tdiv 10,digit n::out),by simp only;omega,?_,by simp only;omega,?_,by simp only[eN];omega,by simp only;omega⟩ (aT 0 rfl (by simp[digit]) (by simp) (by simp)) (by simp)
    .simp only[Int.pow_succ]at hf⊢;omega
    .rw [<-hd];simp only[digits];rw[cY (by omega)]
  .have:n=0:=by omega
   subst this;rw[M7 _ _ _ (by omega)]at hd;have h64:1+out.length<=9223372036854775807:=by omega
   have W:=h64;refine wl ?_;all_goals try(refine aR ?_;simp[aP,results33])
   all_goals (rw[hd];simp[AL];omega)
end Go.Proofs.YthddijamfbfibaaGreatDoor
