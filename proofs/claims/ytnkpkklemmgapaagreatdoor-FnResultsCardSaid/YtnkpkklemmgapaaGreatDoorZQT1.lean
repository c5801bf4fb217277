/- Proved here: steps towards the statement of this claim. No condition. -/
import Derived.Test.YtnkpkklemmgapaaGreatDoorZYShelf2
import Derived.Test.YtnkpkklemmgapaaGreatDoorZF7
import Derived.Test.YtnkpkklemmgapaaGreatDoorZQMK5
import Derived.Shelf.Spec.SlicesInsertGrow
import Derived.Test.YtnkpkklemmgapaaGreatDoorZQ1
set_option linter.all false
set_option maxRecDepth 4000
set_option maxHeartbeats 4000000
namespace Go.Proofs.YtnkpkklemmgapaaGreatDoor
open Go.Aw Proofs.Tryz List IntKind
def MF(s:aU):AV:=match yX s with|some v=> .iP [.int .i64 v,.bool true]|none=> .iP [.int .i64 0,.bool false]
theorem tH{s:aU}(h:yX s=none):MF s= .iP [.int .i64 0,.bool false]:=by rw[MF,h]
theorem De{s:aU}{v:Int}(h:yX s=some v):MF s= .iP [.int .i64 v,.bool true]:=by rw[MF,h]
theorem Uk{s:aU}(h:¬(1<=s.length/\s.length<=13)):yX s=none:=by
 cases hp:yX s with
 |none=>rfl
 |some v=>obtain⟨m,_,_,hs,hl,_⟩:=FQ hp;have:=JK m;rw[<-hs]at this;exact absurd ⟨by have:=CH.2 this;omega,hl⟩ h
theorem Yd{s:aU}{k:Nat}(hk:k<s.length)(h:¬(48<=s[k].toNat/\s[k].toNat<=57)):yX s=none:=by
 cases hp:yX s with
 |none=>rfl
 |some v=>
  obtain⟨m,_,_,hs,hl,hd⟩:=FQ hp;have hd':Lib.decFrom 0 s=some m:=by
   unfold Lib.decNat at hd;split at hd
   .cases hd
   .exact hd
  obtain⟨d,h2⟩:=Lib.digit_of_decFrom s 0 m hd' k s[k] (aE hk);unfold Lib.digitVal at h2;rw[eK h]at h2;cases h2
theorem aCw{s:aU}{m:Nat}(h0:s≠[])(hl:s.length<=13)(h:Lib.decFrom 0 s=some m):yX s=if m<=1000000000000/\Lib.decDigits m=s then some (m:Int)else none:=by
 have:Lib.decNat s=some m:=by unfold Lib.decNat;rw[eK (by simpa using h0)];exact h
 simp[yX,this,hl]
theorem aCx(m:Nat):Lib.itoa (m:Int)=Lib.decDigits m:=by unfold Lib.itoa;rw[eK (by omega)];rfl
theorem Ny[aB prog][eO prog](s:aU)(hl:s.length<=1099511627776):Ok prog 95 [.str s] (MF s):=by
 have c1:=eX (s.length:Int) 1 13;by_cases h1:1<=s.length/\s.length<=13
 .rw [show(decide ((1:Int)<=(s.length:Int))&&decide ((s.length:Int)<=13))=true by simp;omega]at c1;have h0:s≠[]:=by intro e;rw[e]at h1;simp at h1
  refine dL aO func95 ntmps95 ?_;refine dH ?_;refine aI (ι:={p:Nat×Nat // p.1<=s.length/\Lib.decFrom 0 (s.take p.1)=some p.2}) (λt o i=>⟨bH t [(4,.int .i64 (i.1.2:Int)),(5,.int .i64 (i.1.1:Int))],o⟩)
   (λi=>s.length-i.1.1) ⟨(0,0),by simp,by simp[Lib.decFrom]⟩ aG ?_
  rintro⟨⟨k,m⟩,⟨hk,hi⟩⟩ K1 hK1;simp only[bH,cH,cJ]at hK1 hk hi⊢;have hk1:=rE (k:=k);have aXe:m<10000000000000:=by have h2:=XE hi;have h3:(10:Nat) ^ (s.take k).length<=10 ^ 13:=Nat.pow_le_pow_right (by decide) (by simp;omega);omega
  by_cases hlt:k<s.length
  .have hg:=aE hlt;have c2:=eX (s[k].toNat:Int) 48 57;have hu:s[k].toNat<256:=s[k].toNat_lt;by_cases hd:48<=s[k].toNat/\s[k].toNat<=57
   .have hb:(decide ((48:Int)<=(s[k].toNat:Int))&&decide ((s[k].toNat:Int)<=57))=true:=by simp;omega
    rw[hb]at c2;have wu:IntKind.u8.wrap ((s[k].toNat:Int)-48)=((s[k].toNat-48:Nat):Int):=by rw[aCh]<;>omega
    have hw2:i64.wrap ((s[k].toNat-48:Nat):Int)=((s[k].toNat-48:Nat):Int):=by rw[wrap64]<;>omega
    have hw3:i64.wrap (10*(m:Int))=((10*m:Nat):Int):=by rw[wrap64]<;>omega
    have hw4:i64.wrap (((10*m:Nat):Int)+((s[k].toNat-48:Nat):Int))=((m*10+(s[k].toNat-48):Nat):Int):=by rw[wrap64]<;>omega
    have hw5:i64.wrap (s[k].toNat:Int)=(s[k].toNat:Int):=by rw[wrap64]<;>omega
    have hn:=Lib.decFrom_take s k 0 m s[k] _ hi hg (show Lib.digitVal s[k]=some (s[k].toNat-48)by unfold Lib.digitVal;rw[eW hd]);have W:=aA hk1 (aA hg (aA hlt (aA wu (aA hw2 (aA hw3 (aA hw4 hw5))))));refine we ?_;exact hK1 _ ⟨(k+1,m*10+(s[k].toNat-48)),by simp only;omega,hn⟩ (aG (by simp) (by simp;try omega)) (by simp only;omega)
   .have hb:(decide ((48:Int)<=(s[k].toNat:Int))&&decide ((s[k].toNat:Int)<=57))=false:=by simp only[rN,pL];omega
    rw[hb]at c2;have hw5:i64.wrap (s[k].toNat:Int)=(s[k].toNat:Int):=by rw[wrap64]<;>omega
    rw[tH (Yd hlt hd)]at*;have W:=aA hk1 (aA hg (aA hlt hw5));refine we ?_;exact aR results95
  .have hke:k=s.length:=by omega
   subst hke;rw[tW]at hi;have hp:=aCw h0 h1.2 hi;have c3:=dW (m:Int) (by omega);rw[aCx]at c3;by_cases hm:m<=1000000000000
   .by_cases he:Lib.decDigits m=s
    .rw [eW ⟨hm,he⟩]at hp;rw[De hp]at*;have hm':¬(1000000000000:Int)<(m:Int):=by omega
     have W:=aA hm' he;refine we ?_;exact aR results95
    .rw [eK (λh=>he h.2)]at hp
     rw[tH hp]at*;have hm':¬(1000000000000:Int)<(m:Int):=by omega
     have W:=aA hm' he;repeat' first|refine wf ?_|(refine sq ?_ ?_<;>intro hc<;>try exact hc.elim)|fail
     all_goals first
      |exact absurd ‹Lib.decDigits m=s› he
      |skip
     all_goals (try exact aR results95)
   .rw [eK (λh=>hm h.1)]at hp
    rw[tH hp]at*;have hm':(1000000000000:Int)<(m:Int):=by omega
    have W:=hm';refine we ?_;exact aR results95
 .rw [show(decide ((1:Int)<=(s.length:Int))&&decide ((s.length:Int)<=13))=false by simp only[rN,pL];omega]at c1;rw[tH (Uk h1)];refine dL aO func95 ntmps95 ?_;refine dH ?_;exact aR results95
end Go.Proofs.YtnkpkklemmgapaaGreatDoor
set_option maxRecDepth 100000
set_option maxHeartbeats 4000000
namespace Go.Proofs.YtnkpkklemmgapaaGreatDoor
open Go.Aw Go.Shelf Go.RowKit Proofs.Tryz List IntKind
theorem aCz{w:World}{E:Env}{a:aU}{vs:List Value}{fp:List Nat}(h:Rc w E [.str a] vs fp):vs=[.string ⟨a.toArray⟩]:=by
 match vs,h with
 |[],h=>simp[Rc]at h
 |[x],h=>simp only[Rc,R]at h;obtain⟨_,_,h1,_,_⟩:=h;rw[h1.1]
 |_::_::_,h=>simp[Rc]at h
theorem Ul[aB prog][eO prog](v:Int)(h1: -9223372036854775808<=v/\v<=9223372036854775807)(w:World)(hg:aB.holds prog w):
  Calls prog 44 #[.int .i64 v] w λe w'=>e= .returned (.string ⟨(Lib.itoa v).toArray⟩)/\Below w.heap.size w w':=by
 refine(xM v h1 w [.int .i64 v] hg (by simp[Rc,R])).mono λe w' h=> ?_
 obtain⟨x,fp,he,hr,_,_,h3,h4,h5⟩:=h;simp only[R]at hr;rw[hr.1]at he;exact⟨he,⟨h5.os,h5.tape,h5.output,h3,h4⟩⟩
theorem Nz[aB prog][eO prog][pM prog](s:aU)(hl:s.length<=1099511627776):Ok prog 85 [.str s] (MF s):=by
 intro w vs hg h;obtain rfl:=aCz h;have fin:∀{e:Ending} {w':World} {n:Int} {b:Bool},MF s= .iP [.int .i64 n,.bool b]->e= .returned (.tuple #[.int .i64 n,.bool b])->Below w.heap.size w w'->∃v fp,e= .returned v/\R w' (Ae w.heap.size w' fp) (MF s) v fp/\fp.Nodup/\
   (∀b∈fp,w.heap.size<=b/\b<w'.heap.size)/\w.heap.size<=w'.heap.size/\(∀b,b<w.heap.size->w'.heap[b]? =w.heap[b]?)/\nV w w':=
  λhp he hb=>⟨_,[],he,by rw[hp];simp[R,Rc],nodup_nil,by simp,hb.size,hb.block,Da hb⟩
 have A:=eu Tryz.LaysCx172 s (by omega) w hg
 go_enter func85,ntmps85
 go_wp2_with (go_at_call 131;refine A.mono ?_)
 rintro e w1 ⟨hA,hb⟩;clear A;have hg1:=aB.ZR w w1 hg λb h=>hb.block b (gO h (aB.UX w hg))
 rcases hA with⟨v,hv,rfl⟩|⟨hn,v,t,p,rfl⟩
 .rcases TT s with⟨v',hv',h0,h1,hi,hp⟩|⟨hp,hall⟩
  .obtain rfl:v=v':=by rw[hv]at hv';exact Lib.NumEnd.ok.inj hv'
   have d0:decide (v<0)=false:=by simpa using h0
   have d1:decide (1000000000000<v)=false:=by simpa using h1
   have C:=Ul v (by omega) w1 hg1;rw[hi]at C;have F:= @fin;clear hv hv' h0 h1 hi fin
   go_wp2_with (go_at_call 44;refine C.mono ?_)
   rintro e w2 ⟨rfl,hb2⟩;clear C
   go_wp2
   go_ret2
   exact F (De hp) rfl (hb.trans (hb2.mono hb.size))
  .have hr:=tH hp;have bd:=Lib.atoiAll_bounds hv;by_cases h0:v<0
   .have d0:decide (v<0)=true:=by simpa using h0
    clear hv h0 hall bd
    go_wp2
    go_ret2
    exact fin hr rfl hb
   by_cases h1:1000000000000<v
   .have d0:decide (v<0)=false:=by simpa using h0
    have d1:decide (1000000000000<v)=true:=by simpa using h1
    clear hv h0 h1 hall bd
    go_wp2
    go_ret2
    exact fin hr rfl hb
   .have hi:Lib.itoa v≠s:=by
     rcases hall v hv with h|h|h
     .exact absurd h h0
     .exact absurd h h1
     .exact h
    have d0:decide (v<0)=false:=by simpa using h0
    have d1:decide (1000000000000<v)=false:=by simpa using h1
    have C:=Ul v (by omega) w1 hg1;generalize Lib.itoa v=x at C hi;have d2:(x == s)=false:=by simpa using hi
    have d3:(x != s)=true:=by simpa using hi
    clear hv h0 h1 hall bd
    go_wp2_with (go_at_call 44;refine C.mono ?_)
    rintro e w2 ⟨rfl,hb2⟩;clear C
    go_wp2
    go_ret2
    exact fin hr rfl (hb.trans (hb2.mono hb.size))
 .have hp:yX s=none:=by
   rcases TT s with⟨v',hv',_⟩|⟨hp,_⟩
   .exact absurd hv' (hn _)
   .exact hp
  have hr:=tH hp;clear hn
  go_wp2
  go_ret2
  exact fin hr rfl hb
end Go.Proofs.YtnkpkklemmgapaaGreatDoor
set_option maxRecDepth 100000
set_option maxHeartbeats 4000000
namespace Go.Proofs.YtnkpkklemmgapaaGreatDoor
open Go.Aw Go.Shelf Go.RowKit Go.Lib Proofs.Tryz List IntKind
end Go.Proofs.YtnkpkklemmgapaaGreatDoor
set_option maxRecDepth 4000
set_option maxHeartbeats 4000000
namespace Go.Proofs.YtnkpkklemmgapaaGreatDoor
open Go.Aw Proofs.Tryz List IntKind
set_option maxRecDepth 100000
end Go.Proofs.YtnkpkklemmgapaaGreatDoor
set_option maxRecDepth 4000
set_option maxHeartbeats 4000000
namespace Go.Proofs.YtnkpkklemmgapaaGreatDoor
open Go.Aw Proofs.Tryz List IntKind
def qW(l:List aU):Bool:=l.all dJ&&decide (l.length<=4)
def Cv(p:fU):Bool:=
 if p.isSet=true then qW p.lG&&qW p.oC&&qW p.oD&&(p.vQ == [] || isValue p.vQ)
 else p.lG == []&&p.oC == []&&p.oD == []&&p.vQ == []
def Bv:aU:=[115,99,114,105,112,116]
def Ff:aU:=[115,116,121,108,101]
def YT:aU:=[105,109,103]
def mg:aU:=[110,111,110,99,101,32]
def words(w:aU)(l:List aU):aU:=Lib.join (w::l) [32]
def VT(n:aU):aU:=if n=[]then []else 59::(mg++n)
def nG(p:fU):aU:=
 if Cv p=true/\p.isSet=true then words Bv p.lG++59::(words Ff p.oC++59::(words YT p.oD++VT p.vQ))else []
def AJ:fU:=⟨false,[],[],[],[]⟩
def Bw(f:aU->aU)(s:aU):fU:=
 ⟨true,(dP 32 ((dP 59 s).getD 0 [])).tail,(dP 32 ((dP 59 s).getD 1 [])).tail,(dP 32 ((dP 59 s).getD 2 [])).tail,match (dP 59 s)[3]? with|some x=>f x|none=>[]⟩
def Fg(f:aU->aU)(s:aU):fU×Bool:=
 if s=[]then(AJ,true)else if (dP 59 s).length<3 then(AJ,false)else if nG (Bw f s)=s then(Bw f s,true)else(AJ,false)
def sJ(x:aU):aU:=if 6<x.length then x.drop 6 else []
def jH(s:aU):fU×Bool:=Fg sJ s
theorem aDu{l:List aU}{k:Nat}(h:k<l.length)(hc:dJ l[k]=false):qW l=false:=by
 have:l.all dJ=false:=by rw[all_eq_false];exact⟨l[k],hI h,by simp[hc]⟩
 simp[qW,this]
theorem M6{l:List aU}(h:∀x∈l,dJ x=true):qW l=decide ((l.length:Int)<=4):=by
 have:l.all dJ=true:=fW.2 h;have h1:decide ((l.length:Int)<=4)=decide (l.length<=4):=by simp only[pB];omega
 rw[qW,this,h1,tR]
theorem Du[aB prog](l:List aU)(hs:bV dI l<=1099511627776):Ok prog 221 [.sl .view 1 (l.map dQ)] (.bool (qW l)):=by
 simp only[bV]at hs;refine dL aO func221 ntmps221 ?_;refine dH ?_;refine aI (ι:={k:Nat // k<=l.length/\∀x∈l.take k,dJ x=true}) (λt o i=>⟨bH t [(3,.int .i64 i.1)],o⟩)
  (λi=>l.length-i.1) ⟨0,by simp,by simp⟩ aG ?_
 rintro⟨k,hk,hi⟩ K1 hK1;simp only[bH,cH,cJ]at hK1⊢;have hk1:=rE (k:=k);by_cases hlt:k<l.length
 .have hg:=aE hlt;have WC:=dD dI l k hlt;simp only[dI]at WC;have c1:=dZ l[k] (by omega);generalize hb:dJ l[k]=b at*;cases b
  .have W:=aA hk1 (aA hg hlt);refine we ?_;rw[aDu hlt hb];all_goals (try exact aR results221)
  .have W:=aA hk1 (aA hg hlt);refine we ?_;exact hK1 _ ⟨k+1,by omega,gB hlt hi hb⟩ aG (by simp only;omega)
 .have W:=hk1;refine we ?_;rw[M6 (qM (by omega) hi)];all_goals (try exact aR results221)
theorem NP[aB prog](p:fU)(hs:gF p<=1099511627776):Ok prog 182 [.agg (dK .view p)] (.bool (Cv p)):=by
 simp only[gF]at hs;have c1:=Du p.lG (by omega);have c2:=Du p.oC (by omega);have c3:=Du p.oD (by omega);have c4:=wJ p.vQ (by omega);have l1:(p.lG == [])=decide ((p.lG.length:Int)=0):=by cases p.lG<;>simp<;>omega
 have l2:(p.oC == [])=decide ((p.oC.length:Int)=0):=by cases p.oC<;>simp<;>omega
 have l3:(p.oD == [])=decide ((p.oD.length:Int)=0):=by cases p.oD<;>simp<;>omega
 unfold Cv;rw[l1,l2,l3];generalize qW p.lG=b1 at*;generalize qW p.oC=b2 at*;generalize qW p.oD=b3 at*;generalize isValue p.vQ=b4 at*;generalize hb:p.isSet=b at*;cases b
 .refine dL aO func182 ntmps182 ?_;have W:=hb;repeat' first|refine wf ?_|(refine sq ?_ ?_<;>intro hc<;>try exact hc.elim)|fail
  all_goals try(refine aZ ?_;simp[aX,results182,hb])
  all_goals simp_all
 .refine dL aO func182 ntmps182 ?_;have W:=hb;repeat' first|refine wf ?_|(refine sq ?_ ?_<;>intro hc<;>try exact hc.elim)|fail
  all_goals try(refine aZ ?_;simp[aX,results182,hb])
  all_goals simp_all
theorem mi(w:aU)(l:List aU)(x:aU):words w (l++[x])=words w l++32::x:=by unfold words;rw[Lib.join_cons,Lib.join_cons];simp[Lib.joinTail]
theorem M7(w:aU):words w []=w:=by simp[words,Lib.join_one]
theorem Gd(w:aU)(l:List aU):(words w l).length=w.length+l.length+bB dI l:=by
 unfold words;rw[Lib.join_cons];unfold Lib.joinTail;have:∀l:List aU,((l.map (([32]:aU)++ ·)).flatten).length=l.length+bB dI l:=by
  intro l;induction l with
  |nil=>simp[bB]
  |cons x l ih=>simp only[lA,pH,eM,ih,bB,dI,dT,eR];omega
 rw[eM,this];omega
theorem IW[aB prog](w:aU)(l:List aU)(hs:w.length+bV dI l<=1099511627776):Ok prog 183 [.str w,.sl .view 1 (l.map dQ)] (.str (words w l)):=by
 simp only[bV]at hs;refine dL aO func183 ntmps183 ?_;refine dH ?_;refine aI (ι:={k:Nat // k<=l.length}) (λt o i=>⟨bH t [(5,.int .i64 i.1),(0,.str (words w (l.take i.1)))],o⟩)
  (λi=>l.length-i.1) ⟨0,by simp⟩ (aG (by simp) (by simp[M7])) ?_
 rintro⟨k,hk⟩ K1 hK1;simp only[bH,cH,cJ]at hK1⊢;have hk1:=rE (k:=k);by_cases hlt:k<l.length
 .have hg:=aE hlt;have WC:=dD dI l k hlt;simp only[dI]at WC;have hw:=Gd w (l.take k);have hts:=uA dI l k;have htl:(l.take k).length<=l.length:=by simp;omega
  have e:l.take (k+1)=l.take k++[l[k]]:=by rw[take_add_one,hg];rfl
  have e2:=mi w (l.take k) l[k];rw[<-e]at e2;generalize words w (l.take k)=q at*;have W:=aA hk1 (aA hg hlt);refine we ?_;exact hK1 _ ⟨k+1,by omega⟩ (aG (by simp) (by simp[e2])) (by simp only;omega)
 .have htk:l.take k=l:=eJ (by omega);rw[htk];have W:=hk1;refine we ?_;exact aR results183
theorem LP{l:List aU}(h:qW l=true):l.length<=4/\bB dI l<=32:=by
 simp only[qW,eI,fX,fW]at h;have key:∀l:List aU,(∀x∈l,dJ x=true)->bB dI l<=8*l.length:=by
  intro l;induction l with
  |nil=>intro _;simp[bB]
  |cons x l ih=>
   intro hl;have h1:=hl x (by simp);simp only[dJ,eI,fX]at h1;have:=ih λy hy=>hl y (by simp[hy])
   simp only[bB,dI,dT];omega
 have:=key l h.1;exact⟨h.2,by omega⟩
theorem M8{s:aU}(h:(s == [])=true\/isValue s=true):s.length<=20:=by
 rcases h with h|h
 .simp only[CA]at h;simp[h]
 .simp only[isValue,eI,fX]at h;exact h.2.2
theorem mo{p:fU}(h:Cv p=true)(hs:p.isSet=true):(words Bv p.lG).length<=42/\(words Ff p.oC).length<=41/\(words YT p.oD).length<=39/\p.vQ.length<=20:=by simp only[Cv,hs,eV,eI,sE]at h;obtain⟨⟨⟨h1,h2⟩,h3⟩,h4⟩:=h;have k1:=LP h1;have k2:=LP h2;have k3:=LP h3;refine⟨by rw[Gd];simp[Bv];omega,by rw[Gd];simp[Ff];omega,by rw[Gd];simp[YT];omega,M8 h4⟩
theorem uO[aB prog](p:fU)(hs:gF p<=274877906944):Ok prog 139 [.agg (dK .view p)] (.str (nG p)):=by
 have c0:=NP p (by omega);simp only[dK]at c0;have hq:= @mo p;simp only[gF]at hs;have c1:Ok prog 183 [.str [115,99,114,105,112,116],.sl .view 1 (p.lG.map dQ)] (.str (words Bv p.lG)):=IW Bv p.lG (by simp[Bv];omega);have c2:Ok prog 183 [.str [115,116,121,108,101],.sl .view 1 (p.oC.map dQ)] (.str (words Ff p.oC)):=IW Ff p.oC (by simp[Ff];omega);have c3:Ok prog 183 [.str [105,109,103],.sl .view 1 (p.oD.map dQ)] (.str (words YT p.oD)):=IW YT p.oD (by simp[YT];omega);unfold nG;by_cases h1:Cv p=true
 .by_cases h2:p.isSet=true
  .obtain ⟨k1,k2,k3,k4⟩:=hq h1 h2;rw[eW ⟨h1,h2⟩];unfold VT;rw[h1,h2]at c0;generalize words Bv p.lG=q1 at*;generalize words Ff p.oC=q2 at*;generalize words YT p.oD=q3 at*;by_cases hn:p.vQ=[]
   .rw [eW hn];rw[hn]at c0;refine dL aO func139 ntmps139 ?_;have W:=aA h2 hn;have V:=aA h2 hn;refine we ?_;all_goals try(refine aZ ?_;simp[aX,results139,h2,hn])
   .rw [eK hn];refine dL aO func139 ntmps139 ?_;have W:=aA h2 hn;have V:=aA h2 hn;repeat' first|refine wf ?_|(refine sq ?_ ?_<;>intro hc<;>try exact hc.elim)|fail
    all_goals try(refine aZ ?_;simp[aX,results139,h2,hn,mg])
    all_goals (exact absurd (by assumption) hn)
  .rw [eK (λh=>h2 h.2)]
   simp only[Bs]at h2;rw[h1,h2]at c0;refine dL aO func139 ntmps139 ?_;have W:=h2;have V:=h2;refine we ?_;exact aR results139
 .rw [eK (λh=>h1 h.1)]
  simp only[Bs]at h1;rw[h1]at c0;refine dL aO func139 ntmps139 ?_;refine dH ?_;exact aR results139
def jX(x:gV):aU:=Lib.itoa x.parent++(58::(if x.name=[]then 39::x.text else x.name))
def jE(b:aY):aU:=Lib.join (iO jX b.nodes) [32]
theorem ZH(x:gV)(h:ED x):(jX x).length<=22+gK x:=by
 have:=jM x.parent h.1 h.2;unfold jX gK;split
 .simp only[eM,dT];omega
 .simp only[eM,dT];omega
theorem KP:∀(l:List gV),(∀y∈l,ED y)->((iO jX l).map (λx=>x.length)).sum<=22*l.length+bB gK l
 |[],_=>by simp[iO,bB]
 |x::l,h=>by have h1:=ZH x (h x (by simp));have ih:=KP l (λy hy=>h y (by simp[hy]));simp only[iO,lA,sum_cons,bB,dT]at ih⊢;omega
theorem AU(b:aY)(h:∀y∈b.nodes,ED y):(jE b).length<=23*b.nodes.length+bB gK b.nodes:=by have h1:=XC (iO jX b.nodes) [32];have h2:=KP b.nodes h;have h3:=fG jX b.nodes;simp only[As,h3]at h1;unfold jE;omega
theorem S9(l:List gV)(k:Nat)(h:k<l.length):Lib.join (iO jX (l.take (k+1))) [32]=if k=0 then jX l[k]else Lib.join (iO jX (l.take k)) [32]++[32]++jX l[k]:=by
 rw[nC jX l k h,TS];have hl:=fG jX (l.take k);by_cases h0:k=0
 .subst h0;simp
 .have hne:¬iO jX (l.take k)=[]:=λe=>by
   rw[e]at hl;simp at hl;omega
  rw[eK hne,eK h0]
theorem aE6(b:aY)(k:Nat)(h:∀y∈b.nodes,ED y):(Lib.join (iO jX (b.nodes.take k)) [32]).length<=23*b.nodes.length+bB gK b.nodes:=by
 have:=AU ⟨b.nodes.take k,[]⟩ (λy hy=>h y (pC hy));have h2:bB gK (b.nodes.take k)<=bB gK b.nodes:=uA gK b.nodes k;have h3:(b.nodes.take k).length<=b.nodes.length:=by simp;omega
 unfold jE at this;simp only at this;omega
theorem BF[aB prog][eO prog](b:aY)(hl:bV gK b.nodes<=33554432)(hr:∀y∈b.nodes,ED y):Ok prog 16 [.agg (aW .view b)] (.str (jE b)):=by
 simp only[bV]at hl;refine dL aO func16 ntmps16 ?_;have W:=trivial;repeat' first|refine st ?_|(refine nx ?_;refine so ?_)|(refine cx ?_;refine sc (λhc=>?_) (λhc=>?_)<;>try exact hc.elim)|(refine lx ?_;refine sp (λhc=>?_) (λhc=>?_)<;>try exact hc.elim)|refine sx ?_ ?_|refine sy ?_ ?_|fail
 refine aI (ι:={k:Nat // k<=b.nodes.length}) (λt o i=>⟨bH t [(4,.int .i64 i.1),(3,.str (Lib.join (iO jX (b.nodes.take i.1)) [32]))],o⟩)
  (λi=>b.nodes.length-i.1) ⟨0,by simp⟩ (aG (by simp) (by simp[Lib.join_nil])) ?_
 rintro⟨k,hk⟩ K1 hK1;simp only[bH,cH,cJ]at hK1⊢;have hk1:=rE (k:=k);by_cases hlt:k<b.nodes.length
 .have hg:=aE hlt;have hps:=S9 b.nodes k hlt;have hpl:=aE6 b k hr;have hz:=dD gK b.nodes k hlt;simp only[gK]at hz;have WH:=hr b.nodes[k] (hI hlt);have c1:=dW b.nodes[k].parent WH;have hil:=jM b.nodes[k].parent WH.1 WH.2;have Xq:jX b.nodes[k]=Lib.itoa b.nodes[k].parent++(58::(if b.nodes[k].name=[]then 39::b.nodes[k].text else b.nodes[k].name)):=rfl;rw[Xq]at hps;clear Xq;generalize Lib.itoa b.nodes[k].parent=q at*;have hg0:k=0->Lib.join (iO jX (b.nodes.take k)) [32]=[]:=λe=>by subst e;rfl
  generalize Lib.join (iO jX (b.nodes.take k)) [32]=g at*;by_cases h0:k=0
  .have e0:=hg0 h0;rw[eW h0]at hps;subst e0;subst h0;by_cases hn:b.nodes[0].name=[]
   .rw [eW hn]at hps;have W:=aA hk1 (aA hg (aA hlt hn));repeat' first|refine st ?_|(refine nx ?_;refine so ?_)|(refine cx ?_;refine sc (λhc=>?_) (λhc=>?_)<;>try exact hc.elim)|(refine lx ?_;refine sp (λhc=>?_) (λhc=>?_)<;>try exact hc.elim)|refine sx ?_ ?_|refine sy ?_ ?_|fail
    all_goals first|exact absurd hc hn|refine hK1 _ ⟨0+1,by omega⟩ (aG (by simp) (by simp[hps,hn])) (by simp only;omega)
   .rw [eK hn]at hps;have W:=aA hk1 (aA hg (aA hlt hn));repeat' first|refine st ?_|(refine nx ?_;refine so ?_)|(refine cx ?_;refine sc (λhc=>?_) (λhc=>?_)<;>try exact hc.elim)|(refine lx ?_;refine sp (λhc=>?_) (λhc=>?_)<;>try exact hc.elim)|refine sx ?_ ?_|refine sy ?_ ?_|fail
    all_goals first|exact absurd hc hn|refine hK1 _ ⟨0+1,by omega⟩ (aG (by simp) (by simp[hps,hn])) (by simp only;omega)
  .rw [eK h0]at hps;have h0':0<k:=by omega
   by_cases hn:b.nodes[k].name=[]
   .rw [eW hn]at hps;have W:=aA hk1 (aA hg (aA hlt (aA hn h0')));repeat' first|refine st ?_|(refine nx ?_;refine so ?_)|(refine cx ?_;refine sc (λhc=>?_) (λhc=>?_)<;>try exact hc.elim)|(refine lx ?_;refine sp (λhc=>?_) (λhc=>?_)<;>try exact hc.elim)|refine sx ?_ ?_|refine sy ?_ ?_|fail
    all_goals first|exact absurd hc hn|refine hK1 _ ⟨k+1,by omega⟩ (aG (by simp) (by simp[hps,hn])) (by simp only;omega)
   .rw [eK hn]at hps;have W:=aA hk1 (aA hg (aA hlt (aA hn h0')));repeat' first|refine st ?_|(refine nx ?_;refine so ?_)|(refine cx ?_;refine sc (λhc=>?_) (λhc=>?_)<;>try exact hc.elim)|(refine lx ?_;refine sp (λhc=>?_) (λhc=>?_)<;>try exact hc.elim)|refine sx ?_ ?_|refine sy ?_ ?_|fail
    all_goals first|exact absurd hc hn|refine hK1 _ ⟨k+1,by omega⟩ (aG (by simp) (by simp[hps,hn])) (by simp only;omega)
 .have htk:b.nodes.take k=b.nodes:=eJ (by omega);rw[htk];have W:=hk1;repeat' first|refine st ?_|(refine nx ?_;refine so ?_)|(refine cx ?_;refine sc (λhc=>?_) (λhc=>?_)<;>try exact hc.elim)|(refine lx ?_;refine sp (λhc=>?_) (λhc=>?_)<;>try exact hc.elim)|refine sx ?_ ?_|refine sy ?_ ?_|fail
  all_goals try(refine aZ ?_;simp[aX,results16,jE])
end Go.Proofs.YtnkpkklemmgapaaGreatDoor
