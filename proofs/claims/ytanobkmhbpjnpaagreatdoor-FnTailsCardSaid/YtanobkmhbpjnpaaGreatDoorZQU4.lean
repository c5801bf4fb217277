/- Steps. No condition. -/
import Derived.Test.YtanobkmhbpjnpaaGreatDoorZQU3
set_option linter.all false
set_option maxRecDepth 4000
set_option maxHeartbeats 4000000
namespace Go.Proofs.YtanobkmhbpjnpaaGreatDoor
open Go.Aw Proofs.Tryz List IntKind
def yQ(c:UInt8):Bool:=(decide (97<=c.toNat)&&decide (c.toNat<=122)) || (decide (48<=c.toNat)&&decide (c.toNat<=57)) || decide (c.toNat=47)
def kP(s:bE):Bool:=s.all yQ&&(decide (1<=s.length)&&decide (s.length<=20))
def kg{s:bE}{k:Nat}(h:k<s.length)(hc:yQ s[k]=false):kP s=false:=by
 have:s.all yQ=false:=by rw[all_eq_false];exact⟨s[k],gR h,by simp[hc]⟩
 simp[kP,this]
def Xt{s:bE}(h:∀x∈s,yQ x=true):kP s=(decide ((1:Int)<=s.length)&&decide ((s.length:Int)<=20)):=by
 have:s.all yQ=true:=fW.2 h;have h1:decide ((1:Int)<=s.length)=decide (1<=s.length):=by simp only[sC];omega
 have h2:decide ((s.length:Int)<=20)=decide (s.length<=20):=by simp only[sC];omega
 rw[kP,this,h1,h2,AK]
def zX[aG prog](s:bE)(hl:s.length <= 1099511627776): Ok prog 241 [.str s] (.bool (kP s)) := by
  have h1 := jG s.length 1 20;refine dN aK func241 ntmps241 ?_;refine bK ?_;refine aT (ι := { k:Nat // k <= s.length /\ ∀ x ∈ s.take k, yQ x = true }) (λt o i => ⟨bP t [(3, .int .i64 i.1)], o⟩)
    (λi => s.length-i.1) ⟨0, by simp, by simp⟩ aP ?_
  rintro⟨k, hk, hi⟩ K1 hK1;simp only[bP, cH, cQ]at hK1 ⊢;have hk1 := tQ (k := k) (by omega);by_cases hlt:k<s.length
  · have hg := aE hlt
    have W := aA hk1 (aA hg hlt);repeat' first|refine wf ?_|(refine sq ?_ ?_<;>intro hc<;>try exact hc.elim)|fail
    all_goals first
      | exact hK1 _ ⟨k+1, by omega, fB hlt hi (by simp[yQ]; omega)⟩ aP (by simp only; omega)
      | (rw[kg hlt (by simp[yQ]; omega)]
         all_goals try(refine bA ?_; simp[bB, results241])
         done)
  · have W := hk1
    refine we ?_;all_goals try(refine bA ?_; simp[bB, results241])
    rw[Xt (nS (by omega) hi)]
def CJ[aG prog](s:bE)(hl:s.length <= 1099511627776): Ok prog 242 [.str s] (.bool (kP s)) := by
  have h1 := mM s.length 1 20;refine dN aK func242 ntmps242 ?_;refine bK ?_;refine aT (ι := { k:Nat // k <= s.length /\ ∀ x ∈ s.take k, yQ x = true }) (λt o i => ⟨bP t [(3, .int .i64 i.1)], o⟩)
    (λi => s.length-i.1) ⟨0, by simp, by simp⟩ aP ?_
  rintro⟨k, hk, hi⟩ K1 hK1;simp only[bP, cH, cQ]at hK1 ⊢;have hk1 := tQ (k := k) (by omega);by_cases hlt:k<s.length
  · have hg := aE hlt
    have W := aA hk1 (aA hg hlt);repeat' first|refine wf ?_|(refine sq ?_ ?_<;>intro hc<;>try exact hc.elim)|fail
    all_goals first
      | exact hK1 _ ⟨k+1, by omega, fB hlt hi (by simp[yQ]; omega)⟩ aP (by simp only; omega)
      | (rw[kg hlt (by simp[yQ]; omega)]
         all_goals try(refine bA ?_; simp[bB, results242])
         done)
  · have W := hk1
    refine we ?_;all_goals try(refine bA ?_; simp[bB, results242])
    rw[Xt (nS (by omega) hi)]
def ER(r:iO):Bool:=(decide (1<=r.kind)&&decide (r.kind<=5))&&xV r.to&&dW r.frm&&(r.eZ == [] || kP r.eZ)
def Ov[aG prog](r:iO)(hl:lZ r<=1099511627776):Ok prog 211 [.agg (eG r)] (.bool (ER r)):=by
 simp only[lZ]at hl;have c1:=jG r.kind 1 5;have c2:=yF r.to (by omega);have c3:=gY r.frm (by omega);have c4:=zX r.eZ (by omega);simp only[aS]at c2;unfold ER;generalize (decide (1<=r.kind)&&decide (r.kind<=5))=b1 at*;generalize xV r.to=b2 at*;generalize dW r.frm=b3 at*;generalize kP r.eZ=b4 at*;refine dN aK func211 ntmps211 ?_;have W:=trivial;repeat' first|refine wf ?_|(refine sq ?_ ?_<;>intro hc<;>try exact hc.elim)|fail
 all_goals try(refine bA ?_;simp[bB,results211])
 all_goals simp_all
def Ow[aG prog](r:iO)(hl:lZ r<=1099511627776):Ok prog 202 [.agg (eG r)] (.bool (ER r)):=by
 simp only[lZ]at hl;have c1:=mM r.kind 1 5;have c2:=Bg r.to (by omega);have c3:=jS r.frm (by omega);have c4:=CJ r.eZ (by omega);simp only[aS]at c2;unfold ER;generalize (decide (1<=r.kind)&&decide (r.kind<=5))=b1 at*;generalize xV r.to=b2 at*;generalize dW r.frm=b3 at*;generalize kP r.eZ=b4 at*;refine dN aK func202 ntmps202 ?_;have W:=trivial;repeat' first|refine wf ?_|(refine sq ?_ ?_<;>intro hc<;>try exact hc.elim)|fail
 all_goals try(refine bA ?_;simp[bB,results202])
 all_goals simp_all
def TE(p:gG)(kind:Int)(bN:bE):Bool:=
 if p.zD=false then true else if kind=2\/kind=5 then p.iN.any (λx=>x == bN)else if kind=3 then p.kH.any (λx=>x == bN)else if kind=4 then p.kJ.any (λx=>x == bN)else false
def aQu{l:List bE}{k:Nat}(h:k<l.length){n:bE}(hc:l[k]=n):l.any (λx=>x == n)=true:=
 any_eq_true.2 ⟨_,gR h,by simp[hc]⟩
def KN[aG prog](l:List bE)(n:bE)(hl:l.length<=1099511627776):Ok prog 251 [.sl .view 1 (l.map eD),.str n] (.bool (l.any (λx=>x == n))):=by
 refine dN aK func251 ntmps251 ?_;refine bK ?_;refine aT (ι:={k:Nat // k<=l.length/\∀x∈l.take k,(x == n)=false}) (λt o i=>⟨bP t [(5,.int .i64 i.1)],o⟩)
  (λi=>l.length-i.1) ⟨0,by simp,by simp⟩ aP ?_
 rintro⟨k,hk,hi⟩ K1 hK1;simp only[bP,cH,cQ]at hK1⊢;have hk1:=tQ (k:=k);by_cases hlt:k<l.length
 .have hg:=aE hlt;have W:=aA hk1 (aA hg hlt);repeat' first|refine wf ?_|(refine sq ?_ ?_<;>intro hc<;>try exact hc.elim)|fail
  .rw [aQu hlt hc];all_goals (try exact aO results251)
  .exact hK1 _ ⟨k+1,by omega,fB hlt hi (by simpa using hc)⟩ aP (by simp only;omega)
 .have W:=hk1;refine we ?_;all_goals try(refine bA ?_;simp[bB,results251])
  have:=nS (by omega) hi;simpa using this
def ko[aG prog](l:List bE)(n:bE)(hl:l.length<=1099511627776):Ok prog 264 [.sl .view 1 (l.map eD),.str n] (.int .i64 (wR (λx=>x == n) l)):=by
 refine dN aK func264 ntmps264 ?_;refine bK ?_;refine aT (ι:={k:Nat // k<=l.length/\∀x∈l.take k,(x == n)=false}) (λt o i=>⟨bP t [(8,.int .i64 i.1),(5,.aB)],o⟩)
  (λi=>l.length-i.1) ⟨0,by simp,by simp⟩ aP ?_
 rintro⟨k,hk,hi⟩ K1 hK1;simp only[bP,cH,cQ]at hK1⊢;have hk1:=tQ (k:=k);by_cases hlt:k<l.length
 .have hg:=aE hlt;have W:=aA hk1 (aA hg hlt);repeat' first|refine wf ?_|(refine sq ?_ ?_<;>intro hc<;>try exact hc.elim)|fail
  .all_goals try(refine bA ?_;simp[bB,results264])
   rw[Cb hlt (by simp[hc]) hi]
  .exact hK1 _ ⟨k+1,by omega,fB hlt hi (by simp only[EV];intro h;exact hc h.symm)⟩ aP (by simp only;omega)
 .have W:=hk1;refine we ?_;all_goals try(refine bA ?_;simp[bB,results264])
  rw[wI (nS (by omega) hi)]
def CK[aG prog](l:List bE)(n:bE)(hl:l.length<=1099511627776):Ok prog 243 [.sl .view 1 (l.map eD),.str n] (.bool (l.any (λx=>x == n))):=by
 have c1:=ko l n hl;refine dN aK func243 ntmps243 ?_;refine bK ?_;all_goals try(refine bA ?_;simp[bB,results243])
 exact Hz _ _
def VU[aG prog](p:gG)(kind:Int)(bN:bE)(hs:eT p<=1099511627776):Ok prog 212 [.agg (dA .view p),.int .i64 kind,.str bN] (.bool (TE p kind bN)):=by
 simp only[eT,dS]at hs;have c1:=KN p.iN bN (by omega);have c2:=KN p.kH bN (by omega);have c3:=KN p.kJ bN (by omega);unfold TE;refine dN aK func212 ntmps212 ?_;have W:=trivial;repeat' first|refine wf ?_|(refine sq ?_ ?_<;>intro hc<;>try exact hc.elim)|fail
 all_goals try(refine bA ?_;simp[bB,results212])
 all_goals simp_all
def VV[aG prog](p:gG)(kind:Int)(bN:bE)(hs:eT p<=1099511627776):Ok prog 203 [.agg (dA .view p),.int .i64 kind,.str bN] (.bool (TE p kind bN)):=by
 simp only[eT,dS]at hs;have c1:=CK p.iN bN (by omega);have c2:=CK p.kH bN (by omega);have c3:=CK p.kJ bN (by omega);unfold TE;refine dN aK func203 ntmps203 ?_;have W:=trivial;repeat' first|refine wf ?_|(refine sq ?_ ?_<;>intro hc<;>try exact hc.elim)|fail
 all_goals try(refine bA ?_;simp[bB,results203])
 all_goals simp_all
def iF(p:gG)(r:iO):Int:=if ER r=false\/(r.kind≠1/\TE p r.kind r.to.bN=false)then 2 else 1
def xX[aG prog](p:gG)(r:iO)(hs:eT p<=1099511627776)(hl:lZ r<=1099511627776):Ok prog 153 [.agg (dA .view p),.agg (eG r)] (.int .i64 (iF p r)):=by
 have c1:=Ov r hl;have c2:=VU p r.kind r.to.bN hs;simp only[eG]at c1;simp only[dA]at c2;unfold iF;refine dN aK func153 ntmps153 ?_;have W:=trivial;repeat' first|refine wf ?_|(refine sq ?_ ?_<;>intro hc<;>try exact hc.elim)|fail
 all_goals try(refine bA ?_;simp[bB,results153])
 all_goals simp_all
def xY[aG prog](p:gG)(r:iO)(hs:eT p<=1099511627776)(hl:lZ r<=1099511627776):Ok prog 147 [.agg (dA .view p),.agg (eG r)] (.int .i64 (iF p r)):=by
 have c1:=Ow r hl;have c2:=VV p r.kind r.to.bN hs;simp only[eG]at c1;simp only[dA]at c2;unfold iF;refine dN aK func147 ntmps147 ?_;have W:=trivial;repeat' first|refine wf ?_|(refine sq ?_ ?_<;>intro hc<;>try exact hc.elim)|fail
 all_goals try(refine bA ?_;simp[bB,results147])
 all_goals simp_all
def nV(l:List bE):Bool:=l.all dW&&decide (l.length<=4)
def qJ(p:gG):Bool:=
 if p.zD=true then nV p.iN&&nV p.kH&&nV p.kJ&&(p.uC == [] || kP p.uC)
 else p.iN == []&&p.kH == []&&p.kJ == []&&p.uC == []
def wQ:bE:=[115,99,114,105,112,116]
def Ag:bE:=[115,116,121,108,101]
def Ld:bE:=[105,109,103]
def qV:bE:=[110,111,110,99,101,32]
def words(w:bE)(l:List bE):bE:=Lib.join (w::l) [32]
def OU(n:bE):bE:=if n=[]then []else 59::(qV++n)
def jI(p:gG):bE:=
 if qJ p=true/\p.zD=true then words wQ p.iN++59::(words Ag p.kH++59::(words Ld p.kJ++OU p.uC))else []
def yL:gG:=⟨false,[],[],[],[]⟩
def uE(f:bE->bE)(s:bE):gG:=
 ⟨true,(dQ 32 ((dQ 59 s).getD 0 [])).tail,(dQ 32 ((dQ 59 s).getD 1 [])).tail,(dQ 32 ((dQ 59 s).getD 2 [])).tail,match (dQ 59 s)[3]? with|some x=>f x|none=>[]⟩
def xD(f:bE->bE)(s:bE):gG×Bool:=
 if s=[]then(yL,true)else if (dQ 59 s).length<3 then(yL,false)else if jI (uE f s)=s then(uE f s,true)else(yL,false)
def tY(x:bE):bE:=if qV.isPrefixOf x then x.drop 6 else x
def sK(x:bE):bE:=if 6<x.length then x.drop 6 else []
def Zf(c:UInt8)(hc:c.toNat<97):∀(s:bE),dW s=true->∀x∈s,x≠c:=by intro s h x hx e;subst e;simp only[dW,eK,fW]at h;have:=h.1 x hx;simp[lowerB]at this;omega
def Q9:∀(s:bE),kP s=true->∀x∈s,x≠59:=by intro s h x hx e;subst e;simp only[kP,eK,fW]at h;have:=h.1 _ hx;simp[yQ]at this
def Nk(w:bE)(hw:∀x∈w,x≠59):∀(l:List bE),l.all dW=true->∀x∈words w l,x≠59:=by
 intro l hl x hx;have key:∀(l:List bE),(∀s∈l,∀x∈s,x≠(59:UInt8))->∀x∈Lib.join l [32],x≠(59:UInt8):=by
  intro l;unfold Lib.join;induction l with
  |nil=>intro _ x hx;simp at hx
  |cons a l ih=>
   intro h x hx;cases l with
   |nil=>simp at hx;exact h a (by simp) x hx
   |cons b l=>
    rw[intercalate_cons_cons]at hx;simp only[fR]at hx;rcases hx with(hx|hx)|hx
    .exact h a (by simp) x hx
    .simp at hx;subst hx;decide
    .exact ih (λs hs=>h s (by simp[hs])) x hx
 refine key (w::l) (λs hs=> ?_) x hx;rcases mC.1 hs with rfl|hs
 .exact hw
 .exact Zf 59 (by decide) s (fW.1 hl s hs)
def aIk(p:gG)(h:qJ p=true)(hs:p.zD=true):
  dQ 59 (jI p)=words wQ p.iN::words Ag p.kH::words Ld p.kJ::(if p.uC=[]then []else [qV++p.uC]):=by
 simp only[qJ,hs,eS,nV,eK]at h;obtain⟨⟨⟨h1,h2⟩,h3⟩,h4⟩:=h;have hp:qJ p=true:=by simp only[qJ,hs,eS,nV,eK];exact⟨⟨⟨h1,h2⟩,h3⟩,h4⟩
 unfold jI;rw[eM ⟨hp,hs⟩,EM _ _ _ (Nk wQ (by decide) _ h1.1),EM _ _ _ (Nk Ag (by decide) _ h2.1)];unfold OU;by_cases hn:p.uC=[]
 .rw [eM hn,eM hn,eE,CG _ _ (Nk Ld (by decide) _ h3.1)]
 .rw [eC hn,eC hn,EM _ _ _ (Nk Ld (by decide) _ h3.1),CG];intro x hx;rcases fR.1 hx with hx|hx
  .exact (by decide:∀x∈qV,x≠59) x hx
  .have hv:kP p.uC=true:=by simp only[sA,Ds]at h4;exact h4.resolve_left hn
   exact Q9 _ hv x hx
def aRe{p:gG}{s:bE}(hs:s≠[])(h:jI p=s):qJ p=true/\p.zD=true:=by
 unfold jI at h;by_cases hc:qJ p=true/\p.zD=true
 .exact hc
 .rw [eC hc]at h;exact absurd h.symm hs
def Uv{f g:bE->bE}(hf:∀n,n≠[]->f (qV++n)=n)(hg:∀n,n≠[]->g (qV++n)=n){s:bE}(hs:s≠[])(h:jI (uE f s)=s):uE f s=uE g s:=by
 obtain⟨h1,h2⟩:=aRe hs h;have h3:=aIk _ h1 h2;rw[h]at h3;unfold uE;congr 1;cases hx:(dQ 59 s)[3]? with
 |none=>rfl
 |some x=>
  dsimp only;rw[h3]at hx;by_cases hn:(uE f s).uC=[]
  .rw [eM hn]at hx;simp at hx
  .rw [eC hn]at hx;simp only[AE,sR,eI]at hx;rw[<-hx,hf _ hn,hg _ hn]
def XO(n:bE)(h:n≠[]):tY (qV++n)=n:=by unfold tY;rw[eM (by simp[isPrefixOf_iff_prefix])];simp[qV]
def XP(n:bE)(h:n≠[]):sK (qV++n)=n:=by unfold sK;have:0<n.length:=AT.2 h;rw[eM (by simp[qV];omega)];simp[qV]
def S9(s:bE):xD tY s=xD sK s:=by
 unfold xD;by_cases hs:s=[]
 .rw [eM hs,eM hs]
 rw[eC hs,eC hs];by_cases hl:(dQ 59 s).length<3
 .rw [eM hl,eM hl]
 rw[eC hl,eC hl];by_cases h1:jI (uE tY s)=s
 .have e:=Uv XO XP hs h1;rw[eM h1,eM (by rw[<-e];exact h1),e]
 .by_cases h2:jI (uE sK s)=s
  .have e:=Uv XP XO hs h2;exact absurd (by rw[<-e];exact h2) h1
  .rw [eC h1,eC h2]
def kC(s:bE):gG×Bool:=xD sK s
end Go.Proofs.YtanobkmhbpjnpaaGreatDoor
