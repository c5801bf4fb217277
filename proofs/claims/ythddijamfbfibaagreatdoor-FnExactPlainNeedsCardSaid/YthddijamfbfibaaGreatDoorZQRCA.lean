/- Proved here: steps towards the statement of this claim. No condition. -/
import Derived.Test.YthddijamfbfibaaGreatDoorZRC8
import Derived.Test.YthddijamfbfibaaGreatDoorZQZ6
set_option linter.all false
set_option maxRecDepth 8000
set_option maxHeartbeats 8000000
namespace Go.Proofs.YthddijamfbfibaaGreatDoor
open Go.Aw Proofs.Tryz List IntKind
def Ot:bB:=[101,114,114,111,114]
def lZ(p:aI)(code:bB)(w:Bool):aI:=
 if (fZ code).2=true then lX p (fZ code).1 w else {p with log:=kC p.log Ot}
theorem Ck[aB prog][dM prog][bQ prog][oO prog](p:aI)(code:bB)(w:Bool)(hs:aL p<=536870912)(hc:code.length<=1073741824):Ok prog 157 [.agg (aJ .view p),.str code,.bool w] (.agg (aJ .own (lZ p code w))):=by
 have c1:=iI p (by omega);have c2:=Ci code hc;have xg:p.log.length<=536870912:=by simp only[aL,bP]at hs;omega
 obtain⟨b1,b2⟩:=Ad code;have c3:=Fu p Ot (by omega);have c4:=FW p (fZ code).1 w hs b1 b2;unfold lZ;generalize fZ code=g at*;obtain⟨l,ok⟩:=g;simp only at c2 c4⊢;generalize lX p l w=r at*;simp only[aJ,Ot]at c1 c3 c4⊢;cases ok
 .rw [cY (by simp)];refine bM aG func157 ntmps157 ?_;have W:=trivial;repeat' first|refine wg ?_|(refine nx ?_;refine sg (hc:=c3) (h:=?_))|(refine sq ?_ ?_<;>intro hc<;>try exact hc.elim)|fail
  exact aF results157
 .rw [eK rfl];refine bM aG func157 ntmps157 ?_;have W:=trivial;repeat' first|refine wg ?_|(refine nx ?_;refine sg (hc:=c4) (h:=?_))|(refine sq ?_ ?_<;>intro hc<;>try exact hc.elim)|fail
  exact aF results157
theorem PG(l:List bB)(h:¬l.length<40):∀ss:List bB,nP l ss=l
 |[]=>rfl
 |s::ss=>by
  show nP (kC l s) ss=l;have:kC l s=l:=by unfold kC;rw[cY h]
  rw[this];exact PG l h ss
theorem qc(l ss:List bB)(k:Nat)(h:¬(nP l (ss.take k)).length<40):nP l (ss.take k)=nP l ss:=by
 have e:nP l ss=nP (nP l (ss.take k)) (ss.drop k):=by unfold nP;rw[<-GB,oA]
 rw[e,PG _ h]
theorem Cm[aB prog][dM prog][bQ prog][oO prog](p:aI)(code:bB)(w:Bool)(hs:aL p<=536870912)(hc:code.length<=1073741824):Ok prog 122 [.agg (aJ .view p),.str code,.bool w] (.agg (aJ .own (lZ p code w))):=by
 have c1:=gK p (by omega);have c2:=Ch code hc;have xg:p.log.length<=536870912:=by simp only[aL,bP]at hs;omega
 obtain⟨b1,b2⟩:=Ad code;unfold lZ;generalize fZ code=g at*;obtain⟨l,ok⟩:=g;simp only at c2 b1 b2⊢;cases ok
 .rw [cY (by simp)];simp only[aJ,Ot]at c1⊢;clear b1 b2;by_cases h:p.log.length<40
  .have hi:(p.log.length:Int)<40:=by omega
   obtain⟨l1,hl1⟩:∃l1,l1=p.log++[[101,114,114,111,114]]:=⟨_,rfl⟩;have hap:p.log.map dC++[[.str [101,114,114,111,114]]]=l1.map dC:=by rw[hl1];simp
   have e:kC p.log [101,114,114,111,114]=l1:=by unfold kC;rw[eK h,hl1]
   rw[e];clear e hl1;refine bM aG func122 ntmps122 ?_;have W:=aA hi (aA hap xg);refine wl ?_;exact aF results122
  .have hi:¬(p.log.length:Int)<40:=by omega
   have e:kC p.log [101,114,114,111,114]=p.log:=by unfold kC;rw[cY h]
   rw[e];clear e;refine bM aG func122 ntmps122 ?_;have W:=hi;refine wl ?_;exact aF results122
 rw[eK rfl];have hsl:bP lJ p.aC<=1073741824:=by simp only[aL,bP]at*;omega
 have hsb:aU p.builder<=536870912:=by simp only[aL]at hs;omega
 have hqu:p.queue.length<=536870912:=by simp only[aL,bP]at hs;omega
 have c3:=FT p hsl;obtain⟨hb1,hb2⟩:=DJ p;have hb1':(dG p).length<=536870912:=by simp only[aL,bP]at hs;omega
 have c4:=En p.builder (dG p) l (by omega) b1 (λx hm=>by have:=b2 x hm;omega) (by omega) (λx hm=>by have:=hb2 x hm;omega) (xU p);obtain⟨z1,z2,z3,z4⟩:=Cg 60 p.builder (dG p) l (by omega) b1 b2 (xU p) (by omega) l.length (eC _);have hend:tH p.builder (dG p) l l.length=eH p.builder (dG p) l:=by simp[tH]
 rw[hend]at z1 z2 z3 z4;have c5:=Qu (eH p.builder (dG p) l).2.1 (by omega);obtain⟨y1,y2⟩:=He (eH p.builder (dG p) l).2.1;unfold lX;clear hb2 b2 hend;generalize dG p=ss at*;generalize eH p.builder ss l=g at*;obtain⟨b,wr,lg⟩:=g;simp only at c4 c5 z1 z2 z3 z4 y1 y2⊢;generalize vS wr=tk at*;simp only[aJ,aV]at c1 c3 c4;refine bM aG func122 ntmps122 ?_;refine gV ?_;obtain⟨Q,hQ⟩:∃Q:Nat->List bB,∀k,Q k=nP p.log (lg.take k):=⟨_,λ_=>rfl⟩;have hQ0:Q 0=p.log:=by rw[hQ];rfl
 have hQn:∀k,(¬k<lg.length\/¬(Q k).length<40)->nP p.log lg=Q k:=λk h=>by
  rw[hQ]at h⊢;rcases h with h|h
  .rw [cX (by omega)]
  .rw [qc _ _ _ h]
 have hQl:∀k,(Q k).length<=536870918:=λk=>by rw[hQ];have:=KA p.log (lg.take k);simp only[oT]at this⊢;omega
 have hQs:∀k (h:k<lg.length),(Q k).length<40->Q (k+1)=Q k++[lg[k]]:=λk h h4=>by rw[hQ,Hf _ _ _ h,<-hQ];unfold kC;rw[eK h4]
 refine aM (ι:={q:Nat×Nat // q.1<=lg.length/\1<=q.2}) (λt o i=>⟨bC t [(13,.int .i64 i.1.1),(15,.undef)],o.take 12++[⟨true,false,1,i.1.2,(Q i.1.1).map dC⟩,⟨true,true,22,0,[[.str p.addr.host,.str p.addr.path,.bool p.bD.isSet,.obj 2 1,.obj 3 1,.obj 4 1,.str p.bD.tQ,.str p.tok.rest,.obj 5 1,.bool p.ended,.obj 17 1,.obj 18 1,.obj 8 1,.obj 9 1,.obj 10 1,.int .i64 p.block,.int .i64 p.inline,.int .i64 p.deferred,.int .i64 p.iC,.obj 11 1,.obj 12 i.1.2,.bool p.pF]]⟩]++o.drop 14⟩)
  (λi=>lg.length-i.1.1) ⟨(0,1),by simp,by simp⟩ (aK (by simp[hQ0]) (by simp)) ?_
 rintro⟨⟨k,v⟩,hk,hv⟩ K1 hK1;simp only at hk hv;simp only[bC,cW,cU,eL,fW,pL,AW,eA,eM]at hK1⊢;have hk1:=oQ (k:=k);have hl1:=hQl k;have aH1:=hQn k;have fe:=hQs k;clear hQn hQl hQs hQ0 hQ;by_cases rO:k<lg.length/\(Q k).length<40
 .obtain ⟨hlt,Mi⟩:=rO;have hg:=aE hlt;have hnext:=fe hlt Mi;have aWx:((Q k).length:Int)<40:=by omega
  clear fe aH1;generalize hqk:Q k=q at*;have W:=aA hk1 (aA hg (aA hlt (aA aWx hl1)));refine wl ?_;all_goals refine hK1 _ ⟨(k+1,v+1),by simp only;omega,by simp only;omega⟩ (aT 20 ?_ (by simp) (by simp) (by simp[dB])) (by simp only;omega)
  all_goals simp[hnext]
 .have hfin:=aH1 (by omega);have hcase:¬k<lg.length\/(k<lg.length/\¬((Q k).length:Int)<40):=by omega
  rw[hfin];clear fe aH1 hK1 rO hfin;generalize Q k=q at*;have hbq:(tk.length+p.queue.length)*64<=140737488355328:=by omega
  rcases hcase with hlt|⟨hlt,Mi⟩
  .cases w
   .have W:=aA hk1 hlt;refine wl ?_;exact aF results122
   .rw [eK rfl];have W:=aA hk1 (aA hbq hlt);refine wl ?_;all_goals try(refine aR ?_;simp[aP,results122])
    all_goals (rw[<-oY];exact mO _)
  .cases w
   .have W:=aA hk1 (aA hlt Mi);refine wl ?_;exact aF results122
   .rw [eK rfl];have W:=aA hk1 (aA hbq (aA hlt Mi));refine wl ?_;all_goals try(refine aR ?_;simp[aP,results122])
    all_goals (rw[<-oY];exact mO _)
def oK(s:pR):Bool:= !(decide (s.mode=2)&& !s.done)
theorem Cs[aB prog](p:aI)(hl:p.aC.length<=1099511627776):Ok prog 121 [.agg (aJ .view p)] (.bool (p.aC.all oK)):=by
 refine bM aG func121 ntmps121 ?_;refine gV ?_;refine aM (ι:={k:Nat // k<=p.aC.length/\∀x∈p.aC.take k,oK x=true}) (λt o i=>⟨bC t [(3,.int .i64 i.1)],o⟩)
  (λi=>p.aC.length-i.1) ⟨0,by simp⟩ aK ?_
 rintro⟨k,hk,hpre⟩ K1 hK1;simp only[bC,cW,cU]at hK1⊢;have hk1:=oQ (k:=k);by_cases hlt:k<p.aC.length
 .have hg:=aE hlt;have W:=aA hk1 (aA hg hlt);repeat' first|refine wg ?_|(refine sq ?_ ?_<;>intro hc<;>try exact hc.elim)|fail
  all_goals first
   |(refine hK1 _ ⟨k+1,by omega,bZ hlt hpre (by simp_all[oK])⟩ aK (by simp only;omega);done)
   |skip
  all_goals try(refine aR ?_;simp[aP,results121])
  exact⟨_,fS hlt,by simp_all[oK]⟩
 .have W:=hk1;refine wl ?_;all_goals try(refine aR ?_;simp[aP,results121])
  exact iW (by omega) hpre
theorem Ct[aB prog](p:aI)(hl:p.aC.length<=1099511627776):Ok prog 156 [.agg (aJ .view p)] (.bool (p.aC.all oK)):=by
 refine bM aG func156 ntmps156 ?_;refine gV ?_;refine aM (ι:={k:Nat // k<=p.aC.length/\∀x∈p.aC.take k,oK x=true}) (λt o i=>⟨bC t [(8,.int .i64 i.1)],o⟩)
  (λi=>p.aC.length-i.1) ⟨0,by simp⟩ aK ?_
 rintro⟨k,hk,hpre⟩ K1 hK1;simp only[bC,cW,cU]at hK1⊢;have hk1:=oQ (k:=k);by_cases hlt:k<p.aC.length
 .have hg:=aE hlt;have W:=aA hk1 (aA hg hlt);repeat' first|refine wg ?_|(refine sq ?_ ?_<;>intro hc<;>try exact hc.elim)|fail
  all_goals first
   |(refine hK1 _ ⟨k+1,by omega,bZ hlt hpre (by simp_all[oK])⟩ (aT 1 rfl (by simp) (by simp) (by simp)) (by simp only;omega);done)
   |skip
  all_goals try(refine aR ?_;simp[aP,results156])
  exact⟨_,fS hlt,by simp_all[oK]⟩
 .have W:=hk1;refine wl ?_;all_goals try(refine aR ?_;simp[aP,results156])
  exact iW (by omega) hpre
def Fy(n:Int)(s:bB)(x:jP):bB:=if x.parent=n/\x.name=[]then s++x.text else s
def Cu(b:bE)(n:Int):bB:=b.nodes.foldl (Fy n) []
def Mr(b:bE)(n:Int)(k:Nat):bB:=(b.nodes.take k).foldl (Fy n) []
theorem Yd(b:bE)(n:Int)(k:Nat)(h:k<b.nodes.length):Mr b n (k+1)=Fy n (Mr b n k) b.nodes[k]:=by unfold Mr;rw[eJ h,GB];rfl
theorem N7(n:Int)(s:bB)(x:jP):(Fy n s x).length<=s.length+sU x:=by
 unfold Fy sU;split
 .simp only[eR];omega
 .omega
theorem aH5(n:Int):∀(l:List jP) (s:bB),(l.foldl (Fy n) s).length<=s.length+aY sU l
 |[],s=>by simp[aY]
 |x::l,s=>by have h1:=aH5 n l (Fy n s x);have h2:=N7 n s x;simp only[foldl_cons,aY];omega
theorem zT{α:Type}(f:α->Nat):∀(l:List α) (k:Nat),aY f (l.take k)<=aY f l
 |[],k=>by simp[aY]
 |x::l,0=>by simp[aY]
 |x::l,k+1=>by have:=zT f l k;simp only[eL,aY];omega
theorem Ug(b:bE)(n:Int)(k:Nat):(Mr b n k).length<=aU b:=by have h1:=aH5 n (b.nodes.take k) [];have h2:=zT sU b.nodes k;unfold Mr;simp only[aU,bP,eV]at*;omega
theorem Uh(b:bE)(n:Int):(Cu b n).length<=aU b:=by
 have:=Ug b n b.nodes.length;unfold Mr at this
 rwa[vA]at this
theorem Wq[aB prog](b:bE)(n:Int)(hs:aU b<=1099511627776):Ok prog 158 [.agg (aV .view b),.int .i64 n] (.str (Cu b n)):=by
 have hN:b.nodes.length<=1099511627776:=by simp only[aU,bP]at hs;omega
 have hend:Mr b n b.nodes.length=Cu b n:=by unfold Mr Cu;rw[vA]
 rw[<-hend];have hz:Mr b n 0=[]:=rfl;have VH:=λk=>Ug b n k
 have hsu:=Yd b n;generalize Mr b n=T at*;clear hend;refine bM aG func158 ntmps158 ?_;refine gV ?_;refine aM (ι:={k:Nat // k<=b.nodes.length}) (λt o i=>⟨bC t [(11,.int .i64 i.1),(5,.str (T i.1))],o⟩)
  (λi=>b.nodes.length-i.1) ⟨0,by simp⟩ (aK (by simp) (by simp[hz])) ?_
 rintro⟨k,hk⟩ K1 hK1;simp only[bC,cW,cU]at hK1⊢;have hk1:=oQ (k:=k);by_cases hlt:k<b.nodes.length
 .have hg:=aE hlt;have hnext:=hsu k hlt;have hl1:=VH (k+1);have hl0:=VH k;rw[hnext]at hl1;unfold Fy at hnext hl1;clear hsu VH hz;generalize hT:T k=s at*;by_cases hp:b.nodes[k].parent=n
  .by_cases hn:b.nodes[k].name=[]
   .rw [eK ⟨hp,hn⟩]at hnext hl1;rw[eR]at hl1;have aPw:s.length+b.nodes[k].text.length<=1099511627776:=by omega
    have W:=aA hk1 (aA hg (aA hlt (aA hp (aA hn aPw))));refine wl ?_;all_goals refine hK1 _ ⟨k+1,by omega⟩ (aT 1 rfl (by simp[hnext]) (by simp) (by simp)) (by simp only;omega)
   .rw [cY (by simp[hn])]at hnext hl1;have hne:b.nodes[k].name.isEmpty=false:=by cases hc:b.nodes[k].name with|nil=>exact absurd hc hn|cons _ _=>rfl
    have W:=aA hk1 (aA hg (aA hlt (aA hp (aA hn hne))));refine wl ?_;all_goals refine hK1 _ ⟨k+1,by omega⟩ (aT 1 rfl (by simp[hnext]) (by simp) (by simp)) (by simp only;omega)
  .rw [cY (by simp[hp])]at hnext hl1;have W:=aA hk1 (aA hg (aA hlt hp));refine wl ?_;all_goals refine hK1 _ ⟨k+1,by omega⟩ (aT 1 rfl (by simp[hnext]) (by simp) (by simp)) (by simp only;omega)
 .have hkl:k=b.nodes.length:=by omega
  subst hkl;have W:=hk1;refine wl ?_;exact aF results158
theorem Ws[aB prog](b:bE)(n:Int)(hs:aU b<=1099511627776):Ok prog 123 [.agg (aV .view b),.int .i64 n] (.str (Cu b n)):=by
 have hN:b.nodes.length<=1099511627776:=by simp only[aU,bP]at hs;omega
 have hend:Mr b n b.nodes.length=Cu b n:=by unfold Mr Cu;rw[vA]
 rw[<-hend];have hz:Mr b n 0=[]:=rfl;have VH:=λk=>Ug b n k
 have hsu:=Yd b n;generalize Mr b n=T at*;clear hend;refine bM aG func123 ntmps123 ?_;refine gV ?_;refine aM (ι:={k:Nat // k<=b.nodes.length}) (λt o i=>⟨bC t [(6,.int .i64 i.1),(5,.str (T i.1))],o⟩)
  (λi=>b.nodes.length-i.1) ⟨0,by simp⟩ (aK (by simp) (by simp[hz])) ?_
 rintro⟨k,hk⟩ K1 hK1;simp only[bC,cW,cU]at hK1⊢;have hk1:=oQ (k:=k);by_cases hlt:k<b.nodes.length
 .have hg:=aE hlt;have hnext:=hsu k hlt;have hl1:=VH (k+1);have hl0:=VH k;rw[hnext]at hl1;unfold Fy at hnext hl1;clear hsu VH hz;generalize hT:T k=s at*;by_cases hp:b.nodes[k].parent=n
  .by_cases hn:b.nodes[k].name=[]
   .rw [eK ⟨hp,hn⟩]at hnext hl1;rw[eR]at hl1;have aPw:s.length+b.nodes[k].text.length<=1099511627776:=by omega
    have W:=aA hk1 (aA hg (aA hlt (aA hp (aA hn aPw))));refine wl ?_;all_goals refine hK1 _ ⟨k+1,by omega⟩ (aK (by simp) (by simp[hnext])) (by simp only;omega)
   .rw [cY (by simp[hn])]at hnext hl1;have hne:b.nodes[k].name.isEmpty=false:=by cases hc:b.nodes[k].name with|nil=>exact absurd hc hn|cons _ _=>rfl
    have W:=aA hk1 (aA hg (aA hlt (aA hp (aA hn hne))));refine wl ?_;all_goals refine hK1 _ ⟨k+1,by omega⟩ (aK (by simp) (by simp[hnext])) (by simp only;omega)
  .rw [cY (by simp[hp])]at hnext hl1;have W:=aA hk1 (aA hg (aA hlt hp));refine wl ?_;all_goals refine hK1 _ ⟨k+1,by omega⟩ (aK (by simp) (by simp[hnext])) (by simp only;omega)
 .have hkl:k=b.nodes.length:=by omega
  subst hkl;have W:=hk1;refine wl ?_;exact aF results123
def nT(p:aI)(a:aD):Bool:=
 match p.aO.find? (kW a)with
 |some m=>m.done
 |none=>false
def xN(p:aI)(a:aD):Bool:=(dY p a).all (nT p)
def uH(p:aI)(a:aD):Bool:= !(dY p a).all (lL p)
theorem ZC{α:Type}{f:α->Bool}{l:List α}(k:Nat)(hk:k<l.length)(h:f l[k]=false):l.all f=false:=by
 cases hb:l.all f with
 |false=>rfl
 |true=>rw[fR]at hb;have:=hb l[k] (fS hk);rw[h]at this;cases this
theorem Ro{α:Type}{f:α->Bool}{l:List α}(h:∀x∈l,f x=true):l.all f=true:=fR.2 h
theorem ME[aB prog][bQ prog](p:aI)(a:aD)(hs:bP bL p.aO+aQ a<=16777216):Ok prog 162 [.agg (aJ .view p),.agg (aH a)] (.bool (xN p a)):=by
 obtain⟨hB,_⟩:=HV p a hs;obtain⟨z1,_,_⟩:=MC p a hs;have c0:=Cy p _ hB a (by simp);have cm:=λb=>yX p b (by simp only[aL,bP]at hs;omega)
 unfold xN;generalize dY p a=L at*;simp only[aH,aJ]at c0 cm;have hlen:(L.map aH).length=L.length:=by simp
 refine bM aG func162 ntmps162 ?_;refine aZ ?_;refine aM (ι:={k:Nat // k<=L.length/\∀x∈L.take k,nT p x=true}) (λt o i=>⟨bC t [(12,.int .i64 i.1),(13,.undef),(14,.undef),(15,.undef),(6,.undef),(7,.undef)],o.take 3⟩)
  (λi=>L.length-i.1) ⟨0,by simp,by simp⟩ aK ?_
 rintro⟨k,hk,hpre⟩ K1 hK1;simp only[bC,cW,cU]at hK1⊢;have hk1:=oQ (k:=k);by_cases hlt:k<L.length
 .have hg:=aE hlt;have c1:=cm L[k];have hnext:nT p L[k]=true->∀x∈L.take (k+1),nT p x=true:=λh=>bZ hlt hpre h
  have jZ:nT p L[k]=false->L.all (nT p)=false:=λh=>ZC k hlt h
  rcases lT (kW L[k]) p.aO with⟨hi,hf⟩|⟨j,hj,hi,hf⟩
  .have hd:nT p L[k]=false:=by unfold nT;rw[hf]
   rw[hi]at c1;have jK:=jZ hd;have W:=aA hk1 (aA hg hlt);refine we ?_;all_goals try(refine aR ?_;simp[aP,results162,jK])
  .have hd:nT p L[k]=p.aO[j].done:=by unfold nT;rw[hf]
   rw[hi]at c1;have hgm:=aE hj;have hj0:¬(j:Int)<0:=by omega
   cases rF:p.aO[j].done
   .have jK:=jZ (hd.trans rF);have W:=aA hk1 (aA hg (aA hlt (aA hgm (aA hj (aA hj0 rF)))));refine we ?_;all_goals try(refine aR ?_;simp[aP,results162,jK])
   .have hnx:=hnext (hd.trans rF);have W:=aA hk1 (aA hg (aA hlt (aA hgm (aA hj (aA hj0 rF)))));refine we ?_;exact hK1 _ ⟨k+1,by omega,hnx⟩ (aT 3) (by simp only;omega)
 .have jK:L.all (nT p)=true:=Ro (by have:=hpre;rwa[cX (by omega)]at this);have W:=aA hk1 hlt;refine we ?_;all_goals try(refine aR ?_;simp[aP,results162,jK])
theorem MF[aB prog][bQ prog](p:aI)(a:aD)(hs:bP bL p.aO+aQ a<=16777216):Ok prog 127 [.agg (aJ .view p),.agg (aH a)] (.bool (xN p a)):=by
 obtain⟨hB,_⟩:=HV p a hs;obtain⟨z1,_,_⟩:=MC p a hs;have c0:=Cz p _ hB a (by simp);have cm:=λb=>Ar p b (by simp only[aL,bP]at hs;omega)
 unfold xN;generalize dY p a=L at*;simp only[aH,aJ]at c0 cm;have hlen:(L.map aH).length=L.length:=by simp
 refine bM aG func127 ntmps127 ?_;refine aZ ?_;refine aM (ι:={k:Nat // k<=L.length/\∀x∈L.take k,nT p x=true}) (λt o i=>⟨bC t [(6,.int .i64 i.1),(7,.undef)],o⟩)
  (λi=>L.length-i.1) ⟨0,by simp,by simp⟩ aK ?_
 rintro⟨k,hk,hpre⟩ K1 hK1;simp only[bC,cW,cU]at hK1⊢;have hk1:=oQ (k:=k);by_cases hlt:k<L.length
 .have hg:=aE hlt;have c1:=cm L[k];have hnext:nT p L[k]=true->∀x∈L.take (k+1),nT p x=true:=λh=>bZ hlt hpre h
  have jZ:nT p L[k]=false->L.all (nT p)=false:=λh=>ZC k hlt h
  rcases lT (kW L[k]) p.aO with⟨hi,hf⟩|⟨j,hj,hi,hf⟩
  .have hd:nT p L[k]=false:=by unfold nT;rw[hf]
   rw[hi]at c1;have jK:=jZ hd;have W:=aA hk1 (aA hg hlt);refine we ?_;all_goals try(refine aR ?_;simp[aP,results127,jK])
  .have hd:nT p L[k]=p.aO[j].done:=by unfold nT;rw[hf]
   rw[hi]at c1;have hgm:=aE hj;have hj0:¬(j:Int)<0:=by omega
   cases rF:p.aO[j].done
   .have jK:=jZ (hd.trans rF);have W:=aA hk1 (aA hg (aA hlt (aA hgm (aA hj (aA hj0 rF)))));refine we ?_;all_goals try(refine aR ?_;simp[aP,results127,jK])
   .have hnx:=hnext (hd.trans rF);have W:=aA hk1 (aA hg (aA hlt (aA hgm (aA hj (aA hj0 rF)))));refine we ?_;exact hK1 _ ⟨k+1,by omega,hnx⟩ (aT 3) (by simp only;omega)
 .have jK:L.all (nT p)=true:=Ro (by have:=hpre;rwa[cX (by omega)]at this);have W:=aA hk1 hlt;refine we ?_;all_goals try(refine aR ?_;simp[aP,results127,jK])
theorem MG[aB prog][bQ prog](p:aI)(a:aD)(hs:bP bL p.aO+aQ a<=16777216):Ok prog 217 [.agg (aJ .view p),.agg (aH a)] (.bool (uH p a)):=by
 obtain⟨hB,_⟩:=HV p a hs;obtain⟨z1,_,hU⟩:=MC p a hs;have c0:=Cy p _ hB a (by simp);have cm:=λb=>yX p b (by simp only[aL,bP]at hs;omega)
 unfold uH;generalize dY p a=L at*;simp only[aH,aJ]at c0 cm;have hlen:(L.map aH).length=L.length:=by simp
 refine bM aG func217 ntmps217 ?_;refine aZ ?_;refine aM (ι:={k:Nat // k<=L.length/\∀x∈L.take k,lL p x=true}) (λt o i=>⟨bC t [(15,.int .i64 i.1),(16,.undef),(17,.undef),(18,.undef),(6,.undef),(7,.undef),(8,.undef),(9,.undef)],o.take 3⟩)
  (λi=>L.length-i.1) ⟨0,by simp,by simp⟩ aK ?_
 rintro⟨k,hk,hpre⟩ K1 hK1;simp only[bC,cW,cU]at hK1⊢;have hk1:=oQ (k:=k);by_cases hlt:k<L.length
 .have hg:=aE hlt;have c1:=cm L[k];have hnext:lL p L[k]=true->∀x∈L.take (k+1),lL p x=true:=λh=>bZ hlt hpre h
  have jZ:lL p L[k]=false->L.all (lL p)=false:=λh=>ZC k hlt h
  rcases lT (kW L[k]) p.aO with⟨hi,hf⟩|⟨j,hj,hi,hf⟩
  .have hd:lL p L[k]=false:=by unfold lL;rw[hf]
   rw[hi]at c1;have jK:=jZ hd;have W:=aA hk1 (aA hg hlt);refine we ?_;all_goals try(refine aR ?_;simp[aP,results217,jK])
  .have hd:lL p L[k]=if p.aO[j].done=true/\p.aO[j].code=1 then(bH p.aO[j].body L[k].host).2.2 else false:=by unfold lL;rw[hf]
   rw[hi]at c1;have hgm:=aE hj;have hj0:¬(j:Int)<0:=by omega
   have hmz:=bS bL (fS hj);have hha:=hB.host _ (hU _ (fS hlt));simp only[aL,bP]at hs;simp only[bL,aQ]at hmz;have cp:=uG p.aO[j].body L[k].host (by omega) hha;cases rF:p.aO[j].done
   .have jK:=jZ (by rw[hd,rF];simp);have W:=aA hk1 (aA hg (aA hlt (aA hgm (aA hj (aA hj0 rF)))));refine we ?_;all_goals try(refine aR ?_;simp[aP,results217,jK])
   .by_cases rz:p.aO[j].code=1
    .rw [eK ⟨rF,rz⟩]at hd;generalize bH p.aO[j].body L[k].host=u at*;obtain⟨g,d,c⟩:=u;simp only at hd cp;cases c
     .have jK:=jZ hd;have W:=aA hk1 (aA hg (aA hlt (aA hgm (aA hj (aA hj0 (aA rF rz))))));refine we ?_;all_goals try(refine aR ?_;simp[aP,results217,jK])
     .have hnx:=hnext hd;have W:=aA hk1 (aA hg (aA hlt (aA hgm (aA hj (aA hj0 (aA rF rz))))));refine we ?_;exact hK1 _ ⟨k+1,by omega,hnx⟩ (aT 3) (by simp only;omega)
    .have jK:=jZ (by rw[hd,cY (λh=>rz h.2)])
     have W:=aA hk1 (aA hg (aA hlt (aA hgm (aA hj (aA hj0 (aA rF rz))))));refine we ?_;all_goals try(refine aR ?_;simp[aP,results217,jK])
 .have jK:L.all (lL p)=true:=Ro (by have:=hpre;rwa[cX (by omega)]at this);have W:=aA hk1 hlt;refine we ?_;all_goals try(refine aR ?_;simp[aP,results217,jK])
theorem MH[aB prog][bQ prog](p:aI)(a:aD)(hs:bP bL p.aO+aQ a<=16777216):Ok prog 191 [.agg (aJ .view p),.agg (aH a)] (.bool (uH p a)):=by
 obtain⟨hB,_⟩:=HV p a hs;obtain⟨z1,_,hU⟩:=MC p a hs;have c0:=Cz p _ hB a (by simp);have cm:=λb hb=>Hz p _ hB b hb
 unfold uH;generalize dY p a=L at*;simp only[aH,aJ]at c0 cm;have hlen:(L.map aH).length=L.length:=by simp
 refine bM aG func191 ntmps191 ?_;refine aZ ?_;refine aM (ι:={k:Nat // k<=L.length/\∀x∈L.take k,lL p x=true}) (λt o i=>⟨bC t [(6,.int .i64 i.1),(7,.undef),(8,.undef)],o.take 3⟩)
  (λi=>L.length-i.1) ⟨0,by simp,by simp⟩ aK ?_
 rintro⟨k,hk,hpre⟩ K1 hK1;simp only[bC,cW,cU]at hK1⊢;have hk1:=oQ (k:=k);by_cases hlt:k<L.length
 .have hg:=aE hlt;have c1:=cm L[k] (hU _ (fS hlt));have hnext:lL p L[k]=true->∀x∈L.take (k+1),lL p x=true:=λh=>bZ hlt hpre h
  have jZ:lL p L[k]=false->L.all (lL p)=false:=λh=>ZC k hlt h
  generalize iO p L[k]=g at*;cases hd:lL p L[k]
  .have jK:=jZ hd;rw[hd]at c1;have W:=aA hk1 (aA hg hlt);refine we ?_;all_goals try(refine aR ?_;simp[aP,results191,jK])
  .have hnx:=hnext hd;rw[hd]at c1;have W:=aA hk1 (aA hg hlt);refine we ?_;exact hK1 _ ⟨k+1,by omega,hnx⟩ (aT 3) (by simp only;omega)
 .have jK:L.all (lL p)=true:=Ro (by have:=hpre;rwa[cX (by omega)]at this);have W:=aA hk1 hlt;refine we ?_;all_goals try(refine aR ?_;simp[aP,results191,jK])
def yZ(p:aI):Bool:=p.ended&&decide (p.queue.length=0)&&decide (p.block=0)&&decide (p.inline=0)
theorem Qz[aB prog](p:aI):Ok prog 125 [.agg (aJ .view p)] (.bool (yZ p)):=by
 refine bM aG func125 ntmps125 ?_;have W:=trivial;repeat' first|refine wf ?_|(refine sq ?_ ?_<;>intro hc<;>try exact hc.elim)|fail
 all_goals try(refine aR ?_;simp[aP,results125])
 all_goals (simp_all[yZ]<;>rfl)
theorem QA[aB prog](p:aI):Ok prog 160 [.agg (aJ .view p)] (.bool (yZ p)):=by
 refine bM aG func160 ntmps160 ?_;have W:=trivial;repeat' first|refine wf ?_|(refine sq ?_ ?_<;>intro hc<;>try exact hc.elim)|fail
 all_goals try(refine aR ?_;simp[aP,results160])
 all_goals (simp_all[yZ]<;>rfl)
def zV(p:aI)(b:aD):bB:=match p.aO.find? (kW b)with
 |some m=>m.body
 |none=>[]
def sG(q:aI)(b:aD):aI:=if q.uA.any (iA b)=true then q else lX {q with uA:=q.uA++[b]} (bH (zV q b) b.host).2.1 false
def jM(p:aI)(L:List aD)(k:Nat):aI:=(L.take k).foldl sG p
theorem BC(p:aI)(L:List aD)(k:Nat)(h:k<L.length):jM p L (k+1)=sG (jM p L k) L[k]:=by unfold jM;rw[eJ h,GB];rfl
def Uo:bB:=[102,97,105,108,32]
def oL(p:aI)(a:aD):aI:=if uH p a=true then {p with log:=kC p.log (Uo++mQ a)}else jM p (dY p a) (dY p a).length
theorem Dw(body base:bB):(bH body base).2.1.length<=6/\∀x∈(bH body base).2.1,x.text.length<=60:=by
 unfold bH;split
 .simp
 .rename_i l r _;obtain⟨b1,b2⟩:=Ad (Lib.join r [59]);split
  .exact ⟨b1,b2⟩
  .simp
def KG(q:aI):Nat:=aL q+91*(40-q.log.length)+62*(40-q.builder.nodes.length)
theorem Uq(l ss:List bB)(h:∀s∈ss,s.length<=90):bP gJ (nP l ss)+91*(40-(nP l ss).length)<=bP gJ l+91*(40-l.length):=by
 induction ss generalizing l with
 |nil=>exact eC _
 |cons s ss ih=>
  have e:nP l (s::ss)=nP (kC l s) ss:=rfl;rw[e];refine lB (ih (kC l s) (λx hx=>h x (by simp[hx]))) ?_;have hs:=h s (by simp);unfold kC;split
  .simp only[bP,eR,eN,eV,jE,aY,gJ];omega
  .exact eC _
theorem si(b:bE)(ss:List gT)(x:jW)(hx:x.text.length<=60):aU (bV b ss x).1+62*(40-(bV b ss x).1.nodes.length)<=aU b+62*(40-b.nodes.length):=by
 unfold bV;split
 .exact eC _
 .split
  .split
   .simp only[aU,bP,eR,jE,aY,sU,eN,eV];omega
   .exact eC _
  .split
   .exact eC _
   .split
    .exact eC _
    .split<;>exact eC _
theorem Wv(b:bE)(ss:List gT)(l:List jW)(hx:∀x∈l,x.text.length<=60)(wZ:∀n,0<=bJ ss n/\bJ ss n<=999)(hb:aU b+62*40<=68719476736):
  aU (eH b ss l).1+62*(40-(eH b ss l).1.nodes.length)<=aU b+62*(40-b.nodes.length)/\∀s∈(eH b ss l).2.2,s.length<=90:=by
 have key:∀(l:List jW) (st0:bE×bB×List bB),(∀x∈l,x.text.length<=60)->aU st0.1+62*(40-st0.1.nodes.length)<=aU b+62*(40-b.nodes.length)->(∀s∈st0.2.2,s.length<=90)->
   aU (l.foldl (uC ss) st0).1+62*(40-(l.foldl (uC ss) st0).1.nodes.length)<=aU b+62*(40-b.nodes.length)/\∀s∈(l.foldl (uC ss) st0).2.2,s.length<=90:=by
  intro l;induction l with
  |nil=>intro st0 _ h1 h2;exact⟨h1,h2⟩
  |cons x l ih=>
   intro st0 hx h1 h2;have hxl:=hx x (by simp);have hn:st0.1.nodes.length<=274877906944:=by simp only[aU,bP]at h1 hb;omega
   obtain⟨z1,z2,z3⟩:=Ua st0.1 ss x (by omega) wZ hn;refine ih (uC ss st0 x) (λy hy=>hx y (by simp[hy])) ?_ ?_
   .exact lB (si st0.1 ss x hxl) h1
   .intro s hs;simp only[uC]at hs;split at hs
    .exact h2 s hs
    .rcases eW.1 hs with hs|hs
     .exact h2 s hs
     .simp only[rS]at hs;subst hs;omega
 exact key l (b,[],[]) hx (eC _) (by simp)
theorem MI(q:aI)(l:List jW)(hs:aL q<=536870912)(hx:∀x∈l,x.text.length<=60):KG (lX q l false)<=KG q:=by
 have hsb:aU q.builder<=536870912:=by simp only[aL]at hs;omega
 obtain⟨z1,z2⟩:=Wv q.builder (dG q) l hx (xU q) (by omega);have z3:=Uq q.log (eH q.builder (dG q) l).2.2 z2;unfold lX;generalize eH q.builder (dG q) l=g at*;obtain⟨b,w,lg⟩:=g;simp only[eS,hM]at*;generalize nP q.log lg=lg2 at*;simp only[KG,aL]at*;omega
theorem sj(q:aI)(b:aD):(sG q b).aO=q.aO/\(sG q b).aC=q.aC:=by unfold sG lX;split<;>exact⟨rfl,rfl⟩
theorem O4(q:aI)(b:aD)(hs:aL q+1+aQ b<=536870912):KG (sG q b)<=KG q+1+aQ b:=by
 unfold sG;split
 .omega
 .have h1:aL {q with uA:=q.uA++[b]}=aL q+1+aQ b:=by simp only[aL,bP,eR,eN,eV,jE,aY];omega
  have h2:=MI {q with uA:=q.uA++[b]} (bH (zV q b) b.host).2.1 (by omega) (Dw _ _).2;refine lB h2 ?_;simp only[KG]at*;omega
theorem CB(q:aI):aL q<=KG q/\KG q<=aL q+6120:=by unfold KG;omega
theorem wV(p:aI)(L:List aD)(hL:aL p+6120+bP aQ L<=536870912):∀k,k<=L.length->KG (jM p L k)<=KG p+bP aQ (L.take k)/\(jM p L k).aO=p.aO/\(jM p L k).aC=p.aC
 |0,_=>⟨by simp[jM,bP,aY],rfl,rfl⟩
 |k+1,h=>by
  obtain⟨h1,h2,h3⟩:=wV p L hL k (by omega);have hp:=(CB p).2;have hq:=(CB (jM p L k)).1;have e1:bP aQ (L.take (k+1))=bP aQ (L.take k)+1+aQ L[k]:=by rw[eJ (show k<L.length by omega)];simp only[bP,eR,eN,eV,jE,aY];omega
  have e2:bP aQ (L.take (k+1))<=bP aQ L:=by have:=zT aQ L (k+1);simp only[bP,oT];omega
  rw[BC p L k (by omega)];have h4:=O4 (jM p L k) L[k] (by omega);obtain⟨h5,h6⟩:=sj (jM p L k) L[k];exact⟨by omega,h5.trans h2,h6.trans h3⟩
theorem Ur{p:aI}{x:aD}(h:lL p x=true):x∈p.aO.map (·.to):=by
 unfold lL at h;split at h
 .rename_i m hm;have h1:=pB hm;have h2:=Fk hm;simp only[kW,fN]at h2;exact AG.2 ⟨m,h1,h2⟩
 .cases h
theorem aP4(l:List dX):bP aQ (l.map (·.to))<=bP bL l:=by
 induction l with
 |nil=>exact eC _
 |cons m l ih=>simp only[bP,mB,eN,aY,bL]at*;omega
theorem HY(p:aI)(a:aD)(h:bP bL p.aO+aQ a<=16777216)(hf:uH p a=false):(dY p a).length<=16777216/\bP aQ (dY p a)<=bP bL p.aO/\∀x∈dY p a,lL p x=true:=by
 have hall:∀x∈dY p a,lL p x=true:=by
  unfold uH at hf;have:(dY p a).all (lL p)=true:=by simpa using hf
  exact fR.1 this
 obtain⟨hb,h1,h2⟩:=HV p a h;have hs:=(Fz hb.im (sD p []+1) a ([],[]) (by simp) ⟨by simp,by simp,by simp,by simp⟩).1;obtain⟨h3,h4⟩:=Ez aQ (dY p a) (p.aO.map (·.to)) hs.ond (λx hx=>Ur (hall x hx));have h5:=aP4 p.aO;rw[mL]at h4;refine⟨?_,?_,hall⟩
 .simp only[bP]at h;omega
 .simp only[bP,mL]at h5⊢;omega
def lH(p:aI):aI:=if p.ended=true then p else {p with queue:=p.queue++kM p.tok,tok:=⟨[]⟩,ended:=true}
theorem Qf(t:nM):(kM t).length<=1:=by unfold kM;split<;>simp
theorem UK[aB prog](a:aI)(hs:aL a<=274877906):Ok prog 51 [.agg (aJ .view a)] (.agg (aJ .own (lH a))):=by
 have c1:=iI a (by omega);simp only[aL,bP,lQ]at hs;have c2:=GX a.tok (by omega);simp only[dP]at c2;have hE:=Qf a.tok;simp only[aJ]at c1;unfold lH;generalize kM a.tok=g at*;by_cases he:a.ended=true
 .rw [eK he];simp only[he]at c1;refine bM aG func51 ntmps51 ?_;have W:=he;refine we ?_;all_goals try(refine aR ?_;simp[aP,results51])
  all_goals exact he
 .rw [cY he];replace he:a.ended=false:=by simpa using he
  simp only[he]at c1;refine bM aG func51 ntmps51 ?_;have W:=he;refine we ?_;all_goals try(refine aR ?_;simp[aP,results51])
  all_goals (rw[<-oY];exact mO _)
theorem UL[aB prog](a:aI)(hs:aL a<=274877906):Ok prog 40 [.agg (aJ .view a)] (.agg (aJ .own (lH a))):=by
 have c1:=gK a (by omega);simp only[aL,bP,lQ]at hs;have c2:=GY a.tok (by omega);simp only[dP]at c2;have hE:=Qf a.tok;simp only[aJ]at c1;unfold lH;generalize kM a.tok=g at*;by_cases he:a.ended=true
 .rw [eK he];simp only[he]at c1;refine bM aG func40 ntmps40 ?_;have W:=he;refine we ?_;all_goals try(refine aR ?_;simp[aP,results40])
  all_goals exact he
 .rw [cY he];replace he:a.ended=false:=by simpa using he
  simp only[he]at c1;refine bM aG func40 ntmps40 ?_;have W:=he;refine we ?_;all_goals try(refine aR ?_;simp[aP,results40])
  all_goals (rw[<-oY];exact mO _)
end Go.Proofs.YthddijamfbfibaaGreatDoor
