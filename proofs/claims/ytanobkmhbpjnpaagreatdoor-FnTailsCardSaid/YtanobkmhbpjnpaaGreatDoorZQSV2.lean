/- Steps. No condition. -/
import Derived.Test.YtanobkmhbpjnpaaGreatDoorZQCTK
set_option linter.all false
set_option maxRecDepth 8000
set_option maxHeartbeats 8000000
namespace Go.Proofs.YtanobkmhbpjnpaaGreatDoor
open Go.Aw Proofs.Tryz List IntKind
def LB(s:gP)(i:Nat):Bool:=match s.eY[i]? with
 |some f=>dW f.iD&&(lF f.jL&&(s.eY.take i).all λg=> !(g.iD == f.iD))
 |none=>true
def xK(s:gP):Bool:=(range s.eY.length).all (LB s)&&(dW s.bN&&decide ((s.eY.length:Int)<=10))
def IJ{s:gP}{k:Nat}(hk:k<s.eY.length)(h:LB s k=false):xK s=false:=by unfold xK;rw[At];left;rw[all_eq_false];exact⟨k,by simpa using hk,by simp[h]⟩
def Zr{s:gP}(h:∀i,i<s.eY.length->LB s i=true):xK s=(dW s.bN&&decide ((s.eY.length:Int)<=10)):=by unfold xK;rw[fW.2 λi hi=>h i (by simpa using hi),AK]
def yP[aG prog][dG prog](s:gP)(hs:eF s<=16777216):Ok prog 194 [.agg (dP .view s)] (.bool (xK s)):=by
 simp only[eF,dS]at hs;have hsl:s.eY.length<=16777216:=by omega
 refine dN aK func194 ntmps194 ?_;refine bK ?_;refine aT (ι:={k:Nat // k<=s.eY.length/\∀i,i<k->LB s i=true}) (λt o i=>⟨bP t [(3,.int .i64 i.1)],o⟩)
  (λi=>s.eY.length-i.1) ⟨0,by simp,by simp⟩ aP ?_
 rintro⟨k,hk,hi⟩ K1 hK1;simp only[bP,cH,cQ]at hK1⊢;have hk1:=tQ (k:=k);by_cases hlt:k<s.eY.length
 .have hg:=aE hlt;have hz:=iU Ho s.eY k hlt;simp only[Ho]at hz;have c1:=gY s.eY[k].iD (by omega);have c2:=Ah s.eY[k].jL (by omega);simp only[bR]at c2;have rP:LB s k=(dW s.eY[k].iD&&(lF s.eY[k].jL&&(s.eY.take k).all λg=> !(g.iD == s.eY[k].iD))):=by unfold LB;rw[hg]
  generalize dW s.eY[k].iD=b1 at*;generalize lF s.eY[k].jL=b2 at*;cases b1
  .rw [IJ hlt (by rw[rP];rfl)];clear hi rP;have W:=aA hk1 (aA hg hlt);refine we ?_;exact aO results194
  .cases b2
   .rw [IJ hlt (by rw[rP];rfl)];clear hi rP;have W:=aA hk1 (aA hg hlt);refine we ?_;exact aO results194
   .rw [AK,AK]at rP;have hnext:(∀g∈s.eY.take k,(g.iD == s.eY[k].iD)=false)->∀i,i<k+1->LB s i=true:=λh i h1=>by
     rcases Nat.lt_succ_iff_lt_or_eq.1 h1 with h2|rfl
     .exact hi i h2
     .rw [rP,fW];intro g hgm;simp[h g hgm]
    have lX:∀j,(hj:j<k)->(s.eY[j].iD == s.eY[k].iD)=true->xK s=false:=λj hj he=>IJ hlt (by
     rw[rP,all_eq_false];exact⟨s.eY[j],mem_take_iff_getElem.2 ⟨j,by omega,rfl⟩,by simp[he]⟩)
    clear hi rP;generalize hW:xK s=w at*;have W:=aA hk1 (aA hg hlt);refine we ?_;have hK2:=hK1;clear hK1;refine aT (ι:={j:Nat // j<=k/\∀g∈s.eY.take j,(g.iD == s.eY[k].iD)=false}) (λt o j=>⟨bP t [(4,.int .i64 (j.1:Int))],o⟩) (λj=>k-j.1) ⟨0,by simp⟩ aP ?_;rintro⟨j,hj,hpj⟩ K3 hK3;simp only[bP,cH,cQ]at hK3⊢;have hK4:=hK3;clear hK3;have hj1:i64.wrap ((j:Int)+1)=((j+1:Nat):Int):=by rw[wrap64]<;>omega
    by_cases hjk:j<k
    .have hji:(j:Int)<(k:Int):=by omega
     have hjl:j<s.eY.length:=by omega
     have hg2:=aE hjl;have hb2:=lX j hjk;have hpn:(s.eY[j].iD == s.eY[k].iD)=false->∀g∈s.eY.take (j+1),(g.iD == s.eY[k].iD)=false:=λhe g hgm=>by
      rw[fN hjl,fR]at hgm;rcases hgm with hgm|hgm
      .exact hpj g hgm
      .simp only[mS]at hgm;subst hgm;exact he
     clear hpj lX hnext;cases he:s.eY[j].iD == s.eY[k].iD
     .have aZq:=hpn he;clear hpn hb2;have W:=aA hji (aA hg (aA hlt (aA hg2 (aA hjl (aA he hj1)))));refine we ?_;exact hK4 _ ⟨j+1,by omega,aZq⟩ aP (by simp only;omega)
     .have hw:=hb2 he;subst hw;clear hb2 hpn hK4;have W:=aA hji (aA hg (aA hlt (aA hg2 (aA hjl he))));refine we ?_;exact aO results194
    .have hji:¬(j:Int)<(k:Int):=by omega
     obtain rfl:j=k:=by omega
     have hn2:=hnext hpj;clear hK4 hpj hnext lX;have W:=aA hji hk1;refine we ?_;exact hK2 _ ⟨j+1,by omega,hn2⟩ aP (by simp only;omega)
 .have c3:=gY s.bN (by omega);rw[Zr λi h=>hi i (by omega)];clear hi;generalize dW s.bN=b3 at*;cases b3
  .have W:=hk1;refine we ?_;exact aO results194
  .have W:=hk1;refine we ?_;exact aO results194
def Am(l:List gP):Prop:=∀s∈l,∀f∈s.eY,Dn f.jL
def aZr(n:Nat)(l:List gP)(x:bG)(r:AV):Prop:=∃(l':List gP) (b:Bool),r= .iL [.sl .own 2 (l'.map (dP .own)),.bool b]/\dS eF l'<=n/\(Am l->Dn x->Am l')
def rO(s:gP)(a:aR)(x:bG):gP:=
 if wR (Ee a.iD) s.eY<0 then {s with eY:=s.eY++[⟨a.iD,x⟩]}else {s with eY:=s.eY.set (wR (Ee a.iD) s.eY).toNat ⟨((s.eY[(wR (Ee a.iD) s.eY).toNat]?).getD ⟨[],x⟩).iD,x⟩}
def aDx{s:gP}(a:aR){x:bG}(h:∀f∈s.eY,Dn f.jL)(hx:Dn x):∀f∈(rO s a x).eY,Dn f.jL:=by
 unfold rO;split
 .intro f hf;rcases fR.1 hf with hf|hf
  .exact h f hf
  .simp only[mS]at hf;subst hf;exact hx
 .intro f hf;rcases rN hf with hf|hf
  .exact h f hf
  .subst hf;exact hx
def aDy{l:List gP}{k:Nat}{s:gP}(a:aR){x:bG}(h:Am l)(hk:l[k]? =some s)(hx:Dn x):Am (l.set k (rO s a x)):=by
 intro y hy;rcases rN hy with hy|hy
 .exact h y hy
 .subst hy;exact aDx a (h s (nB hk)) hx
def Vf{α:Type}(f:α->Nat)(c:Nat):∀(l:List α) (k:Nat) (h:k<l.length) (x:α),f x<=f l[k]+c->bU f (l.set k x)<=bU f l+c
 |[],k,h,_,_=>by simp at h
 |y::l,0,_,x,hx=>by simp only[getElem_cons_zero]at hx;simp only[cQ,bU];omega
 |y::l,k+1,h,x,hx=>by have:=Vf f c l k (by simpa using h) x (by simpa using hx);simp only[cH,bU];omega
def uu{α:Type}(f:α->Nat)(l:List α)(x:α):bU f (l++[x])=bU f l+f x:=by
 induction l with
 |nil=>simp[bU]
 |cons y l ih=>simp only[cW,bU,ih];omega
def Ny(s:gP)(a:aR)(x:bG):eF (rO s a x)<=eF s+(aW a+dC x+4):=by
 unfold rO;split
 .simp only[eF,dS,uu,eR,eL,fL,Ho,aW];omega
 .by_cases h:(wR (Ee a.iD) s.eY).toNat<s.eY.length
  .have h2:=Vf Ho (dC x) s.eY _ h ⟨((s.eY[(wR (Ee a.iD) s.eY).toNat]?).getD ⟨[],x⟩).iD,x⟩ (by rw[aE h];simp only[sB,Ho];omega);simp only[eF,dS,DE]at h2⊢;omega
  .rw [Bs (by omega)];show eF s<=_;omega
def aRv(l:List gP)(n:Nat)(s:gP)(a:aR)(x:bG)(hn:n<l.length)(hg:l[n]=s):dS eF (l.set n (rO s a x))<=dS eF l+(aW a+dC x+4):=by subst hg;have h:=Vf eF (aW a+dC x+4) l n hn _ (Ny l[n] a x);simp only[dS,DE];omega
@[simp] def aW1(u:List Nat)(b:Bool)(l:List gP):lW (lV u) b (l.map (dP .view))=l.map (dP .view):=by
 induction l with
 |nil=>rfl
 |cons x l ih=>rw[oE,lW,ih];simp[tJ,rt,dP,lV]
def Vg[aG prog][dG prog](l:List gP)(a:aR)(x:bG)(hs:dS eF l+aW a+dC x<=1048576):OkE prog 137 [.sl .view 2 (l.map (dP .view)),.agg (aS a),.agg (bR x)] (aZr (dS eF l+(2*aW a+dC x+5)) l x):=by
 have hl:l.length<=1048576:=by simp only[dS]at hs;omega
 have c1:=Y8 l (by omega);have c2:=MX l a.bN (by omega);simp only[aS,bR]at*;refine aO6 aK [7,10] func137 ntmps137 ?_;have hx5:dC x<=1048576:=by omega
 have hN:∀(l1:List gP) (n:Nat) (s:gP),l1[n]? =some s->dS eF l1<=dS eF l+aW a+1->(Am l->Am l1)->dS eF (l1.set n (rO s a x))<=dS eF l+(2*aW a+dC x+5)/\(Am l->Dn x->Am (l1.set n (rO s a x))):=λl1 n s hg hz hgd=>by refine⟨?_,λh hx=>aDy a (hgd h) hg hx⟩;obtain⟨hn,hg⟩:=cU.1 hg;have:=aRv l1 n s a x hn hg;omega
 rcases oL (Qj a.bN) l with⟨h1,_⟩|⟨n,hn,h1,_⟩
 .rw [h1]at c2;obtain⟨s,hs1⟩:∃s:gP,s=⟨a.bN,[]⟩:=⟨_,rfl⟩;obtain⟨l1,hl1⟩:∃m,m=l++[s]:=⟨_,rfl⟩;have hap:l.map (dP .own)++[[.str a.bN,.sl .own 7 []]]=l1.map (dP .own):=by rw[hl1,hs1];simp
  have aJj:=hap;have hg:l1[l.length]? =some s:=by rw[hl1];simp
  have hlt:l.length<l1.length:=by rw[hl1];simp
  have hz1:dS eF l1<=dS eF l+aW a+1:=by rw[hl1,hs1];simp only[dS,uu,eF,eR,eL,fL,bU,aW];omega
  have hgd:Am l->Am l1:=λh y hy=>by
   rw[hl1,hs1]at hy;rcases fR.1 hy with hy|hy
   .exact h y hy
   .simp only[mS]at hy;subst hy;simp
  clear hl1;obtain⟨hM,hMg⟩:=hN _ _ _ hg hz1 hgd;have hsz:eF s<=dS eF l1:=by obtain⟨h3,h4⟩:=cU.1 hg;have:=iU eF l1 _ h3;rw[h4]at this;simp only[dS];omega
  have hsf:s.eY.length<=eF s:=by simp only[eF,dS];omega
  have c3:=La s a.iD (by omega);simp only[dP]at c3;have hnd:((l1.map (dP .own)).all λc=>tV 2 c)=true:=by simp[tV,DR]
  have Rt:((l.length:Nat):Int)<(l1.length:Int):=by omega
  have hset:∀r,((l1.map (dP .own)).set l.length r)[l.length]? =some r:=λr=>by simp[hlt]
  rcases oL (Ee a.iD) s.eY with⟨h3,_⟩|⟨j,hj,h3,_⟩
  .rw [h3]at c3;have eP:rO s a x=⟨s.bN,s.eY++[⟨a.iD,x⟩]⟩:=by unfold rO;rw[h3,eM (by omega)]
   have IK:(rO s a x).bN=s.bN:=by rw[eP]
   clear hN;obtain⟨l2,hl2⟩:∃m,m=l1.set l.length (rO s a x):=⟨_,rfl⟩;rw[<-hl2]at hM hMg;have aJk:l2.length=l1.length:=by rw[hl2,DE]
   have hg2:l2[l.length]? =some (rO s a x):=by rw[hl2];simp[hlt]
   have hsz2:eF (rO s a x)<=16777216:=by have:=Ny s a x;omega
   have hR:∀v,((l1.map (dP .own)).set l.length [.str s.bN,v]).set l.length (([.str s.bN,v]:List AV).set 1 (.sl .own 7 ((rO s a x).eY.map BQ)))=l2.map (dP .own):=λv=>by rw[hl2,set_set,map_set];simp[IK]
   have hp:∀v,((((l1.map (dP .own)).set l.length [.str s.bN,v]).set l.length (([.str s.bN,v]:List AV).set 1 (.int .i64 0))).all λr=>r.all AV.Av)=true:=λv=>by
    rw[set_set,fW];intro r hr;rcases rN hr with hr|rfl
    .obtain ⟨z,_,rfl⟩:=zE.1 hr;simp[AV.Av]
    .simp [AV.Av]
   have c4:=yP (rO s a x) hsz2;have hpf:=(show(rO s a x).eY=s.eY++[⟨a.iD,x⟩]by rw[eP]);clear hlt;clear eP;have Vh:((l.length:Nat):Int)<(l2.length:Int):=by omega
   have W:=aA hap (aA hl (aA hg Rt));refine we ?_;refine go_boxB 2 l.length 1 (by rfl) (e:=[.str s.bN,.sl .own 7 (s.eY.map BQ)]) (by simp[hg]) (by rfl) ?_ (hrow:=hnd);have W:=aA hg (aA Rt hset);refine we ?_;refine go_close 2 4 l.length 1 (l2.map (dP .own)) (by rfl) (by rfl) (hset _) (by rfl) (by rw[<-hR (.obj 4 2),hpf];simp[BQ]) (by exact hp _) ?_;generalize rO s a x=s2 at*;clear hset hnd aJj hR hp hpf IK hg;by_cases h4:(4:Int)<(l2.length:Int)
   .have W:=h4;refine we ?_;refine⟨.inr rfl,Lx (by simp[results137];rfl) (by simp) (by simp) ?_⟩;simp only[bX,res];exact⟨l,_,rfl,by omega,λh _=>h⟩
   .simp only[dP]at c4;generalize xK s2=b at*;cases b
    .have W:=aA h4 (aA hg2 Vh);refine we ?_;refine⟨.inr rfl,Lx (by simp[results137];rfl) (by simp) (by simp) ?_⟩;simp only[bX,res];exact⟨l,_,rfl,by omega,λh _=>h⟩
    .have W:=aA h4 (aA hg2 Vh);refine we ?_;refine⟨.inr rfl,Lx (by simp[results137];rfl) (by simp) (by simp) ?_⟩;simp only[bX,res];exact⟨l2,_,rfl,by omega,hMg⟩
  .rw [h3]at c3;have hj0:(0:Int)<=(j:Int):=by omega
   have eP:rO s a x=⟨s.bN,s.eY.set j ⟨s.eY[j].iD,x⟩⟩:=by unfold rO;rw[h3,eC (by omega)];simp[hj]
   have IK:(rO s a x).bN=s.bN:=by rw[eP]
   clear hN;obtain⟨l2,hl2⟩:∃m,m=l1.set l.length (rO s a x):=⟨_,rfl⟩;rw[<-hl2]at hM hMg;have aJk:l2.length=l1.length:=by rw[hl2,DE]
   have hg2:l2[l.length]? =some (rO s a x):=by rw[hl2];simp[hlt]
   have hsz2:eF (rO s a x)<=16777216:=by have:=Ny s a x;omega
   have hR:∀v,((l1.map (dP .own)).set l.length [.str s.bN,v]).set l.length (([.str s.bN,v]:List AV).set 1 (.sl .own 7 ((rO s a x).eY.map BQ)))=l2.map (dP .own):=λv=>by rw[hl2,set_set,map_set];simp[IK]
   have hp:∀v,((((l1.map (dP .own)).set l.length [.str s.bN,v]).set l.length (([.str s.bN,v]:List AV).set 1 (.int .i64 0))).all λr=>r.all AV.Av)=true:=λv=>by
    rw[set_set,fW];intro r hr;rcases rN hr with hr|rfl
    .obtain ⟨z,_,rfl⟩:=zE.1 hr;simp[AV.Av]
    .simp [AV.Av]
   have c4:=yP (rO s a x) hsz2;have hpf:=(show(rO s a x).eY=s.eY.set j ⟨s.eY[j].iD,x⟩by rw[eP]);clear hlt;clear eP;have Vh:((l.length:Nat):Int)<(l2.length:Int):=by omega
   have W:=aA hap (aA hl (aA hg (aA Rt hj0)));refine we ?_;refine go_boxB 2 l.length 1 (by rfl) (e:=[.str s.bN,.sl .own 7 (s.eY.map BQ)]) (by simp[hg]) (by rfl) ?_ (hrow:=hnd);have W:=aA hg (aA Rt (aA hset (aA hj0 hj)));refine we ?_;refine go_close 2 4 l.length 1 (l2.map (dP .own)) (by rfl) (by rfl) (hset _) (by rfl) (by rw[<-hR (.obj 4 1),hpf];simp[BQ]) (by exact hp _) ?_;generalize rO s a x=s2 at*;clear hset hnd aJj hR hp hpf IK hg;by_cases h4:(4:Int)<(l2.length:Int)
   .have W:=h4;refine we ?_;refine⟨.inr rfl,Lx (by simp[results137];rfl) (by simp) (by simp) ?_⟩;simp only[bX,res];exact⟨l,_,rfl,by omega,λh _=>h⟩
   .simp only[dP]at c4;generalize xK s2=b at*;cases b
    .have W:=aA h4 (aA hg2 Vh);refine we ?_;refine⟨.inr rfl,Lx (by simp[results137];rfl) (by simp) (by simp) ?_⟩;simp only[bX,res];exact⟨l,_,rfl,by omega,λh _=>h⟩
    .have W:=aA h4 (aA hg2 Vh);refine we ?_;refine⟨.inr rfl,Lx (by simp[results137];rfl) (by simp) (by simp) ?_⟩;simp only[bX,res];exact⟨l2,_,rfl,by omega,hMg⟩
 .rw [h1]at c2;obtain⟨l1,hl1⟩:∃l1,l1=l:=⟨_,rfl⟩;obtain⟨s,hg⟩:∃s,l1[n]? =some s:=⟨_,by rw[hl1];exact aE hn⟩;have aJj:=hl1;have hlt:n<l1.length:=by rw[hl1];exact hn
  have hz1:dS eF l1<=dS eF l+aW a+1:=by rw[hl1];omega
  rw[show l.map (dP .own)=l1.map (dP .own)by rw[hl1]]at c1;have hn0:(0:Int)<=(n:Int):=by omega
  have hgd:Am l->Am l1:=λh=>by rw[hl1];exact h
  clear hl1;obtain⟨hM,hMg⟩:=hN _ _ _ hg hz1 hgd;have hsz:eF s<=dS eF l1:=by obtain⟨h3,h4⟩:=cU.1 hg;have:=iU eF l1 _ h3;rw[h4]at this;simp only[dS];omega
  have hsf:s.eY.length<=eF s:=by simp only[eF,dS];omega
  have c3:=La s a.iD (by omega);simp only[dP]at c3;have hnd:((l1.map (dP .own)).all λc=>tV 2 c)=true:=by simp[tV,DR]
  have Rt:((n:Nat):Int)<(l1.length:Int):=by omega
  have hset:∀r,((l1.map (dP .own)).set n r)[n]? =some r:=λr=>by simp[hlt]
  rcases oL (Ee a.iD) s.eY with⟨h3,_⟩|⟨j,hj,h3,_⟩
  .rw [h3]at c3;have eP:rO s a x=⟨s.bN,s.eY++[⟨a.iD,x⟩]⟩:=by unfold rO;rw[h3,eM (by omega)]
   have IK:(rO s a x).bN=s.bN:=by rw[eP]
   clear hN;obtain⟨l2,hl2⟩:∃m,m=l1.set n (rO s a x):=⟨_,rfl⟩;rw[<-hl2]at hM hMg;have aJk:l2.length=l1.length:=by rw[hl2,DE]
   have hg2:l2[n]? =some (rO s a x):=by rw[hl2];simp[hlt]
   have hsz2:eF (rO s a x)<=16777216:=by have:=Ny s a x;omega
   have hR:∀v,((l1.map (dP .own)).set n [.str s.bN,v]).set n (([.str s.bN,v]:List AV).set 1 (.sl .own 7 ((rO s a x).eY.map BQ)))=l2.map (dP .own):=λv=>by rw[hl2,set_set,map_set];simp[IK]
   have hp:∀v,((((l1.map (dP .own)).set n [.str s.bN,v]).set n (([.str s.bN,v]:List AV).set 1 (.int .i64 0))).all λr=>r.all AV.Av)=true:=λv=>by
    rw[set_set,fW];intro r hr;rcases rN hr with hr|rfl
    .obtain ⟨z,_,rfl⟩:=zE.1 hr;simp[AV.Av]
    .simp [AV.Av]
   have c4:=yP (rO s a x) hsz2;have hpf:=(show(rO s a x).eY=s.eY++[⟨a.iD,x⟩]by rw[eP]);clear hlt;clear eP;have Vh:((n:Nat):Int)<(l2.length:Int):=by omega
   have W:=aA hn0 (aA hl (aA hg Rt));refine we ?_;refine go_boxB 2 n 1 (by rfl) (e:=[.str s.bN,.sl .own 7 (s.eY.map BQ)]) (by simp[hg]) (by rfl) ?_ (hrow:=hnd);have W:=aA hg (aA Rt hset);refine we ?_;refine go_close 2 3 n 1 (l2.map (dP .own)) (by rfl) (by rfl) (hset _) (by rfl) (by rw[<-hR (.obj 3 2),hpf];simp[BQ]) (by exact hp _) ?_;generalize rO s a x=s2 at*;clear hset hnd aJj hR hp hpf IK hg;by_cases h4:(4:Int)<(l2.length:Int)
   .have W:=h4;refine we ?_;refine⟨.inr rfl,Lx (by simp[results137];rfl) (by simp) (by simp) ?_⟩;simp only[bX,res];exact⟨l1,_,rfl,by omega,λh _=>hgd h⟩
   .simp only[dP]at c4;generalize xK s2=b at*;cases b
    .have W:=aA h4 (aA hg2 Vh);refine we ?_;refine⟨.inr rfl,Lx (by simp[results137];rfl) (by simp) (by simp) ?_⟩;simp only[bX,res];exact⟨l1,_,rfl,by omega,λh _=>hgd h⟩
    .have W:=aA h4 (aA hg2 Vh);refine we ?_;refine⟨.inr rfl,Lx (by simp[results137];rfl) (by simp) (by simp) ?_⟩;simp only[bX,res];exact⟨l2,_,rfl,by omega,hMg⟩
  .rw [h3]at c3;have hj0:(0:Int)<=(j:Int):=by omega
   have eP:rO s a x=⟨s.bN,s.eY.set j ⟨s.eY[j].iD,x⟩⟩:=by unfold rO;rw[h3,eC (by omega)];simp[hj]
   have IK:(rO s a x).bN=s.bN:=by rw[eP]
   clear hN;obtain⟨l2,hl2⟩:∃m,m=l1.set n (rO s a x):=⟨_,rfl⟩;rw[<-hl2]at hM hMg;have aJk:l2.length=l1.length:=by rw[hl2,DE]
   have hg2:l2[n]? =some (rO s a x):=by rw[hl2];simp[hlt]
   have hsz2:eF (rO s a x)<=16777216:=by have:=Ny s a x;omega
   have hR:∀v,((l1.map (dP .own)).set n [.str s.bN,v]).set n (([.str s.bN,v]:List AV).set 1 (.sl .own 7 ((rO s a x).eY.map BQ)))=l2.map (dP .own):=λv=>by rw[hl2,set_set,map_set];simp[IK]
   have hp:∀v,((((l1.map (dP .own)).set n [.str s.bN,v]).set n (([.str s.bN,v]:List AV).set 1 (.int .i64 0))).all λr=>r.all AV.Av)=true:=λv=>by
    rw[set_set,fW];intro r hr;rcases rN hr with hr|rfl
    .obtain ⟨z,_,rfl⟩:=zE.1 hr;simp[AV.Av]
    .simp [AV.Av]
   have c4:=yP (rO s a x) hsz2;have hpf:=(show(rO s a x).eY=s.eY.set j ⟨s.eY[j].iD,x⟩by rw[eP]);clear hlt;clear eP;have Vh:((n:Nat):Int)<(l2.length:Int):=by omega
   have W:=aA hn0 (aA hl (aA hg (aA Rt hj0)));refine we ?_;refine go_boxB 2 n 1 (by rfl) (e:=[.str s.bN,.sl .own 7 (s.eY.map BQ)]) (by simp[hg]) (by rfl) ?_ (hrow:=hnd);have W:=aA hg (aA Rt (aA hset (aA hj0 hj)));refine we ?_;refine go_close 2 3 n 1 (l2.map (dP .own)) (by rfl) (by rfl) (hset _) (by rfl) (by rw[<-hR (.obj 3 1),hpf];simp[BQ]) (by exact hp _) ?_;generalize rO s a x=s2 at*;clear hset hnd aJj hR hp hpf IK hg;by_cases h4:(4:Int)<(l2.length:Int)
   .have W:=h4;refine we ?_;refine⟨.inr rfl,Lx (by simp[results137];rfl) (by simp) (by simp) ?_⟩;simp only[bX,res];exact⟨l1,_,rfl,by omega,λh _=>hgd h⟩
   .simp only[dP]at c4;generalize xK s2=b at*;cases b
    .have W:=aA h4 (aA hg2 Vh);refine we ?_;refine⟨.inr rfl,Lx (by simp[results137];rfl) (by simp) (by simp) ?_⟩;simp only[bX,res];exact⟨l1,_,rfl,by omega,λh _=>hgd h⟩
    .have W:=aA h4 (aA hg2 Vh);refine we ?_;refine⟨.inr rfl,Lx (by simp[results137];rfl) (by simp) (by simp) ?_⟩;simp only[bX,res];exact⟨l2,_,rfl,by omega,hMg⟩
def aNs{P:Program}[aG P]{f:FuncId}{xs:List AV}{Q Q':AV->Prop}(h:Hf P f xs Q)(hq:∀r,Q r->Q' r):Hf P f xs Q':=by
 intro w S b fo cap code vs a1 a2 a3 a4 a5 a6 a7;refine Calls.mono (h w S b fo cap code vs a1 a2 a3 a4 a5 a6 a7) λe w' he=> ?_
 obtain⟨r,v,fp,h1,hQ,h2⟩:=he;exact⟨r,v,fp,h1,hq r hQ,h2⟩
def Wv[aG prog]:Hf prog 197 [] (aJn 40):=by
 refine EE aK func197 ntmps197 ?_;intro code i h hi hl;simp only[bH];refine bZ ?_;refine cu (mP 4) ?_;rintro _ i2 h2 ⟨x,rfl,x0,x1,x2⟩ hi2;simp only[AS.drew,AS.bW,bH,AS.put,aU,aN,gT,dM,gN,dI,gW,dL,cH,cQ,eE,eA,cW];obtain⟨n,rfl⟩:=hY x0;have hn:n<=3:=by omega
 refine bZ ?_;refine aT (ι:={x:Nat×bE×Int×Int // x.1<=3/\x.2.1.length+10*x.1<=30/\0<=x.2.2.1}) (λt o y=>⟨bP t [(3,.str y.1.2.1),(4,.int .i64 (y.1.1:Int))],[⟨true,true,3,2,[[.sl .view 1 (bL code),.int .i64 y.1.2.2.1,.int .i64 y.1.2.2.2]]⟩]⟩)
  (λy=>y.1.1) ⟨(n,[],i2,h2),hn,by simp;omega,hi2⟩ aP ?_
 rintro⟨⟨k,s,j,g⟩,hk,hs,hj⟩ K1 hK1;simp only at hk hs hj;have hK2:=hK1;simp only[bP,cH,cQ]at hK1⊢;clear hK1;by_cases h0:0<k
 .have hk0:(k:Int) > 0:=by omega
  have hk1:i64.wrap ((k:Int)-1)=((k-1:Nat):Int):=by rw[wrap64]<;>omega
  have W:=hk0;refine wl ?_;refine oU (i:=1) (bY:=1) (by rfl) (by rfl) ?_ (by simp[AS.frozen,vK,uZ,tH,vY,aI.tH,aI.kill,lW,tJ,rt];rfl);refine cu (jK ([[112],[98],[112,97,103,101],[80],[]]:List bE) (by decide)) ?_;rintro _ j2 g2 ⟨u,Qm,rfl⟩ hj2;simp only[AS.drew,AS.bW,bH,AS.put,aU,aN,gT,dM,gN,dI,gW,dL,cH,cQ,eE,eA,cW];have hu:=(by decide:∀s∈([[112],[98],[112,97,103,101],[80],[]]:List bE),s.length<=4) u Qm;have Qz:s.length+u.length+1<=6200:=by omega
  have W:=Qz;refine wl ?_;refine oU (i:=2) (bY:=1) (by rfl) (by rfl) ?_ (by simp[AS.frozen,vK,uZ,tH,vY,aI.tH,aI.kill,lW,tJ,rt];rfl);refine cu (jK ([[49],[55],[57,57,57],[49,48,48,48],[48],[120]]:List bE) (by decide)) ?_;rintro _ j3 g3 ⟨q,hm3,rfl⟩ hj3;simp only[AS.drew,AS.bW,bH,AS.put,aU,aN,gT,dM,gN,dI,gW,dL,cH,cQ,eE,eA,cW];have hq:=(by decide:∀s∈([[49],[55],[57,57,57],[49,48,48,48],[48],[120]]:List bE),s.length<=4) q hm3;have hlq:s.length+u.length+1+q.length+1<=6200:=by omega
  have W:=aA hk1 hlq;refine wl ?_;refine hK2 _ ⟨(k-1,s++u++[58]++q++[59],j3,g3),by simp only;omega,by simp;omega,hj3⟩ ?_ (by simp only;omega);exact aQ 1 (by simp) (by simp) (by simp) (by simp)
 .have hk0:¬(k:Int) > 0:=by omega
  have W:=hk0;refine wl ?_;refine⟨.inr rfl,rW (by simp[results197];rfl) (by rfl) (by rfl) (by omega) (by simp) (by simp) ?_⟩;simp only[bX,res];exact⟨_,rfl,by omega⟩
def aV1(N:Nat)(r:AV):Prop:=∃s:bE,r= .str s/\s.length<=24*N/\∃m,Vl m s/\m<=N
def GL[aG prog](N:Nat)(hN1:1<=N)(hN4:N<=4):Hf prog 196 [.int .i64 (N:Int)] (aV1 N):=by
 refine EE aK func196 ntmps196 ?_;intro code i h hi hl;simp only[bH];refine bZ ?_;refine cu (mP (N:Int)) ?_;rintro _ i2 h2 ⟨x,rfl,x0,x1,x2⟩ hi2;simp only[AS.drew,AS.bW,bH,AS.put,aU,aN,gT,dM,gN,dI,gW,dL,cH,cQ,eE,eA,cW];obtain⟨n,rfl⟩:=hY x0;have hn:n+1<=N:=by omega
 have hn1:i64.wrap (1+(n:Int))=((n+1:Nat):Int):=by rw[wrap64]<;>omega
 have W:=hn1;refine wl ?_;refine aT (ι:={x:Nat×bE×Int×Int // x.1<=4/\x.2.1.length+24*x.1<=24*N/\0<=x.2.2.1/\((x.2.1=[]/\1<=x.1/\x.1<=N)\/∃m,Vl m x.2.1/\m+x.1<=N)}) (λt o y=>⟨bP t [(5,.str y.1.2.1),(6,.int .i64 (y.1.1:Int))],[⟨true,true,3,2,[[.sl .view 1 (bL code),.int .i64 y.1.2.2.1,.int .i64 y.1.2.2.2]]⟩]⟩)
  (λy=>y.1.1) ⟨(n+1,[],i2,h2),by simp only;omega,by simp;omega,hi2,.inl ⟨rfl,by simp only;omega,by simp only;omega⟩⟩ aP ?_
 rintro⟨⟨k,s,j,g⟩,hk,hs,hj,RU⟩ K1 hK1;simp only at hk hs hj RU;have hK2:=hK1;simp only[bP,cH,cQ]at hK1⊢;clear hK1;by_cases h0:0<k
 .have hk0:(k:Int) > 0:=by omega
  have hk1:i64.wrap ((k:Int)-1)=((k-1:Nat):Int):=by rw[wrap64]<;>omega
  have RA:s.length+1<=6200:=by omega
  by_cases he:s=[]
  .subst he;have W:=hk0;refine wl ?_;refine oU (i:=1) (bY:=1) (by rfl) (by rfl) ?_ (by simp[AS.frozen,vK,uZ,tH,vY,aI.tH,aI.kill,lW,tJ,rt];rfl);refine cu (jK ([[115,97,121,32,104,105],[99,111,117,110,116,32,112],[99,111,117,110,116,32,115,99,114,105,112,116],[108,111,111,107,32,112],[108,111,111,107,32,98],[97,100,100,32,98],[97,100,100,32,112],[119,114,105,116,101,32,91,112,93,120,91,47,112,93],[119,114,105,116,101,32,91,105,109,103,32,115,114,99,61,108,111,103,111,93],[119,114,105,116,101,32,91,108,105,110,107,32,104,114,101,102,61,115,116,121,108,101,93],[119,114,105,116,101,32,91,98,93]]:List bE) (by decide)) ?_;rintro _ j2 g2 ⟨u,Qm,rfl⟩ hj2;simp only[AS.drew,AS.bW,bH,AS.put,aU,aN,gT,dM,gN,dI,gW,dL,cH,cQ,eE,eA,cW];have hu:=(by decide:∀s∈([[115,97,121,32,104,105],[99,111,117,110,116,32,112],[99,111,117,110,116,32,115,99,114,105,112,116],[108,111,111,107,32,112],[108,111,111,107,32,98],[97,100,100,32,98],[97,100,100,32,112],[119,114,105,116,101,32,91,112,93,120,91,47,112,93],[119,114,105,116,101,32,91,105,109,103,32,115,114,99,61,108,111,103,111,93],[119,114,105,116,101,32,91,108,105,110,107,32,104,114,101,102,61,115,116,121,108,101,93],[119,114,105,116,101,32,91,98,93]]:List bE),s.length<=23) u Qm;have Qz:u.length<=6200:=by omega
   have W:=aA hk1 Qz;refine wl ?_;refine hK2 _ ⟨(k-1,u,j2,g2),by simp only;omega,by simp only[fL]at hs⊢;omega,hj2,.inr ⟨1,Yd u Qm,by simp only;rcases RU with⟨_,_,h3⟩|⟨m,hm,_⟩;omega;exact(hm.ne rfl).elim⟩⟩ ?_ (by simp only;omega);exact aQ 1 (by simp) (by simp) (by simp) (by simp)
  .have W:=aA hk0 (aA he RA);repeat' first|refine wg ?_|(refine sq ?_ ?_<;>intro hc<;>try exact hc.elim)|fail
   all_goals (try exact(he (by assumption)).elim)
   refine oU (i:=1) (bY:=1) (by rfl) (by rfl) ?_ (by simp[AS.frozen,vK,uZ,tH,vY,aI.tH,aI.kill,lW,tJ,rt];rfl);refine cu (jK ([[115,97,121,32,104,105],[99,111,117,110,116,32,112],[99,111,117,110,116,32,115,99,114,105,112,116],[108,111,111,107,32,112],[108,111,111,107,32,98],[97,100,100,32,98],[97,100,100,32,112],[119,114,105,116,101,32,91,112,93,120,91,47,112,93],[119,114,105,116,101,32,91,105,109,103,32,115,114,99,61,108,111,103,111,93],[119,114,105,116,101,32,91,108,105,110,107,32,104,114,101,102,61,115,116,121,108,101,93],[119,114,105,116,101,32,91,98,93]]:List bE) (by decide)) ?_;rintro _ j2 g2 ⟨u,Qm,rfl⟩ hj2;simp only[AS.drew,AS.bW,bH,AS.put,aU,aN,gT,dM,gN,dI,gW,dL,cH,cQ,eE,eA,cW];have hu:=(by decide:∀s∈([[115,97,121,32,104,105],[99,111,117,110,116,32,112],[99,111,117,110,116,32,115,99,114,105,112,116],[108,111,111,107,32,112],[108,111,111,107,32,98],[97,100,100,32,98],[97,100,100,32,112],[119,114,105,116,101,32,91,112,93,120,91,47,112,93],[119,114,105,116,101,32,91,105,109,103,32,115,114,99,61,108,111,103,111,93],[119,114,105,116,101,32,91,108,105,110,107,32,104,114,101,102,61,115,116,121,108,101,93],[119,114,105,116,101,32,91,98,93]]:List bE),s.length<=23) u Qm;have Qz:s.length+1+u.length<=6200:=by omega
   have W:=aA hk1 Qz;refine wl ?_;obtain⟨m,hm,hmk⟩:=RU.resolve_left (λh=>he h.1);refine hK2 _ ⟨(k-1,s++[59]++u,j2,g2),by simp only;omega,by simp;omega,hj2,.inr ⟨m+1,j6 hm Qm,by simp only;omega⟩⟩ ?_ (by simp only;omega);exact aQ 1 (by simp) (by simp) (by simp) (by simp)
 .have hk0:¬(k:Int) > 0:=by omega
  have W:=hk0;refine wl ?_;refine⟨.inr rfl,rW (by simp[results196];rfl) (by rfl) (by rfl) (by omega) (by simp) (by simp) ?_⟩;simp only[bX,res];obtain⟨m,hm,hmk⟩:=RU.resolve_left (λh=>by omega);exact⟨_,rfl,by omega,m,hm,by omega⟩
def LC:List bE:=[[104,111,109,101],[99,100,110],[101,118,105,108]]
def aRy(r:AV):Prop:=∃l:List bE,r= .sl .own 1 (l.map eD)/\l.length<=3/\∀s∈l,s.length<=4
def Gi[aG prog]:Hf prog 201 [] aRy:=by
 refine EE aK func201 ntmps201 ?_;intro code i h hi hl;simp only[bH];refine bZ ?_;refine aT (ι:={x:Nat×List bE×Nat×Int×Int // x.1<=3/\x.2.1.length<=x.1/\(∀s∈x.2.1,s.length<=4)/\1<=x.2.2.1/\0<=x.2.2.2.1}) (λt o y=>⟨bP t [(3,.obj 1 y.1.2.2.1),(5,.aB),(9,.int .i64 (y.1.1:Int))],[⟨true,true,3,2,[[.sl .view 1 (bL code),.int .i64 y.1.2.2.2.1,.int .i64 y.1.2.2.2.2]]⟩,⟨true,false,1,y.1.2.2.1,y.1.2.1.map eD⟩,⟨true,false,1,1,LC.map eD⟩]⟩)
  (λy=>3-y.1.1) ⟨(0,[],1,i,h),by simp,by simp,by simp,by simp,hi⟩ (aP (by simp[LC]) (by simp)) ?_
 rintro⟨⟨k,l,v,j,g⟩,hk,hlk,hs,hv,hj⟩ K1 hK1;simp only at hk hlk hs hv hj;have hK2:=hK1;simp only[bP,cH,cQ]at hK1⊢;clear hK1;have h3:LC.length=3:=rfl;by_cases h0:k<3
 .have hk0:(k:Int)<3:=by omega
  have hk1:=tQ (k:=k);have hlt:k<LC.length:=by omega
  have hg:=aE hlt;have hu:=(by decide:∀s∈LC,s.length<=4) _ (gR hlt);generalize LC[k]=u at*;generalize LC=H at*;have W:=aA hk0 hg;refine wl ?_;refine cu (kY 2) ?_;rintro _ j2 g2 ⟨b,rfl⟩ hj2;simp only[AS.drew,AS.bW,bH,AS.put,aU,aN,gT,dM,gN,dI,gW,dL,cH,cQ,eE,eA,cW];cases b
  .have W:=hk1;refine wl ?_;refine hK2 _ ⟨(k+1,l,v,j2,g2),by simp only;omega,by simp only;omega,hs,hv,hj2⟩ ?_ (by simp only;omega);exact aQ 3 (by simp) (by simp) (by simp) (by simp)
  .obtain ⟨l1,hl1⟩:∃m,m=l++[u]:=⟨_,rfl⟩;have hap:l.map eD++[[.str u]]=l1.map eD:=by rw[hl1];simp
   have hl2:l1.length=l.length+1:=by rw[hl1];simp
   have hs1:∀s∈l1,s.length<=4:=λs hm=>by
    rw[hl1]at hm;rcases fR.1 hm with h|h
    .exact hs s h
    .simp only[mS]at h;subst h;exact hu
   have hb1:(l.length+1)*16<=140737488355328:=by omega
   have hb2:l.length+1<=9223372036854775807:=by omega
   have hb3:l.length<=9223372036854775806:=by omega
   have W:=aA hk1 (aA hap (aA hb1 (aA hb2 hb3)));refine wl ?_;refine hK2 _ ⟨(k+1,l1,v+1,j2,g2),by simp only;omega,by simp only;omega,hs1,by simp only;omega,hj2⟩ ?_ (by simp only;omega);exact aQ 3 (by simp) (by simp) (by simp) (by simp)
 .have hk0:¬(k:Int)<3:=by omega
  have W:=hk0;refine wl ?_;refine⟨.inr rfl,rW (by simp[results201];rfl) (by rfl) (by rfl) (by omega) (by simp) (by simp) ?_⟩;simp only[bX,res];exact⟨l,by simp[AV.gB],by omega,hs⟩
def Vm{l:List bE}(h:l.length<=3)(hs:∀s∈l,s.length<=4):dS iM l<=15:=by
 have key:∀l:List bE,(∀s∈l,s.length<=4)->bU iM l<=4*l.length:=by
  intro l;induction l with
  |nil=>intro _;simp[bU]
  |cons x l ih=>intro hs;have h1:=hs x (by simp);have h2:=ih (λs hm=>hs s (by simp[hm]));simp only[bU,iM,eL];omega
 have:=key l hs;simp only[dS];omega
def aNt(r:AV):Prop:=∃p:gG,r= .agg (dA .own p)/\eT p<=60
def IL[aG prog]:Hf prog 146 [] aNt:=by
 refine EE aK func146 ntmps146 ?_;intro code i h hi hl;simp only[bH];refine bZ ?_;refine cu (kY 2) ?_;rintro _ i2 h2 ⟨b,rfl⟩ hi2;simp only[AS.drew,AS.bW,bH,AS.put,aU,aN,gT,dM,gN,dI,gW,dL,cH,cQ,eE,eA,cW];cases b
 .refine bZ ?_;refine cu (Gi) ?_;rintro _ i3 h3 ⟨l1,rfl,n1,s1⟩ hi3;simp only[AS.drew,AS.bW,bH,AS.put,aU,aN,gT,dM,gN,dI,gW,dL,cH,cQ,eE,eA,cW];have z1:=Vm n1 s1;refine bZ ?_;refine cu (Gi) ?_;rintro _ i4 h4 ⟨l2,rfl,n2,s2⟩ hi4;simp only[AS.drew,AS.bW,bH,AS.put,aU,aN,gT,dM,gN,dI,gW,dL,cH,cQ,eE,eA,cW];have z2:=Vm n2 s2;refine bZ ?_;refine cu (Gi) ?_;rintro _ i5 h5 ⟨l3,rfl,n3,s3⟩ hi5;simp only[AS.drew,AS.bW,bH,AS.put,aU,aN,gT,dM,gN,dI,gW,dL,cH,cQ,eE,eA,cW];have z3:=Vm n3 s3;refine bZ ?_;refine cu (kY 2) ?_;rintro _ i6 h6 ⟨b,rfl⟩ hi6;simp only[AS.drew,AS.bW,bH,AS.put,aU,aN,gT,dM,gN,dI,gW,dL,cH,cQ,eE,eA,cW];cases b
  .refine bZ ?_;refine⟨.inr rfl,rW (by simp[results146];rfl) (by rfl) (by rfl) (by omega) (by simp) (by simp) ?_⟩;simp only[bX,res];exact⟨⟨true,l1,l2,l3,[]⟩,by simp[vH,res,AV.gB],by simp only[eT,fL];omega⟩
  .refine bZ ?_;refine⟨.inr rfl,rW (by simp[results146];rfl) (by rfl) (by rfl) (by omega) (by simp) (by simp) ?_⟩;simp only[bX,res];exact⟨⟨true,l1,l2,l3,[110,55]⟩,by simp[vH,res,AV.gB],by simp only[eT,eL,fL];omega⟩
 .refine bZ ?_;refine⟨.inr rfl,aVv (k:=1) (by simp[AS.Cc,AS.Az,AS.rv,results146];rfl) (by rfl) (by rfl) (by omega) (by simp) (by simp) (by simp) (by simp) ?_⟩;simp only[bX,res];exact⟨⟨false,[],[],[],[]⟩,by simp[vH,res,AV.gB],by decide⟩
def aV2(k:Int)(r:AV):Prop:=∃s:bE,r= .str s/\s.length<=520/\(k=2->NW s)
def Zv[aG prog](k:Int):Hf prog 144 [.int .i64 k] (aV2 k):=by
 refine EE aK func144 ntmps144 ?_;intro code i h hi hl;simp only[bH];by_cases k2:k=2
 .subst k2;refine bZ ?_;refine cu (GL 3 (by omega) (by omega)) ?_;rintro _ i2 h2 ⟨s,rfl,hs,m,hm,hm3⟩ hi2;simp only[AS.drew,AS.bW,bH,AS.put,aU,aN,gT,dM,gN,dI,gW,dL,cH,cQ,eE,eA,cW];refine bZ ?_;refine⟨.inr rfl,rW (by simp[results144];rfl) (by rfl) (by rfl) (by omega) (by simp) (by simp) ?_⟩;simp only[bX,res];exact⟨_,rfl,by omega,λ_=>vz hm hm3⟩
 .by_cases k3:k=3
  .subst k3;refine bZ ?_;refine cu (Wv) ?_;rintro _ i2 h2 ⟨s,rfl,hs⟩ hi2;simp only[AS.drew,AS.bW,bH,AS.put,aU,aN,gT,dM,gN,dI,gW,dL,cH,cQ,eE,eA,cW];refine bZ ?_;refine⟨.inr rfl,rW (by simp[results144];rfl) (by rfl) (by rfl) (by omega) (by simp) (by simp) ?_⟩;simp only[bX,res];exact⟨_,rfl,by omega,λh=>by omega⟩
  .by_cases k5:k=5
   .subst k5;refine bZ ?_;refine oU (i:=1) (bY:=1) (by rfl) (by rfl) ?_ (by simp[AS.frozen,vK,uZ,tH,vY,aI.tH,aI.kill,lW,tJ,rt];rfl);refine cu (jK ([[],[105,109,112,111,114,116,32,117,116,105,108,59],[105,109,112,111,114,116,32,108,105,98,59],[105,109,112,111,114,116,32,99,100,110,47,108,105,98,59],[105,109,112,111,114,116,32,97,112,112,59,105,109,112,111,114,116,32,117,116,105,108,59]]:List bE) (by decide)) ?_;rintro _ j2 g2 ⟨u,Qm,rfl⟩ hj2;simp only[AS.drew,AS.bW,bH,AS.put,aU,aN,gT,dM,gN,dI,gW,dL,cH,cQ,eE,eA,cW];have hu:=(by decide:∀s∈([[],[105,109,112,111,114,116,32,117,116,105,108,59],[105,109,112,111,114,116,32,108,105,98,59],[105,109,112,111,114,116,32,99,100,110,47,108,105,98,59],[105,109,112,111,114,116,32,97,112,112,59,105,109,112,111,114,116,32,117,116,105,108,59]]:List bE),s.length<=23) u Qm;refine bZ ?_;refine oU (i:=2) (bY:=1) (by rfl) (by rfl) ?_ (by simp[AS.frozen,vK,uZ,tH,vY,aI.tH,aI.kill,lW,tJ,rt];rfl);refine cu (jK ([[115,97,121,32,109],[99,111,117,110,116,32,112],[97,100,100,32,98],[108,111,111,107,32,112]]:List bE) (by decide)) ?_;rintro _ j3 g3 ⟨q,hm3,rfl⟩ hj3;simp only[AS.drew,AS.bW,bH,AS.put,aU,aN,gT,dM,gN,dI,gW,dL,cH,cQ,eE,eA,cW];have hq:=(by decide:∀s∈([[115,97,121,32,109],[99,111,117,110,116,32,112],[97,100,100,32,98],[108,111,111,107,32,112]]:List bE),s.length<=7) q hm3;have hlq:u.length+q.length<=6200:=by omega
    have W:=hlq;refine wl ?_;refine⟨.inr rfl,rW (by simp[results144];rfl) (by rfl) (by rfl) (by omega) (by simp) (by simp) ?_⟩;simp only[bX,res];exact⟨_,rfl,by simp;omega,λh=>by omega⟩
   .by_cases k4:k=4
    .subst k4;refine bZ ?_;refine⟨.inr rfl,rW (by simp[results144];rfl) (by rfl) (by rfl) (by omega) (by simp) (by simp) ?_⟩;simp only[bX,res];exact⟨_,rfl,by decide,λh=>by omega⟩
    .have W:=aA k2 (aA k3 (aA k5 k4));refine wl ?_;refine cu (Zu 8 (by omega)) ?_;rintro _ i2 h2 ⟨s,rfl,hs⟩ hi2;simp only[AS.drew,AS.bW,bH,AS.put,aU,aN,gT,dM,gN,dI,gW,dL,cH,cQ,eE,eA,cW];refine bZ ?_;refine⟨.inr rfl,rW (by simp[results144];rfl) (by rfl) (by rfl) (by omega) (by simp) (by simp) ?_⟩;simp only[bX,res];exact⟨_,rfl,by omega,λh=>by omega⟩
def aJo(l:List bE):(Lib.joinTail [32] l).length=dS iM l:=by
 unfold Lib.joinTail;induction l with
 |nil=>simp[dS,bU]
 |cons x l ih=>simp only[dS,bU,iM,eL]at ih⊢;simp only[oE,pZ,eR,eL,fL,ih];omega
def p8(w:bE)(l:List bE):(words w l).length=w.length+dS iM l:=by unfold words;rw[Lib.join_cons,eR,aJo]
def aBw(p:gG):(jI p).length<=eT p+40:=by
 unfold jI;split
 .have h:(OU p.uC).length<=p.uC.length+10:=by unfold OU;split<;>simp[qV]<;>omega
  simp only[eR,eL,p8,eT,wQ,Ag,Ld,fL];omega
 .simp
def aO7(n:Nat)(r:AV):Prop:=∃x:bG,r= .agg (bR x)/\dC x<=n
def aV3(n:Nat)(r:AV):Prop:=∃x:bG,r= .agg (bR x)/\dC x<=n/\Dn x
def qZ[aG prog](k:Int):Hf prog 95 [.int .i64 k] (aV3 620):=by
 refine EE aK func95 ntmps95 ?_;intro code i h hi hl;simp only[bH];refine bZ ?_;refine cu (Zv k) ?_;rintro _ i2 h2 ⟨s,rfl,hs,hg⟩ hi2;simp only[AS.drew,AS.bW,bH,AS.put,aU,aN,gT,dM,gN,dI,gW,dL,cH,cQ,eE,eA,cW];refine bZ ?_;refine oU (i:=2) (bY:=1) (by rfl) (by rfl) ?_ (by simp[AS.frozen,vK,uZ,tH,vY,aI.tH,aI.kill,lW,tJ,rt];rfl);refine cu (Bc [0,5,50] (by decide)) ?_;rintro _ i3 h3 ⟨x,hx,rfl⟩ hi3;simp only[AS.drew,AS.bW,bH,AS.put,aU,aN,gT,dM,gN,dI,gW,dL,cH,cQ,eE,eA,cW];refine bZ ?_;refine cu (kY 2) ?_;rintro _ i4 h4 ⟨b,rfl⟩ hi4;simp only[AS.drew,AS.bW,bH,AS.put,aU,aN,gT,dM,gN,dI,gW,dL,cH,cQ,eE,eA,cW];by_cases k1:k=1
 .subst k1;refine bZ ?_;refine cu (IL) ?_;rintro _ i5 h5 ⟨p,rfl,hp⟩ hi5;simp only[AS.drew,AS.bW,bH,AS.put,aU,aN,gT,dM,gN,dI,gW,dL,cH,cQ,eE,eA,cW];have hf:=xZ p (by omega);have hfl:=aBw p;generalize jI p=fp at*;simp only[dA]at hf⊢;refine bZ ?_;refine⟨.inr rfl,rW (by simp[results95];rfl) (by rfl) (by rfl) (by omega) (by simp) (by simp) ?_⟩;simp only[bX,res];exact⟨⟨200,1,s,x,b,fp⟩,rfl,by simp only[dC];omega,λh=>by simp at h⟩
 .have W:=k1;refine wl ?_;refine⟨.inr rfl,rW (by simp[results95];rfl) (by rfl) (by rfl) (by omega) (by simp) (by simp) ?_⟩;simp only[bX,res];exact⟨⟨200,k,s,x,b,[]⟩,rfl,by simp only[dC,fL];omega,hg⟩
def wh[aG prog](k:Int):Hf prog 95 [.int .i64 k] (aO7 620):=aNs (qZ k) λr ⟨x,e,h,_⟩=>⟨x,e,h⟩
def Et(c:Bool)(m:Nat)(s:bE):Prop:=QB (lJ s).1/\mq (lJ s).1<=m/\(c=true->(60:UInt8)∉(lJ s).2)
def Pg(c:Bool)(k:Nat)(t:bE):Prop:=(60:UInt8)∉t\/(∃t',t=60::t')/\Et c k t
def Vn{r:bE}(h:(60:UInt8)∉r):lJ r=([],r):=by
 refine AQ ?_;have e:jQ 60 r=r.length:=Tf λx hx e=>h (e▸hx)
 have e2:=vL 62 r;unfold jC;rw[eC (by omega),eM];by_cases h0:r.length=0
 .right;omega
 .left;omega
def wm{r t:bE}(h:(60:UInt8)∉r)(hr:r≠[]):lJ (r++60::t)=(⟨3,[],[],r⟩::(lJ (60::t)).1,(lJ (60::t)).2):=by
 have e:jQ 60 (r++60::t)=r.length:=by rw[Hq 60 r _ (λx hx e=>h (e▸hx)),yD,eM rfl];rfl
 have hl:0<r.length:=AT.2 hr;have hs:jC (r++60::t)=some ([⟨3,[],[],r⟩],60::t):=by unfold jC;rw[e,eM ⟨hl,by simp⟩];simp
 rw[zG hs];rfl
def LF{c:Bool}{m k:Nat}{s t:bE}(h:Et true m s)(ht:Pg c k t):Et c (m+k+1) (s++t):=by
 obtain⟨h1,h2,h3⟩:=h;have h3:=h3 rfl;have e:=Pf s.length s t (eJ _);unfold Et;rw[e];simp only;rcases ht with ht|⟨⟨t',rfl⟩,h5,h6,h7⟩
 .have hr:(60:UInt8)∉(lJ s).2++t:=by rw[fR,not_or];exact⟨h3,ht⟩
  rw[Vn hr];simp only[eE];exact⟨h1,by omega,λ_=>hr⟩
 .by_cases hr:(lJ s).2=[]
  .rw [hr,eA];exact⟨h1.app h5,by rw[Zo];omega,h7⟩
  .rw [wm h3 hr];refine⟨h1.app (.tok (by simp[dY]) h5),?_,h7⟩;have e2:mq (⟨3,[],[],(lJ s).2⟩::(lJ (60::t')).1)=1+mq (lJ (60::t')).1:=by rw[mq];simp[opB]
   rw[Zo,e2];omega
def aD4:Et true 0 []:=by have e:lJ []=([],[]):=Vn (by simp);unfold Et;rw[e];exact⟨.nil,by simp[mq],by simp⟩
def Et.up{c:Bool}{m n:Nat}{s:bE}(h:Et c m s)(hn:m<=n):Et c n s:=⟨h.1,iS h.2.1 hn,h.2.2⟩
def qbB:List bM->Bool
 |[]=>true
 |[t]=>decide (t.name≠dY)
 |a::c::r=>if a.name≠dY then qbB (c::r)else decide (a.kind=1/\c.kind=2/\c.name=dY)&&qbB r
def aJp:∀{l:List bM},qbB l=true->QB l
 |[],_=> .nil
 |[t],h=>by simp only[qbB,fY]at h;exact .tok h .nil
 |a::c::r,h=>by
  unfold qbB at h;split at h
  .rename_i ha;exact .tok ha (aJp h)
  .rename_i ha;simp only[eK,fY]at h;exact .scr h.1.1 (Hh ha) h.1.2.1 h.1.2.2 (aJp h.2)
def pcB(c:Bool)(k:Nat)(t:bE):Bool:=decide ((60:UInt8)∉t) || (decide (t.head? =some 60)&&qbB (lJ t).1&&decide (mq (lJ t).1<=k)&&(!c || decide ((60:UInt8)∉(lJ t).2)))
def GM{c:Bool}{k:Nat}{t:bE}(h:pcB c k t=true):Pg c k t:=by
 unfold pcB at h;simp only[sA,eK,fY]at h;refine h.imp (λh=>h) λ⟨⟨⟨h1,h2⟩,h3⟩,h4⟩=>⟨?_,aJp h2,h3,λhc=>h4.resolve_left (by simp[hc])⟩
 cases t with
 |nil=>simp at h1
 |cons x t'=>simp only[head?_cons,eI]at h1;exact⟨t',by rw[h1]⟩
def clS:bE:=[60,47,115,99,114,105,112,116,62]
def aV5(o:bE):Bool:=decide (o.head? =some 60)&&decide ((lJ o).1.length=1)&&(lJ o).1.all (λa=>decide (a.kind=1)&&decide (a.name=dY))&&decide ((lJ o).2=[])
def Ye{o u:bE}(ho:aV5 o=true)(h2:(60:UInt8)∉u)(h3:u≠[])(h4:NW u):Pg true 15 (o++u++clS):=by
 unfold aV5 at ho;simp only[eK,fY,fW]at ho;obtain⟨⟨⟨ho,hl⟩,ha⟩,hr⟩:=ho;have hc:(lJ clS).1.length=1/\(∀c∈(lJ clS).1,c.kind=2/\c.name=dY)/\(lJ clS).2=[]:=by decide+kernel
 obtain⟨hc1,LH,hc3⟩:=hc;obtain⟨a,ea⟩:=length_eq_one_iff.1 hl;obtain⟨c,ec⟩:=length_eq_one_iff.1 hc1;have ha:=ha a (by simp[ea]);have LH:=LH c (by simp[ec]);have e:lJ (o++u++clS)=([a,⟨3,[],[],u⟩,c],[]):=by rw[rL,vo hr,ea];have e1:clS=60::clS.tail:=rfl;rw[e1,wm h2 h3,<-e1,ec,hc3];rfl
 refine .inr ⟨?_,?_⟩
 .cases o with
  |nil=>simp at ho
  |cons x t'=>simp only[head?_cons,eI]at ho;exact⟨t'++u++clS,by simp[ho]⟩
 .unfold Et;rw[e];exact⟨.txt ha.1 ha.2 LH.1 LH.2 h4 .nil,by simp[mq,opB,ha.1,ha.2,LH.1],λ_=>by simp⟩
def aV6:bE:=[115,97,121,32,110]
def aR1:NW aV6:=by unfold NW;decide+kernel
end Go.Proofs.YtanobkmhbpjnpaaGreatDoor
