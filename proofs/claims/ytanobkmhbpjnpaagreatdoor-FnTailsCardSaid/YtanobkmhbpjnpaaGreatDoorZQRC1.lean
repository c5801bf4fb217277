/- Steps. No condition. -/
import Derived.Test.YtanobkmhbpjnpaaGreatDoorZQS1
import Derived.Test.YtanobkmhbpjnpaaGreatDoorZTK2
set_option linter.all false
set_option maxRecDepth 4000
set_option maxHeartbeats 4000000
namespace Go.Proofs.YtanobkmhbpjnpaaGreatDoor
open Go.Aw Proofs.Tryz List IntKind
def aCu(s:bE)(k:Nat)(h:k<s.length):(bL s)[k]? =some [.int .u8 s[k].toNat]:=by simp[bL,h]
def Ms:∀s:bE,bytesOf (bL s)=some s
 |[]=>rfl
 |c::s=>by have ih:=Ms s;simp only[bL,oE]at ih⊢;simp only[bytesOf,ih,oR,oB];simp
@[simp] def aSr(f:Tg->Option Tg)(b:Bool)(l:bE):lW f b (bL l)=bL l:=by
 induction l with
 |nil=>rfl
 |cons x l ih=>simp only[bL,oE,lW,tJ,rt]at ih⊢;rw[ih]
def EP(s:bE)(k:Nat):bE:=(s.take k).map uO++s.drop k
def jk(s:bE)(k:Nat):(EP s k).length=s.length:=by unfold EP;rw[eR,tE,pL,AN];omega
def jl(s:bE)(k:Nat)(h:k<s.length):(EP s k)[k]? =some s[k]:=by unfold EP;rw[lO (by rw[tE,pL];omega)];simp[show min k s.length=k by omega,aE h]
def jm(s:bE)(k:Nat)(h:k<s.length):(EP s k).set k (uO s[k])=EP s (k+1):=by
 unfold EP;have hl:((s.take k).map uO).length=k:=by simp;omega
 rw[By _ _ (by omega),hl,tU,oY h,cQ,fN h,pP];simp
def aCv(s:bE)(k:Nat)(h:k<s.length)(hm:uO s[k]=s[k]):EP s (k+1)=EP s k:=by
 rw[<-jm s k h,hm];have e:=jl s k h;refine CA λi=> ?_
 rw[GB];split
 .rename_i hi;subst hi;rw[eM (by rw[jk];exact h)];exact e.symm
 .rfl
def jo(l:bE)(k:Nat)(c:UInt8):(bL l).set k [.int .u8 c.toNat]=bL (l.set k c):=by simp[bL,map_set]
def sN[aG prog](s:bE)(hl:s.length<=1099511627776):Ok prog 220 [.str s] (.str (s.map uO)):=by
 refine dN aK func220 ntmps220 ?_;have W:=trivial;repeat' first|refine wf ?_|(refine nx ?_;refine sb ?_)|(refine sq ?_ ?_<;>intro hc<;>try exact hc.elim)|fail
 refine aT (ι:={k:Nat // k<=s.length}) (λt o i=>⟨bP t [(4,.int .i64 i.1)],[⟨true,false,1,1,bL (EP s i.1)⟩]⟩)
  (λi=>s.length-i.1) ⟨0,by simp⟩ (aP (by simp[EP]) (by simp)) ?_
 rintro⟨k,hk⟩ K1 hK1;simp only[bP,cH,cQ]at hK1⊢;have hk1:=tQ (k:=k);by_cases hlt:k<s.length
 .have hul:=jk s k;have hug:=jl s k hlt;have hbl:=pJ (EP s k);have hg:(bL (EP s k))[k]? =some [.int .u8 s[k].toNat]:=by rw[aCu _ _ (by omega)];rw[aE (by omega)]at hug;rw[cX hug]
  have hlb:k<(bL (EP s k)).length:=by omega
  have hs1:=jm s k hlt;have mI:=aCv s k hlt;by_cases h1:s[k]=91
  .have h1i:((s[k].toNat:Nat):Int)=91:=by rw[h1];rfl
   have hset:(bL (EP s k)).set k [.int .u8 60]=bL (EP s (k+1)):=by rw[<-hs1,<-jo];simp[uO,h1]
   have W:=aA hk1 (aA hg (aA hbl (aA hul (aA h1i hset))));have V:=aA hlb hlt;repeat' first|refine wf ?_|(refine nx ?_;refine sb ?_)|(refine sq ?_ ?_<;>intro hc<;>try exact hc.elim)|fail
   all_goals exact hK1 _ ⟨k+1,by omega⟩ aP (by simp only;omega)
  .have h1i:¬((s[k].toNat:Nat):Int)=91:=λh=>h1 (Fm (by exact_mod_cast h))
   by_cases h2:s[k]=93
   .have h2i:((s[k].toNat:Nat):Int)=93:=by rw[h2];rfl
    have hset:(bL (EP s k)).set k [.int .u8 62]=bL (EP s (k+1)):=by rw[<-hs1,<-jo];simp[uO,h2]
    have W:=aA hk1 (aA hg (aA hbl (aA hul (aA h1i (aA h2i hset)))));have V:=aA hlb hlt;repeat' first|refine wf ?_|(refine nx ?_;refine sb ?_)|(refine sq ?_ ?_<;>intro hc<;>try exact hc.elim)|fail
    all_goals exact hK1 _ ⟨k+1,by omega⟩ aP (by simp only;omega)
   .have h2i:¬((s[k].toNat:Nat):Int)=93:=λh=>h2 (Fm (by exact_mod_cast h))
    have hsm:=mI (by simp[uO,h1,h2]);have W:=aA hk1 (aA hg (aA hbl (aA hul (aA h1i h2i))));have V:=aA hlb hlt;repeat' first|refine wf ?_|(refine nx ?_;refine sb ?_)|(refine sq ?_ ?_<;>intro hc<;>try exact hc.elim)|fail
    all_goals exact hK1 _ ⟨k+1,by omega⟩ (aP (by simp[hsm]) (by simp)) (by simp only;omega)
 .have hk2:k=s.length:=by omega
  have hup:EP s k=s.map uO:=by simp[EP,hk2]
  have hul:(s.map uO).length=s.length:=by simp
  have hbl:=pJ (s.map uO);have hbo:=Ms (s.map uO);rw[hup];have hnk:¬k<s.length:=hlt;have W:=aA hk1 (aA hbl (aA hul hbo));repeat' first|refine wf ?_|(refine nx ?_;refine sb ?_)|(refine sq ?_ ?_<;>intro hc<;>try exact hc.elim)|fail
  exact aO results220
def bF(b:bC)(n:bE):Int:=(((b.aJ.filter λx=>decide (x.name=n)).length:Nat):Int)
def TB(b:bC)(n:bE)(k:Nat)(h:k<b.aJ.length):((b.aJ.take (k+1)).filter λx=>decide (x.name=n)).length=((b.aJ.take k).filter λx=>decide (x.name=n)).length+(if b.aJ[k].name=n then 1 else 0):=by rw[fN h,filter_append,eR];congr 1;by_cases hn:b.aJ[k].name=n<;>simp[hn]
end Go.Proofs.YtanobkmhbpjnpaaGreatDoor
set_option maxRecDepth 100000
set_option maxHeartbeats 4000000
namespace Go.Proofs.YtanobkmhbpjnpaaGreatDoor
open Go.Aw Go.Shelf Go.RowKit Proofs.Tryz List IntKind
def aHi{w:World}{E:Env}{a:bE}{vs:List Value}{fp:List Nat}(h:Rc w E [.str a] vs fp):vs=[.string ⟨a.toArray⟩]:=by
 match vs,h with
 |[],h=>simp[Rc]at h
 |[x],h=>simp only[Rc,R]at h;obtain⟨_,_,h1,_,_⟩:=h;rw[h1.1]
 |_::_::_,h=>simp[Rc]at h
def Xr[aG prog][fI prog](v:Int)(h1: -9223372036854775808<=v/\v<=9223372036854775807)(w:World)(hg:aG.holds prog w):
  Calls prog 206 #[.int .i64 v] w λe w'=>e= .returned (.string ⟨(Lib.itoa v).toArray⟩)/\Below w.heap.size w w':=by
 refine(iP v h1 w [.int .i64 v] hg (by simp[Rc,R])).mono λe w' h=> ?_
 obtain⟨x,fp,he,hr,_,_,h3,h4,h5⟩:=h;simp only[R]at hr;rw[hr.1]at he;exact⟨he,⟨h5.os,h5.tape,h5.output,h3,h4⟩⟩
def QI[aG prog][fI prog][qR prog](s:bE)(hl:s.length<=1099511627776):Ok prog 232 [.str s] (PU s):=by
 intro w vs hg h;obtain rfl:=aHi h;have fin:∀{e:Ending} {w':World} {n:Int} {b:Bool},PU s= .iL [.int .i64 n,.bool b]->e= .returned (.tuple #[.int .i64 n,.bool b])->Below w.heap.size w w'->∃v fp,e= .returned v/\R w' (CB w.heap.size w' fp) (PU s) v fp/\fp.Nodup/\
   (∀b∈fp,w.heap.size<=b/\b<w'.heap.size)/\w.heap.size<=w'.heap.size/\(∀b,b<w.heap.size->w'.heap[b]? =w.heap[b]?)/\nZ w w':=
  λhp he hb=>⟨_,[],he,by rw[hp];simp[R,Rc],nodup_nil,by simp,hb.size,hb.block,FL hb⟩
 have A:=F9 Tryz.LaysCx172 s (by omega) w hg
 go_enter func232,ntmps232
 go_wp2_with (go_at_call 260;refine A.mono ?_)
 rintro e w1 ⟨hA,hb⟩;clear A;have hg1:=aG.Yf w w1 hg λb h=>hb.block b (lP h (aG.RX w hg))
 rcases hA with⟨v,hv,rfl⟩|⟨hn,v,t,p,rfl⟩
 .rcases WZ s with⟨v',hv',h0,h1,hi,hp⟩|⟨hp,hall⟩
  .obtain rfl:v=v':=by rw[hv]at hv';exact Lib.NumEnd.ok.inj hv'
   have d0:decide (v<0)=false:=by simpa using h0
   have d1:decide (1000000000000<v)=false:=by simpa using h1
   have C:=Xr v (by omega) w1 hg1;rw[hi]at C;have F:= @fin;clear hv hv' h0 h1 hi fin
   go_wp2_with (go_at_call 206;refine C.mono ?_)
   rintro e w2 ⟨rfl,hb2⟩;clear C
   go_wp2
   go_ret2
   exact F (FR hp) rfl (hb.trans (hb2.mono hb.size))
  .have hr:=wW hp;have bd:=Lib.atoiAll_bounds hv;by_cases h0:v<0
   .have d0:decide (v<0)=true:=by simpa using h0
    clear hv h0 hall bd
    go_wp2
    go_ret2
    exact fin hr rfl hb
   by_cases h1:1000000000000<v
   .have d0:decide (v<0)=false:=by simpa using h0
    have d1:decide (1000000000000<v)=true:=by simpa using h1
    clear hv h0 h1 hall bd
    go_wp2
    go_ret2
    exact fin hr rfl hb
   .have hi:Lib.itoa v≠s:=by
     rcases hall v hv with h|h|h
     .exact absurd h h0
     .exact absurd h h1
     .exact h
    have d0:decide (v<0)=false:=by simpa using h0
    have d1:decide (1000000000000<v)=false:=by simpa using h1
    have C:=Xr v (by omega) w1 hg1;generalize Lib.itoa v=x at C hi;have d2:(x == s)=false:=by simpa using hi
    have d3:(x != s)=true:=by simpa using hi
    clear hv h0 h1 hall bd
    go_wp2_with (go_at_call 206;refine C.mono ?_)
    rintro e w2 ⟨rfl,hb2⟩;clear C
    go_wp2
    go_ret2
    exact fin hr rfl (hb.trans (hb2.mono hb.size))
 .have hp:BJ s=none:=by
   rcases WZ s with⟨v',hv',_⟩|⟨hp,_⟩
   .exact absurd hv' (hn _)
   .exact hp
  have hr:=wW hp;clear hn
  go_wp2
  go_ret2
  exact fin hr rfl hb
end Go.Proofs.YtanobkmhbpjnpaaGreatDoor
set_option maxRecDepth 4000
set_option maxHeartbeats 4000000
namespace Go.Proofs.YtanobkmhbpjnpaaGreatDoor
open Go.Aw Proofs.Tryz List IntKind
def Ox(p:bE):bE:=p.take (jQ 58 p)
def ES(p:bE):bE:=p.drop (jQ 58 p+1)
def wY(p:bE):Option Gr:=match BJ (ES p)with
 |some v=>if dW (Ox p)=true/\1<=v/\v<=999 then some ⟨Ox p,v⟩else none
 |none=>none
def oI(l:List bE):List Gr:=(l.filterMap wY).take 8
def wZ(s:bE):iX:=⟨oI (dQ 59 s)⟩
def Jh{p:bE}(h:BJ (ES p)=none):wY p=none:=by rw[wY,h]
def PX{p:bE}(h:dW (Ox p)=false):wY p=none:=by
 unfold wY;split
 .rw [eC (by simp[h])]
 .rfl
def TJ{p:bE}{v:Int}(h:BJ (ES p)=some v)(h1:¬(1<=v/\v<=999)):wY p=none:=by rw[wY,h];exact eC (λh=>h1 h.2)
def TK{p:bE}{v:Int}(h:BJ (ES p)=some v)(hn:dW (Ox p)=true)(h1:1<=v/\v<=999):wY p=some ⟨Ox p,v⟩:=by rw[wY,h];exact eM ⟨hn,h1⟩
def TL{l:List bE}{k:Nat}(h:k<l.length)(hr:wY l[k]=none):oI (l.take (k+1))=oI (l.take k):=by unfold oI;rw[fN h,filterMap_append];simp[hr]
def TM{l:List bE}{k:Nat}{r:Gr}(h:k<l.length)(hr:wY l[k]=some r)(h8:(oI (l.take k)).length<8):oI (l.take (k+1))=oI (l.take k)++[r]:=by unfold oI at*;rw[fN h,filterMap_append];simp only[pL]at h8;simp only[filterMap_cons,hr,filterMap_nil];generalize (l.take k).filterMap wY=x at*;rw[eN (l:=x++[r]) (by simp;omega),eN (l:=x) (by omega)]
def TN{l:List bE}{k:Nat}(h8:¬(oI (l.take k)).length<8):oI l=oI (l.take k):=by
 unfold oI at*;conv=>lhs;rw[<-pC k l,filterMap_append]
 simp only[pL]at h8;rw[tM (by omega)]
def kz{l:List bE}{k:Nat}(h8:¬(oI (l.take k)).length<8):oI (l.take (k+1))=oI (l.take k):=by have:= @TN (l.take (k+1)) k;rw[take_take,Fo (by omega)]at this;exact this h8
def ll(l:List bE):(oI l).length<=8:=by unfold oI;simp;omega
def L6{p:bE}{x:UInt8}(hx:x∈ES p)(h:x=58):BJ (ES p)=none:=by obtain⟨k,hk,e⟩:=mem_iff_getElem.1 hx;refine jr hk ?_;rw[e,h];decide
def aQv(p:bE):(dQ 58 p=[Ox p,ES p])\/((dQ 58 p).length≠2/\wY p=none):=by
 rw[wX];by_cases h:jQ 58 p<p.length
 .rw [eM h];by_cases h2:∀x∈ES p,x≠58
  .left;rw[show p.drop (jQ 58 p+1)=ES p from rfl,CG _ _ h2];rfl
  .right;have⟨x,hx⟩:=Classical.not_forall.1 h2;have⟨hm,jE⟩:=Classical.not_imp.1 hx;have aUp:=Gk.1 jE;refine⟨?_,Jh (L6 hm aUp)⟩;rw[show p.drop (jQ 58 p+1)=ES p from rfl,eL,kW];have:0<(ES p).count 58:=count_pos_iff.2 (aUp▸hm);omega
 .right;rw[eC h];refine⟨by simp,Jh ?_⟩;have e:ES p=[]:=by unfold ES;exact drop_eq_nil_of_le (by omega)
  rw[e];exact Xq (by simp)
def Mw[aG prog][dG prog][fI prog][qR prog](s:bE)(hl:s.length<=1073741824):Ok prog 185 [.str s] (.agg (gK .own (wZ s))):=by
 have cS:=Xv s 59 (by omega);have hsm:=Ct 59 s;have hsl:=kW 59 s;have hcn:s.count 59<=s.length:=qS;unfold wZ;generalize dQ 59 s=l at*;have hll:l.length<=1073741825:=by omega
 simp only[gK];refine dN aK func185 ntmps185 ?_;refine bK ?_;refine aT (ι:={q:Nat×Nat×List Gr // (q.1<=l.length/\1<=q.2.1)/\q.2.2=oI (l.take q.1)}) (λt o i=>⟨bP t [(15,.int .i64 i.1.1),(11,.aB)],o.take 1++[⟨true,true,1,0,[[.obj 3 i.1.2.1]]⟩,⟨true,false,1,1,l.map eD⟩,⟨true,false,2,i.1.2.1,i.1.2.2.map Bt⟩]⟩)
  (λi=>l.length-i.1.1) ⟨(0,1,[]),by simp,by simp[oI]⟩ (vM 1 0 0 (ob:=⟨true,true,1,0,[[.sl .own 2 []]]⟩) (by rfl) (by rfl) (by rfl) (by simp) (by rfl) (by rfl) (by simp) (by simp[tJ,rt,lV])) ?_
 rintro⟨⟨k,v,acc⟩,⟨hk,hv⟩,yT⟩ K1 hK1;simp only at hk hv yT;simp only[bP,cH,cQ,eV,gS,cW,eA]at hK1⊢;have hk1:=tQ (k:=k);by_cases hlt:k<l.length
 .have hg:=aE hlt;have hwz:=iU iM l k hlt;simp only[iM]at hwz;have cC:=Bh l[k] 58 (by omega);have cN:=jS (Ox l[k]) (by simp[Ox];omega);have cP:=QI (ES l[k]) (by simp[ES];omega);change Ok _ _ _ (.iL [.str (Ox l[k]),.str (ES l[k]),.bool (decide (jQ 58 l[k]<l[k].length))])at cC;have n1:= @TL l k hlt;have n2:=λr=> @TM l k r hlt
  have n3:= @kz l k;have r1:= @Jh l[k];have r2:= @PX l[k];have r3:=λv=> @TJ l[k] v
  have r4:=λv=> @TK l[k] v
  have ha8:=ll (l.take k);rw[<-yT]at n1 n2 n3 ha8;generalize RJ:oI (l.take (k+1))=TP at*;generalize hrl:wY l[k]=ru at*;generalize decide (jQ 58 l[k]<l[k].length)=b1 at*;generalize Ox l[k]=ky at*;generalize ES l[k]=vl at*;cases hp:BJ vl with
  |none=>rw[wW hp]at cP;have e2:=n1 (r1 hp);clear r1 r2 r3 r4 n1 n2 n3;have W:=aA hk1 (aA hg hlt);refine we ?_;exact hK1 _ ⟨(k+1,v,acc),⟨by simp only;omega,hv⟩,(by simp only;rw[RJ];exact e2.symm)⟩ (aQ 4) (by simp only;omega)
  |some x=>
   rw[FR hp]at cP;cases hn:dW ky with
   |false=>rw[hn]at cN;have e2:=n1 (r2 hn);clear r1 r2 r3 r4 n1 n2 n3;have W:=aA hk1 (aA hg hlt);refine we ?_;exact hK1 _ ⟨(k+1,v,acc),⟨by simp only;omega,hv⟩,(by simp only;rw[RJ];exact e2.symm)⟩ (aQ 4) (by simp only;omega)
   |true=>
    rw[hn]at cN;have cR:=mM x 1 999;by_cases hx:1<=x/\x<=999
    .have hb:(decide ((1:Int)<=x)&&decide (x<=(999:Int)))=true:=by simp;omega
     rw[hb]at cR;have hr:=r4 x hp hn hx;by_cases h8:acc.length<8
     .have h8i:((acc.length:Int)<8):=by omega
      have e2:=n2 _ hr h8;clear r1 r2 r3 r4 n1 n2 n3;have hps:TP.map Bt=acc.map Bt++[Bt ⟨ky,x⟩]:=by rw[e2];simp
      have hgl:(acc.map Bt).length=acc.length:=by simp
      have W:=aA hk1 (aA hg (aA hlt h8i));refine we ?_;exact hK1 _ ⟨(k+1,v+1,TP),⟨by simp only;omega,by simp only;omega⟩,(by simp only;exact RJ.symm)⟩ (aQ 4 (by simp[hps])) (by simp only;omega)
     .have h8i:¬((acc.length:Int)<8):=by omega
      have e2:=n3 h8;clear r1 r2 r3 r4 n1 n2 n3;have W:=aA hk1 (aA hg (aA hlt h8i));refine we ?_;exact hK1 _ ⟨(k+1,v,acc),⟨by simp only;omega,hv⟩,(by simp only;rw[RJ];exact e2.symm)⟩ (aQ 4) (by simp only;omega)
    .have hb:(decide ((1:Int)<=x)&&decide (x<=(999:Int)))=false:=by simp only[At,sL];omega
     rw[hb]at cR;have e2:=n1 (r3 x hp hx);clear r1 r2 r3 r4 n1 n2 n3;have W:=aA hk1 (aA hg hlt);refine we ?_;exact hK1 _ ⟨(k+1,v,acc),⟨by simp only;omega,hv⟩,(by simp only;rw[RJ];exact e2.symm)⟩ (aQ 4) (by simp only;omega)
 .have htk:l.take k=l:=eN (by omega);rw[htk]at yT;subst yT;have W:=hk1;refine we ?_;exact aO results185
def JV[aG prog][dG prog](s:bE)(c:UInt8):Ok prog 233 [.str s,.int .u8 c.toNat] (.int .i64 (dx c s)):=by have h1:=BS s c;refine dN aK func233 ntmps233 ?_;refine bK ?_;exact aO results233
def DV(t:bM×Bool):List bM:=if t.2=true then [t.1]else []
def jC(x:bE):Option (List bM×bE):=
 if 0<jQ 60 x/\jQ 60 x<x.length then some ([⟨3,[],[],x.take (jQ 60 x)⟩],x.drop (jQ 60 x))
 else if jQ 60 x≠0\/jQ 62 x=x.length then none
 else some (DV (uD ((x.take (jQ 62 x)).drop 1)),x.drop (jQ 62 x+1))
def DW{x:bE}{ts:List bM}{y:bE}(h:jC x=some (ts,y)):y.length<x.length/\ts.length<=1/\bU dU ts+y.length<=x.length:=by
 unfold jC at h;split at h
 .rename_i hc;simp only[eI,oT]at h;obtain⟨rfl,rfl⟩:=h;simp[bU,dU,dS];omega
 .split at h
  .cases h
  .rename_i hc;have h62:=vL 62 x;simp only[eI,oT]at h;obtain⟨rfl,rfl⟩:=h;have hz:=aHl ((x.take (jQ 62 x)).drop 1);simp only[AN,pL]at hz;generalize uD ((x.take (jQ 62 x)).drop 1)=tg at*;unfold DV;split<;>simp[bU]<;>omega
def Gx:Nat->bE->List bM×bE
 |0,x=>([],x)
 |n+1,x=>match jC x with
  |none=>([],x)
  |some (ts,y)=>(ts++(Gx n y).1,(Gx n y).2)
def lJ(x:bE):List bM×bE:=Gx x.length x
def FX:∀(n:Nat) (x:bE),x.length<=n->Gx n x=Gx x.length x
 |0,x,h=>by rw[show x.length=0 by omega]
 |n+1,x,h=>by
  cases hs:jC x with
  |none=>
   cases hx:x.length with
   |zero=>simp[Gx,hs]
   |succ m=>simp[Gx,hs]
  |some q=>
   obtain⟨ts,y⟩:=q;have hlt:=(DW hs).1;cases hx:x.length with
   |zero=>omega
   |succ m=>simp only[Gx,hs];rw[FX n y (by omega),FX m y (by omega)]
def zG{x:bE}{ts:List bM}{y:bE}(h:jC x=some (ts,y)):lJ x=(ts++(lJ y).1,(lJ y).2):=by
 have hlt:=(DW h).1;unfold lJ;cases hx:x.length with
 |zero=>omega
 |succ m=>simp only[Gx,h];rw[FX m y (by omega)]
def AQ{x:bE}(h:jC x=none):lJ x=([],x):=by
 unfold lJ;cases hx:x.length with
 |zero=>simp[Gx]
 |succ m=>simp[Gx,h]
def Jk:∀(n:Nat) (x:bE),x.length<=n->(lJ x).1.length+(lJ x).2.length<=x.length/\bU dU (lJ x).1+(lJ x).2.length<=x.length
 |n,x,h=>by
  cases hs:jC x with
  |none=>rw[AQ hs];simp[bU]
  |some q=>
   obtain⟨ts,y⟩:=q;obtain⟨h1,h2,h3⟩:=DW hs;rw[zG hs];cases n with
   |zero=>omega
   |succ n=>
    obtain⟨i1,i2⟩:=Jk n y (by omega);have hj:∀a b:List bM,bU dU (a++b)=bU dU a+bU dU b:=by
     intro a b;induction a with
     |nil=>simp[bU]
     |cons x xs ih=>simp only[cW,bU,ih];omega
    simp only[eR,hj];omega
def aBe{x:bE}(h0:jQ 60 x=0)(h1:jQ 62 x<x.length):1<=jQ 62 x:=by
 cases x with
 |nil=>simp at h1
 |cons c r=>
  rw[yD]at h0⊢;by_cases hc:c=60
  .subst hc;rw[eC (by decide)];omega
  .rw [eC hc]at h0;omega
def Gy[aG prog][dG prog](t:nN)(s:bE)(hl:t.rest.length+s.length<=274877906944):Ok prog 167 [.agg (fU t),.str s] (.iL [.sl .own 4 ((lJ (t.rest++s)).1.map (dK .own)),.agg [.str (lJ (t.rest++s)).2]]):=by
 obtain⟨rest⟩:=t;simp only at hl⊢;have hx0:(rest++s).length<=274877906944:=by simp;omega
 have hj:rest.length+s.length<=9223372036854775807:=by omega
 generalize hx:rest++s=x0 at*;generalize hF:lJ x0=F at*;refine dN aK func167 ntmps167 ?_;have W:=aA hj hx;refine we ?_;refine aT (ι:={q:bE×List bM×Nat // (q.2.1.length+q.1.length<=x0.length/\1<=q.2.2)/\F=(q.2.1++(lJ q.1).1,(lJ q.1).2)}) (λt o i=>⟨bP t [(6,.obj 2 i.1.2.2),(7,.str i.1.1)],[⟨true,true,1,0,[[.str rest]]⟩,⟨true,true,1,0,[[.str []]]⟩,⟨true,false,4,i.1.2.2,i.1.2.1.map (dK .own)⟩]⟩)
  (λi=>i.1.1.length) ⟨(x0,[],1),by simp,by simp[hF]⟩ aP ?_
 rintro⟨⟨x,acc,v⟩,⟨hal,hv⟩,wB⟩ K1 hK1;simp only at hal hv wB;simp only[bP,cH,cQ]at hK1⊢;have cK:Ok prog 177 [.str x,.int .u8 60] (.int .i64 (jQ 60 x:Nat)):=KM x 60 (by omega);have cE:Ok prog 177 [.str x,.int .u8 62] (.int .i64 (jQ 62 x:Nat)):=KM x 62 (by omega);have hkl:=vL 60 x;have hel:=vL 62 x;have h1e:=aBe (x:=x);have cT:=YV ((x.take (jQ 62 x)).drop 1) (by simp;omega);simp only[dK,drop_one]at cT;have hst:jC x=_:=rfl;unfold jC at hst;by_cases hA:0<jQ 60 x/\jQ 60 x<x.length
 .have RD:jC x=some ([⟨3,[],[],x.take (jQ 60 x)⟩],x.drop (jQ 60 x)):=by unfold jC;rw[eM hA]
  rw[zG RD]at wB;have hA1:(0:Int)<((jQ 60 x:Nat):Int):=by omega
  have hA2:((jQ 60 x:Nat):Int)<(x.length:Int):=by omega
  clear hst RD cT cE h1e hel;generalize jQ 60 x=k at*;have hb1:(acc.length+1)*64<=140737488355328:=by omega
  have W:=aA hA1 (aA hA2 hb1);refine we ?_;all_goals refine hK1 _ ⟨(x.drop k,acc++[⟨3,[],[],x.take k⟩],v+1),⟨by simp;omega,by simp only;omega⟩,by rw[wB];simp⟩ (aQ 3) (by simp;omega)
 .by_cases hB:jQ 60 x≠0\/jQ 62 x=x.length
  .have RD:jC x=none:=by unfold jC;rw[eC hA,eM hB]
   rw[AQ RD]at wB;subst wB;clear hst RD cT h1e hK1;by_cases hk0:jQ 60 x=0
   .have hee:jQ 62 x=x.length:=by rcases hB with h|h;exact absurd hk0 h;exact h
    rw[hk0]at cK;rw[hee]at cE;clear hA hB;refine bK ?_;exact aO results167
   .have hkk:jQ 60 x=x.length:=by omega
    have hx1:¬x=[]:=by rintro rfl;simp at hkk;exact hk0 hkk
    have hx2:0<x.length:=AT.2 hx1;rw[hkk]at cK;clear hA hB hk0;have W:=aA hx1 hx2;refine we ?_;exact aO results167
  .have RD:jC x=some (DV (uD ((x.take (jQ 62 x)).drop 1)),x.drop (jQ 62 x+1)):=by unfold jC;rw[eC hA,eC hB]
   rw[zG RD]at wB;have hk0:jQ 60 x=0:=by omega
   have hE1:=h1e hk0 (by omega);have RJ:jQ 62 x<x.length:=by omega
   rw[hk0]at cK;clear hst RD h1e hA hB hk0 hkl;generalize jQ 62 x=e at*;rw[drop_one]at wB;generalize uD (x.take e).tail=tg at*;obtain⟨tk,ok⟩:=tg;simp only at cT;have hE3:¬((e:Int)=(x.length:Int)):=by omega
   have hE4:(1:Int)<=(e:Int):=by omega
   have hE5:(e:Int)<=(x.length:Int):=by omega
   have hw:i64.wrap ((e:Int)+1)=((e+1:Nat):Int):=by rw[wrap64]<;>omega
   have hE6:e+1<=x.length:=by omega
   have hb1:(acc.length+1)*64<=140737488355328:=by omega
   cases ok
   .simp only[DV,cY,eW,eA]at wB;have W:=aA hE3 (aA hE4 (aA hE5 (aA hw (aA hE6 hE1))));refine we ?_;all_goals refine hK1 _ ⟨(x.drop (e+1),acc,v),⟨by simp;omega,hv⟩,wB⟩ (aQ 3) (by simp;omega)
   .simp only[DV,eS]at wB;have W:=aA hE3 (aA hE4 (aA hE5 (aA hw (aA hE6 (aA hE1 hb1)))));refine we ?_;all_goals refine hK1 _ ⟨(x.drop (e+1),acc++[tk],v+1),⟨by simp;omega,by simp only;omega⟩,by rw[wB];simp⟩ (aQ 3) (by simp;omega)
def QL[aG prog][dG prog](t:nN)(s:bE)(hl:t.rest.length+s.length<=274877906944):Ok prog 186 [.agg (fU t),.str s] (.iL [.sl .own 4 ((lJ (t.rest++s)).1.map (dK .own)),.agg [.str (lJ (t.rest++s)).2]]):=by
 obtain⟨rest⟩:=t;simp only at hl⊢;have hx0:(rest++s).length<=274877906944:=by simp;omega
 have hj:rest.length+s.length<=9223372036854775807:=by omega
 generalize hx:rest++s=x0 at*;generalize hF:lJ x0=F at*;refine dN aK func186 ntmps186 ?_;have W:=aA hj hx;refine we ?_;refine aT (ι:={q:bE×List bM×Nat // (q.2.1.length+q.1.length<=x0.length/\1<=q.2.2)/\F=(q.2.1++(lJ q.1).1,(lJ q.1).2)}) (λt o i=>⟨bP t [(7,.obj 2 i.1.2.2),(6,.str i.1.1)],[⟨true,true,1,0,[[.str rest]]⟩,⟨true,true,1,0,[[.str []]]⟩,⟨true,false,4,i.1.2.2,i.1.2.1.map (dK .own)⟩]⟩)
  (λi=>i.1.1.length) ⟨(x0,[],1),by simp,by simp[hF]⟩ aP ?_
 rintro⟨⟨x,acc,v⟩,⟨hal,hv⟩,wB⟩ K1 hK1;simp only at hal hv wB;simp only[bP,cH,cQ]at hK1⊢;cases hxc:x with
 |nil=>
  have RD:jC []=none:=by simp[jC,aAx]
  rw[hxc,AQ RD]at wB;subst wB;clear hK1;refine bK ?_;exact aO results186
 |cons c r=>
  have hx1:¬x=[]:=by rw[hxc];simp
  have hx2:x[0]? =some c:=by rw[hxc];rfl
  rw[<-hxc];have cK:Ok prog 233 [.str x,.int .u8 60] (.int .i64 (dx 60 x)):=JV x 60;have cE:Ok prog 233 [.str x,.int .u8 62] (.int .i64 (dx 62 x)):=JV x 62;unfold dx at cK cE;have hkl:=vL 60 x;have hel:=vL 62 x;have h1e:=aBe (x:=x);have cT:=YO ((x.take (jQ 62 x)).drop 1) (by simp;omega);simp only[dK,drop_one]at cT;by_cases mi:c=60
  .have hk0:jQ 60 x=0:=by rw[hxc,yD,eM mi]
   have hc1:(c.toNat:Int)=60:=by rw[mi];rfl
   have hA:¬(0<jQ 60 x/\jQ 60 x<x.length):=by omega
   by_cases hB:jQ 62 x=x.length
   .have RD:jC x=none:=by unfold jC;rw[eC hA,eM (.inr hB)]
    rw[AQ RD]at wB;subst wB;rw[eC (by omega)]at cE;clear RD cT h1e hK1 hA hB hxc mi cK hk0;have W:=aA hx1 (aA hx2 hc1);repeat' first|refine wf ?_|(refine sq ?_ ?_<;>intro hc<;>try exact hc.elim)|fail
    all_goals (try exact aO results186)
   .have RD:jC x=some (DV (uD ((x.take (jQ 62 x)).drop 1)),x.drop (jQ 62 x+1)):=by unfold jC;rw[eC hA,eC (by rintro(h|h);exact h hk0;exact hB h)]
    rw[zG RD]at wB;have hE1:=h1e hk0 (by omega);have RJ:jQ 62 x<x.length:=by omega
    rw[eM RJ]at cE;clear RD h1e hA hB hkl hxc mi cK hk0;generalize jQ 62 x=e at*;rw[drop_one]at wB;generalize uD (x.take e).tail=tg at*;obtain⟨tk,ok⟩:=tg;simp only at cT;have hE4:(1:Int)<=(e:Int):=by omega
    have hE5:(e:Int)<=(x.length:Int):=by omega
    have hw:i64.wrap ((e:Int)+1)=((e+1:Nat):Int):=by rw[wrap64]<;>omega
    have hE6:e+1<=x.length:=by omega
    have hb1:(acc.length+1)*64<=140737488355328:=by omega
    cases ok
    .simp only[DV,cY,eW,eA]at wB;have W:=aA hx1 (aA hx2 (aA hc1 (aA hE4 (aA hE5 (aA hw (aA hE6 hE1))))));repeat' first|refine wf ?_|(refine sq ?_ ?_<;>intro hc<;>try exact hc.elim)|fail
     all_goals first|(exact absurd hc hx1)|refine hK1 _ ⟨(x.drop (e+1),acc,v),⟨by simp;omega,hv⟩,wB⟩ (aQ 3) (by simp;omega)
    .simp only[DV,eS]at wB;have W:=aA hx1 (aA hx2 (aA hc1 (aA hE4 (aA hE5 (aA hw (aA hE6 (aA hE1 hb1)))))));repeat' first|refine wf ?_|(refine sq ?_ ?_<;>intro hc<;>try exact hc.elim)|fail
     all_goals first|(exact absurd hc hx1)|refine hK1 _ ⟨(x.drop (e+1),acc++[tk],v+1),⟨by simp;omega,by simp only;omega⟩,by rw[wB];simp⟩ (aQ 3) (by simp;omega)
  .have hk0:0<jQ 60 x:=by rw[hxc,yD,eC mi];omega
   have hc1:¬(c.toNat:Int)=60:=λh=>mi (DA.1 (by simp;omega))
   by_cases hB:jQ 60 x<x.length
   .have RD:jC x=some ([⟨3,[],[],x.take (jQ 60 x)⟩],x.drop (jQ 60 x)):=by unfold jC;rw[eM ⟨hk0,hB⟩]
    rw[zG RD]at wB;rw[eM hB]at cK;clear RD cT cE h1e hel hxc mi;generalize jQ 60 x=k at*;have hA1:(0:Int)<(k:Int):=by omega
    have hA2:(k:Int)<(x.length:Int):=by omega
    have hb1:(acc.length+1)*64<=140737488355328:=by omega
    have W:=aA hx1 (aA hx2 (aA hc1 (aA hA1 (aA hA2 hb1))));repeat' first|refine wf ?_|(refine sq ?_ ?_<;>intro hc<;>try exact hc.elim)|fail
    all_goals first|(exact absurd hc hx1)|refine hK1 _ ⟨(x.drop k,acc++[⟨3,[],[],x.take k⟩],v+1),⟨by simp;omega,by simp only;omega⟩,by rw[wB];simp⟩ (aQ 3) (by simp;omega)
   .have RD:jC x=none:=by unfold jC;rw[eC (by omega),eM (.inl (by omega))]
    rw[AQ RD]at wB;subst wB;rw[eC hB]at cK;clear RD cT h1e hK1 hB hxc mi cE hk0;have W:=aA hx1 (aA hx2 hc1);repeat' first|refine wf ?_|(refine sq ?_ ?_<;>intro hc<;>try exact hc.elim)|fail
    all_goals (try exact aO results186)
def pF(s:bE):List bM:=(lJ s).1++lD ⟨(lJ s).2⟩
def Ig(t:nN):bU dU (lD t)<=t.rest.length/\(lD t).length<=1:=by
 unfold lD;split
 .simp [bU]
 .simp [bU,dU,dS]
def Ih(s:bE):(pF s).length<=s.length+1/\bU dU (pF s)<=s.length:=by
 obtain⟨h1,h2⟩:=Jk s.length s (eJ _);obtain⟨h3,h4⟩:=Ig ⟨(lJ s).2⟩;have hj:∀a b:List bM,bU dU (a++b)=bU dU a+bU dU b:=by
  intro a b;induction a with
  |nil=>simp[bU]
  |cons x xs ih=>simp only[cW,bU,ih];omega
 simp only[pF,eR,hj]at*;omega
def QM[aG prog][dG prog](s:bE)(hl:s.length<=1048576):Ok prog 115 [.str s] (.sl .own 4 ((pF s).map (dK .own))):=by
 have c1:=Gy ⟨[]⟩ s (by simp;omega);obtain⟨h1,h2⟩:=Jk s.length s (eJ _);simp only[eA,fU]at c1;unfold pF;generalize lJ s=f at*;obtain⟨l,x⟩:=f;simp only at c1 h1 h2⊢;have c2:=Ic ⟨x⟩ (by simp only;omega);have h4:=(Ig ⟨x⟩).2;simp only[fU]at c2;generalize lD ⟨x⟩=g at*;have hb1:(l.length+g.length)*64<=140737488355328:=by omega
 refine dN aK func115 ntmps115 ?_;have W:=hb1;refine we ?_;all_goals try(refine bA ?_;simp[bB,results115])
 all_goals (first|(rw[<-pP];exact sU _)|simp)
def QN[aG prog][dG prog](s:bE)(hl:s.length<=1048576):Ok prog 128 [.str s] (.sl .own 4 ((pF s).map (dK .own))):=by
 have c1:=QL ⟨[]⟩ s (by simp;omega);obtain⟨h1,h2⟩:=Jk s.length s (eJ _);simp only[eA,fU]at c1;unfold pF;generalize lJ s=f at*;obtain⟨l,x⟩:=f;simp only at c1 h1 h2⊢;have c2:=TY ⟨x⟩ (by simp only;omega);have h4:=(Ig ⟨x⟩).2;simp only[fU]at c2;generalize lD ⟨x⟩=g at*;have hb1:(l.length+g.length)*64<=140737488355328:=by omega
 refine dN aK func128 ntmps128 ?_;have W:=hb1;refine we ?_;all_goals try(refine bA ?_;simp[bB,results128])
 all_goals (first|(rw[<-pP];exact sU _)|simp)
def GI(p:gG)(r:iO):iF p r=1\/iF p r=2:=by unfold iF;split<;>simp
def gJ(p:aF)(nI:Int)(tu eZ:bE)(node:Int):aF×Int:=
 if 20<=p.aD.length\/iI nI=0 then(p, -1)
 else if (dR tu p.gZ.bN).2=false\/iF p.bO ⟨iI nI,(dR tu p.gZ.bN).1,p.gZ.bN,eZ⟩≠1 then
  ({p with aD:=p.aD++[(⟨nI,(dR tu p.gZ.bN).1,eZ,node,true,2,[]⟩:qF)]},((p.aD.length:Nat):Int))
 else({p with aD:=p.aD++[(⟨nI,(dR tu p.gZ.bN).1,eZ,node,false,0,[]⟩:qF)]},((p.aD.length:Nat):Int))
def Cf{p:aF}{nI:Int}{tu eZ:bE}{node:Int}(h:20<=p.aD.length\/iI nI=0):gJ p nI tu eZ node=(p, -1):=by unfold gJ;rw[eM h]
def Qd{p:aF}{nI:Int}{tu eZ:bE}{node:Int}(h:¬(20<=p.aD.length\/iI nI=0))(h2:(dR tu p.gZ.bN).2=false\/iF p.bO ⟨iI nI,(dR tu p.gZ.bN).1,p.gZ.bN,eZ⟩≠1):
  gJ p nI tu eZ node=({p with aD:=p.aD++[(⟨nI,(dR tu p.gZ.bN).1,eZ,node,true,2,[]⟩:qF)]},((p.aD.length:Nat):Int)):=by unfold gJ;rw[eC h,eM h2]
def MM{p:aF}{nI:Int}{tu eZ:bE}{node:Int}(h:¬(20<=p.aD.length\/iI nI=0))(h1:(dR tu p.gZ.bN).2=true)(h2:iF p.bO ⟨iI nI,(dR tu p.gZ.bN).1,p.gZ.bN,eZ⟩=1):
  gJ p nI tu eZ node=({p with aD:=p.aD++[(⟨nI,(dR tu p.gZ.bN).1,eZ,node,false,0,[]⟩:qF)]},((p.aD.length:Nat):Int)):=by
 unfold gJ;rw[eC h,eC (by rintro(h3|h3);rw[h1]at h3;cases h3;exact h3 h2)]
def Aa[aG prog](p:aF)(nI:Int)(tu eZ:bE)(node:Int)(hs:aM p<=274877906944)(hto:tu.length<=274877906944)(hd:eZ.length<=274877906944):Ok prog 172 [.agg (aH .view p),.int .i64 nI,.str tu,.str eZ,.int .i64 node] (.iL [.agg (aH .own (gJ p nI tu eZ node).1),.int .i64 (gJ p nI tu eZ node).2]):=by
 have c1:=jH p hs;simp only[aH]at c1;have hsl:p.gZ.bN.length<=274877906944:=by simp only[aM,aW]at hs;omega
 have Il:eT p.bO<=1099511627776:=by simp only[aM]at hs;omega
 have Oz:p.aD.length<=274877906944:=by simp only[aM,dS]at hs;omega
 have c2:=DZ nI;have c3:=AL tu p.gZ.bN (by omega);by_cases Ju:(20:Int)<=(p.aD.length:Int)
 .rw [Cf (.inl (by omega))];refine dN aK func172 ntmps172 ?_;have W:=Ju;refine we ?_;exact aO results172
 by_cases hk:iI nI=0
 .rw [Cf (.inr hk)];rw[hk]at c2;refine dN aK func172 ntmps172 ?_;have W:=Ju;refine we ?_;exact aO results172
 have NM:¬(20<=p.aD.length\/iI nI=0):=by rintro(h|h);omega;exact hk h
 have hsz:=MK tu p.gZ.bN;have lX:=Qd (tu:=tu) (eZ:=eZ) (node:=node) NM;have hgood:=MM (tu:=tu) (eZ:=eZ) (node:=node) NM;have c5:=xX p.bO ⟨iI nI,(dR tu p.gZ.bN).1,p.gZ.bN,eZ⟩ Il (by simp only[lZ];omega);have h12:=GI p.bO ⟨iI nI,(dR tu p.gZ.bN).1,p.gZ.bN,eZ⟩;have c4:=λl' Dw hl2=>yU {p with aD:=l'} (p.aD.length:Int) (by omega) Dw hl2
 have hr:∀s,lK {p with aD:=p.aD++[s]} (p.aD.length:Int)=⟨iI s.nI,s.to,p.gZ.bN,s.eZ⟩:=λs=>by simp[lK,iG]
 generalize hkm:iI nI=km at*;generalize dR tu p.gZ.bN=pa at*;obtain⟨a,ok⟩:=pa;simp only at c3 c5 h12 hsz lX hgood;obtain⟨s0,hs0⟩:∃s:qF,s=⟨nI,a,eZ,node,false,0,[]⟩:=⟨_,rfl⟩;obtain⟨l0,hl0⟩:∃l,l=p.aD++[s0]:=⟨_,rfl⟩;obtain⟨l3,hl3⟩:∃l:List qF,l=p.aD++[⟨nI,a,eZ,node,true,2,[]⟩]:=⟨_,rfl⟩;have hap:p.aD.map uL++[[.int .i64 nI,.str a.bN,.str a.iD,.str eZ,.int .i64 node,.bool false,.int .i64 0,.str []]]=l0.map uL:=by rw[hl0,hs0];simp
 have hg:l0[p.aD.length]? =some s0:=by rw[hl0];simp
 have O4:l0.length=p.aD.length+1:=by rw[hl0];simp
 have hset:∀h,(l0.map uL).set p.aD.length [.int .i64 (l0[p.aD.length]'h).nI,.str (l0[p.aD.length]'h).to.bN,.str (l0[p.aD.length]'h).to.iD,.str (l0[p.aD.length]'h).eZ,.int .i64 (l0[p.aD.length]'h).node,.bool true,.int .i64 2,.str (l0[p.aD.length]'h).body]=l3.map uL:=by
  intro h;have e:l0[p.aD.length]'h=s0:=by rw[aE h]at hg;exact cX hg
  rw[e,hl0,hl3,hs0,pP,pP,By _ _ (by simp)];simp
 have c4:=c4 l0 (by rw[O4];omega) (by rw[O4];omega);rw[show lK {p with aD:=l0} (p.aD.length:Int)=⟨km,a,p.gZ.bN,eZ⟩by rw[hl0,hr,hs0];simp[hkm]]at c4;simp only[aH,eG]at c4;simp only[dA,eG]at c5;rw[<-hl3]at lX;rw[<-hs0,<-hl0]at hgood;have VO:p.aD.length<l0.length:=by omega
 clear hs0 hl0 hl3 hr hkm NM;cases ok
 .rw [lX (.inl rfl)];clear lX hgood h12;refine dN aK func172 ntmps172 ?_;have W:=aA Ju (aA hk (aA hg (aA hap VO)));refine we ?_;all_goals try(refine bA ?_;simp[bB,results172])
  all_goals exact hset _
 .rcases h12 with h|h
  .rw [hgood rfl h];rw[h]at c5;clear lX hgood h;refine dN aK func172 ntmps172 ?_;have W:=aA Ju (aA hk (aA hg (aA hap VO)));refine we ?_;all_goals try(refine bA ?_;simp[bB,results172])
   all_goals exact hset _
  .rw [lX (.inr (by rw[h];decide))];rw[h]at c5;clear lX hgood h;refine dN aK func172 ntmps172 ?_;have W:=aA Ju (aA hk (aA hg (aA hap VO)));refine we ?_;all_goals try(refine bA ?_;simp[bB,results172])
   all_goals exact hset _
def Ab[aG prog](p:aF)(nI:Int)(tu eZ:bE)(node:Int)(hs:aM p<=274877906944)(hto:tu.length<=274877906944)(hd:eZ.length<=274877906944):Ok prog 160 [.agg (aH .view p),.int .i64 nI,.str tu,.str eZ,.int .i64 node] (.iL [.agg (aH .own (gJ p nI tu eZ node).1),.int .i64 (gJ p nI tu eZ node).2]):=by
 have c1:=lM p hs;simp only[aH]at c1;have hsl:p.gZ.bN.length<=274877906944:=by simp only[aM,aW]at hs;omega
 have Il:eT p.bO<=1099511627776:=by simp only[aM]at hs;omega
 have Oz:p.aD.length<=274877906944:=by simp only[aM,dS]at hs;omega
 have c2:=Ea nI;have c3:=AO tu p.gZ.bN (by omega);by_cases Ju:(20:Int)<=(p.aD.length:Int)
 .rw [Cf (.inl (by omega))];refine dN aK func160 ntmps160 ?_;have W:=Ju;refine we ?_;exact aO results160
 by_cases hk:iI nI=0
 .rw [Cf (.inr hk)];rw[hk]at c2;refine dN aK func160 ntmps160 ?_;have W:=Ju;refine we ?_;exact aO results160
 have NM:¬(20<=p.aD.length\/iI nI=0):=by rintro(h|h);omega;exact hk h
 have hsz:=MK tu p.gZ.bN;have lX:=Qd (tu:=tu) (eZ:=eZ) (node:=node) NM;have hgood:=MM (tu:=tu) (eZ:=eZ) (node:=node) NM;have c5:=xY p.bO ⟨iI nI,(dR tu p.gZ.bN).1,p.gZ.bN,eZ⟩ Il (by simp only[lZ];omega);have h12:=GI p.bO ⟨iI nI,(dR tu p.gZ.bN).1,p.gZ.bN,eZ⟩;have c4:=λl' Dw hl2=>yV {p with aD:=l'} (p.aD.length:Int) (by omega) Dw hl2
 have hr:∀s,lK {p with aD:=p.aD++[s]} (p.aD.length:Int)=⟨iI s.nI,s.to,p.gZ.bN,s.eZ⟩:=λs=>by simp[lK,iG]
 generalize hkm:iI nI=km at*;generalize dR tu p.gZ.bN=pa at*;obtain⟨a,ok⟩:=pa;simp only at c3 c5 h12 hsz lX hgood;obtain⟨s0,hs0⟩:∃s:qF,s=⟨nI,a,eZ,node,false,0,[]⟩:=⟨_,rfl⟩;obtain⟨l0,hl0⟩:∃l,l=p.aD++[s0]:=⟨_,rfl⟩;obtain⟨l3,hl3⟩:∃l:List qF,l=p.aD++[⟨nI,a,eZ,node,true,2,[]⟩]:=⟨_,rfl⟩;have hap:p.aD.map uL++[[.int .i64 nI,.str a.bN,.str a.iD,.str eZ,.int .i64 node,.bool false,.int .i64 0,.str []]]=l0.map uL:=by rw[hl0,hs0];simp
 have hg:l0[p.aD.length]? =some s0:=by rw[hl0];simp
 have O4:l0.length=p.aD.length+1:=by rw[hl0];simp
 have hset:∀h,(l0.map uL).set p.aD.length [.int .i64 (l0[p.aD.length]'h).nI,.str (l0[p.aD.length]'h).to.bN,.str (l0[p.aD.length]'h).to.iD,.str (l0[p.aD.length]'h).eZ,.int .i64 (l0[p.aD.length]'h).node,.bool true,.int .i64 2,.str (l0[p.aD.length]'h).body]=l3.map uL:=by
  intro h;have e:l0[p.aD.length]'h=s0:=by rw[aE h]at hg;exact cX hg
  rw[e,hl0,hl3,hs0,pP,pP,By _ _ (by simp)];simp
 have c4:=c4 l0 (by rw[O4];omega) (by rw[O4];omega);rw[show lK {p with aD:=l0} (p.aD.length:Int)=⟨km,a,p.gZ.bN,eZ⟩by rw[hl0,hr,hs0];simp[hkm]]at c4;simp only[aH,eG]at c4;simp only[dA,eG]at c5;rw[<-hl3]at lX;rw[<-hs0,<-hl0]at hgood;have VO:p.aD.length<l0.length:=by omega
 clear hs0 hl0 hl3 hr hkm NM;cases ok
 .rw [lX (.inl rfl)];clear lX hgood h12;refine dN aK func160 ntmps160 ?_;have W:=aA Ju (aA hk (aA hg (aA hap VO)));refine we ?_;all_goals try(refine bA ?_;simp[bB,results160])
  all_goals exact hset _
 .rcases h12 with h|h
  .rw [hgood rfl h];rw[h]at c5;clear lX hgood h;refine dN aK func160 ntmps160 ?_;have W:=aA Ju (aA hk (aA hg (aA hap VO)));refine we ?_;all_goals try(refine bA ?_;simp[bB,results160])
   all_goals exact hset _
  .rw [lX (.inr (by rw[h];decide))];rw[h]at c5;clear lX hgood h;refine dN aK func160 ntmps160 ?_;have W:=aA Ju (aA hk (aA hg (aA hap VO)));refine we ?_;all_goals try(refine bA ?_;simp[bB,results160])
   all_goals exact hset _
def Za[aG prog](b:bC)(m:bE)(hs:aV b<=274877906944):Ob prog 169 [.rF (.agg (aZ .own b)),.view (.str m)] (.agg (aZ .own {b with bD:=oZ b m (b.bD.length-1)})):=by
 have hn:b.aJ.length<=274877906944/\b.bD.length<=274877906944:=by simp only[aV,dS]at hs;omega
 have RF:i64.wrap ((b.bD.length:Int)-1)=(b.bD.length:Int)-1:=by rw[wrap64]<;>omega
 have hw1:i64.wrap ((b.aJ.length:Int)-1)=(b.aJ.length:Int)-1:=by rw[wrap64]<;>omega
 have cI:=λn lo hi=>jG n lo hi
 refine uQ aK func169 ntmps169 ?_;have W:=RF;refine we ?_;refine aT (ι:={q:Int // -1<=q/\q<(b.bD.length:Int)/\oZ b m q.toNat=oZ b m (b.bD.length-1)}) (λt o i=>⟨bP t [(5,.int .i64 i.1),(6,.aB)],o⟩) (λi=>i.1.toNat) ⟨(b.bD.length:Int)-1,by omega,by omega,by congr 1;omega⟩ aP ?_;rintro⟨q,hq1,hq2,Xn⟩ K1 hK1;simp only[bP,cH,cQ]at hK1⊢;by_cases h1:(0:Int)<q
 .obtain ⟨k,rfl⟩:∃k:Nat,q=((k+1:Nat):Int):=⟨(q-1).toNat,by omega⟩;have hlt:k+1<b.bD.length:=by omega
  have hg:=aE hlt;have ZJ:i64.wrap (((k+1:Nat):Int)-1)=((k:Nat):Int):=by rw[wrap64]<;>omega
  rw[show(((k+1:Nat):Int)).toNat=k+1 from by omega]at Xn;generalize hnn:b.bD[k+1]=n at*;cases hh:xB b m n
  .rw [MO hg hh]at Xn;by_cases h01:0<=n/\n<(b.aJ.length:Int)
   .obtain ⟨z,rfl⟩:=hY h01.1;have hm:z<b.aJ.length:=by omega
    rw[RN hm]at hh;have hgm:=aE hm;have jE:(b.aJ[z].name == m)=false:=by simpa using hh
    have c1:=cI ((z:Nat):Int) 0 ((b.aJ.length:Int)-1);rw[show(decide ((0:Int)<=((z:Nat):Int))&&decide (((z:Nat):Int)<=(b.aJ.length:Int)-1))=true from by simp;omega]at c1;have W:=aA hg (aA ZJ (aA hw1 (aA hgm (aA hm (aA jE (aA h1 hn))))));have V:=hlt;refine we ?_;all_goals exact hK1 _ ⟨((k:Nat):Int),by omega,by omega,by simpa using Xn⟩ aP (by first|omega|(simp only;omega)|(simp;omega))
   .have c1:=cI n 0 ((b.aJ.length:Int)-1);rw[show(decide ((0:Int)<=n)&&decide (n<=(b.aJ.length:Int)-1))=false from by simp;omega]at c1;have W:=aA hg (aA ZJ (aA hw1 (aA h1 hn)));have V:=hlt;refine we ?_;all_goals exact hK1 _ ⟨((k:Nat):Int),by omega,by omega,by simpa using Xn⟩ aP (by first|omega|(simp only;omega)|(simp;omega))
  .rw [Qf hg hh]at Xn;have h01:0<=n/\n<(b.aJ.length:Int):=An λh=>by rw[nk h]at hh;cases hh
   obtain⟨z,rfl⟩:=hY h01.1;have hm:z<b.aJ.length:=by omega
   rw[RN hm]at hh;have hgm:=aE hm;have jE:(b.aJ[z].name == m)=true:=by simpa using hh
   have c1:=cI ((z:Nat):Int) 0 ((b.aJ.length:Int)-1);rw[show(decide ((0:Int)<=((z:Nat):Int))&&decide (((z:Nat):Int)<=(b.aJ.length:Int)-1))=true from by simp;omega]at c1;rw[<-Xn];have W:=aA hg (aA ZJ (aA hw1 (aA hgm (aA hm (aA jE (aA h1 hn))))));have V:=hlt;refine we ?_;all_goals try(refine⟨by first|exact .inr rfl|exact .inl rfl,?_⟩;simp[jF,fK,fH,rowOf,results169,map_take])
   all_goals (rw[<-map_take];exact Td _)
 .have hq4:oZ b m (b.bD.length-1)=b.bD:=by rw[<-Xn,show q.toNat=0 by omega];rfl
  rw[hq4];have W:=h1;refine we ?_;all_goals (try exact nL (by simp[jF,fK,fH,rowOf,results169];done))
def aM2{α:Type}{f:α->Bool}{l:List α}(hn:∀x∈l,f x=false):l.find? f=none:=Fi.2 λx hx=>by simp[hn x hx]
def qa{α:Type}{f:α->Bool}:∀l:List α,¬(∀x∈l,f x=false)->∃k,∃hk:k<l.length,f l[k]=true/\∀x∈l.take k,f x=false
 |[],h=>absurd (λx hx=>by cases hx) h
 |x::l,h=>by
  cases hx:f x with
  |true=>exact⟨0,by simp,by simpa using hx,by simp⟩
  |false=>
   obtain⟨k,hk,h1,h2⟩:=qa l (λhl=>h (λy hy=>by
    rcases mC.1 hy with rfl|hy
    .exact hx
    .exact hl y hy))
   refine⟨k+1,by simpa using hk,by simpa using h1,λy hy=> ?_⟩;simp only[eV,mC]at hy;rcases hy with rfl|hy
   .exact hx
   .exact h2 y hy
def aM3{α:Type}{f:α->Bool}{l:List α}{k:Nat}(h:k<l.length)(hf:f l[k]=true)(hn:∀x∈l.take k,f x=false):l.find? f=some l[k]:=by
 have e:l=l.take k++l[k]::l.drop (k+1):=by simp
 have h5:=As (find? f) e;rw[h5,find?_append];have:(l.take k).find? f=none:=Fi.2 λx hx=>by simp[hn x hx]
 rw[this];simp only[Option.none_or,find?_cons,hf]
def oL{α:Type}(f:α->Bool)(l:List α):(wR f l= -1/\l.find? f=none)\/∃k,∃h:k<l.length,wR f l=(k:Int)/\l.find? f=some l[k]:=by
 by_cases h:∀x∈l,f x=false
 .exact .inl ⟨wI h,aM2 h⟩
 .right;obtain⟨k,hk,h1,h2⟩:=qa l h;exact⟨k,hk,Cb hk h1 h2,aM3 hk h1 h2⟩
def rX(p:aF)(s:bE):aF:=if p.uM=true then p else {p with bT:=p.bT++(lJ (p.tok.rest++s)).1,tok:=⟨(lJ (p.tok.rest++s)).2⟩}
def Nz[aG prog][dG prog](a:aF)(s:bE)(hs:aM a<=274877906)(hl:s.length<=274877906):Ok prog 138 [.agg (aH .view a),.str s] (.agg (aH .own (rX a s))):=by
 have c1:=jH a (by omega);simp only[aM,dS,sV]at hs;have c2:=Gy a.tok s (by omega);obtain⟨h1,h2⟩:=Jk (a.tok.rest++s).length (a.tok.rest++s) (eJ _);simp only[fU]at c2;simp only[aH]at c1;unfold rX;simp only[eR]at h1 h2;generalize lJ (a.tok.rest++s)=g at*;obtain⟨l,x⟩:=g;simp only at c2 h1 h2⊢;have hb1:(a.bT.length+l.length)*64<=140737488355328:=by omega
 by_cases he:a.uM=true
 .rw [eM he];simp only[he]at c1;refine dN aK func138 ntmps138 ?_;have W:=he;refine we ?_;all_goals try(refine bA ?_;simp[bB,results138])
  all_goals exact he
 .rw [eC he];replace he:a.uM=false:=by simpa using he
  simp only[he]at c1;refine dN aK func138 ntmps138 ?_;have W:=aA he hb1;refine we ?_;all_goals try(refine bA ?_;simp[bB,results138])
  all_goals (rw[<-pP];first|exact sU _|exact⟨he,sU _⟩)
end Go.Proofs.YtanobkmhbpjnpaaGreatDoor
