/- Proved here: steps towards the statement of this claim. No condition. -/
import Derived.Test.YtjkdolejalpflaaGreatDoorZQU3
import Derived.Test.YtjkdolejalpflaaGreatDoorZYShelf2
import Derived.Test.YtjkdolejalpflaaGreatDoorZF7
set_option linter.all false
set_option maxRecDepth 4000
set_option maxHeartbeats 4000000
namespace Go.Proofs.YtjkdolejalpflaaGreatDoor
open Go.Aw Proofs.Tryz List IntKind
end Go.Proofs.YtjkdolejalpflaaGreatDoor
set_option maxRecDepth 4000
set_option maxHeartbeats 4000000
namespace Go.Proofs.YtjkdolejalpflaaGreatDoor
open Go.Aw Proofs.Tryz List IntKind
end Go.Proofs.YtjkdolejalpflaaGreatDoor
set_option maxRecDepth 4000
set_option maxHeartbeats 4000000
namespace Go.Proofs.YtjkdolejalpflaaGreatDoor
open Go.Aw Proofs.Tryz List IntKind
theorem FP{α β:Type}(f:α->β)(l:List α)(k:Nat)(h:k<l.length):(l.take (k+1)).map f=(l.take k).map f++[f l[k]]:=by rw[eN h,oT];rfl
theorem EF[aB prog](l:List lD)(hl:l.length<=1099511627776):Ok prog 80 [.sl .view 2 (l.map oG)] (.sl .own 2 (l.map oG)):=by refine dA aJ func80 ntmps80 ?_;refine bI ?_;exact aO results80
theorem Ql[aB prog](t:bD)(hl:t.attrs.length<=1099511627776):Ok prog 79 [.agg (bE .view t)] (.agg (bE .own t)):=by refine dA aJ func79 ntmps79 ?_;refine bI ?_;exact aO results79
theorem Nt[aB prog](l:List bD)(hs:dL bF l<=274877906944):Ok prog 46 [.sl .view 4 (l.map (bE .view))] (.sl .own 4 (l.map (bE .own))):=by
 simp only[dL]at hs;refine dA aJ func46 ntmps46 ?_;refine bI ?_;refine aY (ι:={q:Nat×Nat // q.1<=l.length/\1<=q.2}) (λt o i=>⟨bN t [(3,.obj 0 i.1.2),(9,.int .i64 i.1.1),(5,.undef)],o.take 0++[⟨true,false,4,i.1.2,(l.take i.1.1).map (bE .own)⟩]⟩)
  (λi=>l.length-i.1.1) ⟨(0,1),by simp,by first|(simp;done)|(simp only;omega)⟩ aC ?_
 rintro⟨⟨k,v⟩,hk,hv⟩ K1 hK1;simp only at hk hv;simp only[bN,cH,cG,kO,sC,cM,cW]at hK1⊢;have hk1:=vJ (k:=k);by_cases hlt:k<l.length
 .have hg:=aE hlt;have Gv:=FP (bE .own) l k hlt;have hz:=gM bF l k hlt;simp only[bF,dL]at hz;have c1:=Ql l[k] (by omega);simp only[bE]at c1;have Ke:((l.take k).map (bE .own)).length=k:=by simp;omega
  generalize (l.take k).map (bE .own)=g at*;have W:=aA hk1 (aA hg (aA hlt Ke));refine we ?_;all_goals refine hK1 _ ⟨(k+1,v+1),by simp only;omega,by simp only;omega⟩ (aS 1 (by simp[Gv])) (by simp only;omega)
 .have Dm:l.take k=l:=eL (by omega);rw[Dm];have W:=hk1;refine we ?_;exact aO results46
theorem Nu[aB prog](l:List bD)(hs:dL bF l<=274877906944):Ok prog 49 [.sl .view 4 (l.map (bE .view))] (.sl .own 4 (l.map (bE .own))):=by
 simp only[dL]at hs;refine dA aJ func49 ntmps49 ?_;refine bI ?_;refine aY (ι:={q:Nat×Nat // q.1<=l.length/\1<=q.2}) (λt o i=>⟨bN t [(3,.obj 0 i.1.2),(4,.int .i64 i.1.1),(5,.undef)],o.take 0++[⟨true,false,4,i.1.2,(l.take i.1.1).map (bE .own)⟩]⟩)
  (λi=>l.length-i.1.1) ⟨(0,1),by simp,by first|(simp;done)|(simp only;omega)⟩ aC ?_
 rintro⟨⟨k,v⟩,hk,hv⟩ K1 hK1;simp only at hk hv;simp only[bN,cH,cG,kO,sC,cM,cW]at hK1⊢;have hk1:=vJ (k:=k);by_cases hlt:k<l.length
 .have hg:=aE hlt;have Gv:=FP (bE .own) l k hlt;have hz:=gM bF l k hlt;simp only[bF,dL]at hz;have c1:=EF l[k].attrs (by omega);have Ke:((l.take k).map (bE .own)).length=k:=by simp;omega
  generalize (l.take k).map (bE .own)=g at*;have W:=aA hk1 (aA hg (aA hlt Ke));refine we ?_;all_goals refine hK1 _ ⟨(k+1,v+1),by simp only;omega,by simp only;omega⟩ (aS 1 (by simp[Gv])) (by simp only;omega)
 .have Dm:l.take k=l:=eL (by omega);rw[Dm];have W:=hk1;refine we ?_;exact aO results49
theorem Nv[aB prog](a:dS)(hs:dD a<=274877906944):Ok prog 45 [.agg (bG .view a)] (.agg (bG .own a)):=by simp only[dD,dL]at hs;refine dA aJ func45 ntmps45 ?_;refine bI ?_;exact aO results45
theorem Nw[aB prog](a:dS)(hs:dD a<=274877906944):Ok prog 48 [.agg (bG .view a)] (.agg (bG .own a)):=by simp only[dD,dL]at hs;refine dA aJ func48 ntmps48 ?_;refine bI ?_;exact aO results48
def jA(t:jH):List bD:=if t.rest=[]\/t.rest.head? =some 60 then []else [⟨3,[],[],t.rest⟩]
end Go.Proofs.YtjkdolejalpflaaGreatDoor
set_option maxRecDepth 4000
set_option maxHeartbeats 4000000
namespace Go.Proofs.YtjkdolejalpflaaGreatDoor
open Go.Aw Proofs.Tryz List IntKind
def IU(s:aX):AV:=match vU s with|some v=> .fH [.int .i64 v,.bool true]|none=> .fH [.int .i64 0,.bool false]
theorem qJ{s:aX}(h:vU s=none):IU s= .fH [.int .i64 0,.bool false]:=by rw[IU,h]
theorem AY{s:aX}{v:Int}(h:vU s=some v):IU s= .fH [.int .i64 v,.bool true]:=by rw[IU,h]
theorem OX{s:aX}(h:¬(1<=s.length/\s.length<=13)):vU s=none:=by
 cases hp:vU s with
 |none=>rfl
 |some v=>obtain⟨m,_,_,hs,hl,_⟩:=CV hp;have:=FK m;rw[<-hs]at this;exact absurd ⟨by have:=zE.2 this;omega,hl⟩ h
theorem Tt{s:aX}{k:Nat}(hk:k<s.length)(h:¬(48<=s[k].toNat/\s[k].toNat<=57)):vU s=none:=by
 cases hp:vU s with
 |none=>rfl
 |some v=>
  obtain⟨m,_,_,hs,hl,hd⟩:=CV hp;have hd':Lib.decFrom 0 s=some m:=by
   unfold Lib.decNat at hd;split at hd
   .cases hd
   .exact hd
  obtain⟨d,h2⟩:=Lib.digit_of_decFrom s 0 m hd' k s[k] (aE hk);unfold Lib.digitVal at h2;rw[cU h]at h2;cases h2
theorem jw{s:aX}{m:Nat}(h0:s≠[])(hl:s.length<=13)(h:Lib.decFrom 0 s=some m):vU s=if m<=1000000000000/\Lib.decDigits m=s then some (m:Int)else none:=by
 have:Lib.decNat s=some m:=by unfold Lib.decNat;rw[cU (by simpa using h0)];exact h
 simp[vU,this,hl]
theorem jy(m:Nat):Lib.itoa (m:Int)=Lib.decDigits m:=by unfold Lib.itoa;rw[cU (by omega)];rfl
theorem Jt[aB prog][eD prog](s:aX)(hl:s.length<=1099511627776):Ok prog 117 [.str s] (IU s):=by
 have c1:=eX (s.length:Int) 1 13;by_cases h1:1<=s.length/\s.length<=13
 .rw [show(decide ((1:Int)<=(s.length:Int))&&decide ((s.length:Int)<=13))=true by simp;omega]at c1;have h0:s≠[]:=by intro e;rw[e]at h1;simp at h1
  refine dA aJ func117 ntmps117 ?_;refine bI ?_;refine aY (ι:={p:Nat×Nat // p.1<=s.length/\Lib.decFrom 0 (s.take p.1)=some p.2}) (λt o i=>⟨bN t [(4,.int .i64 (i.1.2:Int)),(5,.int .i64 (i.1.1:Int))],o⟩)
   (λi=>s.length-i.1.1) ⟨(0,0),by simp,by simp[Lib.decFrom]⟩ aC ?_
  rintro⟨⟨k,m⟩,⟨hk,hi⟩⟩ K1 hK1;simp only[bN,cH,cG]at hK1 hk hi⊢;have hk1:=vJ (k:=k);have aK5:m<10000000000000:=by have h2:=SH hi;have h3:(10:Nat) ^ (s.take k).length<=10 ^ 13:=Nat.pow_le_pow_right (by decide) (by simp;omega);omega
  by_cases hlt:k<s.length
  .have hg:=aE hlt;have c2:=eX (s[k].toNat:Int) 48 57;have hu:s[k].toNat<256:=s[k].toNat_lt;by_cases hd:48<=s[k].toNat/\s[k].toNat<=57
   .have hb:(decide ((48:Int)<=(s[k].toNat:Int))&&decide ((s[k].toNat:Int)<=57))=true:=by simp;omega
    rw[hb]at c2;have hw1:IntKind.u8.wrap ((s[k].toNat:Int)-48)=((s[k].toNat-48:Nat):Int):=by rw[iw]<;>omega
    have hw2:i64.wrap ((s[k].toNat-48:Nat):Int)=((s[k].toNat-48:Nat):Int):=by rw[wrap64]<;>omega
    have hw3:i64.wrap (10*(m:Int))=((10*m:Nat):Int):=by rw[wrap64]<;>omega
    have hw4:i64.wrap (((10*m:Nat):Int)+((s[k].toNat-48:Nat):Int))=((m*10+(s[k].toNat-48):Nat):Int):=by rw[wrap64]<;>omega
    have hw5:i64.wrap (s[k].toNat:Int)=(s[k].toNat:Int):=by rw[wrap64]<;>omega
    have hn:=Lib.decFrom_take s k 0 m s[k] _ hi hg (show Lib.digitVal s[k]=some (s[k].toNat-48)by unfold Lib.digitVal;rw[eA hd]);have W:=aA hk1 (aA hg (aA hlt (aA hw1 (aA hw2 (aA hw3 (aA hw4 hw5))))));refine we ?_;exact hK1 _ ⟨(k+1,m*10+(s[k].toNat-48)),by simp only;omega,hn⟩ (aC (by simp) (by simp;try omega)) (by simp only;omega)
   .have hb:(decide ((48:Int)<=(s[k].toNat:Int))&&decide ((s[k].toNat:Int)<=57))=false:=by simp only[AI,qS];omega
    rw[hb]at c2;have hw5:i64.wrap (s[k].toNat:Int)=(s[k].toNat:Int):=by rw[wrap64]<;>omega
    rw[qJ (Tt hlt hd)]at*;have W:=aA hk1 (aA hg (aA hlt hw5));refine we ?_;exact aO results117
  .have hke:k=s.length:=by omega
   subst hke;rw[Cp]at hi;have hp:=jw h0 h1.2 hi;have c3:=dV (m:Int) (by omega);rw[jy]at c3;by_cases hm:m<=1000000000000
   .by_cases he:Lib.decDigits m=s
    .rw [eA ⟨hm,he⟩]at hp;rw[AY hp]at*;have hm':¬(1000000000000:Int)<(m:Int):=by omega
     have W:=aA hm' he;refine we ?_;exact aO results117
    .rw [cU (λh=>he h.2)]at hp
     rw[qJ hp]at*;have hm':¬(1000000000000:Int)<(m:Int):=by omega
     have W:=aA hm' he;repeat' first|refine wf ?_|(refine sq ?_ ?_<;>intro hc<;>try exact hc.elim)|fail
     all_goals first
      |exact absurd ‹Lib.decDigits m=s› he
      |skip
     all_goals (try exact aO results117)
   .rw [cU (λh=>hm h.1)]at hp
    rw[qJ hp]at*;have hm':(1000000000000:Int)<(m:Int):=by omega
    have W:=hm';refine we ?_;exact aO results117
 .rw [show(decide ((1:Int)<=(s.length:Int))&&decide ((s.length:Int)<=13))=false by simp only[AI,qS];omega]at c1;rw[qJ (OX h1)];refine dA aJ func117 ntmps117 ?_;refine bI ?_;exact aO results117
end Go.Proofs.YtjkdolejalpflaaGreatDoor
set_option maxRecDepth 100000
set_option maxHeartbeats 4000000
namespace Go.Proofs.YtjkdolejalpflaaGreatDoor
open Go.Aw Go.Shelf Go.RowKit Proofs.Tryz List IntKind
theorem kg{w:World}{E:Env}{a:aX}{vs:List Value}{fp:List Nat}(h:Rc w E [.str a] vs fp):vs=[.string ⟨a.toArray⟩]:=by
 match vs,h with
 |[],h=>simp[Rc]at h
 |[x],h=>simp only[Rc,R]at h;obtain⟨_,_,h1,_,_⟩:=h;rw[h1.1]
 |_::_::_,h=>simp[Rc]at h
theorem OY[aB prog][eD prog](v:Int)(h1: -9223372036854775808<=v/\v<=9223372036854775807)(w:World)(hg:aB.holds prog w):
  Calls prog 142 #[.int .i64 v] w λe w'=>e= .returned (.string ⟨(Lib.itoa v).toArray⟩)/\Below w.heap.size w w':=by
 refine(eH v h1 w [.int .i64 v] hg (by simp[Rc,R])).mono λe w' h=> ?_
 obtain⟨x,fp,he,hr,_,_,h3,h4,h5⟩:=h;simp only[R]at hr;rw[hr.1]at he;exact⟨he,⟨h5.os,h5.tape,h5.output,h3,h4⟩⟩
theorem Ju[aB prog][eD prog][oO prog](s:aX)(hl:s.length<=1099511627776):Ok prog 145 [.str s] (IU s):=by
 intro w vs hg h;obtain rfl:=kg h;have fin:∀{e:Ending} {w':World} {n:Int} {b:Bool},IU s= .fH [.int .i64 n,.bool b]->e= .returned (.tuple #[.int .i64 n,.bool b])->Below w.heap.size w w'->∃v fp,e= .returned v/\R w' (wV w.heap.size w' fp) (IU s) v fp/\fp.Nodup/\
   (∀b∈fp,w.heap.size<=b/\b<w'.heap.size)/\w.heap.size<=w'.heap.size/\(∀b,b<w.heap.size->w'.heap[b]? =w.heap[b]?)/\iW w w':=
  λhp he hb=>⟨_,[],he,by rw[hp];simp[R,Rc],nodup_nil,by simp,hb.size,hb.block,Ez hb⟩
 have A:=Vo Tryz.LaysCx172 s (by omega) w hg
 go_enter func145,ntmps145
 go_wp2_with (go_at_call 175;refine A.mono ?_)
 rintro e w1 ⟨hA,hb⟩;clear A;have hg1:=aB.Px w w1 hg λb h=>hb.block b (fS h (aB.Kl w hg))
 rcases hA with⟨v,hv,rfl⟩|⟨hn,v,t,p,rfl⟩
 .rcases OA s with⟨v',hv',h0,h1,hi,hp⟩|⟨hp,hall⟩
  .obtain rfl:v=v':=by rw[hv]at hv';exact Lib.NumEnd.ok.inj hv'
   have d0:decide (v<0)=false:=by simpa using h0
   have d1:decide (1000000000000<v)=false:=by simpa using h1
   have C:=OY v (by omega) w1 hg1;rw[hi]at C;have F:= @fin;clear hv hv' h0 h1 hi fin
   go_wp2_with (go_at_call 142;refine C.mono ?_)
   rintro e w2 ⟨rfl,hb2⟩;clear C
   go_wp2
   go_ret2
   exact F (AY hp) rfl (hb.trans (hb2.mono hb.size))
  .have hr:=qJ hp;have bd:=Lib.atoiAll_bounds hv;by_cases h0:v<0
   .have d0:decide (v<0)=true:=by simpa using h0
    clear hv h0 hall bd
    go_wp2
    go_ret2
    exact fin hr rfl hb
   by_cases h1:1000000000000<v
   .have d0:decide (v<0)=false:=by simpa using h0
    have d1:decide (1000000000000<v)=true:=by simpa using h1
    clear hv h0 h1 hall bd
    go_wp2
    go_ret2
    exact fin hr rfl hb
   .have hi:Lib.itoa v≠s:=by
     rcases hall v hv with h|h|h
     .exact absurd h h0
     .exact absurd h h1
     .exact h
    have d0:decide (v<0)=false:=by simpa using h0
    have d1:decide (1000000000000<v)=false:=by simpa using h1
    have C:=OY v (by omega) w1 hg1;generalize Lib.itoa v=x at C hi;have d2:(x == s)=false:=by simpa using hi
    have d3:(x != s)=true:=by simpa using hi
    clear hv h0 h1 hall bd
    go_wp2_with (go_at_call 142;refine C.mono ?_)
    rintro e w2 ⟨rfl,hb2⟩;clear C
    go_wp2
    go_ret2
    exact fin hr rfl (hb.trans (hb2.mono hb.size))
 .have hp:vU s=none:=by
   rcases OA s with⟨v',hv',_⟩|⟨hp,_⟩
   .exact absurd hv' (hn _)
   .exact hp
  have hr:=qJ hp;clear hn
  go_wp2
  go_ret2
  exact fin hr rfl hb
end Go.Proofs.YtjkdolejalpflaaGreatDoor
set_option maxRecDepth 4000
set_option maxHeartbeats 4000000
namespace Go.Proofs.YtjkdolejalpflaaGreatDoor
open Go.Aw Proofs.Tryz List IntKind
theorem jM{α:Type}(f:α->Nat):∀a b:List α,bM f (a++b)=bM f a+bM f b
 |[],b=>by simp[bM]
 |x::xs,b=>by simp only[cM,bM,jM f xs b];omega
end Go.Proofs.YtjkdolejalpflaaGreatDoor
