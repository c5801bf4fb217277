/- Proved here: steps towards the statement of this claim. No condition. -/
import Derived.Test.YtdcpobkemdacnaaGreatDoorZQU5
import Derived.Test.YtdcpobkemdacnaaGreatDoorZYShelf2
import Derived.Test.YtdcpobkemdacnaaGreatDoorZF7
set_option linter.all false
set_option maxRecDepth 4000
set_option maxHeartbeats 4000000
namespace Go.Proofs.YtdcpobkemdacnaaGreatDoor
open Go.Aw Proofs.Tryz List IntKind
def notFound:bA:=⟨404,1,[],0,false,[]⟩
theorem Ag [aC prog]:Ok prog 72 [] (.agg (bG notFound)):=by refine bO aD func72 ntmps72 ?_;refine aZ ?_;all_goals try(refine aV ?_;simp [aH,results72,notFound])
theorem Ah [aC prog]:Ok prog 50 [] (.agg (bG notFound)):=by refine bO aD func50 ntmps50 ?_;refine aZ ?_;all_goals try(refine aV ?_;simp [aH,results50,notFound])
end Go.Proofs.YtdcpobkemdacnaaGreatDoor
set_option maxRecDepth 4000
set_option maxHeartbeats 4000000
namespace Go.Proofs.YtdcpobkemdacnaaGreatDoor
open Go.Aw Proofs.Tryz List IntKind
def NW (s:bB):AV:=match Af s with|some v=> .gZ [.int .i64 v,.bool true]|none=> .gZ [.int .i64 0,.bool false]
theorem vE {s:bB} (h:Af s=none):NW s= .gZ [.int .i64 0,.bool false]:=by rw [NW,h]
theorem Ew {s:bB} {v:Int} (h:Af s=some v):NW s= .gZ [.int .i64 v,.bool true]:=by rw [NW,h]
theorem VX {s:bB} (h:¬(1<=s.length/\s.length<=13)):Af s=none:=by
 cases hp:Af s with
 |none=>rfl
 |some v=>obtain ⟨m,_,_,hs,hl,_⟩:=GL hp;have:=Kv m;rw [<-hs] at this;exact absurd ⟨by have:=Cl.2 this;omega,hl⟩ h
theorem ZN {s:bB} {k:Nat} (hk:k < s.length) (h:¬(48<=s[k].toNat/\s[k].toNat<=57)):Af s=none:=by
 cases hp:Af s with
 |none=>rfl
 |some v=>
  obtain ⟨m,_,_,hs,hl,hd⟩:=GL hp;have hd':Lib.decFrom 0 s=some m:=by
   unfold Lib.decNat at hd;split at hd
   .cases hd
   .exact hd
  obtain ⟨d,h2⟩:=Lib.digit_of_decFrom s 0 m hd' k s[k] (aE hk);unfold Lib.digitVal at h2;rw [cX h] at h2;cases h2
theorem aDn {s:bB} {m:Nat} (h0:s≠[]) (hl:s.length<=13) (h:Lib.decFrom 0 s=some m):Af s=if m<=1000000000000/\Lib.decDigits m=s then some (m:Int) else none:=by
 have:Lib.decNat s=some m:=by unfold Lib.decNat;rw [cX (by simpa using h0)];exact h
 simp [Af,this,hl]
theorem aDo (m:Nat):Lib.itoa (m:Int)=Lib.decDigits m:=by unfold Lib.itoa;rw [cX (by omega)];rfl
theorem OT [aC prog] [dK prog] (s:bB) (hl:s.length<=1099511627776):Ok prog 264 [.str s] (NW s):=by
 have c1:=gK (s.length:Int) 1 13;by_cases h1:1<=s.length/\s.length<=13
 .rw [show (decide ((1:Int)<=(s.length:Int))&&decide ((s.length:Int)<=13))=true by simp;omega] at c1;have h0:s≠[]:=by intro e;rw [e] at h1;simp at h1
  refine bO aD func264 ntmps264 ?_;refine aZ ?_;refine aP (ι:={p:Nat×Nat // p.1<=s.length/\Lib.decFrom 0 (s.take p.1)=some p.2}) (λt o i=>⟨bE t [(4,.int .i64 (i.1.2:Int)),(5,.int .i64 (i.1.1:Int))],o⟩)
   (λi=>s.length - i.1.1) ⟨(0,0),by simp,by simp [Lib.decFrom]⟩ aO ?_
  rintro ⟨⟨k,m⟩,⟨hk,hi⟩⟩ K1 hK1;simp only [bE,cW,cU] at hK1 hk hi⊢;have hk1:=oW (k:=k);have aU9:m < 10000000000000:=by have h2:=YU hi;have h3:(10:Nat) ^ (s.take k).length<=10 ^ 13:=Nat.pow_le_pow_right (by decide) (by simp;omega);omega
  by_cases hlt:k < s.length
  .have hg:=aE hlt;have c2:=gK (s[k].toNat:Int) 48 57;have hu:s[k].toNat < 256:=s[k].toNat_lt;by_cases hd:48<=s[k].toNat/\s[k].toNat<=57
   .have hb:(decide ((48:Int)<=(s[k].toNat:Int))&&decide ((s[k].toNat:Int)<=57))=true:=by simp;omega
    rw [hb] at c2;have hw1:IntKind.u8.wrap ((s[k].toNat:Int) - 48)=((s[k].toNat - 48:Nat):Int):=by rw [aCn]<;>omega
    have hw2:i64.wrap ((s[k].toNat - 48:Nat):Int)=((s[k].toNat - 48:Nat):Int):=by rw [wrap64]<;>omega
    have hw3:i64.wrap (10 * (m:Int))=((10 * m:Nat):Int):=by rw [wrap64]<;>omega
    have hw4:i64.wrap (((10 * m:Nat):Int)+((s[k].toNat - 48:Nat):Int))=((m * 10+(s[k].toNat - 48):Nat):Int):=by rw [wrap64]<;>omega
    have hw5:i64.wrap (s[k].toNat:Int)=(s[k].toNat:Int):=by rw [wrap64]<;>omega
    have hn:=Lib.decFrom_take s k 0 m s[k] _ hi hg (show Lib.digitVal s[k]=some (s[k].toNat - 48) by unfold Lib.digitVal;rw [eI hd]);have W:=aA hk1 (aA hg (aA hlt (aA hw1 (aA hw2 (aA hw3 (aA hw4 hw5))))));refine we ?_;exact hK1 _ ⟨(k+1,m * 10+(s[k].toNat - 48)),by simp only;omega,hn⟩ (aO (by simp) (by simp;try omega)) (by simp only;omega)
   .have hb:(decide ((48:Int)<=(s[k].toNat:Int))&&decide ((s[k].toNat:Int)<=57))=false:=by simp only [tP,pT];omega
    rw [hb] at c2;have hw5:i64.wrap (s[k].toNat:Int)=(s[k].toNat:Int):=by rw [wrap64]<;>omega
    rw [vE (ZN hlt hd)] at *;have W:=aA hk1 (aA hg (aA hlt hw5));refine we ?_;exact aF results264
  .have hke:k=s.length:=by omega
   subst hke;rw [As] at hi;have hp:=aDn h0 h1.2 hi;have c3:=fP (m:Int) (by omega);rw [aDo] at c3;by_cases hm:m<=1000000000000
   .by_cases he:Lib.decDigits m=s
    .rw [eI ⟨hm,he⟩] at hp;rw [Ew hp] at *;have hm':¬(1000000000000:Int) < (m:Int):=by omega
     have W:=aA hm' he;refine we ?_;exact aF results264
    .rw [cX (λh=>he h.2)] at hp
     rw [vE hp] at *;have hm':¬(1000000000000:Int) < (m:Int):=by omega
     have W:=aA hm' he;repeat' first|refine wf ?_|(refine sq ?_ ?_<;>intro hc<;>try exact hc.elim)|fail
     all_goals first
      |exact absurd ‹Lib.decDigits m=s› he
      |skip
     all_goals try(refine aV ?_;simp [aH,results264])
   .rw [cX (λh=>hm h.1)] at hp
    rw [vE hp] at *;have hm':(1000000000000:Int) < (m:Int):=by omega
    have W:=hm';refine we ?_;exact aF results264
 .rw [show (decide ((1:Int)<=(s.length:Int))&&decide ((s.length:Int)<=13))=false by simp only [tP,pT];omega] at c1;rw [vE (VX h1)];refine bO aD func264 ntmps264 ?_;refine aZ ?_;exact aF results264
end Go.Proofs.YtdcpobkemdacnaaGreatDoor
set_option maxRecDepth 100000
set_option maxHeartbeats 4000000
namespace Go.Proofs.YtdcpobkemdacnaaGreatDoor
open Go.Aw Go.Shelf Go.RowKit Proofs.Tryz List IntKind
theorem aDp {w:World} {E:Env} {a:bB} {vs:List Value} {fp:List Nat} (h:Rc w E [.str a] vs fp):vs=[.string ⟨a.toArray⟩]:=by
 match vs,h with
 |[],h=>simp [Rc] at h
 |[x],h=>simp only [Rc,R] at h;obtain ⟨_,_,h1,_,_⟩:=h;rw [h1.1]
 |_::_::_,h=>simp [Rc] at h
theorem VY [aC prog] [dK prog] (v:Int) (h1: -9223372036854775808<=v/\v<=9223372036854775807) (w:World) (hg:aC.holds prog w):
  Calls prog 282 #[.int .i64 v] w λe w'=>e= .returned (.string ⟨(Lib.itoa v).toArray⟩)/\Below w.heap.size w w':=by
 refine (fO v h1 w [.int .i64 v] hg (by simp [Rc,R])).mono λe w' h=> ?_
 obtain ⟨x,fp,he,hr,_,_,h3,h4,h5⟩:=h;simp only [R] at hr;rw [hr.1] at he;exact ⟨he,⟨h5.os,h5.tape,h5.output,h3,h4⟩⟩
theorem OU [aC prog] [dK prog] [mZ prog] (s:bB) (hl:s.length<=1099511627776):Ok prog 298 [.str s] (NW s):=by
 intro w vs hg h;obtain rfl:=aDp h;have fin:∀{e:Ending} {w':World} {n:Int} {b:Bool},NW s= .gZ [.int .i64 n,.bool b]->e= .returned (.tuple #[.int .i64 n,.bool b])->Below w.heap.size w w'->∃v fp,e= .returned v/\R w' (Bg w.heap.size w' fp) (NW s) v fp/\fp.Nodup/\
   (∀b∈fp,w.heap.size<=b/\b < w'.heap.size)/\w.heap.size<=w'.heap.size/\(∀b,b < w.heap.size->w'.heap[b]? =w.heap[b]?)/\oD w w':=
  λhp he hb=>⟨_,[],he,by rw [hp];simp [R,Rc],nodup_nil,by simp,hb.size,hb.block,El hb⟩
 have A:=ma Tryz.LaysCx172 s (by omega) w hg
 go_enter func298,ntmps298
 go_wp2_with (go_at_call 308;refine A.mono ?_)
 rintro e w1 ⟨hA,hb⟩;clear A;have hg1:=aC.WB w w1 hg λb h=>hb.block b (oT h (aC.Qb w hg))
 rcases hA with ⟨v,hv,rfl⟩|⟨hn,v,t,p,rfl⟩
 .rcases Vt s with ⟨v',hv',h0,h1,hi,hp⟩|⟨hp,hall⟩
  .obtain rfl:v=v':=by rw [hv] at hv';exact Lib.NumEnd.ok.inj hv'
   have d0:decide (v < 0)=false:=by simpa using h0
   have d1:decide (1000000000000 < v)=false:=by simpa using h1
   have C:=VY v (by omega) w1 hg1;rw [hi] at C;have F:= @fin;clear hv hv' h0 h1 hi fin
   go_wp2_with (go_at_call 282;refine C.mono ?_)
   rintro e w2 ⟨rfl,hb2⟩;clear C
   go_wp2
   go_ret2
   exact F (Ew hp) rfl (hb.trans (hb2.mono hb.size))
  .have hr:=vE hp;have bd:=Lib.atoiAll_bounds hv;by_cases h0:v < 0
   .have d0:decide (v < 0)=true:=by simpa using h0
    clear hv h0 hall bd
    go_wp2
    go_ret2
    exact fin hr rfl hb
   by_cases h1:1000000000000 < v
   .have d0:decide (v < 0)=false:=by simpa using h0
    have d1:decide (1000000000000 < v)=true:=by simpa using h1
    clear hv h0 h1 hall bd
    go_wp2
    go_ret2
    exact fin hr rfl hb
   .have hi:Lib.itoa v≠s:=by
     rcases hall v hv with h|h|h
     .exact absurd h h0
     .exact absurd h h1
     .exact h
    have d0:decide (v < 0)=false:=by simpa using h0
    have d1:decide (1000000000000 < v)=false:=by simpa using h1
    have C:=VY v (by omega) w1 hg1;generalize Lib.itoa v=x at C hi;have d2:(x == s)=false:=by simpa using hi
    have d3:(x != s)=true:=by simpa using hi
    clear hv h0 h1 hall bd
    go_wp2_with (go_at_call 282;refine C.mono ?_)
    rintro e w2 ⟨rfl,hb2⟩;clear C
    go_wp2
    go_ret2
    exact fin hr rfl (hb.trans (hb2.mono hb.size))
 .have hp:Af s=none:=by
   rcases Vt s with ⟨v',hv',_⟩|⟨hp,_⟩
   .exact absurd hv' (hn _)
   .exact hp
  have hr:=vE hp;clear hn
  go_wp2
  go_ret2
  exact fin hr rfl hb
end Go.Proofs.YtdcpobkemdacnaaGreatDoor
set_option maxRecDepth 4000
set_option maxHeartbeats 4000000
namespace Go.Proofs.YtdcpobkemdacnaaGreatDoor
open Go.Aw Proofs.Tryz List IntKind
def EC (n:bB):Bool:=decide (n=[105,109,103]) || decide (n=[108,105,110,107])
def yF (b:bF) (m:bB) (n:Int):Bool:=decide (0<=n)&&(b.nodes[n.toNat]?).any λx=>decide (x.name=m)
def pV (b:bF) (m:bB):Nat->List Int
 |0=>b.opens
 |i+1=>if (b.opens[i+1]?).any (yF b m) then b.opens.take (i+1) else pV b m i
def mR (t:bV):Bool:=decide (t.kind=1)&& !EC t.name
def tL (b:bF) (t:bV):jL:=if t.kind=1 then ⟨t.name,[],b.opens.getLastD 0,t.attrs⟩ else ⟨[],t.text,b.opens.getLastD 0,[]⟩
def addToken (b:bF) (t:bV):bF×Int:=
 if t.kind=2 then ({b with opens:=pV b t.name (b.opens.length - 1)}, -1)
 else if¬(t.kind=1\/(t.kind=3/\t.text≠[])) then (b, -1)
 else if 40<=b.nodes.length\/b.opens=[]\/(mR t=true/\8<=b.opens.length) then (b, -1)
 else ({nodes:=b.nodes++[tL b t],opens:=if mR t=true then b.opens++[((b.nodes.length:Nat):Int)] else b.opens},((b.nodes.length:Nat):Int))
theorem Og (b:bF) (m:bB):∀k,(pV b m k).length<=b.opens.length
 |0=>eE _
 |k+1=>by
  unfold pV;split
  .simp;omega
  .exact Og b m k
theorem Uw [aC prog] (n:bB):Ok prog 241 [.str n] (.bool (EC n)):=by
 unfold EC;refine bO aD func241 ntmps241 ?_;have W:=trivial;repeat' first|refine wf ?_|(refine sq ?_ ?_<;>intro hc<;>try exact hc.elim)|fail
 all_goals try(refine aV ?_;simp [aH,results241])
 all_goals first|(simp [hc];done)|(rw [Bool.eq_iff_iff];simp [hc])
theorem Ux [aC prog] (n:bB):Ok prog 217 [.str n] (.bool (EC n)):=by
 unfold EC;refine bO aD func217 ntmps217 ?_;have W:=trivial;repeat' first|refine wf ?_|(refine sq ?_ ?_<;>intro hc<;>try exact hc.elim)|fail
 all_goals try(refine aV ?_;simp [aH,results217])
 all_goals first|(simp [hc];done)|(rw [Bool.eq_iff_iff];simp [hc])
theorem ZZ {b:bF} {m:bB} {n:Int} (h:¬(0<=n/\n < (b.nodes.length:Int))):yF b m n=false:=by
 unfold yF;by_cases h0:0<=n
 .rw [pA (by omega)];simp
 .simp [h0]
theorem PX {b:bF} {m:bB} {k:Nat} (h:k < b.nodes.length):yF b m ((k:Nat):Int)=decide (b.nodes[k].name=m):=by unfold yF;simp [aE h]
end Go.Proofs.YtdcpobkemdacnaaGreatDoor
set_option maxRecDepth 4000
set_option maxHeartbeats 4000000
namespace Go.Proofs.YtdcpobkemdacnaaGreatDoor
open Go.Aw Proofs.Tryz List IntKind
theorem BG {b:bF} {t:bV} (h:t.kind=2):addToken b t=({b with opens:=pV b t.name (b.opens.length - 1)}, -1):=by unfold addToken;rw [eI h]
theorem Gi {b:bF} {t:bV} (h:¬t.kind=2) (h1:¬t.kind=1) (h3:t.kind=3->t.text=[]):addToken b t=(b, -1):=by
 unfold addToken;rw [cX h,eI];rintro (h|⟨h,h'⟩)
 .exact h1 h
 .exact h' (h3 h)
theorem Iu {b:bF} {t:bV} (h:¬t.kind=2) (hf:40<=b.nodes.length\/b.opens=[]\/(mR t=true/\8<=b.opens.length)):addToken b t=(b, -1):=by unfold addToken;rw [cX h];split<;>first|rfl|(rw [eI hf])
theorem KX {b:bF} {t:bV} (h:¬t.kind=2) (hk:t.kind=1\/(t.kind=3/\t.text≠[])) (hf:¬(40<=b.nodes.length\/b.opens=[]\/(mR t=true/\8<=b.opens.length))):
  addToken b t=({nodes:=b.nodes++[tL b t],opens:=if mR t=true then b.opens++[((b.nodes.length:Nat):Int)] else b.opens},((b.nodes.length:Nat):Int)):=by
 unfold addToken;rw [cX h,cX (λhn=>hn hk),cX hf]
theorem Oh {b:bF} {m:bB} {k:Nat} {n:Int} (hg:b.opens[k+1]? =some n) (h:yF b m n=true):pV b m (k+1)=b.opens.take (k+1):=by unfold pV;rw [hg];simp [h]
theorem KY {b:bF} {m:bB} {k:Nat} {n:Int} (hg:b.opens[k+1]? =some n) (h:yF b m n=false):pV b m (k+1)=pV b m k:=by
 conv=>lhs;unfold pV
 rw [hg];simp [h]
theorem Jy [aC prog] (b:bF) (t:bV) (hs:aS b<=274877906944) (hk:t.kind=2):Ok prog 193 [.agg (aU .view b),.agg (cB .view t)] (.gZ [.agg (aU .own (addToken b t).1),.int .i64 (addToken b t).2]):=by
 have c1:=kR b hs;have hn:b.nodes.length<=274877906944/\b.opens.length<=274877906944:=by simp only [aS,bT] at hs;omega
 have Q0:i64.wrap ((b.opens.length:Int) - 1)=(b.opens.length:Int) - 1:=by rw [wrap64]<;>omega
 rw [BG hk];obtain ⟨tk,tn,ta,tx⟩:=t;simp only at hk;subst hk;simp only [aU] at c1;refine bO aD func193 ntmps193 ?_;have W:=Q0;refine we ?_;refine aP (ι:={q:Int // -1<=q/\q < (b.opens.length:Int)/\pV b tn q.toNat=pV b tn (b.opens.length - 1)}) (λt o i=>⟨bE t [(7,.int .i64 i.1),(8,.undef)],o⟩) (λi=>i.1.toNat) ⟨(b.opens.length:Int) - 1,by omega,by omega,by congr 1;omega⟩ aO ?_;rintro ⟨q,hq1,hq2,VV⟩ K1 hK1;simp only [bE,cW,cU] at hK1⊢;by_cases h1:(1:Int)<=q
 .obtain ⟨k,rfl⟩:∃k:Nat,q=((k+1:Nat):Int):=⟨(q - 1).toNat,by omega⟩;have hlt:k+1 < b.opens.length:=by omega
  have hg:=aE hlt;have xc:i64.wrap (((k+1:Nat):Int) - 1)=((k:Nat):Int):=by rw [wrap64]<;>omega
  rw [show (((k+1:Nat):Int)).toNat=k+1 from by omega] at VV;generalize Qo:b.opens[k+1]=n at *;cases hh:yF b tn n
  .rw [KY hg hh] at VV;by_cases h0:0<=n
   .obtain ⟨m,rfl⟩:=mB h0;by_cases hm:m < b.nodes.length
    .rw [PX hm] at hh;have hgm:=aE hm;have hne:(b.nodes[m].name == tn)=false:=by simpa using hh
     have W:=aA hg (aA xc (aA hgm (aA hm (aA hne (aA h1 hn)))));have V:=hlt;refine we ?_;all_goals exact hK1 _ ⟨((k:Nat):Int),by omega,by omega,by simpa using VV⟩ aO (by first|omega|(simp only;omega)|(simp;omega))
    .have hmi:¬((m:Nat):Int) < ((b.nodes.length:Nat):Int):=by omega
     have W:=aA hg (aA xc (aA hmi (aA h1 hn)));have V:=hlt;refine we ?_;all_goals exact hK1 _ ⟨((k:Nat):Int),by omega,by omega,by simpa using VV⟩ aO (by first|omega|(simp only;omega)|(simp;omega))
   .have W:=aA hg (aA xc (aA h0 (aA h1 hn)));have V:=hlt;refine we ?_;all_goals exact hK1 _ ⟨((k:Nat):Int),by omega,by omega,by simpa using VV⟩ aO (by first|omega|(simp only;omega)|(simp;omega))
  .rw [Oh hg hh] at VV;have h01:0<=n/\n < (b.nodes.length:Int):=tI λh=>by rw [ZZ h] at hh;cases hh
   obtain ⟨m,rfl⟩:=mB h01.1;have hm:m < b.nodes.length:=by omega
   rw [PX hm] at hh;have hgm:=aE hm;have hne:(b.nodes[m].name == tn)=true:=by simpa using hh
   rw [<-VV];have W:=aA hg (aA xc (aA hgm (aA hm (aA hne (aA h1 hn)))));have V:=hlt;refine we ?_;all_goals try(refine aV ?_;simp [aH,results193,map_take])
   all_goals (rw [<-map_take];exact QL _)
 .have hq4:pV b tn (b.opens.length - 1)=b.opens:=by rw [<-VV,show q.toNat=0 by omega];rfl
  rw [hq4];have W:=h1;refine we ?_;all_goals try(refine aV ?_;simp [aH,results193,map_take])
end Go.Proofs.YtdcpobkemdacnaaGreatDoor
set_option maxRecDepth 4000
set_option maxHeartbeats 4000000
namespace Go.Proofs.YtdcpobkemdacnaaGreatDoor
open Go.Aw Proofs.Tryz List IntKind
set_option maxRecDepth 100000
theorem V7 [aC prog] (l:List dY) (m:dY) (i:Nat) (hi:i < l.length) (hn:l.length<=1099511627776):Ma prog 259 [.oK (.sl .own 5 (l.map eZ)),.view (.int .i64 i),.oK (.sl .own 5 [eZ m])] (.sl .own 5 ((l.take i++m::l.drop i).map eZ)):=by
 have h:=aHo (P:=prog) (f:=259) (n:=l.length) (i:=i) (k:=5) (l:=l.map eZ) (x:=eZ m) (by simp) hi (by simp [all_map,ER]) (by simp [ER])
  (λw b off c C e fz olds news vb voff vc Cv ev Yb hb hz hc hol h1o hfit hnc hmax hne hvb hzv hcv hnl OY=>by
   by_cases hr:l.length+1<=c
   .exact XN w b off l.length c i vb voff vc C Cv e ev fz Yb olds news hi hr hb hz hc hol h1o hfit hmax hne hvb hzv hcv hnl OY
   .exact aa w b off l.length c i vb voff vc C Cv e ev fz Yb olds news hi (by omega) hn hb hz hc hol h1o hfit hnc hmax hne hvb hzv hcv hnl OY)
 rw [<-map_take,<-map_drop,xF] at h;simpa using h
theorem uh [aC prog] (l:List dY) (m:dY) (hn:l.length<=1099511627776):Ma prog 259 [.oK (.sl .own 5 (l.map eZ)),.view (.int .i64 l.length),.oK (.sl .own 5 [eZ m])] (.sl .own 5 ((l++[m]).map eZ)):=by
 have h:=ZG (P:=prog) (f:=259) (n:=l.length) (k:=5) (l:=l.map eZ) (x:=eZ m) (by simp) (by simp [all_map,ER]) (by simp [ER])
  (λw base bb c olds news vb voff vc hol hnc hmax hcv hnl OY hor=>by
   obtain ⟨inf,Js,hq⟩:=sX.1 (show (prog.info? 170).map (λi=>(i.size,i.bytes))=some (5,64) by kernel_rfl);obtain ⟨hsz,hby⟩:=Prod.mk.inj hq;obtain ⟨z,hz0,hzc⟩:=zO Tryz.zsz170 Js;have aEh:c<=9223372036854775807:=hmax;have holds:∀w',w'.heap=w.heap->(Builtin.firstCells inf.size l.length (.slice base l.length c)).run prog w'= .ok olds.toArray w':=by
    intro w' wz;rcases hor with ⟨h0,h1⟩|⟨off,C,e,fz,rfl,hb,hz,hc,hfit⟩
    .rw [h0] at hol⊢;obtain rfl:=kO (by simpa using hol);cases base with
     |none=>simp [Builtin.firstCells]
     |some a'=>simp [Builtin.firstCells,loadCells,loadCellsFrom]
    .rw [hsz];exact kP hol (hc.heap wz)
   obtain ⟨hroom,aAq⟩:=IQ (P:=prog) (w:=w) (tS:=60) (xT:=60) (ty:=60) Tryz.underlying60 ⟨_,Tryz.underlying60,λk h=>by cases h⟩ Js hz0 (base:=base) (sLen:=l.length) (sCap:=c) (n:=1) (x:= .slice (some ⟨vb,voff,none⟩) 1 vc)
    (by simp [Builtin.lenOf]) (news:=news) (olds:=olds) (λw' wz=>by rw [hsz];exact kP (by omega) (hcv.heap wz)) holds (by rw [hby];omega) (by omega)
   by_cases hr:l.length+1<=c
   .rcases hor with ⟨h0,h1⟩|⟨off,C,e,fz,rfl,hb,hz,hc,hfit⟩
    .omega
    .have hst:=tX (P:=prog) (off:=off+l.length * 5) hb hz (by rw [hnl];have:=hY 5 hr;omega) OY;have hrun:=hroom hr _ (by rw [hsz];simpa [addr_add] using hst);obtain ⟨C',hI⟩:=XC (k:=5) hb hz hc hol hnl hr hfit hmax;exact Iw w _ l.length c vb voff vc _ _ _ hnc aEh (λh=>by cases h) (λty=>hrun) ⟨_,_,_,_,_,_,_,rfl,hI⟩
   .have hrun:=aAq (by omega);have hgc:=grownCap_ge w (l.length+1) c 170;have hgm:grownCap w (l.length+1) c 170<=maxLen:=DB _ _ _ _ (by simp [maxLen];omega);obtain ⟨C',hI⟩:=XD (w:=w) (b:=bb) (n:=l.length) (k:=5) (cap:=grownCap w (l.length+1) c 170) (e:=170) (olds:=olds) (news:=news) (ROW:=olds.toArray++news.toArray++Builtin.zeroCells z.cells (grownCap w (l.length+1) c 170 - (l.length+1)))
     (λj v hv=>by
      rw [show olds.toArray++news.toArray=(olds++news).toArray by simp,sR (by simpa using (cH.1 hv).1)];simpa using hv)
     (by simp only [Array.size_append,size_toArray,size_zeroCells,hzc,hol,hnl];omega) hgc hgm
    exact Iw w _ l.length c vb voff vc _ _ _ hnc aEh (λh=>by
     subst h;rcases hor with ⟨h0,h1⟩|⟨off,C,e,fz,h,_⟩
     .exact h0
     .cases h) (λty=>hrun) ⟨_,_,_,_,_,_,_,rfl,hI⟩)
 simpa using h
theorem Wm [aC prog] (l:List dY) (m:dY) (i:Nat) (hi:i<=l.length) (hn:l.length<=1099511627776):Ma prog 259 [.oK (.sl .own 5 (l.map eZ)),.view (.int .i64 i),.oK (.sl .own 5 [eZ m])] (.sl .own 5 ((l.take i++m::l.drop i).map eZ)):=by
 by_cases h:i < l.length
 .exact V7 l m i h hn
 .obtain rfl:i=l.length:=by omega
  simpa using uh l m hn
end Go.Proofs.YtdcpobkemdacnaaGreatDoor
set_option maxRecDepth 4000
set_option maxHeartbeats 400000
namespace Go.Proofs.YtdcpobkemdacnaaGreatDoor
open Go.Aw Proofs.Tryz List IntKind
def yM {α β:Type} (f:α->β) (l:List α):List β:=l.map f
@[simp] theorem aCl {α β:Type} (f:α->β):yM f []=[]:=rfl
theorem yT {α β:Type} (f:α->β) (l:List α) (k:Nat) (h:k < l.length):yM f (l.take (k+1))=yM f (l.take k)++[f l[k]]:=by simp only [yM];rw [eK h,oS];rfl
theorem qM {α β:Type} (f:α->β) (l:List α):(yM f l).length=l.length:=oX _
end Go.Proofs.YtdcpobkemdacnaaGreatDoor
