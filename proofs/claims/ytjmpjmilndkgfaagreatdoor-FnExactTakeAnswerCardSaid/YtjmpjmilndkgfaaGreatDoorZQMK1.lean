/- Proved here: steps towards the statement of this claim. No condition. -/
import Derived.Test.YtjmpjmilndkgfaaGreatDoorZYShelf2
import Derived.Test.YtjmpjmilndkgfaaGreatDoorZF7
import Derived.Test.YtjmpjmilndkgfaaGreatDoorZP1
set_option linter.all false
set_option maxRecDepth 100000
set_option maxHeartbeats 4000000
namespace Go.Proofs.YtjmpjmilndkgfaaGreatDoor
open Go.Aw Proofs.Tryz List IntKind
theorem Qj (w:World):(callFunc 348 #[]).run prog w= .ok (.value (.tuple #[])) w:=run_call_mark0 func348 (by kernel_rfl) (by kernel_rfl) (by kernel_rfl) .disable (by kernel_rfl) w
theorem UX (w:World):(callFunc 350 #[]).run prog w= .ok (.value (.tuple #[])) w:=run_call_mark0 func350 (by kernel_rfl) (by kernel_rfl) (by kernel_rfl) .enable (by kernel_rfl) w
theorem jh (a:Addr) (w:World):(callFunc 351 #[.pointer (some a)]).run prog w= .ok (.value (.tuple #[])) w:=run_call_marked func351 (by kernel_rfl) (by kernel_rfl) (by kernel_rfl) .acquire (by kernel_rfl) a w
theorem ji (a:Addr) (w:World):(callFunc 353 #[.pointer (some a)]).run prog w= .ok (.value (.tuple #[])) w:=run_call_marked func353 (by kernel_rfl) (by kernel_rfl) (by kernel_rfl) .releaseMerge (by kernel_rfl) a w
theorem aCl (a:Addr) (x:Value) (u:FrameMode) (w:World) (hc:w.cell? a=some x) (hz:w.frozen? a=false):
  CallsD prog 334 #[.pointer (some a),.bool true] u w λe u' w'=>u'=u/\(e= .returned (.tuple #[])/\w'=w.drew.setCell a (.int .u32 1)):=by
 have hc':w.drew.cell? a=some x:=by go_simp
 have hz':w.drew.frozen? a=false:=by go_simp
 have hst:=run_call_store (P:=prog) func342 (by kernel_rfl) (by kernel_rfl) (by kernel_rfl) (by kernel_rfl) (k:= .u32) (y:=1) hc' hz'
 go_enter_d func334,ntmps334
 go_wp2
 go_region_calls
 all_goals (go_end0;exact ⟨rfl,rfl⟩)
theorem F7 (a:Addr) (u:FrameMode) (w:World) (hc:w.cell? a=some (.int .i32 1)) (hz:w.frozen? a=false):
  CallsD prog 333 #[.pointer (some a)] u w λe u' w'=>u'=u/\(e= .returned (.tuple #[])/\w'=w.setCell a (.int .i32 0)):=by
 have hd:=Qj;have he:=UX;have hr:=ji;have hadd:=run_call_add (P:=prog) func354 (by kernel_rfl) (by kernel_rfl) (by kernel_rfl) .i32 (by kernel_rfl) (y:= -1) (s:=0) hc hz (by simp [go_sem];rfl);have hcv:=run_convert_to_unsafe (P:=prog) (src:=372) (dst:=277) Tryz.underlying372 Tryz.underlying277 (by kernel_rfl) hc
 go_enter_d func333,ntmps333
 go_wp2
 go_end0
 go_wp2
 go_end0
 exact ⟨rfl,rfl⟩
theorem aGz (a:Addr) (w:World) (hc:w.cell? a=some (.int .i32 0)) (hz:w.frozen? a=false):
  Calls prog 332 #[.pointer (some a)] w λe w'=>e= .returned (.tuple #[])/\w'=w.setCell a (.int .i32 1):=by
 have hd:=Qj;have he:=UX;have ha:=jh;have hcas:=run_call_cas_hit (P:=prog) func349 (by kernel_rfl) (by kernel_rfl) (by kernel_rfl) .i32 (by kernel_rfl) (y:=1) hc hz;have hc':(w.setCell a (.int .i32 1)).cell? a=some (.int .i32 1):=pL w a _ hc;have hcv:=run_convert_to_unsafe (P:=prog) (src:=372) (dst:=277) Tryz.underlying372 Tryz.underlying277 (by kernel_rfl) hc'
 go_enter func332,ntmps332
 go_wp2
 first|go_end0|(simp only [Exit.inBlock,Exit.then];refine bodyPost_ret (results_none rfl _ _ _) rfl ?_)|refine bodyPost_ret (results_none rfl _ _ _) rfl ?_
 go_wp2
 go_end0
 exact ⟨rfl,rfl⟩
end Go.Proofs.YtjmpjmilndkgfaaGreatDoor
set_option maxRecDepth 4000
set_option maxHeartbeats 4000000
namespace Go.Proofs.YtjmpjmilndkgfaaGreatDoor
open Go.Aw Proofs.Tryz List IntKind
theorem JL {α β:Type} (f:α->β) (l:List α) (k:Nat) (h:k < l.length):(l.take (k+1)).map f=(l.take k).map f++[f l[k]]:=by rw [eA h,rB];rfl
theorem Ip [aC prog] (l:List jY) (hl:l.length<=1099511627776):Ok prog 159 [.sl .view 2 (l.map gU)] (.sl .own 2 (l.map gU)):=by refine bR aD func159 ntmps159 ?_;refine bH ?_;exact aK results159
theorem WR [aC prog] (t:bP) (hl:t.attrs.length<=1099511627776):Ok prog 181 [.agg (bK .view t)] (.agg (bK .own t)):=by refine bR aD func181 ntmps181 ?_;refine bH ?_;exact aK results181
theorem TK [aC prog] (l:List bP) (hs:bV bO l<=274877906944):Ok prog 129 [.sl .view 4 (l.map (bK .view))] (.sl .own 4 (l.map (bK .own))):=by
 simp only [bV] at hs;refine bR aD func129 ntmps129 ?_;refine bH ?_;refine aL (ι:={q:Nat×Nat // q.1<=l.length/\1<=q.2}) (λt o i=>⟨bD t [(3,.obj 0 i.1.2),(9,.int .i64 i.1.1),(5,.undef)],o.take 0++[⟨true,false,4,i.1.2,(l.take i.1.1).map (bK .own)⟩]⟩)
  (λi=>l.length - i.1.1) ⟨(0,1),by simp,by first|(simp;done)|(simp only;omega)⟩ aH ?_
 rintro ⟨⟨k,v⟩,hk,hv⟩ K1 hK1;simp only at hk hv;simp only [bD,cW,cU,eM,gR,eI,eN] at hK1⊢;have hk1:=oW (k:=k);by_cases hlt:k < l.length
 .have hg:=aE hlt;have hps:=JL (bK .own) l k hlt;have hz:=dZ bO l k hlt;simp only [bO,bV] at hz;have c1:=WR l[k] (by omega);simp only [bK] at c1;have OE:((l.take k).map (bK .own)).length=k:=by simp;omega
  generalize (l.take k).map (bK .own)=g at *;have W:=aA hk1 (aA hg (aA hlt OE));refine we ?_;all_goals refine hK1 _ ⟨(k+1,v+1),by simp only;omega,by simp only;omega⟩ (aW 1 (by simp [hps])) (by simp only;omega)
 .have htk:l.take k=l:=cX (by omega);rw [htk];have W:=hk1;refine we ?_;exact aK results129
theorem TL [aC prog] (l:List bP) (hs:bV bO l<=274877906944):Ok prog 105 [.sl .view 4 (l.map (bK .view))] (.sl .own 4 (l.map (bK .own))):=by
 simp only [bV] at hs;refine bR aD func105 ntmps105 ?_;refine bH ?_;refine aL (ι:={q:Nat×Nat // q.1<=l.length/\1<=q.2}) (λt o i=>⟨bD t [(3,.obj 0 i.1.2),(4,.int .i64 i.1.1),(5,.undef)],o.take 0++[⟨true,false,4,i.1.2,(l.take i.1.1).map (bK .own)⟩]⟩)
  (λi=>l.length - i.1.1) ⟨(0,1),by simp,by first|(simp;done)|(simp only;omega)⟩ aH ?_
 rintro ⟨⟨k,v⟩,hk,hv⟩ K1 hK1;simp only at hk hv;simp only [bD,cW,cU,eM,gR,eI,eN] at hK1⊢;have hk1:=oW (k:=k);by_cases hlt:k < l.length
 .have hg:=aE hlt;have hps:=JL (bK .own) l k hlt;have hz:=dZ bO l k hlt;simp only [bO,bV] at hz;have c1:=Ip l[k].attrs (by omega);have OE:((l.take k).map (bK .own)).length=k:=by simp;omega
  generalize (l.take k).map (bK .own)=g at *;have W:=aA hk1 (aA hg (aA hlt OE));refine we ?_;all_goals refine hK1 _ ⟨(k+1,v+1),by simp only;omega,by simp only;omega⟩ (aW 1 (by simp [hps])) (by simp only;omega)
 .have htk:l.take k=l:=cX (by omega);rw [htk];have W:=hk1;refine we ?_;exact aK results105
theorem GR [aC prog] (a:dL) (hs:eB a<=274877906944):Ok prog 128 [.agg (bM .view a)] (.agg (bM .own a)):=by simp only [eB,bV] at hs;refine bR aD func128 ntmps128 ?_;refine bH ?_;exact aK results128
theorem TM [aC prog] (a:dL) (hs:eB a<=274877906944):Ok prog 104 [.agg (bM .view a)] (.agg (bM .own a)):=by simp only [eB,bV] at hs;refine bR aD func104 ntmps104 ?_;refine bH ?_;exact aK results104
def oP (t:kZ):List bP:=if t.rest=[]\/t.rest.head? =some 60 then [] else [⟨3,[],[],t.rest⟩]
end Go.Proofs.YtjmpjmilndkgfaaGreatDoor
set_option maxRecDepth 4000
set_option maxHeartbeats 4000000
namespace Go.Proofs.YtjmpjmilndkgfaaGreatDoor
open Go.Aw Proofs.Tryz List IntKind
theorem Vp (u:List Nat) (b:Bool) (l:List gF):mU (iU u) b (l.map (dE .view))=l.map (dE .view):=by
 induction l with
 |nil=>rfl
 |cons x l ih=>rw [mT,mU,ih];simp [xS,rt,dE,iU]
theorem kR [aC prog] (b:bC) (hs:aP b<=274877906944):Ok prog 130 [.agg (aS .view b)] (.agg (aS .own b)):=by
 simp only [aP,bV] at hs;obtain ⟨l,opens⟩:=b;simp only at hs;refine bR aD func130 ntmps130 ?_;refine bH ?_;refine aL (ι:={q:Nat×Nat // q.1<=l.length/\1<=q.2}) (λt o i=>⟨bD t [(14,.int .i64 i.1.1),(5,.undef),(10,.undef)],o.take 3++[⟨true,true,2,0,[[.obj 4 i.1.2,.obj 2 2]]⟩,⟨true,false,4,i.1.2,(l.take i.1.1).map (dE .own)⟩]⟩)
  (λi=>l.length - i.1.1) ⟨(0,1),by simp,by simp⟩ (tN 3 0 0 (ob:=⟨true,true,2,0,[[.sl .own 4 [],.obj 2 2]]⟩) (by rfl) (by rfl) (by rfl) (by simp) (by rfl) (by rfl) (by simp) (by simp [xS,rt,iU,Vp])) ?_
 rintro ⟨⟨k,v⟩,hk,hv⟩ K1 hK1;simp only at hk hv;simp only [bD,cW,cU,eM,gR,eI,eN] at hK1⊢;have hk1:=oW (k:=k);by_cases hlt:k < l.length
 .have hg:=aE hlt;have hps:=JL (dE .own) l k hlt;have hz:=dZ iF l k hlt;simp only [iF,bV] at hz;have OE:((l.take k).map (dE .own)).length=k:=by simp;omega
  generalize (l.take k).map (dE .own)=g at *;have W:=aA hk1 (aA hg (aA hlt OE));refine we ?_;all_goals refine hK1 _ ⟨(k+1,v+1),by simp only;omega,by simp only;omega⟩ (aW 5 (by simp [hps])) (by simp only;omega)
 .have htk:l.take k=l:=cX (by omega);rw [htk];have W:=hk1;refine we ?_;exact aK results130
theorem kU [aC prog] (b:bC) (hs:aP b<=274877906944):Ok prog 106 [.agg (aS .view b)] (.agg (aS .own b)):=by
 simp only [aP,bV] at hs;obtain ⟨l,opens⟩:=b;simp only at hs;refine bR aD func106 ntmps106 ?_;refine bH ?_;refine aL (ι:={q:Nat×Nat // q.1<=l.length/\1<=q.2}) (λt o i=>⟨bD t [(4,.int .i64 i.1.1),(5,.undef),(10,.undef)],o.take 3++[⟨true,true,2,0,[[.obj 4 i.1.2,.obj 2 2]]⟩,⟨true,false,4,i.1.2,(l.take i.1.1).map (dE .own)⟩]⟩)
  (λi=>l.length - i.1.1) ⟨(0,1),by simp,by simp⟩ (tN 3 0 0 (ob:=⟨true,true,2,0,[[.sl .own 4 [],.obj 2 2]]⟩) (by rfl) (by rfl) (by rfl) (by simp) (by rfl) (by rfl) (by simp) (by simp [xS,rt,iU,Vp])) ?_
 rintro ⟨⟨k,v⟩,hk,hv⟩ K1 hK1;simp only at hk hv;simp only [bD,cW,cU,eM,gR,eI,eN] at hK1⊢;have hk1:=oW (k:=k);by_cases hlt:k < l.length
 .have hg:=aE hlt;have hps:=JL (dE .own) l k hlt;have hz:=dZ iF l k hlt;simp only [iF,bV] at hz;have c1:=Ip l[k].attrs (by omega);have OE:((l.take k).map (dE .own)).length=k:=by simp;omega
  generalize (l.take k).map (dE .own)=g at *;have W:=aA hk1 (aA hg (aA hlt OE));refine we ?_;all_goals refine hK1 _ ⟨(k+1,v+1),by simp only;omega,by simp only;omega⟩ (aW 5 (by simp [hps])) (by simp only;omega)
 .have htk:l.take k=l:=cX (by omega);rw [htk];have W:=hk1;refine we ?_;exact aK results106
end Go.Proofs.YtjmpjmilndkgfaaGreatDoor
set_option maxRecDepth 4000
set_option maxHeartbeats 4000000
namespace Go.Proofs.YtjmpjmilndkgfaaGreatDoor
open Go.Aw Proofs.Tryz List IntKind
def MW (s:bF):AV:=match Aa s with|some v=> .iJ [.int .i64 v,.bool true]|none=> .iJ [.int .i64 0,.bool false]
theorem tO {s:bF} (h:Aa s=none):MW s= .iJ [.int .i64 0,.bool false]:=by rw [MW,h]
theorem Eb {s:bF} {v:Int} (h:Aa s=some v):MW s= .iJ [.int .i64 v,.bool true]:=by rw [MW,h]
theorem Vr {s:bF} (h:¬(1<=s.length/\s.length<=13)):Aa s=none:=by
 cases hp:Aa s with
 |none=>rfl
 |some v=>obtain ⟨m,_,_,hs,hl,_⟩:=FX hp;have:=JG m;rw [<-hs] at this;exact absurd ⟨by have:=CD.2 this;omega,hl⟩ h
theorem Za {s:bF} {k:Nat} (hk:k < s.length) (h:¬(48<=s[k].toNat/\s[k].toNat<=57)):Aa s=none:=by
 cases hp:Aa s with
 |none=>rfl
 |some v=>
  obtain ⟨m,_,_,hs,hl,hd⟩:=FX hp;have hd':Lib.decFrom 0 s=some m:=by
   unfold Lib.decNat at hd;split at hd
   .cases hd
   .exact hd
  obtain ⟨d,h2⟩:=Lib.digit_of_decFrom s 0 m hd' k s[k] (aE hk);unfold Lib.digitVal at h2;rw [cY h] at h2;cases h2
theorem aC1 {s:bF} {m:Nat} (h0:s≠[]) (hl:s.length<=13) (h:Lib.decFrom 0 s=some m):Aa s=if m<=1000000000000/\Lib.decDigits m=s then some (m:Int) else none:=by
 have:Lib.decNat s=some m:=by unfold Lib.decNat;rw [cY (by simpa using h0)];exact h
 simp [Aa,this,hl]
theorem aC2 (m:Nat):Lib.itoa (m:Int)=Lib.decDigits m:=by unfold Lib.itoa;rw [cY (by omega)];rfl
theorem NH [aC prog] [eH prog] (s:bF) (hl:s.length<=1099511627776):Ok prog 261 [.str s] (MW s):=by
 have c1:=gM (s.length:Int) 1 13;by_cases h1:1<=s.length/\s.length<=13
 .rw [show (decide ((1:Int)<=(s.length:Int))&&decide ((s.length:Int)<=13))=true by simp;omega] at c1;have h0:s≠[]:=by intro e;rw [e] at h1;simp at h1
  refine bR aD func261 ntmps261 ?_;refine bH ?_;refine aL (ι:={p:Nat×Nat // p.1<=s.length/\Lib.decFrom 0 (s.take p.1)=some p.2}) (λt o i=>⟨bD t [(4,.int .i64 (i.1.2:Int)),(5,.int .i64 (i.1.1:Int))],o⟩)
   (λi=>s.length - i.1.1) ⟨(0,0),by simp,by simp [Lib.decFrom]⟩ aH ?_
  rintro ⟨⟨k,m⟩,⟨hk,hi⟩⟩ K1 hK1;simp only [bD,cW,cU] at hK1 hk hi⊢;have hk1:=oW (k:=k);have aVo:m < 10000000000000:=by have h2:=Yw hi;have h3:(10:Nat) ^ (s.take k).length<=10 ^ 13:=Nat.pow_le_pow_right (by decide) (by simp;omega);omega
  by_cases hlt:k < s.length
  .have hg:=aE hlt;have c2:=gM (s[k].toNat:Int) 48 57;have hu:s[k].toNat < 256:=s[k].toNat_lt;by_cases hd:48<=s[k].toNat/\s[k].toNat<=57
   .have hb:(decide ((48:Int)<=(s[k].toNat:Int))&&decide ((s[k].toNat:Int)<=57))=true:=by simp;omega
    rw [hb] at c2;have hw1:IntKind.u8.wrap ((s[k].toNat:Int) - 48)=((s[k].toNat - 48:Nat):Int):=by rw [aCh]<;>omega
    have hw2:i64.wrap ((s[k].toNat - 48:Nat):Int)=((s[k].toNat - 48:Nat):Int):=by rw [wrap64]<;>omega
    have hw3:i64.wrap (10 * (m:Int))=((10 * m:Nat):Int):=by rw [wrap64]<;>omega
    have hw4:i64.wrap (((10 * m:Nat):Int)+((s[k].toNat - 48:Nat):Int))=((m * 10+(s[k].toNat - 48):Nat):Int):=by rw [wrap64]<;>omega
    have hw5:i64.wrap (s[k].toNat:Int)=(s[k].toNat:Int):=by rw [wrap64]<;>omega
    have hn:=Lib.decFrom_take s k 0 m s[k] _ hi hg (show Lib.digitVal s[k]=some (s[k].toNat - 48) by unfold Lib.digitVal;rw [eK hd]);have W:=aA hk1 (aA hg (aA hlt (aA hw1 (aA hw2 (aA hw3 (aA hw4 hw5))))));refine we ?_;exact hK1 _ ⟨(k+1,m * 10+(s[k].toNat - 48)),by simp only;omega,hn⟩ (aH (by simp) (by simp;try omega)) (by simp only;omega)
   .have hb:(decide ((48:Int)<=(s[k].toNat:Int))&&decide ((s[k].toNat:Int)<=57))=false:=by simp only [AI,AD];omega
    rw [hb] at c2;have hw5:i64.wrap (s[k].toNat:Int)=(s[k].toNat:Int):=by rw [wrap64]<;>omega
    rw [tO (Za hlt hd)] at *;have W:=aA hk1 (aA hg (aA hlt hw5));refine we ?_;exact aK results261
  .have hke:k=s.length:=by omega
   subst hke;rw [rN] at hi;have hp:=aC1 h0 h1.2 hi;have c3:=fT (m:Int) (by omega);rw [aC2] at c3;by_cases hm:m<=1000000000000
   .by_cases he:Lib.decDigits m=s
    .rw [eK ⟨hm,he⟩] at hp;rw [Eb hp] at *;have hm':¬(1000000000000:Int) < (m:Int):=by omega
     have W:=aA hm' he;refine we ?_;exact aK results261
    .rw [cY (λh=>he h.2)] at hp
     rw [tO hp] at *;have hm':¬(1000000000000:Int) < (m:Int):=by omega
     have W:=aA hm' he;repeat' first|refine wf ?_|(refine sq ?_ ?_<;>intro hc<;>try exact hc.elim)|fail
     all_goals first
      |exact absurd ‹Lib.decDigits m=s› he
      |skip
     all_goals try(refine aR ?_;simp [aG,results261])
   .rw [cY (λh=>hm h.1)] at hp
    rw [tO hp] at *;have hm':(1000000000000:Int) < (m:Int):=by omega
    have W:=hm';refine we ?_;exact aK results261
 .rw [show (decide ((1:Int)<=(s.length:Int))&&decide ((s.length:Int)<=13))=false by simp only [AI,AD];omega] at c1;rw [tO (Vr h1)];refine bR aD func261 ntmps261 ?_;refine bH ?_;exact aK results261
end Go.Proofs.YtjmpjmilndkgfaaGreatDoor
set_option maxRecDepth 100000
set_option maxHeartbeats 4000000
namespace Go.Proofs.YtjmpjmilndkgfaaGreatDoor
open Go.Aw Go.Shelf Go.RowKit Proofs.Tryz List IntKind
theorem aC3 {w:World} {E:Env} {a:bF} {vs:List Value} {fp:List Nat} (h:Rc w E [.str a] vs fp):vs=[.string ⟨a.toArray⟩]:=by
 match vs,h with
 |[],h=>simp [Rc] at h
 |[x],h=>simp only [Rc,R] at h;obtain ⟨_,_,h1,_,_⟩:=h;rw [h1.1]
 |_::_::_,h=>simp [Rc] at h
theorem Vs [aC prog] [eH prog] (v:Int) (h1: -9223372036854775808<=v/\v<=9223372036854775807) (w:World) (hg:aC.holds prog w):
  Calls prog 194 #[.int .i64 v] w λe w'=>e= .returned (.string ⟨(Lib.itoa v).toArray⟩)/\Below w.heap.size w w':=by
 refine (fQ v h1 w [.int .i64 v] hg (by simp [Rc,R])).mono λe w' h=> ?_
 obtain ⟨x,fp,he,hr,_,_,h3,h4,h5⟩:=h;simp only [R] at hr;rw [hr.1] at he;exact ⟨he,⟨h5.os,h5.tape,h5.output,h3,h4⟩⟩
theorem NI [aC prog] [eH prog] [qQ prog] (s:bF) (hl:s.length<=1099511627776):Ok prog 290 [.str s] (MW s):=by
 intro w vs hg h;obtain rfl:=aC3 h;have fin:∀{e:Ending} {w':World} {n:Int} {b:Bool},MW s= .iJ [.int .i64 n,.bool b]->e= .returned (.tuple #[.int .i64 n,.bool b])->Below w.heap.size w w'->∃v fp,e= .returned v/\R w' (Ba w.heap.size w' fp) (MW s) v fp/\fp.Nodup/\
   (∀b∈fp,w.heap.size<=b/\b < w'.heap.size)/\w.heap.size<=w'.heap.size/\(∀b,b < w.heap.size->w'.heap[b]? =w.heap[b]?)/\nG w w':=
  λhp he hb=>⟨_,[],he,by rw [hp];simp [R,Rc],nodup_nil,by simp,hb.size,hb.block,DT hb⟩
 have A:=jg Tryz.LaysCx172 s (by omega) w hg
 go_enter func290,ntmps290
 go_wp2_with (go_at_call 302;refine A.mono ?_)
 rintro e w1 ⟨hA,hb⟩;clear A;have hg1:=aC.VV w w1 hg λb h=>hb.block b (oX h (aC.Pe w hg))
 rcases hA with ⟨v,hv,rfl⟩|⟨hn,v,t,p,rfl⟩
 .rcases UW s with ⟨v',hv',h0,h1,hi,hp⟩|⟨hp,hall⟩
  .obtain rfl:v=v':=by rw [hv] at hv';exact Lib.NumEnd.ok.inj hv'
   have d0:decide (v < 0)=false:=by simpa using h0
   have d1:decide (1000000000000 < v)=false:=by simpa using h1
   have C:=Vs v (by omega) w1 hg1;rw [hi] at C;have F:= @fin;clear hv hv' h0 h1 hi fin
   go_wp2_with (go_at_call 194;refine C.mono ?_)
   rintro e w2 ⟨rfl,hb2⟩;clear C
   go_wp2
   go_ret2
   exact F (Eb hp) rfl (hb.trans (hb2.mono hb.size))
  .have hr:=tO hp;have bd:=Lib.atoiAll_bounds hv;by_cases h0:v < 0
   .have d0:decide (v < 0)=true:=by simpa using h0
    clear hv h0 hall bd
    go_wp2
    go_ret2
    exact fin hr rfl hb
   by_cases h1:1000000000000 < v
   .have d0:decide (v < 0)=false:=by simpa using h0
    have d1:decide (1000000000000 < v)=true:=by simpa using h1
    clear hv h0 h1 hall bd
    go_wp2
    go_ret2
    exact fin hr rfl hb
   .have hi:Lib.itoa v≠s:=by
     rcases hall v hv with h|h|h
     .exact absurd h h0
     .exact absurd h h1
     .exact h
    have d0:decide (v < 0)=false:=by simpa using h0
    have d1:decide (1000000000000 < v)=false:=by simpa using h1
    have C:=Vs v (by omega) w1 hg1;generalize Lib.itoa v=x at C hi;have d2:(x == s)=false:=by simpa using hi
    have d3:(x != s)=true:=by simpa using hi
    clear hv h0 h1 hall bd
    go_wp2_with (go_at_call 194;refine C.mono ?_)
    rintro e w2 ⟨rfl,hb2⟩;clear C
    go_wp2
    go_ret2
    exact fin hr rfl (hb.trans (hb2.mono hb.size))
 .have hp:Aa s=none:=by
   rcases UW s with ⟨v',hv',_⟩|⟨hp,_⟩
   .exact absurd hv' (hn _)
   .exact hp
  have hr:=tO hp;clear hn
  go_wp2
  go_ret2
  exact fin hr rfl hb
end Go.Proofs.YtjmpjmilndkgfaaGreatDoor
set_option maxRecDepth 4000
set_option maxHeartbeats 4000000
namespace Go.Proofs.YtjmpjmilndkgfaaGreatDoor
open Go.Aw Proofs.Tryz List IntKind
theorem aK7 [aC prog] (a b:Int):Ok prog 178 [.int .i64 a,.int .i64 b] (.int .i64 (min a b)):=by
 by_cases h:b < a
 .have hr:min a b=b:=by omega
  rw [hr];refine bR aD func178 ntmps178 ?_;have W:=h;refine we ?_;exact aK results178
 .have hr:min a b=a:=by omega
  rw [hr];refine bR aD func178 ntmps178 ?_;have W:=h;refine we ?_;exact aK results178
theorem Ir [aC prog] (s:bF) (c:UInt8) (hl:s.length<=1099511627776):Ok prog 176 [.str s,.int .u8 c.toNat] (.int .i64 (iL c s:Nat)):=by
 refine bR aD func176 ntmps176 ?_;refine bH ?_;refine aL (ι:={k:Nat // k<=s.length/\∀x∈s.take k,x≠c}) (λt o i=>⟨bD t [(5,.int .i64 i.1)],o⟩)
  (λi=>s.length - i.1) ⟨0,by simp,by simp⟩ aH ?_
 rintro ⟨k,hk,hi⟩ K1 hK1;simp only [bD,cW,cU] at hK1⊢;have hk1:=oW (k:=k);by_cases hlt:k < s.length
 .have hg:=aE hlt;have W:=aA hk1 (aA hg hlt);repeat' first|refine wf ?_|(refine sq ?_ ?_<;>intro hc<;>try exact hc.elim)|fail
  .have e:=jd hlt (Cd.1 (by omega)) hi;rw [e];all_goals try(refine aR ?_;simp [aG,results176])
  .exact hK1 _ ⟨k+1,by omega,dV hlt hi (λh=>hc (by rw [h]))⟩ aH (by simp only;omega)
 .have e:=Yp (mQ (by omega) hi);rw [e];have W:=hk1;refine we ?_;exact aK results176
def BL (p s:bF):Bool:=decide (p.length<=s.length)&&(s.take p.length == p)
theorem JN [aC prog] (s p:bF) (hl:s.length<=1099511627776) (hp:p.length<=1099511627776):Ok prog 250 [.str s,.str p] (.bool (BL p s)):=by
 by_cases h:p.length<=s.length
 .have hi:(p.length:Int)<=(s.length:Int):=by omega
  have hr:BL p s=(s.take p.length == p):=by simp [BL,h]
  rw [hr];refine bR aD func250 ntmps250 ?_;have W:=aA h hi;refine we ?_;exact aK results250
 .have hi:¬(p.length:Int)<=(s.length:Int):=by omega
  have hr:BL p s=false:=by simp [BL,h]
  rw [hr];refine bR aD func250 ntmps250 ?_;have W:=aA h hi;refine we ?_;exact aK results250
theorem QJ {p s:bF} (h:BL p s=true):p.length<=s.length:=by simp only [BL,eJ,fN] at h;exact h.1
theorem TQ [aC prog] (s p:bF) (hl:s.length<=1099511627776) (hp:p.length<=1099511627776):Ok prog 197 [.str s,.str p] (.iJ [.str (if BL p s=true then s.drop p.length else s),.bool (BL p s)]):=by
 have c1:=JN s p hl hp;have h1:= @QJ p s;generalize BL p s=b at *;cases b
 .refine bR aD func197 ntmps197 ?_;refine bH ?_;exact aK results197
 .have h2:=h1 rfl;refine bR aD func197 ntmps197 ?_;have W:=h2;refine we ?_;exact aK results197
theorem Ec [aC prog] (s p:bF) (hl:s.length<=1099511627776) (hp:p.length<=1099511627776):Ok prog 149 [.str s,.str p] (.iJ [.str (if BL p s=true then s.drop p.length else s),.bool (BL p s)]):=by have c1:=TQ s p hl hp;generalize (if BL p s=true then s.drop p.length else s)=q at *;generalize BL p s=b at *;refine bR aD func149 ntmps149 ?_;refine bH ?_;exact aK results149
end Go.Proofs.YtjmpjmilndkgfaaGreatDoor
set_option maxRecDepth 4000
set_option maxHeartbeats 4000000
namespace Go.Proofs.YtjmpjmilndkgfaaGreatDoor
open Go.Aw Proofs.Tryz List IntKind
theorem jC [aC prog] (a:aI) (hs:aF a<=274877906944):Ok prog 80 [.agg (aJ .view a)] (.agg (aJ .own a)):=by simp only [aF] at hs;have c1:=GR a.bG (by omega);have c2:=TK a.queue (by omega);have c3:=kR a.builder (by omega);simp only [bV] at hs;simp only [bM] at c1;simp only [aS] at c3;refine bR aD func80 ntmps80 ?_;refine bH ?_;exact aK results80
theorem iI [aC prog] (a:aI) (hs:aF a<=274877906944):Ok prog 65 [.agg (aJ .view a)] (.agg (aJ .own a)):=by simp only [aF] at hs;have c1:=TM a.bG (by omega);have c2:=TL a.queue (by omega);have c3:=kU a.builder (by omega);simp only [bV] at hs;simp only [bM] at c1;simp only [aS] at c3;refine bR aD func65 ntmps65 ?_;refine bH ?_;exact aK results65
end Go.Proofs.YtjmpjmilndkgfaaGreatDoor
set_option maxRecDepth 4000
set_option maxHeartbeats 400000
namespace Go.Proofs.YtjmpjmilndkgfaaGreatDoor
open Go.Aw Proofs.Tryz List IntKind
def iR:bF:=[115,99,114,105,112,116]
def GZ:bF:=[108,105,110,107]
def LW:bF:=[105,109,103]
def JY:bF:=[107,105,110,100]
def Cj:bF:=[109,111,100,117,108,101]
def nR:bF:=[115,114,99]
def Al:bF:=[104,114,101,102]
def dU:bF:=[100,105,103,101,115,116]
def LX:gV:=⟨0,vS,[],[]⟩
def Xd (k:Int) (v d b:bF):gV×Bool:=if (bZ v b).2=true then (⟨k,(bZ v b).1,b,d⟩,true) else (LX,false)
def VB (t:bP) (b:bF):gV×Bool:=
 if t.kind=1 then
  if t.name=iR then
   if (aV t.attrs JY).1=Cj then Xd 5 (aV t.attrs nR).1 [] b else Xd 2 (aV t.attrs nR).1 (aV t.attrs dU).1 b
  else if t.name=GZ then Xd 3 (aV t.attrs Al).1 (aV t.attrs dU).1 b
  else if t.name=LW then Xd 4 (aV t.attrs nR).1 (aV t.attrs dU).1 b
  else (LX,false)
 else (LX,false)
theorem mJ (l:List jY) (n:bF):(aV l n).1.length<=aQ gY l:=by
 unfold aV;split
 .rename_i a h;have:=qS h;have:=cB gY this;simp only [gY] at this⊢;omega
 .simp
end Go.Proofs.YtjmpjmilndkgfaaGreatDoor
