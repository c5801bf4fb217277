/- Proved here: steps towards the statement of this claim. No condition. -/
import Derived.Test.YtjmpjmilndkgfaaGreatDoorZQR10
import Derived.Test.YtjmpjmilndkgfaaGreatDoorZQRLib
set_option linter.all false
set_option maxRecDepth 8000
set_option maxHeartbeats 8000000
namespace Go.Proofs.YtjmpjmilndkgfaaGreatDoor
open Go.Aw Proofs.Tryz List IntKind
theorem Ra [aC prog] (t:kZ) (hs:t.rest.length<=274877906):Ok prog 269 [.agg (dO t)] (.sl .own 4 ((oP t).map (bK .own))):=by
 obtain ⟨s⟩:=t;simp only at hs;cases s with
 |nil=>simp only [oP,true_or,gE,EV];refine bR aD func269 ntmps269 ?_;refine bH ?_;exact aK results269
 |cons c r=>
  by_cases hc:c=60
  .subst hc;have he:oP ⟨60::r⟩=[]:=by simp [oP]
   rw [he];refine bR aD func269 ntmps269 ?_;refine bH ?_;exact aK results269
  .have he:oP ⟨c::r⟩=[⟨3,[],[],c::r⟩]:=by simp [oP,hc]
   rw [he];have hn:¬((c.toNat:Int)=60):=λh=>hc (Cd.1 (by simp;omega))
   refine bR aD func269 ntmps269 ?_;have W:=hn;refine we ?_;exact aK results269
theorem Rb [aC prog] (t:kZ) (hs:t.rest.length<=274877906):Ok prog 214 [.agg (dO t)] (.sl .own 4 ((oP t).map (bK .own))):=by
 obtain ⟨s⟩:=t;simp only at hs;cases s with
 |nil=>simp only [oP,true_or,gE,EV];refine bR aD func214 ntmps214 ?_;refine bH ?_;exact aK results214
 |cons c r=>
  by_cases hc:c=60
  .subst hc;have he:oP ⟨60::r⟩=[]:=by simp [oP]
   rw [he];refine bR aD func214 ntmps214 ?_;refine bH ?_;exact aK results214
  .have he:oP ⟨c::r⟩=[⟨3,[],[],c::r⟩]:=by simp [oP,hc]
   rw [he];have hn:¬((c.toNat:Int)=60):=λh=>hc (Cd.1 (by simp;omega))
   refine bR aD func214 ntmps214 ?_;have W:=hn;refine we ?_;exact aK results214
theorem GY [aC prog] [dD prog] (s:bF) (c:UInt8):Ok prog 291 [.str s,.int .u8 c.toNat] (.int .i64 (Yq c s)):=by have h1:=Ak s c;refine bR aD func291 ntmps291 ?_;refine bH ?_;exact aK results291
def Ci (t:bP×Bool):List bP:=if t.2=true then [t.1] else []
def iZ (x:bF):Option (List bP×bF):=
 if 0 < iL 60 x/\iL 60 x < x.length then some ([⟨3,[],[],x.take (iL 60 x)⟩],x.drop (iL 60 x))
 else if iL 60 x≠0\/iL 62 x=x.length then none
 else some (Ci (qH ((x.take (iL 62 x)).drop 1)),x.drop (iL 62 x+1))
theorem Fp {x:bF} {ts:List bP} {y:bF} (h:iZ x=some (ts,y)):y.length < x.length/\ts.length<=1/\aQ bO ts+y.length<=x.length:=by
 unfold iZ at h;split at h
 .rename_i hc;simp only [eC,oS] at h;obtain ⟨rfl,rfl⟩:=h;simp [aQ,bO,bV];omega
 .split at h
  .cases h
  .rename_i hc;have h62:=tL 62 x;simp only [eC,oS] at h;obtain ⟨rfl,rfl⟩:=h;have hz:=aDc ((x.take (iL 62 x)).drop 1);simp only [zE,oT] at hz;generalize qH ((x.take (iL 62 x)).drop 1)=tg at *;unfold Ci;split<;>simp [aQ]<;>omega
def Fq:Nat->bF->List bP×bF
 |0,x=>([],x)
 |n+1,x=>match iZ x with
  |none=>([],x)
  |some (ts,y)=>(ts++(Fq n y).1,(Fq n y).2)
def feed (x:bF):List bP×bF:=Fq x.length x
theorem Eg:∀(n:Nat) (x:bF),x.length<=n->Fq n x=Fq x.length x
 |0,x,h=>by rw [show x.length=0 by omega]
 |n+1,x,h=>by
  cases hs:iZ x with
  |none=>
   cases hx:x.length with
   |zero=>simp [Fq,hs]
   |succ m=>simp [Fq,hs]
  |some q=>
   obtain ⟨ts,y⟩:=q;have hlt:=(Fp hs).1;cases hx:x.length with
   |zero=>omega
   |succ m=>simp only [Fq,hs];rw [Eg n y (by omega),Eg m y (by omega)]
theorem Dj {x:bF} {ts:List bP} {y:bF} (h:iZ x=some (ts,y)):feed x=(ts++(feed y).1,(feed y).2):=by
 have hlt:=(Fp h).1;unfold feed;cases hx:x.length with
 |zero=>omega
 |succ m=>simp only [Fq,h];rw [Eg m y (by omega)]
theorem Dk {x:bF} (h:iZ x=none):feed x=([],x):=by
 unfold feed;cases hx:x.length with
 |zero=>simp [Fq]
 |succ m=>simp [Fq,h]
theorem OO:∀(n:Nat) (x:bF),x.length<=n->(feed x).1.length+(feed x).2.length<=x.length/\aQ bO (feed x).1+(feed x).2.length<=x.length
 |n,x,h=>by
  cases hs:iZ x with
  |none=>rw [Dk hs];simp [aQ]
  |some q=>
   obtain ⟨ts,y⟩:=q;obtain ⟨h1,h2,h3⟩:=Fp hs;rw [Dj hs];cases n with
   |zero=>omega
   |succ n=>
    obtain ⟨i1,i2⟩:=OO n y (by omega);have hj:∀a b:List bP,aQ bO (a++b)=aQ bO a+aQ bO b:=by
     intro a b;induction a with
     |nil=>simp [aQ]
     |cons x xs ih=>simp only [eI,aQ,ih];omega
    simp only [eR,hj];omega
theorem yt {x:bF} (h0:iL 60 x=0) (h1:iL 62 x < x.length):1<=iL 62 x:=by
 cases x with
 |nil=>simp at h1
 |cons c r=>
  rw [Bd] at h0⊢;by_cases hc:c=60
  .subst hc;rw [cY (by decide)];omega
  .rw [cY hc] at h0;omega
theorem NL [aC prog] [dD prog] (t:kZ) (s:bF) (hl:t.rest.length+s.length<=274877906944):Ok prog 213 [.agg (dO t),.str s] (.iJ [.sl .own 4 ((feed (t.rest++s)).1.map (bK .own)),.agg [.str (feed (t.rest++s)).2]]):=by
 obtain ⟨rest⟩:=t;simp only at hl⊢;have hx0:(rest++s).length<=274877906944:=by simp;omega
 have hj:rest.length+s.length<=9223372036854775807:=by omega
 generalize hx:rest++s=x0 at *;generalize hF:feed x0=F at *;refine bR aD func213 ntmps213 ?_;have W:=aA hj hx;refine we ?_;refine aL (ι:={q:bF×List bP×Nat // (q.2.1.length+q.1.length<=x0.length/\1<=q.2.2)/\F=(q.2.1++(feed q.1).1,(feed q.1).2)}) (λt o i=>⟨bD t [(6,.obj 2 i.1.2.2),(7,.str i.1.1)],[⟨true,true,1,0,[[.str rest]]⟩,⟨true,true,1,0,[[.str []]]⟩,⟨true,false,4,i.1.2.2,i.1.2.1.map (bK .own)⟩]⟩)
  (λi=>i.1.1.length) ⟨(x0,[],1),by simp,by simp [hF]⟩ aH ?_
 rintro ⟨⟨x,acc,v⟩,⟨hal,hv⟩,sO⟩ K1 hK1;simp only at hal hv sO;simp only [bD,cW,cU] at hK1⊢;have cK:Ok prog 176 [.str x,.int .u8 60] (.int .i64 (iL 60 x:Nat)):=Ir x 60 (by omega);have cE:Ok prog 176 [.str x,.int .u8 62] (.int .i64 (iL 62 x:Nat)):=Ir x 62 (by omega);have hkl:=tL 60 x;have hel:=tL 62 x;have h1e:=yt (x:=x);have cT:=Xc ((x.take (iL 62 x)).drop 1) (by simp;omega);simp only [bK,drop_one] at cT;have hst:iZ x=_:=rfl;unfold iZ at hst;by_cases hA:0 < iL 60 x/\iL 60 x < x.length
 .have xX:iZ x=some ([⟨3,[],[],x.take (iL 60 x)⟩],x.drop (iL 60 x)):=by unfold iZ;rw [eK hA]
  rw [Dj xX] at sO;have hA1:(0:Int) < ((iL 60 x:Nat):Int):=by omega
  have hA2:((iL 60 x:Nat):Int) < (x.length:Int):=by omega
  clear hst xX cT cE h1e hel;generalize iL 60 x=k at *;have hb1:(acc.length+1) * 64<=140737488355328:=by omega
  have W:=aA hA1 (aA hA2 hb1);refine we ?_;all_goals refine hK1 _ ⟨(x.drop k,acc++[⟨3,[],[],x.take k⟩],v+1),⟨by simp;omega,by simp only;omega⟩,by rw [sO];simp⟩ (aW 3) (by simp;omega)
 .by_cases hB:iL 60 x≠0\/iL 62 x=x.length
  .have xX:iZ x=none:=by unfold iZ;rw [cY hA,eK hB]
   rw [Dk xX] at sO;subst sO;clear hst xX cT h1e hK1;by_cases hk0:iL 60 x=0
   .have hee:iL 62 x=x.length:=by rcases hB with h|h;exact absurd hk0 h;exact h
    rw [hk0] at cK;rw [hee] at cE;clear hA hB;refine bH ?_;exact aK results213
   .have hkk:iL 60 x=x.length:=by omega
    have hx1:¬x=[]:=by rintro rfl;simp at hkk;exact hk0 hkk
    have hx2:0 < x.length:=CD.2 hx1;rw [hkk] at cK;clear hA hB hk0;have W:=aA hx1 hx2;refine we ?_;exact aK results213
  .have xX:iZ x=some (Ci (qH ((x.take (iL 62 x)).drop 1)),x.drop (iL 62 x+1)):=by unfold iZ;rw [cY hA,cY hB]
   rw [Dj xX] at sO;have hk0:iL 60 x=0:=by omega
   have hE1:=h1e hk0 (by omega);have OJ:iL 62 x < x.length:=by omega
   rw [hk0] at cK;clear hst xX h1e hA hB hk0 hkl;generalize iL 62 x=e at *;rw [drop_one] at sO;generalize qH (x.take e).tail=tg at *;obtain ⟨tk,ok⟩:=tg;simp only at cT;have hE3:¬((e:Int)=(x.length:Int)):=by omega
   have hE4:(1:Int)<=(e:Int):=by omega
   have hE5:(e:Int)<=(x.length:Int):=by omega
   have hw:i64.wrap ((e:Int)+1)=((e+1:Nat):Int):=by rw [wrap64]<;>omega
   have hE6:e+1<=x.length:=by omega
   have hb1:(acc.length+1) * 64<=140737488355328:=by omega
   cases ok
   .simp only [Ci,eS,gS,eN] at sO;have W:=aA hE3 (aA hE4 (aA hE5 (aA hw (aA hE6 hE1))));refine we ?_;all_goals refine hK1 _ ⟨(x.drop (e+1),acc,v),⟨by simp;omega,hv⟩,sO⟩ (aW 3) (by simp;omega)
   .simp only [Ci,gE] at sO;have W:=aA hE3 (aA hE4 (aA hE5 (aA hw (aA hE6 (aA hE1 hb1)))));refine we ?_;all_goals refine hK1 _ ⟨(x.drop (e+1),acc++[tk],v+1),⟨by simp;omega,by simp only;omega⟩,by rw [sO];simp⟩ (aW 3) (by simp;omega)
theorem NM [aC prog] [dD prog] (t:kZ) (s:bF) (hl:t.rest.length+s.length<=274877906944):Ok prog 268 [.agg (dO t),.str s] (.iJ [.sl .own 4 ((feed (t.rest++s)).1.map (bK .own)),.agg [.str (feed (t.rest++s)).2]]):=by
 obtain ⟨rest⟩:=t;simp only at hl⊢;have hx0:(rest++s).length<=274877906944:=by simp;omega
 have hj:rest.length+s.length<=9223372036854775807:=by omega
 generalize hx:rest++s=x0 at *;generalize hF:feed x0=F at *;refine bR aD func268 ntmps268 ?_;have W:=aA hj hx;refine we ?_;refine aL (ι:={q:bF×List bP×Nat // (q.2.1.length+q.1.length<=x0.length/\1<=q.2.2)/\F=(q.2.1++(feed q.1).1,(feed q.1).2)}) (λt o i=>⟨bD t [(7,.obj 2 i.1.2.2),(6,.str i.1.1)],[⟨true,true,1,0,[[.str rest]]⟩,⟨true,true,1,0,[[.str []]]⟩,⟨true,false,4,i.1.2.2,i.1.2.1.map (bK .own)⟩]⟩)
  (λi=>i.1.1.length) ⟨(x0,[],1),by simp,by simp [hF]⟩ aH ?_
 rintro ⟨⟨x,acc,v⟩,⟨hal,hv⟩,sO⟩ K1 hK1;simp only at hal hv sO;simp only [bD,cW,cU] at hK1⊢;cases hxc:x with
 |nil=>
  have xX:iZ []=none:=by simp [iZ,xh]
  rw [hxc,Dk xX] at sO;subst sO;clear hK1;refine bH ?_;exact aK results268
 |cons c r=>
  have hx1:¬x=[]:=by rw [hxc];simp
  have hx2:x[0]? =some c:=by rw [hxc];rfl
  rw [<-hxc];have cK:Ok prog 291 [.str x,.int .u8 60] (.int .i64 (Yq 60 x)):=GY x 60;have cE:Ok prog 291 [.str x,.int .u8 62] (.int .i64 (Yq 62 x)):=GY x 62;unfold Yq at cK cE;have hkl:=tL 60 x;have hel:=tL 62 x;have h1e:=yt (x:=x);have cT:=WW ((x.take (iL 62 x)).drop 1) (by simp;omega);simp only [bK,drop_one] at cT;by_cases Zu:c=60
  .have hk0:iL 60 x=0:=by rw [hxc,Bd,eK Zu]
   have hc1:(c.toNat:Int)=60:=by rw [Zu];rfl
   have hA:¬(0 < iL 60 x/\iL 60 x < x.length):=by omega
   by_cases hB:iL 62 x=x.length
   .have xX:iZ x=none:=by unfold iZ;rw [cY hA,eK (.inr hB)]
    rw [Dk xX] at sO;subst sO;rw [cY (by omega)] at cE;clear xX cT h1e hK1 hA hB hxc Zu cK hk0;have W:=aA hx1 (aA hx2 hc1);repeat' first|refine wf ?_|(refine sq ?_ ?_<;>intro hc<;>try exact hc.elim)|fail
    all_goals try(refine aR ?_;simp [aG,results268])
   .have xX:iZ x=some (Ci (qH ((x.take (iL 62 x)).drop 1)),x.drop (iL 62 x+1)):=by unfold iZ;rw [cY hA,cY (by rintro (h|h);exact h hk0;exact hB h)]
    rw [Dj xX] at sO;have hE1:=h1e hk0 (by omega);have OJ:iL 62 x < x.length:=by omega
    rw [eK OJ] at cE;clear xX h1e hA hB hkl hxc Zu cK hk0;generalize iL 62 x=e at *;rw [drop_one] at sO;generalize qH (x.take e).tail=tg at *;obtain ⟨tk,ok⟩:=tg;simp only at cT;have hE4:(1:Int)<=(e:Int):=by omega
    have hE5:(e:Int)<=(x.length:Int):=by omega
    have hw:i64.wrap ((e:Int)+1)=((e+1:Nat):Int):=by rw [wrap64]<;>omega
    have hE6:e+1<=x.length:=by omega
    have hb1:(acc.length+1) * 64<=140737488355328:=by omega
    cases ok
    .simp only [Ci,eS,gS,eN] at sO;have W:=aA hx1 (aA hx2 (aA hc1 (aA hE4 (aA hE5 (aA hw (aA hE6 hE1))))));repeat' first|refine wf ?_|(refine sq ?_ ?_<;>intro hc<;>try exact hc.elim)|fail
     all_goals first|(exact absurd hc hx1)|refine hK1 _ ⟨(x.drop (e+1),acc,v),⟨by simp;omega,hv⟩,sO⟩ (aW 3) (by simp;omega)
    .simp only [Ci,gE] at sO;have W:=aA hx1 (aA hx2 (aA hc1 (aA hE4 (aA hE5 (aA hw (aA hE6 (aA hE1 hb1)))))));repeat' first|refine wf ?_|(refine sq ?_ ?_<;>intro hc<;>try exact hc.elim)|fail
     all_goals first|(exact absurd hc hx1)|refine hK1 _ ⟨(x.drop (e+1),acc++[tk],v+1),⟨by simp;omega,by simp only;omega⟩,by rw [sO];simp⟩ (aW 3) (by simp;omega)
  .have hk0:0 < iL 60 x:=by rw [hxc,Bd,cY Zu];omega
   have hc1:¬(c.toNat:Int)=60:=λh=>Zu (Cd.1 (by simp;omega))
   by_cases hB:iL 60 x < x.length
   .have xX:iZ x=some ([⟨3,[],[],x.take (iL 60 x)⟩],x.drop (iL 60 x)):=by unfold iZ;rw [eK ⟨hk0,hB⟩]
    rw [Dj xX] at sO;rw [eK hB] at cK;clear xX cT cE h1e hel hxc Zu;generalize iL 60 x=k at *;have hA1:(0:Int) < (k:Int):=by omega
    have hA2:(k:Int) < (x.length:Int):=by omega
    have hb1:(acc.length+1) * 64<=140737488355328:=by omega
    have W:=aA hx1 (aA hx2 (aA hc1 (aA hA1 (aA hA2 hb1))));repeat' first|refine wf ?_|(refine sq ?_ ?_<;>intro hc<;>try exact hc.elim)|fail
    all_goals first|(exact absurd hc hx1)|refine hK1 _ ⟨(x.drop k,acc++[⟨3,[],[],x.take k⟩],v+1),⟨by simp;omega,by simp only;omega⟩,by rw [sO];simp⟩ (aW 3) (by simp;omega)
   .have xX:iZ x=none:=by unfold iZ;rw [cY (by omega),eK (.inl (by omega))]
    rw [Dk xX] at sO;subst sO;rw [cY hB] at cK;clear xX cT h1e hK1 hB hxc Zu cE hk0;have W:=aA hx1 (aA hx2 hc1);repeat' first|refine wf ?_|(refine sq ?_ ?_<;>intro hc<;>try exact hc.elim)|fail
    all_goals try(refine aR ?_;simp [aG,results268])
theorem NB [aC prog] (a:aI) (k:Int) (h0:0<=k) (hl:k+(Fx a:Nat)<=4611686018427387000) (hq:a.queue.length<=4611686018427387904) (hqa:∀x∈a.queue,x.attrs.length<=4611686018427387904)
  (hb:a.builder.nodes.length<=4611686018427387904) (hba:∀x∈a.builder.nodes,x.attrs.length<=4611686018427387904):
  ek prog 13 (.agg (aJ .own a)) (.agg (aJ .own (Xg k a))) [.int .i64 k] (.int .i64 (k+(Fx a:Nat))):=by
 simp only [Fx] at hl;have l1:=iA 8 a.aB;have l2:=iA 5 a.aN;have l3:=iA 2 a.entries;have l4:=iA 2 a.oD;have l5:=iA 1 a.log;refine Qu aD func13 ntmps13 ?_;have W:=trivial;repeat' first|refine wg ?_|(refine nx ?_;first|refine sm (hc:=Uk a.bG _ (by omega) (by omega)) (h:=?_)|refine sm (hc:=Uj a.queue _ (by omega) (by omega) hq hqa) (h:=?_)|refine sm (hc:=Sn a.builder _ (by omega) (by omega) hb hba) (h:=?_)|refine sm (hc:=Xz a.aB _ (by omega) (by omega) (by omega)) (h:=?_)|refine sm (hc:=Sq a.aN _ (by omega) (by omega) (by omega)) (h:=?_)|refine sm (hc:=KP a.entries _ (by omega) (by omega) (by omega)) (h:=?_)|refine sm (hc:=KP a.oD _ (by omega) (by omega) (by omega)) (h:=?_)|refine sm (hc:=xQ a.log _ (by omega) (by omega) (by omega)) (h:=?_))|(refine sq ?_ ?_<;>intro hc<;>try exact hc.elim)|fail
 all_goals try(refine aR ?_;simp [yD,results13,Xg,Fx,Br,yJ])
 all_goals (try omega)
end Go.Proofs.YtjmpjmilndkgfaaGreatDoor
