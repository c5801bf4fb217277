/- Proved here: steps towards the statement of this claim. No condition. -/
import Derived.Test.YtnkpkklemmgapaaGreatDoorZQRC1
import Derived.Test.YtnkpkklemmgapaaGreatDoorZQTK2
import Derived.Shelf.Slices.In.SortNone
import Derived.Shelf.Slices.CompactS
set_option linter.all false
set_option maxRecDepth 4000
set_option maxHeartbeats 4000000
namespace Go.Proofs.YtnkpkklemmgapaaGreatDoor
open Go.Aw Proofs.Tryz List IntKind
def EH:aU:=[99,111,117,110,116,32]
def MI:aU:=[108,111,111,107,32]
def Yh:aU:=[115,97,121,32]
def eH(b:aY)(ss:List bW)(x:kZ):aY×aU×aU:=
 if x.op=1 then(b,x.text.map Ch,[])
 else if x.op=2 then(if (1<=b.nodes.length/\b.nodes.length<=39)/\dJ x.text=true then({b with nodes:=b.nodes++[⟨x.text,[],0,[]⟩]},[],[])else(b,[],[]))
 else if x.op=3 then(b,[],EH++x.text++[32]++Lib.itoa (bO b x.text))
 else if x.op=4 then(b,[],MI++x.text++[32]++Lib.itoa (bG ss x.text))
 else if x.op=5 then(b,[],Yh++x.text)
 else(b,[],[])
theorem aDb[aB prog][eO prog](b:aY)(ss:List bW)(x:kZ)(hs:aS b<=274877906944)(hx:x.text.length<=268435456)(hl:ss.length<=1099511627776)(hr:∀x∈ss,x.rules.length<=1099511627776)(EJ:∀n,0<=bG ss n/\bG ss n<=999)(hop:x.op=2):
  Ok prog 225 [.agg (aW .view b),.sl .view 1 (ss.map (bX .view)),.agg (tC x)] (.iP [.agg (aW .own (eH b ss x).1),.str (eH b ss x).2.1,.str (eH b ss x).2.2]):=by
 have c1:=gX b hs;have hn:b.nodes.length<=274877906944:=by simp only[aS,bV]at hs;omega
 obtain⟨op,tx⟩:=x;simp only at hx hop;have c2:=oK tx (by omega);have c3:=nD b tx (by omega);have c4:=mD ss tx hl hr;have c5:=dZ tx (by omega);have c6:=eX (b.nodes.length:Int) 1 39;have hcn:0<=bO b tx/\bO b tx<=(b.nodes.length:Int):=by unfold bO;have:=sL (λx:gV=>decide (x.name=tx)) b.nodes;omega
 have bg:=EJ tx;have c7:=dW (bO b tx) (by omega);have c8:=dW (bG ss tx) (by omega);have z7:=jM (bO b tx) (by omega) (by omega);have z8:=jM (bG ss tx) (by omega) (by omega);simp only[aW]at c1 c3;clear hr EJ;simp only[eH,EH,MI,Yh];generalize Lib.itoa (bO b tx)=i7 at*;generalize Lib.itoa (bG ss tx)=i8 at*;generalize bO b tx=cn at*;generalize bG ss tx=cc at*;subst hop;rw[eK (by decide),eW rfl];by_cases hc:(1<=b.nodes.length/\b.nodes.length<=39)/\dJ tx=true
 .rw [eW hc];rw[show(decide ((1:Int)<=(b.nodes.length:Int))&&decide ((b.nodes.length:Int)<=39))=true from by simp;omega]at c6;rw[hc.2]at c5;obtain⟨l0,hl0⟩:∃l,l=b.nodes++[(⟨tx,[],0,[]⟩:gV)]:=⟨_,rfl⟩;have hap:b.nodes.map (fC .own)++[[.str tx,.str [],.int .i64 0,.sl .own 2 []]]=l0.map (fC .own):=by rw[hl0];simp
  rw[<-hl0];clear hl0 hc;refine dL aO func225 ntmps225 ?_;have W:=aA hap hn;refine we ?_;exact aR results225
 .rw [eK hc];by_cases WB:1<=b.nodes.length/\b.nodes.length<=39
  .have ry:dJ tx=false:=by
    cases h:dJ tx with
    |false=>rfl
    |true=>exact absurd ⟨WB,h⟩ hc
   rw[show(decide ((1:Int)<=(b.nodes.length:Int))&&decide ((b.nodes.length:Int)<=39))=true from by simp;omega]at c6;rw[ry]at c5;clear hc;refine dL aO func225 ntmps225 ?_;refine dH ?_;exact aR results225
  .rw [show(decide ((1:Int)<=(b.nodes.length:Int))&&decide ((b.nodes.length:Int)<=39))=false from by simp;omega]at c6;clear hc;refine dL aO func225 ntmps225 ?_;refine dH ?_;exact aR results225
theorem aDc[aB prog][eO prog](b:aY)(ss:List bW)(x:kZ)(hs:aS b<=274877906944)(hx:x.text.length<=268435456)(hl:ss.length<=1099511627776)(hr:∀x∈ss,x.rules.length<=1099511627776)(EJ:∀n,0<=bG ss n/\bG ss n<=999)(hop:¬x.op=1/\¬x.op=2/\¬x.op=3/\¬x.op=4/\¬x.op=5):
  Ok prog 225 [.agg (aW .view b),.sl .view 1 (ss.map (bX .view)),.agg (tC x)] (.iP [.agg (aW .own (eH b ss x).1),.str (eH b ss x).2.1,.str (eH b ss x).2.2]):=by
 have c1:=gX b hs;have hn:b.nodes.length<=274877906944:=by simp only[aS,bV]at hs;omega
 obtain⟨op,tx⟩:=x;simp only at hx hop;have c2:=oK tx (by omega);have c3:=nD b tx (by omega);have c4:=mD ss tx hl hr;have c5:=dZ tx (by omega);have c6:=eX (b.nodes.length:Int) 1 39;have hcn:0<=bO b tx/\bO b tx<=(b.nodes.length:Int):=by unfold bO;have:=sL (λx:gV=>decide (x.name=tx)) b.nodes;omega
 have bg:=EJ tx;have c7:=dW (bO b tx) (by omega);have c8:=dW (bG ss tx) (by omega);have z7:=jM (bO b tx) (by omega) (by omega);have z8:=jM (bG ss tx) (by omega) (by omega);simp only[aW]at c1 c3;clear hr EJ;simp only[eH,EH,MI,Yh];generalize Lib.itoa (bO b tx)=i7 at*;generalize Lib.itoa (bG ss tx)=i8 at*;generalize bO b tx=cn at*;generalize bG ss tx=cc at*;obtain⟨h1,h2,h3,h4,h5⟩:=hop;rw[eK h1,eK h2,eK h3,eK h4,eK h5];refine dL aO func225 ntmps225 ?_;have W:=aA h1 (aA h2 (aA h3 (aA h4 h5)));refine we ?_;exact aR results225
theorem aDd[aB prog][eO prog](b:aY)(ss:List bW)(x:kZ)(hs:aS b<=274877906944)(hx:x.text.length<=268435456)(hl:ss.length<=1099511627776)(hr:∀x∈ss,x.rules.length<=1099511627776)(EJ:∀n,0<=bG ss n/\bG ss n<=999)(hop:x.op=3):
  Ok prog 225 [.agg (aW .view b),.sl .view 1 (ss.map (bX .view)),.agg (tC x)] (.iP [.agg (aW .own (eH b ss x).1),.str (eH b ss x).2.1,.str (eH b ss x).2.2]):=by
 have c1:=gX b hs;have hn:b.nodes.length<=274877906944:=by simp only[aS,bV]at hs;omega
 obtain⟨op,tx⟩:=x;simp only at hx hop;have c2:=oK tx (by omega);have c3:=nD b tx (by omega);have c4:=mD ss tx hl hr;have c5:=dZ tx (by omega);have c6:=eX (b.nodes.length:Int) 1 39;have hcn:0<=bO b tx/\bO b tx<=(b.nodes.length:Int):=by unfold bO;have:=sL (λx:gV=>decide (x.name=tx)) b.nodes;omega
 have bg:=EJ tx;have c7:=dW (bO b tx) (by omega);have c8:=dW (bG ss tx) (by omega);have z7:=jM (bO b tx) (by omega) (by omega);have z8:=jM (bG ss tx) (by omega) (by omega);simp only[aW]at c1 c3;clear hr EJ;simp only[eH,EH,MI,Yh];generalize Lib.itoa (bO b tx)=i7 at*;generalize Lib.itoa (bG ss tx)=i8 at*;generalize bO b tx=cn at*;generalize bG ss tx=cc at*;subst hop;rw[eK (by decide),eK (by decide),eW rfl];clear c2 c4 c5 c6 c8 z8 bg hl;have H7:i7.length<=40:=by omega
 refine BO aO [10] func225 ntmps225 ?_;refine dH ?_;rw[wL];refine Xt (λJ=>⟨[.undef,.sl .view 1 (ss.map (bX .view)),.undef,.ptr 0 0 0 0,.undef,.ptr 1 0 0 0,.ptr 2 0 0 0,dv J 12 (.str []),dv J 13 (.str ([99,111,117,110,116,32]++tx++[32]++i7)),.ptr 5 0 0 0,.undef,.undef,.undef,.undef,.undef,.undef,.undef,.undef,.undef,.undef,.undef,.undef,.undef,.undef,.undef,.undef,.undef,.undef,.undef,.undef,.undef,.undef,.undef,.undef,.undef,.undef,.undef,.undef,.undef,.undef,.undef,.undef,dv J 0 (.agg [.obj 3 1,.obj 4 1]),dv J 1 (.ptr 1 0 0 1),dv J 2 (.str tx),dv J 3 (.str ([99,111,117,110,116,32]++tx)),dv J 4 (.str ([99,111,117,110,116,32]++tx++[32])),dv J 5 (.agg [.sl .view 4 (b.nodes.map (fC .view)),.sl .view 1 (b.opens.map lI)]),dv J 6 (.ptr 1 0 0 1),dv J 7 (.str tx),dv J 8 (.int .i64 cn),dv J 9 (.str i7),dv J 10 (.str ([99,111,117,110,116,32]++tx++[32]++i7)),.undef,.undef,.undef,.undef,.undef,.undef,.undef,.undef,.undef,.undef,.undef,.undef,.undef,.undef,.undef,.undef,.undef,.undef,.undef,.undef],[⟨true,true,2,0,[[.sl .view 4 (b.nodes.map (fC .view)),.sl .view 1 (b.opens.map lI)]]⟩,⟨true,true,2,0,[[.int .i64 3,.str tx]]⟩,⟨true,true,2,0,[if J 11=true then [.obj 3 1,.obj 4 1]else [.sl .own 4 [],.sl .own 1 []]]⟩,⟨true,false,4,1,b.nodes.map (fC .own)⟩,⟨true,false,1,1,b.opens.map lI⟩,⟨true,true,2,0,[[.obj 3 1,.obj 4 1]]⟩]⟩) (aG (by simp[dv,hx,H7]) (by simp[dv,hx,H7])) (by decide) ?_ ?_
 .simp only[zY,qT];refine⟨⟨trivial,λJ h1 h2=>qB λK hK=> ?_⟩,⟨trivial,λJ h1 h2=>qB λK hK=> ?_⟩,⟨trivial,λJ h1 h2=>qB λK hK=> ?_⟩,⟨trivial,λJ h1 h2=>qB λK hK=> ?_⟩,⟨trivial,λJ h1 h2=>qB λK hK=> ?_⟩,⟨trivial,λJ h1 h2=>qB λK hK=> ?_⟩,⟨trivial,λJ h1 h2=>qB λK hK=> ?_⟩,⟨trivial,λJ h1 h2=>qB λK hK=> ?_⟩,⟨trivial,λJ h1 h2=>qB λK hK=> ?_⟩,⟨trivial,λJ h1 h2=>qB λK hK=> ?_⟩,⟨trivial,λJ h1 h2=>qB λK hK=> ?_⟩,⟨trivial,λJ h1 h2=>qB λK hK=> ?_⟩,⟨trivial,λJ h1 h2=>qB λK hK=> ?_⟩,⟨trivial,λJ h1 h2=>qB λK hK=> ?_⟩⟩;all_goals simp[Region.binds]at h2
  all_goals first
   |(simp[-Bool.exists_bool,rM,dv,h1,h2,hx,H7];refine⟨_,(c3),hK _ (aG ?_ ?_)⟩<;>simp[dv,eT,h1,h2])
   |(simp[-Bool.exists_bool,rM,dv,h1,h2,hx,H7];refine⟨_,(c7),hK _ (aG ?_ ?_)⟩<;>simp[dv,eT,h1,h2])
   |(simp[-Bool.exists_bool,rM,dv,h1,h2,hx,H7];refine⟨?_,hK _ (aG ?_ ?_)⟩;(focus omega);all_goals simp[dv,eT,h1,h2])
   |(simp[-Bool.exists_bool,rM,dv,h1,h2,hx,H7];refine hK _ (aG ?_ ?_)<;>simp[dv,eT,h1,h2])
 .intro J hJ;have hJs:J 0=true/\J 1=true/\J 2=true/\J 3=true/\J 4=true/\J 5=true/\J 6=true/\J 7=true/\J 8=true/\J 9=true/\J 10=true/\J 11=true/\J 12=true/\J 13=true:=⟨hJ 0 (by decide),hJ 1 (by decide),hJ 2 (by decide),hJ 3 (by decide),hJ 4 (by decide),hJ 5 (by decide),hJ 6 (by decide),hJ 7 (by decide),hJ 8 (by decide),hJ 9 (by decide),hJ 10 (by decide),hJ 11 (by decide),hJ 12 (by decide),hJ 13 (by decide)⟩;simp only[dv,hJs,eV];clear hJs hJ J;refine dH ?_;exact aR results225
theorem EL[aB prog](t:nJ)(hs:t.rest.length<=274877906):Ok prog 145 [.agg (iB t)] (.sl .own 4 ((oV t).map (eG .own))):=by
 obtain⟨s⟩:=t;simp only at hs;cases s with
 |nil=>simp only[oV,true_or,eV,Ds];refine dL aO func145 ntmps145 ?_;refine dH ?_;exact aR results145
 |cons c r=>
  by_cases hc:c=60
  .subst hc;have he:oV ⟨60::r⟩=[]:=by simp[oV]
   rw[he];refine dL aO func145 ntmps145 ?_;refine dH ?_;exact aR results145
  .have he:oV ⟨c::r⟩=[⟨3,[],[],c::r⟩]:=by simp[oV,hc]
   rw[he];have hn:¬((c.toNat:Int)=60):=λh=>hc (FA.1 (by simp;omega))
   refine dL aO func145 ntmps145 ?_;have W:=hn;refine we ?_;exact aR results145
def Dz(p:aC):aC:=if p.ended=true then p else {p with queue:=p.queue++oV p.tok,tok:=⟨[]⟩,ended:=true}
theorem Zm(t:nJ):(oV t).length<=1:=by unfold oV;split<;>simp
theorem Ra[aB prog](a:aC)(hs:aM a<=274877906):Ok prog 104 [.agg (aQ .view a)] (.agg (aQ .own (Dz a))):=by
 have c1:=fQ a (by omega);simp only[aM,bV,oQ]at hs;have c2:=EL a.tok (by omega);simp only[iB]at c2;have hE:=Zm a.tok;simp only[aQ]at c1;unfold Dz;generalize oV a.tok=g at*;by_cases he:a.ended=true
 .rw [eW he];simp only[he]at c1;refine dL aO func104 ntmps104 ?_;have W:=he;refine we ?_;all_goals try(refine aZ ?_;simp[aX,results104])
  all_goals exact he
 .rw [eK he];replace he:a.ended=false:=by simpa using he
  simp only[he]at c1;refine dL aO func104 ntmps104 ?_;have W:=he;refine we ?_;all_goals try(refine aZ ?_;simp[aX,results104])
  all_goals (rw[<-oX];exact uC _)
end Go.Proofs.YtnkpkklemmgapaaGreatDoor
namespace Go.Aw
open List
open Go.Sort Go.Proofs
theorem Zt{w:World}{b off n:Nat}{C:Array Value}{e:TypeId}{fz:Nat×Nat}{d:Array (List UInt8)}{os:Array Obj}(hb:w.heap[b]? =some (.cells C e fz)):
  (grow (putRow encStr (Sort.ahead w n) b off d) os).heap[b]? =some (.cells (putCells encStr off d C) e fz)/\(∀x,x<w.heap.size->x≠b->(grow (putRow encStr (Sort.ahead w n) b off d) os).heap[x]? =w.heap[x]?)/\
  w.heap.size<=(grow (putRow encStr (Sort.ahead w n) b off d) os).heap.size/\nV w (grow (putRow encStr (Sort.ahead w n) b off d) os):=by
 have hlt:b<w.heap.size:=(AF.1 hb).1;have hsz:(putRow encStr (Sort.ahead w n) b off d).heap.size=w.heap.size:=by simp
 refine⟨?_,λx hx hne=> ?_,?_,⟨rfl,rfl,rfl⟩⟩
 .show ((putRow encStr (Sort.ahead w n) b off d).heap++os)[b]? =_;rw[At (by omega)];simp[putRow,mapBlock,Cp,hb,onCells]
 .show ((putRow encStr (Sort.ahead w n) b off d).heap++os)[x]? =_;rw[At (by omega)];simp[putRow,mapBlock,Cp,wA hne]
 .show _<=((putRow encStr (Sort.ahead w n) b off d).heap++os).size;rw[Array.size_append,hsz];omega
theorem UR{w:World}{b off:Nat}{C:Array Value}{e:TypeId}{fz:Nat×Nat}{d:List (List UInt8)}(hb:w.heap[b]? =some (.cells (putCells encStr off d.toArray C) e fz))(yF:off+d.length<=C.size):dU w b off (d.map encStr):=by
 refine rV hb ?_;intro j v hv;have hj:j<d.length:=by simpa using(cQ.1 hv).1
 rw[sA,aE hj]at hv;simp only[mA,eA]at hv;subst hv;simp only[putCells,Array.getElem?_mapIdx];have:off+j<C.size:=by omega
 simp[this,hj]
theorem Wi{w:World}{E:Env}:∀{l:List aU} {vs:List Value} {fp:List Nat},Rv w E (l.map dQ) vs 1 fp->vs=l.map encStr/\fp=[]
 |[],vs,fp,h=>by simp only[Ds,Rv]at h;exact⟨by simp[h.1],h.2⟩
 |s::l,vs,fp,h=>by
  simp only[lA,Rv]at h;obtain⟨cs,rest,f1,f2,rfl,hn,_,h1,h2,rfl⟩:=h;obtain⟨rfl,rfl⟩:=Wi h2;match cs,hn,h1 with
  |[c],_,h1=>simp only[dQ,Rc,R]at h1;obtain⟨g1,g2,⟨rfl,rfl⟩,rfl,rfl⟩:=h1;exact⟨rfl,rfl⟩
theorem Rb{w:World}{E:Env}:∀(l:List aU),Rv w E (l.map dQ) (l.map encStr) 1 []
 |[]=>by simp[Rv]
 |s::l=>by simp only[lA,Rv];exact⟨[encStr s],l.map encStr,[],[],rfl,rfl,by simp[encStr,Value.oneCell'],by simp[dQ,Rc,R,encStr],Rb l,rfl⟩
theorem UT{w:World}{b off cap:Nat}{C:Array Value}{e:TypeId}{fz:Nat×Nat}{l:List aU}{q:Prop}(hb:w.heap[b]? =some (.cells C e fz))(hz:(C.size<=fz.1/\q)\/fz.2=0)(hc:dU w b off (l.map encStr))(yF:off+cap<=C.size)(hl:l.length<=cap):Holds encStr w b off l.toArray:=by
 intro j hj;have ZM:j<l.length:=by simpa using hj
 refine⟨?_,?_⟩
 .rw [hc j (encStr l[j]) (by rw[sA,aE ZM];rfl)];simp[ZM]
 .simp only[World.frozen?,hb];rcases hz with⟨hz,_⟩|hz
  .have:¬fz.1<=off+j:=by omega
   simp[this]
  .simp [hz]
theorem aEy{P:Program}[aB P]{f:FuncId}
  (hc:∀(b off cap:Nat) (zs:List (List UInt8)) (w:World),Holds encStr w b off zs.toArray->b<w.heap.size->zs.length<4611686018427387904->
   Calls P f #[.slice (some ⟨b,off,none⟩) zs.length cap] w λe w'=>e= .returned (.tuple #[])/\∃n os,w'=grow (putRow encStr (Sort.ahead w n) b off (zs.mergeSort λx y=>decide (x<=y)).toArray) os)
  (hn:∀(p:Option Addr) (cap:Nat) (w:World),Calls P f #[.slice p 0 cap] w λe w'=>e= .returned (.tuple #[])/\w'=w)
  (l:List aU) (hl:l.length<4611686018427387904):OkM P f (.sl .own 1 (l.map dQ)) (.sl .own 1 ((l.mergeSort λx y=>decide (x<=y)).map dQ)) [] (.iP []):=by
 intro w v vs fp hh hlow hr hnd hlt hrest;have hvs:vs=[]:=by
  cases vs with
  |nil=>rfl
  |cons a b=>simp[Rc]at hrest
 subst hvs;obtain⟨a,cap,rfl,OQ,ho⟩:=rO.1 hr;have hln:(l.mergeSort λx y=>decide (x<=y)).length=l.length:=length_mergeSort _;rcases ho with⟨h0,h4,rfl⟩|⟨b,off,C,e,fz,nU,rfl,hb,hz,yF,hlc,aEz,rfl,Nu⟩
 .have hl0:l=[]:=by simpa using h0
  subst hl0;refine(hn a cap w).mono λed w' h=> ?_
  obtain⟨rfl,rfl⟩:=h;exact⟨_,[],rfl,by simp[R,Rc],rO.2 ⟨a,cap,by simp,by simp[maxLen],.inl ⟨by simp,h4,rfl⟩⟩,by simp,by simp,eE _,λ_ _ _=>rfl,nV.rfl⟩
 .obtain ⟨Hq,hv,Ea⟩:=sS.1 Nu;obtain⟨rfl,rfl⟩:=Wi hv;simp only[oT]at OQ hlc;have aIt:b<w.heap.size:=(AF.1 hb).1;have hH:=UT (cap:=cap) hb hz Ea (by omega) hlc;simp only[oT];refine(hc b off cap l w hH aIt hl).mono λed w' h=> ?_
  obtain⟨rfl,n,os,rfl⟩:=h;obtain⟨k1,k2,k3,k4⟩:=Zt (n:=n) (os:=os) (d:=(l.mergeSort λx y=>decide (x<=y)).toArray) (off:=off) hb;have hsz:(putCells encStr off (l.mergeSort λx y=>decide (x<=y)).toArray C).size=C.size:=by simp[putCells]
  refine⟨_,[b],rfl,by simp[R,Rc],rO.2 ⟨some ⟨b,off,none⟩,cap,by simp[hln],by simpa [hln]using OQ,.inr ⟨b,off,_,e,fz,[],rfl,k1,by rw[hsz];exact hz,by rw[hsz];exact yF,by simpa [hln]using hlc,aEz,rfl,sS.2 ⟨_,Rb _,UR k1 (by rw[hln];omega)⟩⟩⟩,by simp,?_,k3,?_,k4⟩
  .intro x hx;obtain rfl:x=b:=by simpa using hx
   exact⟨.inl (by simp),gO aIt k3⟩
  .intro x hx hne;exact k2 x hx λh=>hne (by simp[h])
theorem Zu{P:Program}[aB P]{f:FuncId}
  (hc:∀(b off cap:Nat) (zs:List (List UInt8)) (w:World),Holds encStr w b off zs.toArray->zs.length<=9223372036854775807->zs.length<=cap->
   Calls P f #[.slice (some ⟨b,off,none⟩) zs.length cap] w λe w'=>e= .returned (.slice (some ⟨b,off,none⟩) (Lib.compact zs).length cap)/\∃q,w'=putRow encStr (Sort.ahead w q) b off (Lib.compact zs++replicate (zs.length-(Lib.compact zs).length) []).toArray)
  (hn:∀(p:Option Addr) (cap:Nat) (w:World),Calls P f #[.slice p 0 cap] w λe w'=>e= .returned (.slice p 0 cap)/\w'=w)
  (l:List aU) (hl:l.length<=9223372036854775807) (Ea:(Lib.compact l).length<=l.length):ax P f [.rQ (.sl .own 1 (l.map dQ))] (.sl .own 1 ((Lib.compact l).map dQ)):=by
 intro w vs tV iT hh hlow hnd hr;obtain⟨v1,vs,f1,tV,k1,iT,rfl,rfl,rfl,h1,hr⟩:=aCt hr;obtain⟨rfl,rfl,rfl⟩:=aHl hr;simp only[RG]at h1;obtain⟨a,cap,rfl,OQ,ho⟩:=rO.1 h1;rcases ho with⟨h0,h4,rfl⟩|⟨b,off,C,e,fz,nU,rfl,hb,hz,yF,hlc,aEz,rfl,Nu⟩
 .have hl0:l=[]:=by simpa using h0
  subst hl0;refine(hn a cap w).mono λed w' h=> ?_
  obtain⟨rfl,rfl⟩:=h;have hce:(Lib.compact ([]:List aU))=[]:=lB (by simpa using Ea);exact⟨_,[],[[]],rfl,rO.2 ⟨a,cap,by simp[hce],by simp[hce,maxLen],.inl ⟨by simp[hce],h4,rfl⟩⟩,by simp[Ru,RP],by simp,by simp,eE _,λ_ _ _=>rfl,nV.rfl⟩
 .obtain ⟨Hq,hv,hcs⟩:=sS.1 Nu;obtain⟨rfl,rfl⟩:=Wi hv;simp only[oT]at OQ hlc;have aIt:b<w.heap.size:=(AF.1 hb).1;have hH:=UT (cap:=cap) hb hz hcs (by omega) hlc;simp only[oT];refine(hc b off cap l w hH hl hlc).mono λed w' h=> ?_
  obtain⟨rfl,q,zg⟩:=h;rw[<-grow_empty (putRow encStr _ b off _)]at zg;subst zg;obtain⟨m1,m2,m3,m4⟩:=Zt (n:=q) (os:=#[]) (d:=(Lib.compact l++replicate (l.length-(Lib.compact l).length) []).toArray) (off:=off) hb;have hsz:(putCells encStr off (Lib.compact l++replicate (l.length-(Lib.compact l).length) []).toArray C).size=C.size:=by simp[putCells]
  have aE0:=UR m1 (by simp;omega);rw[oX,dU.append]at aE0;refine⟨_,[b],[[]],rfl,rO.2 ⟨some ⟨b,off,none⟩,cap,by simp,by simp;omega,.inr ⟨b,off,_,e,fz,[],rfl,m1,by rw[hsz];exact hz,by rw[hsz];exact yF,by simp;omega,aEz,rfl,sS.2 ⟨_,Rb _,aE0.1⟩⟩⟩,by simp[Ru,RP],by simp,?_,m3,?_,m4⟩
  .intro x hx;obtain rfl:x=b:=by simpa using hx
   exact⟨.inl (by simp),gO aIt m3⟩
  .intro x hx hne;exact m2 x hx λh=>hne (by simp[h])
end Go.Aw
set_option maxRecDepth 4000
set_option maxHeartbeats 4000000
namespace Go.Proofs.YtnkpkklemmgapaaGreatDoor
open Go.Aw Proofs.Tryz List IntKind
theorem Rj(l:List aU):(Lib.compact l).length<=l.length:=by unfold Lib.compact Lib.compactUpTo;rw[oT];exact kO (sL _ _) (by simp)
theorem aE3[aB prog](l:List aU)(hl:l.length<=1099511627776):OkM prog 50 (.sl .own 1 (l.map dQ)) (.sl .own 1 ((l.mergeSort λx y=>decide (x<=y)).map dQ)) [] (.iP []):=
 aEy (λb off cap zs w hH hb hz=>calls_of_every_depth λD=>Proofs.AnyS.slices_Sort_string_alone Tryz.Laysx190 D b off cap zs w hH hb hz)
  (λp cap w=>calls_of_every_depth λD=>Proofs.AnyS.slices_Sort_string_none_alone Tryz.Laysx190 D p cap w) l (by omega)
theorem Zy[aB prog](l:List aU)(hl:l.length<=1099511627776):ax prog 51 [.rQ (.sl .own 1 (l.map dQ))] (.sl .own 1 ((Lib.compact l).map dQ)):=
 Zu (λb off cap zs w hH hz hc=>Proofs.Any.slices_Compact_string Tryz.Laysx194 b off cap zs w hH hz hc) (λp cap w=>Proofs.Any.slices_Compact_string_empty Tryz.Laysx194 p cap w) l (by omega) (Rj l)
def eY(ss:List bW):List aU:=ss.flatMap λs=>s.rules.map (·.name)
def vY(ss:List bW):List nZ:=((eY ss).foldl iK []).map λn=>⟨n,bG ss n⟩
def fZ(ss:List bW):bW:=⟨vY ss⟩
theorem Jg{ss:List bW}{k:Nat}(h:k<ss.length):eY (ss.take (k+1))=eY (ss.take k)++ss[k].rules.map (·.name):=by unfold eY;rw[eL h,flatMap_append];simp
theorem Zz{ss:List bW}{k m:Nat}(h:k<ss.length)(hm:m<=ss[k].rules.length):(eY (ss.take k)).length+m<=(eY ss).length:=by
 have e:eY ss=eY (ss.take (k+1))++eY (ss.drop (k+1)):=by unfold eY;rw[<-flatMap_append,mN]
 rw[e,Jg h];simp only[eM,oT];omega
@[simp] theorem aMp(u:List Nat)(b:Bool)(l:List bW):iI (gU u) b (l.map (bX .view))=l.map (bX .view):=by
 induction l with
 |nil=>rfl
 |cons x l ih=>rw[lA,iI,ih];simp[qD,rt,bX,gU]
theorem KJ[aB prog](ss:List bW)(hl:ss.length<=1099511627776)(hr:∀x∈ss,x.rules.length<=1099511627776)(hn:(eY ss).length<=1099511627776):Ok prog 20 [.sl .view 1 (ss.map (bX .view))] (.agg (bX .own (fZ ss))):=by
 have cS:=aE3 (eY ss) hn;have cK:=Zy ((eY ss).mergeSort λx y=>decide (x<=y)) (by rw[length_mergeSort];exact hn);rw[Ri]at cK;have cC:=λn=>EG ss n hl hr
 refine dL aO func20 ntmps20 ?_;have W:=trivial;repeat' first|refine st ?_|(refine nx ?_;refine so ?_)|(refine cx ?_;refine sc (λhc=>?_) (λhc=>?_)<;>try exact hc.elim)|(refine lx ?_;refine sp (λhc=>?_) (λhc=>?_)<;>try exact hc.elim)|refine sx ?_ ?_|refine sy ?_ ?_|fail
 refine aI (ι:={q:Nat×Nat // q.1<=ss.length/\1<=q.2}) (λt o i=>⟨bH t [(14,.int .i64 i.1.1),(3,.obj 1 i.1.2),(5,.undef),(7,.undef)],o.take 1++[⟨true,false,1,i.1.2,(eY (ss.take i.1.1)).map dQ⟩]⟩)
  (λi=>ss.length-i.1.1) ⟨(0,1),by simp,by simp⟩ (aG (by simp[eY]) (by simp)) ?_
 rintro⟨⟨k,v⟩,hk,hv⟩ K1 hK1;simp only at hk hv;simp only[bH,cH,cJ,fL,lE,cW,cY]at hK1⊢;have hk1:=rE (k:=k);by_cases hlt:k<ss.length
 .have hg:=aE hlt;have WH:=hr _ (hI hlt);have hns:=Jg hlt;have hnl:=λm (h:m<=ss[k].rules.length)=>Zz hlt h
  have W:=aA hk1 (aA hg hlt);repeat' first|refine st ?_|(refine nx ?_;refine so ?_)|(refine cx ?_;refine sc (λhc=>?_) (λhc=>?_)<;>try exact hc.elim)|(refine lx ?_;refine sp (λhc=>?_) (λhc=>?_)<;>try exact hc.elim)|refine sx ?_ ?_|refine sy ?_ ?_|fail
  generalize ss[k].rules=rl at*;obtain⟨G,hG⟩:∃G:Nat->List (List AV),∀m,G m=(eY (ss.take k)++(rl.take m).map (·.name)).map dQ:=⟨_,λ_=>rfl⟩;have hG0:G 0=(eY (ss.take k)).map dQ:=by rw[hG];simp
  have hGl:G rl.length=(eY (ss.take (k+1))).map dQ:=by rw[hG,tW,hns]
  have hGs:∀m (h:m<rl.length),G (m+1)=G m++[[.str rl[m].name]]:=λm h=>by rw[hG,hG,eL h];simp only[oX,sB,lA,Ds,dQ]
  have hGn:∀m,m<=rl.length->(G m).length<=1099511627776:=λm h=>by have:=hnl m h;rw[hG];simp only[oT,eM,oY];omega
  refine aI (ι:={q:Nat×Nat // q.1<=rl.length/\1<=q.2}) (λt o i=>⟨bH t [(21,.int .i64 i.1.1),(3,.obj 1 i.1.2),(7,.undef)],o.take 1++[⟨true,false,1,i.1.2,G i.1.1⟩]++o.drop 2⟩)
   (λi=>rl.length-i.1.1) ⟨(0,v),by simp,by simpa using hv⟩ (aG (by simp[hG0]) (by simp)) ?_
  clear hG hG0 hns hnl;rintro⟨⟨m,u⟩,hm,hu⟩ K2 hK2;simp only at hm hu;simp only[bH,cH,cJ,fL,lE,cW,cY,vA,DH]at hK2⊢;have Hw:i64.wrap ((m:Int)+1)=((m+1:Nat):Int):=by rw[wrap64]<;>omega
  by_cases NZ:m<rl.length
  .have hgm:=aE NZ;have hps:=hGs m NZ;have Lr:=hGn m hm;clear hGs hGn hGl;generalize hgg:G m=g at*;have W:=aA Hw (aA hgm (aA NZ Lr));repeat' first|refine st ?_|(refine nx ?_;refine so ?_)|(refine cx ?_;refine sc (λhc=>?_) (λhc=>?_)<;>try exact hc.elim)|(refine lx ?_;refine sp (λhc=>?_) (λhc=>?_)<;>try exact hc.elim)|refine sx ?_ ?_|refine sy ?_ ?_|fail
   all_goals refine hK2 _ ⟨(m+1,u+1),by simp only;omega,by simp only;omega⟩ (aL 3 (by simp[hps])) (by simp only;omega)
  .have htk:m=rl.length:=by omega
   subst htk;rw[hGl];have W:=aA Hw hk1;repeat' first|refine st ?_|(refine nx ?_;refine so ?_)|(refine cx ?_;refine sc (λhc=>?_) (λhc=>?_)<;>try exact hc.elim)|(refine lx ?_;refine sp (λhc=>?_) (λhc=>?_)<;>try exact hc.elim)|refine sx ?_ ?_|refine sy ?_ ?_|fail
   exact hK1 _ ⟨(k+1,u),by simp only;omega,hu⟩ (aL 2) (by simp only;omega)
 .have htk:ss.take k=ss:=eJ (by omega);rw[htk];generalize hU:(eY ss).foldl iK []=U at*;have hUl:U.length<=1099511627776:=by have h1:=Rj ((eY ss).mergeSort λx y=>decide (x<=y));rw[Ri,hU,length_mergeSort]at h1;omega
  unfold fZ vY;rw[hU];have W:=hk1;repeat' first|refine st ?_|(refine nx ?_;first|refine so ?_|refine sm (hc:=cS) (h:=?_)|refine sg (hc:=cK) (h:=?_))|(refine cx ?_;refine sc (λhc=>?_) (λhc=>?_)<;>try exact hc.elim)|(refine lx ?_;refine sp (λhc=>?_) (λhc=>?_)<;>try exact hc.elim)|refine sx ?_ ?_|refine sy ?_ ?_|fail
  refine aI (ι:={q:Nat×Nat // q.1<=U.length/\1<=q.2}) (λt o i=>⟨bH t [(38,.int .i64 i.1.1),(34,.undef),(10,.undef)],o.take 2++[⟨true,true,1,0,[[.obj 4 i.1.2]]⟩]++(o.drop 3).take 1++[⟨true,false,2,i.1.2,((U.take i.1.1).map λn=>(⟨n,bG ss n⟩:nZ)).map kM⟩]⟩)
   (λi=>U.length-i.1.1) ⟨(0,1),by simp,by simp⟩ (pR 2 0 0 (ob:=⟨true,true,1,0,[[.sl .own 2 []]]⟩) (by rfl) (by rfl) (by rfl) (by simp) (by rfl) (by rfl) (by simp) (by simp[qD,rt,gU])) ?_
  rintro⟨⟨m,u⟩,hm,hu⟩ K2 hK2;simp only at hm hu;simp only[bH,cH,cJ,fL,lE,cW,cY,vA,DH]at hK2⊢;have Hw:i64.wrap ((m:Int)+1)=((m+1:Nat):Int):=by rw[wrap64]<;>omega
  obtain⟨G,hG⟩:∃G:Nat->List (List AV),∀m,G m=((U.take m).map λn=>(⟨n,bG ss n⟩:nZ)).map kM:=⟨_,λ_=>rfl⟩;simp only[<-hG]at hK2⊢;by_cases NZ:m<U.length
  .have hgm:=aE NZ;have cc:=cC U[m];have hps:G (m+1)=G m++[[.str U[m],.int .i64 (bG ss U[m])]]:=by rw[hG,hG,eL NZ];simp only[oX,lA,Ds,kM]
   have Lr:(G m).length<=1099511627776:=by rw[hG];simp only[oT,oY];omega
   generalize bG ss U[m]=c at*;clear hG cC;generalize hgg:G m=g at*;have W:=aA Hw (aA hgm (aA NZ Lr));repeat' first|refine st ?_|(refine nx ?_;refine so ?_)|(refine cx ?_;refine sc (λhc=>?_) (λhc=>?_)<;>try exact hc.elim)|(refine lx ?_;refine sp (λhc=>?_) (λhc=>?_)<;>try exact hc.elim)|refine sx ?_ ?_|refine sy ?_ ?_|fail
   all_goals refine hK2 _ ⟨(m+1,u+1),by simp only;omega,by simp only;omega⟩ (aL 5 (by simp[hps])) (by simp only;omega)
  .have htk:U.take m=U:=eJ (by omega);have hGe:G m=(U.map λn=>(⟨n,bG ss n⟩:nZ)).map kM:=by rw[hG,htk]
   rw[hGe];clear hG;generalize (U.map λn=>(⟨n,bG ss n⟩:nZ))=RL at*;have W:=aA Hw NZ;repeat' first|refine st ?_|(refine nx ?_;refine so ?_)|(refine cx ?_;refine sc (λhc=>?_) (λhc=>?_)<;>try exact hc.elim)|(refine lx ?_;refine sp (λhc=>?_) (λhc=>?_)<;>try exact hc.elim)|refine sx ?_ ?_|refine sy ?_ ?_|fail
   all_goals (try exact aR results20)
def DY(ss:List bW)(n:aU):nZ:=⟨n,bG ss n⟩
@[simp] theorem qi(i j:Nat):∀l:List nZ,oF i j (l.map kM)=l.map kM
 |[]=>rfl
 |x::l=>by simp only[lA,oF,qi i j l];simp[sQ,qO,kM]
@[simp] theorem ZA(i j:Nat):∀l:List bW,oF i j (l.map (bX .view))=l.map (bX .view)
 |[]=>rfl
 |x::l=>by simp only[lA,oF,ZA i j l];simp[sQ,qO,bX]
theorem Q7(l:List nZ)(n:Nat)(h:l.length=n):List.take n (map kM l)=map kM l:=eJ (by simp[h])
theorem UU{t t':List AV}{o o':List aD}{o0 l4:aD}{v d:Nat}{L L0:List (List AV)}(ho:o=[o0,⟨true,true,1,0,[[.obj 3 v]]⟩,⟨false,false,2,d,L0⟩,⟨true,false,2,v,L⟩,l4])(ho':o'=[o0,⟨true,true,1,0,[[.obj 2 v]]⟩,⟨true,false,2,v,L⟩])
  (hv:v≠0) (h0:o0.qO 2 3=o0) (hw:wk t t') (h1:wk (sQ 2 3 t') t') (hc:gH 3 t'=true) (hc0:fI 3 [o0]=true):kY ⟨t,o⟩ ⟨t',o'⟩:=by
 subst ho;subst ho';refine(Ag hw).trans ?_;refine(bK 2 3 rfl rfl ⟨rfl,rfl⟩ (by simp[h0,hv];rfl) h1).trans ?_;refine aL 3 (by simp) (mR _) hc ?_;simpa [fI,gH,closed]using hc0
theorem KL[aB prog](ss:List bW)(hl:ss.length <= 1099511627776)(hr:∀ x ∈ ss, x.rules.length <= 1099511627776)(hn:(eY ss).length <= 1099511627776): Ok prog 33 [.sl .view 1 (ss.map (bX .view))] (.agg (bX .own (fZ ss))) := by
  have cC := λn => mD ss n hl hr
  obtain⟨A, hA⟩ : ∃ A:List aU -> List aU, ∀ l, A l = l.foldl iK [] := ⟨_, λ_ => rfl⟩;have hA0:A (eY []) = [] := by rw[hA]; rfl
  have hAs:∀ l n, A (l ++ [n]) = iK (A l) n := λl n => by rw[hA, hA, CI]; rfl
  have hAp:∀ l, (A l).Pairwise (· < ·) := λl => by rw[hA]; exact(DC l [] Pairwise.nil).1
  have hAl:∀ l, (A l).length <= l.length := by
    intro l;have e:∀ (l acc:List aU), (l.foldl iK acc).length <= acc.length+l.length := by
      intro l;induction l with
      | nil => intro acc; simp
      | cons n l ih =>
        intro acc;have h1 := ih (iK acc n);have h2:(iK acc n).length <= acc.length+1 := by
          unfold iK;split
          · omega
          · simp only[eM, oY, dT, AI]; omega
        simp only[Fi, dT];omega
    have := e l [];rw[hA]; simpa using this
  refine dL aO func33 ntmps33 ?_;have W := trivial;repeat' first|refine st ?_|(refine nx ?_;first|refine sz ?_|refine so ?_)|(refine cx ?_;refine sc (λhc=>?_) (λhc=>?_)<;>try exact hc.elim)|(refine lx ?_;refine sp (λhc=>?_) (λhc=>?_)<;>try exact hc.elim)|refine sx ?_ ?_|refine sy ?_ ?_|fail
  refine aI (ι := { q:Nat × Nat // q.1 <= ss.length /\ 1 <= q.2 }) (λt o i => ⟨bH t [(4, .int .i64 i.1.1), (5, .undef), (6, .undef), (7, .undef), (8, .undef), (9, .undef)], o.take 1 ++ [⟨true, true, 1, 0, [[.obj 2 i.1.2]]⟩, ⟨true, false, 2, i.1.2, ((A (eY (ss.take i.1.1))).map (DY ss)).map kM⟩]⟩)
    (λi => ss.length-i.1.1) ⟨(0, 1), by simp, by simp⟩ (pR 1 0 0 (ob := ⟨true, true, 1, 0, [[.sl .own 2 []]]⟩) (by rfl) (by rfl) (by rfl) (by simp[hA0]) (by rfl) (by rfl) (by simp[hA0]) (by simp[qD, rt, gU, hA0])) ?_
  rintro⟨⟨k, v⟩, hk, hv⟩ K1 hK1;simp only at hk hv;simp only[bH, cH, cJ, fL, lE, cW, cY]at hK1 ⊢;have hk1 := rE (k := k) (by omega);by_cases hlt:k<ss.length
  · have hg := aE hlt
    have WH := hr _ (hI hlt);have hns := Jg hlt;have hnl := λm (h:m <= ss[k].rules.length) => Zz hlt h
    have W := aA hk1 (aA hg hlt);repeat' first|refine st ?_|(refine nx ?_;first|refine sz ?_|refine so ?_)|(refine cx ?_;refine sc (λhc=>?_) (λhc=>?_)<;>try exact hc.elim)|(refine lx ?_;refine sp (λhc=>?_) (λhc=>?_)<;>try exact hc.elim)|refine sx ?_ ?_|refine sy ?_ ?_|fail
    obtain⟨rl, hrl⟩ : ∃ rl, rl = ss[k].rules := ⟨_, rfl⟩;have aYm:rl.length <= 1099511627776 := by rw[hrl]; exact WH
    obtain⟨N, hN⟩ : ∃ N:Nat -> List aU, ∀ m, N m = eY (ss.take k) ++ (rl.take m).map (·.name) := ⟨_, λ_ => rfl⟩;have hN0:N 0 = eY (ss.take k) := by rw[hN]; simp
    have hNe:N rl.length = eY (ss.take (k+1)) := by rw[hN, tW, hns, hrl]
    have hNs:∀ m (h:m<rl.length), N (m+1) = N m ++ [rl[m].name] := λm h => by
      rw[hN, hN, eL h]; simp only[oX, sB, lA, Ds]
    have hNl:∀ m, m <= rl.length -> (N m).length <= 1099511627776 := λm h => by
      have := hnl m (by rw[<- hrl]; exact h);rw[hN];simp only[oT, eM, oY];omega
    refine aI (ι := { q:Nat × Nat // q.1 <= rl.length /\ 1 <= q.2 }) (λt o i => ⟨bH t [(5, .int .i64 i.1.1), (6, .undef), (7, .undef), (8, .undef)], o.take 1 ++ [⟨true, true, 1, 0, [[.obj 2 i.1.2]]⟩, ⟨true, false, 2, i.1.2, ((A (N i.1.1)).map (DY ss)).map kM⟩]⟩)
      (λi => rl.length-i.1.1) ⟨(0, v), by simp, by simpa using hv⟩ (aG (by simp[hN0]) (by simp)) ?_
    clear hN hN0 hns hnl;rintro⟨⟨m, u⟩, hm, hu⟩ K2 hK2;simp only at hm hu;simp only[bH, cH, cJ, fL, lE, cW, cY, vA, DH]at hK2 ⊢;have Hw:i64.wrap ((m:Int)+1) = ((m+1:Nat) : Int) := by rw[wrap64] <;> omega
    by_cases NZ:m<rl.length
    · have hgm := aE NZ
      have hNs := hNs m NZ;have hNl := hNl m hm;have hap := hAp (N m);have hal := hAl (N m);have aIu := hAs (N m) rl[m].name;rw[<- hNs]at aIu;generalize A (N m) = B at*;have hBl:B.length <= 1099511627776 := by omega
      have hrg:∀ j (h:j<B.length), (B.map (DY ss))[j]? = some ⟨B[j], bG ss B[j]⟩ := λj h => by simp[h, DY]
      have hRl:(B.map (DY ss)).length = B.length := by simp
      have hfin:∀ J n, J <= B.length -> A (N (m+1)) = B.take J ++ n :: B.drop J -> ((A (N (m+1))).map (DY ss)).map kM = ((B.map (DY ss)).map kM).take J ++ [.str n, .int .i64 (bG ss n)] :: ((B.map (DY ss)).map kM).drop J := by
        intro J n _ h;rw[h]; simp[DY]
      generalize aMq:B.map (DY ss) = RL at*;subst hrl;have W := aA Hw (aA hg (aA hlt (aA hgm NZ)));repeat' first|refine st ?_|(refine nx ?_;first|refine sz ?_|refine so ?_)|(refine cx ?_;refine sc (λhc=>?_) (λhc=>?_)<;>try exact hc.elim)|(refine lx ?_;refine sp (λhc=>?_) (λhc=>?_)<;>try exact hc.elim)|refine sx ?_ ?_|refine sy ?_ ?_|fail
      have aIv := λx:aU => Proofs.bytesLess_eq ss[k].rules[m].name x
      generalize hnm:ss[k].rules[m].name = n at*;have cc := cC n;refine aI (ι := { j:Nat // j <= B.length /\ ∀ x ∈ B.drop j, n<x }) (λt o i => ⟨bH t [(7, .int .i64 i.1)], o⟩)
        (λi => i.1) ⟨B.length, by simp, by simp⟩ (aG (by simp) (by simp[hRl])) ?_
      rintro⟨j, hj, hjd⟩ K3 hK3;simp only[bH, cH, cJ]at hK3 ⊢;cases j with
      | zero =>
        have Us:Cx B n = 0 := Rh (by omega) hjd (λx h => absurd h (by omega));have hf := hfin 0 n (by omega) (by rw[aIu]; unfold iK; rw[Us, eK (by simp)]);generalize bG ss n = c at*;have W := aA hRl Hw;repeat' first|refine st ?_|(refine nx ?_;first|refine sz ?_|refine so ?_)|(refine cx ?_;refine sc (λhc=>?_) (λhc=>?_)<;>try exact hc.elim)|(refine lx ?_;refine sp (λhc=>?_) (λhc=>?_)<;>try exact hc.elim)|refine sx ?_ ?_|refine sy ?_ ?_|fail
        have htk:List.take B.length (map kM RL) = map kM RL := eJ (by simp[hRl]);refine hK2 _ ⟨(m+1, 4), by simp only; omega, by simp⟩ ?_ (by simp only; omega);exact UU rfl (by simp only[hf, htk]; simp) (by simp) (by simp) (by simp) (by simp) (by simp) (by simp[fI, gH, closed])
      | succ j =>
        have hjl:j<B.length := by omega
        have hgj := hrg j hjl;have hrn:∀ h, (RL[j]'h).name = B[j] := λh => by
          have := hgj;rw[aE h]at this;rw[cU this]
        have hk0:(((j+1:Nat) : Int)-1) = (j:Int) := by omega
        have MB:i64.wrap ((j:Int)) = (j:Int) := by rw[wrap64] <;> omega
        have Y6 := aIv B[j];have aMr:(0:Int)<((j+1:Nat) : Int) := by omega
        by_cases hb:n<B[j]
        · rw[Bm hb]at Y6
          have aUk:∀ x ∈ B.drop j, n<x := by
            intro x hx;rw[oS hjl]at hx;rcases gE.1 hx with e | hx
            · subst e; exact hb
            · exact hjd x hx
          clear hfin aIv hrg hNs;have W := aA aMr (aA hk0 (aA MB (aA hgj (aA Y6 (aA hjl hrn)))));repeat' first|refine st ?_|(refine nx ?_;first|refine sz ?_|refine so ?_)|(refine cx ?_;refine sc (λhc=>?_) (λhc=>?_)<;>try exact hc.elim)|(refine lx ?_;refine sp (λhc=>?_) (λhc=>?_)<;>try exact hc.elim)|refine sx ?_ ?_|refine sy ?_ ?_|fail
          exact hK3 _ ⟨j, by omega, aUk⟩ aG (by simp only; omega)
        · rw[decide_eq_false hb]at Y6
          have Us:Cx B n = j+1 := Rh (by omega) hjd (λx _ hx => by
            rw[BW, aE hjl]at hx;obtain rfl := cU hx;exact hb)
          by_cases he:B[j] = n
          · have iH:A (N (m+1)) = B := by
              rw[aIu]; unfold iK; rw[Us, eW ⟨by omega, by rw[BW, aE hjl, he]⟩]
            have hrow:((A (N (m+1))).map (DY ss)).map kM = RL.map kM := by rw[iH, aMq]
            clear hfin aIv hrg hNs aMq;rw[he]at Y6 hrn hgj;have W := aA aMr (aA hk0 (aA MB (aA hgj (aA Y6 (aA hjl (aA hrn Hw))))));repeat' first|refine st ?_|(refine nx ?_;first|refine sz ?_|refine so ?_)|(refine cx ?_;refine sc (λhc=>?_) (λhc=>?_)<;>try exact hc.elim)|(refine lx ?_;refine sp (λhc=>?_) (λhc=>?_)<;>try exact hc.elim)|refine sx ?_ ?_|refine sy ?_ ?_|fail
            refine hK2 _ ⟨(m+1, u), by simp only; omega, hu⟩ ?_ (by simp only; omega);simp only[hrow];exact aG (by simp) (by simp)
          · have hf := hfin (j+1) n (by omega) (by rw[aIu]; unfold iK; rw[Us, eK (λh => he (by have := h.2; rw[BW, aE hjl]at this; exact cU this))])
            have hjB:j+1 <= B.length := hj;generalize bG ss n = c at*;clear hfin aIv hrg hNs aMq;have aUl:((j:Int)+1) <= (B.length:Int) := by omega
            have htn:((j:Int)+1).toNat = j+1 := by omega
            have hj0:(0:Int) <= (j:Int)+1 := by omega
            have W := aA aMr (aA hk0 (aA MB (aA hgj (aA Y6 (aA hjl (aA hrn (aA he (aA Hw (aA hRl (aA hjB (aA aUl (aA htn hj0))))))))))));repeat' first|refine st ?_|(refine nx ?_;first|refine sz ?_|refine so ?_)|(refine cx ?_;refine sc (λhc=>?_) (λhc=>?_)<;>try exact hc.elim)|(refine lx ?_;refine sp (λhc=>?_) (λhc=>?_)<;>try exact hc.elim)|refine sx ?_ ?_|refine sy ?_ ?_|fail
            all_goals first
              | exact absurd (by assumption) he
              | (have htk := Q7 RL B.length hRl
                 refine hK2 _ ⟨(m+1, 4), by simp only; omega, by simp⟩ ?_ (by simp only; omega);exact UU rfl (by simp only[hf, htk] <;> simp) (by simp) (by simp) (by simp) (by simp) (by simp) (by simp[fI, gH, closed]))
    · have htk:m = rl.length := by omega
      subst htk;rw[hNe];subst hrl;have W := aA Hw (aA hk1 (aA hg hlt));repeat' first|refine st ?_|(refine nx ?_;first|refine sz ?_|refine so ?_)|(refine cx ?_;refine sc (λhc=>?_) (λhc=>?_)<;>try exact hc.elim)|(refine lx ?_;refine sp (λhc=>?_) (λhc=>?_)<;>try exact hc.elim)|refine sx ?_ ?_|refine sy ?_ ?_|fail
      exact hK1 _ ⟨(k+1, u), by simp only; omega, hu⟩ aG (by simp only; omega)
  · have htk:ss.take k = ss := eJ (by omega)
    rw[htk, hA];unfold fZ vY;generalize hRL:(foldl iK [] (eY ss)).map (DY ss) = RL at*;have e:((eY ss).foldl iK []).map (λn => (⟨n, bG ss n⟩ : nZ)) = RL := by rw[<- hRL]; rfl
    rw[e];have W := hlt;repeat' first|refine st ?_|(refine nx ?_;first|refine sz ?_|refine so ?_)|(refine cx ?_;refine sc (λhc=>?_) (λhc=>?_)<;>try exact hc.elim)|(refine lx ?_;refine sp (λhc=>?_) (λhc=>?_)<;>try exact hc.elim)|refine sx ?_ ?_|refine sy ?_ ?_|fail
    all_goals (try exact aR results33)
def pF(ss:List bW)(l:List gV)(k:Nat):List Int:=(range k).map λ(j:Nat)=>jS ss l 40 (j:Int)
def AQ(p:aC):List Int:=pF (bF p) p.builder.nodes p.builder.nodes.length
theorem SG(ss:List bW)(l:List gV)(k:Nat):pF ss l (k+1)=pF ss l k++[jS ss l 40 (k:Int)]:=by unfold pF;rw[CD,oX];rfl
theorem KN(ss:List bW)(l:List gV)(k:Nat):(pF ss l k).length=k:=by simp[pF]
theorem aE5(p:aC):∀x∈bF p,x.rules.length<=1099511627776:=by intro x hx;unfold bF kQ at hx;obtain⟨y,_,rfl⟩:=qS.1 hx;have:(rG y.body).rules.length<=8:=JS _;omega
theorem Ob[aB prog][dY prog][eO prog][pM prog](p:aC)(hs:bV iU p.aF<=1073741824)(hb:p.builder.nodes.length<=1099511627776):Ok prog 8 [.agg (aQ .view p)] (.sl .own 1 ((AQ p).map lI)):=by
 have cS:=DR p hs;have hr:=aE5 p;have hl:(bF p).length<=1099511627776:=by have:=wK p.aF;simp only[bV]at hs;unfold bF;omega
 have cA:=λa=>Rl (bF p) p.builder a hl hr hb
 unfold AQ;simp only[aQ]at cS⊢;simp only[aW]at cA;generalize bF p=ss at*;generalize p.builder.nodes=l at*;refine aUm aO [5] func8 ntmps8 ?_;have W:=trivial;repeat' first|refine st ?_|(refine nx ?_;refine so ?_)|(refine cx ?_;refine sc (λhc=>?_) (λhc=>?_)<;>try exact hc.elim)|(refine lx ?_;refine sp (λhc=>?_) (λhc=>?_)<;>try exact hc.elim)|refine sx ?_ ?_|refine sy ?_ ?_|fail
 refine aI (ι:={q:Nat×Nat // q.1<=l.length/\1<=q.2}) (λt o i=>⟨bH t [(10,.int .i64 i.1.1),(3,.obj 1 i.1.2)],o.take 1++[⟨true,false,1,i.1.2,(pF ss l i.1.1).map lI⟩]⟩)
  (λi=>l.length-i.1.1) ⟨(0,1),by simp,by simp⟩ (aG (by simp[pF]) (by simp[pF])) ?_
 rintro⟨⟨k,v⟩,hk,hv⟩ K1 hK1;simp only at hk hv;simp only[bH,cH,cJ,fL,lE,cW,cY]at hK1⊢;have hk1:=rE (k:=k);by_cases hlt:k<l.length
 .have hps:(pF ss l (k+1)).map lI=(pF ss l k).map lI++[lI (jS ss l 40 (k:Int))]:=by rw[SG];simp
  have Lr:((pF ss l k).map lI).length=k:=by rw[oT,KN]
  have c1:=cA (k:Int);generalize jS ss l 40 (k:Int)=c at*;generalize (pF ss l k).map lI=g at*;have W:=aA hk1 (aA hlt Lr);repeat' first|refine st ?_|(refine nx ?_;refine so ?_)|(refine cx ?_;refine sc (λhc=>?_) (λhc=>?_)<;>try exact hc.elim)|(refine lx ?_;refine sp (λhc=>?_) (λhc=>?_)<;>try exact hc.elim)|refine sx ?_ ?_|refine sy ?_ ?_|fail
  all_goals exact hK1 _ ⟨(k+1,v+1),by simp only;omega,by simp only;omega⟩ (aL 2 (by simp[hps])) (by simp only;omega)
 .have hke:k=l.length:=by omega
  subst hke;have W:=hk1;repeat' first|refine st ?_|(refine nx ?_;refine so ?_)|(refine cx ?_;refine sc (λhc=>?_) (λhc=>?_)<;>try exact hc.elim)|(refine lx ?_;refine sp (λhc=>?_) (λhc=>?_)<;>try exact hc.elim)|refine sx ?_ ?_|refine sy ?_ ?_|fail
  all_goals (try exact aR results8)
end Go.Proofs.YtnkpkklemmgapaaGreatDoor
