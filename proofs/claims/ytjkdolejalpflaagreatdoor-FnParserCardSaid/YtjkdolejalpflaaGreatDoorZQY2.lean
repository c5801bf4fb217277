/- Proved here: steps towards the statement of this claim. No condition. -/
import Derived.Test.YtjkdolejalpflaaGreatDoorZQU4
import Derived.Test.YtjkdolejalpflaaGreatDoorZQAwIns
set_option linter.all false
set_option maxRecDepth 4000
set_option maxHeartbeats 4000000
namespace Go.Proofs.YtjkdolejalpflaaGreatDoor
open Go.Aw Proofs.Tryz List IntKind
theorem OV(u:List Nat)(b:Bool)(l:List gQ):iL (iV u) b (l.map (dK .view))=l.map (dK .view):=by
 induction l with
 |nil=>rfl
 |cons x l ih=>rw[mS,iL,ih];simp[pM,rt,dK,iV]
theorem iP[aB prog](b:aV)(hs:aF b<=274877906944):Ok prog 47 [.agg (aH .view b)] (.agg (aH .own b)):=by
 simp only[aF,dL]at hs;obtain⟨l,opens⟩:=b;simp only at hs;refine dA aJ func47 ntmps47 ?_;refine bI ?_;refine aY (ι:={q:Nat×Nat // q.1<=l.length/\1<=q.2}) (λt o i=>⟨bN t [(14,.int .i64 i.1.1),(5,.undef),(10,.undef)],o.take 3++[⟨true,true,2,0,[[.obj 4 i.1.2,.obj 2 2]]⟩,⟨true,false,4,i.1.2,(l.take i.1.1).map (dK .own)⟩]⟩)
  (λi=>l.length-i.1.1) ⟨(0,1),by simp,by simp⟩ (qI 3 0 0 (ob:=⟨true,true,2,0,[[.sl .own 4 [],.obj 2 2]]⟩) (by rfl) (by rfl) (by rfl) (by simp) (by rfl) (by rfl) (by simp) (by simp[pM,rt,iV,OV])) ?_
 rintro⟨⟨k,v⟩,hk,hv⟩ K1 hK1;simp only at hk hv;simp only[bN,cH,cG,kO,sC,cM,cW]at hK1⊢;have hk1:=vJ (k:=k);by_cases hlt:k<l.length
 .have hg:=aE hlt;have Gv:=FP (dK .own) l k hlt;have hz:=gM lJ l k hlt;simp only[lJ,dL]at hz;have Ke:((l.take k).map (dK .own)).length=k:=by simp;omega
  generalize (l.take k).map (dK .own)=g at*;have W:=aA hk1 (aA hg (aA hlt Ke));refine we ?_;all_goals refine hK1 _ ⟨(k+1,v+1),by simp only;omega,by simp only;omega⟩ (aS 5 (by simp[Gv])) (by simp only;omega)
 .have Dm:l.take k=l:=eL (by omega);rw[Dm];have W:=hk1;refine we ?_;exact aO results47
theorem iQ[aB prog](b:aV)(hs:aF b<=274877906944):Ok prog 50 [.agg (aH .view b)] (.agg (aH .own b)):=by
 simp only[aF,dL]at hs;obtain⟨l,opens⟩:=b;simp only at hs;refine dA aJ func50 ntmps50 ?_;refine bI ?_;refine aY (ι:={q:Nat×Nat // q.1<=l.length/\1<=q.2}) (λt o i=>⟨bN t [(4,.int .i64 i.1.1),(5,.undef),(10,.undef)],o.take 3++[⟨true,true,2,0,[[.obj 4 i.1.2,.obj 2 2]]⟩,⟨true,false,4,i.1.2,(l.take i.1.1).map (dK .own)⟩]⟩)
  (λi=>l.length-i.1.1) ⟨(0,1),by simp,by simp⟩ (qI 3 0 0 (ob:=⟨true,true,2,0,[[.sl .own 4 [],.obj 2 2]]⟩) (by rfl) (by rfl) (by rfl) (by simp) (by rfl) (by rfl) (by simp) (by simp[pM,rt,iV,OV])) ?_
 rintro⟨⟨k,v⟩,hk,hv⟩ K1 hK1;simp only at hk hv;simp only[bN,cH,cG,kO,sC,cM,cW]at hK1⊢;have hk1:=vJ (k:=k);by_cases hlt:k<l.length
 .have hg:=aE hlt;have Gv:=FP (dK .own) l k hlt;have hz:=gM lJ l k hlt;simp only[lJ,dL]at hz;have c1:=EF l[k].attrs (by omega);have Ke:((l.take k).map (dK .own)).length=k:=by simp;omega
  generalize (l.take k).map (dK .own)=g at*;have W:=aA hk1 (aA hg (aA hlt Ke));refine we ?_;all_goals refine hK1 _ ⟨(k+1,v+1),by simp only;omega,by simp only;omega⟩ (aS 5 (by simp[Gv])) (by simp only;omega)
 .have Dm:l.take k=l:=eL (by omega);rw[Dm];have W:=hk1;refine we ?_;exact aO results50
def places{α:Type}(f:α->Bool):Nat->List α->List Int
 |_,[]=>[]
 |i,x::xs=>if f x then(i:Int)::places f (i+1) xs else places f (i+1) xs
theorem Je{α:Type}(f:α->Bool)(x:α):∀(l:List α) (i:Nat),places f i (l++[x])=places f i l++(if f x then [((i+l.length:Nat):Int)]else [])
 |[],i=>by simp only[cW,places];cases f x<;>simp
 |y::ys,i=>by
  simp only[cM,places];rw[Je f x ys (i+1)];have:i+1+ys.length=i+(y::ys).length:=by simp;omega
  rw[this];cases f y<;>simp
theorem TK{α:Type}(f:α->Bool)(l:List α)(k:Nat)(h:k<l.length):places f 0 (l.take (k+1))=places f 0 (l.take k)++(if f l[k]then [(k:Int)]else []):=by
 rw[eN h,Je];have:(l.take k).length=k:=by simp;omega
 rw[this,gE]
theorem DU{α:Type}(f:α->Bool):∀(l:List α) (i:Nat),(places f i l).length<=l.length
 |[],_=>by simp[places]
 |x::xs,i=>by simp only[places];have:=DU f xs (i+1);cases f x<;>simp<;>omega
def BC(s:mG):Bool:= !s.done
theorem Hy[aB prog](p:aW)(hl:p.aG.length<=16777216):Ok prog 94 [.agg (aL .view p)] (.sl .own 1 ((places BC 0 p.aG).map nP)):=by
 refine dA aJ func94 ntmps94 ?_;refine nG ?_;refine aY (ι:={q:Nat×Nat // q.1<=p.aG.length/\1<=q.2}) (λt o i=>⟨bN t [(3,.obj 1 i.1.2),(4,.int .i64 i.1.1)],o.take 1++[⟨true,false,1,i.1.2,(places BC 0 (p.aG.take i.1.1)).map nP⟩]⟩)
  (λi=>p.aG.length-i.1.1) ⟨(0,1),by simp,by simp⟩ (aC (by simp[places]) (by simp)) ?_
 rintro⟨⟨k,v⟩,hk,hv⟩ K1 hK1;simp only at hk hv;simp only[bN,cH,cG,kO,sC,cM,cW]at hK1⊢;have hk1:=vJ (k:=k);by_cases hlt:k<p.aG.length
 .have hg:=aE hlt;have Gv:=TK BC p.aG k hlt;have hpl:=DU BC (p.aG.take k) 0;have htl:(p.aG.take k).length=k:=by simp;omega
  have hb1:((places BC 0 (p.aG.take k)).length+1)*8<=140737488355328:=by omega
  have hb2:(places BC 0 (p.aG.take k)).length+1<=9223372036854775807:=by omega
  have hb3:(places BC 0 (p.aG.take k)).length<=9223372036854775806:=by omega
  have W:=aA hk1 (aA hg (aA hlt (aA hb1 (aA hb2 hb3))));repeat' first|refine wg ?_|(refine sq ?_ ?_<;>intro hc<;>try exact hc.elim)|fail
  .refine hK1 _ ⟨(k+1,v+1),by simp only;omega,by simp only;omega⟩ (aS 2 (by simp[Gv,BC,hc])) (by simp only;omega)
  .refine hK1 _ ⟨(k+1,v),by simp only;omega,hv⟩ (aS 2 (by simp[Gv,BC,hc])) (by simp only;omega)
 .have Dm:p.aG.take k=p.aG:=eL (by omega);rw[Dm];have W:=hk1;refine wl ?_;exact aO results94
def Bg(n:aX):Bool:=decide (n=[105,109,103]) || decide (n=[108,105,110,107])
def tZ(b:aV)(m:aX)(n:Int):Bool:=decide (0<=n)&&(b.nodes[n.toNat]?).any λx=>decide (x.name=m)
def mQ(b:aV)(m:aX):Nat->List Int
 |0=>b.opens
 |i+1=>if (b.opens[i+1]?).any (tZ b m)then b.opens.take (i+1)else mQ b m i
def jW(t:bD):Bool:=decide (t.kind=1)&& !Bg t.name
def oU(b:aV)(t:bD):gQ:=if t.kind=1 then⟨t.name,[],b.opens.getLastD 0,t.attrs⟩else⟨[],t.text,b.opens.getLastD 0,[]⟩
def addToken(b:aV)(t:bD):aV×Int:=
 if t.kind=2 then({b with opens:=mQ b t.name (b.opens.length-1)}, -1)
 else if¬(t.kind=1\/(t.kind=3/\t.text≠[]))then(b, -1)
 else if 40<=b.nodes.length\/b.opens=[]\/(jW t=true/\8<=b.opens.length)then(b, -1)
 else({nodes:=b.nodes++[oU b t],opens:=if jW t=true then b.opens++[((b.nodes.length:Nat):Int)]else b.opens},((b.nodes.length:Nat):Int))
theorem Jg(b:aV)(m:aX):∀k,(mQ b m k).length<=b.opens.length
 |0=>cX _
 |k+1=>by
  unfold mQ;split
  .simp;omega
  .exact Jg b m k
theorem NC[aB prog](n:aX):Ok prog 58 [.str n] (.bool (Bg n)):=by
 unfold Bg;refine dA aJ func58 ntmps58 ?_;have W:=trivial;repeat' first|refine wf ?_|(refine sq ?_ ?_<;>intro hc<;>try exact hc.elim)|fail
 all_goals try(refine aP ?_;simp[aT,results58])
 all_goals first|(simp[hc];done)|(rw[BW];simp[hc])
theorem ND[aB prog](n:aX):Ok prog 82 [.str n] (.bool (Bg n)):=by
 unfold Bg;refine dA aJ func82 ntmps82 ?_;have W:=trivial;repeat' first|refine wf ?_|(refine sq ?_ ?_<;>intro hc<;>try exact hc.elim)|fail
 all_goals try(refine aP ?_;simp[aT,results82])
 all_goals first|(simp[hc];done)|(rw[BW];simp[hc])
theorem TN{b:aV}{m:aX}{n:Int}(h:¬(0<=n/\n<(b.nodes.length:Int))):tZ b m n=false:=by
 unfold tZ;by_cases h0:0<=n
 .rw [pH (by omega)];simp
 .simp [h0]
theorem Kj{b:aV}{m:aX}{k:Nat}(h:k<b.nodes.length):tZ b m ((k:Nat):Int)=decide (b.nodes[k].name=m):=by unfold tZ;simp[aE h]
end Go.Proofs.YtjkdolejalpflaaGreatDoor
