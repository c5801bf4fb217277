/- Proved here: steps towards the statement of this claim. No condition. -/
import Derived.Test.YtnkpkklemmgapaaGreatDoorZQY2
import Derived.Shelf.Lays
set_option linter.all false
set_option maxRecDepth 4000
set_option maxHeartbeats 4000000
namespace Go.Proofs.YtnkpkklemmgapaaGreatDoor
open Go.Aw Proofs.Tryz List IntKind
theorem ES{b:aY}{t:bU}(h:t.kind=2):addToken b t=({b with opens:=oW b t.name (b.opens.length-1)}, -1):=by unfold addToken;rw[eW h]
theorem Qh{b:aY}{t:bU}(h:¬t.kind=2)(h1:¬t.kind=1)(h3:t.kind=3->t.text=[]):addToken b t=(b, -1):=by
 unfold addToken;rw[eK h,eW];rintro(h|⟨h,h'⟩)
 .exact h1 h
 .exact h' (h3 h)
theorem Sl{b:aY}{t:bU}(h:¬t.kind=2)(hf:40<=b.nodes.length\/b.opens=[]\/(rT t=true/\8<=b.opens.length)):addToken b t=(b, -1):=by unfold addToken;rw[eK h];split<;>first|rfl|(rw[eW hf])
theorem VN{b:aY}{t:bU}(h:¬t.kind=2)(hk:t.kind=1\/(t.kind=3/\t.text≠[]))(hf:¬(40<=b.nodes.length\/b.opens=[]\/(rT t=true/\8<=b.opens.length))):
  addToken b t=({nodes:=b.nodes++[vD b t],opens:=if rT t=true then b.opens++[((b.nodes.length:Nat):Int)]else b.opens},((b.nodes.length:Nat):Int)):=by
 unfold addToken;rw[eK h,eK (λhn=>hn hk),eK hf]
theorem Yu{b:aY}{m:aU}{k:Nat}{n:Int}(hg:b.opens[k+1]? =some n)(h:yP b m n=true):oW b m (k+1)=b.opens.take (k+1):=by unfold oW;rw[hg];simp[h]
theorem VO{b:aY}{m:aU}{k:Nat}{n:Int}(hg:b.opens[k+1]? =some n)(h:yP b m n=false):oW b m (k+1)=oW b m k:=by
 conv=>lhs;unfold oW
 rw[hg];simp[h]
theorem VP[aB prog](b:aY)(m:aU)(hs:aS b<=274877906944):ax prog 226 [.rQ (.agg (aW .own b)),.view (.str m)] (.agg (aW .own {b with opens:=oW b m (b.opens.length-1)})):=by
 have hn:b.nodes.length<=274877906944/\b.opens.length<=274877906944:=by simp only[aS,bV]at hs;omega
 have MB:i64.wrap ((b.opens.length:Int)-1)=(b.opens.length:Int)-1:=by rw[wrap64]<;>omega
 have wu:i64.wrap ((b.nodes.length:Int)-1)=(b.nodes.length:Int)-1:=by rw[wrap64]<;>omega
 have cI:=λn lo hi=>eX n lo hi
 refine BM aO func226 ntmps226 ?_;have W:=MB;refine we ?_;refine aI (ι:={q:Int // -1<=q/\q<(b.opens.length:Int)/\oW b m q.toNat=oW b m (b.opens.length-1)}) (λt o i=>⟨bH t [(5,.int .i64 i.1),(6,.undef)],o⟩) (λi=>i.1.toNat) ⟨(b.opens.length:Int)-1,by omega,by omega,by congr 1;omega⟩ aG ?_;rintro⟨q,hq1,hq2,hq3⟩ K1 hK1;simp only[bH,cH,cJ]at hK1⊢;by_cases h1:(0:Int)<q
 .obtain ⟨k,rfl⟩:∃k:Nat,q=((k+1:Nat):Int):=⟨(q-1).toNat,by omega⟩;have hlt:k+1<b.opens.length:=by omega
  have hg:=aE hlt;have Hw:i64.wrap (((k+1:Nat):Int)-1)=((k:Nat):Int):=by rw[wrap64]<;>omega
  rw[show(((k+1:Nat):Int)).toNat=k+1 from by omega]at hq3;generalize hnn:b.opens[k+1]=n at*;cases hh:yP b m n
  .rw [VO hg hh]at hq3;by_cases h01:0<=n/\n<(b.nodes.length:Int)
   .obtain ⟨z,rfl⟩:=iS h01.1;have hm:z<b.nodes.length:=by omega
    rw[xu hm]at hh;have hgm:=aE hm;have hne:(b.nodes[z].name == m)=false:=by simpa using hh
    have c1:=cI ((z:Nat):Int) 0 ((b.nodes.length:Int)-1);rw[show(decide ((0:Int)<=((z:Nat):Int))&&decide (((z:Nat):Int)<=(b.nodes.length:Int)-1))=true from by simp;omega]at c1;have W:=aA hg (aA Hw (aA wu (aA hgm (aA hm (aA hne (aA h1 hn))))));have V:=hlt;refine we ?_;all_goals exact hK1 _ ⟨((k:Nat):Int),by omega,by omega,by simpa using hq3⟩ aG (by first|omega|(simp only;omega)|(simp;omega))
   .have c1:=cI n 0 ((b.nodes.length:Int)-1);rw[show(decide ((0:Int)<=n)&&decide (n<=(b.nodes.length:Int)-1))=false from by simp;omega]at c1;have W:=aA hg (aA Hw (aA wu (aA h1 hn)));have V:=hlt;refine we ?_;all_goals exact hK1 _ ⟨((k:Nat):Int),by omega,by omega,by simpa using hq3⟩ aG (by first|omega|(simp only;omega)|(simp;omega))
  .rw [Yu hg hh]at hq3;have h01:0<=n/\n<(b.nodes.length:Int):=CT λh=>by rw[aDn h]at hh;cases hh
   obtain⟨z,rfl⟩:=iS h01.1;have hm:z<b.nodes.length:=by omega
   rw[xu hm]at hh;have hgm:=aE hm;have hne:(b.nodes[z].name == m)=true:=by simpa using hh
   have c1:=cI ((z:Nat):Int) 0 ((b.nodes.length:Int)-1);rw[show(decide ((0:Int)<=((z:Nat):Int))&&decide (((z:Nat):Int)<=(b.nodes.length:Int)-1))=true from by simp;omega]at c1;rw[<-hq3];have W:=aA hg (aA Hw (aA wu (aA hgm (aA hm (aA hne (aA h1 hn))))));have V:=hlt;refine we ?_;all_goals try(refine⟨by first|exact .inr rfl|exact .inl rfl,?_⟩;simp[lY,gQ,gL,rowOf,results226,map_take])
   all_goals (rw[<-map_take];exact dm _)
 .have hq4:oW b m (b.opens.length-1)=b.opens:=by rw[<-hq3,show q.toNat=0 by omega];rfl
  rw[hq4];have W:=h1;refine we ?_;all_goals (try exact uJ (by simp[lY,gQ,gL,rowOf,results226];done))
end Go.Proofs.YtnkpkklemmgapaaGreatDoor
set_option linter.all false
namespace Go.Proofs.YtnkpkklemmgapaaGreatDoor
open Go.Shelf
def Tryz.Laysx190_ren:Go.Shelf.Ren:=⟨fun|190=>50|125=>82|258=>81|128=>127|129=>128|302=>118|303=>119|304=>120|305=>121|306=>122|307=>123|308=>124|309=>125|310=>126|333=>163|329=>164|330=>165|334=>166|335=>167|336=>168|344=>203|n=>n,fun|31=>26|9=>9|3=>3|46=>125|0=>0|51=>164|53=>166|4=>4|183=>157|182=>156|131=>129|5=>5|218=>196|222=>200|228=>238|229=>239|n=>n,fun|n=>n⟩
theorem Tryz.Laysx190:Go.Proofs.Lays.n190 Tryz.prog Tryz.Laysx190_ren:={
 mixed:=by kernel_rfl
 f125:=Tryz.func82.trans (congrArg some (by kernel_rfl))
 f128:=Tryz.func127.trans (congrArg some (by kernel_rfl))
 f129:=Tryz.func128.trans (congrArg some (by kernel_rfl))
 f190:=Tryz.func50.trans (congrArg some (by kernel_rfl))
 f258:=Tryz.func81.trans (congrArg some (by kernel_rfl))
 f302:=Tryz.func118.trans (congrArg some (by kernel_rfl))
 f303:=Tryz.func119.trans (congrArg some (by kernel_rfl))
 f304:=Tryz.func120.trans (congrArg some (by kernel_rfl))
 f305:=Tryz.func121.trans (congrArg some (by kernel_rfl))
 f306:=Tryz.func122.trans (congrArg some (by kernel_rfl))
 f307:=Tryz.func123.trans (congrArg some (by kernel_rfl))
 f308:=Tryz.func124.trans (congrArg some (by kernel_rfl))
 f309:=Tryz.func125.trans (congrArg some (by kernel_rfl))
 f310:=Tryz.func126.trans (congrArg some (by kernel_rfl))
 f329:=Tryz.func164.trans (congrArg some (by kernel_rfl))
 f330:=Tryz.func165.trans (congrArg some (by kernel_rfl))
 f333:=Tryz.func163.trans (congrArg some (by kernel_rfl))
 f334:=Tryz.func166.trans (congrArg some (by kernel_rfl))
 f335:=Tryz.func167.trans (congrArg some (by kernel_rfl))
 f336:=Tryz.func168.trans (congrArg some (by kernel_rfl))
 f344:=Tryz.func203.trans (congrArg some (by kernel_rfl))
 t0:=Tryz.underlying0
 a0:=Tryz.isAgg0
 z0:=Tryz.sizeOf0
 v0:=Tryz.zeroValue0
 t3:=Tryz.underlying3
 a3:=Tryz.isAgg3
 z3:=Tryz.sizeOf3
 v3:=Tryz.zeroValue3
 t4:=Tryz.underlying4
 a4:=Tryz.isAgg4
 z4:=Tryz.sizeOf4
 v4:=Tryz.zeroValue4
 t5:=Tryz.underlying5
 a5:=Tryz.isAgg5
 z5:=Tryz.sizeOf5
 v5:=Tryz.zeroValue5
 t9:=Tryz.underlying9
 a9:=Tryz.isAgg9
 z9:=Tryz.sizeOf9
 v9:=Tryz.zeroValue9
 t31:=Tryz.underlying26
 a31:=Tryz.isAgg26
 z31:=Tryz.sizeOf26
 v31:=Tryz.zeroValue26
 t46:=Tryz.underlying125
 a46:=Tryz.isAgg125
 z46:=Tryz.sizeOf125
 v46:=Tryz.zeroValue125
 t51:=Tryz.underlying164
 a51:=Tryz.isAgg164
 z51:=Tryz.sizeOf164
 v51:=Tryz.zeroValue164
 t53:=Tryz.underlying166
 a53:=Tryz.isAgg166
 z53:=Tryz.sizeOf166
 v53:=Tryz.zeroValue166
 t131:=Tryz.underlying129
 a131:=Tryz.isAgg129
 z131:=Tryz.sizeOf129
 v131:=Tryz.zeroValue129
 t182:=Tryz.underlying156
 a182:=Tryz.isAgg156
 z182:=Tryz.sizeOf156
 v182:=Tryz.zeroValue156
 t183:=Tryz.underlying157
 a183:=Tryz.isAgg157
 z183:=Tryz.sizeOf157
 v183:=Tryz.zeroValue157
 t218:=Tryz.underlying196
 a218:=Tryz.isAgg196
 z218:=Tryz.sizeOf196
 v218:=Tryz.zeroValue196
 t222:=Tryz.underlying200
 a222:=Tryz.isAgg200
 z222:=Tryz.sizeOf200
 v222:=Tryz.zeroValue200
 t228:=Tryz.underlying238
 a228:=Tryz.isAgg238
 z228:=Tryz.sizeOf238
 v228:=Tryz.zeroValue238
 t229:=Tryz.underlying239
 a229:=Tryz.isAgg239
 z229:=Tryz.sizeOf239
 v229:=Tryz.zeroValue239}
def Tryz.Laysx194_ren:Go.Shelf.Ren:=⟨fun|194=>51|n=>n,fun|31=>26|9=>9|3=>3|4=>4|0=>0|n=>n,fun|n=>n⟩
theorem Tryz.Laysx194:Go.Proofs.Lays.n194 Tryz.prog Tryz.Laysx194_ren:={
 mixed:=by kernel_rfl
 f194:=Tryz.func51.trans (congrArg some (by kernel_rfl))
 t0:=Tryz.underlying0
 a0:=Tryz.isAgg0
 z0:=Tryz.sizeOf0
 v0:=Tryz.zeroValue0
 t3:=Tryz.underlying3
 a3:=Tryz.isAgg3
 z3:=Tryz.sizeOf3
 v3:=Tryz.zeroValue3
 t4:=Tryz.underlying4
 a4:=Tryz.isAgg4
 z4:=Tryz.sizeOf4
 v4:=Tryz.zeroValue4
 t9:=Tryz.underlying9
 a9:=Tryz.isAgg9
 z9:=Tryz.sizeOf9
 v9:=Tryz.zeroValue9
 t31:=Tryz.underlying26
 a31:=Tryz.isAgg26
 z31:=Tryz.sizeOf26
 v31:=Tryz.zeroValue26}
end Go.Proofs.YtnkpkklemmgapaaGreatDoor
