/- Proved here: steps towards the statement of this claim. No condition. -/
import Derived.Test.YtnkpkklemmgapaaGreatDoorZQA0
import Derived.Test.YtnkpkklemmgapaaGreatDoorZYShelf
import Derived.Test.YtnkpkklemmgapaaGreatDoorZF5
set_option linter.all false
set_option maxRecDepth 4000
set_option maxHeartbeats 400000
namespace Go.Proofs.YtnkpkklemmgapaaGreatDoor
open Go.Aw Proofs.Tryz List IntKind
theorem aHo[aB prog][eO prog](n:Int)(h: -9223372036854775808<=n/\n<=9223372036854775807):Ok prog 67 [.int .i64 n] (.str (Lib.itoa n)):=aHc Tryz.laysM171 n h.1 h.2
theorem vz[aB prog][eO prog](l:List aU)(sep:aU)(hl:l.length<=140737488355328)(hs:(Lib.join l sep).length<=140737488355328):
  Ok prog 45 [.sl .view 1 (l.map λs=>[.str s]),.str sep] (.str (Lib.join l sep)):=aHe Tryz.lays156 Tryz.Builder_Extra_156 l sep hl hs
theorem xM[aB prog][eO prog](n:Int)(h: -9223372036854775808<=n/\n<=9223372036854775807):Ok prog 44 [.int .i64 n] (.str (Lib.itoa n)):=by have h1:=aHo n h;refine dL aO func44 ntmps44 ?_;refine oU ?_;exact aR results44
theorem dW[aB prog][eO prog](n:Int)(h: -9223372036854775808<=n/\n<=9223372036854775807):Ok prog 46 [.int .i64 n] (.str (Lib.itoa n)):=by
 by_cases h0:n=0
 .subst h0;refine dL aO func46 ntmps46 ?_;refine oU ?_;all_goals try(refine aZ ?_;simp[aX,results46])
  all_goals exact E9.symm
 .refine dL aO func46 ntmps46 ?_;have W:=h0;refine wl ?_;refine aI (ι:={p:Int×aU // (-9223372036854775808<=p.1/\p.1<=9223372036854775807)/\Ik p.1.natAbs++p.2=Ik n.natAbs}) (λt o i=>⟨bH t [(4,.int .i64 i.1.1),(3,.str i.1.2),(5,.undef)],o⟩)
   (λi=>i.1.1.natAbs) ⟨(n,[]),h,by simp⟩ aG ?_
  rintro⟨⟨x,s⟩,⟨rf,hx2⟩,hi⟩ K1 hK1;simp only[bH,cH,cJ]at hK1 rf hx2 hi⊢;have hsl:=Ax length hi;have hnl:=aCi n h.1 h.2;rw[eM]at hsl;have hs1:1+s.length<=9223372036854775807:=by omega
  have hs2:s.length<=9223372036854775806:=by omega
  clear hsl hnl;by_cases hx:x=0
  .subst hx;have hs:s=Ik n.natAbs:=by simpa [Ik]using hi
   have W:=aA hs1 hs2;repeat' first|refine wg ?_|(refine sq ?_ ?_<;>intro hc<;>try exact hc.elim)|fail
   .all_goals try(refine aZ ?_;simp[aX,results46])
    exact(itoa_neg (by omega) hs).symm
   .all_goals try(refine aZ ?_;simp[aX,results46])
    exact(aCg h0 (by omega) hs).symm
  .obtain ⟨r,q,hr0,hr9,hq,hq1,hq2,hqa,hr,ht⟩:=dz x rf hx2;have hp:=E8 x.natAbs (by omega);have hu8:=aCh (48+r) (by omega) (by omega);have hb:UInt8.ofNat (48+r).toNat=UInt8.ofNat (48+x.natAbs%10):=by congr 1;omega
   have hi2:Ik q.natAbs++UInt8.ofNat (48+r).toNat::s=Ik n.natAbs:=by rw[<-hi,hp,hqa,hb];simp
   have hm:q.natAbs<x.natAbs:=by omega
   clear hr hb hp;rcases ht with ht|⟨ht,hrp⟩
   .have W:=aA hx (aA ht (aA hq (aA hu8 (aA hs1 hs2))));refine wl ?_;refine hK1 _ ⟨(q,UInt8.ofNat (48+r).toNat::s),⟨hq1,hq2⟩,hi2⟩ (aL 0) (by simp only;omega)
   .have W:=aA hx (aA ht (aA hq (aA hu8 (aA hs1 hs2))));refine wl ?_;refine hK1 _ ⟨(q,UInt8.ofNat (48+r).toNat::s),⟨hq1,hq2⟩,hi2⟩ (aL 0) (by simp only;omega)
def bY(v:Int):aU:=if v=1 then [111,107]else if v=2 then [112,111,108,105,99,121]else if v=3 then [115,116,97,116,117,115]else if v=4 then [107,105,110,100]else if v=5 then [115,104,97,114,101]else if v=6 then [100,105,103,101,115,116]else []
theorem IL[aB prog](v:Int):Ok prog 91 [.int .i64 v] (.str (bY v)):=by
 have c1:=eX v 1 6;rcases(show(decide (1<=v)&&decide (v<=6))=false\/v=1\/v=2\/v=3\/v=4\/v=5\/v=6 by simp;omega)with h|rfl|rfl|rfl|rfl|rfl|rfl
 .have e:bY v=[]:=by simp at h;simp only[bY];repeat rw[eK (by omega)]
  rw[h]at c1;rw[e];refine dL aO func91 ntmps91 ?_;have W:=trivial;repeat' first|refine st ?_|(refine nx ?_;refine so ?_)|(refine cx ?_;refine sc (λhc=>?_) (λhc=>?_)<;>try exact hc.elim)|(refine lx ?_;refine sp (λhc=>?_) (λhc=>?_)<;>try exact hc.elim)|refine sx ?_ ?_|refine sy ?_ ?_|fail
  all_goals (try exact aR results91)
 .simp at c1;refine dL aO func91 ntmps91 ?_;have W:=trivial;repeat' first|refine st ?_|(refine nx ?_;refine so ?_)|(refine cx ?_;refine sc (λhc=>?_) (λhc=>?_)<;>try exact hc.elim)|(refine lx ?_;refine sp (λhc=>?_) (λhc=>?_)<;>try exact hc.elim)|refine sx ?_ ?_|refine sy ?_ ?_|fail
  all_goals try(refine aZ ?_;simp[aX,results91,bY])
 .simp at c1;refine dL aO func91 ntmps91 ?_;have W:=trivial;repeat' first|refine st ?_|(refine nx ?_;refine so ?_)|(refine cx ?_;refine sc (λhc=>?_) (λhc=>?_)<;>try exact hc.elim)|(refine lx ?_;refine sp (λhc=>?_) (λhc=>?_)<;>try exact hc.elim)|refine sx ?_ ?_|refine sy ?_ ?_|fail
  all_goals try(refine aZ ?_;simp[aX,results91,bY])
 .simp at c1;refine dL aO func91 ntmps91 ?_;have W:=trivial;repeat' first|refine st ?_|(refine nx ?_;refine so ?_)|(refine cx ?_;refine sc (λhc=>?_) (λhc=>?_)<;>try exact hc.elim)|(refine lx ?_;refine sp (λhc=>?_) (λhc=>?_)<;>try exact hc.elim)|refine sx ?_ ?_|refine sy ?_ ?_|fail
  all_goals try(refine aZ ?_;simp[aX,results91,bY])
 .simp at c1;refine dL aO func91 ntmps91 ?_;have W:=trivial;repeat' first|refine st ?_|(refine nx ?_;refine so ?_)|(refine cx ?_;refine sc (λhc=>?_) (λhc=>?_)<;>try exact hc.elim)|(refine lx ?_;refine sp (λhc=>?_) (λhc=>?_)<;>try exact hc.elim)|refine sx ?_ ?_|refine sy ?_ ?_|fail
  all_goals try(refine aZ ?_;simp[aX,results91,bY])
 .simp at c1;refine dL aO func91 ntmps91 ?_;have W:=trivial;repeat' first|refine st ?_|(refine nx ?_;refine so ?_)|(refine cx ?_;refine sc (λhc=>?_) (λhc=>?_)<;>try exact hc.elim)|(refine lx ?_;refine sp (λhc=>?_) (λhc=>?_)<;>try exact hc.elim)|refine sx ?_ ?_|refine sy ?_ ?_|fail
  all_goals try(refine aZ ?_;simp[aX,results91,bY])
 .simp at c1;refine dL aO func91 ntmps91 ?_;have W:=trivial;repeat' first|refine st ?_|(refine nx ?_;refine so ?_)|(refine cx ?_;refine sc (λhc=>?_) (λhc=>?_)<;>try exact hc.elim)|(refine lx ?_;refine sp (λhc=>?_) (λhc=>?_)<;>try exact hc.elim)|refine sx ?_ ?_|refine sy ?_ ?_|fail
  all_goals try(refine aZ ?_;simp[aX,results91,bY])
theorem IM[aB prog](v:Int):Ok prog 79 [.int .i64 v] (.str (bY v)):=by
 have c1:=Ck v 1 6;rcases(show(decide (1<=v)&&decide (v<=6))=false\/v=1\/v=2\/v=3\/v=4\/v=5\/v=6 by simp;omega)with h|rfl|rfl|rfl|rfl|rfl|rfl
 .have e:bY v=[]:=by simp at h;simp only[bY];repeat rw[eK (by omega)]
  rw[h]at c1;rw[e];refine dL aO func79 ntmps79 ?_;have W:=trivial;repeat' first|refine st ?_|(refine nx ?_;refine so ?_)|(refine cx ?_;refine sc (λhc=>?_) (λhc=>?_)<;>try exact hc.elim)|(refine lx ?_;refine sp (λhc=>?_) (λhc=>?_)<;>try exact hc.elim)|refine sx ?_ ?_|refine sy ?_ ?_|fail
  all_goals (try exact aR results79)
 .simp at c1;refine dL aO func79 ntmps79 ?_;have W:=trivial;repeat' first|refine st ?_|(refine nx ?_;refine so ?_)|(refine cx ?_;refine sc (λhc=>?_) (λhc=>?_)<;>try exact hc.elim)|(refine lx ?_;refine sp (λhc=>?_) (λhc=>?_)<;>try exact hc.elim)|refine sx ?_ ?_|refine sy ?_ ?_|fail
  all_goals try(refine aZ ?_;simp[aX,results79,bY])
 .simp at c1;refine dL aO func79 ntmps79 ?_;have W:=trivial;repeat' first|refine st ?_|(refine nx ?_;refine so ?_)|(refine cx ?_;refine sc (λhc=>?_) (λhc=>?_)<;>try exact hc.elim)|(refine lx ?_;refine sp (λhc=>?_) (λhc=>?_)<;>try exact hc.elim)|refine sx ?_ ?_|refine sy ?_ ?_|fail
  all_goals try(refine aZ ?_;simp[aX,results79,bY])
 .simp at c1;refine dL aO func79 ntmps79 ?_;have W:=trivial;repeat' first|refine st ?_|(refine nx ?_;refine so ?_)|(refine cx ?_;refine sc (λhc=>?_) (λhc=>?_)<;>try exact hc.elim)|(refine lx ?_;refine sp (λhc=>?_) (λhc=>?_)<;>try exact hc.elim)|refine sx ?_ ?_|refine sy ?_ ?_|fail
  all_goals try(refine aZ ?_;simp[aX,results79,bY])
 .simp at c1;refine dL aO func79 ntmps79 ?_;have W:=trivial;repeat' first|refine st ?_|(refine nx ?_;refine so ?_)|(refine cx ?_;refine sc (λhc=>?_) (λhc=>?_)<;>try exact hc.elim)|(refine lx ?_;refine sp (λhc=>?_) (λhc=>?_)<;>try exact hc.elim)|refine sx ?_ ?_|refine sy ?_ ?_|fail
  all_goals try(refine aZ ?_;simp[aX,results79,bY])
 .simp at c1;refine dL aO func79 ntmps79 ?_;have W:=trivial;repeat' first|refine st ?_|(refine nx ?_;refine so ?_)|(refine cx ?_;refine sc (λhc=>?_) (λhc=>?_)<;>try exact hc.elim)|(refine lx ?_;refine sp (λhc=>?_) (λhc=>?_)<;>try exact hc.elim)|refine sx ?_ ?_|refine sy ?_ ?_|fail
  all_goals try(refine aZ ?_;simp[aX,results79,bY])
 .simp at c1;refine dL aO func79 ntmps79 ?_;have W:=trivial;repeat' first|refine st ?_|(refine nx ?_;refine so ?_)|(refine cx ?_;refine sc (λhc=>?_) (λhc=>?_)<;>try exact hc.elim)|(refine lx ?_;refine sp (λhc=>?_) (λhc=>?_)<;>try exact hc.elim)|refine sx ?_ ?_|refine sy ?_ ?_|fail
  all_goals try(refine aZ ?_;simp[aX,results79,bY])
def kindName(v:Int):aU:=if v=1 then [112,97,103,101]else if v=2 then [115,99,114,105,112,116]else if v=3 then [115,116,121,108,101]else if v=4 then [105,109,97,103,101]else if v=5 then [109,111,100,117,108,101]else []
theorem NG[aB prog](v:Int):Ok prog 92 [.int .i64 v] (.str (kindName v)):=by
 have c1:=eX v 1 5;rcases(show(decide (1<=v)&&decide (v<=5))=false\/v=1\/v=2\/v=3\/v=4\/v=5 by simp;omega)with h|rfl|rfl|rfl|rfl|rfl
 .have e:kindName v=[]:=by simp at h;simp only[kindName];repeat rw[eK (by omega)]
  rw[h]at c1;rw[e];refine dL aO func92 ntmps92 ?_;have W:=trivial;repeat' first|refine st ?_|(refine nx ?_;refine so ?_)|(refine cx ?_;refine sc (λhc=>?_) (λhc=>?_)<;>try exact hc.elim)|(refine lx ?_;refine sp (λhc=>?_) (λhc=>?_)<;>try exact hc.elim)|refine sx ?_ ?_|refine sy ?_ ?_|fail
  all_goals (try exact aR results92)
 .simp at c1;refine dL aO func92 ntmps92 ?_;have W:=trivial;repeat' first|refine st ?_|(refine nx ?_;refine so ?_)|(refine cx ?_;refine sc (λhc=>?_) (λhc=>?_)<;>try exact hc.elim)|(refine lx ?_;refine sp (λhc=>?_) (λhc=>?_)<;>try exact hc.elim)|refine sx ?_ ?_|refine sy ?_ ?_|fail
  all_goals try(refine aZ ?_;simp[aX,results92,kindName])
 .simp at c1;refine dL aO func92 ntmps92 ?_;have W:=trivial;repeat' first|refine st ?_|(refine nx ?_;refine so ?_)|(refine cx ?_;refine sc (λhc=>?_) (λhc=>?_)<;>try exact hc.elim)|(refine lx ?_;refine sp (λhc=>?_) (λhc=>?_)<;>try exact hc.elim)|refine sx ?_ ?_|refine sy ?_ ?_|fail
  all_goals try(refine aZ ?_;simp[aX,results92,kindName])
 .simp at c1;refine dL aO func92 ntmps92 ?_;have W:=trivial;repeat' first|refine st ?_|(refine nx ?_;refine so ?_)|(refine cx ?_;refine sc (λhc=>?_) (λhc=>?_)<;>try exact hc.elim)|(refine lx ?_;refine sp (λhc=>?_) (λhc=>?_)<;>try exact hc.elim)|refine sx ?_ ?_|refine sy ?_ ?_|fail
  all_goals try(refine aZ ?_;simp[aX,results92,kindName])
 .simp at c1;refine dL aO func92 ntmps92 ?_;have W:=trivial;repeat' first|refine st ?_|(refine nx ?_;refine so ?_)|(refine cx ?_;refine sc (λhc=>?_) (λhc=>?_)<;>try exact hc.elim)|(refine lx ?_;refine sp (λhc=>?_) (λhc=>?_)<;>try exact hc.elim)|refine sx ?_ ?_|refine sy ?_ ?_|fail
  all_goals try(refine aZ ?_;simp[aX,results92,kindName])
 .simp at c1;refine dL aO func92 ntmps92 ?_;have W:=trivial;repeat' first|refine st ?_|(refine nx ?_;refine so ?_)|(refine cx ?_;refine sc (λhc=>?_) (λhc=>?_)<;>try exact hc.elim)|(refine lx ?_;refine sp (λhc=>?_) (λhc=>?_)<;>try exact hc.elim)|refine sx ?_ ?_|refine sy ?_ ?_|fail
  all_goals try(refine aZ ?_;simp[aX,results92,kindName])
theorem NH[aB prog](v:Int):Ok prog 80 [.int .i64 v] (.str (kindName v)):=by
 have c1:=Ck v 1 5;rcases(show(decide (1<=v)&&decide (v<=5))=false\/v=1\/v=2\/v=3\/v=4\/v=5 by simp;omega)with h|rfl|rfl|rfl|rfl|rfl
 .have e:kindName v=[]:=by simp at h;simp only[kindName];repeat rw[eK (by omega)]
  rw[h]at c1;rw[e];refine dL aO func80 ntmps80 ?_;have W:=trivial;repeat' first|refine st ?_|(refine nx ?_;refine so ?_)|(refine cx ?_;refine sc (λhc=>?_) (λhc=>?_)<;>try exact hc.elim)|(refine lx ?_;refine sp (λhc=>?_) (λhc=>?_)<;>try exact hc.elim)|refine sx ?_ ?_|refine sy ?_ ?_|fail
  all_goals (try exact aR results80)
 .simp at c1;refine dL aO func80 ntmps80 ?_;have W:=trivial;repeat' first|refine st ?_|(refine nx ?_;refine so ?_)|(refine cx ?_;refine sc (λhc=>?_) (λhc=>?_)<;>try exact hc.elim)|(refine lx ?_;refine sp (λhc=>?_) (λhc=>?_)<;>try exact hc.elim)|refine sx ?_ ?_|refine sy ?_ ?_|fail
  all_goals try(refine aZ ?_;simp[aX,results80,kindName])
 .simp at c1;refine dL aO func80 ntmps80 ?_;have W:=trivial;repeat' first|refine st ?_|(refine nx ?_;refine so ?_)|(refine cx ?_;refine sc (λhc=>?_) (λhc=>?_)<;>try exact hc.elim)|(refine lx ?_;refine sp (λhc=>?_) (λhc=>?_)<;>try exact hc.elim)|refine sx ?_ ?_|refine sy ?_ ?_|fail
  all_goals try(refine aZ ?_;simp[aX,results80,kindName])
 .simp at c1;refine dL aO func80 ntmps80 ?_;have W:=trivial;repeat' first|refine st ?_|(refine nx ?_;refine so ?_)|(refine cx ?_;refine sc (λhc=>?_) (λhc=>?_)<;>try exact hc.elim)|(refine lx ?_;refine sp (λhc=>?_) (λhc=>?_)<;>try exact hc.elim)|refine sx ?_ ?_|refine sy ?_ ?_|fail
  all_goals try(refine aZ ?_;simp[aX,results80,kindName])
 .simp at c1;refine dL aO func80 ntmps80 ?_;have W:=trivial;repeat' first|refine st ?_|(refine nx ?_;refine so ?_)|(refine cx ?_;refine sc (λhc=>?_) (λhc=>?_)<;>try exact hc.elim)|(refine lx ?_;refine sp (λhc=>?_) (λhc=>?_)<;>try exact hc.elim)|refine sx ?_ ?_|refine sy ?_ ?_|fail
  all_goals try(refine aZ ?_;simp[aX,results80,kindName])
 .simp at c1;refine dL aO func80 ntmps80 ?_;have W:=trivial;repeat' first|refine st ?_|(refine nx ?_;refine so ?_)|(refine cx ?_;refine sc (λhc=>?_) (λhc=>?_)<;>try exact hc.elim)|(refine lx ?_;refine sp (λhc=>?_) (λhc=>?_)<;>try exact hc.elim)|refine sx ?_ ?_|refine sy ?_ ?_|fail
  all_goals try(refine aZ ?_;simp[aX,results80,kindName])
def mY(k:Int)(a:aK)(d:Bool)(c:Int):aU:=kindName k++[32]++(if dG a=[]then [45]else dG a)++[32]++(if d=true then bY c else [111,112,101,110])
theorem Br[aB prog](a:aK)(hl:aP a<=1099511627776):Ok prog 90 [.agg (bC a)] (.str (dG a)):=by
 have c1:=uV a (by omega);simp only[aP]at hl;have f1:a.host.length<=9223372036854775806:=by omega
 have f2:a.host.length+1<=9223372036854775807:=by omega
 have f3:a.host.length+1+a.path.length<=9223372036854775807:=by omega
 have f4:a.host.length+(a.path.length+1)<=9223372036854775807:=by omega
 refine dL aO func90 ntmps90 ?_;have W:=aA f1 (aA f2 (aA f3 f4));repeat' first|refine wg ?_|(refine sq ?_ ?_<;>intro hc<;>try exact hc.elim)|fail
 all_goals try(refine aZ ?_;simp[aX,results90,dG])
 all_goals simp_all[dG]
theorem tN(a:aK):(dG a).length<=17:=by
 unfold dG;split
 .rename_i h;simp[vG,dJ]at h;simp;omega
 .simp
theorem yZ(v:Int):(bY v).length<=8:=by
 unfold bY;repeat' split
 all_goals simp
theorem Dk(v:Int):(kindName v).length<=8:=by
 unfold kindName;repeat' split
 all_goals simp
theorem DW(k:Int)(a:aK)(d:Bool)(c:Int):(mY k a d c).length<=40:=by have h1:=tN a;have h2:=yZ c;have h3:=Dk k;unfold mY;split<;>split<;>simp<;>omega
theorem Kk[aB prog](a:aK)(hl:aP a<=1099511627776):Ok prog 78 [.agg (bC a)] (.str (dG a)):=by
 have c1:=Sc a (by omega);simp only[aP]at hl;have f1:a.host.length<=9223372036854775806:=by omega
 have f2:a.host.length+1<=9223372036854775807:=by omega
 have f3:a.host.length+1+a.path.length<=9223372036854775807:=by omega
 have f4:a.host.length+(a.path.length+1)<=9223372036854775807:=by omega
 refine dL aO func78 ntmps78 ?_;have W:=aA f1 (aA f2 (aA f3 f4));repeat' first|refine wg ?_|(refine sq ?_ ?_<;>intro hc<;>try exact hc.elim)|fail
 all_goals try(refine aZ ?_;simp[aX,results78,dG])
 all_goals simp_all[dG]
theorem EX[aB prog](k:Int)(a:aK)(d:Bool)(c:Int)(hl:aP a<=33554432):Ok prog 60 [.int .i64 k,.agg (bC a),.bool d,.int .i64 c] (.str (mY k a d c)):=by
 have c1:=Br a (by omega);have c2:=IL c;have c3:=NG k;have h1:=tN a;have h2:=yZ c;have h3:=Dk k;have g1:(kindName k).length<=9223372036854775806:=by omega
 have g2:(kindName k).length<=9223372036854775805:=by omega
 have g3:(kindName k).length<=9223372036854775804:=by omega
 have g4:(kindName k).length<=9223372036854775800:=by omega
 have g5:(kindName k).length+1+(dG a).length<=9223372036854775807:=by omega
 have g6:(kindName k).length+1+(dG a).length<=9223372036854775806:=by omega
 have g7:(kindName k).length+1+(dG a).length+1+(bY c).length<=9223372036854775807:=by omega
 have g8:(kindName k).length+1+(dG a).length<=9223372036854775802:=by omega
 have g9:(kindName k).length+3+(bY c).length<=9223372036854775807:=by omega
 have g10:(kindName k).length+1+1+1+(bY c).length<=9223372036854775807:=by omega
 have g11:(kindName k).length+((dG a).length+1)<=9223372036854775806:=by omega
 have g12:(kindName k).length+((dG a).length+1+1)+(bY c).length<=9223372036854775807:=by omega
 have g13:(kindName k).length+((dG a).length+2)+(bY c).length<=9223372036854775807:=by omega
 have g14:(kindName k).length+((dG a).length+1+1)<=9223372036854775803:=by omega
 have g15:(kindName k).length+((dG a).length+2)<=9223372036854775803:=by omega
 refine dL aO func60 ntmps60 ?_;have W:=aA g1 (aA g2 (aA g3 (aA g4 (aA g5 (aA g6 (aA g7 (aA g8 (aA g9 (aA g10 (aA g11 (aA g12 (aA g13 (aA g14 g15)))))))))))));repeat' first|refine st ?_|(refine nx ?_;refine so ?_)|(refine cx ?_;refine sc (λhc=>?_) (λhc=>?_)<;>try exact hc.elim)|(refine lx ?_;refine sp (λhc=>?_) (λhc=>?_)<;>try exact hc.elim)|refine sx ?_ ?_|refine sy ?_ ?_|fail
 all_goals try(refine aZ ?_;simp[aX,results60,mY])
 all_goals simp_all[mY]
theorem EY[aB prog](k:Int)(a:aK)(d:Bool)(c:Int)(hl:aP a<=33554432):Ok prog 48 [.int .i64 k,.agg (bC a),.bool d,.int .i64 c] (.str (mY k a d c)):=by
 have c1:=Kk a (by omega);have c2:=IM c;have c3:=NH k;have h1:=tN a;have h2:=yZ c;have h3:=Dk k;have g1:(kindName k).length<=9223372036854775806:=by omega
 have g2:(kindName k).length<=9223372036854775805:=by omega
 have g3:(kindName k).length<=9223372036854775804:=by omega
 have g4:(kindName k).length<=9223372036854775800:=by omega
 have g5:(kindName k).length+1+(dG a).length<=9223372036854775807:=by omega
 have g6:(kindName k).length+1+(dG a).length<=9223372036854775806:=by omega
 have g7:(kindName k).length+1+(dG a).length+1+(bY c).length<=9223372036854775807:=by omega
 have g8:(kindName k).length+1+(dG a).length<=9223372036854775802:=by omega
 have g9:(kindName k).length+3+(bY c).length<=9223372036854775807:=by omega
 have g10:(kindName k).length+1+1+1+(bY c).length<=9223372036854775807:=by omega
 have g11:(kindName k).length+((dG a).length+1)<=9223372036854775806:=by omega
 have g12:(kindName k).length+((dG a).length+1+1)+(bY c).length<=9223372036854775807:=by omega
 have g13:(kindName k).length+((dG a).length+2)+(bY c).length<=9223372036854775807:=by omega
 have g14:(kindName k).length+((dG a).length+1+1)<=9223372036854775803:=by omega
 have g15:(kindName k).length+((dG a).length+2)<=9223372036854775803:=by omega
 refine dL aO func48 ntmps48 ?_;have W:=aA g1 (aA g2 (aA g3 (aA g4 (aA g5 (aA g6 (aA g7 (aA g8 (aA g9 (aA g10 (aA g11 (aA g12 (aA g13 (aA g14 g15)))))))))))));repeat' first|refine st ?_|(refine nx ?_;refine so ?_)|(refine cx ?_;refine sc (λhc=>?_) (λhc=>?_)<;>try exact hc.elim)|(refine lx ?_;refine sp (λhc=>?_) (λhc=>?_)<;>try exact hc.elim)|refine sx ?_ ?_|refine sy ?_ ?_|fail
 all_goals try(refine aZ ?_;simp[aX,results48,mY])
 all_goals simp_all[mY]
def iO{α β:Type}(f:α->β)(l:List α):List β:=l.map f
@[simp] theorem aCf{α β:Type}(f:α->β):iO f []=[]:=rfl
theorem nC{α β:Type}(f:α->β)(l:List α)(k:Nat)(h:k<l.length):iO f (l.take (k+1))=iO f (l.take k)++[f l[k]]:=by simp only[iO];rw[eL h,oX];rfl
theorem fG{α β:Type}(f:α->β)(l:List α):(iO f l).length=l.length:=oT _
def vS(s:nK):aU:=mY (fK s.mode) s.to s.done s.code
def vM(m:fO):aU:=mY 5 m.to m.done m.code
def nR(p:aC):List aU:=iO vS p.aF++iO vM p.aN
theorem KH[aB prog](p:aC)(hl:p.aF.length<=33554432/\bB iU p.aF<=33554432)(hm:p.aN.length<=33554432/\bB bI p.aN<=33554432):Ok prog 32 [.agg (aQ .view p)] (.sl .own 1 ((nR p).map dQ)):=by
 obtain⟨hl,Mq⟩:=hl;obtain⟨hm,hms⟩:=hm;refine dL aO func32 ntmps32 ?_;have W:=trivial;repeat' first|refine st ?_|(refine nx ?_;refine so ?_)|(refine cx ?_;refine sc (λhc=>?_) (λhc=>?_)<;>try exact hc.elim)|(refine lx ?_;refine sp (λhc=>?_) (λhc=>?_)<;>try exact hc.elim)|refine sx ?_ ?_|refine sy ?_ ?_|fail
 refine aI (ι:={q:Nat×Nat // q.1<=p.aF.length/\1<=q.2}) (λt o i=>⟨bH t [(3,.obj 1 i.1.2),(4,.int .i64 i.1.1)],o.take 1++[⟨true,false,1,i.1.2,(iO vS (p.aF.take i.1.1)).map dQ⟩]⟩)
  (λi=>p.aF.length-i.1.1) ⟨(0,1),by simp,by first|(simp;done)|(simp only;omega)⟩ aG ?_
 rintro⟨⟨k,v⟩,hk,hv⟩ K1 hK1;simp only at hk hv;simp only[bH,cH,cJ,fL,lE,cW,cY]at hK1⊢;have hk1:=rE (k:=k);by_cases hlt:k<p.aF.length
 .have hg:=aE hlt;have hps:=nC vS p.aF k hlt;have hpl:=fG vS (p.aF.take k);have htl:(p.aF.take k).length=k:=by simp;omega
  generalize iO vS (p.aF.take k)=g at*;have hb1:(g.length+1)*16<=140737488355328:=by omega
  have hb2:g.length+1<=9223372036854775807:=by omega
  have VL:g.length<=9223372036854775806:=by omega
  have hz:=dD iU p.aF k hlt;have c1:=wN p.aF[k].mode;have c2:=EX (fK p.aF[k].mode) p.aF[k].to p.aF[k].done p.aF[k].code (by simp only[iU]at hz;omega);simp only[bC]at c2;have W:=aA hk1 (aA hg (aA hlt (aA hb1 (aA hb2 VL))));repeat' first|refine st ?_|(refine nx ?_;refine so ?_)|(refine cx ?_;refine sc (λhc=>?_) (λhc=>?_)<;>try exact hc.elim)|(refine lx ?_;refine sp (λhc=>?_) (λhc=>?_)<;>try exact hc.elim)|refine sx ?_ ?_|refine sy ?_ ?_|fail
  refine hK1 _ ⟨(k+1,v+1),by simp only;omega,by simp only;omega⟩ (aL 2 (by simp[hps,vS])) (by simp only;omega)
 .have htk:p.aF.take k=p.aF:=eJ (by omega);rw[htk];have hL1:=fG vS p.aF;generalize hG:iO vS p.aF=G at*;have W:=hk1;repeat' first|refine st ?_|(refine nx ?_;refine so ?_)|(refine cx ?_;refine sc (λhc=>?_) (λhc=>?_)<;>try exact hc.elim)|(refine lx ?_;refine sp (λhc=>?_) (λhc=>?_)<;>try exact hc.elim)|refine sx ?_ ?_|refine sy ?_ ?_|fail
  refine aI (ι:={q:Nat×Nat // q.1<=p.aN.length/\1<=q.2}) (λt o i=>⟨bH t [(3,.obj 1 i.1.2),(6,.int .i64 i.1.1)],o.take 1++[⟨true,false,1,i.1.2,(G++iO vM (p.aN.take i.1.1)).map dQ⟩]⟩)
   (λi=>p.aN.length-i.1.1) ⟨(0,v),by simp,by first|(simp;done)|(simp only;omega)⟩ aG ?_
  rintro⟨⟨k,v⟩,hk,hv⟩ K1 hK1;simp only at hk hv;simp only[bH,cH,cJ,fL,lE,cW,cY]at hK1⊢;have hk1:=rE (k:=k);by_cases hlt:k<p.aN.length
  .have hg:=aE hlt;have hps:=nC vM p.aN k hlt;have hpl:=fG vM (p.aN.take k);have htl:(p.aN.take k).length=k:=by simp;omega
   generalize iO vM (p.aN.take k)=g at*;have hb1:(G.length+g.length+1)*16<=140737488355328:=by omega
   have hb2:G.length+g.length+1<=9223372036854775807:=by omega
   have VL:G.length+g.length<=9223372036854775806:=by omega
   have hz:=dD bI p.aN k hlt;have c2:=EX 5 p.aN[k].to p.aN[k].done p.aN[k].code (by simp only[bI]at hz;omega);simp only[bC]at c2;have W:=aA hk1 (aA hg (aA hlt (aA hb1 (aA hb2 VL))));repeat' first|refine st ?_|(refine nx ?_;refine so ?_)|(refine cx ?_;refine sc (λhc=>?_) (λhc=>?_)<;>try exact hc.elim)|(refine lx ?_;refine sp (λhc=>?_) (λhc=>?_)<;>try exact hc.elim)|refine sx ?_ ?_|refine sy ?_ ?_|fail
   refine hK1 _ ⟨(k+1,v+1),by simp only;omega,by simp only;omega⟩ (aL 2 (by simp[hps,vM])) (by simp only;omega)
  .have htk:p.aN.take k=p.aN:=eJ (by omega);rw[htk];have W:=hk1;repeat' first|refine st ?_|(refine nx ?_;refine so ?_)|(refine cx ?_;refine sc (λhc=>?_) (λhc=>?_)<;>try exact hc.elim)|(refine lx ?_;refine sp (λhc=>?_) (λhc=>?_)<;>try exact hc.elim)|refine sx ?_ ?_|refine sy ?_ ?_|fail
   all_goals try(refine aZ ?_;simp[aX,results32,nR])
   all_goals first|(rw[<-oX];exact CY _)|(simp[hG];rw[<-oX];exact CY _)|fail
theorem KI[aB prog](p:aC)(hl:p.aF.length<=33554432/\bB iU p.aF<=33554432)(hm:p.aN.length<=33554432/\bB bI p.aN<=33554432):Ok prog 19 [.agg (aQ .view p)] (.sl .own 1 ((nR p).map dQ)):=by
 obtain⟨hl,Mq⟩:=hl;obtain⟨hm,hms⟩:=hm;refine dL aO func19 ntmps19 ?_;have W:=trivial;repeat' first|refine st ?_|(refine nx ?_;refine so ?_)|(refine cx ?_;refine sc (λhc=>?_) (λhc=>?_)<;>try exact hc.elim)|(refine lx ?_;refine sp (λhc=>?_) (λhc=>?_)<;>try exact hc.elim)|refine sx ?_ ?_|refine sy ?_ ?_|fail
 refine aI (ι:={q:Nat×Nat // q.1<=p.aF.length/\1<=q.2}) (λt o i=>⟨bH t [(3,.obj 1 i.1.2),(12,.int .i64 i.1.1)],o.take 1++[⟨true,false,1,i.1.2,(iO vS (p.aF.take i.1.1)).map dQ⟩]⟩)
  (λi=>p.aF.length-i.1.1) ⟨(0,1),by simp,by first|(simp;done)|(simp only;omega)⟩ aG ?_
 rintro⟨⟨k,v⟩,hk,hv⟩ K1 hK1;simp only at hk hv;simp only[bH,cH,cJ,fL,lE,cW,cY]at hK1⊢;have hk1:=rE (k:=k);by_cases hlt:k<p.aF.length
 .have hg:=aE hlt;have hps:=nC vS p.aF k hlt;have hpl:=fG vS (p.aF.take k);have htl:(p.aF.take k).length=k:=by simp;omega
  generalize iO vS (p.aF.take k)=g at*;have hb1:(g.length+1)*16<=140737488355328:=by omega
  have hb2:g.length+1<=9223372036854775807:=by omega
  have VL:g.length<=9223372036854775806:=by omega
  have hz:=dD iU p.aF k hlt;have c1:=Kg p.aF[k].mode;have c2:=EY (fK p.aF[k].mode) p.aF[k].to p.aF[k].done p.aF[k].code (by simp only[iU]at hz;omega);simp only[bC]at c2;have W:=aA hk1 (aA hg (aA hlt (aA hb1 (aA hb2 VL))));repeat' first|refine st ?_|(refine nx ?_;refine so ?_)|(refine cx ?_;refine sc (λhc=>?_) (λhc=>?_)<;>try exact hc.elim)|(refine lx ?_;refine sp (λhc=>?_) (λhc=>?_)<;>try exact hc.elim)|refine sx ?_ ?_|refine sy ?_ ?_|fail
  refine hK1 _ ⟨(k+1,v+1),by simp only;omega,by simp only;omega⟩ (aL 2 (by simp[hps,vS])) (by simp only;omega)
 .have htk:p.aF.take k=p.aF:=eJ (by omega);rw[htk];have hL1:=fG vS p.aF;generalize hG:iO vS p.aF=G at*;have W:=hk1;repeat' first|refine st ?_|(refine nx ?_;refine so ?_)|(refine cx ?_;refine sc (λhc=>?_) (λhc=>?_)<;>try exact hc.elim)|(refine lx ?_;refine sp (λhc=>?_) (λhc=>?_)<;>try exact hc.elim)|refine sx ?_ ?_|refine sy ?_ ?_|fail
  refine aI (ι:={q:Nat×Nat // q.1<=p.aN.length/\1<=q.2}) (λt o i=>⟨bH t [(3,.obj 1 i.1.2),(33,.int .i64 i.1.1)],o.take 1++[⟨true,false,1,i.1.2,(G++iO vM (p.aN.take i.1.1)).map dQ⟩]⟩)
   (λi=>p.aN.length-i.1.1) ⟨(0,v),by simp,by first|(simp;done)|(simp only;omega)⟩ aG ?_
  rintro⟨⟨k,v⟩,hk,hv⟩ K1 hK1;simp only at hk hv;simp only[bH,cH,cJ,fL,lE,cW,cY]at hK1⊢;have hk1:=rE (k:=k);by_cases hlt:k<p.aN.length
  .have hg:=aE hlt;have hps:=nC vM p.aN k hlt;have hpl:=fG vM (p.aN.take k);have htl:(p.aN.take k).length=k:=by simp;omega
   generalize iO vM (p.aN.take k)=g at*;have hb1:(G.length+g.length+1)*16<=140737488355328:=by omega
   have hb2:G.length+g.length+1<=9223372036854775807:=by omega
   have VL:G.length+g.length<=9223372036854775806:=by omega
   have hz:=dD bI p.aN k hlt;have c2:=EY 5 p.aN[k].to p.aN[k].done p.aN[k].code (by simp only[bI]at hz;omega);simp only[bC]at c2;have W:=aA hk1 (aA hg (aA hlt (aA hb1 (aA hb2 VL))));repeat' first|refine st ?_|(refine nx ?_;refine so ?_)|(refine cx ?_;refine sc (λhc=>?_) (λhc=>?_)<;>try exact hc.elim)|(refine lx ?_;refine sp (λhc=>?_) (λhc=>?_)<;>try exact hc.elim)|refine sx ?_ ?_|refine sy ?_ ?_|fail
   refine hK1 _ ⟨(k+1,v+1),by simp only;omega,by simp only;omega⟩ (aL 2 (by simp[hps,vM])) (by simp only;omega)
  .have htk:p.aN.take k=p.aN:=eJ (by omega);rw[htk];have W:=hk1;repeat' first|refine st ?_|(refine nx ?_;refine so ?_)|(refine cx ?_;refine sc (λhc=>?_) (λhc=>?_)<;>try exact hc.elim)|(refine lx ?_;refine sp (λhc=>?_) (λhc=>?_)<;>try exact hc.elim)|refine sx ?_ ?_|refine sy ?_ ?_|fail
   all_goals try(refine aZ ?_;simp[aX,results19,nR])
   all_goals first|(rw[<-oX];exact CY _)|(simp[hG];rw[<-oX];exact CY _)|fail
def xU(p:aC):List gG:=iO (qG p) (places Aq 0 p.aF)++iO (Au p) (places Ar 0 p.aN)
theorem LX[aB prog](p:aC)(hl:p.aF.length<=1048576)(hm:p.aN.length<=1048576):Ok prog 74 [.agg (aQ .view p)] (.sl .own 5 ((xU p).map gW)):=by
 have k1:=Cs p (by omega);have k2:=DV p (by omega);have m1:=II Aq p.aF 0;have m2:=II Ar p.aN 0;have n1:=pW Aq p.aF 0;have n2:=pW Ar p.aN 0;unfold xU;generalize places Aq 0 p.aF=ps at*;generalize places Ar 0 p.aN=pm at*;refine dL aO func74 ntmps74 ?_;refine oU ?_;refine aI (ι:={q:Nat×Nat // q.1<=ps.length/\1<=q.2}) (λt o i=>⟨bH t [(3,.obj 1 i.1.2),(5,.int .i64 i.1.1)],o.take 1++[⟨true,false,5,i.1.2,(iO (qG p) (ps.take i.1.1)).map gW⟩]++[⟨true,false,1,1,ps.map lI⟩]⟩)
  (λi=>ps.length-i.1.1) ⟨(0,1),by simp,by first|(simp;done)|(simp only;omega)⟩ aG ?_
 rintro⟨⟨k,v⟩,hk,hv⟩ K1 hK1;simp only at hk hv;simp only[bH,cH,cJ,fL,lE,cW,cY]at hK1⊢;have hk1:=rE (k:=k);by_cases hlt:k<ps.length
 .have hg:=aE hlt;have hps:=nC (qG p) ps k hlt;have hpl:=fG (qG p) (ps.take k);have htl:(ps.take k).length=k:=by simp;omega
  generalize iO (qG p) (ps.take k)=g at*;have hb1:(g.length+1)*72<=140737488355328:=by omega
  have hb2:g.length+1<=9223372036854775807:=by omega
  have VL:g.length<=9223372036854775806:=by omega
  have hz:=m1 _ (hI hlt);have c1:=vJ p ps[k] (by omega) (by omega) (by omega);simp only[aQ,gW]at c1;have W:=aA hk1 (aA hg (aA hlt (aA hb1 (aA hb2 VL))));refine wl ?_;refine hK1 _ ⟨(k+1,v+1),by simp only;omega,by simp only;omega⟩ (aL 3 (by simp[hps])) (by simp only;omega)
 .have htk:ps.take k=ps:=eJ (by omega);rw[htk];have hL1:=fG (qG p) ps;generalize hG:iO (qG p) ps=G at*;have W:=hk1;refine wl ?_;refine aI (ι:={q:Nat×Nat // q.1<=pm.length/\1<=q.2}) (λt o i=>⟨bH t [(3,.obj 1 i.1.2),(7,.int .i64 i.1.1)],o.take 1++[⟨true,false,5,i.1.2,(G++iO (Au p) (pm.take i.1.1)).map gW⟩]++[⟨true,false,1,1,ps.map lI⟩,⟨true,false,1,1,pm.map lI⟩]⟩)
   (λi=>pm.length-i.1.1) ⟨(0,v),by simp,by first|(simp;done)|(simp only;omega)⟩ aG ?_
  rintro⟨⟨k,v⟩,hk,hv⟩ K1 hK1;simp only at hk hv;simp only[bH,cH,cJ,fL,lE,cW,cY]at hK1⊢;have hk1:=rE (k:=k);by_cases hlt:k<pm.length
  .have hg:=aE hlt;have hps:=nC (Au p) pm k hlt;have hpl:=fG (Au p) (pm.take k);have htl:(pm.take k).length=k:=by simp;omega
   generalize iO (Au p) (pm.take k)=g at*;have hb1:(G.length+g.length+1)*72<=140737488355328:=by omega
   have hb2:G.length+g.length+1<=9223372036854775807:=by omega
   have VL:G.length+g.length<=9223372036854775806:=by omega
   have hz:=m2 _ (hI hlt);have c1:=Bq p pm[k] (by omega) (by omega) (by omega);simp only[aQ,gW]at c1;have W:=aA hk1 (aA hg (aA hlt (aA hb1 (aA hb2 VL))));refine wl ?_;refine hK1 _ ⟨(k+1,v+1),by simp only;omega,by simp only;omega⟩ (aL 4 (by simp[hps])) (by simp only;omega)
  .have htk:pm.take k=pm:=eJ (by omega);rw[htk];have W:=hk1;refine wl ?_;all_goals try(refine aZ ?_;simp[aX,results74])
   all_goals first|(rw[<-oX];exact Et _)|(simp[hG];rw[<-oX];exact Et _)|fail
end Go.Proofs.YtnkpkklemmgapaaGreatDoor
