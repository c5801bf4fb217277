/- Proved here: steps towards the statement of this claim. No condition. -/
import Derived.Test.YtlnblmmohpcceaaGreatDoorZQMK1
import Derived.Test.YtlnblmmohpcceaaGreatDoorZAwIns
set_option linter.all false
set_option maxRecDepth 100000
set_option maxHeartbeats 4000000
namespace Go.Proofs.YtlnblmmohpcceaaGreatDoor
open Go.Aw Go.RowKit Go.Lib Proofs.Tryz List IntKind
theorem aG0 (w:World) (vb vc:Nat) (hc:bD w vb 0 mkPairs):
  Calls prog 309 #[.slice (some ⟨vb,0,none⟩) 4 vc] w fun e w'=>∃rb sb sc r0,e= .returned (.pointer (some ⟨rb,0,none⟩))/\w.heap.size<=rb/\rb < w'.heap.size/\w'.cell? ⟨rb,0,none⟩=some (.int .u32 0)/\w'.cell? ⟨rb,1,none⟩=some (.int .i32 0)/\w'.cell? ⟨rb,3,none⟩=some r0/\(∀j,w'.frozen? ⟨rb,j,none⟩=false)/\
   w'.cell? ⟨rb,4,none⟩=some (.slice (some ⟨sb,0,none⟩) 4 sc)/\bD w' sb 0 mkPairs/\sb≠rb/\Ext w w':=by
 obtain ⟨inf,Fv,hq⟩:=Option.map_eq_some_iff.1 (show (prog.info? 9).map (fun i=>(i.size,i.bytes))=some (1,16) by kernel_rfl)
 obtain ⟨hsz,hby⟩:=Prod.mk.inj hq
 obtain ⟨z,hz0⟩:∃z,inf.zero=some z:=by
  have h:=Tryz.zsz9
  simp only [bL,Fv] at h
  cases hz:inf.zero with
  |none=>simp [hz] at h
  |some z=>exact ⟨z,rfl⟩
 obtain ⟨G,hG⟩:∃G,G=grownCap w 4 0 9:=⟨_,rfl⟩
 obtain ⟨ROW,hROW⟩:∃ROW:Array Value,ROW=mkPairs.toArray++Builtin.zeroCells z.cells (G - 4):=⟨_,rfl⟩
 have hap:∀ty,(Builtin.append_ #[29,29] ty #[.slice none 0 0,.slice (some ⟨vb,0,none⟩) 4 vc]).run prog w= .ok (.slice (some ⟨w.heap.size,0,none⟩) 4 G) (w.drew.alloc (.cells ROW 9)):=fun ty=>by
  have h:=(Go.Aw.EW (P:=prog) (w:=w) (tS:=29) (xT:=29) (ty:=ty) Tryz.underlying29 ⟨_,Tryz.underlying29,fun k h=>by cases h⟩ Fv hz0 (base:=none) (sLen:=0) (sCap:=0) (n:=4) (x:= .slice (some ⟨vb,0,none⟩) 4 vc) (by simp [Builtin.lenOf]) (news:=mkPairs) (olds:=[]) (fun w' hw=>by rw [hsz];exact iZ rfl (show bD w' vb 0 mkPairs from fun j v hv=>by simpa [World.cell?,hw] using hc j v hv)) (fun w' hw=>by rw [hsz];rfl) (by rw [hby];decide) (by decide)).2 (by decide)
  rw [hROW,hG]
  simpa using h
 have hself:=eD w.drew (.cells ROW 9)
 have hold:=heap_alloc w.drew (.cells ROW 9)
 have hx1:Ext w (w.drew.alloc (.cells ROW 9)):=⟨by simp,hold,⟨rfl,rfl,rfl⟩⟩
 have hs1:(w.drew.alloc (.cells ROW 9)).heap.size=w.heap.size+1:=by simp
 generalize w.drew.alloc (.cells ROW 9)=W1 at *
 have hc1:bD W1 w.heap.size 0 mkPairs:=fun j v hv=>by
  have BP:W1.heap[w.heap.size]? =some (.cells ROW 9 (0,0)):=hself
  have hj:=(List.getElem?_eq_some_iff.1 hv).1
  have:ROW[j]? =some v:=by rw [hROW,Array.getElem?_append_left (by simpa using hj)];simpa using hv
  simp [World.cell?,BP,this]
 clear hself hold hROW
 subst hG
 go_enter func309,ntmps309
 go_wp2_with (at_builtin;refine Lib.wpList_append_run _ rfl _ _ _ _ rfl _ _ rfl rfl _ _ (hap _) ?_)
 go_ret
 have hself:=eD W1 (.cells #[Value.int IntKind.u32 0,Value.int IntKind.i32 0,Value.int IntKind.u32 0,Value.nilIface,Value.slice (some ⟨w.heap.size,0,none⟩) 4 (grownCap w 4 0 9)] 322)
 have hold:=heap_alloc W1 (.cells #[Value.int IntKind.u32 0,Value.int IntKind.i32 0,Value.int IntKind.u32 0,Value.nilIface,Value.slice (some ⟨w.heap.size,0,none⟩) 4 (grownCap w 4 0 9)] 322)
 have hsz2:(W1.alloc (.cells #[Value.int IntKind.u32 0,Value.int IntKind.i32 0,Value.int IntKind.u32 0,Value.nilIface,Value.slice (some ⟨w.heap.size,0,none⟩) 4 (grownCap w 4 0 9)] 322)).heap.size=W1.heap.size+1:=by simp
 have hsm:lU W1 (W1.alloc (.cells #[Value.int IntKind.u32 0,Value.int IntKind.i32 0,Value.int IntKind.u32 0,Value.nilIface,Value.slice (some ⟨w.heap.size,0,none⟩) 4 (grownCap w 4 0 9)] 322)):=⟨rfl,rfl,rfl⟩
 generalize W1.alloc (.cells #[Value.int IntKind.u32 0,Value.int IntKind.i32 0,Value.int IntKind.u32 0,Value.nilIface,Value.slice (some ⟨w.heap.size,0,none⟩) 4 (grownCap w 4 0 9)] 322)=W2 at *
 have BP:W2.heap[w.heap.size+1]? =some (.cells #[Value.int IntKind.u32 0,Value.int IntKind.i32 0,Value.int IntKind.u32 0,Value.nilIface,Value.slice (some ⟨w.heap.size,0,none⟩) 4 (grownCap w 4 0 9)] 322 (0,0)):=by rw [<-hs1];exact hself
 refine ⟨w.heap.size+1,w.heap.size,grownCap w 4 0 9,.nilIface,rfl,by omega,by omega,by simp [World.cell?,BP],by simp [World.cell?,BP],by simp [World.cell?,BP],fun j=>by simp [World.frozen?,BP],by simp [World.cell?,BP],fun j v hv=> ?_,by omega,hx1.trans ⟨by omega,fun b hb=>hold b hb,hsm⟩⟩
 have h2:=hold w.heap.size (by omega)
 have:=hc1 j v hv
 simpa [World.cell?,h2] using this
theorem ig (w:World) (s:ByteArray) (hs:s.size<=1099511627776):
  Calls prog 289 #[.string s] w fun e w'=>e= .returned (.string ⟨(s.data.toList.map oZ).toArray⟩)/\Ext w w':=by
 have hbs:∀w:World,(Instr.buildSlice 29 4 #[(0,.string ⟨#[91]⟩),(1,.string ⟨#[60]⟩),(2,.string ⟨#[93]⟩),(3,.string ⟨#[62]⟩)]).run prog w= .ok (.slice (some ⟨w.heap.size,0,none⟩) 4 4) (w.alloc (.cells mkPairs.toArray 9)):=fun w=>by
  letI:aD prog:={holds:=fun _=>True,low:=0,LP:=fun _ _=>Nat.zero_le _,RQ:=fun _ _ _ _=>trivial}
  have h:=Go.Aw.qR (P:=prog) (t:=29) (e:=9) (n:=1) (by':=16) (len:=4) (vs:=mkPairs) (w:=w) (by kernel_rfl) (by kernel_rfl) rfl (by decide) (by intro v hv;simp only [mkPairs,mem_cons,not_mem_nil,or_false] at hv;rcases hv with rfl|rfl|rfl|rfl<;>rfl)
  exact h
 go_enter func289,ntmps289
 go_wp2_with (simp only [hbs])
 have hself:=eD w (.cells #[Value.string ⟨#[91]⟩,Value.string ⟨#[60]⟩,Value.string ⟨#[93]⟩,Value.string ⟨#[62]⟩] 9)
 have hx:Ext w (w.alloc (.cells #[Value.string ⟨#[91]⟩,Value.string ⟨#[60]⟩,Value.string ⟨#[93]⟩,Value.string ⟨#[62]⟩] 9)):=⟨by simp,fun b hb=>heap_alloc w _ b hb,⟨rfl,rfl,rfl⟩⟩
 generalize w.alloc (.cells #[Value.string ⟨#[91]⟩,Value.string ⟨#[60]⟩,Value.string ⟨#[93]⟩,Value.string ⟨#[62]⟩] 9)=W1 at *
 have hc:bD W1 w.heap.size 0 mkPairs:=fun j v hv=>by
  have BP:W1.heap[w.heap.size]? =some (.cells mkPairs.toArray 9 (0,0)):=hself
  simp [World.cell?,BP,hv]
 clear hself hbs
 refine (aG0 W1 w.heap.size 4 hc).mono ?_
 rintro e W2 ⟨rb,sb,sc,r0,rfl,a1,a2,a3,a4,a5,a6,a7,a8,a9,a10⟩
 go_wp2_with (go_at_call 310;refine (XR _ rb sb sc r0 s hs a2 a3 a4 a5 a6 a7 a8 a9).mono ?_;rintro e W3 ⟨rfl,b1,b2,b3⟩)
 go_ret
 exact ⟨rfl,⟨Nat.le_trans hx.size (Nat.le_trans a10.size b1),fun b hb=>by
  have h1:=hx.size
  have h2:=a10.size
  rw [b2 b (by omega) (by omega),a10.Px b (by omega),hx.Px b hb],(hx.same.trans a10.same).trans b3⟩⟩
theorem nG [aD prog] (s:bC) (hs:s.length<=1099511627776):Ok prog 289 [.str s] (.str (s.map oZ)):=by
 intro w vs hg hargs
 obtain ⟨c,rest,rfl⟩:∃c rest,vs=c::rest:=by
  cases vs with
  |nil=>simp [Rc] at hargs
  |cons c rest=>exact ⟨c,rest,rfl⟩
 simp only [Rc,R] at hargs
 obtain ⟨f1,f2,⟨rfl,_⟩,h2,_⟩:=hargs
 obtain rfl:rest=[]:=by
  cases rest with
  |nil=>rfl
  |cons=>simp [Rc] at h2
 refine (ig w ⟨s.toArray⟩ (by simpa [ByteArray.size] using hs)).mono ?_
 rintro e w' ⟨rfl,hx⟩
 exact ⟨.string ⟨(s.map oZ).toArray⟩,[],by simp,by simp [R],by simp,by simp,hx.size,hx.Px,hx.same⟩
end Go.Proofs.YtlnblmmohpcceaaGreatDoor

namespace Go.Proofs.YtlnblmmohpcceaaGreatDoor
theorem aAc:Tryz.prog.follows .mixedOrders=true:=by kernel_rfl
end Go.Proofs.YtlnblmmohpcceaaGreatDoor

set_option maxRecDepth 4000
set_option maxHeartbeats 4000000
namespace Go.Proofs.YtlnblmmohpcceaaGreatDoor
open Go.Aw Proofs.Tryz List IntKind
theorem toAddr_ok [aD prog] (a:aT) (hs:aV a<=1048576):Ok prog 72 [.agg (aK a)] (.agg (aK a)):=by
 simp only [aV] at hs
 refine bR aAc func72 ntmps72 ?_
 have W:=trivial
 repeat' first|refine wl ?_|(refine sq ?_ ?_<;>intro hc<;>try exact hc.elim)|fail
 all_goals try(refine ⟨.inr rfl,?_⟩;simp [aB,results72])
theorem Ec [aD prog] (a:aT) (n:Int) (h0:0<=n) (h1:n<=1048576) (hw:BH a):Ok prog 53 [.agg (aK a),.int .i64 n] (.int .i64 (sub n (aV a))):=by
 simp only [BH] at hw
 obtain ⟨aSh,aSi⟩:=hw
 refine bR aAc func53 ntmps53 ?_
 have W:=trivial
 repeat' first|refine wl ?_|(refine sq ?_ ?_<;>intro hc<;>try exact hc.elim)|fail
 all_goals try(refine ⟨.inr rfl,?_⟩;simp [aB,results53,aV])
 all_goals (
  repeat (simp (disch:=omega) only [wrap64] at *)
  (try simp only [sub]);(try split);all_goals omega)
theorem Ed [aD prog] (a b:aT) (hs:aV a<=1099511627776):Ok prog 90 [.agg (aK a),.agg (aK b)] (.bool (decide (a=b))):=by
 simp only [aV] at hs
 refine bR aAc func90 ntmps90 ?_
 have W:=trivial
 repeat' first|refine wl ?_|(refine sq ?_ ?_<;>intro hc<;>try exact hc.elim)|fail
 all_goals try(refine ⟨.inr rfl,?_⟩;simp [aB,results90])
 all_goals ((repeat clear hK K);cases a;cases b;simp_all)
theorem toAttr_ok [aD prog] (a:iU) (hs:fI a<=1048576):Ok prog 267 [.agg (fQ a)] (.agg (fQ a)):=by
 simp only [fI] at hs
 refine bR aAc func267 ntmps267 ?_
 have W:=trivial
 repeat' first|refine wl ?_|(refine sq ?_ ?_<;>intro hc<;>try exact hc.elim)|fail
 all_goals try(refine ⟨.inr rfl,?_⟩;simp [aB,results267])
theorem ik [aD prog] (a:iU) (n:Int) (h0:0<=n) (h1:n<=1048576) (hw:IU a):Ok prog 259 [.agg (fQ a),.int .i64 n] (.int .i64 (sub n (fI a))):=by
 simp only [IU] at hw
 obtain ⟨aFf,aP2⟩:=hw
 refine bR aAc func259 ntmps259 ?_
 have W:=trivial
 repeat' first|refine wl ?_|(refine sq ?_ ?_<;>intro hc<;>try exact hc.elim)|fail
 all_goals try(refine ⟨.inr rfl,?_⟩;simp [aB,results259,fI])
 all_goals (
  repeat (simp (disch:=omega) only [wrap64] at *)
  (try simp only [sub]);(try split);all_goals omega)
theorem il [aD prog] (a b:iU) (hs:fI a<=1099511627776):Ok prog 272 [.agg (fQ a),.agg (fQ b)] (.bool (decide (a=b))):=by
 simp only [fI] at hs
 refine bR aAc func272 ntmps272 ?_
 have W:=trivial
 repeat' first|refine wl ?_|(refine sq ?_ ?_<;>intro hc<;>try exact hc.elim)|fail
 all_goals try(refine ⟨.inr rfl,?_⟩;simp [aB,results272])
 all_goals ((repeat clear hK K);cases a;cases b;simp_all)
theorem toTokenizer_ok [aD prog] (a:jH) (hs:oW a<=1048576):Ok prog 74 [.agg (dB a)] (.agg (dB a)):=by
 simp only [oW] at hs
 refine bR aAc func74 ntmps74 ?_
 have W:=trivial
 repeat' first|refine wl ?_|(refine sq ?_ ?_<;>intro hc<;>try exact hc.elim)|fail
 all_goals try(refine ⟨.inr rfl,?_⟩;simp [aB,results74])
theorem Nk [aD prog] (a:jH) (n:Int) (h0:0<=n) (h1:n<=1048576) (hw:CU a):Ok prog 55 [.agg (dB a),.int .i64 n] (.int .i64 (sub n (oW a))):=by
 simp only [CU] at hw
 have aSj:=hw
 refine bR aAc func55 ntmps55 ?_
 have W:=trivial
 repeat' first|refine wl ?_|(refine sq ?_ ?_<;>intro hc<;>try exact hc.elim)|fail
 all_goals try(refine ⟨.inr rfl,?_⟩;simp [aB,results55,oW])
 all_goals (
  repeat (simp (disch:=omega) only [wrap64] at *)
  (try simp only [sub]);(try split);all_goals omega)
theorem Nl [aD prog] (a b:jH) (hs:oW a<=1099511627776):Ok prog 92 [.agg (dB a),.agg (dB b)] (.bool (decide (a=b))):=by
 simp only [oW] at hs
 refine bR aAc func92 ntmps92 ?_
 have W:=trivial
 repeat' first|refine wl ?_|(refine sq ?_ ?_<;>intro hc<;>try exact hc.elim)|fail
 all_goals try(refine ⟨.inr rfl,?_⟩;simp [aB,results92])
 all_goals ((repeat clear hK K);cases a;cases b;simp_all)
theorem toIntS_ok [aD prog] (l:List Int) (hs:l.length<=1048576):Ok prog 162 [.sl .view 1 (l.map iX)] (.sl .own 1 (l.map iX)):=by
 have hl:l.length<=1048576:=by (try simp only [bP] at hs);omega
 have hb:(8:Int) * (l.length:Int)<=281474976710656:=by omega
 have hb2:(l.length:Int)<=9223372036854775807:=by omega
 generalize hz:([.int .i64 0]:List AV)=z
 have hz0:=qV z (l.map iX)
 rw [length_map] at hz0
 refine bR aAc func162 ntmps162 ?_
 have W:=aA hb hb2
 repeat' first|refine wl ?_|(refine sq ?_ ?_<;>intro hc<;>try exact hc.elim)|fail
 refine aJ (ι:={k:Nat // k<=l.length}) (fun t o i=>⟨aZ t [(4,.int .i64 i.1)],[⟨true,false,1,1,uE z (l.map iX) i.1⟩]⟩)
  (fun i=>l.length - i.1) ⟨0,by simp⟩ (aI (by simp [hz,hz0]) (by simp)) ?_
 rintro ⟨k,hk⟩ K1 hK1
 simp only [aZ,set_cons_succ,set_cons_zero] at hK1⊢
 have hk1:i64.wrap ((k:Int)+1)=((k+1:Nat):Int):=by rw [wrap64]<;>omega
 by_cases hlt:k < l.length
 ·have hg:=getElem?_eq_getElem hlt
  have XX:=tJ z (l.map iX) k (by simpa using hlt)
  have vC:=tK z (l.map iX) k (by simpa using hlt)
  rw [getElem_map] at vC
  simp only [iX] at vC
  have Sk:z.length=1:=by rw [<-hz];rfl
  have XY:z.drop 1=[]:=by rw [<-hz];rfl
  have W:=aA hk1 (aA hg (aA XX (aA Sk (aA XY vC))))
  have V:=aA hk1 (aA hg hlt)
  repeat' first|refine wl ?_|(refine sq ?_ ?_<;>intro hc<;>try exact hc.elim)|fail
  refine hK1 _ ⟨k+1,by omega⟩ (aS 1 rfl ?_ (by simp) (by simp)) (by simp only;omega)
  simp
 ·have W:=hk1
  repeat' first|refine wl ?_|(refine sq ?_ ?_<;>intro hc<;>try exact hc.elim)|fail
  have XZ:=tH z (l.map iX) k (by simpa using hlt)
  all_goals try(refine ⟨.inr rfl,?_⟩;simp [aB,results162,XZ])
theorem iq [aD prog] (l:List Int) (n:Int) (h0:0<=n) (h1:n<=1048576) (hw:l.length<=9223372036854775807):Ok prog 144 [.sl .view 1 (l.map iX),.int .i64 n] (.int .i64 (sub n (l.length))):=by
 refine bR aAc func144 ntmps144 ?_
 have W:=trivial
 repeat' first|refine wl ?_|(refine sq ?_ ?_<;>intro hc<;>try exact hc.elim)|fail
 all_goals try(refine ⟨.inr rfl,?_⟩;simp [aB,results144])
 all_goals (first|omega|((repeat clear hK K);simp only [sub] at *;grind)|((repeat clear hK K);simp only [sub,IntKind.wrap_i64] at *;grind))
theorem iw [aD prog] (a b:List Int) (hs:a.length<=1099511627776):Ok prog 175 [.sl .view 1 (a.map iX),.sl .view 1 (b.map iX)] (.bool (decide (a=b))):=by
 have hl:a.length<=1099511627776:=by (try simp only [bP] at hs);omega
 refine bR aAc func175 ntmps175 ?_
 have W:=trivial
 repeat' first|refine wl ?_|(refine sq ?_ ?_<;>intro hc<;>try exact hc.elim)|fail
 ·all_goals try(refine ⟨.inr rfl,?_⟩;simp [aB,results175])
  intro h;subst h;exact absurd rfl hc
 ·have hlen:a.length=b.length:=by omega
  refine aJ (ι:={k:Nat // k<=a.length/\a.take k=b.take k}) (fun t o i=>⟨aZ t [(5,.int .i64 i.1)],[]⟩)
   (fun i=>a.length - i.1) ⟨0,by simp⟩ (aI (by simp) (by simp)) ?_
  rintro ⟨k,hk,hpre⟩ K1 hK1
  simp only [aZ,set_cons_succ,set_cons_zero] at hK1⊢
  have hk1:i64.wrap ((k:Int)+1)=((k+1:Nat):Int):=by rw [wrap64]<;>omega
  by_cases hlt:k < a.length
  ·have hg:=getElem?_eq_getElem hlt
   have sS:k < b.length:=by omega
   have Ya:=getElem?_eq_getElem sS
   have W:=aA hk1 (aA hg (aA hlt (aA Ya sS)))
   repeat' first|refine wl ?_|(refine sq ?_ ?_<;>intro hc<;>try exact hc.elim)|fail
   ·all_goals try(refine ⟨.inr rfl,?_⟩;simp [aB,results175])
    intro h;subst h;exact hc rfl
   ·have hts:a.take (k+1)=b.take (k+1):=by
     rw [take_succ_eq_append_getElem hlt,take_succ_eq_append_getElem sS,hpre,hc]
    refine hK1 _ ⟨k+1,by omega,hts⟩ (aI (by simp) (by simp)) (by simp only;omega)
  ·have Yb:a.length<=k:=by omega
   rw [take_of_length_le Yb,take_of_length_le (by omega)] at hpre
   subst hpre
   have W:=hk1
   repeat' first|refine wl ?_|(refine sq ?_ ?_<;>intro hc<;>try exact hc.elim)|fail
   all_goals try(refine ⟨.inr rfl,?_⟩;simp [aB,results175])
theorem toStringS_ok [aD prog] (l:List bC) (hs:bP gT l<=1048576):Ok prog 80 [.sl .view 1 (l.map fF)] (.sl .own 1 (l.map fF)):=by
 have hl:l.length<=1048576:=by (try simp only [bP] at hs);omega
 have hb:(16:Int) * (l.length:Int)<=281474976710656:=by omega
 have hb2:(l.length:Int)<=9223372036854775807:=by omega
 generalize hz:([.str []]:List AV)=z
 have hz0:=qV z (l.map fF)
 rw [length_map] at hz0
 refine bR aAc func80 ntmps80 ?_
 have W:=aA hb hb2
 repeat' first|refine wl ?_|(refine sq ?_ ?_<;>intro hc<;>try exact hc.elim)|fail
 refine aJ (ι:={k:Nat // k<=l.length}) (fun t o i=>⟨aZ t [(4,.int .i64 i.1)],[⟨true,false,1,1,uE z (l.map fF) i.1⟩]⟩)
  (fun i=>l.length - i.1) ⟨0,by simp⟩ (aI (by simp [hz,hz0]) (by simp)) ?_
 rintro ⟨k,hk⟩ K1 hK1
 simp only [aZ,set_cons_succ,set_cons_zero] at hK1⊢
 have hk1:i64.wrap ((k:Int)+1)=((k+1:Nat):Int):=by rw [wrap64]<;>omega
 by_cases hlt:k < l.length
 ·have hg:=getElem?_eq_getElem hlt
  have XX:=tJ z (l.map fF) k (by simpa using hlt)
  have vC:=tK z (l.map fF) k (by simpa using hlt)
  rw [getElem_map] at vC
  simp only [fF] at vC
  have Sk:z.length=1:=by rw [<-hz];rfl
  have XY:z.drop 1=[]:=by rw [<-hz];rfl
  have W:=aA hk1 (aA hg (aA XX (aA Sk (aA XY vC))))
  have V:=aA hk1 (aA hg hlt)
  repeat' first|refine wl ?_|(refine sq ?_ ?_<;>intro hc<;>try exact hc.elim)|fail
  refine hK1 _ ⟨k+1,by omega⟩ (aS 1 rfl ?_ (by simp) (by simp)) (by simp only;omega)
  simp
 ·have W:=hk1
  repeat' first|refine wl ?_|(refine sq ?_ ?_<;>intro hc<;>try exact hc.elim)|fail
  have XZ:=tH z (l.map fF) k (by simpa using hlt)
  all_goals try(refine ⟨.inr rfl,?_⟩;simp [aB,results80,XZ])
theorem xX [aD prog] (l:List bC) (n:Int) (h0:0<=n) (h1:n<=1048576) (hw:l.length<=9223372036854775807/\∀y∈l,y.length<=9223372036854775807):Ok prog 61 [.sl .view 1 (l.map fF),.int .i64 n] (.int .i64 (sub n (bP gT l))):=by
 obtain ⟨hl,hw⟩:=hw
 refine bR aAc func61 ntmps61 ?_
 have W:=trivial
 repeat' first|refine wl ?_|(refine sq ?_ ?_<;>intro hc<;>try exact hc.elim)|fail
 ·refine ⟨.inr rfl,?_⟩;simp [aB,results61,sub,bP];omega
 ·refine aJ (ι:={k:Nat // k<=l.length/\l.length+aO gT (l.take k)<=n}) (fun t o i=>⟨aZ t [(1,.int .i64 (n - (l.length+aO gT (l.take i.1):Nat))),(5,.int .i64 i.1)],[]⟩)
   (fun i=>l.length - i.1) ⟨0,by simp,by simp [aO];omega⟩ (aI (by simp) (by simp [aO])) ?_
  rintro ⟨k,hk,hs⟩ K1 hK1
  simp only [aZ,set_cons_succ,set_cons_zero] at hK1⊢
  have hk1:i64.wrap ((k:Int)+1)=((k+1:Nat):Int):=by rw [wrap64]<;>omega
  by_cases hlt:k < l.length
  ·have hg:=getElem?_eq_getElem hlt
   have hts:=bT gT l k hlt
   have htl:=dC gT l (k+1)
   have tq:=hw _ (getElem_mem hlt)
   have W:=aA hk1 hg
   repeat' first|refine wl ?_|(refine sq ?_ ?_<;>intro hc<;>try exact hc.elim)|fail
   ·refine ⟨.inr rfl,?_⟩
    simp [aB,results61,bP]
    (repeat clear hK K);simp only [sub,gT] at *;grind
   ·refine hK1 _ ⟨k+1,by omega,by (repeat clear hK K);simp only [sub,gT] at *;grind⟩ (aI (by simp) ?_) (by simp only;omega)
    simp
    (repeat clear hK K);simp only [sub,gT] at *;grind
  ·have W:=hk1
   repeat' first|refine wl ?_|(refine sq ?_ ?_<;>intro hc<;>try exact hc.elim)|fail
   all_goals try(refine ⟨.inr rfl,?_⟩;simp [aB,results61,bP])
   have:k=l.length:=by omega
   subst this
   rw [take_length] at *
   rw [sub_pos (by omega)]
   omega
theorem xY [aD prog] (a b:List bC) (hs:bP gT a<=1099511627776):Ok prog 98 [.sl .view 1 (a.map fF),.sl .view 1 (b.map fF)] (.bool (decide (a=b))):=by
 have hl:a.length<=1099511627776:=by (try simp only [bP] at hs);omega
 refine bR aAc func98 ntmps98 ?_
 have W:=trivial
 repeat' first|refine wl ?_|(refine sq ?_ ?_<;>intro hc<;>try exact hc.elim)|fail
 ·all_goals try(refine ⟨.inr rfl,?_⟩;simp [aB,results98])
  intro h;subst h;exact absurd rfl hc
 ·have hlen:a.length=b.length:=by omega
  refine aJ (ι:={k:Nat // k<=a.length/\a.take k=b.take k}) (fun t o i=>⟨aZ t [(5,.int .i64 i.1)],[]⟩)
   (fun i=>a.length - i.1) ⟨0,by simp⟩ (aI (by simp) (by simp)) ?_
  rintro ⟨k,hk,hpre⟩ K1 hK1
  simp only [aZ,set_cons_succ,set_cons_zero] at hK1⊢
  have hk1:i64.wrap ((k:Int)+1)=((k+1:Nat):Int):=by rw [wrap64]<;>omega
  by_cases hlt:k < a.length
  ·have hg:=getElem?_eq_getElem hlt
   have sS:k < b.length:=by omega
   have Ya:=getElem?_eq_getElem sS
   have W:=aA hk1 (aA hg (aA hlt (aA Ya sS)))
   repeat' first|refine wl ?_|(refine sq ?_ ?_<;>intro hc<;>try exact hc.elim)|fail
   ·all_goals try(refine ⟨.inr rfl,?_⟩;simp [aB,results98])
    intro h;subst h;exact hc rfl
   ·have hts:a.take (k+1)=b.take (k+1):=by
     rw [take_succ_eq_append_getElem hlt,take_succ_eq_append_getElem sS,hpre,hc]
    refine hK1 _ ⟨k+1,by omega,hts⟩ (aI (by simp) (by simp)) (by simp only;omega)
  ·have Yb:a.length<=k:=by omega
   rw [take_of_length_le Yb,take_of_length_le (by omega)] at hpre
   subst hpre
   have W:=hk1
   repeat' first|refine wl ?_|(refine sq ?_ ?_<;>intro hc<;>try exact hc.elim)|fail
   all_goals try(refine ⟨.inr rfl,?_⟩;simp [aB,results98])
end Go.Proofs.YtlnblmmohpcceaaGreatDoor
