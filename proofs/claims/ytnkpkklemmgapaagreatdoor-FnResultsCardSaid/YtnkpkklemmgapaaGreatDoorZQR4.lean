/- Proved here: steps towards the statement of this claim. No condition. -/
import Derived.Test.YtnkpkklemmgapaaGreatDoorZQA0
set_option linter.all false
set_option maxRecDepth 4000
set_option maxHeartbeats 400000
namespace Go.Proofs.YtnkpkklemmgapaaGreatDoor
open Go.Aw Proofs.Tryz List IntKind
theorem jQ[aB prog](l:List nY)(n:aU)(hl:l.length<=1099511627776):Ok prog 223 [.sl .view 2 (l.map uH),.str n] (.iP [.str (bD l n).1,.bool (bD l n).2]):=by
 refine dL aO func223 ntmps223 ?_;refine oU ?_;refine aI (ι:={k:Nat // k<=l.length/\∀x∈l.take k,BK n x=false}) (λt o i=>⟨bH t [(6,.int .i64 i.1)],o⟩)
  (λi=>l.length-i.1) ⟨0,by simp,by simp⟩ aG ?_
 rintro⟨k,hk,hi⟩ K1 hK1;simp only[bH,cH,cJ]at hK1⊢;have hk1:=rE (k:=k);by_cases hlt:k<l.length
 .have hg:=aE hlt;have W:=aA hk1 (aA hg hlt);repeat' first|refine wg ?_|(refine sq ?_ ?_<;>intro hc<;>try exact hc.elim)|fail
  .all_goals try(refine aZ ?_;simp[aX,results223])
   rw[Xz hlt (by simpa [BK]using hc) hi];simp
  .exact hK1 _ ⟨k+1,by omega,gB hlt hi (by simpa [BK]using hc)⟩ aG (by simp only;omega)
 .have W:=hk1;refine wl ?_;all_goals try(refine aZ ?_;simp[aX,results223])
  rw[RX (qM (by omega) hi)];simp
theorem Ip[aB prog](s:aU)(c:UInt8):OkN prog 238 [.str s,.int .u8 c.toNat] (.int .i64 (E5 c s)):=
 RY (fn:=f238) (by kernel_rfl) (by decide+kernel) rfl (by decide+kernel) (by rfl) s c
theorem Gn[aB prog](s:aU)(c:UInt8):Ok prog 207 [.str s,.int .u8 c.toNat] (.int .i64 (E5 c s)):=by have h1:=Ip s c;refine dL aO func207 ntmps207 ?_;refine oU ?_;exact aR results207
theorem NA[aB prog](s:aU)(c:UInt8):Ok prog 172 [.str s,.str [c]] (.int .i64 (E5 c s)):=by
 have h1:=Gn s c;refine dL aO func172 ntmps172 ?_;have W:=trivial;repeat' first|refine wg ?_|(refine sq ?_ ?_<;>intro hc<;>try exact hc.elim)|fail
 all_goals try(refine aZ ?_;simp[aX,results172])
 all_goals (subst hc;simp[E5,Ev])
theorem iw[aB prog](s:aU)(c:UInt8)(hl:s.length<=1099511627776):Ok prog 130 [.str s,.str [c]] (.iP [.str (s.take (kC c s)),.str (s.drop (kC c s+1)),.bool (decide (kC c s<s.length))]):=by
 have h1:=NA s c;have hle:=xK c s;by_cases h:kC c s<s.length
 .have e:E5 c s=kC c s:=eW h;rw[e]at h1;generalize kC c s=k at*;refine dL aO func130 ntmps130 ?_;have W:=h;refine wl ?_;all_goals try(refine aZ ?_;simp[aX,results130])
  all_goals simp_all
 .have e:E5 c s= -1:=eK h;rw[e]at h1;have e2:kC c s=s.length:=by omega
  rw[e2];refine dL aO func130 ntmps130 ?_;refine oU ?_;all_goals try(refine aZ ?_;simp[aX,results130])
  all_goals simp
theorem Sg[aB prog](s:aU)(c:UInt8)(hl:s.length<=1099511627776):Ok prog 84 [.str s,.str [c]] (.iP [.str (s.take (kC c s)),.str (s.drop (kC c s+1)),.bool (decide (kC c s<s.length))]):=by have h1:=iw s c hl;refine dL aO func84 ntmps84 ?_;refine oU ?_;exact aR results84
theorem aHp{c:UInt8}{n:Nat}(hn:n<256)(h:(c.toNat:Int)=n):c=UInt8.ofNat n:=by
 have:c.toNat=n:=by omega
 rw[<-this];simp
theorem aHq{c:UInt8}{n:Nat}(hn:n<256)(h:¬(c.toNat:Int)=n):c≠UInt8.ofNat n:=by rintro rfl;apply h;simp;omega
theorem iy{s b:aU}{k:Nat}(h:kC 47 s=k)(hk:k<s.length):addrOf s b=⟨s.take k,s.drop (k+1)⟩:=by subst h;exact eW hk
theorem Ye{s b:aU}(h:kC 47 s=s.length):addrOf s b=⟨b,s⟩:=eK (by omega)
theorem xN[aB prog](s b:aU)(hl:s.length+b.length<=1099511627776):Ok prog 232 [.str s,.str b] (.iP [.agg (bC (cB s b).1),.bool (cB s b).2]):=by
 simp only[cB];refine dL aO func232 ntmps232 ?_;refine oU ?_;refine aI (ι:={k:Nat // k<=s.length/\∀x∈s.take k,x≠47}) (λt o i=>⟨bH t [(7,.int .i64 i.1)],o⟩)
  (λi=>s.length-i.1) ⟨0,by simp,by simp⟩ aG ?_
 rintro⟨k,hk,hi⟩ K1 hK1;simp only[bH,cH,cJ]at hK1⊢;have hk1:=rE (k:=k);by_cases hlt:k<s.length
 .have hg:=aE hlt;have W:=aA hk1 (aA hg hlt);repeat' first|refine wg ?_|(refine sq ?_ ?_<;>intro hc<;>try exact hc.elim)|fail
  .have e:=iy (b:=b) (aCa hlt (aHp (by decide) hc) hi) hlt;have h1:=uV ⟨s.take k,s.drop (k+1)⟩ (by simp[aP];omega);rw[e];simp only[bC]at h1;have W:=trivial;repeat' first|refine wg ?_|(refine sq ?_ ?_<;>intro hc<;>try exact hc.elim)|fail
   all_goals try(refine aZ ?_;simp[aX,results232,Aj])
   all_goals simp_all[Aj]
  .exact hK1 _ ⟨k+1,by omega,gB hlt hi (aHq (by decide) hc)⟩ aG (by simp only;omega)
 .have e:=Ye (b:=b) (Xy (qM (by omega) hi));have h1:=uV ⟨b,s⟩ (by simp[aP];omega);rw[e];simp only[bC]at h1;have W:=hk1;repeat' first|refine wg ?_|(refine sq ?_ ?_<;>intro hc<;>try exact hc.elim)|fail
  all_goals try(refine aZ ?_;simp[aX,results232,Aj])
  all_goals simp_all[Aj]
end Go.Proofs.YtnkpkklemmgapaaGreatDoor
