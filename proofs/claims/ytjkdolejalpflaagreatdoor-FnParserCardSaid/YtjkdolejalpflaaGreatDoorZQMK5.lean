/- Proved here: steps towards the statement of this claim. No condition. -/
import Derived.Test.YtjkdolejalpflaaGreatDoorZQMK4
import Derived.Test.YtjkdolejalpflaaGreatDoorZQAwIns
set_option linter.all false
set_option maxRecDepth 100000
set_option maxHeartbeats 4000000
namespace Go.Proofs.YtjkdolejalpflaaGreatDoor
open Go.Aw Go.RowKit Go.Lib Proofs.Tryz List IntKind
theorem Vs(w:World)(rb sb sc:Nat)(r0:Value)(s:ByteArray)(hs:s.size<=1099511627776)(hrb:rb<w.heap.size)(h0:w.cell? ⟨rb,0,none⟩=some (.int .u32 0))(h1:w.cell? ⟨rb,1,none⟩=some (.int .i32 0))(hr:w.cell? ⟨rb,3,none⟩=some r0)(fr:∀j,w.frozen? ⟨rb,j,none⟩=false)
  (hl:w.cell? ⟨rb,4,none⟩=some (.slice (some ⟨sb,0,none⟩) 4 sc)) (hc:bA w sb 0 mkPairs) (hsb:sb≠rb):
  Calls prog 173 #[.pointer (some ⟨rb,0,none⟩),.string s] w λe w'=>e= .returned (.string ⟨(s.data.toList.map oH).toArray⟩)/\w.heap.size<=w'.heap.size/\(∀b,b<w.heap.size->b≠rb->w'.heap[b]? =w.heap[b]?)/\iW w w':=by
 have hnot:∀(x:Bool) (w:World),(Op.unary .not (.bool x)).run prog w= .ok (.bool (!x)) w:=λ_ _=>rfl
 have hmf:∀(fn:Fn) (first cap:Array Value) (w:World),(Instr.makeFunc fn first cap).run prog w= .ok (.func fn first cap) w:=λ_ _ _ _=>rfl
 have hm:∀(nb:Nat) (w:World),(method 434 244 (.pointer (some ⟨nb,0,none⟩)) "Replace").run prog w= .ok (288,.pointer (some ⟨nb,0,none⟩)) w:=λ_ _=>by kernel_rfl
 have hld:=run_call_load (P:=prog) func212 (by kernel_rfl) (by kernel_rfl) (by kernel_rfl) .u32 (by kernel_rfl) (w:=w) (a:=⟨rb,0,none⟩) (x:=0) h0
 go_enter func173,ntmps173
 go_wp2_with (first|(go_at_call 189;go_in)|(go_at_call 201;go_in)|(go_at_call 202;refine(D9 w rb sb sc r0 hrb h0 h1 hr fr hl hc hsb).mono ?_;rintro e w1 ⟨rfl,nb,n1,n2,n3,n4,n5,n6,n7⟩))
 go_end0
 go_wp2_with (go_at_call 288;refine(jd _ _ s hs n2 n3).mono ?_;rintro e w2 ⟨rfl,hx⟩)
 go_ret
 exact⟨rfl,fW n5 hx.size,λb hb hbr=>(hx.xk b (fS hb n5)).trans (n6 b hb hbr),n7.trans hx.same⟩
end Go.Proofs.YtjkdolejalpflaaGreatDoor
set_option maxRecDepth 4000
set_option maxHeartbeats 4000000
namespace Go.Proofs.YtjkdolejalpflaaGreatDoor
open Go.Aw Proofs.Tryz List IntKind
theorem Ym{c:UInt8}{s:aX}{f i:Nat}(hf:f<=i)(hi:i<s.length)(hc:s[i]=c)(hn:∀x∈(s.take i).drop f,x≠c):dP c (s.drop f)=(s.take i).drop f::dP c (s.drop (i+1)):=by
 have e:s.drop f=(s.take i).drop f++c::s.drop (i+1):=by
  have h1:s=s.take i++s[i]::s.drop (i+1):=by simp
  conv=>lhs;rw[h1]
  rw[drop_append_of_le_length (by simp;omega),hc]
 rw[e,Lh c _ _ hn]
theorem Yn{c:UInt8}{s:aX}{f:Nat}(hn:∀x∈(s.take s.length).drop f,x≠c):dP c (s.drop f)=[(s.take s.length).drop f]:=by rw[Cp]at hn⊢;exact BV c _ hn
theorem Yo{c:UInt8}{s:aX}{f i:Nat}(hf:f<=i)(hi:i<s.length)(hc:s[i]≠c)(hn:∀x∈(s.take i).drop f,x≠c):∀x∈(s.take (i+1)).drop f,x≠c:=by
 rw[eN hi,drop_append_of_le_length (by simp;omega)];intro x hx;rcases fR.1 hx with h|h
 .exact hn x h
 .rw [pB.1 h];exact hc
theorem sG[aB prog](s:aX)(c:UInt8)(hl:s.length<=1099511627776):Ok prog 73 [.str s,.int .u8 c.toNat] (.sl .own 1 ((dP c s).map dR)):=by
 refine dA aJ func73 ntmps73 ?_;refine nG ?_;refine aY (ι:={q:Nat×Nat×List aX×Nat // q.1<=s.length+1/\q.2.1<=q.1/\q.2.2.1.length<=q.1/\1<=q.2.2.2/\(q.1<=s.length->dP c s=q.2.2.1++dP c (s.drop q.2.1)/\∀x∈(s.take q.1).drop q.2.1,x≠c)/\(q.1=s.length+1->q.2.2.1=dP c s)})
  (λt o i=>⟨bN t [(7,.int .i64 i.1.1),(6,.int .i64 i.1.2.1),(5,.obj 0 i.1.2.2.2)],[⟨true,false,1,i.1.2.2.2,i.1.2.2.1.map dR⟩]⟩)
  (λi=>s.length+1-i.1.1) ⟨(0,0,[],1),by simp,by simp,by simp,by simp,by simp,by simp⟩ aC ?_
 rintro⟨⟨k,f,out,v⟩,hk,hf,ho,hv,hin,zN⟩ K1 hK1;simp only at hk hf ho hv hin zN;simp only[bN,cH,cG]at hK1⊢;have hk1:=vJ (k:=k);by_cases h1:k=s.length+1
 .have e:=zN h1;subst e;subst h1;have W:=hk1;refine wl ?_;exact aO results73
 .have hle:k<=s.length:=by omega
  obtain⟨g1,g2⟩:=hin hle;by_cases h2:k=s.length
  .subst h2;have e:=Yn g2;rw[e,Cp]at g1;have W:=hk1;refine wl ?_;exact hK1 _ ⟨(s.length+1,s.length+1,out++[s.drop f],v+1),by simp only;omega,by simp only;omega,by simp;omega,by simp only;omega,λh=>by simp only at h;omega,λ_=>g1.symm⟩ (aS 1) (by simp only;omega)
  .have hlt:k<s.length:=by omega
   have hg:=aE hlt;have W:=aA hk1 (aA hg hlt);repeat' first|refine wg ?_|(refine sq ?_ ?_<;>intro hc<;>try exact hc.elim)|fail
   .have MX:s[k]=c:=AG.1 (by omega);rw[Ym hf hlt MX g2]at g1;exact hK1 _ ⟨(k+1,k+1,out++[(s.take k).drop f],v+1),by simp only;omega,by simp only;omega,by simp;omega,by simp only;omega,λ_=>⟨by rw[g1];simp,by simp⟩,λh=>by simp only at h;omega⟩ (aS 1) (by simp only;omega)
   .have MX:s[k]≠c:=λh=>hc (by rw[h])
    exact hK1 _ ⟨(k+1,f,out,v),by simp only;omega,by simp only;omega,by simp only;omega,by simp only;omega,λ_=>⟨g1,Yo hf hlt MX g2⟩,λh=>by simp only at h;omega⟩ (aS 1) (by simp only;omega)
end Go.Proofs.YtjkdolejalpflaaGreatDoor
