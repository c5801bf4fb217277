/- Proved here: steps towards the statement of this claim. No condition. -/
import Derived.Test.YtnkpkklemmgapaaGreatDoorZF5
import Derived.Shelf.Strings.Cut
import Derived.Shelf.Strconv.ErrVarAll
import Derived.Stop.LaidErr
set_option linter.all false
namespace Go.Aw
open List
open Go.Lib
theorem Mw:∀(l r:List UInt8) (acc:Nat),decFrom acc (l++r)=(decFrom acc l).bind λn=>decFrom n r
 |[],r,acc=>by simp[decFrom]
 |a::t,r,acc=>by
  simp only[cW,decFrom];cases digitVal a with
  |none=>simp
  |some d=>exact Mw t r _
theorem Mx(k:Nat)(h:k<10):digitVal (UInt8.ofNat (48+k))=some k:=by
 have e:(UInt8.ofNat (48+k)).toNat=48+k:=by simp;omega
 unfold digitVal;rw[e,eW (by omega)];congr 1;omega
theorem Pz(u:Nat):decFrom 0 (decDigits u)=some u:=by
 induction u using Nat.strongRecOn with
 |_ u ih=>
  rw[decDigits];split
  .rename_i h;simp only[decFrom,Mx u h];simp
  .rename_i h;rw[Mw,ih (u/10) (by omega)];simp only[tM,decFrom,Mx (u%10) (by omega)];congr 1;omega
theorem JK(u:Nat):decDigits u≠[]:=by rw[decDigits];split<;>simp
theorem RZ(u:Nat):decNat (decDigits u)=some u:=by unfold decNat;rw[eK (by simpa using JK u),Pz]
theorem GN:∀(k u:Nat),u<10 ^ (k+1)->(decDigits u).length<=k+1
 |0,u,h=>by rw[decDigits,dif_pos (by omega)];simp
 |k+1,u,h=>by
  rw[decDigits];split
  .simp
  .have:=GN k (u/10) (by rw[Nat.pow_succ]at h;omega);simp;omega
def yX(s:aU):Option Int:=match decNat s with
 |some m=>if s.length<=13/\m<=1000000000000/\decDigits m=s then some (m:Int)else none
 |none=>none
theorem XD{m:Nat}(h:m<=1000000000000):yX (decDigits m)=some (m:Int):=by have:=GN 12 m (by omega);simp[yX,RZ,h,this]
theorem FQ{s:aU}{v:Int}(h:yX s=some v):∃m:Nat,v=m/\m<=1000000000000/\s=decDigits m/\s.length<=13/\decNat s=some m:=by
 unfold yX at h;split at h
 .rename_i m hm;split at h
  .rename_i hc;simp only[eA]at h;exact⟨m,h.symm,hc.2.1,hc.2.2.symm,hc.1,hm⟩
  .cases h
 .cases h
theorem Vr{s:aU}{v:Int}(h:yX s=some v):atoiAll s= .ok v:=by
 obtain⟨m,rfl,hm,hs,hl,hd⟩:=FQ h;rw[atoiAll_short s (by omega)];have:atoi s=some (m:Int):=by
  cases s with
  |nil=>simp[decNat]at hd
  |cons b r=>
   have hb:∃d,digitVal b=some d:=by have hd':=hd;simp only[decNat,isEmpty_cons]at hd';exact digit_of_decFrom (b::r) 0 m (by simpa using hd') 0 b rfl
   obtain⟨d,hb⟩:=hb;have h45:(b == 45)=false:=by rw[beq_eq_false_iff_ne];rintro rfl;simp[digitVal]at hb
   have h43:(b == 43)=false:=by rw[beq_eq_false_iff_ne];rintro rfl;simp[digitVal]at hb
   simp[atoi,h45,h43,hd]
 rw[this];rfl
theorem TT(s:aU):(∃v,atoiAll s= .ok v/\0<=v/\v<=1000000000000/\itoa v=s/\yX s=some v)\/
  (yX s=none/\∀v,atoiAll s= .ok v->v<0\/1000000000000<v\/itoa v≠s):=by
 cases h:yX s with
 |some v=>left;obtain⟨m,rfl,hm,hs,hl,hd⟩:=FQ h;refine⟨(m:Int),Vr h,by omega,by omega,?_,rfl⟩;unfold itoa;rw[eK (by omega)];simpa using hs.symm
 |none=>
  right;refine⟨rfl,λv hv=> ?_⟩;by_cases h0:v<0
  .exact .inl h0
  by_cases h1:1000000000000<v
  .exact .inr (.inl h1)
  refine .inr (.inr λhi=> ?_);have:itoa v=decDigits v.toNat:=by unfold itoa;rw[eK h0]
  rw[this]at hi;have:=XD (m:=v.toNat) (by omega);rw[hi,h]at this;cases this
theorem XE{l:aU}{n:Nat}(h:decFrom 0 l=some n):n<10 ^ l.length:=by have:=decFrom_lt l 0 n h;simpa using this
open Go.Proofs Go.Shelf Go.RowKit
class pM(P:Program)[aB P]: Prop where
  var:∀ w, aB.holds P w -> (∃ tp p, w.var? P "strconv.ErrSyntax" = some #[.iface tp p]) /\ ∃ tp p, w.var? P "strconv.ErrRange" = some #[.iface tp p]
section
variable{P:Program}[aB P]{ρ:Ren}
theorem eu[pM P](L:LaysC.n172 P ρ)(s:aU)(hl:s.length <= 281474976710656)(w:World)(hg:aB.holds P w):
    Calls P (ρ.f 172) #[.string ⟨s.toArray⟩] w λe w' =>
      ((∃ v, Lib.atoiAll s = .ok v /\ e = .returned (.tuple #[.int .i64 v, .nilIface])) \/
       ((∀ v, Lib.atoiAll s ≠ .ok v) /\ ∃ v t p, e = .returned (.tuple #[.int .i64 v, .iface t p]))) /\ Below w.heap.size w w' := by
  obtain⟨⟨t1, p1, h1⟩, t2, p2, h2⟩ := pM.var w hg;have hb := TR s;cases h:Lib.atoiAll s
  · rename_i v
    refine(Any.strconv_Atoi_ok L ⟨s.toArray⟩ (by rw[JJ]; omega) v (by rw[hb]; exact h) w).mono λe w' ⟨he, hw⟩ => ⟨.inl ⟨v, rfl, he⟩, ?_⟩
    rcases hw with rfl | ⟨t, rfl⟩
    · exact Below.refl _ _
    · exact Lib.bytesWorld_below _ _ _
  · refine(Any.strconv_Atoi_syntax_var L ⟨s.toArray⟩ (by rw[JJ]; exact hl) (by rw[hb]; exact h) t1 p1 w h1).mono λe w' hq => ?_
    obtain⟨N, he, h3, h4, h5⟩ := hq;exact⟨.inr ⟨(λv hv => by cases hv), _, _, _, he⟩, h5⟩
  · refine(Any.strconv_Atoi_range_var L ⟨s.toArray⟩ (by rw[JJ]; exact hl) (by rw[hb]; exact h) t2 p2 w h2).mono λe w' hq => ?_
    obtain⟨N, he, h3, h4, h5⟩ := hq;exact⟨.inr ⟨(λv hv => by cases hv), _, _, _, he⟩, h5⟩
end
open Go.RowKit
def XF(P:Program)(name:String):Bool:=match P.globalNamed name with
 |some g=>match P.globals[g]? with
  |some gl=>match P.underlying gl.type with
   |some (.interface _)=>true
   |_=>false
  |none=>false
 |none=>false
theorem BL{P:Program}{W:World}{name nm:String}{d:DataW Unit}(hc:XF P name=true):
  ∀{l:List (String×DataW Unit)} {ps:List MemPlace},DataW.LaidVars P W l ps->(name,.iface nm d)∈l->∃u v,W.var? P name=some #[.iface u v]
 |[],_,_,hm=>by simp at hm
 |(nm',d')::r,ps,h,hm=>by
  obtain⟨g',t',cs,fuel,p,q,hg',ht',aLa,hd,hr,_⟩:=h;rcases gE.1 hm with e1|hm
  .obtain ⟨rfl,rfl⟩:=Prod.mk.inj e1;unfold XF at hc;rw[hg']at hc;dsimp only at hc;split at hc
   .rename_i gl Lr;rw[Lr]at ht';simp only[mA,eA]at ht';subst ht';split at hc
    .rename_i ms hu;obtain⟨f1,u,v,hcs,_,_⟩:=iface_of_trod hu hd;refine⟨u,v,?_⟩;rw[aLa];congr 1;exact Array.toList_inj.1 (by simpa using hcs)
    .cases hc
   .cases hc
  .exact BL hc hr hm
def aHf(P:Program)(n:Nat)(nm:String):Bool:=match P.globalNamed nm with|some g=>decide (g<n)|none=>true
theorem PD{P:Program}{n:Nat}{w w':World}{nm:String}(hl:aHf P n nm=true)(hs:∀b,b<n->w'.heap[b]? =w.heap[b]?):w'.var? P nm=w.var? P nm:=by
 unfold World.var?;unfold aHf at hl;cases hg:P.globalNamed nm with
 |none=>rfl
 |some g=>rw[hg]at hl;simp only[fX]at hl;simp only[tM];rw[hs g hl]
def Ex(P:Program)(w:World):Prop:=(∃tp p,w.var? P "strconv.ErrSyntax" =some #[.iface tp p])/\∃tp p,w.var? P "strconv.ErrRange" =some #[.iface tp p]
theorem XG{P:Program}{n:Nat}{Py:List (String×IntKind×List Int)}{ints:List String}(hn:(Vq P n Py ints&&aHf P n "strconv.ErrSyntax" &&aHf P n "strconv.ErrRange")=true)(w w':World)
  (h:zZ P n Py ints w/\Ex P w) (hs:∀b,b<n->w'.heap[b]? =w.heap[b]?):zZ P n Py ints w'/\Ex P w':=by
 simp only[eI]at hn;obtain⟨⟨h1,h2⟩,h3⟩:=hn;refine⟨ek h1 w w' h.1 hs,?_,?_⟩
 .rw [PD h2 hs];exact h.2.1
 .rw [PD h3 hs];exact h.2.2
end Go.Aw
