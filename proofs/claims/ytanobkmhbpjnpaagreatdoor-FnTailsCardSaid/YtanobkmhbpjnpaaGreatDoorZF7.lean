/- Steps. No condition. -/
import Derived.Test.YtanobkmhbpjnpaaGreatDoorZF5
import Derived.Shelf.Strings.Cut
import Derived.Shelf.Strconv.ErrVarAll
import Derived.Stop.LaidErr
set_option linter.all false
namespace Go.Aw
open List
open Go.Lib
def PQ:∀(l r:List UInt8) (acc:Nat),decFrom acc (l++r)=(decFrom acc l).bind λn=>decFrom n r
 |[],r,acc=>by simp[decFrom]
 |a::t,r,acc=>by
  simp only[cW,decFrom];cases digitVal a with
  |none=>simp
  |some d=>exact PQ t r _
def PR(k:Nat)(h:k<10):digitVal (UInt8.ofNat (48+k))=some k:=by
 have e:(UInt8.ofNat (48+k)).toNat=48+k:=by simp;omega
 unfold digitVal;rw[e,eM (by omega)];congr 1;omega
def Tn(u:Nat):decFrom 0 (decDigits u)=some u:=by
 induction u using Nat.strongRecOn with
 |_ u ih=>
  rw[decDigits];split
  .rename_i h;simp only[decFrom,PR u h];simp
  .rename_i h;rw[PQ,ih (u/10) (by omega)];simp only[AD,decFrom,PR (u%10) (by omega)];congr 1;omega
def Mk(u:Nat):decDigits u≠[]:=by rw[decDigits];split<;>simp
def VN(u:Nat):decNat (decDigits u)=some u:=by unfold decNat;rw[eC (by simpa using Mk u),Tn]
def JO:∀(k u:Nat),u<10 ^ (k+1)->(decDigits u).length<=k+1
 |0,u,h=>by rw[decDigits,dif_pos (by omega)];simp
 |k+1,u,h=>by
  rw[decDigits];split
  .simp
  .have:=JO k (u/10) (by rw[Nat.pow_succ]at h;omega);simp;omega
def BJ(s:bE):Option Int:=match decNat s with
 |some m=>if s.length<=13/\m<=1000000000000/\decDigits m=s then some (m:Int)else none
 |none=>none
def fu{m:Nat}(h:m<=1000000000000):BJ (decDigits m)=some (m:Int):=by have:=JO 12 m (by omega);simp[BJ,VN,h,this]
def Ja{s:bE}{v:Int}(h:BJ s=some v):∃m:Nat,v=m/\m<=1000000000000/\s=decDigits m/\s.length<=13/\decNat s=some m:=by
 unfold BJ at h;split at h
 .rename_i m hm;split at h
  .rename_i hc;simp only[eI]at h;exact⟨m,h.symm,hc.2.1,hc.2.2.symm,hc.1,hm⟩
  .cases h
 .cases h
def YA{s:bE}{v:Int}(h:BJ s=some v):atoiAll s= .ok v:=by
 obtain⟨m,rfl,hm,hs,hl,hd⟩:=Ja h;rw[atoiAll_short s (by omega)];have:atoi s=some (m:Int):=by
  cases s with
  |nil=>simp[decNat]at hd
  |cons b r=>
   have hb:∃d,digitVal b=some d:=by have hd':=hd;simp only[decNat,isEmpty_cons]at hd';exact digit_of_decFrom (b::r) 0 m (by simpa using hd') 0 b rfl
   obtain⟨d,hb⟩:=hb;have h45:(b == 45)=false:=by rw[EV];rintro rfl;simp[digitVal]at hb
   have h43:(b == 43)=false:=by rw[EV];rintro rfl;simp[digitVal]at hb
   simp[atoi,h45,h43,hd]
 rw[this];rfl
def WZ(s:bE):(∃v,atoiAll s= .ok v/\0<=v/\v<=1000000000000/\itoa v=s/\BJ s=some v)\/
  (BJ s=none/\∀v,atoiAll s= .ok v->v<0\/1000000000000<v\/itoa v≠s):=by
 cases h:BJ s with
 |some v=>left;obtain⟨m,rfl,hm,hs,hl,hd⟩:=Ja h;refine⟨(m:Int),YA h,by omega,by omega,?_,rfl⟩;unfold itoa;rw[eC (by omega)];simpa using hs.symm
 |none=>
  right;refine⟨rfl,λv hv=> ?_⟩;by_cases h0:v<0
  .exact .inl h0
  by_cases h1:1000000000000<v
  .exact .inr (.inl h1)
  refine .inr (.inr λhi=> ?_);have:itoa v=decDigits v.toNat:=by unfold itoa;rw[eC h0]
  rw[this]at hi;have:=fu (m:=v.toNat) (by omega);rw[hi,h]at this;cases this
def fw{l:bE}{n:Nat}(h:decFrom 0 l=some n):n<10 ^ l.length:=by have:=decFrom_lt l 0 n h;simpa using this
open Go.Proofs Go.Shelf Go.RowKit
class qR(P:Program)[aG P]: Prop where
  var:∀ w, aG.holds P w -> (∃ tp p, w.var? P "strconv.ErrSyntax" = some #[.iface tp p]) /\ ∃ tp p, w.var? P "strconv.ErrRange" = some #[.iface tp p]
section
variable{P:Program}[aG P]{ρ:Ren}
def F9[qR P](L:LaysC.n172 P ρ)(s:bE)(hl:s.length <= 281474976710656)(w:World)(hg:aG.holds P w):
    Calls P (ρ.f 172) #[.string ⟨s.toArray⟩] w λe w' =>
      ((∃ v, Lib.atoiAll s = .ok v /\ e = .returned (.tuple #[.int .i64 v, .nilIface])) \/
       ((∀ v, Lib.atoiAll s ≠ .ok v) /\ ∃ v t p, e = .returned (.tuple #[.int .i64 v, .iface t p]))) /\ Below w.heap.size w w' := by
  obtain⟨⟨t1, p1, h1⟩, t2, p2, h2⟩ := qR.var w hg;have hb := WY s;cases h:Lib.atoiAll s
  · rename_i v
    refine(Any.strconv_Atoi_ok L ⟨s.toArray⟩ (by rw[Mj]; omega) v (by rw[hb]; exact h) w).mono λe w' ⟨he, hw⟩ => ⟨.inl ⟨v, rfl, he⟩, ?_⟩
    rcases hw with rfl | ⟨t, rfl⟩
    · exact Below.refl _ _
    · exact Lib.bytesWorld_below _ _ _
  · refine(Any.strconv_Atoi_syntax_var L ⟨s.toArray⟩ (by rw[Mj]; exact hl) (by rw[hb]; exact h) t1 p1 w h1).mono λe w' hq => ?_
    obtain⟨N, he, h3, h4, h5⟩ := hq;exact⟨.inr ⟨(λv hv => by cases hv), _, _, _, he⟩, h5⟩
  · refine(Any.strconv_Atoi_range_var L ⟨s.toArray⟩ (by rw[Mj]; exact hl) (by rw[hb]; exact h) t2 p2 w h2).mono λe w' hq => ?_
    obtain⟨N, he, h3, h4, h5⟩ := hq;exact⟨.inr ⟨(λv hv => by cases hv), _, _, _, he⟩, h5⟩
end
open Go.RowKit
def gm(P:Program)(name:String):Bool:=match P.globalNamed name with
 |some g=>match P.globals[g]? with
  |some gl=>match P.underlying gl.type with
   |some (.interface _)=>true
   |_=>false
  |none=>false
 |none=>false
def Ex{P:Program}{W:World}{name nm:String}{d:DataW Unit}(hc:gm P name=true):
  ∀{l:List (String×DataW Unit)} {ps:List MemPlace},DataW.LaidVars P W l ps->(name,.iface nm d)∈l->∃u v,W.var? P name=some #[.iface u v]
 |[],_,_,hm=>by simp at hm
 |(nm',d')::r,ps,h,hm=>by
  obtain⟨g',t',cs,fuel,p,q,hg',ht',aQa,hd,hr,_⟩:=h;rcases mC.1 hm with e1|hm
  .obtain ⟨rfl,rfl⟩:=Prod.mk.inj e1;unfold gm at hc;rw[hg']at hc;dsimp only at hc;split at hc
   .rename_i gl hgl;rw[hgl]at ht';simp only[oR,eI]at ht';subst ht';split at hc
    .rename_i ms hu;obtain⟨f1,u,v,hcs,_,_⟩:=iface_of_trod hu hd;refine⟨u,v,?_⟩;rw[aQa];congr 1;exact Array.toList_inj.1 (by simpa using hcs)
    .cases hc
   .cases hc
  .exact Ex hc hr hm
def aLz(P:Program)(n:Nat)(nm:String):Bool:=match P.globalNamed nm with|some g=>decide (g<n)|none=>true
def Tp{P:Program}{n:Nat}{w w':World}{nm:String}(hl:aLz P n nm=true)(hs:∀b,b<n->w'.heap[b]? =w.heap[b]?):w'.var? P nm=w.var? P nm:=by
 unfold World.var?;unfold aLz at hl;cases hg:P.globalNamed nm with
 |none=>rfl
 |some g=>rw[hg]at hl;simp only[fY]at hl;simp only[AD];rw[hs g hl]
def Hr(P:Program)(w:World):Prop:=(∃tp p,w.var? P "strconv.ErrSyntax" =some #[.iface tp p])/\∃tp p,w.var? P "strconv.ErrRange" =some #[.iface tp p]
def gy{P:Program}{n:Nat}{Tm:List (String×IntKind×List Int)}{ints:List String}(hn:(Yz P n Tm ints&&aLz P n "strconv.ErrSyntax" &&aLz P n "strconv.ErrRange")=true)(w w':World)
  (h:Cs P n Tm ints w/\Hr P w) (hs:∀b,b<n->w'.heap[b]? =w.heap[b]?):Cs P n Tm ints w'/\Hr P w':=by
 simp only[eK]at hn;obtain⟨⟨h1,h2⟩,h3⟩:=hn;refine⟨F8 h1 w w' h.1 hs,?_,?_⟩
 .rw [Tp h2 hs];exact h.2.1
 .rw [Tp h3 hs];exact h.2.2
end Go.Aw
