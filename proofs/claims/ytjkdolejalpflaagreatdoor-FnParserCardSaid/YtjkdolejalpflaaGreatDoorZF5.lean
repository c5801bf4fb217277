/- Proved here: steps towards the statement of this claim. No condition. -/
import Derived.Test.YtjkdolejalpflaaGreatDoorZF4
import Derived.Shelf.Strconv.Itoa3
import Derived.Shelf.Strings.OnBuilder
import Derived.Shelf.Strings.SplitShaped
import Derived.Lib.AppendIntMem
import Derived.HandedShaped
import Derived.LaidMore
set_option linter.all false
namespace Go.Aw
open List
open Go.Proofs Go.Shelf Go.RowKit
class eD(P:Program)[aB P]: Prop where
  tab:∀ w, aB.holds P w -> Lib.TabIs P w "internal/strconv.uint64pow10" .u64 Lib.pow10Tab
class eZ(P:Program)[aB P]: Prop where
  cell:∀ w, aB.holds P w -> ∀ g, P.globalNamed "internal/bytealg.MaxLen" = some g -> ∃ m, w.cell? ⟨g, 0, none⟩ = some (.int .i64 m)
theorem Ya(s:aX):(⟨s.toArray⟩:ByteArray).data.toList=s:=by simp
theorem FJ(s:aX):(⟨s.toArray⟩:ByteArray).size=s.length:=by simp[ByteArray.size]
theorem Ez{n:Nat}{w w':World}(h:Below n w w'):iW w w':=⟨h.os,h.tape,h.output⟩
theorem C9{w:World}{E:Env}{k:IntKind}{n:Int}{vs:List Value}{fp:List Nat}(h:Rc w E [.int k n] vs fp):vs=[.int k n]:=by
 match vs,h with
 |[],h=>simp[Rc]at h
 |[a],h=>simp only[Rc,R]at h;obtain⟨_,_,h1,_,_⟩:=h;rw[h1.1]
 |_::_::_,h=>simp[Rc]at h
theorem il{w:World}{E:Env}{a b:aX}{vs:List Value}{fp:List Nat}(h:Rc w E [.str a,.str b] vs fp):vs=[.string ⟨a.toArray⟩,.string ⟨b.toArray⟩]:=by
 match vs,h with
 |[],h=>simp[Rc]at h
 |[_],h=>simp[Rc]at h
 |[x,y],h=>simp only[Rc,R]at h;obtain⟨_,_,h1,⟨_,_,h2,_⟩,_⟩:=h;rw[h1.1,h2.1]
 |_::_::_::_,h=>simp[Rc]at h
section
variable{P:Program}[aB P]{ρ:Ren}
theorem D6[eD P](L:LaysM.n171 P ρ)(n:Int)(h0: -9223372036854775808<=n)(h1:n<=9223372036854775807):Ok P (ρ.f 171) [.int .i64 n] (.str (Lib.itoa n)):=by
 intro w vs hg h;obtain rfl:=C9 h;refine(Any.strconv_Itoa L n h0 h1 w (eD.tab w hg)).mono λe w' ⟨he,k,os,hw⟩=> ?_
 subst hw;have hb:=Lib.below_grow w.heap.size w (cX _) k os;exact⟨_,[],he,by simp[R],nodup_nil,by simp,hb.size,hb.block,Ez hb⟩
theorem SA(c:UInt8):∀(n:Nat) (s:aX),s.length<=n->Lib.splitK [c] 0 (Lib.count s [c]) s=dP c s:=by
 intro n;induction n with
 |zero=>intro s hs;obtain rfl:s=[]:=length_eq_zero_iff.1 (by omega);rfl
 |succ n ih=>
  intro s hs;rw[Oz];by_cases h:gD c s<s.length
  .have hi:Lib.index s [c]=(gD c s:Nat):=by rw[Lib.index_one,wK,Sy,eA h]
   rw[Lib.count_hit (by simp) hi,Nat.add_comm,Lib.splitK,cU (by rw[hi,beq_iff_eq];omega),hi,eA h];simp only[rK,oS,length_singleton];rw[ih _ (by rw[tG];omega)]
  .have hi:Lib.index s [c]= -1:=by rw[Lib.index_one,wK,Sy,cU h]
   rw[Lib.count_miss hi,cU h];rfl
theorem SB(c:UInt8)(k:Nat)(s:aX)(h:Lib.countB ⟨s.toArray⟩ ⟨#[c]⟩=k):(Lib.splitB ⟨#[c]⟩ 0 k ⟨s.toArray⟩).map (·.data.toList)=dP c s:=by subst h;rw[Lib.splitB_data];have:=SA c _ s (cX _);simpa [Lib.countB]using this
theorem Li{w:World}{E:Env}{b:Nat}:∀(l:List ByteArray) (off:Nat),(∀j x,l[j]? =some x->w.cell? ⟨b,off+j,none⟩=some (.string x))->Rr w E (l.map λs=>[.str s.data.toList]) b off 1 []
 |[],_,_=>by simp[Rr]
 |x::l,off,h=>by
  simp only[mS,Rr];refine⟨[.string x],[],[],rfl,λj v hv=> ?_,by simp[Value.oneCell'],?_,Li l (off+1) (λj y hy=> ?_),rfl⟩
  .cases j with
   |zero=>simp only[sL,cQ]at hv;subst hv;exact h 0 x rfl
   |succ j=>simp at hv
  .simp [Rc,R]
  .have:=h (j+1) y (by simpa using hy)
   rwa[show off+1+j=off+(j+1)by omega]
theorem SC[eZ P](L:LaysM.n146 P ρ)(hmx:P.globalNamed "internal/bytealg.MaxLen" =some (ρ.g 1))(s:aX)(c:UInt8)(hs:s.length<4294967281):Ok P (ρ.f 146) [.str s,.str [c]] (.sl .own 1 ((dP c s).map λp=>[.str p])):=by
 intro w vs hg h;obtain rfl:=il h;obtain⟨m,hm⟩:=eZ.cell w hg _ hmx;refine(Any.strings_Split {L with} L.i9 ⟨s.toArray⟩ ⟨#[c]⟩ m w (by rw[FJ];exact hs) hm (by simp[ByteArray.size])).mono λe w' ⟨he,hw⟩=> ?_
 have hlen:=Lib.splitB_all ⟨#[c]⟩ (by simp[ByteArray.size]) 0 _ ⟨s.toArray⟩ rfl;have aHp:=SB c _ s rfl;generalize hk:Lib.countB ⟨s.toArray⟩ ⟨#[c]⟩=k at*;generalize hl:Lib.splitB ⟨#[c]⟩ 0 k ⟨s.toArray⟩=l at*;have Sl:(dP c s).map (λp=>[AV.str p])=l.map λx=>[AV.str x.data.toList]:=by rw[<-aHp,map_map];rfl
 have hb:Below w.heap.size w w':=by rw[hw];exact(Below.refl _ w).alloc (cX _) _
 have hh:w'.heap[w.heap.size]? =some (.cells (l.map Value.string).toArray (ρ.t 9)):=by rw[hw];exact eU w _
 have hsz:w'.heap.size=w.heap.size+1:=by rw[hw];simp
 have hc:Lib.countB ⟨s.toArray⟩ ⟨#[c]⟩<=s.length:=by
  have:=Lib.countB_le ⟨#[c]⟩ (by simp[ByteArray.size]) _ ⟨s.toArray⟩ (cX _)
  rwa[FJ]at this
 rw[hk]at hc;refine⟨_,[w.heap.size],he,?_,by simp,by simp[hsz],hb.size,hb.block,Ez hb⟩;rw[Sl];refine qW.2 ⟨some ⟨w.heap.size,0,none⟩,k+1,by simp[hlen],by simp[hlen,maxLen];omega,.inr ⟨w.heap.size,0,(l.map Value.string).toArray,ρ.t 9,(0,0),[],rfl,?_,by simp,by simp[hlen],by simp[hlen],by simp[maxLen];omega,rfl,?_⟩⟩
 .exact hh
 .refine Li l 0 λj x hx=> ?_
  simp[World.cell?,hh,hx]
end
def PX{α β:Type}(f:α->β)(l:List α):List β:=l.map f
@[simp] theorem aD1{α β:Type}(f:α->β):PX f []=[]:=rfl
theorem Yb{α β:Type}(f:α->β)(l:List α)(k:Nat)(h:k<l.length):PX f (l.take (k+1))=PX f (l.take k)++[f l[k]]:=by simp only[PX];rw[eN h,oT];rfl
theorem SE{α β:Type}(f:α->β)(l:List α):(PX f l).length=l.length:=As _
def EA(u:Nat):aX:=if u=0 then []else Lib.decDigits u
theorem Yc(u:Nat)(h:u≠0):EA u=EA (u/10)++[UInt8.ofNat (48+u%10)]:=by
 unfold EA;rw[cU h,Lib.decDigits];by_cases h1:u<10
 .have e1:u/10=0:=by omega
  have e2:u%10=u:=by omega
  simp[h1,e1,e2]
 .have e1:u/10≠0:=by omega
  simp[h1,e1]
theorem Yd:Lib.itoa 0=[48]:=by unfold Lib.itoa;rw[cU (by decide),Lib.decDigits];rfl
theorem itoa_neg{n:Int}{s:aX}(h:n<0)(hs:s=EA n.natAbs):Lib.itoa n=45::s:=by unfold Lib.itoa;rw[eA h,hs,EA,cU (by omega)]
theorem iq{n:Int}{s:aX}(h0:n≠0)(h:¬n<0)(hs:s=EA n.natAbs):Lib.itoa n=s:=by unfold Lib.itoa;rw[cU h,hs,EA,cU (by omega)];congr 1;omega
theorem Vm(x:Int)(h1: -9223372036854775808<=x)(h2:x<=9223372036854775807):∃r q:Int,0<=r/\r<=9/\x.tdiv 10=q/\ -9223372036854775808<=q/\q<=9223372036854775807/\q.natAbs=x.natAbs/10/\r=((x.natAbs%10:Nat):Int)/\
  (x.tmod 10=r\/(x.tmod 10= -r/\0<r)):=by
 rcases Int.natAbs_eq x with h|h
 .generalize x.natAbs=u at h;subst h;refine⟨((u%10:Nat):Int),((u/10:Nat):Int),by omega,by omega,rfl,by omega,by omega,by omega,by omega,.inl rfl⟩
 .generalize hu:x.natAbs=u at h;subst h;have e1:(-(u:Int)).tdiv 10= -((u/10:Nat):Int):=by rw[Int.neg_tdiv];rfl
  have e2:(-(u:Int)).tmod 10= -((u%10:Nat):Int):=by rw[Int.neg_tmod];rfl
  refine⟨((u%10:Nat):Int), -((u/10:Nat):Int),by omega,by omega,e1,by omega,by omega,by omega,by omega,?_⟩;rw[e2];by_cases h:u%10=0
  .left;omega
  .right;omega
theorem iw(n:Int)(h1:0<=n)(h2:n<=255):IntKind.u8.wrap n=n:=by rw[IntKind.wrap_u8];omega
theorem fM(n:Int)(h1: -9223372036854775808<=n)(h2:n<=9223372036854775807):(Lib.itoa n).length<=20:=by
 have hd:∀(k u:Nat),u<10 ^ k->1<=k->(Lib.decDigits u).length<=k:=by
  intro k;induction k with
  |zero=>intro u _ h;omega
  |succ k ih=>
   intro u hu _;rw[Lib.decDigits];split
   .simp
   .rename_i h10;rw[eJ,length_singleton];have hk:1<=k:=by
     rcases k with _|k
     .simp at hu;omega
     .omega
    have:=ih (u/10) (by rw[Nat.pow_succ]at hu;omega) hk;omega
 unfold Lib.itoa;split
 .have:=hd 19 n.natAbs (by omega) (by omega);rw[eE];omega
 .have:=hd 19 n.toNat (by omega) (by omega);omega
theorem iy(n:Int)(h1: -9223372036854775808<=n)(h2:n<=9223372036854775807):(EA n.natAbs).length<=20:=by
 have:=fM n h1 h2;unfold EA;split
 .simp
 .unfold Lib.itoa at this;split at this
  .rw [eE]at this;omega
  .rename_i h;rw[show n.toNat=n.natAbs by omega]at this;exact this
open Go.RowKit
section
variable{H:Type}{enc:TypeId × Value -> H}
theorem Lj{a:Assume}{C:Checked}{os:Os}{f:FuncId}{fn:Func}{s:ChangeSpec}{conds:List PathCond}{apart fresh handsOn again:Bool}{X:World->Array Value->Prop}
  (hX:∀(w w':World) (args:Array Value),w.heap=w'.heap->X w args->X w' args)
  (own:ownKnob C.prog.godebug=none) (started:os.Started) (aAx:C.prog.inits.idxOf? f=none) (hfn:C.prog.funcs[f]? =some fn)
  (witness:∃(w:World) (tape:Tape) (i:Input),w.os=os/\(w.forCall tape i).Shaped C.prog/\i.vars=[]/\Input.okWide C.prog (w.forCall tape i) .any w.heap.size f i/\
   ((s.pre enc C.prog fn conds apart (w.forCall tape i).memory i.args/\X (w.forCall tape i).memory i.args)/\sizedMet enc C.prog fn (OpenSpec.ofChange s) apart (w.forCall tape i).memory i.args)/\a.holds C.prog (lone (Frame.enter C.prog f i.args .normal) [] (w.forCall tape i)))
  (ja:∀(W:World) (base:Nat) (args:Array Value) (ds gs:List (DataW H)) (before:List MemPlace),
   (∀(j:Nat) t v,fn.params[j]? =some t->args[j]? =some v->Value.okWide C.prog W .any base t v)->
   DataW.Whole enc C.prog fn.params.toList s.vars apart W args.toList ds gs before->X W args->W.ShapedOpen C.prog->
   Calls C.prog f args W λe W'=>∃v,e= .returned v/\s.post enc C.prog fn apart fresh handsOn again W args v W'):
  ReturnsInHanded a C os f .any (λw args=>(s.pre enc C.prog fn conds apart w args/\X w args)/\sizedMet enc C.prog fn (OpenSpec.ofChange s) apart w args) (s.post enc C.prog fn apart fresh handsOn again):=by
 refine returnsInHanded_of_calls own started aAx witness ?_;intro w tape i _ yn _ qD hpre aHq;obtain⟨_,_,_,fn',aHr,_,_,_,_,hval⟩:=qD;have e:fn'=fn:=cD (aHr.symm.trans hfn);subst e;obtain⟨⟨⟨ds,gs,before,hw,hc⟩,hx⟩,hz⟩:=hpre;have YR:=DataW.Whole.of_heap (w':=w.forCall tape i) (by rfl) hw;refine(ja (w.forCall tape i) w.heap.size i.args ds gs before hval YR (hX _ _ _ (by rfl) hx) yn).mono λe W' ⟨v,he,hp⟩=> ?_
 subst he;exact ChangeSpec.post_blind hp
end
def jb(P:Program)(name:String)(k:IntKind):Bool:=match P.globalNamed name with
 |some g=>match P.globals[g]? with
  |some gl=>match P.underlying gl.type with
   |some (.array n e)=>(match P.underlying e with|some (.int k')=>decide (k'=k)|_=>false)&&(P.cellsOf e == 1&&P.cellsOf gl.type == n)
   |_=>false
  |none=>false
 |none=>false
theorem DJ{P:Program}{W:World}{name:String}{k:IntKind}{zs:List Int}(hc:jb P name k=true):
  ∀{l:List (String×DataW Unit)} {ps:List MemPlace},DataW.LaidVars P W l ps->(name,Lib.tabData k zs)∈l->Lib.TabIs P W name k zs
 |[],_,_,hm=>by simp at hm
 |(nm,d)::r,ps,h,hm=>by
  obtain⟨g',t',cs,fuel,p,q,hg',ht',aAz,hd,hr,_⟩:=h;rcases lE.1 hm with e1|hm
  .obtain ⟨rfl,rfl⟩:=Prod.mk.inj e1;unfold jb at hc;rw[hg']at hc;dsimp only at hc;split at hc
   .rename_i gl Ke;rw[Ke]at ht';simp only[lR,cQ]at ht';subst ht';split at hc
    .rename_i n e hu;simp only[eC,beq_iff_eq]at hc;obtain⟨h1,h2,h3⟩:=hc;split at h1
     .rename_i k' hk;obtain rfl:k'=k:=by simpa using h1
      unfold Lib.TabIs;rw[aAz,<-Lib.cells_of_tab hu hk h2 h3 hd]
     .cases h1
    .cases hc
   .cases hc
  .exact DJ hc hr hm
def wR(P:Program)(n:Nat)(Ll:List (String×IntKind×List Int))(ints:List String)(w:World):Prop:=
 n<=w.heap.size/\(∀x∈Ll,Lib.TabIs P w x.1 x.2.1 x.2.2)/\∀x∈ints,∀g,P.globalNamed x=some g->∃m,w.cell? ⟨g,0,none⟩=some (.int .i64 m)
def PY(P:Program)(n:Nat)(Ll:List (String×IntKind×List Int))(ints:List String):Bool:=
 (Ll.all λx=>match P.globalNamed x.1 with|some g=>decide (g<n)|none=>true)&&ints.all λx=>match P.globalNamed x with|some g=>decide (g<n)|none=>true
theorem Vn{P:Program}{n:Nat}{Ll:List (String×IntKind×List Int)}{ints:List String}(hn:PY P n Ll ints=true)(w w':World)(h:wR P n Ll ints w)
  (hs:∀b,b<n->w'.heap[b]? =w.heap[b]?):wR P n Ll ints w':=by
 obtain⟨h1,h2,h3⟩:=h;simp only[PY,eC,gR]at hn;have hlt:n<=w'.heap.size:=by
  rcases Nat.eq_zero_or_pos n with h0|h0
  .omega
  .have:=hs (n-1) (by omega);rw[oR (xs:=w.heap) (i:=n-1) (by omega)]at this;have:=(rL.1 this).1;omega
 refine⟨hlt,λx hx=> ?_,λx hx g hg=> ?_⟩
 .have h4:=h2 x hx;have h5:=hn.1 x hx;unfold Lib.TabIs World.var? at*;cases hg:P.globalNamed x.1 with
  |none=>rw[hg]at h4;simp at h4
  |some g=>rw[hg]at h4 h5;simp only[gS]at h5;simp only[sB]at h4⊢;rw[hs g h5];exact h4
 .have h5:=hn.2 x hx;rw[hg]at h5;simp only[gS]at h5;obtain⟨m,hm⟩:=h3 x hx g hg;refine⟨m,?_⟩;simpa [World.cell?,hs g h5]using hm
theorem SF{P:Program}{w:World}{name:String}{k:IntKind}{zs:List Int}{g n:Nat}(h:Lib.TabIs P w name k zs)(hg:P.globalNamed name=some g)(hn:n<=g+1):n<=w.heap.size:=by
 unfold Lib.TabIs World.var? at h;rw[hg]at h;simp only[sB]at h;have:g<w.heap.size:=by
  rcases At g w.heap.size with h'|h'
  .exact h'
  .simp [Array.getElem?_eq_none h']at h
 omega
end Go.Aw
