/- Steps. No condition. -/
import Derived.Test.YtanobkmhbpjnpaaGreatDoorZF4
import Derived.Shelf.Strconv.Itoa3
import Derived.Shelf.Strings.OnBuilder
import Derived.Shelf.Strings.SplitShaped
import Derived.Lib.AppendIntMem
import Derived.HandedShaped
import Derived.LaidMore
set_option linter.all false
namespace Go.Aw
open List
open Go.Proofs Go.Shelf Go.RowKit
class fI(P:Program)[aG P]: Prop where
  tab:∀ w, aG.holds P w -> Lib.TabIs P w "internal/strconv.uint64pow10" .u64 Lib.pow10Tab
class dG(P:Program)[aG P]: Prop where
  cell:∀ w, aG.holds P w -> ∀ g, P.globalNamed "internal/bytealg.MaxLen" = some g -> ∃ m, w.cell? ⟨g, 0, none⟩ = some (.int .i64 m)
def WY(s:bE):(⟨s.toArray⟩:ByteArray).data.toList=s:=by simp
def Mj(s:bE):(⟨s.toArray⟩:ByteArray).size=s.length:=by simp[ByteArray.size]
def FL{n:Nat}{w w':World}(h:Below n w w'):nZ w w':=⟨h.os,h.tape,h.output⟩
def aLw{w:World}{E:Env}{k:IntKind}{n:Int}{vs:List Value}{fp:List Nat}(h:Rc w E [.int k n] vs fp):vs=[.int k n]:=by
 match vs,h with
 |[],h=>simp[Rc]at h
 |[a],h=>simp only[Rc,R]at h;obtain⟨_,_,h1,_,_⟩:=h;rw[h1.1]
 |_::_::_,h=>simp[Rc]at h
def aGx{w:World}{E:Env}{a b:bE}{vs:List Value}{fp:List Nat}(h:Rc w E [.str a,.str b] vs fp):vs=[.string ⟨a.toArray⟩,.string ⟨b.toArray⟩]:=by
 match vs,h with
 |[],h=>simp[Rc]at h
 |[_],h=>simp[Rc]at h
 |[x,y],h=>simp only[Rc,R]at h;obtain⟨_,_,h1,⟨_,_,h2,_⟩,_⟩:=h;rw[h1.1,h2.1]
 |_::_::_::_,h=>simp[Rc]at h
section
variable{P:Program}[aG P]{ρ:Ren}
def aLx[fI P](L:LaysM.n171 P ρ)(n:Int)(h0: -9223372036854775808<=n)(h1:n<=9223372036854775807):Ok P (ρ.f 171) [.int .i64 n] (.str (Lib.itoa n)):=by
 intro w vs hg h;obtain rfl:=aLw h;refine(Any.strconv_Itoa L n h0 h1 w (fI.tab w hg)).mono λe w' ⟨he,k,os,hw⟩=> ?_
 subst hw;have hb:=Lib.below_grow w.heap.size w (eJ _) k os;exact⟨_,[],he,by simp[R],nodup_nil,by simp,hb.size,hb.block,FL hb⟩
def aLy{w:World}{E:Env}{b off:Nat}{l:List bE}{fp:List Nat}(h:Rr w E (l.map λs=>[.str s]) b off 1 fp)(j:Nat)(x:ByteArray)
  (hx:(l.map λs:bE=>(⟨s.toArray⟩:ByteArray))[j]? =some x):w.cell? ⟨b,off+j,none⟩=some (.string x):=by
 rw[vA]at hx;cases hl:l[j]? with
 |none=>simp[hl]at hx
 |some s=>
  simp only[hl,oR,eI]at hx;subst hx;obtain⟨f1,f2,f3,cs,_,hn,hc,_,hr,_,_⟩:=Cy (i:=j) (e:=[.str s]) h (by simp[hl]);match cs,hn,hc,hr with
  |[v],_,hc,hr=>simp only[Rc,R]at hr;obtain⟨_,_,h1,_,_⟩:=hr;have:=hc 0 v rfl;rw[h1.1]at this;simpa using this
def aAz(L:Lays.n156 P ρ)(X:Builder.Extra P ρ)(l:List bE)(sep:bE)(hl:l.length<=140737488355328)(hs:(Lib.join l sep).length<=140737488355328):
  Ok P (ρ.f 156) [.sl .view 1 (l.map λs=>[.str s]),.str sep] (.str (Lib.join l sep)):=by
 intro w vs hg h;have aT8:(l.map λs:bE=>(⟨s.toArray⟩:ByteArray)).map (·.data.toList)=l:=by
  rw[map_map];conv=>rhs;rw[<-map_id l]
  exact map_congr_left λs _=>WY s
 match vs,h with
 |[],h=>simp[Rc]at h
 |[_],h=>simp[Rc]at h
 |_::_::_::_,h=>simp[Rc]at h
 |[x,y],h=>
  simp only[Rc]at h;obtain⟨f1,_,hx,⟨f2,_,hy,_,_⟩,e⟩:=h;simp only[R]at hy;obtain⟨rfl,_⟩:=hy;simp only[R,tE]at hx;rcases hx with hx|⟨a,cap,rfl,⟨dF,uJ⟩,hx⟩
  .exact hx.1.elim
  have fin:∀{e:Ending} {w':World},e= .returned (.string ⟨(Lib.join l sep).toArray⟩)->Below w.heap.size w w'->∃v fp,e= .returned v/\R w' pY (.str (Lib.join l sep)) v fp/\fp.Nodup/\
   (∀b∈fp,w.heap.size<=b/\b<w'.heap.size)/\w.heap.size<=w'.heap.size/\(∀b,b<w.heap.size->w'.heap[b]? =w.heap[b]?)/\nZ w w':=
   λhe hb=>⟨_,[],he,by simp[R],nodup_nil,by simp,hb.size,hb.block,FL hb⟩
  by_cases h0:l=[]
  .subst h0;refine(Any.strings_Join_none L X a cap ⟨sep.toArray⟩ w).mono λe w' ⟨he,hw⟩=>fin ?_ (hw▸Below.refl _ _)
   rw[he];rfl
  .rcases hx with hx|hx|⟨_,_,hx|⟨b,off,rfl,ht,hr⟩⟩
   .exact absurd hx.1 (by simp)
   .exact absurd hx.1 (by simp)
   .exact absurd (map_eq_nil_iff.1 hx) h0
   .have:=Any.strings_Join L X b off cap (l.map λs:bE=>(⟨s.toArray⟩:ByteArray)) ⟨sep.toArray⟩ w (aLy hr) ht (by simpa using hl) (by simpa using uJ) (by rw[aT8];exact hs);rw[aT8,tE]at this;exact this.mono λe w' ⟨he,hb⟩=>fin he hb
def ek(c:UInt8):∀(n:Nat) (s:bE),s.length<=n->Lib.splitK [c] 0 (Lib.count s [c]) s=dQ c s:=by
 intro n;induction n with
 |zero=>intro s hs;obtain rfl:s=[]:=AF.1 (by omega);rfl
 |succ n ih=>
  intro s hs;rw[Oi];by_cases h:jQ c s<s.length
  .have hi:Lib.index s [c]=(jQ c s:Nat):=by rw[Lib.index_one,Ca,dx,eM h]
   rw[Lib.count_hit (by simp) hi,Nat.add_comm,Lib.splitK,eC (by rw[hi,Ds];omega),hi,eM h];simp only[oB,sE,tB];rw[ih _ (by rw[AN];omega)]
  .have hi:Lib.index s [c]= -1:=by rw[Lib.index_one,Ca,dx,eC h]
   rw[Lib.count_miss hi,eC h];rfl
def eu(c:UInt8)(k:Nat)(s:bE)(h:Lib.countB ⟨s.toArray⟩ ⟨#[c]⟩=k):(Lib.splitB ⟨#[c]⟩ 0 k ⟨s.toArray⟩).map (·.data.toList)=dQ c s:=by subst h;rw[Lib.splitB_data];have:=ek c _ s (eJ _);simpa [Lib.countB]using this
def Ti{w:World}{E:Env}{b:Nat}:∀(l:List ByteArray) (off:Nat),(∀j x,l[j]? =some x->w.cell? ⟨b,off+j,none⟩=some (.string x))->Rr w E (l.map λs=>[.str s.data.toList]) b off 1 []
 |[],_,_=>by simp[Rr]
 |x::l,off,h=>by
  simp only[oE,Rr];refine⟨[.string x],[],[],rfl,λj v hv=> ?_,by simp[Value.oneCell'],?_,Ti l (off+1) (λj y hy=> ?_),rfl⟩
  .cases j with
   |zero=>simp only[sR,eI]at hv;subst hv;exact h 0 x rfl
   |succ j=>simp at hv
  .simp [Rc,R]
  .have:=h (j+1) y (by simpa using hy)
   rwa[show off+1+j=off+(j+1)by omega]
def Tj[dG P](L:LaysM.n146 P ρ)(hmx:P.globalNamed "internal/bytealg.MaxLen" =some (ρ.g 1))(s:bE)(c:UInt8)(hs:s.length<4294967281):Ok P (ρ.f 146) [.str s,.str [c]] (.sl .own 1 ((dQ c s).map λp=>[.str p])):=by
 intro w vs hg h;obtain rfl:=aGx h;obtain⟨m,hm⟩:=dG.cell w hg _ hmx;refine(Any.strings_Split {L with} L.i9 ⟨s.toArray⟩ ⟨#[c]⟩ m w (by rw[Mj];exact hs) hm (by simp[ByteArray.size])).mono λe w' ⟨he,hw⟩=> ?_
 have dF:=Lib.splitB_all ⟨#[c]⟩ (by simp[ByteArray.size]) 0 _ ⟨s.toArray⟩ rfl;have aX5:=eu c _ s rfl;generalize hk:Lib.countB ⟨s.toArray⟩ ⟨#[c]⟩=k at*;generalize hl:Lib.splitB ⟨#[c]⟩ 0 k ⟨s.toArray⟩=l at*;have bu:(dQ c s).map (λp=>[AV.str p])=l.map λx=>[AV.str x.data.toList]:=by rw[<-aX5,map_map];rfl
 have hb:Below w.heap.size w w':=by rw[hw];exact(Below.refl _ w).alloc (eJ _) _
 have hh:w'.heap[w.heap.size]? =some (.cells (l.map Value.string).toArray (ρ.t 9)):=by rw[hw];exact iT w _
 have hsz:w'.heap.size=w.heap.size+1:=by rw[hw];simp
 have hc:Lib.countB ⟨s.toArray⟩ ⟨#[c]⟩<=s.length:=by
  have:=Lib.countB_le ⟨#[c]⟩ (by simp[ByteArray.size]) _ ⟨s.toArray⟩ (eJ _)
  rwa[Mj]at this
 rw[hk]at hc;refine⟨_,[w.heap.size],he,?_,by simp,by simp[hsz],hb.size,hb.block,FL hb⟩;rw[bu];refine vU.2 ⟨some ⟨w.heap.size,0,none⟩,k+1,by simp[dF],by simp[dF,maxLen];omega,.inr ⟨w.heap.size,0,(l.map Value.string).toArray,ρ.t 9,(0,0),[],rfl,?_,by simp,by simp[dF],by simp[dF],by simp[maxLen];omega,rfl,?_⟩⟩
 .exact hh
 .refine Ti l 0 λj x hx=> ?_
  simp[World.cell?,hh,hx]
end
def zU{α β:Type}(f:α->β)(l:List α):List β:=l.map f
@[simp] def aGy{α β:Type}(f:α->β):zU f []=[]:=rfl
def AJ{α β:Type}(f:α->β)(l:List α)(k:Nat)(h:k<l.length):zU f (l.take (k+1))=zU f (l.take k)++[f l[k]]:=by simp only[zU];rw[fN h,pP];rfl
def sW{α β:Type}(f:α->β)(l:List α):(zU f l).length=l.length:=tE _
def KF(u:Nat):bE:=if u=0 then []else Lib.decDigits u
def aCl(u:Nat)(h:u≠0):KF u=KF (u/10)++[UInt8.ofNat (48+u%10)]:=by
 unfold KF;rw[eC h,Lib.decDigits];by_cases h1:u<10
 .have e1:u/10=0:=by omega
  have e2:u%10=u:=by omega
  simp[h1,e1,e2]
 .have e1:u/10≠0:=by omega
  simp[h1,e1]
def aCm:Lib.itoa 0=[48]:=by unfold Lib.itoa;rw[eC (by decide),Lib.decDigits];rfl
def itoa_neg{n:Int}{s:bE}(h:n<0)(hs:s=KF n.natAbs):Lib.itoa n=45::s:=by unfold Lib.itoa;rw[eM h,hs,KF,eC (by omega)]
def aGz{n:Int}{s:bE}(h0:n≠0)(h:¬n<0)(hs:s=KF n.natAbs):Lib.itoa n=s:=by unfold Lib.itoa;rw[eC h,hs,KF,eC (by omega)];congr 1;omega
def F7(x:Int)(h1: -9223372036854775808<=x)(h2:x<=9223372036854775807):∃r q:Int,0<=r/\r<=9/\x.tdiv 10=q/\ -9223372036854775808<=q/\q<=9223372036854775807/\q.natAbs=x.natAbs/10/\r=((x.natAbs%10:Nat):Int)/\
  (x.tmod 10=r\/(x.tmod 10= -r/\0<r)):=by
 rcases Int.natAbs_eq x with h|h
 .generalize x.natAbs=u at h;subst h;refine⟨((u%10:Nat):Int),((u/10:Nat):Int),by omega,by omega,rfl,by omega,by omega,by omega,by omega,.inl rfl⟩
 .generalize hu:x.natAbs=u at h;subst h;have e1:(-(u:Int)).tdiv 10= -((u/10:Nat):Int):=by rw[Int.neg_tdiv];rfl
  have e2:(-(u:Int)).tmod 10= -((u%10:Nat):Int):=by rw[Int.neg_tmod];rfl
  refine⟨((u%10:Nat):Int), -((u/10:Nat):Int),by omega,by omega,e1,by omega,by omega,by omega,by omega,?_⟩;rw[e2];by_cases h:u%10=0
  .left;omega
  .right;omega
def aG0(n:Int)(h1:0<=n)(h2:n<=255):IntKind.u8.wrap n=n:=by rw[IntKind.wrap_u8];omega
def kK(n:Int)(h1: -9223372036854775808<=n)(h2:n<=9223372036854775807):(Lib.itoa n).length<=20:=by
 have hd:∀(k u:Nat),u<10 ^ k->1<=k->(Lib.decDigits u).length<=k:=by
  intro k;induction k with
  |zero=>intro u _ h;omega
  |succ k ih=>
   intro u hu _;rw[Lib.decDigits];split
   .simp
   .rename_i h10;rw[eR,tB];have hk:1<=k:=by
     rcases k with _|k
     .simp at hu;omega
     .omega
    have:=ih (u/10) (by rw[Nat.pow_succ]at hu;omega) hk;omega
 unfold Lib.itoa;split
 .have:=hd 19 n.natAbs (by omega) (by omega);rw[eL];omega
 .have:=hd 19 n.toNat (by omega) (by omega);omega
def aG1(n:Int)(h1: -9223372036854775808<=n)(h2:n<=9223372036854775807):(KF n.natAbs).length<=20:=by
 have:=kK n h1 h2;unfold KF;split
 .simp
 .unfold Lib.itoa at this;split at this
  .rw [eL]at this;omega
  .rename_i h;rw[show n.toNat=n.natAbs by omega]at this;exact this
open Go.RowKit
section
variable{H:Type}{enc:TypeId × Value -> H}
def Tk{a:Assume}{C:Checked}{os:Os}{f:FuncId}{fn:Func}{s:ChangeSpec}{conds:List PathCond}{fV eB handsOn again:Bool}{X:World->Array Value->Prop}
  (hX:∀(w w':World) (args:Array Value),w.heap=w'.heap->X w args->X w' args)
  (own:ownKnob C.prog.godebug=none) (started:os.Started) (aP8:C.prog.inits.idxOf? f=none) (hfn:C.prog.funcs[f]? =some fn)
  (witness:∃(w:World) (tape:Tape) (i:Input),w.os=os/\(w.forCall tape i).Shaped C.prog/\i.vars=[]/\Input.okWide C.prog (w.forCall tape i) .any w.heap.size f i/\
   ((s.pre enc C.prog fn conds fV (w.forCall tape i).memory i.args/\X (w.forCall tape i).memory i.args)/\sizedMet enc C.prog fn (OpenSpec.ofChange s) fV (w.forCall tape i).memory i.args)/\a.holds C.prog (lone (Frame.enter C.prog f i.args .normal) [] (w.forCall tape i)))
  (aG2:∀(W:World) (base:Nat) (args:Array Value) (ds gs:List (DataW H)) (before:List MemPlace),
   (∀(j:Nat) t v,fn.params[j]? =some t->args[j]? =some v->Value.okWide C.prog W .any base t v)->
   DataW.Whole enc C.prog fn.params.toList s.vars fV W args.toList ds gs before->X W args->W.ShapedOpen C.prog->
   Calls C.prog f args W λe W'=>∃v,e= .returned v/\s.post enc C.prog fn fV eB handsOn again W args v W'):
  ReturnsInHanded a C os f .any (λw args=>(s.pre enc C.prog fn conds fV w args/\X w args)/\sizedMet enc C.prog fn (OpenSpec.ofChange s) fV w args) (s.post enc C.prog fn fV eB handsOn again):=by
 refine returnsInHanded_of_calls own started aP8 witness ?_;intro w tape i _ hsh _ rP hpre aX6;obtain⟨_,_,_,fn',aX7,_,_,_,_,hval⟩:=rP;have e:fn'=fn:=cX (aX7.symm.trans hfn);subst e;obtain⟨⟨⟨ds,gs,before,hw,hc⟩,hx⟩,hz⟩:=hpre;have hw':=DataW.Whole.of_heap (w':=w.forCall tape i) (by rfl) hw;refine(aG2 (w.forCall tape i) w.heap.size i.args ds gs before hval hw' (hX _ _ _ (by rfl) hx) hsh).mono λe W' ⟨v,he,hp⟩=> ?_
 subst he;exact ChangeSpec.post_blind hp
end
def aG3(P:Program)(name:String)(k:IntKind):Bool:=match P.globalNamed name with
 |some g=>match P.globals[g]? with
  |some gl=>match P.underlying gl.type with
   |some (.array n e)=>(match P.underlying e with|some (.int k')=>decide (k'=k)|_=>false)&&(P.cellsOf e == 1&&P.cellsOf gl.type == n)
   |_=>false
  |none=>false
 |none=>false
def JN{P:Program}{W:World}{name:String}{k:IntKind}{zs:List Int}(hc:aG3 P name k=true):
  ∀{l:List (String×DataW Unit)} {ps:List MemPlace},DataW.LaidVars P W l ps->(name,Lib.tabData k zs)∈l->Lib.TabIs P W name k zs
 |[],_,_,hm=>by simp at hm
 |(nm,d)::r,ps,h,hm=>by
  obtain⟨g',t',cs,fuel,p,q,hg',ht',aQa,hd,hr,_⟩:=h;rcases mC.1 hm with e1|hm
  .obtain ⟨rfl,rfl⟩:=Prod.mk.inj e1;unfold aG3 at hc;rw[hg']at hc;dsimp only at hc;split at hc
   .rename_i gl hgl;rw[hgl]at ht';simp only[oR,eI]at ht';subst ht';split at hc
    .rename_i n e hu;simp only[eK,Ds]at hc;obtain⟨h1,h2,h3⟩:=hc;split at h1
     .rename_i k' hk;obtain rfl:k'=k:=by simpa using h1
      unfold Lib.TabIs;rw[aQa,<-Lib.cells_of_tab hu hk h2 h3 hd]
     .cases h1
    .cases hc
   .cases hc
  .exact JN hc hr hm
def Cs(P:Program)(n:Nat)(Tm:List (String×IntKind×List Int))(ints:List String)(w:World):Prop:=
 n<=w.heap.size/\(∀x∈Tm,Lib.TabIs P w x.1 x.2.1 x.2.2)/\∀x∈ints,∀g,P.globalNamed x=some g->∃m,w.cell? ⟨g,0,none⟩=some (.int .i64 m)
def Yz(P:Program)(n:Nat)(Tm:List (String×IntKind×List Int))(ints:List String):Bool:=
 (Tm.all λx=>match P.globalNamed x.1 with|some g=>decide (g<n)|none=>true)&&ints.all λx=>match P.globalNamed x with|some g=>decide (g<n)|none=>true
def F8{P:Program}{n:Nat}{Tm:List (String×IntKind×List Int)}{ints:List String}(hn:Yz P n Tm ints=true)(w w':World)(h:Cs P n Tm ints w)
  (hs:∀b,b<n->w'.heap[b]? =w.heap[b]?):Cs P n Tm ints w':=by
 obtain⟨h1,h2,h3⟩:=h;simp only[Yz,eK,fW]at hn;have hlt:n<=w'.heap.size:=by
  rcases Nat.eq_zero_or_pos n with h0|h0
  .omega
  .have:=hs (n-1) (by omega);rw[rS (xs:=w.heap) (i:=n-1) (by omega)]at this;have:=(yW.1 this).1;omega
 refine⟨hlt,λx hx=> ?_,λx hx g hg=> ?_⟩
 .have h4:=h2 x hx;have h5:=hn.1 x hx;unfold Lib.TabIs World.var? at*;cases hg:P.globalNamed x.1 with
  |none=>rw[hg]at h4;simp at h4
  |some g=>rw[hg]at h4 h5;simp only[fY]at h5;simp only[AD]at h4⊢;rw[hs g h5];exact h4
 .have h5:=hn.2 x hx;rw[hg]at h5;simp only[fY]at h5;obtain⟨m,hm⟩:=h3 x hx g hg;refine⟨m,?_⟩;simpa [World.cell?,hs g h5]using hm
def fe{P:Program}{w:World}{name:String}{k:IntKind}{zs:List Int}{g n:Nat}(h:Lib.TabIs P w name k zs)(hg:P.globalNamed name=some g)(hn:n<=g+1):n<=w.heap.size:=by
 unfold Lib.TabIs World.var? at h;rw[hg]at h;simp only[AD]at h;have:g<w.heap.size:=by
  rcases AM g w.heap.size with h'|h'
  .exact h'
  .simp [Array.getElem?_eq_none h']at h
 omega
end Go.Aw
