/- Proved here: steps towards the statement of this claim. No condition. -/
import Derived.Test.YtjkdolejalpflaaGreatDoorZF4
set_option linter.all false
namespace Go.Aw
open List
section
variable{P:Program}[aB P]{B:eP P}{s:AS}{dst:Option Tmp}{ty:TypeId}{pos:String}{after:Array Edge}{gd:Option (Nat × Bool)}
end
structure Plc where
  at_:Nat
  n:Nat
  st:List (Nat × aD)
def stg(J:Nat->Bool)(h:aD):List (Nat×aD)->aD
 |[]=>h
 |q::r=>if J q.1=true then q.2 else stg J h r
def vst(i:Nat)(pr:List Nat)(h dead:aD):List (Nat×aD)->aD
 |[]=>h
 |q::r=>if q.1∈pr then q.2 else if q.1=i\/i∈r.map (·.1)then vst i pr h dead r else dead
def hole(n:Nat):aD:=⟨true,false,n,0,[]⟩
def aEl(n:Nat):aD:=⟨false,false,n,0,[]⟩
def aEm(J:Nat->Bool):List Plc->List aD->List aD
 |[],o=>o
 |p::r,o=>aEm J r (o.set p.at_ (stg J (hole p.n) p.st))
def aEn(i:Nat)(pr:List Nat):List Plc->List aD->List aD
 |[],o=>o
 |p::r,o=>aEn i pr r (o.set p.at_ (vst i pr (hole p.n) (aEl p.n) p.st))
def aBh(l:List Oper):List (Nat×aD)->Bool
 |[]=>true
 |[_]=>true
 |q::q'::r=>(nM l q.1).contains q'.1&&aBh l (q'::r)
def aIe(l:List Oper)(fl:List Plc)(n:Nat):Bool:=
 decide (fl.map (·.at_)).Nodup&&(fl.all λp=>decide (p.at_<n)&&aBh l p.st&&decide (p.st.map (·.1)).Nodup&&p.st.all λq=>decide (q.1<l.length))&&decide ((fl.flatMap λp=>p.st.map (·.1))).Nodup
@[irreducible] def TC{α:Type}(x:α):α:=x
theorem qU{α:Type}(x:α):TC x=x:=by unfold TC;rfl
def tO(f:Nat->Bool):Code->Code
 | .region id ops true=>if f id then .region id (TC ops) true else .region id ops true
 | .region id ops false=>if f id then TC (.region id ops false)else .region id ops false
 | .seq x y=> .seq (tO f x) (tO f y)
 | .cond c x y=> .cond c (tO f x) (tO f y)
 | .block id c=> .block id (tO f c)
 | .loop c=> .loop (tO f c)
 |c=>c
theorem tQ(f:Nat->Bool):∀c:Code,tO f c=c
 | .region id ops true=>by simp only[tO];split<;>simp[qU]
 | .region id ops false=>by simp only[tO];split<;>simp[qU]
 | .seq x y=>by simp[tO,tQ f x,tQ f y]
 | .cond c x y=>by simp[tO,tQ f x,tQ f y]
 | .block id c=>by simp[tO,tQ f c]
 | .loop c=>by simp[tO,tQ f c]
 | .skip=>rfl
 | .exit _=>rfl
 | .ret=>rfl
 | .rangeFunc _ _ _ _=>rfl
 | .scope _=>rfl
 | .label _=>rfl
 | .goto _=>rfl
 | .refuse _=>rfl
theorem rR{P:Program}[aB P](hm:P.follows .mixedOrders=true){f:FuncId}{fn:Func}{c c':Code}(L:List Nat)(hf:P.funcs[f]? =some fn){n:Nat}(hn:fn.ntmps=n){args t:List AV}{rr:AV}
  (h:kY P c' ⟨t,[]⟩ (λe s=>(e= .normal\/e= .ret)/\aT P fn s rr)) (hb:fn.body=some c:=by rfl)
  (hc:tO (λi=>L.contains i) c=c':=by simp[tO];rfl)
  (ht:args++replicate (n-args.length) .undef=t:=by
   simp only[eE,eR,Nat.reduceSub,Nat.reduceAdd,lB,rN,cM,cW];rfl):Ok P f args rr:=by
 subst ht;subst hn;subst hc;rw[tQ]at h;exact Ot hm hf hb h
theorem go_weak{P:Program}[aB P]{id:Nat}{l:List Oper}{s s2:AS}{Q:Exit->AS->Prop}(hw:kR s s2)(h:kY P (.region id l.toArray false) s2 Q):kY P (TC (.region id l.toArray false)) s Q:=by rw[qU];exact AB hw h
section
variable{P:Program}[aB P]{l:List Oper}{t:List AV}{b:List aD}{fl:List Plc}{K:AS -> Prop}{j:Nat}{op:Oper}{r:List Oper}{vs:List AV}{pr:List Nat}{m:List AV}{om:List aD}
end
attribute [simp] aEm aEn stg vst hole aEl aIe aBh
def kW(P:Program)(fn:Func)(s:AS)(r:AV):Prop:=
 ∃ys,s.wI P fn.results.toList=some ys/\gG s.o (single ys)=true/\(iB (single ys)).Nodup/\res s.o (single ys)=r
def yU(P:Program)(fn:Func)(s:AS)(r:AV):Prop:=
 ∃i ys,s.zI P fn.results.toList=some (i,ys)/\gG s.o (single ys)=true/\(iB (single ys)).Nodup/\i∉iB (single ys)/\res s.o (single ys)=r
theorem nJ{P:Program}{fn:Func}{s:AS}{r:AV}(h:match s.zI P fn.results.toList with|some (i,ys)=>gG s.o (single ys)=true/\(iB (single ys)).Nodup/\i∉iB (single ys)/\res s.o (single ys)=r|none=>False):yU P fn s r:=by
 unfold yU;split at h
 .rename_i i ys hx;exact⟨i,ys,hx,h⟩
 .exact h.elim
theorem VY{P:Program}[aB P](hm:P.follows .mixedOrders=true){f:FuncId}{fn:Func}{c:Code}(hf:P.funcs[f]? =some fn)(hb:fn.body=some c){args:List AV}{rr:AV}(vQ:Et args=true)
  (h:kY P c ⟨args++replicate (fn.ntmps-args.length) .undef,[]⟩ (λe s=>(e= .normal\/e= .ret)/\(kW P fn s rr\/yU P fn s rr))):Ok P f args rr:=by
 intro w vs hg hargs;have hl:=eG hargs;have r0:bU ⟨w,λ_=>False,λ_=>False,λ_=>none,λ_=>none,hg,λ_ h=>h.elim,λ_ h=>h.elim⟩ ⟨args++replicate (fn.ntmps-args.length) .undef,[]⟩ [] {tmps:=vs.toArray++Array.replicate (fn.ntmps-vs.toArray.size) Go.undef,defers:=[]} w:=by
  refine⟨rfl,rfl,λi ob g hl=>by simp[look]at hl,λi j oi oj gi gj b hl=>by simp[look]at hl,λi ob g b hl=>by simp[look]at hl,?_,cX _,λ_ _ _=>rfl,λb hb=>hb.elim,iW.rfl⟩;have h1:Rc w (env ⟨w,λ_=>False,λ_=>False,λ_=>none,λ_=>none,hg,λ_ h=>h.elim,λ_ h=>h.elim⟩ [] [] w) args vs []:=Eu _ _ _ vQ hargs;have h2:∀n,Rc w (env ⟨w,λ_=>False,λ_=>False,λ_=>none,λ_=>none,hg,λ_ h=>h.elim,λ_ h=>h.elim⟩ [] [] w) (replicate n .undef) (replicate n Go.undef) []:=by
   intro n;induction n with
   |zero=>simp[Rc]
   |succ n ih=>simp only[lB,Rc];exact⟨[],[],by simp[R],ih,rfl⟩
  have:=gK h1 (h2 (fn.ntmps-args.length));simpa [hl]using this
 refine AT hf hb (CN (lC hm c _ _ h _ _ ⟨_,r0⟩) λe a w' he=> ?_);obtain⟨s,⟨he,AZ⟩,G,r⟩:=he;have key:∃(v:Value) (fp:List Nat),(results fn a.tmps).run P w'= .ok v w'/\R w' (env ⟨w,λ_=>False,λ_=>False,λ_=>none,λ_=>none,hg,λ_ h=>h.elim,λ_ h=>h.elim⟩ s.o G w').plain rr v fp/\fp.Nodup/\∀b∈fp,∃j ob g,look s.o G j ob g/\ob.live=true/\g.F b:=by
  rcases AZ with⟨ys,Dk,qD,hu,mD⟩|⟨i,ys,Dk,qD,hu,hi,mD⟩
  .obtain ⟨v,hrun,hR⟩:=oF r Dk;obtain⟨fp,h1,h2,h3⟩:=Bp r _ v qD hu hR;rw[mD]at h1;exact⟨v,fp,hrun,h1,h2,λb hb=>by obtain⟨i,ob,g,_,h⟩:=h3 b hb;exact⟨i,ob,g,h⟩⟩
  .obtain ⟨v,Jr,ob,g,hlk,hlive,hrun,hR,hnd,hF⟩:=tK r Dk;obtain⟨fp,h1,h2,h3⟩:=GN r hlk hlive _ v Jr qD hu hi hnd hF hR;rw[mD]at h1;refine⟨v,fp,hrun,h1,h2,λb hb=> ?_⟩;rcases h3 b hb with h|⟨j,dH,g',_,h⟩
   .exact ⟨i,ob,g,hlk,hlive,hF b h⟩
   .exact ⟨j,dH,g',h⟩
 obtain⟨v,fp,hrun,h1,h2,h3⟩:=key;have hfin:∃v' fp,Ending.returned v= .returned v'/\R w' (wV w.heap.size w' fp) rr v' fp/\fp.Nodup/\(∀b∈fp,w.heap.size<=b/\b<w'.heap.size)/\w.heap.size<=w'.heap.size/\(∀b,b<w.heap.size->w'.heap[b]? =w.heap[b]?)/\iW w w':=by
  refine⟨v,fp,rfl,?_,h2,λb hb=> ?_,r.size,λb hb=>r.frame b hb (λh=>h),r.same⟩
  .have k:bR w' (env ⟨w,λ_=>False,λ_=>False,λ_=>none,λ_=>none,hg,λ_ h=>h.elim,λ_ h=>h.elim⟩ s.o G w').plain w' (wV w.heap.size w' fp):=
    ⟨λb hb=>⟨⟨(hb.1.resolve_left (λh=>h)).1,(hb.1.resolve_left (λh=>h)).2,λhm=>by
     obtain⟨j,ob,g,hl,hlive,hF⟩:=h3 b hm;exact hb.2 j ob g hl hlive hF⟩,rfl⟩,λ_ _=>trivial,λ_ _ _ h=>h.elim,λ_ _ _ h=>h.elim,λ_ _ _ _ _ h=>h.elim⟩
   exact jS k _ _ _ (λ_ _=>rfl) h1
  .obtain ⟨i,ob,g,hl,hlive,hF⟩:=h3 b hb;have:=r.fresh _ _ _ b hl hlive hF;exact⟨this.1.resolve_left (λh=>h),this.2⟩
 rcases he with rfl|rfl
 .exact ⟨r.defs,v,hrun,hfin⟩
 .exact ⟨r.defs,v,hrun,hfin⟩
theorem NK{P:Program}[aB P](hm:P.follows .mixedOrders=true){f:FuncId}{fn:Func}{c:Code}(hf:P.funcs[f]? =some fn){n:Nat}(hn:fn.ntmps=n){args t:List AV}{rr:AV}
  (h:kY P c ⟨t,[]⟩ (λe s=>(e= .normal\/e= .ret)/\(kW P fn s rr\/yU P fn s rr))) (hb:fn.body=some c:=by rfl) (vQ:Et args=true:=by simp[Et,BQ])
  (ht:args++replicate (n-args.length) .undef=t:=by
   simp only[eE,eR,Nat.reduceSub,Nat.reduceAdd,lB,rN,cM,cW];rfl):Ok P f args rr:=by
 subst ht;subst hn;exact VY hm hf hb vQ h
theorem Ok.vw{P:Program}[aB P]{f:FuncId}{args:List AV}{r:AV}(h:Ok P f args r):Ok P f args (rt (λ_=>some .view) false r):=by
 intro w vs hg hr;refine Calls.mono (h w vs hg hr) λe w' he=> ?_
 obtain⟨v,fp,rfl,h1,h2,h3,h4,h5,h6⟩:=he;have k:jX (λ_=>some .view) false (wV w.heap.size w' fp) (wV w.heap.size w' []) (· ∈fp):=
  {own:=λg e=>by obtain rfl:=cD e;exact⟨by simp,λb hb=>⟨(h3 b hb).1,(h3 b hb).2,by simp⟩⟩
   view:=λg e=>by obtain rfl:=cD e;exact⟨rfl,λb hb=>⟨hb.1,hb.2.1,by simp⟩⟩
   iF:=λi g e=>by obtain rfl:=cD e;exact⟨by simp,.inl trivial,λb hb=>hb.elim⟩
   hh:=λh=>by cases h
   hl:=λh=>by cases h}
 exact⟨v,[],rfl,yc k r v fp (λ_ h=>h) h1,by simp,by simp,h4,h5,h6⟩
theorem Ok.Cx{P:Program}[aB P]{f:FuncId}{args:List AV}{r r':AV}(h:Ok P f args r)(e:rt (λ_=>some .view) false r=r'):Ok P f args r':=e▸h.vw
def swp(i j k:Nat):Nat:=if k=i then j else if k=j then i else k
theorem FY(i j k:Nat):swp i j (swp i j k)=k:=by unfold swp;split<;>split<;>(try split)<;>omega
def Ac(i j k:Nat):Prop:=k=i\/k=j
instance (i j k:Nat) : Decidable (Ac i j k) := by unfold Ac; infer_instance
theorem Qt{i j k:Nat}(h:¬Ac i j k):swp i j k=k:=by unfold Ac at h;unfold swp;rw[cU (λe=>h (.inl e)),cU (λe=>h (.inr e))]
def V9(i j:Nat):Tg->Tg
 | .iF k=> .iF (swp i j k)
 |g=>g
mutual
def vM(i j:Nat):AV->AV
 | .obj k v=>if Ac i j k then(if v=0 then .undef else .obj (swp i j k) v)else .obj k v
 | .ptr k v idx off=>if Ac i j k then .undef else .ptr k v idx off
 | .sl g n l=> .sl (V9 i j g) n (rT i j l)
 | .eF g c off=> .eF (V9 i j g) (xX i j c) off
 | .agg c=> .agg (xX i j c)
 | .fH c=> .fH (xX i j c)
 | .fn f c=> .fn f (xX i j c)
 | .int k n=> .int k n
 | .bool b=> .bool b
 | .str s=> .str s
 | .undef=> .undef
def xX(i j:Nat):List AV->List AV
 |[]=>[]
 |x::xs=>vM i j x::xX i j xs
def rT(i j:Nat):List (List AV)->List (List AV)
 |[]=>[]
 |x::xs=>xX i j x::rT i j xs
end
theorem vN(i j:Nat):∀l,(rT i j l).length=l.length
 |[]=>rfl
 |_::l=>by simp[rT,vN i j l]
structure Ren(i j:Nat)(E E':Env): Prop where
  a:∀ b, E.A b -> E'.A b
  v:∀ k, E'.V (swp i j k) -> E.V k
  d:∀ k b, E.D k b -> E'.D (swp i j k) b
  h:∀ k ver x, (Ac i j k -> ver ≠ 0) -> E.H k ver x -> E'.H (swp i j k) ver x
  l:∀ k ver idx off x, ¬ Ac i j k -> E.L k ver idx off x -> E'.L k ver idx off x
theorem Ren.plain{i j:Nat}{E E':Env}(k:Ren i j E E'):Ren i j E.plain E'.plain:=
 ⟨k.a,λ_ _=>trivial,λ_ _ h=>h.elim,λ_ _ _ _ h=>h.elim,λ_ _ _ _ _ _ h=>h.elim⟩
theorem Ren.sub{i j:Nat}{E E':Env}(k:Ren i j E E')(g:Tg):Ren i j (E.sub g) (E'.sub (V9 i j g)):=by
 cases g with
 |own=>exact k.plain
 |view=>exact k.plain
 |iF q=>exact⟨k.a,λ_ _=>trivial,λr b h=>⟨by rw[h.1],k.d _ _ h.2⟩,λ_ _ _ _ h=>h.elim,λ_ _ _ _ _ _ h=>h.elim⟩
theorem Ren.dead{i j:Nat}{E E':Env}(k:Ren i j E E'){g:Tg}(h:E.dead g):E'.dead (V9 i j g):=by
 cases g with
 |own=>exact h
 |view=>exact h
 |iF q=>exact λhv=>h (k.v q hv)
theorem Ren.tg{i j:Nat}{E E':Env}(k:Ren i j E E'){g:Tg}{b:Nat}(h:E.tg g b):E'.tg (V9 i j g) b:=by
 cases g with
 |own=>exact h
 |view=>exact k.a b h
 |iF q=>exact k.d q b h
theorem Qu{i j:Nat}{g:Tg}:V9 i j g= .own↔g= .own:=by cases g<;>simp[V9]
mutual
theorem aEo{w:World}{i j:Nat}{E E':Env}(k:Ren i j E E'):∀(x:AV) (v:Value) (fp:List Nat),R w E x v fp->R w E' (vM i j x) v fp
 | .obj q u,v,fp,h=>by
  simp only[vM];simp only[R]at h;by_cases hm:Ac i j q
  .rw [eA hm];by_cases hu:u=0
   .rw [eA hu];simp only[R];exact h.1
   .rw [cU hu];simp only[R];exact⟨h.1,k.h _ _ _ (λ_=>hu) h.2⟩
  .rw [cU hm];simp only[R];have:=k.h q u v (λhm'=>absurd hm' hm) h.2;rw[Qt hm]at this;exact⟨h.1,this⟩
 | .ptr q u idx off,v,fp,h=>by
  simp only[vM];simp only[R]at h;by_cases hm:Ac i j q
  .rw [eA hm];simp only[R];exact h.1
  .rw [cU hm];simp only[R];exact⟨h.1,k.l _ _ _ _ _ hm h.2⟩
 | .sl g n l,v,fp,h=>by
  simp only[vM,R,vN]at h⊢;rcases h with h|⟨a,cap,hv,hl,h⟩
  .exact .inl ⟨k.dead h.1,h.2⟩
  refine .inr ⟨a,cap,hv,hl,?_⟩;rcases h with⟨hg,hl0,h1,h2⟩|⟨hg,b,off,C,e,fz,nA,ha,hb,hz,h1,h2,h3,Ec,hr⟩|⟨hg,Ec,h⟩
  .exact .inl ⟨Qu.2 hg,by rw[hl0];rfl,h1,h2⟩
  .exact .inr (.inl ⟨Qu.2 hg,b,off,C,e,fz,nA,ha,hb,hz,h1,h2,h3,Ec,Qv (k.sub g) _ _ _ _ _ hr⟩)
  .refine .inr (.inr ⟨λe=>hg (Qu.1 e),Ec,?_⟩)
   rcases h with rfl|⟨b,off,ha,ht,hr⟩
   .exact .inl rfl
   .exact .inr ⟨b,off,ha,k.tg ht,Qv (k.sub g) _ _ _ _ _ hr⟩
 | .eF g c off,v,fp,h=>by
  simp only[vM,R]at h⊢;rcases h with h|⟨Ec,b,o,cs,hv,ht,hcs,hc,hr⟩
  .exact .inl ⟨k.dead h.1,h.2⟩
  .exact .inr ⟨Ec,b,o,cs,hv,k.tg ht,hcs,hc,EI (k.sub g) _ _ _ hr⟩
 | .agg c,v,fp,h=>by simp only[vM,R]at h⊢;obtain⟨cs,h1,h2,h3⟩:=h;exact⟨cs,h1,h2,EI k c cs fp h3⟩
 | .fH c,v,fp,h=>by simp only[vM,R]at h⊢;obtain⟨cs,h1,h3⟩:=h;exact⟨cs,h1,EI k c cs fp h3⟩
 | .fn f c,v,fp,h=>by simp only[vM,R]at h⊢;obtain⟨h0,cs,h1,h3⟩:=h;exact⟨h0,cs,h1,EI k c cs [] h3⟩
 | .int _ _,v,fp,h=>by simpa [vM,R]using h
 | .bool _,v,fp,h=>by simpa [vM,R]using h
 | .str _,v,fp,h=>by simpa [vM,R]using h
 | .undef,v,fp,h=>by simpa [vM,R]using h
theorem EI{w:World}{i j:Nat}{E E':Env}(k:Ren i j E E'):∀(c:List AV) (cs:List Value) (fp:List Nat),Rc w E c cs fp->Rc w E' (xX i j c) cs fp
 |[],[],_,h=>by simpa [Rc,xX]using h
 |[],_::_,_,h=>by simp[Rc]at h
 |_::_,[],_,h=>by simp[Rc]at h
 |x::xs,c::cs,fp,h=>by simp only[Rc,xX]at h⊢;obtain⟨f1,f2,h1,h2,h3⟩:=h;exact⟨f1,f2,aEo k x c f1 h1,EI k xs cs f2 h2,h3⟩
theorem Qv{w:World}{i j:Nat}{E E':Env}(k:Ren i j E E'):∀(l:List (List AV)) (b off n:Nat) (fp:List Nat),Rr w E l b off n fp->Rr w E' (rT i j l) b off n fp
 |[],_,_,_,_,h=>by simpa [Rr,rT]using h
 |e::es,b,off,n,fp,h=>by simp only[Rr,rT]at h⊢;obtain⟨cs,f1,f2,h1,h2,h3,h4,h5,h6⟩:=h;exact⟨cs,f1,f2,h1,h2,h3,EI k e cs f1 h4,Qv k es b (off+n) n f2 h5,h6⟩
end
def aD.vM(i j:Nat)(ob:aD):aD:=if ob.box=true then {ob with dY:=rT i j ob.dY}else ob
def G8(i j:Nat)(o:List aD):List aD:=(range o.length).map λk=>((o[swp i j k]?).getD ⟨false,false,0,0,[]⟩).vM i j
theorem oD.ren{w:World}{i j:Nat}{E E':Env}{n:Nat}{l:List (List AV)}{a:Option Addr}{cap:Nat}{fp:List Nat}(k:Ren i j E E')(h:oD w E n l a cap fp):oD w E' n (rT i j l) a cap fp:=by
 refine⟨by rw[vN];exact h.1,?_⟩;rcases h.2 with h|⟨b,off,C,e,fz,nA,ha,hb,hz,h1,h2,h3,Ec,hr⟩
 .exact .inl ⟨by rw[h.1];rfl,h.2⟩
 .exact .inr ⟨b,off,C,e,fz,nA,ha,hb,hz,h1,by rw[vN];exact h2,h3,Ec,Qv k _ _ _ _ _ hr⟩
theorem Yr{t t':List AV}{o o':List aD}(i j:Nat)(hi:i<o.length)(hj:j<o.length)(hbi:∀ob,o[i]? =some ob->ob.box=false)(hbj:∀ob,o[j]? =some ob->ob.box=false)(ho:G8 i j o=o')(hw:wk (xX i j t) t'):kR ⟨t,o⟩ ⟨t',o'⟩:=by
 subst ho;rintro P _ B a w ⟨G,r⟩;have hlen:=r.len;generalize hG':(range G.length).map (λk=>(G[swp i j k]?).getD ⟨none,0,λ_=>False⟩)=G';have slt:∀k,k<o.length->swp i j k<o.length:=by intro k hk;unfold swp;split<;>(try split)<;>omega
 have fz:∀ob:aD,(ob.vM i j).live=ob.live/\(ob.vM i j).box=ob.box/\(ob.vM i j).n=ob.n/\(ob.vM i j).ver=ob.ver/\(ob.vM i j).dY.length=ob.dY.length:=by intro ob;unfold aD.vM;split<;>simp[vN]
 have og:∀k,(G8 i j o)[k]? =(o[swp i j k]?).map (aD.vM i j):=by
  intro k;unfold G8;rw[tB];by_cases hk:k<o.length
  .rw [getElem?_range hk];simp only[lR,aE (slt k hk),pD]
  .have h1:(range o.length)[k]? =none:=by rw[pL];simp;omega
   have h2:swp i j k=k:=by unfold swp;rw[cU (by omega),cU (by omega)]
   rw[h1,h2,pH (by omega)];rfl
 have gg:∀k,G'[k]? =G[swp i j k]?:=by
  intro k;rw[<-hG',tB];by_cases hk:k<G.length
  .rw [getElem?_range hk];have h3:swp i j k<G.length:=by rw[hlen];exact slt k (by rw[<-hlen];exact hk)
   simp only[lR,aE h3,pD]
  .have h1:(range G.length)[k]? =none:=by rw[pL];simp;omega
   have h2:swp i j k=k:=by have:o.length=G.length:=hlen.symm;unfold swp;rw[cU (by omega),cU (by omega)]
   rw[h1,h2,pH (by omega)];rfl
 have back:∀{k ob g},look (G8 i j o) G' k ob g->∃uC,look o G (swp i j k) uC g/\ob=uC.vM i j:=by
  rintro k ob g ⟨e1,e2⟩;rw[og]at e1;rw[gg]at e2;cases hx:o[swp i j k]? with
  |none=>rw[hx]at e1;cases e1
  |some uC=>rw[hx]at e1;exact⟨uC,⟨hx,e2⟩,(cD e1).symm⟩
 have Ol:∀{k ob g},look o G k ob g->look (G8 i j o) G' (swp i j k) (ob.vM i j) g:=by rintro k ob g ⟨e1,e2⟩;exact⟨by rw[og,FY,e1];rfl,by rw[gg,FY,e2]⟩
 have aK9:∀{k ob g},look o G k ob g->ob.box=true->¬Ac i j k:=by
  rintro k ob g ⟨e1,_⟩ hb (rfl|rfl)
  .rw [hbi ob e1]at hb;cases hb
  .rw [hbj ob e1]at hb;cases hb
 have rn:Ren i j (env B o G w) (env B (G8 i j o) G' w):=by
  refine⟨λb h=>⟨h.1,λk ob g hl Es hF=> ?_⟩,λk h ob qX=> ?_,λk b h=> ?_,λk ver x hm h=> ?_,λk ver idx off x hm h=> ?_⟩
  .obtain ⟨uC,hl0,rfl⟩:=back hl;exact h.2 _ _ _ hl0 (by rw[<-(fz uC).1];exact Es) hF
  .have h1:=h (ob.vM i j) (by rw[og,FY,qX];rfl);rw[(fz ob).1]at h1;exact h1
  .obtain ⟨ob,g,hl,Es,hF,hne⟩:=h;exact⟨_,g,Ol hl,by rw[(fz ob).1];exact Es,hF,hne⟩
  .obtain ⟨ob,g,hl,Al,h5,hz⟩:=h;refine⟨_,g,Ol hl,by rw[(fz ob).2.2.2.1];exact Al,λEs Py=> ?_,λhv0 y hy=> ?_⟩
   .rw [(fz ob).2.2.2.2];exact h5 (by rw[<-(fz ob).1];exact Es) (by rw[<-(fz ob).2.2.2.1];exact Py)
   .by_cases hmv:Ac i j k
    .exact absurd hv0 (hm hmv)
    .rw [Qt hmv]at hy;exact hz hv0 y hy
  .obtain ⟨ob,g,hl,Al,h5,hz⟩:=h;have hf:=Ol hl;rw[Qt hm]at hf;refine⟨_,g,hf,by rw[(fz ob).2.2.2.1];exact Al,λEs Py=> ?_,λhb hv e1 e2 y hy=> ?_⟩
   .rw [(fz ob).2.2.1];exact h5 (by rw[<-(fz ob).1];exact Es) (by rw[<-(fz ob).2.2.2.1];exact Py)
   .have:=hz (by rw[<-(fz ob).2.1];exact hb) hv e1 e2 y hy;exact⟨this.1,λEs Py=>this.2 (by rw[<-(fz ob).1];exact Es) (by rw[<-(fz ob).2.2.2.1];exact Py)⟩
 refine⟨G',{len:= ?_,defs:=r.defs,ok:= ?_,apart:= ?_,fresh:= ?_,tmps:=FC hw (EI rn _ _ _ r.tmps),size:=r.size,frame:=r.frame,base:=r.base,same:=r.same}⟩
 .rw [<-hG'];simp[G8,hlen]
 .intro k ob g hl Es;obtain⟨uC,hl0,rfl⟩:=back hl;obtain⟨fp,hown,hnd,hF⟩:=r.ok _ _ g hl0 (by rw[<-(fz uC).1];exact Es);refine⟨fp,?_,hnd,hF⟩;cases hb0:uC.box with
  |false=>
   have e:uC.vM i j=uC:=by unfold aD.vM;rw[cU (by simp[hb0])]
   rw[e];rw[hb0]at hown⊢;exact hown.keeps (w:=w) (w':=w) ⟨λb hb=>⟨rn.a b hb,rfl⟩,λ_ _=>trivial,λ_ _ _ h=>h.elim,λ_ _ _ h=>h.elim,λ_ _ _ _ _ h=>h.elim⟩ (λ_ _=>rfl)
  |true=>
   have e:uC.vM i j={uC with dY:=rT i j uC.dY}:=by unfold aD.vM;rw[eA hb0]
   rw[e];simp only[hb0]at hown⊢;simp only[Env.of,eI]at hown⊢;exact hown.ren rn
 .intro p q op oq gp gq b hp hq hlp YU hFp hFq;obtain⟨op0,WJ,rfl⟩:=back hp;obtain⟨oq0,hq0,rfl⟩:=back hq;have:=r.apart _ _ _ _ _ _ b WJ hq0 (by rw[<-(fz op0).1];exact hlp) (by rw[<-(fz oq0).1];exact YU) hFp hFq;have h2:=CH (swp i j) this
  rwa[FY,FY]at h2
 .intro k ob g b hl Es hF;obtain⟨uC,hl0,rfl⟩:=back hl;exact r.fresh _ _ g b hl0 (by rw[<-(fz uC).1];exact Es) hF
theorem G9{i j:Nat}{o:List aD}{oi oj:aD}(hi:o[i]? =some oi)(hj:o[j]? =some oj):G8 i j o=((o.set i oj).set j oi).map (aD.vM i j):=by
 have hil:=(cA.1 hi).1;have hjl:=(cA.1 hj).1;refine CM λk=> ?_
 unfold G8;rw[tB,tB];by_cases hk:k<o.length
 .rw [getElem?_range hk];simp only[lR];by_cases hkj:k=j
  .subst hkj;rw[nF (by simpa using hk)];have:swp i k k=i:=by unfold swp;split<;>simp_all
   rw[this,hi];rfl
  .rw [gO (λe=>hkj e.symm)]
   by_cases hki:k=i
   .subst hki;rw[nF hk];have:swp k j k=j:=by unfold swp;simp
    rw[this,hj];rfl
   .rw [gO (λe=>hki e.symm)]
    have:swp i j k=k:=by unfold swp;rw[cU hki,cU hkj]
    rw[this,aE hk];rfl
 .have h1:(range o.length)[k]? =none:=by rw[pL];simp;omega
  have h2:((o.set i oj).set j oi)[k]? =none:=by rw[pL];simp;omega
  rw[h1,h2];rfl
theorem fE{t t':List AV}{o o':List aD}(i j:Nat){oi oj:aD}(hi:o[i]? =some oi)(hj:o[j]? =some oj)(hb:oi.box=false/\oj.box=false)(ho:((o.set i oj).set j oi).map (aD.vM i j)=o')(hw:wk (xX i j t) t'):kR ⟨t,o⟩ ⟨t',o'⟩:=
 Yr i j (cA.1 hi).1 (cA.1 hj).1 (λob h=>by rw[hi]at h;obtain rfl:=cD h;exact hb.1) (λob h=>by rw[hj]at h;obtain rfl:=cD h;exact hb.2) (by rw[G9 hi hj];exact ho) hw
@[simp] theorem aGd(i j:Nat)(l:Bool)(n v:Nat)(dY:List (List AV)):aD.vM i j ⟨l,false,n,v,dY⟩=⟨l,false,n,v,dY⟩:=rfl
@[simp] theorem aGe(i j:Nat)(l:Bool)(n v:Nat)(dY:List (List AV)):aD.vM i j ⟨l,true,n,v,dY⟩=⟨l,true,n,v,rT i j dY⟩:=rfl
attribute [simp] vM xX rT V9 swp Ac
def Js:Nat->List GA->List AV
 |_,[]=>[]
 |k,.view x::gs=>x::Js k gs
 |k,.oN x::gs=>(bV 1 k x).1::Js (k+(bV 1 k x).2.length) gs
 |k,.sW c _::gs=> .ptr k 2 0 0::Js (k+(1+(dM 1 (k+1) c).2.length)) gs
def EB:Nat->List GA->List aD
 |_,[]=>[]
 |k,.view _::gs=>EB k gs
 |k,.oN x::gs=>(bV 1 k x).2++EB (k+(bV 1 k x).2.length) gs
 |k,.sW c _::gs=>(⟨true,true,c.length,2,[(dM 1 (k+1) c).1]⟩::(dM 1 (k+1) c).2)++EB (k+(1+(dM 1 (k+1) c).2.length)) gs
def Fc(E:Env)(k:Nat)(os:List aD)(Gs:List CO):Prop:=
 ∀j ob g,look os Gs j ob g->E.H (k+j) ob.ver (.slice g.a ob.dY.length g.cap)/\(ob.box=true->∀b f,g.a=some ⟨b,f,none⟩->E.L (k+j) ob.ver 0 0 (.pointer (some ⟨b,f,none⟩)))
theorem Fc.left{E:Env}{k:Nat}{o1 o2:List aD}{G1 G2:List CO}(h:Fc E k (o1++o2) (G1++G2)):Fc E k o1 G1:=λj ob g hl=>h j ob g (iO hl)
theorem Fc.right{E:Env}{k:Nat}{o1 o2:List aD}{G1 G2:List CO}(hlen:G1.length=o1.length)(h:Fc E k (o1++o2) (G1++G2)):Fc E (k+o1.length) o2 G2:=λj ob g hl=>by
 have:=h _ ob g (jF hlen hl)
 rwa[<-mA]at this
def E8(w:World)(E:Env)(k:Nat)(os:List aD)(fp:List Nat)(Y0:List CO->Prop)(done:Env->Prop):Prop:=
 ∃Gs:List CO,Gs.length=os.length/\
  (∀j ob g,look os Gs j ob g->ob.live=true/\(ob.box=false->ob.ver=1)/\(ob.box=true->ob.ver=2)/\∃f,f.Nodup/\(∀b,g.F b↔b∈f)/\(∀b∈f,b∈fp)/\
   ∀E',bR w E w E'->Fc E' k os Gs->oD w (E'.of ob.box) ob.n ob.dY g.a g.cap f)/\
  (∀i j oi oj gi gj b,look os Gs i oi gi->look os Gs j oj gj->gi.F b->gj.F b->i=j)/\Y0 Gs/\
  ∀E':Env,bR w E w E'->Fc E' k os Gs->done E'
theorem E8.SL{w:World}{E:Env}{k:Nat}{os:List aD}{fp:List Nat}{done:Env->Prop}(h:iX 1 w E k os fp done):E8 w E k os fp (λ_=>True) done:=by
 obtain⟨Gs,h1,h2,h3,h4⟩:=h;refine⟨Gs,h1,λj ob g hl=> ?_,h3,trivial,λE' hk hf=>h4 E' hk λj ob g hl=> ?_⟩
 .obtain ⟨a1,a2,a3,f,a4,a5,a6,a7⟩:=h2 j ob g hl;refine⟨a1,λ_=>a3,(λh=>by rw[a2]at h;cases h),f,a5,a6,a7,λE' hk _=> ?_⟩;rw[a2];exact a4.keeps hk.plain (λ_ _=>rfl)
 .have:=(hf j ob g hl).1;obtain⟨_,_,a3,_⟩:=h2 j ob g hl
  rwa[a3]at this
theorem E8.append{w:World}{E:Env}{k:Nat}{o1 o2:List aD}{f1 f2:List Nat}{p1 p2 p:List CO->Prop}{d1 d2 d:Env->Prop}(h1:E8 w E k o1 f1 p1 d1)(h2:E8 w E (k+o1.length) o2 f2 p2 d2)(hn:(f1++f2).Nodup)
  (hp:∀G1 G2,G1.length=o1.length->p1 G1->p2 G2->p (G1++G2)) (hd:∀E',d1 E'->d2 E'->d E'):E8 w E k (o1++o2) (f1++f2) p d:=by
 obtain⟨G1,l1,a1,b1,q1,c1⟩:=h1;obtain⟨G2,l2,a2,b2,q2,c2⟩:=h2;have hdj:=(fY.1 hn).2.2;refine⟨G1++G2,by simp[l1,l2],?_,?_,hp G1 G2 l1 q1 q2,λE' hk hf=>hd E' (c1 E' hk hf.left) (c2 E' hk (hf.right l1))⟩
 .intro j ob g hl;rcases jV l1 hl with⟨_,h⟩|⟨_,h⟩
  .obtain ⟨x,y,y',f,z1,z2,z3,z4⟩:=a1 _ _ _ h;exact⟨x,y,y',f,z1,z2,λb hb=>pA _ (z3 b hb),λE' hk hf=>z4 E' hk hf.left⟩
  .obtain ⟨x,y,y',f,z1,z2,z3,z4⟩:=a2 _ _ _ h;exact⟨x,y,y',f,z1,z2,λb hb=>pT _ (z3 b hb),λE' hk hf=>z4 E' hk (hf.right l1)⟩
 .intro i j oi oj gi gj b hi hj Ei GG;rcases jV l1 hi with⟨_,h⟩|⟨hi',h⟩<;>rcases jV l1 hj with⟨_,h'⟩|⟨XA,h'⟩
  .exact b1 _ _ _ _ _ _ b h h' Ei GG
  .obtain ⟨_,_,_,f,_,z2,z3,_⟩:=a1 _ _ _ h;obtain⟨_,_,_,f',_,z2',z3',_⟩:=a2 _ _ _ h';exact absurd rfl (hdj b (z3 b ((z2 b).1 Ei)) b (z3' b ((z2' b).1 GG)))
  .obtain ⟨_,_,_,f,_,z2,z3,_⟩:=a2 _ _ _ h;obtain⟨_,_,_,f',_,z2',z3',_⟩:=a1 _ _ _ h';exact absurd rfl (hdj b (z3' b ((z2' b).1 GG)) b (z3 b ((z2 b).1 Ei)))
  .have:=b2 _ _ _ _ _ _ b h h' Ei GG;omega
theorem jg{w:World}{O:Nat->Prop}{k:Nat}{c c':List AV}{v:Value}{fp:List Nat}{cap:Nat}(h:RG w O (.sW c c') v fp cap)(hn:fp.Nodup):
  E8 w (oM w O) k (⟨true,true,c.length,2,[(dM 1 (k+1) c).1]⟩::(dM 1 (k+1) c).2) fp
   (λGs=>∃g b f,Gs[0]? =some g/\g.a=some ⟨b,f,none⟩/\v= .pointer (some ⟨b,f,none⟩)/\g.cap=cap) (λE'=>R w E' (.ptr k 2 0 0) v []):=by
 simp only[RG]at h;obtain⟨b,f,rfl,hlen,hown⟩:=h;rcases hown with⟨h5,_⟩|⟨b',f',C,ty,fz,nA,uB,hbk,hz,k1,k2,k3,rfl,hr⟩
 .cases h5
 simp only[cQ,lA,mN]at uB;obtain⟨rfl,rfl⟩:=uB;simp only[Rr]at hr;obtain⟨cs,f1,f2,Ip,hc,hone,rF,rfl,e⟩:=hr;have e:nA=f1:=by simpa using e
 subst e;simp only[hY]at hn;obtain⟨Gs,a1,a2,a3,a4⟩:=zP (q:=1) c cs nA (k+1) rF hn.2;have tail:∀{j ob g},look (⟨true,true,c.length,2,[(dM 1 (k+1) c).1]⟩::(dM 1 (k+1) c).2) (⟨some ⟨b,f,none⟩,cap,λx=>x=b⟩::Gs) j ob g->
   (j=0/\ob=⟨true,true,c.length,2,[(dM 1 (k+1) c).1]⟩/\g=⟨some ⟨b,f,none⟩,cap,λx=>x=b⟩)\/∃j',j=j'+1/\look (dM 1 (k+1) c).2 Gs j' ob g:=by
  rintro j ob g ⟨h1,h2⟩;cases j with
  |zero=>simp only[sL,cQ]at h1 h2;exact .inl ⟨rfl,h1.symm,h2.symm⟩
  |succ j=>exact .inr ⟨j,rfl,by simpa using h1,by simpa using h2⟩
 have inner:∀{E':Env},Fc E' k (⟨true,true,c.length,2,[(dM 1 (k+1) c).1]⟩::(dM 1 (k+1) c).2) (⟨some ⟨b,f,none⟩,cap,λx=>x=b⟩::Gs)->
   ∀j ob g,look (dM 1 (k+1) c).2 Gs j ob g->E'.H (k+1+j) 1 (.slice g.a ob.dY.length g.cap):=by
  intro E' hf j ob g hl;have:=(hf (j+1) ob g ⟨by simpa using hl.1,by simpa using hl.2⟩).1;obtain⟨_,_,h3,_⟩:=a2 j ob g hl;rw[h3]at this
  rwa[show k+1+j=k+(j+1)by omega]
 refine⟨⟨some ⟨b,f,none⟩,cap,λx=>x=b⟩::Gs,by simp[a1],?_,?_,⟨_,b,f,rfl,rfl,rfl,rfl⟩,?_⟩
 .intro j ob g hl;rcases tail hl with⟨rfl,rfl,rfl⟩|⟨j',rfl,xY⟩
  .refine ⟨rfl,(λh=>by cases h),λ_=>rfl,[b],by simp,by simp,by simp,λE' hk hf=> ?_⟩
   refine⟨by simp[maxLen],.inr ⟨b,f,C,ty,fz,[],rfl,hbk,hz,k1,by simpa using k2,k3,rfl,?_⟩⟩;simp only[Rr];exact⟨cs,[],[],Ip,hc,hone,a4 E' hk (inner hf),rfl,rfl⟩
  .obtain ⟨h1,h2,h3,f',h4,h5,h6,h7⟩:=a2 _ _ _ xY;refine⟨h1,λ_=>h3,(λh=>by rw[h2]at h;cases h),f',h5,h6,λx hx=>AF _ (h7 x hx),λE' hk _=> ?_⟩;rw[h2];exact h4.keeps hk.plain (λ_ _=>rfl)
 .intro i j oi oj gi gj x hi hj Ei GG;rcases tail hi with⟨rfl,rfl,rfl⟩|⟨i',rfl,hi'⟩<;>rcases tail hj with⟨rfl,rfl,rfl⟩|⟨j',rfl,XA⟩
  .rfl
  .obtain ⟨_,_,_,f',_,_,h6,h7⟩:=a2 _ _ _ XA;have hx:x=b:=Ei;subst hx;exact absurd (h7 _ ((h6 _).1 GG)) hn.1
  .obtain ⟨_,_,_,f',_,_,h6,h7⟩:=a2 _ _ _ hi';have hx:x=b:=GG;subst hx;exact absurd (h7 _ ((h6 _).1 Ei)) hn.1
  .have:=a3 _ _ _ _ _ _ x hi' XA Ei GG;omega
 .intro E' hk hf;simp only[R];exact⟨trivial,(hf 0 _ _ ⟨rfl,rfl⟩).2 rfl b f rfl⟩
def pinned(gat:Nat->Option CO):Nat->List GA->List Value->List Nat->Prop
 |_,[],[],[]=>True
 |k,.view _::gs,_::vs,_::gN=>pinned gat k gs vs gN
 |k,.oN x::gs,_::vs,_::gN=>pinned gat (k+(bV 1 k x).2.length) gs vs gN
 |k,.sW c _::gs,v::vs,cap::gN=>(∃g b f,gat k=some g/\g.a=some ⟨b,f,none⟩/\v= .pointer (some ⟨b,f,none⟩)/\g.cap=cap)/\pinned gat (k+(1+(dM 1 (k+1) c).2.length)) gs vs gN
 |_,_,_,_=>False
theorem Qb{w:World}{O:Nat->Prop}:∀(gs:List GA) (vs:List Value) (pO:List (List Nat)) (gN:List Nat) (k:Nat),Av w O gs vs pO gN->pO.flatten.Nodup->
  E8 w (oM w O) k (EB k gs) pO.flatten (λGs=>∀pre:List CO,pre.length=k->pinned (λi=>(pre++Gs)[i]?) k gs vs gN) (λE'=>Rc w E' (Js k gs) vs [])
 |[],[],[],[],k,_,_=>⟨[],rfl,λj ob g hl=>by simp[look,EB]at hl,λi j oi oj gi gj b hl=>by simp[look,EB]at hl,λ_ _=>by simp[pinned],λE' _ _=>by simp[Js,Rc]⟩
 | .view x::gs,v::vs,fp::pO,cap::gN,k,h,hn=>by
  simp only[Av,RG]at h;obtain⟨⟨rfl,hx⟩,h⟩:=h;simp only[oY,cW]at hn⊢;obtain⟨Gs,a1,a2,a3,a4,a5⟩:=Qb gs vs pO gN k h hn;refine⟨Gs,a1,a2,a3,λpre hp=>by simp only[pinned];exact a4 pre hp,λE' hk hf=> ?_⟩
  .simp only[Js,Rc];exact⟨[],[],jS hk _ _ _ (by simp) hx,a5 E' hk hf,rfl⟩
 | .oN x::gs,v::vs,fp::pO,cap::gN,k,h,hn=>by
  simp only[Av,RG]at h;obtain⟨hx,h⟩:=h;simp only[oY]at hn⊢;have XK:=fY.1 hn;refine(E8.SL (vG (q:=1) x v fp k hx XK.1)).append (Qb gs vs pO gN (k+(bV 1 k x).2.length) h XK.2.1) hn (λG1 G2 hl _ h2 pre hp=> ?_) (λE' h1 h2=> ?_)
  .simp only[pinned];have:=h2 (pre++G1) (by simp[hp,hl]);simpa using this
  .simp only[Js,Rc];exact⟨[],[],h1,h2,rfl⟩
 | .sW c c'::gs,v::vs,fp::pO,cap::gN,k,h,hn=>by
  simp only[Av]at h;obtain⟨hx,h⟩:=h;simp only[oY]at hn⊢;have XK:=fY.1 hn;have h2:=Qb gs vs pO gN (k+(1+(dM 1 (k+1) c).2.length)) h XK.2.1;simp only[EB];refine(jg hx XK.1).append (by
   rw[show k+(({live:=true,box:=true,n:=c.length,ver:=2,dY:=[(dM 1 (k+1) c).1]}:aD)::(dM 1 (k+1) c).2).length=k+(1+(dM 1 (k+1) c).2.length)by simp;omega];exact h2) hn (λG1 G2 hl h1 h2 pre hp=> ?_) (λE' h1 h2=> ?_)
  .simp only[pinned];refine⟨?_,?_⟩
   .obtain ⟨g,b,f,e1,e2,e3,e4⟩:=h1;refine⟨g,b,f,?_,e2,e3,e4⟩;subst hp;rw[hU (by omega),Bk];cases G1 with
    |nil=>simp at e1
    |cons _ _=>simpa using e1
   .have:=h2 (pre++G1) (by simp only[eJ,hp,hl,eE];omega);simpa using this
  .simp only[Js,Rc];exact⟨[],[],h1,h2,rfl⟩
 |[],[],[],_::_,_,h,_=>by simp[Av]at h
 |[],[],_::_,_,_,h,_=>by simp[Av]at h
 |[],_::_,_,_,_,h,_=>by simp[Av]at h
 | .view _::_,[],_,_,_,h,_=>by simp[Av]at h
 | .view _::_,_::_,[],_,_,h,_=>by simp[Av]at h
 | .view _::_,_::_,_::_,[],_,h,_=>by simp[Av]at h
 | .oN _::_,[],_,_,_,h,_=>by simp[Av]at h
 | .oN _::_,_::_,[],_,_,h,_=>by simp[Av]at h
 | .oN _::_,_::_,_::_,[],_,h,_=>by simp[Av]at h
 | .sW _ _::_,[],_,_,_,h,_=>by simp[Av]at h
 | .sW _ _::_,_::_,[],_,_,h,_=>by simp[Av]at h
 | .sW _ _::_,_::_,_::_,[],_,h,_=>by simp[Av]at h
def dU(s:AS):Nat->Nat->List GA->Prop
 |_,_,[]=>True
 |pos,k,.view _::gs=>dU s (pos+1) k gs
 |pos,k,.oN x::gs=>dU s (pos+1) (k+(bV 1 k x).2.length) gs
 |pos,k,.sW c c'::gs=>(s.t.getD pos .undef= .ptr k 2 0 0/\∃cells,s.o[k]? =some ⟨true,true,c.length,2,[cells]⟩/\lZ s.o cells=true/\qE s.o cells=c'/\zC c'=true)/\
   dU s (pos+1) (k+(1+(dM 1 (k+1) c).2.length)) gs
def dQ(s:AS):Nat->List GA->List Nat
 |_,[]=>[]
 |k,.view _::gs=>dQ s k gs
 |k,.oN x::gs=>dQ s (k+(bV 1 k x).2.length) gs
 |k,.sW c _::gs=>(k::jB (rowOf s.o k))++dQ s (k+(1+(dM 1 (k+1) c).2.length)) gs
def gY(P:Program)(fn:Func)(s:AS)(gs:List GA)(r:AV):Prop:=
 ∃ys,s.wI P fn.results.toList=some ys/\gG s.o (single ys)=true/\res s.o (single ys)=r/\clean r=true/\dU s 0 0 gs/\(dQ s 0 gs++iB (single ys)).Nodup
theorem CW{P:Program}[aB P]{B:eP P}{s:AS}{G:List CO}{a:Act}{w:World}(r:bU B s G a w){gat:Nat->Option CO}(hp:∀i g,gat i=some g->B.p0 i=some (.pointer g.a,g.cap)):
  ∀(gs:List GA) (vs:List Value) (gN:List Nat) (pos k:Nat),pinned gat k gs vs gN->dU s pos k gs->(dQ s k gs).Nodup->
  ∃pO,MW w gs vs pO gN/\pO.flatten.Nodup/\∀b∈pO.flatten,Of s.o G (dQ s k gs) b
 |[],[],[],pos,k,_,_,_=>⟨[],by simp[MW],by simp,by simp⟩
 | .view x::gs,v::vs,cap::gN,pos,k,h1,h2,h3=>by simp only[pinned]at h1;simp only[dU]at h2;simp only[dQ]at h3⊢;obtain⟨pO,q1,q2,q3⟩:=CW r hp gs vs gN (pos+1) k h1 h2 h3;exact⟨[]::pO,by simp only[MW,RP];exact⟨trivial,q1⟩,by simpa using q2,by simpa using q3⟩
 | .oN x::gs,v::vs,cap::gN,pos,k,h1,h2,h3=>by simp only[pinned]at h1;simp only[dU]at h2;simp only[dQ]at h3⊢;obtain⟨pO,q1,q2,q3⟩:=CW r hp gs vs gN (pos+1) _ h1 h2 h3;exact⟨[]::pO,by simp only[MW,RP];exact⟨trivial,q1⟩,by simpa using q2,by simpa using q3⟩
 | .sW c c'::gs,v::vs,cap::gN,pos,k,h1,h2,h3=>by
  simp only[pinned]at h1;simp only[dU]at h2;simp only[dQ]at h3⊢;obtain⟨⟨g0,b0,f0,e1,e2,e3,e4⟩,h1⟩:=h1;obtain⟨⟨htp,cells,ho,qD,mD,Ip⟩,h2⟩:=h2;have hn:=fY.1 h3;obtain⟨pO,q1,q2,q3⟩:=CW r hp gs vs gN (pos+1) _ h1 h2 hn.2.1;have ZV:rowOf s.o k=cells:=by simp[rowOf,ho]
  rw[ZV]at hn⊢;have qX:AV.isObj s.o k 2=some ⟨true,true,c.length,2,[cells]⟩:=by simp[AV.isObj,ho]
  obtain⟨g,b,f,hl,hlive,hga,hv⟩:=r.ptr (x:= .tmp pos) htp qX;have Nq:=r.Y0 (x:= .tmp pos) htp qX hl rfl rfl rfl rfl _ (hp k g0 e1);rw[hv]at Nq;obtain⟨hp1,hp2⟩:=Nq;have nQ:g.cap=g0.cap:=hp2 rfl rfl;simp only[tA]at hp1;rw[e2]at hp1;simp only[Dg,oS,cQ,lA,mN]at hp1;obtain⟨rfl,rfl⟩:=hp1;obtain⟨Jr,⟨_,hown⟩,Em,JV⟩:=r.ok k _ g hl rfl;simp only[Env.of,eI]at hown;rcases hown with⟨h5,_⟩|⟨b',f',C,ty,fz,nA,uB,hbk,hz,k1,k2,k3,rfl,hr⟩
  .cases h5
  rw[hga]at uB;simp only[cQ,lA,mN]at uB;obtain⟨rfl,rfl⟩:=uB;simp only[Rr]at hr;obtain⟨cs,f1,f2,hcn,hc,hone,rF,rfl,e⟩:=hr;have e:nA=f1:=by simpa using e
  subst e;simp only[hY]at Em;have hn1:=hn.1;simp only[hY]at hn1;obtain⟨xU,u1,u2,u3⟩:=Fu r hl rfl cells cs nA qD hn1.2 hn1.1 Em.2 (λx hx=>JV x (by simp[hx])) rF;have zO:g.F b:=JV b (by simp);have yl:b∉xU:=λhb=>by
   rcases u3 b hb with h|h
   .exact Em.1 h
   .obtain ⟨j,oj,gj,hj,hlj,hjl,Ir⟩:=h;have:=r.apart k j _ _ _ _ b hl hlj rfl hjl zO Ir;exact hn1.1 (this▸hj)
  rw[mD]at u1;have u1':Rc w kZ c' cs xU:=zQ (E:=(env B s.o G w).plain) (λ_ _=>trivial) rfl rfl rfl _ _ _ Ip u1;have hin:∀x∈b::xU,Of s.o G (k::jB cells) x:=by
   intro x hx;rcases lE.1 hx with rfl|hx
   .exact ⟨k,_,g,by simp,hl,rfl,zO⟩
   .rcases u3 x hx with h|h
    .exact ⟨k,_,g,by simp,hl,rfl,JV x (by simp[h])⟩
    .exact yC (λj hj=>by simp[hj]) h
  refine⟨(b::xU)::pO,?_,?_,?_⟩
  .simp only[MW,RP];refine⟨⟨b,f,e3,by simp[maxLen],.inr ⟨b,f,C,ty,fz,xU,rfl,hbk,hz,?_,?_,?_,rfl,?_⟩⟩,q1⟩
   .rw [<-e4,<-nQ];exact k1
   .rw [<-e4,<-nQ];simpa using k2
   .rw [<-e4,<-nQ];exact k3
   .simp only[Rr];exact⟨cs,xU,[],hcn,hc,hone,u1',rfl,by simp⟩
  .simp only[oY,fY];refine⟨hY.2 ⟨yl,u2⟩,q2,λx hx y hy e=> ?_⟩;subst e;exact Fv r (λi hi j hj=>hn.2.2 i hi j hj) (hin x hx) (q3 x hy)
  .intro x hx;simp only[oY,fR]at hx;rcases hx with hx|hx
   .exact yC (λi hi=>pA _ hi) (hin x hx)
   .exact yC (λi hi=>pT _ hi) (q3 x hx)
 |[],[],_::_,_,_,h,_,_=>by simp[pinned]at h
 |[],_::_,_,_,_,h,_,_=>by simp[pinned]at h
 | .view _::_,[],_,_,_,h,_,_=>by simp[pinned]at h
 | .view _::_,_::_,[],_,_,h,_,_=>by simp[pinned]at h
 | .oN _::_,[],_,_,_,h,_,_=>by simp[pinned]at h
 | .oN _::_,_::_,[],_,_,h,_,_=>by simp[pinned]at h
 | .sW _ _::_,[],_,_,_,h,_,_=>by simp[pinned]at h
 | .sW _ _::_,_::_,[],_,_,h,_,_=>by simp[pinned]at h
theorem Ls{w:World}{O:Nat->Prop}:∀{gs:List GA} {vs:List Value} {pO:List (List Nat)} {gN:List Nat},Av w O gs vs pO gN->vs.length=gs.length
 |[],[],_,_,_=>rfl
 |_::gs,_::vs,[],_,h=>by simp[Av]at h
 |_::gs,_::vs,_::_,[],h=>by simp[Av]at h
 |_::gs,_::vs,_::pO,_::gN,h=>by simp only[Av]at h;simp[Ls h.2]
 |[],_::_,_,_,h=>by simp[Av]at h
 |_::_,[],_,_,h=>by simp[Av]at h
theorem Vt{P:Program}[aB P](hm:P.follows .mixedOrders=true){f:FuncId}{fn:Func}{c:Code}(hf:P.funcs[f]? =some fn)(hb:fn.body=some c){gs:List GA}{rr:AV}
  (h:kY P c ⟨Js 0 gs++replicate (fn.ntmps-gs.length) .undef,EB 0 gs⟩ (λe s=>(e= .normal\/e= .ret)/\gY P fn s gs rr)):UD P f gs rr:=by
 intro w vs pO gN hg yu hnd hrg;obtain⟨Gs,hlen,rJ,hap,Nq,vH⟩:=Qb gs vs pO gN 0 hrg hnd;have YS:=Ls hrg;generalize hB:(⟨w,λb=>b<w.heap.size,(· ∈pO.flatten),λ_=>none,λi=>(Gs[i]?).map λg=>(.pointer g.a,g.cap),hg,λb hb=>(yu b hb).1,λb hb=>(yu b hb).2⟩:eP P)=B;have BZ:B.w0=w:=by rw[<-hB]
 have xn:∀b,B.A0 b↔b<w.heap.size:=by intro b;rw[<-hB]
 have Zm:∀b,B.O0 b↔b∈pO.flatten:=by intro b;rw[<-hB]
 have hh0:∀i,B.h0 i=none:=by intro i;rw[<-hB]
 have WJ:∀i g,Gs[i]? =some g->B.p0 i=some (.pointer g.a,g.cap):=by intro i g hg;rw[<-hB];simp[hg]
 have kE:bR w (oM w (· ∈pO.flatten)) w (env B (EB 0 gs) Gs w):=by refine⟨λb hb=>⟨⟨.inl ((xn b).2 hb.1),λi ob g hl _ hF=> ?_⟩,rfl⟩,λ_ _=>trivial,λ_ _ _ h=>h.elim,λ_ _ _ h=>h.elim,λ_ _ _ _ _ h=>h.elim⟩;obtain⟨_,_,_,f',_,h2,h3,_⟩:=rJ _ _ _ hl;exact hb.2 (h3 _ ((h2 _).1 hF))
 have fc:Fc (env B (EB 0 gs) Gs w) 0 (EB 0 gs) Gs:=by intro j ob g hl;rw[gE];refine⟨⟨ob,g,hl,cX _,λ_ _=>rfl,λ_ x hx=>by rw[hh0]at hx;cases hx⟩,λ_ b f hga=>⟨ob,g,hl,cX _,λ_ _=>⟨b,f,hga,by simp⟩,λ_ _ _ _ y hy=> ?_⟩⟩;rw[WJ _ _ hl.2]at hy;obtain rfl:=cD hy;exact⟨by rw[hga],λ_ _=>rfl⟩
 have r0:bU B ⟨Js 0 gs++replicate (fn.ntmps-gs.length) .undef,EB 0 gs⟩ Gs {tmps:=vs.toArray++Array.replicate (fn.ntmps-vs.toArray.size) Go.undef,defers:=[]} w:=by
  refine {len:=hlen,defs:=rfl,ok:= ?_,apart:= ?_,fresh:= ?_,tmps:= ?_,size:=by rw[BZ];exact cX _,frame:=by rw[BZ];exact λ_ _ _=>rfl,base:= ?_,same:=by rw[BZ];exact iW.rfl}
  .intro i ob g hl _;obtain⟨_,_,_,f',h1,h2,h3,h4⟩:=rJ _ _ _ hl;exact⟨f',h4 _ kE fc,h1,λb hb=>(h2 b).2 hb⟩
  .intro i j oi oj gi gj b hi hj _ _ Ei GG;exact hap _ _ _ _ _ _ b hi hj Ei GG
  .intro i ob g b hl _ hF;obtain⟨_,_,_,f',_,h2,h3,_⟩:=rJ _ _ _ hl;have:=h3 _ ((h2 _).1 hF);exact⟨.inl ((Zm b).2 this),(yu b this).2⟩
  .have h2:∀n,Rc w (env B (EB 0 gs) Gs w) (replicate n .undef) (replicate n Go.undef) []:=by
    intro n;induction n with
    |zero=>simp[Rc]
    |succ n ih=>simp only[lB,Rc];exact⟨[],[],by simp[R],ih,rfl⟩
   have:=gK (vH _ kE fc) (h2 (fn.ntmps-gs.length));simpa [YS]using this
  .intro b hb;rw[BZ];exact(xn b).1 hb
 refine AT hf hb (CN (lC hm c _ _ h _ _ ⟨_,r0⟩) λe a w' he=> ?_);obtain⟨s,⟨he,ys,Dk,qD,mD,Ip,hlo,hun⟩,G,r⟩:=he;obtain⟨u,hrun,hR⟩:=oF r Dk;have aA1:=fY.1 hun;obtain⟨fp,k1,k2,k3⟩:=Bp r _ u qD aA1.2.1 hR;rw[mD]at k1;have aD3:pinned (λi=>Gs[i]?) 0 gs vs gN:=by simpa using Nq [] rfl
 obtain⟨xW,q1,q2,q3⟩:=CW r WJ gs vs gN 0 0 aD3 hlo aA1.1;have hin:∀b∈xW.flatten++fp,(b∈pO.flatten\/w.heap.size<=b)/\b<w'.heap.size:=by
  intro b hb;have:∃i ob g,look s.o G i ob g/\ob.live=true/\g.F b:=by
   rcases fR.1 hb with hb|hb
   .obtain ⟨i,ob,g,_,h⟩:=q3 b hb;exact⟨i,ob,g,h⟩
   .obtain ⟨i,ob,g,_,h⟩:=k3 b hb;exact⟨i,ob,g,h⟩
  obtain⟨i,ob,g,hl,hlive,hF⟩:=this;have:=r.fresh _ _ _ b hl hlive hF;rw[BZ,Zm]at this;exact this
 have hfin:∃v fp xW,Ending.returned u= .returned v/\R w' kZ rr v fp/\MW w' gs vs xW gN/\(xW.flatten++fp).Nodup/\
   (∀b∈xW.flatten++fp,(b∈pO.flatten\/w.heap.size<=b)/\b<w'.heap.size)/\w.heap.size<=w'.heap.size/\(∀b,b<w.heap.size->b∉pO.flatten->w'.heap[b]? =w.heap[b]?)/\iW w w':=by
  refine⟨u,fp,xW,rfl,JU (E:=(env B s.o G w').plain) (λ_ _=>trivial) rfl rfl rfl _ _ _ Ip k1,q1,fY.2 ⟨q2,k2,λx hx y hy e=> ?_⟩,hin,by have:=r.size;rwa[BZ]at this,λb hb hn=>by have:=r.frame b (by rw[BZ];exact hb) (λh=>hn ((Zm b).1 h));rwa[BZ]at this,by have:=r.same;rwa[BZ]at this⟩;subst e;exact Fv r (λi hi j hj=>aA1.2.2 i hi j hj) (q3 x hx) (k3 x hy)
 rcases he with rfl|rfl
 .exact ⟨r.defs,u,hrun,hfin⟩
 .exact ⟨r.defs,u,hrun,hfin⟩
theorem mJ{e:Exit}{q:Prop}(h:q)(he:e= .normal\/e= .ret:=by first|exact .inr rfl|exact .inl rfl):(e= .normal\/e= .ret)/\q:=⟨he,h⟩
theorem rZ{P:Program}[aB P](hm:P.follows .mixedOrders=true){f:FuncId}{fn:Func}{c:Code}(hf:P.funcs[f]? =some fn){n:Nat}(hn:fn.ntmps=n){gs:List GA}{t:List AV}{o:List aD}{rr:AV}
  (h:kY P c ⟨t,o⟩ (λe s=>(e= .normal\/e= .ret)/\gY P fn s gs rr)) (hb:fn.body=some c:=by rfl)
  (ho:EB 0 gs=o:=by
   simp only[EB,aQ,aM,fO,cB,fI,bS,fU,bZ,oS,gE,Nat.reduceAdd,cM,cW,cY,eE,eR];rfl)
  (ht:Js 0 gs++replicate (n-gs.length) .undef=t:=by
   simp only[Js,aQ,aM,fO,cB,fI,bS,fU,bZ,oS,gE,eE,eR,Nat.reduceSub,Nat.reduceAdd,lB,rN,cM,cW,cY];rfl):UD P f gs rr:=by
 subst ht;subst hn;subst ho;exact Vt hm hf hb h
theorem VN{t t':List AV}{o o':List aD}(i k:Nat){ob:aD}{e e':List AV}(ho:o[i]? =some ob)(hl:ob.live=true)(hb:ob.box=false)(hall:(o.all λx=> !x.box || x.dY.all λc=>sD i c)=true)(he:ob.dY[k]? =some e)
  (hc:pM Eh true e=e') (ho':o.set i {ob with dY:=ob.dY.set k e'}=o') (hw:wk (pM (iV [i]) true t) t'):kR ⟨t,o⟩ ⟨t',o'⟩:=by
 subst ho';subst hc;rintro P _ B a w ⟨G,r⟩;have nb:∀{j x g},look o G j x g->x.box=true->(x.dY.all λc=>sD i c)=true:=λh hb=>by have:=gR.1 hall _ (oB h.1);simpa only[hb,Bool.not_true,Bool.false_or]using this
 obtain⟨g,hlk⟩:=r.look ho;obtain⟨fp,hown,hnd,hF⟩:=r.ok i ob g hlk hl;simp only[hb,Env.of,cJ,eK]at hown;obtain⟨hlen,⟨h,_⟩|⟨b,off,C,ty,fz,nA,ha,hbk,hz,h1,h2,h3,rfl,hr⟩⟩:=hown
 .rw [h]at he;simp at he
 have hk:k<ob.dY.length:=(cA.1 he).1;obtain⟨f1,f2,f3,cs,rfl,hn,hcs,hone,hre,hr1,hr3⟩:=Am hr he;have hsub2:∀x∈f2,g.F x:=λx hx=>hF x (by simp[hx])
 generalize qC:({ob with dY:=ob.dY.set k (pM Eh true e)}:aD)=dH;generalize hg':({g with F:=λx=>g.F x/\x∉f2}:CO)=g';generalize hO:o.set i dH=o';generalize xu:G.set i g'=G';have back:∀{j x y},look o' G' j x y->(j=i/\x=dH/\y=g')\/(j≠i/\look o G j x y):=by intro j x y h;rw[<-hO,<-xu]at h;exact wU h
 have fi:look o' G' i dH g':=by rw[<-hO,<-xu];exact uW hlk
 have fo:∀{j x y},j≠i->look o G j x y->look o' G' j x y:=λhj h=>by rw[<-hO,<-xu];exact BG h hj
 have aH6:dH.live=true:=by rw[<-qC];exact hl
 have aEx:dH.box=false:=by rw[<-qC];exact hb
 have aBc:dH.n=ob.n:=by rw[<-qC]
 have aH7:dH.ver=ob.ver:=by rw[<-qC]
 have aBd:dH.dY.length=ob.dY.length:=by rw[<-qC];simp
 have hga:g'.a=g.a:=by rw[<-hg']
 have hgc:g'.cap=g.cap:=by rw[<-hg']
 have Xm:∀x,g'.F x↔g.F x/\x∉f2:=λx=>by rw[<-hg']
 let Er:Env:=(env B o G w).no i
 have yx:jX (iV [i]) true (env B o G w) Er (λ_=>True):=by
  refine⟨λt e=>by simp[iV]at e,λt e=>by simp only[iV,cQ]at e;exact⟨e.symm,λb hb=>hb⟩,λj t e=> ?_,λ_ _ _ _ h=>h,λ_ _ _ _ _ _ h=>h⟩;simp only[iV]at e;split at e
  .cases e
  .rename_i hiu;obtain rfl:=cD e;refine⟨by simp,?_,λb hb=>⟨hiu,hb⟩⟩;by_cases hV:(env B o G w).V j
   .exact .inl hV
   .exact .inr hV
 have kA:∀x,(env B o G w).A x->(env B o' G' w).A x:=λx hx=>⟨hx.1,λj y z hlj hjl hf=>by
  rcases back hlj with⟨rfl,rfl,rfl⟩|⟨_,h⟩
  .exact hx.2 _ _ _ hlk hl ((Xm x).1 hf).1
  .exact hx.2 _ _ _ h hjl hf⟩
 have kS:∀x∈f2,(env B o' G' w).A x:=λx hx=>⟨(r.fresh _ _ _ x hlk hl (hsub2 x hx)).elim λh1 h2=>h1.elim (λh=> .inl (B.gA x h)) λh=> .inr ⟨h,h2⟩,λj y z hlj hjl hf=>by
  rcases back hlj with⟨rfl,rfl,rfl⟩|⟨hj,h⟩
  .exact ((Xm x).1 hf).2 hx
  .exact hj (r.apart _ _ _ _ _ _ x h hlk hjl hl hf (hsub2 x hx))⟩
 have k2':bR w Er w (env B o' G' w):=by
  refine⟨λx hx=>⟨kA x hx,rfl⟩,λj h x hx=> ?_,λj x hV h=> ?_,λj ver x h=> ?_,λj ver p q x h=> ?_⟩
  .obtain ⟨y,hy⟩:=r.look hx;by_cases hj:j=i
   .subst hj;rw[ho]at hx;obtain rfl:=cD hx;exact hl
   .exact h x (fo hj hy).1
  .obtain ⟨hji,x',y,hlj,hjl,hf,hne⟩:=h;exact⟨⟨x',y,fo (by simpa using hji) hlj,hjl,hf,hne⟩,rfl⟩
  .obtain ⟨x',y,hlj,Al,hh,hz⟩:=h;by_cases hj:j=i
   .subst hj;obtain⟨rfl,rfl⟩:=jE hlk hlj;exact⟨dH,g',fi,by omega,λ_ Py=>by rw[hga,hgc,aBd];exact hh hl (by omega),hz⟩
   .exact ⟨x',y,fo hj hlj,Al,hh,hz⟩
  .obtain ⟨x',y,hlj,Al,hh,hz⟩:=h;by_cases hj:j=i
   .subst hj;obtain⟨rfl,rfl⟩:=jE hlk hlj;exact⟨dH,g',fi,by omega,λ_ Py=>by rw[hga,aBc];exact hh hl (by omega),λh=>by rw[aEx]at h;cases h⟩
   .exact ⟨x',y,fo hj hlj,Al,hh,hz⟩
 have kp:bR w (env B o G w).plain w (env B o' G' w).plain:=⟨λx hx=>⟨kA x hx,rfl⟩,λ_ _=>trivial,λ_ _ _ h=>h.elim,λ_ _ _ h=>h.elim,λ_ _ _ _ _ h=>h.elim⟩;have rv:jX Eh true (env B o G w).plain (env B o' G' w).plain (λx=>x∈f2):=by
  refine⟨λt e=> ?_,λt e=> ?_,λj t e=>by simp[Eh]at e,λ_ _ _ _ h=>h.elim,λ_ _ _ _ _ _ h=>h.elim⟩
  .simp only[Eh,cQ]at e;subst e;exact⟨by simp,λb hb=>kS b hb⟩
  .simp only[Eh,cQ]at e;exact⟨e.symm,λb hb=>kA b hb⟩
 have hnd':=hnd;simp only[hY]at hnd';refine⟨G',{len:=by rw[<-hO,<-xu];simp[r.len],defs:=r.defs,ok:= ?_,apart:= ?_,fresh:= ?_,tmps:=FC hw (dC k2' _ _ _ (by simp) (uD yx _ _ _ (by simp) r.tmps)),size:=r.size,frame:=r.frame,base:=r.base,same:=r.same}⟩
 .intro j x y hlj hjl;rcases back hlj with⟨rfl,rfl,rfl⟩|⟨hj,h⟩
  .refine ⟨b::(f1++[]++f3),?_,?_,?_⟩
   .rw [aEx,<-qC,<-hg'];simp only[Env.of,cJ,eK];refine⟨by simpa using hlen,.inr ⟨b,off,C,ty,fz,_,ha,hbk,hz,h1,by simpa using h2,h3,rfl,?_⟩⟩;exact WB hk hn hcs hone (uD rv _ _ _ (λx hx=>hx) hre) (kP kp _ _ _ _ _ rfl (λ_ _=>rfl) hr1) (kP kp _ _ _ _ _ rfl (λ_ _=>rfl) hr3)
   .have hs:(f1++[]++f3).Sublist (f1++f2++f3):=((pS f1).append (nil_sublist f2)).append (pS f3);exact hY.2 ⟨λh=>hnd'.1 (hs.subset h),hs.nodup hnd'.2⟩
   .intro x hx;rw[Xm];have hin:x∈b::(f1++f2++f3):=by simp only[lE,fR,Dd,or_false]at hx⊢;grind
    refine⟨hF x hin,λhx2=> ?_⟩;have hd:=hnd'.2;simp only[fY,fR]at hd;simp only[lE,fR,Dd,or_false]at hx;rcases hx with rfl|hx|hx
    .exact hnd'.1 (by simp[hx2])
    .exact hd.1.2.2 x hx x hx2 rfl
    .exact hd.2.2 x (.inr hx2) x hx rfl
  .obtain ⟨fq,q1,q2,q3⟩:=r.ok j x y h hjl;refine⟨fq,?_,q2,q3⟩;cases hbj:x.box with
   |false=>simp only[hbj,Env.of,cJ,eK]at q1⊢;exact q1.keeps kp (λ_ _=>rfl)
   |true=>simp only[hbj,Env.of,eI]at q1⊢;exact(q1.Bw (nb h hbj)).keeps k2' (λ_ _=>rfl)
 .intro j1 j2 x1 x2 y1 y2 z hl1 hl2 v1 v2 hf1 hf2;rcases back hl1 with⟨rfl,rfl,rfl⟩|⟨hj1,h1⟩<;>rcases back hl2 with⟨rfl,rfl,rfl⟩|⟨hj2,h2⟩
  .rfl
  .exact absurd (r.apart _ _ _ _ _ _ z hlk h2 hl v2 ((Xm z).1 hf1).1 hf2).symm hj2
  .exact absurd (r.apart _ _ _ _ _ _ z h1 hlk v1 hl hf1 ((Xm z).1 hf2).1) hj1
  .exact r.apart _ _ _ _ _ _ z h1 h2 v1 v2 hf1 hf2
 .intro j x y z hlj hjl hf;rcases back hlj with⟨rfl,rfl,rfl⟩|⟨_,h⟩
  .exact r.fresh _ _ _ z hlk hl ((Xm z).1 hf).1
  .exact r.fresh _ _ _ z h hjl hf
theorem go_openB{P:Program}[aB P](i k c:Nat){id:Nat}{L:List Oper}{Q:Exit->AS->Prop}{t t':List AV}{o o':List aD}{ob:aD}{e:List AV}{m:Nat}{rows:List (List AV)}(ho:o[i]? =some ob)(he:ob.dY[k]? =some e)(hc:e[c]? =some (.sl .own m rows))
  (h:kY P (.region id L.toArray false) ⟨t',o'⟩ Q) (hl:ob.live=true:=by rfl) (hb:ob.box=true:=by rfl) (hall:(o.all λx=> !x.box || x.dY.all λc=>sD i c)=true:=by simp)
  (ho':o.set i {ob with dY:=ob.dY.set k (e.set c (.obj o.length 1))}++[⟨true,false,m,1,rows⟩]=o':=by simp;rfl) (hw:pM (iV [i]) true t=t':=by simp;rfl):kY P (TC (.region id L.toArray false)) ⟨t,o⟩ Q:=
 go_weak (qI i k c ho hl hb hall he hc ho' (hw▸uN _)) h
theorem go_share{P:Program}[aB P](i k:Nat){id:Nat}{L:List Oper}{Q:Exit->AS->Prop}{t t':List AV}{o o':List aD}{ob:aD}{e e':List AV}(ho:o[i]? =some ob)(he:ob.dY[k]? =some e)(he':pM Eh true e=e')
  (h:kY P (.region id L.toArray false) ⟨t',o'⟩ Q) (hl:ob.live=true:=by rfl) (hb:ob.box=false:=by rfl) (hall:(o.all λx=> !x.box || x.dY.all λc=>sD i c)=true:=by simp)
  (ho':o.set i {ob with dY:=ob.dY.set k e'}=o':=by simp;rfl) (hw:pM (iV [i]) true t=t':=by simp;rfl):kY P (TC (.region id L.toArray false)) ⟨t,o⟩ Q:=
 go_weak (VN i k ho hl hb hall he he' ho' (hw▸uN _)) h
theorem Yv{t t':List AV}{o o':List aD}(i:Nat){ob:aD}(ho:o[i]? =some ob)(ho':o.set i ⟨false,false,0,ob.ver,[]⟩=o')(hw:wk t t'):kR ⟨t,o⟩ ⟨t',o'⟩:=by
 subst ho';rintro P _ B a w ⟨G,r⟩;obtain⟨g,hlk⟩:=r.look ho;have hi:i<o.length:=(cA.1 ho).1;have back:∀{j x y},look (o.set i ⟨false,false,0,ob.ver,[]⟩) G j x y->(j=i/\x=⟨false,false,0,ob.ver,[]⟩)\/(j≠i/\look o G j x y):=by
  intro j x y ⟨h1,h2⟩;rw[getElem?_set]at h1;by_cases hj:i=j
  .subst hj;rw[eA rfl,eA hi]at h1;exact .inl ⟨rfl,(cD h1).symm⟩
  .rw [cU hj]at h1;exact .inr ⟨λh=>hj h.symm,h1,h2⟩
 have k:bR w (env B o G w) w (env B (o.set i ⟨false,false,0,ob.ver,[]⟩) G w):=
  uF (cX _) (λb hb=>⟨lY r hb,rfl⟩) r.len
   (λj x y h=>by
    by_cases hj:j=i
    .subst hj;obtain⟨rfl,rfl⟩:=jE hlk h;exact⟨⟨false,false,0,ob.ver,[]⟩,g,⟨by rw[getElem?_set];simp[hi],hlk.2⟩,cX _,(λh=>by cases h),λh=>by cases h⟩
    .refine ⟨x,y,⟨by rw[getElem?_set,cU (λe=>hj e.symm)];exact h.1,h.2⟩,cX _,λh=> .inl h,λhl=>⟨hl,rfl,λ_=>⟨rfl,rfl,rfl⟩,λb h1 h2=>⟨h1,h2,rfl⟩⟩⟩)
   (λj x y b h hl hf=>by
    rcases back h with⟨_,rfl⟩|⟨_,h⟩
    .cases hl
    .exact .inr ⟨j,x,y,h,hl,hf⟩)
 refine⟨G,{len:=by simp[r.len],defs:=r.defs,ok:= ?_,apart:= ?_,fresh:= ?_,tmps:=FC hw (dC k _ _ _ (by simp) r.tmps),size:=r.size,frame:=r.frame,base:=r.base,same:=r.same}⟩
 .intro j x y h hl;rcases back h with⟨_,rfl⟩|⟨_,h⟩
  .cases hl
  .exact (r.ok j x y h hl).keeps k (λ_ _=>rfl)
 .intro j1 j2 x1 x2 y1 y2 z h1 h2 l1 l2 f1 f2;rcases back h1 with⟨_,rfl⟩|⟨_,h1⟩
  .cases l1
  .rcases back h2 with⟨_,rfl⟩|⟨_,h2⟩
   .cases l2
   .exact r.apart _ _ _ _ _ _ z h1 h2 l1 l2 f1 f2
 .intro j x y z h hl hf;rcases back h with⟨_,rfl⟩|⟨_,h⟩
  .cases hl
  .exact r.fresh _ _ _ z h hl hf
theorem Xw:∀a b:List UInt8,Lib.compareBytes a b=if a=b then 0 else if Op.bytesLess a b=true then -1 else 1
 |[],[]=>rfl
 |[],_::_=>by simp[Lib.compareBytes,Op.bytesLess]
 |_::_,[]=>by simp[Lib.compareBytes,Op.bytesLess]
 |x::xs,y::ys=>by
  have ih:=Xw xs ys;simp only[Lib.compareBytes,Op.bytesLess];by_cases h:x<y
  .have hne:x≠y:=UInt8.ne_of_lt h;simp[h,hne]
  .by_cases h2:y<x
   .have hne:x≠y:=(UInt8.ne_of_lt h2).symm;simp[h,h2,hne]
   .have he:x=y:=UInt8.le_antisymm (UInt8.not_lt.1 h2) (UInt8.not_lt.1 h);subst he;simp[h,ih]
theorem TR{P:Program}[aB P]{f:FuncId}{fn:Func}(hf:P.funcs[f]? =some fn)(Sz:(fn.name == "runtime.NumGoroutine")=false)
  (hb:fn.body.isNone=true) (hn:Extern.findNext fn=none) (he:Extern.find fn=some Extern.BytealgCompare.compare) (s t:aX):
  OkN P f [.str s,.str t] (.int .i64 (Lib.compareBytes s t)):=by
 intro w vs h;obtain⟨v1,h⟩:∃v:Value,vs=[.string ⟨s.toArray⟩,.string ⟨t.toArray⟩]:=by
  cases vs with
  |nil=>simp[Rc]at h
  |cons a vs=>cases vs with
   |nil=>simp[Rc]at h
   |cons b vs=>cases vs with
    |nil=>simp only[Rc,R]at h;obtain⟨f1,f2,h1,h2,h3⟩:=h;obtain⟨f3,f4,h4,h5,h6⟩:=h2;exact⟨a,by rw[h1.1,h4.1]⟩
    |cons d vs=>simp only[Rc,R]at h;obtain⟨f1,f2,h1,h2,h3⟩:=h;obtain⟨f3,f4,h4,h5,h6⟩:=h2;simp[Rc]at h5
 subst h;refine⟨.int .i64 (Lib.compareBytes s t),w,?_,rfl,iW.rfl,λ_ _=>by simp[R]⟩;rw[run_callFunc_extern hf Sz hb hn he,show [Value.string ⟨s.toArray⟩,Value.string ⟨t.toArray⟩].toArray=#[Value.string ⟨s.toArray⟩,Value.string ⟨t.toArray⟩]from rfl,Go.Lib.run_compareString];rfl
theorem Jj{w:World}{E:Env}{code:List UInt8}{i h:Int}{a:Option Addr}{cap:Nat}{fp:List Nat}(ho:oD w E 3 [aU code i h] a cap fp):code.length<=maxLen:=by
 rcases ho.2 with h0|⟨b,off,C,e,fz,nA,ha,hb,hz,h1,h2,h3,hf,hr⟩
 .exact absurd h0.1 (by simp)
 .simp only[Rr,aU]at hr;obtain⟨cs,f1,f2,hn,hc,hone,rF,hf2,hfe⟩:=hr;cases cs with
  |nil=>simp at hn
  |cons v0 cs=>
   simp only[Rc,R]at rF;obtain⟨g1,g2,r1,_⟩:=rF;rcases r1 with h|⟨_,_,_,hl,_⟩
   .exact h.1.elim
   .simpa [aR]using hl.1
def Ig(P:Program)(fn:Func)(s:AS)(code:List UInt8)(r:AV): Prop :=
  s.t.getD 0 .undef = .ptr 0 2 0 0 /\ (∃ i h:Int, 0 <= i /\ s.o[0]? = some ⟨true, true, 3, 2, [aU code i h]⟩) /\
  ((∃ ys, s.wI P fn.results.toList = some ys /\ gG s.o (single ys) = true /\ (0 :: iB (single ys)).Nodup /\ res s.o (single ys) = r) \/
   (∃ j ys, s.zI P fn.results.toList = some (j, ys) /\ gG s.o (single ys) = true /\ (0 :: iB (single ys)).Nodup /\ j ∉ iB (single ys) /\ j ≠ 0 /\ res s.o (single ys) = r))
theorem Wl{P:Program}[aB P](hm:P.follows .mixedOrders=true){f:FuncId}{fn:Func}{c:Code}(hf:P.funcs[f]? =some fn)(hb:fn.body=some c){xs:List AV}{Q:AV->Prop}(vQ:xs.all dO=true)
  (h:∀code i h,0<=i->code.length<=maxLen->kY P c ⟨.ptr 0 2 0 0::xs++replicate (fn.ntmps-(xs.length+1)) .undef,[⟨true,true,3,2,[aU code i h]⟩]⟩ (λe s=>(e= .normal\/e= .ret)/\∃r,Q r/\Ig P fn s code r)):Iz P f xs Q:=by
 intro w S b fo cap code vs hg hlow hbl za hS Va hargs;obtain⟨i,h',hi,hown⟩:=Va;have aBt:code.length<=maxLen:=Jj hown;have hl:=eG hargs;generalize hB:(⟨w,λx=>S x\/x=b,(· =b),λ_=>none,λj=>if j=0 then some (.pointer (some ⟨b,fo,none⟩),cap)else none,hg,λx e=>by rw[e];exact hlow,λx e=> .inr e⟩:eP P)=B;have BZ:B.w0=w:=by rw[<-hB]
 have xn:∀x,B.A0 x↔(S x\/x=b):=by intro x;rw[<-hB]
 have Zm:∀x,B.O0 x↔x=b:=by intro x;rw[<-hB]
 have WJ:B.p0 0=some (.pointer (some ⟨b,fo,none⟩),cap):=by rw[<-hB];rfl
 have hh0:∀j,B.h0 j=none:=by intro j;rw[<-hB]
 generalize qX:(⟨true,true,3,2,[aU code i h']⟩:aD)=ob;generalize sO:(⟨some ⟨b,fo,none⟩,cap,(· =b)⟩:CO)=go;have QI:ob.live=true/\ob.box=true/\ob.n=3/\ob.ver=2/\ob.dY=[aU code i h']:=by rw[<-qX];exact⟨rfl,rfl,rfl,rfl,rfl⟩
 have Cz:go.a=some ⟨b,fo,none⟩/\go.cap=cap/\∀x,go.F x↔x=b:=by rw[<-sO];exact⟨rfl,rfl,λ_=>Iff.rfl⟩
 have qz:∀{j o2 g2},look [ob] [go] j o2 g2->j=0/\o2=ob/\g2=go:=by
  rintro j o2 g2 ⟨h1,h2⟩;cases j with
  |zero=>simp at h1 h2;exact⟨rfl,h1.symm,h2.symm⟩
  |succ j=>simp at h1
 have hlk:look [ob] [go] 0 ob go:=⟨rfl,rfl⟩;have hEA:∀x,S x->(env B [ob] [go] w).A x:=λx hx=>⟨.inl ((xn x).2 (.inl hx)),λj o2 g2 h2 _ hF=>by
  obtain⟨_,_,rfl⟩:=qz h2;exact za (((Cz.2.2 x).1 hF)▸hx)⟩
 have r0:bU B ⟨.ptr 0 2 0 0::xs++replicate (fn.ntmps-(xs.length+1)) .undef,[ob]⟩ [go] {tmps:=(.pointer (some ⟨b,fo,none⟩)::vs).toArray++Array.replicate (fn.ntmps-(.pointer (some ⟨b,fo,none⟩)::vs).toArray.size) Go.undef,defers:=[]} w:=by
  refine⟨rfl,rfl,?_,?_,?_,?_,by rw[BZ];exact cX _,λx _ _=>by rw[BZ],?_,by rw[BZ];exact iW.rfl⟩
  .intro j o2 g2 h2 _;obtain⟨_,rfl,rfl⟩:=qz h2;refine⟨[b],?_,by simp,by simp[Cz.2.2]⟩;rw[QI.2.1,QI.2.2.1,QI.2.2.2.2,Cz.1,Cz.2.1];simp only[Env.of,eI];exact sZ (E:=qF S) ⟨λx hx=>⟨hEA x hx,rfl⟩,λ_ _=>trivial,λ_ _ _ h=>h.elim,λ_ _ _ h=>h.elim,λ_ _ _ _ _ h=>h.elim⟩ hown
  .intro j1 j2 o1 o2 g1 g2 x a1 a2 _ _ _ _;obtain⟨rfl,_,_⟩:=qz a1;obtain⟨rfl,_,_⟩:=qz a2;rfl
  .intro j o2 g2 x h2 _ hF;obtain⟨_,rfl,rfl⟩:=qz h2;have:=(Cz.2.2 x).1 hF;exact⟨.inl ((Zm x).2 this),by rw[this];exact hbl⟩
  .have h1:Rc w (env B [ob] [go] w) xs vs []:=KU (E:=qF S) (E':=env B [ob] [go] w) ⟨λx hx=>⟨hEA x hx,rfl⟩,λ_ _=>trivial,λ_ _ _ h=>h.elim,λ_ _ _ h=>h.elim,λ_ _ _ _ _ h=>h.elim⟩ vQ hargs
   have h2:∀n,Rc w (env B [ob] [go] w) (replicate n .undef) (replicate n Go.undef) []:=by
    intro n;induction n with
    |zero=>simp[Rc]
    |succ n ih=>simp only[lB,Rc];exact⟨[],[],by simp[R],ih,rfl⟩
   have h3:R w (env B [ob] [go] w) (.ptr 0 2 0 0) (.pointer (some ⟨b,fo,none⟩)) []:=by simp only[R];refine⟨trivial,ob,go,hlk,by rw[QI.2.2.2.1];exact cX _,λ_ _=>⟨b,fo,Cz.1,by simp⟩,λ_ _ _ _ x hx=> ?_⟩;rw[WJ]at hx;obtain rfl:=cD hx;exact⟨rfl,λ_ _=>Cz.2.1⟩
   have:=gK (gK (f1:=[]) (f2:=[]) (show Rc w (env B [ob] [go] w) [.ptr 0 2 0 0] [.pointer (some ⟨b,fo,none⟩)] []by simp only[Rc];exact⟨[],[],h3,rfl,rfl⟩) h1) (h2 (fn.ntmps-(xs.length+1)));simpa [hl]using this
  .intro x hx;rw[BZ];rcases(xn x).1 hx with h|h
   .exact hS x h
   .rw [h];exact hbl
 refine AT hf hb (CN (lC hm c _ _ (qX▸h code i h' hi aBt) _ _ ⟨_,r0⟩) λe a w' he=> ?_);obtain⟨s,⟨he,rv,hQ,ht,⟨i2,h2,hi2,ho2⟩,AZ⟩,G,r⟩:=he;have rf:AV.isObj s.o 0 2=some ⟨true,true,3,2,[aU code i2 h2]⟩:=by simp[AV.isObj,ho2]
 obtain⟨g,b2,f2,BK,dZ,rq,UC⟩:=r.ptr (x:= .tmp 0) ht rf;have Nq:=r.Y0 (x:= .tmp 0) ht rf BK rfl rfl rfl rfl _ WJ;rw[UC]at Nq;obtain⟨hp1,hp2⟩:=Nq;have nQ:g.cap=cap:=hp2 rfl rfl;simp only[tA,Dg,oS,cQ,lA,mN]at hp1;obtain⟨rfl,rfl⟩:=hp1;obtain⟨Jr,sV,_,RJ⟩:=r.ok 0 _ g BK rfl;simp only[Env.of,eI]at sV;obtain⟨b3,aFb,ry,rfl⟩:=wZ sV;rw[rq]at ry;simp only[cQ,lA,mN]at ry;obtain⟨rfl,rfl⟩:=ry;have zO:g.F b2:=RJ b2 (by simp);have key:∃(v:Value) (fp:List Nat),(results fn a.tmps).run P w'= .ok v w'/\R w' (env B s.o G w').plain rv v fp/\fp.Nodup/\∀x∈fp,∃j ob g,j≠0/\look s.o G j ob g/\ob.live=true/\g.F x:=by
  rcases AZ with⟨ys,Dk,qD,hu,mD⟩|⟨j,ys,Dk,qD,hu,hj,hj0,mD⟩
  .obtain ⟨v,hrun,hR⟩:=oF r Dk;rw[hY]at hu;obtain⟨fp,h1,h2,h3⟩:=Bp r _ v qD hu.2 hR;rw[mD]at h1;exact⟨v,fp,hrun,h1,h2,λx hx=>by obtain⟨j,ob,g,hj,h⟩:=h3 x hx;exact⟨j,ob,g,λe=>hu.1 (e▸hj),h⟩⟩
  .obtain ⟨v,Jr,Od,g1,rz,sI,hrun,hR,hnd,hF⟩:=tK r Dk;rw[hY]at hu;obtain⟨fp,h1,h2,h3⟩:=GN r rz sI _ v Jr qD hu.2 hj hnd hF hR;rw[mD]at h1;refine⟨v,fp,hrun,h1,h2,λx hx=> ?_⟩;rcases h3 x hx with h|⟨j2,dH,g',hj2,h⟩
   .exact ⟨j,Od,g1,hj0,rz,sI,hF x h⟩
   .exact ⟨j2,dH,g',λe=>hu.1 (e▸hj2),h⟩
 obtain⟨v,fp,hrun,k1,k2,k3⟩:=key;have Ec:∀x∈fp,w.heap.size<=x/\x<w'.heap.size:=λx hx=>by
  obtain⟨j,Od,g1,hj,hl1,sI,hF⟩:=k3 x hx;have:=r.fresh _ _ _ x hl1 sI hF;refine⟨?_,this.2⟩;rcases this.1 with h|h
  .have e:=(Zm x).1 h;exact absurd (r.apart _ _ _ _ _ _ x hl1 BK sI rfl hF (e▸zO)) hj
  .rwa [BZ]at h
 have hkp:bR w' (env B s.o G w').plain w' (qF λx=>(S x\/(w.heap.size<=x/\x<w'.heap.size))/\x∉fp):=by
  refine⟨λx hx=>⟨⟨?_,λhm=> ?_⟩,rfl⟩,λ_ _=>trivial,λ_ _ _ h=>h.elim,λ_ _ _ h=>h.elim,λ_ _ _ _ _ h=>h.elim⟩
  .rcases hx.1 with h|h
   .rcases (xn x).1 h with h|h
    .exact .inl h
    .exact absurd (h▸zO) (hx.2 _ _ _ BK rfl)
   .rw [BZ]at h;exact .inr h
  .obtain ⟨j,Od,g1,_,hl1,sI,hF⟩:=k3 x hm;exact hx.2 _ _ _ hl1 sI hF
 have hfin:∃r v' fp,Ending.returned v= .returned v'/\Q r/\R w' (qF λx=>(S x\/(w.heap.size<=x/\x<w'.heap.size))/\x∉fp) r v' fp/\fp.Nodup/\(∀x∈fp,w.heap.size<=x/\x<w'.heap.size)/\w.heap.size<=w'.heap.size/\
   (∀x,x<w.heap.size->x≠b2->w'.heap[x]? =w.heap[x]?)/\iW w w'/\Dx w' (λx=>(S x\/(w.heap.size<=x/\x<w'.heap.size))/\x∉fp) b2 f2 cap code:=by
  refine⟨rv,v,fp,rfl,hQ,jS hkp _ _ _ (λ_ _=>rfl) k1,k2,Ec,by have:=r.size;rwa[BZ]at this,λx hx hne=> ?_,by have:=r.same;rwa[BZ]at this,i2,h2,hi2,?_⟩
  .have:=r.frame x (by rw[BZ];exact hx) (λh=>hne ((Zm x).1 h))
   rwa[BZ]at this
  .rw [rq,nQ]at sV;exact sZ ⟨λx hx=>hkp.1 x hx,λ_ _=>trivial,λ_ _ _ h=>h.elim,λ_ _ _ h=>h.elim,λ_ _ _ _ _ h=>h.elim⟩ sV
 rcases he with rfl|rfl
 .exact ⟨r.defs,v,hrun,hfin⟩
 .exact ⟨r.defs,v,hrun,hfin⟩
theorem Wm{P:Program}[aB P](hm:P.follows .mixedOrders=true){f:FuncId}{fn:Func}{c:Code}(hf:P.funcs[f]? =some fn)(hb:fn.body=some c){xv:AV}{zs:List AV}{Q:AV->Prop}(vQ:zs.all dO=true)
  (h:∀code i h,0<=i->code.length<=maxLen->kY P c ⟨.ptr 0 2 0 0::(bV 1 1 xv).1::zs++replicate (fn.ntmps-(zs.length+2)) .undef,⟨true,true,3,2,[aU code i h]⟩::(bV 1 1 xv).2⟩ (λe s=>(e= .normal\/e= .ret)/\∃r,Q r/\Ig P fn s code r)):OkX P f xv zs Q:=by
 intro w S b fo cap code v Oq vs hg hlow hbl za hS Va Rs aAk hRx hargs;obtain⟨i,h',hi,hown⟩:=Va;have aBt:code.length<=maxLen:=Jj hown;have hl:=eG hargs;obtain⟨Gs,hlen,rJ,hap,vH⟩:=vG (q:=1) xv v Oq 1 hRx aAk;generalize hB:(⟨w,λx=>S x\/x=b\/x∈Oq,λx=>x=b\/x∈Oq,λ_=>none,λj=>if j=0 then some (.pointer (some ⟨b,fo,none⟩),cap)else none,hg,λx e=>by rcases e with e|e;exact e▸hlow;exact(Rs x e).1,λx e=> .inr e⟩:eP P)=B;have BZ:B.w0=w:=by rw[<-hB]
 have xn:∀x,B.A0 x↔(S x\/x=b\/x∈Oq):=by intro x;rw[<-hB]
 have Zm:∀x,B.O0 x↔(x=b\/x∈Oq):=by intro x;rw[<-hB]
 have WJ:B.p0 0=some (.pointer (some ⟨b,fo,none⟩),cap):=by rw[<-hB];rfl
 have hh0:∀j,B.h0 j=none:=by intro j;rw[<-hB]
 generalize qX:(⟨true,true,3,2,[aU code i h']⟩:aD)=ob;generalize sO:(⟨some ⟨b,fo,none⟩,cap,(· =b)⟩:CO)=go;have QI:ob.live=true/\ob.box=true/\ob.n=3/\ob.ver=2/\ob.dY=[aU code i h']:=by rw[<-qX];exact⟨rfl,rfl,rfl,rfl,rfl⟩
 have Cz:go.a=some ⟨b,fo,none⟩/\go.cap=cap/\∀x,go.F x↔x=b:=by rw[<-sO];exact⟨rfl,rfl,λ_=>Iff.rfl⟩
 generalize xZ:(bV 1 1 xv).2=news at*;have zF:∀{j o2 g2 x},look news Gs j o2 g2->g2.F x->x∈Oq:=by intro j o2 g2 x hl2 hF;obtain⟨_,_,_,f',_,_,h3,h4⟩:=rJ _ _ _ hl2;exact h4 _ ((h3 _).1 hF)
 have qz:∀{j o2 g2},look (ob::news) (go::Gs) j o2 g2->(j=0/\o2=ob/\g2=go)\/∃j',j=j'+1/\look news Gs j' o2 g2:=by
  rintro j o2 g2 ⟨h1,h2⟩;cases j with
  |zero=>simp at h1 h2;exact .inl ⟨rfl,h1.symm,h2.symm⟩
  |succ j=>exact .inr ⟨j,rfl,by simpa using h1,by simpa using h2⟩
 have hlk:look (ob::news) (go::Gs) 0 ob go:=⟨rfl,rfl⟩;have hEA:∀x,S x->(env B (ob::news) (go::Gs) w).A x:=λx hx=>⟨.inl ((xn x).2 (.inl hx)),λj o2 g2 h2 _ hF=>by
  rcases qz h2 with⟨_,_,rfl⟩|⟨j',_,h3⟩
  .exact za (((Cz.2.2 x).1 hF)▸hx)
  .exact (Rs x (zF h3 hF)).2.2.2 hx⟩
 have kE:bR w (qF S) w (env B (ob::news) (go::Gs) w):=⟨λx hx=>⟨hEA x hx,rfl⟩,λ_ _=>trivial,λ_ _ _ h=>h.elim,λ_ _ _ h=>h.elim,λ_ _ _ _ _ h=>h.elim⟩;have r0:bU B ⟨.ptr 0 2 0 0::(bV 1 1 xv).1::zs++replicate (fn.ntmps-(zs.length+2)) .undef,ob::news⟩ (go::Gs) {tmps:=(.pointer (some ⟨b,fo,none⟩)::v::vs).toArray++Array.replicate (fn.ntmps-(.pointer (some ⟨b,fo,none⟩)::v::vs).toArray.size) Go.undef,defers:=[]} w:=by
  refine⟨by simp[hlen],rfl,?_,?_,?_,?_,by rw[BZ];exact cX _,λx _ _=>by rw[BZ],?_,by rw[BZ];exact iW.rfl⟩
  .intro j o2 g2 h2 _;rcases qz h2 with⟨_,rfl,rfl⟩|⟨j',_,h3⟩
   .refine ⟨[b],?_,by simp,by simp[Cz.2.2]⟩;rw[QI.2.1,QI.2.2.1,QI.2.2.2.2,Cz.1,Cz.2.1];simp only[Env.of,eI];exact sZ (E:=qF S) kE.plain hown
   .obtain ⟨q1,q2,_,f',sV,q3,q4,q5⟩:=rJ _ _ _ h3;refine⟨f',?_,q3,λx hx=>(q4 x).2 hx⟩;rw[q2];exact sV.keeps kE.plain (λ_ _=>rfl)
  .intro j1 j2 o1 o2 g1 g2 x a1 a2 _ _ f1 f2;rcases qz a1 with⟨rfl,_,rfl⟩|⟨j',rfl,c1⟩<;>rcases qz a2 with⟨rfl,_,rfl⟩|⟨j'',rfl,c2⟩
   .rfl
   .exact absurd ((Cz.2.2 x).1 f1) (Rs x (zF c2 f2)).2.2.1
   .exact absurd ((Cz.2.2 x).1 f2) (Rs x (zF c1 f1)).2.2.1
   .rw [hap _ _ _ _ _ _ x c1 c2 f1 f2]
  .intro j o2 g2 x h2 _ hF;rcases qz h2 with⟨_,rfl,rfl⟩|⟨j',_,h3⟩
   .have:=(Cz.2.2 x).1 hF;exact⟨.inl ((Zm x).2 (.inl this)),by rw[this];exact hbl⟩
   .have:=zF h3 hF;exact⟨.inl ((Zm x).2 (.inr this)),(Rs x this).2.1⟩
  .have h1:Rc w (env B (ob::news) (go::Gs) w) zs vs []:=KU (E:=qF S) (E':=env B (ob::news) (go::Gs) w) kE.plain vQ hargs;have h2:∀n,Rc w (env B (ob::news) (go::Gs) w) (replicate n .undef) (replicate n Go.undef) []:=by
    intro n;induction n with
    |zero=>simp[Rc]
    |succ n ih=>simp only[lB,Rc];exact⟨[],[],by simp[R],ih,rfl⟩
   have h3:R w (env B (ob::news) (go::Gs) w) (.ptr 0 2 0 0) (.pointer (some ⟨b,fo,none⟩)) []:=by simp only[R];refine⟨trivial,ob,go,hlk,by rw[QI.2.2.2.1];exact cX _,λ_ _=>⟨b,fo,Cz.1,by simp⟩,λ_ _ _ _ x hx=> ?_⟩;rw[WJ]at hx;obtain rfl:=cD hx;exact⟨rfl,λ_ _=>Cz.2.1⟩
   have h4:R w (env B (ob::news) (go::Gs) w) (bV 1 1 xv).1 v []:=by
    refine vH _ kE λj o2 g2 h2=> ?_
    obtain⟨_,_,q3,_⟩:=rJ _ _ _ h2;rw[Nat.add_comm];exact⟨o2,g2,⟨by simpa using h2.1,by simpa using h2.2⟩,rB q3.symm,λ_ _=>rfl,λh=>absurd h (by decide)⟩
   have:=gK (gK (f1:=[]) (f2:=[]) (show Rc w (env B (ob::news) (go::Gs) w) [.ptr 0 2 0 0,(bV 1 1 xv).1] [.pointer (some ⟨b,fo,none⟩),v] []by simp only[Rc];exact⟨[],[],h3,⟨[],[],h4,rfl,rfl⟩,rfl⟩) h1) (h2 (fn.ntmps-(zs.length+2)));simpa [hl]using this
  .intro x hx;rw[BZ];rcases(xn x).1 hx with h|h|h
   .exact hS x h
   .rw [h];exact hbl
   .exact (Rs x h).2.1
 refine AT hf hb (CN (lC hm c _ _ (qX▸h code i h' hi aBt) _ _ ⟨_,r0⟩) λe a w' he=> ?_);obtain⟨s,⟨he,rv,hQ,ht,⟨i2,h2,hi2,ho2⟩,AZ⟩,G,r⟩:=he;have rf:AV.isObj s.o 0 2=some ⟨true,true,3,2,[aU code i2 h2]⟩:=by simp[AV.isObj,ho2]
 obtain⟨g,b2,f2,BK,dZ,rq,UC⟩:=r.ptr (x:= .tmp 0) ht rf;have Nq:=r.Y0 (x:= .tmp 0) ht rf BK rfl rfl rfl rfl _ WJ;rw[UC]at Nq;obtain⟨hp1,hp2⟩:=Nq;have nQ:g.cap=cap:=hp2 rfl rfl;simp only[tA,Dg,oS,cQ,lA,mN]at hp1;obtain⟨rfl,rfl⟩:=hp1;obtain⟨Jr,sV,_,RJ⟩:=r.ok 0 _ g BK rfl;simp only[Env.of,eI]at sV;obtain⟨b3,aFb,ry,rfl⟩:=wZ sV;rw[rq]at ry;simp only[cQ,lA,mN]at ry;obtain⟨rfl,rfl⟩:=ry;have zO:g.F b2:=RJ b2 (by simp);have key:∃(v:Value) (fp:List Nat),(results fn a.tmps).run P w'= .ok v w'/\R w' (env B s.o G w').plain rv v fp/\fp.Nodup/\∀x∈fp,∃j ob g,j≠0/\look s.o G j ob g/\ob.live=true/\g.F x:=by
  rcases AZ with⟨ys,Dk,qD,hu,mD⟩|⟨j,ys,Dk,qD,hu,hj,hj0,mD⟩
  .obtain ⟨v,hrun,hR⟩:=oF r Dk;rw[hY]at hu;obtain⟨fp,h1,h2,h3⟩:=Bp r _ v qD hu.2 hR;rw[mD]at h1;exact⟨v,fp,hrun,h1,h2,λx hx=>by obtain⟨j,ob,g,hj,h⟩:=h3 x hx;exact⟨j,ob,g,λe=>hu.1 (e▸hj),h⟩⟩
  .obtain ⟨v,Jr,Od,g1,rz,sI,hrun,hR,hnd,hF⟩:=tK r Dk;rw[hY]at hu;obtain⟨fp,h1,h2,h3⟩:=GN r rz sI _ v Jr qD hu.2 hj hnd hF hR;rw[mD]at h1;refine⟨v,fp,hrun,h1,h2,λx hx=> ?_⟩;rcases h3 x hx with h|⟨j2,dH,g',hj2,h⟩
   .exact ⟨j,Od,g1,hj0,rz,sI,hF x h⟩
   .exact ⟨j2,dH,g',λe=>hu.1 (e▸hj2),h⟩
 obtain⟨v',fp,hrun,k1,k2,k3⟩:=key;have Ec:∀x∈fp,(x∈Oq\/w.heap.size<=x)/\x<w'.heap.size:=λx hx=>by
  obtain⟨j,Od,g1,hj,hl1,sI,hF⟩:=k3 x hx;have:=r.fresh _ _ _ x hl1 sI hF;refine⟨?_,this.2⟩;rcases this.1 with h|h
  .rcases (Zm x).1 h with e|e
   .exact absurd (r.apart _ _ _ _ _ _ x hl1 BK sI rfl hF (e▸zO)) hj
   .exact .inl e
  .rw [BZ]at h;exact .inr h
 have hkp:bR w' (env B s.o G w').plain w' (qF λx=>(S x\/x∈Oq\/(w.heap.size<=x/\x<w'.heap.size))/\x∉fp):=by
  refine⟨λx hx=>⟨⟨?_,λhm=> ?_⟩,rfl⟩,λ_ _=>trivial,λ_ _ _ h=>h.elim,λ_ _ _ h=>h.elim,λ_ _ _ _ _ h=>h.elim⟩
  .rcases hx.1 with h|h
   .rcases (xn x).1 h with h|h|h
    .exact .inl h
    .exact absurd (h▸zO) (hx.2 _ _ _ BK rfl)
    .exact .inr (.inl h)
   .rw [BZ]at h;exact .inr (.inr h)
  .obtain ⟨j,Od,g1,_,hl1,sI,hF⟩:=k3 x hm;exact hx.2 _ _ _ hl1 sI hF
 have hfin:∃r u fp,Ending.returned v'= .returned u/\Q r/\R w' (qF λx=>(S x\/x∈Oq\/(w.heap.size<=x/\x<w'.heap.size))/\x∉fp) r u fp/\fp.Nodup/\(∀x∈fp,(x∈Oq\/w.heap.size<=x)/\x<w'.heap.size)/\w.heap.size<=w'.heap.size/\
   (∀x,x<w.heap.size->x≠b2->x∉Oq->w'.heap[x]? =w.heap[x]?)/\iW w w'/\Dx w' (λx=>(S x\/x∈Oq\/(w.heap.size<=x/\x<w'.heap.size))/\x∉fp) b2 f2 cap code:=by
  refine⟨rv,v',fp,rfl,hQ,jS hkp _ _ _ (λ_ _=>rfl) k1,k2,Ec,by have:=r.size;rwa[BZ]at this,λx hx hne hnx=> ?_,by have:=r.same;rwa[BZ]at this,i2,h2,hi2,?_⟩
  .have:=r.frame x (by rw[BZ];exact hx) (λh=>by rcases(Zm x).1 h with h|h;exact hne h;exact hnx h)
   rwa[BZ]at this
  .rw [rq,nQ]at sV;exact sZ ⟨λx hx=>hkp.1 x hx,λ_ _=>trivial,λ_ _ _ h=>h.elim,λ_ _ _ h=>h.elim,λ_ _ _ _ _ h=>h.elim⟩ sV
 rcases he with rfl|rfl
 .exact ⟨r.defs,v',hrun,hfin⟩
 .exact ⟨r.defs,v',hrun,hfin⟩
theorem ME{P:Program}[aB P](hm:P.follows .mixedOrders=true){f:FuncId}{fn:Func}{c:Code}(hf:P.funcs[f]? =some fn)(hb:fn.body=some c){args:List AV}{Q:AV->Prop}(vQ:args.all dO=true)
  (h:kY P c ⟨args++replicate (fn.ntmps-args.length) .undef,[]⟩ (λe s=>(e= .normal\/e= .ret)/\∃r,Q r/\(kW P fn s r\/yU P fn s r))):XO P f args Q:=by
 intro w S vs hg hS hargs;have hl:=eG hargs;have r0:bU ⟨w,S,λ_=>False,λ_=>none,λ_=>none,hg,λ_ h=>h.elim,λ_ h=>h.elim⟩ ⟨args++replicate (fn.ntmps-args.length) .undef,[]⟩ [] {tmps:=vs.toArray++Array.replicate (fn.ntmps-vs.toArray.size) Go.undef,defers:=[]} w:=by
  refine⟨rfl,rfl,λi ob g hl=>by simp[look]at hl,λi j oi oj gi gj b hl=>by simp[look]at hl,λi ob g b hl=>by simp[look]at hl,?_,cX _,λ_ _ _=>rfl,λb hb=>hS b hb,iW.rfl⟩;have h1:Rc w (env ⟨w,S,λ_=>False,λ_=>none,λ_=>none,hg,λ_ h=>h.elim,λ_ h=>h.elim⟩ [] [] w) args vs []:=
   KU (E:=qF S) (E':=env ⟨w,S,λ_=>False,λ_=>none,λ_=>none,hg,λ_ h=>h.elim,λ_ h=>h.elim⟩ [] [] w) ⟨λx hx=>⟨⟨.inl hx,λi ob g hl=>by simp[look]at hl⟩,rfl⟩,λ_ _=>trivial,λ_ _ _ h=>h.elim,λ_ _ _ h=>h.elim,λ_ _ _ _ _ h=>h.elim⟩ vQ hargs
  have h2:∀n,Rc w (env ⟨w,S,λ_=>False,λ_=>none,λ_=>none,hg,λ_ h=>h.elim,λ_ h=>h.elim⟩ [] [] w) (replicate n .undef) (replicate n Go.undef) []:=by
   intro n;induction n with
   |zero=>simp[Rc]
   |succ n ih=>simp only[lB,Rc];exact⟨[],[],by simp[R],ih,rfl⟩
  have:=gK h1 (h2 (fn.ntmps-args.length));simpa [hl]using this
 refine AT hf hb (CN (lC hm c _ _ h _ _ ⟨_,r0⟩) λe a w' he=> ?_);obtain⟨s,⟨he,rr,hQ,AZ⟩,G,r⟩:=he;have key:∃(v:Value) (fp:List Nat),(results fn a.tmps).run P w'= .ok v w'/\R w' (env ⟨w,S,λ_=>False,λ_=>none,λ_=>none,hg,λ_ h=>h.elim,λ_ h=>h.elim⟩ s.o G w').plain rr v fp/\fp.Nodup/\∀b∈fp,∃j ob g,look s.o G j ob g/\ob.live=true/\g.F b:=by
  rcases AZ with⟨ys,Dk,qD,hu,mD⟩|⟨i,ys,Dk,qD,hu,hi,mD⟩
  .obtain ⟨v,hrun,hR⟩:=oF r Dk;obtain⟨fp,h1,h2,h3⟩:=Bp r _ v qD hu hR;rw[mD]at h1;exact⟨v,fp,hrun,h1,h2,λb hb=>by obtain⟨i,ob,g,_,h⟩:=h3 b hb;exact⟨i,ob,g,h⟩⟩
  .obtain ⟨v,Jr,ob,g,hlk,hlive,hrun,hR,hnd,hF⟩:=tK r Dk;obtain⟨fp,h1,h2,h3⟩:=GN r hlk hlive _ v Jr qD hu hi hnd hF hR;rw[mD]at h1;refine⟨v,fp,hrun,h1,h2,λb hb=> ?_⟩;rcases h3 b hb with h|⟨j,dH,g',_,h⟩
   .exact ⟨i,ob,g,hlk,hlive,hF b h⟩
   .exact ⟨j,dH,g',h⟩
 obtain⟨v,fp,hrun,h1,h2,h3⟩:=key;have hfin:∃r v' fp,Ending.returned v= .returned v'/\Q r/\R w' (qF λx=>(S x\/(w.heap.size<=x/\x<w'.heap.size))/\x∉fp) r v' fp/\fp.Nodup/\(∀b∈fp,w.heap.size<=b/\b<w'.heap.size)/\w.heap.size<=w'.heap.size/\(∀b,b<w.heap.size->w'.heap[b]? =w.heap[b]?)/\iW w w':=by
  refine⟨rr,v,fp,rfl,hQ,?_,h2,λb hb=> ?_,r.size,λb hb=>r.frame b hb (λh=>h),r.same⟩
  .have k:bR w' (env ⟨w,S,λ_=>False,λ_=>none,λ_=>none,hg,λ_ h=>h.elim,λ_ h=>h.elim⟩ s.o G w').plain w' (qF λx=>(S x\/(w.heap.size<=x/\x<w'.heap.size))/\x∉fp):=
    ⟨λb hb=>⟨⟨hb.1,λhm=>by
     obtain⟨j,ob,g,hl,hlive,hF⟩:=h3 b hm;exact hb.2 j ob g hl hlive hF⟩,rfl⟩,λ_ _=>trivial,λ_ _ _ h=>h.elim,λ_ _ _ h=>h.elim,λ_ _ _ _ _ h=>h.elim⟩
   exact jS k _ _ _ (λ_ _=>rfl) h1
  .obtain ⟨i,ob,g,hl,hlive,hF⟩:=h3 b hb;have:=r.fresh _ _ _ b hl hlive hF;exact⟨this.1.resolve_left (λh=>h),this.2⟩
 rcases he with rfl|rfl
 .exact ⟨r.defs,v,hrun,hfin⟩
 .exact ⟨r.defs,v,hrun,hfin⟩
theorem aFd{w w':World}{S:Nat->Prop}{fp:List Nat}(h3:∀b∈fp,w.heap.size<=b/\b<w'.heap.size):jX (λ_=>some .view) false (qF λx=>(S x\/(w.heap.size<=x/\x<w'.heap.size))/\x∉fp) (qF λx=>(S x\/(w.heap.size<=x/\x<w'.heap.size))/\x∉([]:List Nat)) (· ∈fp):=
 {own:=λg e=>by obtain rfl:=cD e;exact⟨by simp,λb hb=>⟨.inr (h3 b hb),by simp⟩⟩
  view:=λg e=>by obtain rfl:=cD e;exact⟨rfl,λb hb=>⟨hb.1,by simp⟩⟩
  iF:=λi g e=>by obtain rfl:=cD e;exact⟨by simp,.inl trivial,λb hb=>hb.elim⟩
  hh:=λh=>by cases h
  hl:=λh=>by cases h}
theorem Iz.Cx{P:Program}[aB P]{f:FuncId}{xs:List AV}{Q Q':AV->Prop}(h:Iz P f xs Q)(hq:∀r,Q r->Q' (rt (λ_=>some .view) false r)):Iz P f xs Q':=by
 intro w S b fo cap code vs a1 a2 a3 a4 a5 a6 a7;refine Calls.mono (h w S b fo cap code vs a1 a2 a3 a4 a5 a6 a7) λe w' he=> ?_
 obtain⟨r,v,fp,rfl,hQ,h1,h2,h3,h4,h5,h6,i,g,hi,hc⟩:=he;refine⟨_,v,[],rfl,hq r hQ,yc (aFd h3) r v fp (λ_ h=>h) h1,by simp,by simp,h4,h5,h6,i,g,hi,?_⟩;exact sZ (E:=qF λx=>(S x\/(w.heap.size<=x/\x<w'.heap.size))/\x∉fp) ⟨λx (hx:(S x\/(w.heap.size<=x/\x<w'.heap.size))/\x∉fp)=>⟨⟨hx.1,by simp⟩,rfl⟩,λ_ _=>trivial,λ_ _ _ h=>h.elim,λ_ _ _ h=>h.elim,λ_ _ _ _ _ h=>h.elim⟩ hc
theorem XO.Cx{P:Program}[aB P]{f:FuncId}{xs:List AV}{Q Q':AV->Prop}(h:XO P f xs Q)(hq:∀r,Q r->Q' (rt (λ_=>some .view) false r)):XO P f xs Q':=by
 intro w S vs a1 a5 a7;refine Calls.mono (h w S vs a1 a5 a7) λe w' he=> ?_
 obtain⟨r,v,fp,rfl,hQ,h1,h2,h3,h4,h5,h6⟩:=he;exact⟨_,v,[],rfl,hq r hQ,yc (aFd h3) r v fp (λ_ h=>h) h1,by simp,by simp,h4,h5,h6⟩
theorem CB{P:Program}[aB P](hm:P.follows .mixedOrders=true){f:FuncId}{fn:Func}{c:Code}(hf:P.funcs[f]? =some fn){n:Nat}(hn:fn.ntmps=n){xs t:List AV}{Q:AV->Prop}
  (h:∀code i h,0<=i->code.length<=maxLen->kY P c ⟨t,[⟨true,true,3,2,[aU code i h]⟩]⟩ (λe s=>(e= .normal\/e= .ret)/\∃r,Q r/\Ig P fn s code r)) (hb:fn.body=some c:=by rfl) (vQ:xs.all dO=true:=by simp[dO,nR])
  (ht: .ptr 0 2 0 0::xs++replicate (n-(xs.length+1)) .undef=t:=by
   simp only[eE,eR,Nat.reduceSub,Nat.reduceAdd,lB,rN,cM,cW];rfl):Iz P f xs Q:=by
 subst ht;subst hn;exact Wl hm hf hb vQ h
theorem aFe{P:Program}[aB P](hm:P.follows .mixedOrders=true){f:FuncId}{fn:Func}{c:Code}(hf:P.funcs[f]? =some fn){n:Nat}(hn:fn.ntmps=n){args t:List AV}{Q:AV->Prop}
  (h:kY P c ⟨t,[]⟩ (λe s=>(e= .normal\/e= .ret)/\∃r,Q r/\(kW P fn s r\/yU P fn s r))) (hb:fn.body=some c:=by rfl) (vQ:args.all dO=true:=by simp[dO,nR])
  (ht:args++replicate (n-args.length) .undef=t:=by
   simp only[eE,eR,Nat.reduceSub,Nat.reduceAdd,lB,rN,cM,cW];rfl):XO P f args Q:=by
 subst ht;subst hn;exact ME hm hf hb vQ h
section
variable{P:Program}[aB P]{dst:Option Tmp}{ty:TypeId}{pos:String}{after:Array Edge}{gd:Option (Nat × Bool)}{s:AS}{X:AS -> Prop}{f:Operand}{Fj:Array TypeId}{g:FuncId}
theorem cu{x:Operand}{zs:List Operand}{xs:List AV}{Q:AV->Prop}{k ver:Nat}{code:List UInt8}{i h:Int}(hc:Iz P g xs Q)
  (hn:∀rv i' h',Q rv->0<=i'->X (s.drew dst k ver code i' h' rv)) (hf:s.ev f= .fn g []:=by rfl) (hx:s.ev x= .ptr k ver 0 0:=by first|rfl|(simp;done))
  (ho:AV.isObj s.o k ver=some ⟨true,true,3,ver,[aU code i h]⟩:=by first|rfl|(simp[aU];done)) (h0:0<=i:=by first|assumption|omega) (hxs:zs.map s.ev=xs:=by first|rfl|(simp;done)) (hfl:xs.all dO=true:=by first|rfl|(simp[dO,nR];done)) (Wn:bJ P g=true:=by simp):
  Nx 1 P ⟨dst,.call {callee:= .value f,args:=⟨x::zs⟩,argTypes:=Fj},ty,pos,after,gd⟩ s X:=by
 refine Qi ?_;unfold KX;simp only[hf];exact⟨Wn,.inl ⟨x,zs,k,ver,code,i,h,Q,rfl,hx,ho,h0,by rw[hxs];exact hfl,by rw[hxs];exact hc,hn⟩⟩
theorem cuX{x y:Operand}{zs:List Operand}{xs:List AV}{xv yv:AV}{u:List Nat}{Q:AV->Prop}{k ver:Nat}{code:List UInt8}{i h:Int}(hc:OkX P g xv xs Q)
  (hn:∀rv i' h',Q rv->0<=i'->X (s.Oo dst k ver code i' h' u rv)) (hf:s.ev f= .fn g []:=by rfl) (hx:s.ev x= .ptr k ver 0 0:=by first|rfl|(simp;done))
  (ho:AV.isObj s.o k ver=some ⟨true,true,3,ver,[aU code i h]⟩:=by first|rfl|(simp[aU];done)) (h0:0<=i:=by first|assumption|omega)
  (hy:s.ev y=yv:=by first|rfl|(simp;done)) (hry:gG s.o yv=true:=by first|rfl|(simp[gG,lZ,AV.isObj];done)) (hu:iB yv=u:=by first|rfl|(simp[iB,jB];done)) (hnd:(k::u).Nodup:=by simp) (hxv:res s.o yv=xv:=by first|rfl|(simp[res,qE,AV.isObj];done))
  (hxs:zs.map s.ev=xs:=by first|rfl|(simp;done)) (hfl:xs.all dO=true:=by first|rfl|(simp[dO,nR];done)) (Wn:bJ P g=true:=by simp):
  Nx 1 P ⟨dst,.call {callee:= .value f,args:=⟨x::y::zs⟩,argTypes:=Fj},ty,pos,after,gd⟩ s X:=by
 subst hy;subst hu;refine Qi ?_;unfold KX;simp only[hf];exact⟨Wn,.inr (.inr (.inr ⟨x,y,zs,k,ver,code,xv,i,h,Q,rfl,hx,ho,h0,⟨hry,hnd,hxv⟩,by rw[hxs];exact hfl,by rw[hxs];exact hc,hn⟩))⟩
theorem cn{x:Operand}{code:List UInt8}(hc:XP P g)(hn:∀i h,0<=i->X (s.KV dst code i h))(hf:s.ev f= .fn g []:=by rfl)(hx:s.ev x= .sl .view 1 (aR code):=by first|rfl|(simp;done))(Wn:bJ P g=true:=by simp):
  Nx 1 P ⟨dst,.call {callee:= .value f,args:=#[x],argTypes:=Fj},ty,pos,after,gd⟩ s X:=by
 refine Qi ?_;unfold KX;simp only[hf];exact⟨Wn,.inr (.inl ⟨x,code,rfl,hx,hc,hn⟩)⟩
theorem ce{ys:List Operand}{xs:List AV}{Q:AV->Prop}(hc:XO P g xs Q)(hn:∀rv,Q rv->X (s.called dst rv))(hf:s.ev f= .fn g []:=by rfl)(hxs:ys.map s.ev=xs:=by first|rfl|(simp;done))(hfl:xs.all dO=true:=by first|rfl|(simp[dO,nR];done))(Wn:bJ P g=true:=by simp):
  Nx 1 P ⟨dst,.call {callee:= .value f,args:=⟨ys⟩,argTypes:=Fj},ty,pos,after,gd⟩ s X:=by
 refine Qi ?_;unfold KX;simp only[hf];exact⟨Wn,.inr (.inr (.inl ⟨Q,⟨by rw[hxs];exact hfl,by rw[hxs];exact hc⟩,hn⟩))⟩
end
theorem pU{P:Program}{fn:Func}{s:AS}{code:List UInt8}{Q:AV->Prop}{ys:List AV}{i h:Int}(Dk:s.wI P fn.results.toList=some ys)(ht:s.t.getD 0 .undef= .ptr 0 2 0 0)(ho:s.o[0]? =some ⟨true,true,3,2,[aU code i h]⟩)(hi:0<=i)
  (qD:gG s.o (single ys)=true) (hu:(0::iB (single ys)).Nodup) (hq:Q (res s.o (single ys))):∃r,Q r/\Ig P fn s code r:=
 ⟨_,hq,ht,⟨i,h,hi,ho⟩,.inl ⟨ys,Dk,qD,hu,rfl⟩⟩
theorem aFf{P:Program}{fn:Func}{s:AS}{code:List UInt8}{Q:AV->Prop}{ys:List AV}{k:Nat}{i h:Int}(Dk:s.zI P fn.results.toList=some (k,ys))(ht:s.t.getD 0 .undef= .ptr 0 2 0 0)(ho:s.o[0]? =some ⟨true,true,3,2,[aU code i h]⟩)(hi:0<=i)
  (qD:gG s.o (single ys)=true) (hu:(0::iB (single ys)).Nodup) (hk:k∉iB (single ys)) (hk0:k≠0) (hq:Q (res s.o (single ys))):∃r,Q r/\Ig P fn s code r:=
 ⟨_,hq,ht,⟨i,h,hi,ho⟩,.inr ⟨k,ys,Dk,qD,hu,hk,hk0,rfl⟩⟩
def si(P:Program)(fn:Func)(s:AS)(code:List UInt8):Prop:=∃(k ver:Nat) (i h:Int),s.wI P fn.results.toList=some [.ptr k ver 0 0]/\AV.isObj s.o k ver=some ⟨true,true,3,ver,[aU code i h]⟩/\0<=i
theorem Wo{P:Program}[aB P](hm:P.follows .mixedOrders=true){f:FuncId}{fn:Func}{c:Code}(hf:P.funcs[f]? =some fn)(hb:fn.body=some c)
  (h:∀code:List UInt8,code.length<=maxLen->kY P c ⟨[.sl .view 1 (aR code)]++replicate (fn.ntmps-1) .undef,[]⟩ (λe s=>(e= .normal\/e= .ret)/\si P fn s code)):XP P f:=by
 intro w S v code hg hS hv;have hl0:code.length<=maxLen:=by
  simp only[R]at hv;rcases hv with h|⟨_,_,_,hl,_⟩
  .exact h.1.elim
  .simpa [aR]using hl.1
 have r0:bU ⟨w,S,λ_=>False,λ_=>none,λ_=>none,hg,λ_ h=>h.elim,λ_ h=>h.elim⟩ ⟨[.sl .view 1 (aR code)]++replicate (fn.ntmps-1) .undef,[]⟩ [] {tmps:=#[v]++Array.replicate (fn.ntmps-(#[v]:Array Value).size) Go.undef,defers:=[]} w:=by
  refine⟨rfl,rfl,λi ob g hl=>by simp[look]at hl,λi j oi oj gi gj b hl=>by simp[look]at hl,λi ob g b hl=>by simp[look]at hl,?_,cX _,λ_ _ _=>rfl,λb hb=>hS b hb,iW.rfl⟩;have h1:Rc w (env ⟨w,S,λ_=>False,λ_=>none,λ_=>none,hg,λ_ h=>h.elim,λ_ h=>h.elim⟩ [] [] w) [.sl .view 1 (aR code)] [v] []:=by simp only[Rc];exact⟨[],[],JY (E:=qF S) ⟨λb hb=>⟨⟨.inl hb,λi ob g hl=>by simp[look]at hl⟩,rfl⟩,λ_ _=>trivial,λ_ _ _ h=>h.elim,λ_ _ _ h=>h.elim,λ_ _ _ _ _ h=>h.elim⟩ hv,rfl,rfl⟩
  have h2:∀n,Rc w (env ⟨w,S,λ_=>False,λ_=>none,λ_=>none,hg,λ_ h=>h.elim,λ_ h=>h.elim⟩ [] [] w) (replicate n .undef) (replicate n Go.undef) []:=by
   intro n;induction n with
   |zero=>simp[Rc]
   |succ n ih=>simp only[lB,Rc];exact⟨[],[],by simp[R],ih,rfl⟩
  have:=gK h1 (h2 (fn.ntmps-1));simpa using this
 refine AT hf hb (CN (lC hm c _ _ (h code hl0) _ _ ⟨_,r0⟩) λe a w' he=> ?_);obtain⟨s,⟨he,k,ver,i,h',Dk,qX,hi⟩,G,r⟩:=he;obtain⟨u,hrun,hR⟩:=oF r Dk;simp only[single]at hR;have hR2:=hR;simp only[R]at hR2;obtain⟨_,ob,g,hl,_,hpt,_⟩:=hR2;obtain⟨h1,h2,h3⟩:=iG qX;obtain rfl:=cD (hl.1.symm.trans h1);obtain⟨b,fo,hga,hu⟩:=hpt rfl rfl;simp only[Dg,oS]at hu;obtain⟨Jr,hown,_,hF⟩:=r.ok k _ g hl rfl;simp only[Env.of,eI]at hown;obtain⟨b3,aFb,ry,rfl⟩:=wZ hown;rw[hga]at ry;simp only[cQ,lA,mN]at ry;obtain⟨rfl,rfl⟩:=ry;have zO:g.F b:=hF b (by simp);have hfr:=r.fresh _ _ _ b hl rfl zO;have hfin:∃b fo cap,Ending.returned u= .returned (.pointer (some ⟨b,fo,none⟩))/\w.heap.size<=b/\b<w'.heap.size/\Dx w' (λx=>(S x\/(w.heap.size<=x/\x<w'.heap.size))/\x≠b) b fo cap code/\
   w.heap.size<=w'.heap.size/\(∀b,b<w.heap.size->w'.heap[b]? =w.heap[b]?)/\iW w w':=by
  refine⟨b,fo,g.cap,by rw[hu],hfr.1.resolve_left (λh=>h),hfr.2,⟨i,h',hi,?_⟩,r.size,λx hx=>r.frame x hx (λh=>h),r.same⟩;rw[hga]at hown;exact sZ (E:=env ⟨w,S,λ_=>False,λ_=>none,λ_=>none,hg,λ_ h=>h.elim,λ_ h=>h.elim⟩ s.o G w') ⟨λx hx=>⟨⟨hx.1,λe=>hx.2 _ _ _ hl rfl (e▸zO)⟩,rfl⟩,λ_ _=>trivial,λ_ _ _ h=>h.elim,λ_ _ _ h=>h.elim,λ_ _ _ _ _ h=>h.elim⟩ hown
 rcases he with rfl|rfl
 .exact ⟨r.defs,u,hrun,hfin⟩
 .exact ⟨r.defs,u,hrun,hfin⟩
theorem mW{P:Program}[aB P]{o:Oper}{s s':AS}{X:AS->Prop}{i ver:Nat}{ob:aD}(qX:AV.isObj s.o i ver=some ob)(Dv:ob.box=false)(h:Nx 1 P o s' X)(e:s.frozen i ver ob=s'):Nx 1 P o s X:=by subst e;exact sw (λ_ _ B a w hr=>WN qX Dv hr) h
theorem aIy{P:Program}[aB P](hm:P.follows .mixedOrders=true){f:FuncId}{fn:Func}{c:Code}(hf:P.funcs[f]? =some fn){n:Nat}(hn:fn.ntmps=n){t:List AV}
  (h:∀code:List UInt8,code.length<=maxLen->kY P c ⟨.sl .view 1 (aR code)::t,[]⟩ (λe s=>(e= .normal\/e= .ret)/\si P fn s code)) (hb:fn.body=some c:=by rfl)
  (ht:replicate (n-1) AV.undef=t:=by
   simp only[Nat.reduceSub,Nat.reduceAdd,lB,rN];rfl):XP P f:=by
 subst ht;subst hn;exact Wo hm hf hb h
theorem aBw{P:Program}{fn:Func}{s:AS}{Q:AV->Prop}{ys:List AV}(Dk:s.wI P fn.results.toList=some ys)(qD:gG s.o (single ys)=true)(hu:(iB (single ys)).Nodup)(hq:Q (res s.o (single ys))):∃r,Q r/\(kW P fn s r\/yU P fn s r):=
 ⟨_,hq,.inl ⟨ys,Dk,qD,hu,rfl⟩⟩
theorem aFk{P:Program}[aB P](hm:P.follows .mixedOrders=true){f:FuncId}{fn:Func}{c c':Code}(L:List Nat)(hf:P.funcs[f]? =some fn){n:Nat}(hn:fn.ntmps=n){xv:AV}{zs t:List AV}{o:List aD}{Q:AV->Prop}
  (h:∀code i h,0<=i->code.length<=maxLen->kY P c' ⟨t,⟨true,true,3,2,[aU code i h]⟩::o⟩ (λe s=>(e= .normal\/e= .ret)/\∃r,Q r/\Ig P fn s code r)) (hb:fn.body=some c:=by rfl) (vQ:zs.all dO=true:=by simp[dO,nR])
  (hc:tO (λi=>L.contains i) c=c':=by simp[tO];rfl)
  (ho:(bV 1 1 xv).2=o:=by
   simp only[aQ,aM,fO,cB,fI,bS,fU,bZ,oS,gE,Nat.reduceAdd,cM,cW,cY,eE,eR];rfl)
  (ht: .ptr 0 2 0 0::(bV 1 1 xv).1::zs++replicate (n-(zs.length+2)) .undef=t:=by
   simp only[aQ,aM,fO,cB,fI,bS,fU,bZ,oS,gE,eE,eR,Nat.reduceSub,Nat.reduceAdd,lB,rN,cM,cW,cY];rfl):OkX P f xv zs Q:=by
 subst ht;subst hn;subst ho;subst hc;rw[tQ]at h;exact Wm hm hf hb vQ h
theorem aFl{P:Program}[aB P](hm:P.follows .mixedOrders=true){f:FuncId}{fn:Func}{c c':Code}(L:List Nat)(hf:P.funcs[f]? =some fn){n:Nat}(hn:fn.ntmps=n){args t:List AV}{Q:AV->Prop}
  (h:kY P c' ⟨t,[]⟩ (λe s=>(e= .normal\/e= .ret)/\∃r,Q r/\(kW P fn s r\/yU P fn s r))) (hb:fn.body=some c:=by rfl) (vQ:args.all dO=true:=by simp[dO,nR])
  (hc:tO (λi=>L.contains i) c=c':=by simp[tO];rfl)
  (ht:args++replicate (n-args.length) .undef=t:=by
   simp only[eE,eR,Nat.reduceSub,Nat.reduceAdd,lB,rN,cM,cW];rfl):XO P f args Q:=by
 subst ht;subst hn;subst hc;rw[tQ]at h;exact ME hm hf hb vQ h
theorem go_at(d:Tmp){P:Program}[aB P]{all r:List Oper}{op:Op}{ty:TypeId}{pos:String}{after:Array Edge}{s:AS}{K:AS->Prop}(h:Nx 1 P ⟨some d,op,ty,pos,after,none⟩ s λs'=>gV P all r s' K):gV P all (⟨some d,op,ty,pos,after,none⟩::r) s K:=go_cons rfl h
theorem Pw{P:Program}[aB P]{y:Code}{id:Nat}{ops:Array Oper}{s s2:AS}{Q:Exit->AS->Prop}(hw:kR s s2)(h:kY P (.seq (.region id ops false) y) s2 Q):kY P (.seq (.region id ops false) y) s Q:=by unfold kY at h⊢;exact AB hw h
theorem Wu{P:Program}[aB P]{y:Code}{id:Nat}{ops:Array Oper}{s s2:AS}{Q:Exit->AS->Prop}(hw:kR s s2)(h:kY P (.seq (.region id ops true) y) s2 Q):kY P (.seq (.region id ops true) y) s Q:=by unfold kY at h⊢;unfold kY at h⊢;exact λB a w Q0 hr hq=>h B a w Q0 (hw B a w hr) hq
def Wv(P:Program)[aB P]{ι:Type}(l:List Oper)(S:(Nat->Bool)->ι->AS):Nat->List Oper->Prop
 |_,[]=>True
 |i,o::r=>(∀(J:Nat->Bool) (y:ι),Xd l J->J i=false->(∀e∈pre o,J e=true)->gV P l [o] (S J y) λs'=>∃y',kR s' (S (dW J i) y'))/\Wv P l S (i+1) r
theorem Uo{P:Program}[aB P]{ι:Type}{L:List Oper}{S:(Nat->Bool)->ι->AS}:∀{l:List Oper} {k i:Nat} {o:Oper},Wv P L S k l->l[i]? =some o->
  ∀(J:Nat->Bool) (y:ι),Xd L J->J (k+i)=false->(∀e∈pre o,J e=true)->gV P L [o] (S J y) λs'=>∃y',kR s' (S (dW J (k+i)) y')
 |[],_,_,_,_,h=>by simp at h
 |x::xs,k,0,o,hd,h=>by simp at h;subst h;exact hd.1
 |x::xs,k,i+1,o,hd,h=>by
  have:=Uo (k:=k+1) (i:=i) hd.2 (by simpa using h)
  rwa[show k+1+i=k+(i+1)by omega]at this
theorem uj{P:Program}[aB P]{B:eP P}{ops:Array Oper}{Q:Exit->Act->World->Prop}{ι:Type}{S:(Nat->Bool)->ι->AS}(hfw:IL ops.toList=true)(hs:Wv P ops.toList S 0 ops.toList)
  (he:∀J y,(∀i,i<ops.size->J i=true)->∀a w,Rel B (S J y) a w->Q .normal a w):
  ∀(n:Nat) (listed:Array Bool) (y:ι) (a:Act) (w:World),listed.size=ops.size->Xd ops.toList (λi=>listed.getD i false)->left listed.toList=n->Rel B (S (λi=>listed.getD i false) y) a w->wpAny P .any ops Q n listed a w
 |0,listed,y,a,w,hl,hc,hn,r=>by
  have hall:∀i,i<ops.size->listed.getD i false=true:=by
   intro i hi;have hi':i<listed.size:=by omega
   have:=CR hn (i:=i) (b:=listed[i]) (by simp[hi']);simp[Array.getD,hi',this]
  refine⟨?_,he _ _ hall _ _ r⟩;rw[Bs];intro i hi;obtain⟨op,hop,h1,_⟩:=(mem_ready hl).1 hi;have wW:=(cA.1 hop).1;have:=hall i (by simpa using wW);rw[this]at h1;cases h1
 |n+1,listed,y,a,w,hl,hc,hn,r=>by
  constructor
  .intro hnil;exfalso;obtain⟨i,h1,h2⟩:=FH (l:=listed.toList) (by omega);have hi:i<listed.size:=by have:=(cA.1 h1).1;simpa using this
   have wW:i<ops.toList.length:=by simp;omega
   have hop:=aE wW;have hg:∀j:Nat,listed.toList[j]? =listed[j]?:=λj=>Array.getElem?_toList
   have:i∈Region.ready .any ops listed:=(mem_ready hl).2 ⟨_,hop,by rw[eV,<-hg,h1];rfl,λe he=>by
    have:=h2 e (CX hfw hop e he);rw[eV,<-hg,this];rfl⟩
   rw[hnil]at this;cases this
  .intro i hi;obtain⟨op,hop,h1,h2⟩:=(mem_ready hl).1 hi;have wW:=(cA.1 hop).1;have hil:i<listed.size:=by simp at wW;omega
   have hst:=Uo hs hop (λj=>listed.getD j false) y hc (by rw[gE];exact h1) h2;rw[gE]at hst;unfold wpOp;have Vu:ops[i]? =some op:=by simpa using hop
   rw[Vu];have:=GY hst r (Kc:=wpAny P .any ops Q n (listed.setIfInBounds i true)) (Q:=Q) (λa' w' s' h' r'=>by
    simp only[gV]at h';obtain⟨y',hw⟩:=h';have hu:dW (λj=>listed.getD j false) i=λj=>(listed.setIfInBounds i true).getD j false:=by funext j;exact(FL hil j).symm
    refine uj hfw hs he n _ y' a' w' (by simpa using hl) ?_ ?_ ?_
    .rw [<-hu];intro j o hj hJ e he;unfold dW at hJ⊢;by_cases hji:j=i
     .subst hji;rw[hop]at hj;obtain rfl:=cD hj;have h3:=h2 e he;split
      .rfl
      .exact h3
     .rw [cU hji]at hJ;have h3:=hc j o hj hJ e he;split
      .rfl
      .exact h3
    .have h1':listed[i]? =some false:=by rw[eV,oR hil]at h1;rw[oR hil];exact CH some h1
     have:=BU (l:=listed.toList) (i:=i) (by simpa using h1');rw[tR];omega
    .rw [<-hu];exact hw B a' w' r')
   simpa using this
theorem lH{l:List Oper}{J:Nat->Bool}(hc:Xd l J){e:Nat}(he:J e=false)(k:Nat){o:Oper}(hk:l[k]? =some o)(hm:e∈pre o):J k=false:=by
 cases h:J k
 .rfl
 .have:=hc k o hk h e hm;rw[he]at this;cases this
theorem QM{P:Program}[aB P]{id:Nat}{l:List Oper}{s:AS}{Q:Exit->AS->Prop}{ι:Type}(S:(Nat->Bool)->ι->AS)(y0:ι)(h0:kR s (S (λ_=>false) y0))(hs:Wv P l S 0 l)
  (he:∀J y,(∀i,i<l.length->J i=true)->Q .normal (S J y)) (hfw:IL l=true:=by decide+kernel):kY P (.region id (TC l.toArray) true) s Q:=by
 rw[qU];unfold kY;intro B a w Q0 hr hq;have hJ:(λi=>(Array.replicate l.toArray.size false).getD i false)=λ_=>false:=by funext i;simp only[eV,BE];split<;>rfl
 have r2:Rel B s a {w with drawn:=w.drawn+1}:=by obtain⟨G,r⟩:=hr;exact⟨G,{len:=r.len,defs:=r.defs,ok:=λi ob g hl hlive=>(r.ok i ob g hl hlive).keeps (w':={w with drawn:=w.drawn+1}) ⟨λb h=>⟨h,rfl⟩,λ_ h=>h,λ_ _ _ h=>⟨h,rfl⟩,λ_ _ _ h=>h,λ_ _ _ _ _ h=>h⟩ (λ_ _=>rfl),apart:=r.apart,fresh:=r.fresh,tmps:=dC (w:=w) (E:=env B s.o G w) (w':={w with drawn:=w.drawn+1}) (E':=env B s.o G {w with drawn:=w.drawn+1}) ⟨λb h=>⟨h,rfl⟩,λ_ h=>h,λ_ _ _ h=>⟨h,rfl⟩,λ_ _ _ h=>h,λ_ _ _ _ _ h=>h⟩ _ _ _ (by simp) r.tmps,size:=r.size,frame:=r.frame,base:=r.base,same:=r.same.trans ⟨rfl,rfl,rfl⟩}⟩
 refine uj (ops:=l.toArray) (B:=B) (S:=S) (by simpa using hfw) (by simpa using hs) (λJ y h a' w' r'=>hq a' w' _ (he J y (by simpa using h)) r') _ _ y0 _ _ (by simp) (by rw[hJ];intro j o hj hJ;cases hJ) (by simp[left]) ?_;rw[hJ];exact h0 B _ _ r2
theorem Gp{P:Program}[aB P]{c1 c2:Code}{s:AS}{K:AS->Prop}{Q Q':Exit->AS->Prop}(aFo:AS->Prop)(hk:∀s',aFo s'->K s')
  (h:kY P c1 s (sK (λs'=>kY P c2 s' (λe s'=>e= .normal/\aFo s')) (λ_ _=>False))):kY P c1 s (sK (λs'=>kY P c2 s' (sK K Q)) Q'):=by
 refine yI c1 s _ _ (λe s' he=> ?_) h;cases e<;>simp only[sK]at he⊢;exact yI c2 s' _ _ (λe s'' hp=>by obtain⟨rfl,hp⟩:=hp;simp only[sK];exact hk _ hp) he
end Go.Aw
