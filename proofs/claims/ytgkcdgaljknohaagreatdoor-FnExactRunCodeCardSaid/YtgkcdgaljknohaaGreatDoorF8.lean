/-
  Proved here: steps towards the statement of this claim, text F8.
  No condition beyond what each statement spells out.
-/
import Derived.Test.YtgkcdgaljknohaaGreatDoorF6
import Derived.Test.YtgkcdgaljknohaaGreatDoorF3
import Derived.Test.YtgkcdgaljknohaaGreatDoorF9
set_option linter.all false
namespace Go.Aw
section
variable {P : Program} [Tabs P] {B : Base P} {s : AS} {dst : Option Tmp} {ty : TypeId} {pos : String} {after : Array Edge} {gd : Option (Nat × Bool)}
end
structure Plc where
  at_ : Nat
  n : Nat
  st : List (Nat × AObj)
def stg (J:Nat→Bool) (h:AObj):List (Nat×AObj)→AObj
 |[]=>h
 |q::r=>if J q.1=true then q.2 else stg J h r
def vst (i:Nat) (pr:List Nat) (h dead:AObj):List (Nat×AObj)→AObj
 |[]=>h
 |q::r=>if q.1∈pr then q.2 else if q.1=i∨i∈r.map (·.1) then vst i pr h dead r else dead
def hole (n:Nat):AObj:=⟨true,false,n,0,[]⟩
def noob (n:Nat):AObj:=⟨false,false,n,0,[]⟩
def plcS (J:Nat→Bool):List Plc→List AObj→List AObj
 |[],o=>o
 |p::r,o=>plcS J r (o.set p.at_ (stg J (hole p.n) p.st))
def plcV (i:Nat) (pr:List Nat):List Plc→List AObj→List AObj
 |[],o=>o
 |p::r,o=>plcV i pr r (o.set p.at_ (vst i pr (hole p.n) (noob p.n) p.st))
def stOk (l:List Oper):List (Nat×AObj)→Bool
 |[]=>true
 |[_]=>true
 |q::q'::r=>(preAt l q.1).contains q'.1&&stOk l (q'::r)
def plOk (l:List Oper) (fl:List Plc) (n:Nat):Bool:=
 decide (fl.map (·.at_)).Nodup&&(fl.all fun p=>decide (p.at_ < n)&&stOk l p.st&&decide (p.st.map (·.1)).Nodup&&p.st.all fun q=>decide (q.1 < l.length))&&decide ((fl.flatMap fun p=>p.st.map (·.1))).Nodup
end Go.Aw

namespace Go.Aw
@[irreducible] def hide {α:Type} (x:α):α:=x
theorem hide_eq {α:Type} (x:α):hide x=x:=by unfold hide;rfl
def hideC (f:Nat→Bool):Code→Code
 | .region id ops true=>if f id then .region id (hide ops) true else .region id ops true
 | .region id ops false=>if f id then hide (.region id ops false) else .region id ops false
 | .seq x y=> .seq (hideC f x) (hideC f y)
 | .cond c x y=> .cond c (hideC f x) (hideC f y)
 | .block id c=> .block id (hideC f c)
 | .loop c=> .loop (hideC f c)
 |c=>c
theorem hideC_eq (f:Nat→Bool):∀c:Code,hideC f c=c
 | .region id ops true=>by simp only [hideC];split<;>simp [hide_eq]
 | .region id ops false=>by simp only [hideC];split<;>simp [hide_eq]
 | .seq x y=>by simp [hideC,hideC_eq f x,hideC_eq f y]
 | .cond c x y=>by simp [hideC,hideC_eq f x,hideC_eq f y]
 | .block id c=>by simp [hideC,hideC_eq f c]
 | .loop c=>by simp [hideC,hideC_eq f c]
 | .skip=>rfl
 | .exit _=>rfl
 | .ret=>rfl
 | .rangeFunc _ _ _ _=>rfl
 | .scope _=>rfl
 | .label _=>rfl
 | .goto _=>rfl
 | .refuse _=>rfl
theorem entH {P:Program} [Tabs P] (hm:P.follows .mixedOrders=true) {f:FuncId} {fn:Func} {c c':Code} (L:List Nat) (hf:P.funcs[f]? =some fn) {n:Nat} (hn:fn.ntmps=n) {args t:List AV} {rr:AV}
  (h:awp P c' ⟨t,[]⟩ (fun e s=>(e= .normal∨e= .ret)∧Hands P fn s rr)) (hb:fn.body=some c:=by rfl)
  (hc:hideC (fun i=>L.contains i) c=c':=by simp [hideC];rfl)
  (ht:args++List.replicate (n - args.length) .undef=t:=by
   simp only [List.length_cons,List.length_nil,Nat.reduceSub,Nat.reduceAdd,List.replicate_succ,List.replicate_zero,List.cons_append,List.nil_append];rfl):Ok P f args rr:=by
 subst ht;subst hn;subst hc;rw [hideC_eq] at h;exact ok_of_awp hm hf hb h
section
variable {P : Program} [Tabs P] {l : List Oper} {t : List AV} {b : List AObj} {fl : List Plc} {K : AS → Prop} {j : Nat} {op : Oper} {r : List Oper} {vs : List AV} {pr : List Nat} {m : List AV} {om : List AObj}
end
attribute [simp] plcS plcV stg vst hole noob plOk stOk
end Go.Aw

namespace Go.Aw
def swp (i j k:Nat):Nat:=if k=i then j else if k=j then i else k
theorem swp_swp (i j k:Nat):swp i j (swp i j k)=k:=by
 unfold swp;split<;>split<;>(try split)<;>omega
def moved (i j k:Nat):Prop:=k=i∨k=j
instance (i j k : Nat) : Decidable (moved i j k) := by unfold moved; infer_instance
theorem swp_not {i j k:Nat} (h:¬moved i j k):swp i j k=k:=by
 unfold moved at h;unfold swp
 rw [if_neg (fun e=>h (.inl e)),if_neg (fun e=>h (.inr e))]
def gsw (i j:Nat):Tg→Tg
 | .dep k=> .dep (swp i j k)
 |g=>g
mutual
def rsw (i j : Nat) : AV → AV
  | .obj k v => if moved i j k then (if v = 0 then .undef else .obj (swp i j k) v) else .obj k v
  | .ptr k v idx off => if moved i j k then .undef else .ptr k v idx off
  | .sl g n l => .sl (gsw i j g) n (rswr i j l)
  | .vptr g c off => .vptr (gsw i j g) (rswc i j c) off
  | .agg c => .agg (rswc i j c)
  | .tup c => .tup (rswc i j c)
  | .fn f c => .fn f (rswc i j c)
  | .int k n => .int k n
  | .bool b => .bool b
  | .str s => .str s
  | .undef => .undef
def rswc (i j : Nat) : List AV → List AV
  | [] => []
  | x :: xs => rsw i j x :: rswc i j xs
def rswr (i j : Nat) : List (List AV) → List (List AV)
  | [] => []
  | x :: xs => rswc i j x :: rswr i j xs
end
theorem rswr_length (i j:Nat):∀l,(rswr i j l).length=l.length
 |[]=>rfl
 |_::l=>by simp [rswr,rswr_length i j l]
structure Ren (i j : Nat) (E E' : Env) : Prop where
  a : ∀ b, E.A b → E'.A b
  v : ∀ k, E'.V (swp i j k) → E.V k
  d : ∀ k b, E.D k b → E'.D (swp i j k) b
  h : ∀ k ver x, (moved i j k → ver ≠ 0) → E.H k ver x → E'.H (swp i j k) ver x
  l : ∀ k ver idx off x, ¬ moved i j k → E.L k ver idx off x → E'.L k ver idx off x
theorem Ren.plain {i j:Nat} {E E':Env} (k:Ren i j E E'):Ren i j E.plain E'.plain:=
 ⟨k.a,fun _ _=>trivial,fun _ _ h=>h.elim,fun _ _ _ _ h=>h.elim,fun _ _ _ _ _ _ h=>h.elim⟩
theorem Ren.sub {i j:Nat} {E E':Env} (k:Ren i j E E') (g:Tg):Ren i j (E.sub g) (E'.sub (gsw i j g)):=by
 cases g with
 |own=>exact k.plain
 |view=>exact k.plain
 |dep q=>exact ⟨k.a,fun _ _=>trivial,fun r b h=>⟨by rw [h.1],k.d _ _ h.2⟩,fun _ _ _ _ h=>h.elim,fun _ _ _ _ _ _ h=>h.elim⟩
theorem Ren.dead {i j:Nat} {E E':Env} (k:Ren i j E E') {g:Tg} (h:E.dead g):E'.dead (gsw i j g):=by
 cases g with
 |own=>exact h
 |view=>exact h
 |dep q=>exact fun hv=>h (k.v q hv)
theorem Ren.tg {i j:Nat} {E E':Env} (k:Ren i j E E') {g:Tg} {b:Nat} (h:E.tg g b):E'.tg (gsw i j g) b:=by
 cases g with
 |own=>exact h
 |view=>exact k.a b h
 |dep q=>exact k.d q b h
theorem gsw_own {i j:Nat} {g:Tg}:gsw i j g= .own↔g= .own:=by cases g<;>simp [gsw]
mutual
theorem R_ren {w : World} {i j : Nat} {E E' : Env} (k : Ren i j E E') : ∀ (x : AV) (v : Value) (fp : List Nat), R w E x v fp → R w E' (rsw i j x) v fp
  | .obj q u, v, fp, h => by
    simp only [rsw]
    simp only [R] at h
    by_cases hm : moved i j q
    · rw [if_pos hm]
      by_cases hu : u = 0
      · rw [if_pos hu]; simp only [R]; exact h.1
      · rw [if_neg hu]; simp only [R]; exact ⟨h.1, k.h _ _ _ (fun _ => hu) h.2⟩
    · rw [if_neg hm]
      simp only [R]
      have := k.h q u v (fun hm' => absurd hm' hm) h.2
      rw [swp_not hm] at this
      exact ⟨h.1, this⟩
  | .ptr q u idx off, v, fp, h => by
    simp only [rsw]
    simp only [R] at h
    by_cases hm : moved i j q
    · rw [if_pos hm]; simp only [R]; exact h.1
    · rw [if_neg hm]; simp only [R]; exact ⟨h.1, k.l _ _ _ _ _ hm h.2⟩
  | .sl g n l, v, fp, h => by
    simp only [rsw, R, rswr_length] at h ⊢
    rcases h with h | ⟨a, cap, hv, hl, h⟩
    · exact .inl ⟨k.dead h.1, h.2⟩
    refine .inr ⟨a, cap, hv, hl, ?_⟩
    rcases h with ⟨hg, hl0, h1, h2⟩ | ⟨hg, b, off, C, e, fz, fps, ha, hb, hz, h1, h2, h3, hfp, hr⟩ | ⟨hg, hfp, h⟩
    · exact .inl ⟨gsw_own.2 hg, by rw [hl0]; rfl, h1, h2⟩
    · exact .inr (.inl ⟨gsw_own.2 hg, b, off, C, e, fz, fps, ha, hb, hz, h1, h2, h3, hfp, Rr_ren (k.sub g) _ _ _ _ _ hr⟩)
    · refine .inr (.inr ⟨fun e => hg (gsw_own.1 e), hfp, ?_⟩)
      rcases h with rfl | ⟨b, off, ha, ht, hr⟩
      · exact .inl rfl
      · exact .inr ⟨b, off, ha, k.tg ht, Rr_ren (k.sub g) _ _ _ _ _ hr⟩
  | .vptr g c off, v, fp, h => by
    simp only [rsw, R] at h ⊢
    rcases h with h | ⟨hfp, b, o, cs, hv, ht, hcs, hc, hr⟩
    · exact .inl ⟨k.dead h.1, h.2⟩
    · exact .inr ⟨hfp, b, o, cs, hv, k.tg ht, hcs, hc, Rc_ren (k.sub g) _ _ _ hr⟩
  | .agg c, v, fp, h => by
    simp only [rsw, R] at h ⊢
    obtain ⟨cs, h1, h2, h3⟩ := h
    exact ⟨cs, h1, h2, Rc_ren k c cs fp h3⟩
  | .tup c, v, fp, h => by
    simp only [rsw, R] at h ⊢
    obtain ⟨cs, h1, h3⟩ := h
    exact ⟨cs, h1, Rc_ren k c cs fp h3⟩
  | .fn f c, v, fp, h => by
    simp only [rsw, R] at h ⊢
    obtain ⟨h0, cs, h1, h3⟩ := h
    exact ⟨h0, cs, h1, Rc_ren k c cs [] h3⟩
  | .int _ _, v, fp, h => by simpa [rsw, R] using h
  | .bool _, v, fp, h => by simpa [rsw, R] using h
  | .str _, v, fp, h => by simpa [rsw, R] using h
  | .undef, v, fp, h => by simpa [rsw, R] using h
theorem Rc_ren {w : World} {i j : Nat} {E E' : Env} (k : Ren i j E E') : ∀ (c : List AV) (cs : List Value) (fp : List Nat), Rc w E c cs fp → Rc w E' (rswc i j c) cs fp
  | [], [], _, h => by simpa [Rc, rswc] using h
  | [], _ :: _, _, h => by simp [Rc] at h
  | _ :: _, [], _, h => by simp [Rc] at h
  | x :: xs, c :: cs, fp, h => by
    simp only [Rc, rswc] at h ⊢
    obtain ⟨f1, f2, h1, h2, h3⟩ := h
    exact ⟨f1, f2, R_ren k x c f1 h1, Rc_ren k xs cs f2 h2, h3⟩
theorem Rr_ren {w : World} {i j : Nat} {E E' : Env} (k : Ren i j E E') : ∀ (l : List (List AV)) (b off n : Nat) (fp : List Nat), Rr w E l b off n fp → Rr w E' (rswr i j l) b off n fp
  | [], _, _, _, _, h => by simpa [Rr, rswr] using h
  | e :: es, b, off, n, fp, h => by
    simp only [Rr, rswr] at h ⊢
    obtain ⟨cs, f1, f2, h1, h2, h3, h4, h5, h6⟩ := h
    exact ⟨cs, f1, f2, h1, h2, h3, Rc_ren k e cs f1 h4, Rr_ren k es b (off + n) n f2 h5, h6⟩
end
def AObj.rsw (i j:Nat) (ob:AObj):AObj:=if ob.box=true then {ob with els:=rswr i j ob.els} else ob
def swo (i j:Nat) (o:List AObj):List AObj:=(List.range o.length).map fun k=>((o[swp i j k]?).getD ⟨false,false,0,0,[]⟩).rsw i j
theorem OwnOk.ren {w:World} {i j:Nat} {E E':Env} {n:Nat} {l:List (List AV)} {a:Option Addr} {cap:Nat} {fp:List Nat} (k:Ren i j E E') (h:OwnOk w E n l a cap fp):OwnOk w E' n (rswr i j l) a cap fp:=by
 refine ⟨by rw [rswr_length];exact h.1,?_⟩
 rcases h.2 with h|⟨b,off,C,e,fz,fps,ha,hb,hz,h1,h2,h3,hfp,hr⟩
 ·exact .inl ⟨by rw [h.1];rfl,h.2⟩
 ·exact .inr ⟨b,off,C,e,fz,fps,ha,hb,hz,h1,by rw [rswr_length];exact h2,h3,hfp,Rr_ren k _ _ _ _ _ hr⟩
theorem weak_swap {t t':List AV} {o o':List AObj} (i j:Nat) (hi:i < o.length) (hj:j < o.length) (hbi:∀ob,o[i]? =some ob→ob.box=false) (hbj:∀ob,o[j]? =some ob→ob.box=false) (ho:swo i j o=o') (hw:wk (rswc i j t) t'):Weak ⟨t,o⟩ ⟨t',o'⟩:=by
 subst ho
 rintro P _ B a w ⟨G,r⟩
 have hlen:=r.len
 generalize hG':(List.range G.length).map (fun k=>(G[swp i j k]?).getD ⟨none,0,fun _=>False⟩)=G'
 have slt:∀k,k < o.length→swp i j k < o.length:=by intro k hk;unfold swp;split<;>(try split)<;>omega
 have fz:∀ob:AObj,(ob.rsw i j).live=ob.live∧(ob.rsw i j).box=ob.box∧(ob.rsw i j).n=ob.n∧(ob.rsw i j).ver=ob.ver∧(ob.rsw i j).els.length=ob.els.length:=by
  intro ob;unfold AObj.rsw;split<;>simp [rswr_length]
 have og:∀k,(swo i j o)[k]? =(o[swp i j k]?).map (AObj.rsw i j):=by
  intro k
  unfold swo
  rw [List.getElem?_map]
  by_cases hk:k < o.length
  ·rw [List.getElem?_range hk]
   simp only [Option.map_some,List.getElem?_eq_getElem (slt k hk),Option.getD_some]
  ·have h1:(List.range o.length)[k]? =none:=by rw [List.getElem?_eq_none_iff];simp;omega
   have h2:swp i j k=k:=by unfold swp;rw [if_neg (by omega),if_neg (by omega)]
   rw [h1,h2,List.getElem?_eq_none (by omega)];rfl
 have gg:∀k,G'[k]? =G[swp i j k]?:=by
  intro k
  rw [←hG',List.getElem?_map]
  by_cases hk:k < G.length
  ·rw [List.getElem?_range hk]
   have h3:swp i j k < G.length:=by rw [hlen];exact slt k (by rw [←hlen];exact hk)
   simp only [Option.map_some,List.getElem?_eq_getElem h3,Option.getD_some]
  ·have h1:(List.range G.length)[k]? =none:=by rw [List.getElem?_eq_none_iff];simp;omega
   have h2:swp i j k=k:=by
    have:o.length=G.length:=hlen.symm
    unfold swp;rw [if_neg (by omega),if_neg (by omega)]
   rw [h1,h2,List.getElem?_eq_none (by omega)];rfl
 have back:∀{k ob g},look (swo i j o) G' k ob g→∃ob0,look o G (swp i j k) ob0 g∧ob=ob0.rsw i j:=by
  rintro k ob g ⟨e1,e2⟩
  rw [og] at e1
  rw [gg] at e2
  cases hx:o[swp i j k]? with
  |none=>rw [hx] at e1;cases e1
  |some ob0=>
   rw [hx] at e1
   exact ⟨ob0,⟨hx,e2⟩,(Option.some.inj e1).symm⟩
 have forth:∀{k ob g},look o G k ob g→look (swo i j o) G' (swp i j k) (ob.rsw i j) g:=by
  rintro k ob g ⟨e1,e2⟩
  exact ⟨by rw [og,swp_swp,e1];rfl,by rw [gg,swp_swp,e2]⟩
 have nbox:∀{k ob g},look o G k ob g→ob.box=true→¬moved i j k:=by
  rintro k ob g ⟨e1,_⟩ hb (rfl|rfl)
  ·rw [hbi ob e1] at hb;cases hb
  ·rw [hbj ob e1] at hb;cases hb
 have rn:Ren i j (env B o G w) (env B (swo i j o) G' w):=by
  refine ⟨fun b h=>⟨h.1,fun k ob g hl hlv hF=> ?_⟩,fun k h ob hob=> ?_,fun k b h=> ?_,fun k ver x hm h=> ?_,fun k ver idx off x hm h=> ?_⟩
  ·obtain ⟨ob0,hl0,rfl⟩:=back hl
   exact h.2 _ _ _ hl0 (by rw [←(fz ob0).1];exact hlv) hF
  ·have h1:=h (ob.rsw i j) (by rw [og,swp_swp,hob];rfl)
   rw [(fz ob).1] at h1;exact h1
  ·obtain ⟨ob,g,hl,hlv,hF,hne⟩:=h
   exact ⟨_,g,forth hl,by rw [(fz ob).1];exact hlv,hF,hne⟩
  ·obtain ⟨ob,g,hl,hver,h5,hz⟩:=h
   refine ⟨_,g,forth hl,by rw [(fz ob).2.2.2.1];exact hver,fun hlv hve=> ?_,fun hv0 y hy=> ?_⟩
   ·rw [(fz ob).2.2.2.2]
    exact h5 (by rw [←(fz ob).1];exact hlv) (by rw [←(fz ob).2.2.2.1];exact hve)
   ·by_cases hmv:moved i j k
    ·exact absurd hv0 (hm hmv)
    ·rw [swp_not hmv] at hy;exact hz hv0 y hy
  ·obtain ⟨ob,g,hl,hver,h5,hz⟩:=h
   have hf:=forth hl
   rw [swp_not hm] at hf
   refine ⟨_,g,hf,by rw [(fz ob).2.2.2.1];exact hver,fun hlv hve=> ?_,fun hb hv e1 e2 y hy=> ?_⟩
   ·rw [(fz ob).2.2.1]
    exact h5 (by rw [←(fz ob).1];exact hlv) (by rw [←(fz ob).2.2.2.1];exact hve)
   ·have:=hz (by rw [←(fz ob).2.1];exact hb) hv e1 e2 y hy
    exact ⟨this.1,fun hlv hve=>this.2 (by rw [←(fz ob).1];exact hlv) (by rw [←(fz ob).2.2.2.1];exact hve)⟩
 refine ⟨G',{len:= ?_,defs:=r.defs,ok:= ?_,apart:= ?_,fresh:= ?_,tmps:=Rc_wk hw (Rc_ren rn _ _ _ r.tmps),size:=r.size,frame:=r.frame,base:=r.base,same:=r.same}⟩
 ·rw [←hG'];simp [swo,hlen]
 ·intro k ob g hl hlv
  obtain ⟨ob0,hl0,rfl⟩:=back hl
  obtain ⟨fp,hown,hnd,hF⟩:=r.ok _ _ g hl0 (by rw [←(fz ob0).1];exact hlv)
  refine ⟨fp,?_,hnd,hF⟩
  cases hb0:ob0.box with
  |false=>
   have e:ob0.rsw i j=ob0:=by unfold AObj.rsw;rw [if_neg (by simp [hb0])]
   rw [e]
   rw [hb0] at hown⊢
   exact hown.keeps (w:=w) (w':=w) ⟨fun b hb=>⟨rn.a b hb,rfl⟩,fun _ _=>trivial,fun _ _ _ h=>h.elim,fun _ _ _ h=>h.elim,fun _ _ _ _ _ h=>h.elim⟩ (fun _ _=>rfl)
  |true=>
   have e:ob0.rsw i j={ob0 with els:=rswr i j ob0.els}:=by unfold AObj.rsw;rw [if_pos hb0]
   rw [e]
   simp only [hb0] at hown⊢
   simp only [Env.of,if_true] at hown⊢
   exact hown.ren rn
 ·intro p q op oq gp gq b hp hq hlp hlq hFp hFq
  obtain ⟨op0,hp0,rfl⟩:=back hp
  obtain ⟨oq0,hq0,rfl⟩:=back hq
  have:=r.apart _ _ _ _ _ _ b hp0 hq0 (by rw [←(fz op0).1];exact hlp) (by rw [←(fz oq0).1];exact hlq) hFp hFq
  have h2:=congrArg (swp i j) this
  rwa [swp_swp,swp_swp] at h2
 ·intro k ob g b hl hlv hF
  obtain ⟨ob0,hl0,rfl⟩:=back hl
  exact r.fresh _ _ g b hl0 (by rw [←(fz ob0).1];exact hlv) hF
theorem swo_set {i j:Nat} {o:List AObj} {oi oj:AObj} (hi:o[i]? =some oi) (hj:o[j]? =some oj):swo i j o=((o.set i oj).set j oi).map (AObj.rsw i j):=by
 have hil:=(List.getElem?_eq_some_iff.1 hi).1
 have hjl:=(List.getElem?_eq_some_iff.1 hj).1
 refine List.ext_getElem? fun k=> ?_
 unfold swo
 rw [List.getElem?_map,List.getElem?_map]
 by_cases hk:k < o.length
 ·rw [List.getElem?_range hk]
  simp only [Option.map_some]
  by_cases hkj:k=j
  ·subst hkj
   rw [List.getElem?_set_self (by simpa using hk)]
   have:swp i k k=i:=by unfold swp;split<;>simp_all
   rw [this,hi];rfl
  ·rw [List.getElem?_set_ne (fun e=>hkj e.symm)]
   by_cases hki:k=i
   ·subst hki
    rw [List.getElem?_set_self hk]
    have:swp k j k=j:=by unfold swp;simp
    rw [this,hj];rfl
   ·rw [List.getElem?_set_ne (fun e=>hki e.symm)]
    have:swp i j k=k:=by unfold swp;rw [if_neg hki,if_neg hkj]
    rw [this,List.getElem?_eq_getElem hk];rfl
 ·have h1:(List.range o.length)[k]? =none:=by rw [List.getElem?_eq_none_iff];simp;omega
  have h2:((o.set i oj).set j oi)[k]? =none:=by rw [List.getElem?_eq_none_iff];simp;omega
  rw [h1,h2];rfl
theorem weak_swp {t t':List AV} {o o':List AObj} (i j:Nat) {oi oj:AObj} (hi:o[i]? =some oi) (hj:o[j]? =some oj) (hb:oi.box=false∧oj.box=false) (ho:((o.set i oj).set j oi).map (AObj.rsw i j)=o') (hw:wk (rswc i j t) t'):Weak ⟨t,o⟩ ⟨t',o'⟩:=
 weak_swap i j (List.getElem?_eq_some_iff.1 hi).1 (List.getElem?_eq_some_iff.1 hj).1 (fun ob h=>by rw [hi] at h;obtain rfl:=Option.some.inj h;exact hb.1) (fun ob h=>by rw [hj] at h;obtain rfl:=Option.some.inj h;exact hb.2) (by rw [swo_set hi hj];exact ho) hw
@[simp] theorem rsw_obj (i j:Nat) (l:Bool) (n v:Nat) (els:List (List AV)):AObj.rsw i j ⟨l,false,n,v,els⟩=⟨l,false,n,v,els⟩:=rfl
@[simp] theorem rsw_box (i j:Nat) (l:Bool) (n v:Nat) (els:List (List AV)):AObj.rsw i j ⟨l,true,n,v,els⟩=⟨l,true,n,v,rswr i j els⟩:=rfl
attribute [simp] rsw rswc rswr gsw swp moved
end Go.Aw

namespace Go.Aw
def entV:Nat→List GA→List AV
 |_,[]=>[]
 |k,.view x::gs=>x::entV k gs
 |k,.give x::gs=>(absorb 1 k x).1::entV (k+(absorb 1 k x).2.length) gs
 |k,.lend c _::gs=> .ptr k 2 0 0::entV (k+(1+(absorbc 1 (k+1) c).2.length)) gs
def entO:Nat→List GA→List AObj
 |_,[]=>[]
 |k,.view _::gs=>entO k gs
 |k,.give x::gs=>(absorb 1 k x).2++entO (k+(absorb 1 k x).2.length) gs
 |k,.lend c _::gs=>(⟨true,true,c.length,2,[(absorbc 1 (k+1) c).1]⟩::(absorbc 1 (k+1) c).2)++entO (k+(1+(absorbc 1 (k+1) c).2.length)) gs
def Fc (E:Env) (k:Nat) (os:List AObj) (Gs:List CO):Prop:=
 ∀j ob g,look os Gs j ob g→E.H (k+j) ob.ver (.slice g.a ob.els.length g.cap)∧(ob.box=true→∀b f,g.a=some ⟨b,f,none⟩→E.L (k+j) ob.ver 0 0 (.pointer (some ⟨b,f,none⟩)))
theorem Fc.left {E:Env} {k:Nat} {o1 o2:List AObj} {G1 G2:List CO} (h:Fc E k (o1++o2) (G1++G2)):Fc E k o1 G1:=fun j ob g hl=>h j ob g (look_app_left hl)
theorem Fc.right {E:Env} {k:Nat} {o1 o2:List AObj} {G1 G2:List CO} (hlen:G1.length=o1.length) (h:Fc E k (o1++o2) (G1++G2)):Fc E (k+o1.length) o2 G2:=fun j ob g hl=>by
 have:=h _ ob g (look_app_right hlen hl)
 rwa [←Nat.add_assoc] at this
def Ent (w:World) (E:Env) (k:Nat) (os:List AObj) (fp:List Nat) (pin:List CO→Prop) (done:Env→Prop):Prop:=
 ∃Gs:List CO,Gs.length=os.length∧
  (∀j ob g,look os Gs j ob g→ob.live=true∧(ob.box=false→ob.ver=1)∧(ob.box=true→ob.ver=2)∧∃f,f.Nodup∧(∀b,g.F b↔b∈f)∧(∀b∈f,b∈fp)∧
   ∀E',Keeps w E w E'→Fc E' k os Gs→OwnOk w (E'.of ob.box) ob.n ob.els g.a g.cap f)∧
  (∀i j oi oj gi gj b,look os Gs i oi gi→look os Gs j oj gj→gi.F b→gj.F b→i=j)∧pin Gs∧
  ∀E':Env,Keeps w E w E'→Fc E' k os Gs→done E'
theorem Ent.of_absorbed {w:World} {E:Env} {k:Nat} {os:List AObj} {fp:List Nat} {done:Env→Prop} (h:Absorbed 1 w E k os fp done):Ent w E k os fp (fun _=>True) done:=by
 obtain ⟨Gs,h1,h2,h3,h4⟩:=h
 refine ⟨Gs,h1,fun j ob g hl=> ?_,h3,trivial,fun E' hk hf=>h4 E' hk fun j ob g hl=> ?_⟩
 ·obtain ⟨a1,a2,a3,f,a4,a5,a6,a7⟩:=h2 j ob g hl
  refine ⟨a1,fun _=>a3,(fun h=>by rw [a2] at h;cases h),f,a5,a6,a7,fun E' hk _=> ?_⟩
  rw [a2]
  exact a4.keeps hk.plain (fun _ _=>rfl)
 ·have:=(hf j ob g hl).1
  obtain ⟨_,_,a3,_⟩:=h2 j ob g hl
  rwa [a3] at this
theorem Ent.append {w:World} {E:Env} {k:Nat} {o1 o2:List AObj} {f1 f2:List Nat} {p1 p2 p:List CO→Prop} {d1 d2 d:Env→Prop} (h1:Ent w E k o1 f1 p1 d1) (h2:Ent w E (k+o1.length) o2 f2 p2 d2) (hn:(f1++f2).Nodup)
  (hp:∀G1 G2,G1.length=o1.length→p1 G1→p2 G2→p (G1++G2)) (hd:∀E',d1 E'→d2 E'→d E'):Ent w E k (o1++o2) (f1++f2) p d:=by
 obtain ⟨G1,l1,a1,b1,q1,c1⟩:=h1
 obtain ⟨G2,l2,a2,b2,q2,c2⟩:=h2
 have hdj:=(List.nodup_append.1 hn).2.2
 refine ⟨G1++G2,by simp [l1,l2],?_,?_,hp G1 G2 l1 q1 q2,fun E' hk hf=>hd E' (c1 E' hk hf.left) (c2 E' hk (hf.right l1))⟩
 ·intro j ob g hl
  rcases look_app l1 hl with ⟨_,h⟩|⟨_,h⟩
  ·obtain ⟨x,y,y',f,z1,z2,z3,z4⟩:=a1 _ _ _ h
   exact ⟨x,y,y',f,z1,z2,fun b hb=>List.mem_append_left _ (z3 b hb),fun E' hk hf=>z4 E' hk hf.left⟩
  ·obtain ⟨x,y,y',f,z1,z2,z3,z4⟩:=a2 _ _ _ h
   exact ⟨x,y,y',f,z1,z2,fun b hb=>List.mem_append_right _ (z3 b hb),fun E' hk hf=>z4 E' hk (hf.right l1)⟩
 ·intro i j oi oj gi gj b hi hj hfi hfj
  rcases look_app l1 hi with ⟨_,h⟩|⟨hi',h⟩<;>rcases look_app l1 hj with ⟨_,h'⟩|⟨hj',h'⟩
  ·exact b1 _ _ _ _ _ _ b h h' hfi hfj
  ·obtain ⟨_,_,_,f,_,z2,z3,_⟩:=a1 _ _ _ h
   obtain ⟨_,_,_,f',_,z2',z3',_⟩:=a2 _ _ _ h'
   exact absurd rfl (hdj b (z3 b ((z2 b).1 hfi)) b (z3' b ((z2' b).1 hfj)))
  ·obtain ⟨_,_,_,f,_,z2,z3,_⟩:=a2 _ _ _ h
   obtain ⟨_,_,_,f',_,z2',z3',_⟩:=a1 _ _ _ h'
   exact absurd rfl (hdj b (z3' b ((z2' b).1 hfj)) b (z3 b ((z2 b).1 hfi)))
  ·have:=b2 _ _ _ _ _ _ b h h' hfi hfj
   omega
theorem ent_lend {w:World} {O:Nat→Prop} {k:Nat} {c c':List AV} {v:Value} {fp:List Nat} {cap:Nat} (h:RG w O (.lend c c') v fp cap) (hn:fp.Nodup):
  Ent w (envBut w O) k (⟨true,true,c.length,2,[(absorbc 1 (k+1) c).1]⟩::(absorbc 1 (k+1) c).2) fp
   (fun Gs=>∃g b f,Gs[0]? =some g∧g.a=some ⟨b,f,none⟩∧v= .pointer (some ⟨b,f,none⟩)∧g.cap=cap) (fun E'=>R w E' (.ptr k 2 0 0) v []):=by
 simp only [RG] at h
 obtain ⟨b,f,rfl,hlen,hown⟩:=h
 rcases hown with ⟨h5,_⟩|⟨b',f',C,ty,fz,fps,ha',hbk,hz,k1,k2,k3,rfl,hr⟩
 ·cases h5
 simp only [Option.some.injEq,Addr.mk.injEq,and_true] at ha'
 obtain ⟨rfl,rfl⟩:=ha'
 simp only [Rr] at hr
 obtain ⟨cs,f1,f2,hcl,hc,hone,hrc,rfl,e⟩:=hr
 have e:fps=f1:=by simpa using e
 subst e
 simp only [List.nodup_cons] at hn
 obtain ⟨Gs,a1,a2,a3,a4⟩:=Rc_absorb (q:=1) c cs fps (k+1) hrc hn.2
 have tail:∀{j ob g},look (⟨true,true,c.length,2,[(absorbc 1 (k+1) c).1]⟩::(absorbc 1 (k+1) c).2) (⟨some ⟨b,f,none⟩,cap,fun x=>x=b⟩::Gs) j ob g→
   (j=0∧ob=⟨true,true,c.length,2,[(absorbc 1 (k+1) c).1]⟩∧g=⟨some ⟨b,f,none⟩,cap,fun x=>x=b⟩)∨∃j',j=j'+1∧look (absorbc 1 (k+1) c).2 Gs j' ob g:=by
  rintro j ob g ⟨h1,h2⟩
  cases j with
  |zero=>simp only [List.getElem?_cons_zero,Option.some.injEq] at h1 h2;exact .inl ⟨rfl,h1.symm,h2.symm⟩
  |succ j=>exact .inr ⟨j,rfl,by simpa using h1,by simpa using h2⟩
 have inner:∀{E':Env},Fc E' k (⟨true,true,c.length,2,[(absorbc 1 (k+1) c).1]⟩::(absorbc 1 (k+1) c).2) (⟨some ⟨b,f,none⟩,cap,fun x=>x=b⟩::Gs)→
   ∀j ob g,look (absorbc 1 (k+1) c).2 Gs j ob g→E'.H (k+1+j) 1 (.slice g.a ob.els.length g.cap):=by
  intro E' hf j ob g hl
  have:=(hf (j+1) ob g ⟨by simpa using hl.1,by simpa using hl.2⟩).1
  obtain ⟨_,_,h3,_⟩:=a2 j ob g hl
  rw [h3] at this
  rwa [show k+1+j=k+(j+1) by omega]
 refine ⟨⟨some ⟨b,f,none⟩,cap,fun x=>x=b⟩::Gs,by simp [a1],?_,?_,⟨_,b,f,rfl,rfl,rfl,rfl⟩,?_⟩
 ·intro j ob g hl
  rcases tail hl with ⟨rfl,rfl,rfl⟩|⟨j',rfl,hl'⟩
  ·refine ⟨rfl,(fun h=>by cases h),fun _=>rfl,[b],by simp,by simp,by simp,fun E' hk hf=> ?_⟩
   refine ⟨by simp [maxLen],.inr ⟨b,f,C,ty,fz,[],rfl,hbk,hz,k1,by simpa using k2,k3,rfl,?_⟩⟩
   simp only [Rr]
   exact ⟨cs,[],[],hcl,hc,hone,a4 E' hk (inner hf),rfl,rfl⟩
  ·obtain ⟨h1,h2,h3,f',h4,h5,h6,h7⟩:=a2 _ _ _ hl'
   refine ⟨h1,fun _=>h3,(fun h=>by rw [h2] at h;cases h),f',h5,h6,fun x hx=>List.mem_cons_of_mem _ (h7 x hx),fun E' hk _=> ?_⟩
   rw [h2]
   exact h4.keeps hk.plain (fun _ _=>rfl)
 ·intro i j oi oj gi gj x hi hj hfi hfj
  rcases tail hi with ⟨rfl,rfl,rfl⟩|⟨i',rfl,hi'⟩<;>rcases tail hj with ⟨rfl,rfl,rfl⟩|⟨j',rfl,hj'⟩
  ·rfl
  ·obtain ⟨_,_,_,f',_,_,h6,h7⟩:=a2 _ _ _ hj'
   have hx:x=b:=hfi
   subst hx
   exact absurd (h7 _ ((h6 _).1 hfj)) hn.1
  ·obtain ⟨_,_,_,f',_,_,h6,h7⟩:=a2 _ _ _ hi'
   have hx:x=b:=hfj
   subst hx
   exact absurd (h7 _ ((h6 _).1 hfi)) hn.1
  ·have:=a3 _ _ _ _ _ _ x hi' hj' hfi hfj
   omega
 ·intro E' hk hf
  simp only [R]
  exact ⟨trivial,(hf 0 _ _ ⟨rfl,rfl⟩).2 rfl b f rfl⟩
def pinned (gat:Nat→Option CO):Nat→List GA→List Value→List Nat→Prop
 |_,[],[],[]=>True
 |k,.view _::gs,_::vs,_::caps=>pinned gat k gs vs caps
 |k,.give x::gs,_::vs,_::caps=>pinned gat (k+(absorb 1 k x).2.length) gs vs caps
 |k,.lend c _::gs,v::vs,cap::caps=>(∃g b f,gat k=some g∧g.a=some ⟨b,f,none⟩∧v= .pointer (some ⟨b,f,none⟩)∧g.cap=cap)∧pinned gat (k+(1+(absorbc 1 (k+1) c).2.length)) gs vs caps
 |_,_,_,_=>False
theorem ent_ok {w:World} {O:Nat→Prop}:∀(gs:List GA) (vs:List Value) (fss:List (List Nat)) (caps:List Nat) (k:Nat),RGs w O gs vs fss caps→fss.flatten.Nodup→
  Ent w (envBut w O) k (entO k gs) fss.flatten (fun Gs=>∀pre:List CO,pre.length=k→pinned (fun i=>(pre++Gs)[i]?) k gs vs caps) (fun E'=>Rc w E' (entV k gs) vs [])
 |[],[],[],[],k,_,_=>⟨[],rfl,fun j ob g hl=>by simp [look,entO] at hl,fun i j oi oj gi gj b hl=>by simp [look,entO] at hl,fun _ _=>by simp [pinned],fun E' _ _=>by simp [entV,Rc]⟩
 | .view x::gs,v::vs,fp::fss,cap::caps,k,h,hn=>by
  simp only [RGs,RG] at h
  obtain ⟨⟨rfl,hx⟩,h⟩:=h
  simp only [List.flatten_cons,List.nil_append] at hn⊢
  obtain ⟨Gs,a1,a2,a3,a4,a5⟩:=ent_ok gs vs fss caps k h hn
  refine ⟨Gs,a1,a2,a3,fun pre hp=>by simp only [pinned];exact a4 pre hp,fun E' hk hf=> ?_⟩
  ·simp only [entV,Rc]
   exact ⟨[],[],R_keeps hk _ _ _ (by simp) hx,a5 E' hk hf,rfl⟩
 | .give x::gs,v::vs,fp::fss,cap::caps,k,h,hn=>by
  simp only [RGs,RG] at h
  obtain ⟨hx,h⟩:=h
  simp only [List.flatten_cons] at hn⊢
  have hn':=List.nodup_append.1 hn
  refine (Ent.of_absorbed (R_absorb (q:=1) x v fp k hx hn'.1)).append (ent_ok gs vs fss caps (k+(absorb 1 k x).2.length) h hn'.2.1) hn (fun G1 G2 hl _ h2 pre hp=> ?_) (fun E' h1 h2=> ?_)
  ·simp only [pinned]
   have:=h2 (pre++G1) (by simp [hp,hl])
   simpa using this
  ·simp only [entV,Rc]
   exact ⟨[],[],h1,h2,rfl⟩
 | .lend c c'::gs,v::vs,fp::fss,cap::caps,k,h,hn=>by
  simp only [RGs] at h
  obtain ⟨hx,h⟩:=h
  simp only [List.flatten_cons] at hn⊢
  have hn':=List.nodup_append.1 hn
  have h2:=ent_ok gs vs fss caps (k+(1+(absorbc 1 (k+1) c).2.length)) h hn'.2.1
  simp only [entO]
  refine (ent_lend hx hn'.1).append (by
   rw [show k+(({live:=true,box:=true,n:=c.length,ver:=2,els:=[(absorbc 1 (k+1) c).1]}:AObj)::(absorbc 1 (k+1) c).2).length=k+(1+(absorbc 1 (k+1) c).2.length) by simp;omega]
   exact h2) hn (fun G1 G2 hl h1 h2 pre hp=> ?_) (fun E' h1 h2=> ?_)
  ·simp only [pinned]
   refine ⟨?_,?_⟩
   ·obtain ⟨g,b,f,e1,e2,e3,e4⟩:=h1
    refine ⟨g,b,f,?_,e2,e3,e4⟩
    subst hp
    rw [List.getElem?_append_right (by omega),Nat.sub_self]
    cases G1 with
    |nil=>simp at e1
    |cons _ _=>simpa using e1
   ·have:=h2 (pre++G1) (by simp only [List.length_append,hp,hl,List.length_cons];omega)
    simpa using this
  ·simp only [entV,Rc]
   exact ⟨[],[],h1,h2,rfl⟩
 |[],[],[],_::_,_,h,_=>by simp [RGs] at h
 |[],[],_::_,_,_,h,_=>by simp [RGs] at h
 |[],_::_,_,_,_,h,_=>by simp [RGs] at h
 | .view _::_,[],_,_,_,h,_=>by simp [RGs] at h
 | .view _::_,_::_,[],_,_,h,_=>by simp [RGs] at h
 | .view _::_,_::_,_::_,[],_,h,_=>by simp [RGs] at h
 | .give _::_,[],_,_,_,h,_=>by simp [RGs] at h
 | .give _::_,_::_,[],_,_,h,_=>by simp [RGs] at h
 | .give _::_,_::_,_::_,[],_,h,_=>by simp [RGs] at h
 | .lend _ _::_,[],_,_,_,h,_=>by simp [RGs] at h
 | .lend _ _::_,_::_,[],_,_,h,_=>by simp [RGs] at h
 | .lend _ _::_,_::_,_::_,[],_,h,_=>by simp [RGs] at h
def lendOut (s:AS):Nat→Nat→List GA→Prop
 |_,_,[]=>True
 |pos,k,.view _::gs=>lendOut s (pos+1) k gs
 |pos,k,.give x::gs=>lendOut s (pos+1) (k+(absorb 1 k x).2.length) gs
 |pos,k,.lend c c'::gs=>(s.t.getD pos .undef= .ptr k 2 0 0∧∃cells,s.o[k]? =some ⟨true,true,c.length,2,[cells]⟩∧resOkc s.o cells=true∧resc s.o cells=c'∧cleanc c'=true)∧
   lendOut s (pos+1) (k+(1+(absorbc 1 (k+1) c).2.length)) gs
def lendUse (s:AS):Nat→List GA→List Nat
 |_,[]=>[]
 |k,.view _::gs=>lendUse s k gs
 |k,.give x::gs=>lendUse s (k+(absorb 1 k x).2.length) gs
 |k,.lend c _::gs=>(k::usesc (rowOf s.o k))++lendUse s (k+(1+(absorbc 1 (k+1) c).2.length)) gs
def HandsG (P:Program) (fn:Func) (s:AS) (gs:List GA) (r:AV):Prop:=
 ∃ys,s.rvs P fn.results.toList=some ys∧resOk s.o (single ys)=true∧res s.o (single ys)=r∧clean r=true∧lendOut s 0 0 gs∧(lendUse s 0 gs++uses (single ys)).Nodup
theorem lends_out {P:Program} [Tabs P] {B:Base P} {s:AS} {G:List CO} {a:Act} {w:World} (r:Rel' B s G a w) {gat:Nat→Option CO} (hp:∀i g,gat i=some g→B.p0 i=some (.pointer g.a,g.cap)):
  ∀(gs:List GA) (vs:List Value) (caps:List Nat) (pos k:Nat),pinned gat k gs vs caps→lendOut s pos k gs→(lendUse s k gs).Nodup→
  ∃fss,RPs w gs vs fss caps∧fss.flatten.Nodup∧∀b∈fss.flatten,Of s.o G (lendUse s k gs) b
 |[],[],[],pos,k,_,_,_=>⟨[],by simp [RPs],by simp,by simp⟩
 | .view x::gs,v::vs,cap::caps,pos,k,h1,h2,h3=>by
  simp only [pinned] at h1
  simp only [lendOut] at h2
  simp only [lendUse] at h3⊢
  obtain ⟨fss,q1,q2,q3⟩:=lends_out r hp gs vs caps (pos+1) k h1 h2 h3
  exact ⟨[]::fss,by simp only [RPs,RP];exact ⟨trivial,q1⟩,by simpa using q2,by simpa using q3⟩
 | .give x::gs,v::vs,cap::caps,pos,k,h1,h2,h3=>by
  simp only [pinned] at h1
  simp only [lendOut] at h2
  simp only [lendUse] at h3⊢
  obtain ⟨fss,q1,q2,q3⟩:=lends_out r hp gs vs caps (pos+1) _ h1 h2 h3
  exact ⟨[]::fss,by simp only [RPs,RP];exact ⟨trivial,q1⟩,by simpa using q2,by simpa using q3⟩
 | .lend c c'::gs,v::vs,cap::caps,pos,k,h1,h2,h3=>by
  simp only [pinned] at h1
  simp only [lendOut] at h2
  simp only [lendUse] at h3⊢
  obtain ⟨⟨g0,b0,f0,e1,e2,e3,e4⟩,h1⟩:=h1
  obtain ⟨⟨htp,cells,ho,hok,hres,hcl⟩,h2⟩:=h2
  have hn:=List.nodup_append.1 h3
  obtain ⟨fss,q1,q2,q3⟩:=lends_out r hp gs vs caps (pos+1) _ h1 h2 hn.2.1
  have hrow:rowOf s.o k=cells:=by simp [rowOf,ho]
  rw [hrow] at hn⊢
  have hob:AV.isObj s.o k 2=some ⟨true,true,c.length,2,[cells]⟩:=by simp [AV.isObj,ho]
  obtain ⟨g,b,f,hl,hlive,hga,hv⟩:=r.ptr (x:= .tmp pos) htp hob
  have hpin:=r.pin (x:= .tmp pos) htp hob hl rfl rfl rfl rfl _ (hp k g0 e1)
  rw [hv] at hpin
  obtain ⟨hp1,hp2⟩:=hpin
  have hcap:g.cap=g0.cap:=hp2 rfl rfl
  simp only [Value.pointer.injEq] at hp1
  rw [e2] at hp1
  simp only [Nat.zero_mul,Nat.add_zero,Option.some.injEq,Addr.mk.injEq,and_true] at hp1
  obtain ⟨rfl,rfl⟩:=hp1
  obtain ⟨fp0,⟨_,hown⟩,hndo,hFo⟩:=r.ok k _ g hl rfl
  simp only [Env.of,if_true] at hown
  rcases hown with ⟨h5,_⟩|⟨b',f',C,ty,fz,fps,ha',hbk,hz,k1,k2,k3,rfl,hr⟩
  ·cases h5
  rw [hga] at ha'
  simp only [Option.some.injEq,Addr.mk.injEq,and_true] at ha'
  obtain ⟨rfl,rfl⟩:=ha'
  simp only [Rr] at hr
  obtain ⟨cs,f1,f2,hcn,hc,hone,hrc,rfl,e⟩:=hr
  have e:fps=f1:=by simpa using e
  subst e
  simp only [List.nodup_cons] at hndo
  have hn1:=hn.1
  simp only [List.nodup_cons] at hn1
  obtain ⟨fp',u1,u2,u3⟩:=Rc_resF r hl rfl cells cs fps hok hn1.2 hn1.1 hndo.2 (fun x hx=>hFo x (by simp [hx])) hrc
  have hbF:g.F b:=hFo b (by simp)
  have hbn:b∉fp':=fun hb=>by
   rcases u3 b hb with h|h
   ·exact hndo.1 h
   ·obtain ⟨j,oj,gj,hj,hlj,hjl,hFj⟩:=h
    have:=r.apart k j _ _ _ _ b hl hlj rfl hjl hbF hFj
    exact hn1.1 (this▸hj)
  rw [hres] at u1
  have u1':Rc w envNone c' cs fp':=Rc_clean (E:=(env B s.o G w).plain) (fun _ _=>trivial) rfl rfl rfl _ _ _ hcl u1
  have hin:∀x∈b::fp',Of s.o G (k::usesc cells) x:=by
   intro x hx
   rcases List.mem_cons.1 hx with rfl|hx
   ·exact ⟨k,_,g,by simp,hl,rfl,hbF⟩
   ·rcases u3 x hx with h|h
    ·exact ⟨k,_,g,by simp,hl,rfl,hFo x (by simp [h])⟩
    ·exact Of_mono (fun j hj=>by simp [hj]) h
  refine ⟨(b::fp')::fss,?_,?_,?_⟩
  ·simp only [RPs,RP]
   refine ⟨⟨b,f,e3,by simp [maxLen],.inr ⟨b,f,C,ty,fz,fp',rfl,hbk,hz,?_,?_,?_,rfl,?_⟩⟩,q1⟩
   ·rw [←e4,←hcap];exact k1
   ·rw [←e4,←hcap];simpa using k2
   ·rw [←e4,←hcap];exact k3
   ·simp only [Rr]
    exact ⟨cs,fp',[],hcn,hc,hone,u1',rfl,by simp⟩
  ·simp only [List.flatten_cons,List.nodup_append]
   refine ⟨List.nodup_cons.2 ⟨hbn,u2⟩,q2,fun x hx y hy e=> ?_⟩
   subst e
   exact Of_apart r (fun i hi j hj=>hn.2.2 i hi j hj) (hin x hx) (q3 x hy)
  ·intro x hx
   simp only [List.flatten_cons,List.mem_append] at hx
   rcases hx with hx|hx
   ·exact Of_mono (fun i hi=>List.mem_append_left _ hi) (hin x hx)
   ·exact Of_mono (fun i hi=>List.mem_append_right _ hi) (q3 x hx)
 |[],[],_::_,_,_,h,_,_=>by simp [pinned] at h
 |[],_::_,_,_,_,h,_,_=>by simp [pinned] at h
 | .view _::_,[],_,_,_,h,_,_=>by simp [pinned] at h
 | .view _::_,_::_,[],_,_,h,_,_=>by simp [pinned] at h
 | .give _::_,[],_,_,_,h,_,_=>by simp [pinned] at h
 | .give _::_,_::_,[],_,_,h,_,_=>by simp [pinned] at h
 | .lend _ _::_,[],_,_,_,h,_,_=>by simp [pinned] at h
 | .lend _ _::_,_::_,[],_,_,h,_,_=>by simp [pinned] at h
theorem RGs_length {w:World} {O:Nat→Prop}:∀{gs:List GA} {vs:List Value} {fss:List (List Nat)} {caps:List Nat},RGs w O gs vs fss caps→vs.length=gs.length
 |[],[],_,_,_=>rfl
 |_::gs,_::vs,[],_,h=>by simp [RGs] at h
 |_::gs,_::vs,_::_,[],h=>by simp [RGs] at h
 |_::gs,_::vs,_::fss,_::caps,h=>by simp only [RGs] at h;simp [RGs_length h.2]
 |[],_::_,_,_,h=>by simp [RGs] at h
 |_::_,[],_,_,h=>by simp [RGs] at h
theorem okG_of_awp {P:Program} [Tabs P] (hm:P.follows .mixedOrders=true) {f:FuncId} {fn:Func} {c:Code} (hf:P.funcs[f]? =some fn) (hb:fn.body=some c) {gs:List GA} {rr:AV}
  (h:awp P c ⟨entV 0 gs++List.replicate (fn.ntmps - gs.length) .undef,entO 0 gs⟩ (fun e s=>(e= .normal∨e= .ret)∧HandsG P fn s gs rr)):OkG P f gs rr:=by
 intro w vs fss caps hg hab hnd hrg
 obtain ⟨Gs,hlen,hobj,hap,hpin,hdone⟩:=ent_ok gs vs fss caps 0 hrg hnd
 have hvl:=RGs_length hrg
 generalize hB:(⟨w,fun b=>b < w.heap.size,(· ∈fss.flatten),fun _=>none,fun i=>(Gs[i]?).map fun g=>(.pointer g.a,g.cap),hg,fun b hb=>(hab b hb).1,fun b hb=>(hab b hb).2⟩:Base P)=B
 have hw0:B.w0=w:=by rw [←hB]
 have hA0:∀b,B.A0 b↔b < w.heap.size:=by intro b;rw [←hB]
 have hO0:∀b,B.O0 b↔b∈fss.flatten:=by intro b;rw [←hB]
 have hh0:∀i,B.h0 i=none:=by intro i;rw [←hB]
 have hp0:∀i g,Gs[i]? =some g→B.p0 i=some (.pointer g.a,g.cap):=by intro i g hg;rw [←hB];simp [hg]
 have kE:Keeps w (envBut w (· ∈fss.flatten)) w (env B (entO 0 gs) Gs w):=by
  refine ⟨fun b hb=>⟨⟨.inl ((hA0 b).2 hb.1),fun i ob g hl _ hF=> ?_⟩,rfl⟩,fun _ _=>trivial,fun _ _ _ h=>h.elim,fun _ _ _ h=>h.elim,fun _ _ _ _ _ h=>h.elim⟩
  obtain ⟨_,_,_,f',_,h2,h3,_⟩:=hobj _ _ _ hl
  exact hb.2 (h3 _ ((h2 _).1 hF))
 have fc:Fc (env B (entO 0 gs) Gs w) 0 (entO 0 gs) Gs:=by
  intro j ob g hl
  rw [Nat.zero_add]
  refine ⟨⟨ob,g,hl,Nat.le_refl _,fun _ _=>rfl,fun _ x hx=>by rw [hh0] at hx;cases hx⟩,fun _ b f hga=>⟨ob,g,hl,Nat.le_refl _,fun _ _=>⟨b,f,hga,by simp⟩,fun _ _ _ _ y hy=> ?_⟩⟩
  rw [hp0 _ _ hl.2] at hy
  obtain rfl:=Option.some.inj hy
  exact ⟨by rw [hga],fun _ _=>rfl⟩
 have r0:Rel' B ⟨entV 0 gs++List.replicate (fn.ntmps - gs.length) .undef,entO 0 gs⟩ Gs {tmps:=vs.toArray++Array.replicate (fn.ntmps - vs.toArray.size) Go.undef,defers:=[]} w:=by
  refine {len:=hlen,defs:=rfl,ok:= ?_,apart:= ?_,fresh:= ?_,tmps:= ?_,size:=by rw [hw0];exact Nat.le_refl _,frame:=by rw [hw0];exact fun _ _ _=>rfl,base:= ?_,same:=by rw [hw0];exact Same.rfl}
  ·intro i ob g hl _
   obtain ⟨_,_,_,f',h1,h2,h3,h4⟩:=hobj _ _ _ hl
   exact ⟨f',h4 _ kE fc,h1,fun b hb=>(h2 b).2 hb⟩
  ·intro i j oi oj gi gj b hi hj _ _ hfi hfj
   exact hap _ _ _ _ _ _ b hi hj hfi hfj
  ·intro i ob g b hl _ hF
   obtain ⟨_,_,_,f',_,h2,h3,_⟩:=hobj _ _ _ hl
   have:=h3 _ ((h2 _).1 hF)
   exact ⟨.inl ((hO0 b).2 this),(hab b this).2⟩
  ·have h2:∀n,Rc w (env B (entO 0 gs) Gs w) (List.replicate n .undef) (List.replicate n Go.undef) []:=by
    intro n
    induction n with
    |zero=>simp [Rc]
    |succ n ih=>simp only [List.replicate_succ,Rc];exact ⟨[],[],by simp [R],ih,rfl⟩
   have:=Rc_append (hdone _ kE fc) (h2 (fn.ntmps - gs.length))
   simpa [hvl] using this
  ·intro b hb
   rw [hw0];exact (hA0 b).1 hb
 refine calls_of_wp hf hb (wp_mono (awp_sound hm c _ _ h _ _ ⟨_,r0⟩) fun e a w' he=> ?_)
 obtain ⟨s,⟨he,ys,hys,hok,hres,hcl,hlo,hun⟩,G,r⟩:=he
 obtain ⟨u,hrun,hR⟩:=run_results r hys
 have hun':=List.nodup_append.1 hun
 obtain ⟨fp,k1,k2,k3⟩:=R_res r _ u hok hun'.2.1 hR
 rw [hres] at k1
 have hpin0:pinned (fun i=>Gs[i]?) 0 gs vs caps:=by simpa using hpin [] rfl
 obtain ⟨fss',q1,q2,q3⟩:=lends_out r hp0 gs vs caps 0 0 hpin0 hlo hun'.1
 have hin:∀b∈fss'.flatten++fp,(b∈fss.flatten∨w.heap.size≤b)∧b < w'.heap.size:=by
  intro b hb
  have:∃i ob g,look s.o G i ob g∧ob.live=true∧g.F b:=by
   rcases List.mem_append.1 hb with hb|hb
   ·obtain ⟨i,ob,g,_,h⟩:=q3 b hb;exact ⟨i,ob,g,h⟩
   ·obtain ⟨i,ob,g,_,h⟩:=k3 b hb;exact ⟨i,ob,g,h⟩
  obtain ⟨i,ob,g,hl,hlive,hF⟩:=this
  have:=r.fresh _ _ _ b hl hlive hF
  rw [hw0,hO0] at this
  exact this
 have hfin:∃v fp fss',Ending.returned u= .returned v∧R w' envNone rr v fp∧RPs w' gs vs fss' caps∧(fss'.flatten++fp).Nodup∧
   (∀b∈fss'.flatten++fp,(b∈fss.flatten∨w.heap.size≤b)∧b < w'.heap.size)∧w.heap.size≤w'.heap.size∧(∀b,b < w.heap.size→b∉fss.flatten→w'.heap[b]? =w.heap[b]?)∧Same w w':=by
  refine ⟨u,fp,fss',rfl,R_clean (E:=(env B s.o G w').plain) (fun _ _=>trivial) rfl rfl rfl _ _ _ hcl k1,q1,List.nodup_append.2 ⟨q2,k2,fun x hx y hy e=> ?_⟩,hin,by have:=r.size;rwa [hw0] at this,fun b hb hn=>by have:=r.frame b (by rw [hw0];exact hb) (fun h=>hn ((hO0 b).1 h));rwa [hw0] at this,by have:=r.same;rwa [hw0] at this⟩
  subst e
  exact Of_apart r (fun i hi j hj=>hun'.2.2 i hi j hj) (q3 x hx) (k3 x hy)
 rcases he with rfl|rfl
 ·exact ⟨r.defs,u,hrun,hfin⟩
 ·exact ⟨r.defs,u,hrun,hfin⟩
end Go.Aw

namespace Go.Aw
theorem entG {P:Program} [Tabs P] (hm:P.follows .mixedOrders=true) {f:FuncId} {fn:Func} {c:Code} (hf:P.funcs[f]? =some fn) {n:Nat} (hn:fn.ntmps=n) {gs:List GA} {t:List AV} {o:List AObj} {rr:AV}
  (h:awp P c ⟨t,o⟩ (fun e s=>(e= .normal∨e= .ret)∧HandsG P fn s gs rr)) (hb:fn.body=some c:=by rfl)
  (ho:entO 0 gs=o:=by
   simp only [entO,absorb_eq,absorbc_eq,absV,absVc,absO,absOc,absN,absNc,Nat.add_zero,Nat.zero_add,Nat.reduceAdd,List.cons_append,List.nil_append,List.append_nil,List.length_cons,List.length_nil];rfl)
  (ht:entV 0 gs++List.replicate (n - gs.length) .undef=t:=by
   simp only [entV,absorb_eq,absorbc_eq,absV,absVc,absO,absOc,absN,absNc,Nat.add_zero,Nat.zero_add,List.length_cons,List.length_nil,Nat.reduceSub,Nat.reduceAdd,List.replicate_succ,List.replicate_zero,List.cons_append,List.nil_append,List.append_nil];rfl):OkG P f gs rr:=by
 subst ht;subst hn;subst ho;exact okG_of_awp hm hf hb h
end Go.Aw

namespace Go.Aw
end Go.Aw

namespace Go.Aw
theorem weak_kill {t t':List AV} {o o':List AObj} (i:Nat) {ob:AObj} (ho:o[i]? =some ob) (ho':o.set i ⟨false,false,0,ob.ver,[]⟩=o') (hw:wk t t'):Weak ⟨t,o⟩ ⟨t',o'⟩:=by
 subst ho'
 rintro P _ B a w ⟨G,r⟩
 obtain ⟨g,hlk⟩:=r.look ho
 have hi:i < o.length:=(List.getElem?_eq_some_iff.1 ho).1
 have back:∀{j x y},look (o.set i ⟨false,false,0,ob.ver,[]⟩) G j x y→(j=i∧x=⟨false,false,0,ob.ver,[]⟩)∨(j≠i∧look o G j x y):=by
  intro j x y ⟨h1,h2⟩
  rw [List.getElem?_set] at h1
  by_cases hj:i=j
  ·subst hj
   rw [if_pos rfl,if_pos hi] at h1
   exact .inl ⟨rfl,(Option.some.inj h1).symm⟩
  ·rw [if_neg hj] at h1
   exact .inr ⟨fun h=>hj h.symm,h1,h2⟩
 have k:Keeps w (env B o G w) w (env B (o.set i ⟨false,false,0,ob.ver,[]⟩) G w):=
  env_keeps (Nat.le_refl _) (fun b hb=>⟨env_lt r hb,rfl⟩) r.len
   (fun j x y h=>by
    by_cases hj:j=i
    ·subst hj
     obtain ⟨rfl,rfl⟩:=look_inj hlk h
     exact ⟨⟨false,false,0,ob.ver,[]⟩,g,⟨by rw [List.getElem?_set];simp [hi],hlk.2⟩,Nat.le_refl _,(fun h=>by cases h),fun h=>by cases h⟩
    ·refine ⟨x,y,⟨by rw [List.getElem?_set,if_neg (fun e=>hj e.symm)];exact h.1,h.2⟩,Nat.le_refl _,fun h=> .inl h,fun hl=>⟨hl,rfl,fun _=>⟨rfl,rfl,rfl⟩,fun b h1 h2=>⟨h1,h2,rfl⟩⟩⟩)
   (fun j x y b h hl hf=>by
    rcases back h with ⟨_,rfl⟩|⟨_,h⟩
    ·cases hl
    ·exact .inr ⟨j,x,y,h,hl,hf⟩)
 refine ⟨G,{len:=by simp [r.len],defs:=r.defs,ok:= ?_,apart:= ?_,fresh:= ?_,tmps:=Rc_wk hw (Rc_keeps k _ _ _ (by simp) r.tmps),size:=r.size,frame:=r.frame,base:=r.base,same:=r.same}⟩
 ·intro j x y h hl
  rcases back h with ⟨_,rfl⟩|⟨_,h⟩
  ·cases hl
  ·exact (r.ok j x y h hl).keeps k (fun _ _=>rfl)
 ·intro j1 j2 x1 x2 y1 y2 z h1 h2 l1 l2 f1 f2
  rcases back h1 with ⟨_,rfl⟩|⟨_,h1⟩
  ·cases l1
  ·rcases back h2 with ⟨_,rfl⟩|⟨_,h2⟩
   ·cases l2
   ·exact r.apart _ _ _ _ _ _ z h1 h2 l1 l2 f1 f2
 ·intro j x y z h hl hf
  rcases back h with ⟨_,rfl⟩|⟨_,h⟩
  ·cases hl
  ·exact r.fresh _ _ _ z h hl hf
end Go.Aw
