/-
  Proved here: steps towards the statement of this claim, text QP3.
  No condition beyond what each statement spells out.
-/
import Derived.Test.YtaddkhdghlaalaaGreatDoorQR7
import Derived.Test.YtaddkhdghlaalaaGreatDoorF5
import Derived.Test.YtaddkhdghlaalaaGreatDoorQRLsd
import Derived.Test.YtaddkhdghlaalaaGreatDoorF8
import Derived.Test.YtaddkhdghlaalaaGreatDoorQT5
import Derived.Test.YtaddkhdghlaalaaGreatDoorF4
set_option linter.all false
set_option maxRecDepth 8000
set_option maxHeartbeats 8000000
namespace Go.Proofs.YtaddkhdghlaalaaGreatDoor
open Go.Aw
theorem aV8 (c:UInt8):∀s:Str,∀p∈bF c s,p.length≤s.length
 |[],p,h=>by
  simp only [bF,List.mem_singleton] at h;subst h;simp
 |x::s,p,h=>by
  have ih:=aV8 c s
  simp only [bF] at h
  split at h
  ·rcases List.mem_cons.1 h with rfl|h
   ·simp
   ·have:=ih p h;simp;omega
  ·split at h
   ·rename_i h0;exact absurd h0 (pR c s)
   ·rename_i q r h0
    rw [h0] at ih
    rcases List.mem_cons.1 h with rfl|h
    ·have:=ih q (by simp);simp;omega
    ·have:=ih p (by simp [h]);simp;omega
def gH (s:Str):List iG×Bool:=
 if s=[] then ([],true) else if ((bF 59 s).all fun p=>(eF p).2)=true∧(bF 59 s).length≤6 then ((bF 59 s).map fun p=>(eF p).1,true) else ([],false)
theorem aXg {s:Str} {k:Nat} (h0:s≠[]) (hk:k < (bF 59 s).length) (h:(eF (bF 59 s)[k]).2=false):gH s=([],false):=by
 unfold gH
 rw [if_neg h0,if_neg]
 rintro ⟨h1,_⟩
 have:=List.all_eq_true.1 h1 _ (List.getElem_mem hk)
 rw [h] at this;cases this
theorem aU4 {s:Str} (h0:s≠[]) (h:6 < (bF 59 s).length):gH s=([],false):=by
 unfold gH
 rw [if_neg h0,if_neg]
 rintro ⟨_,h1⟩
 omega
theorem aU7 {s:Str} (h0:s≠[]) (h1:∀p∈bF 59 s,(eF p).2=true) (h2:(bF 59 s).length≤6):gH s=((bF 59 s).map fun p=>(eF p).1,true):=by
 unfold gH
 rw [if_neg h0,if_pos ⟨List.all_eq_true.2 h1,h2⟩]
theorem bAa {l:List Str} {k:Nat} (hk:k < l.length) (h:∀p∈l.take k,(eF p).2=true) (h1:(eF l[k]).2=true):∀p∈l.take (k+1),(eF p).2=true:=by
 intro p hp
 rw [List.take_succ_eq_append_getElem hk] at hp
 rcases List.mem_append.1 hp with hp|hp
 ·exact h p hp
 ·rw [List.mem_singleton.1 hp];exact h1
theorem bC7 {α β:Type} (f:α→β) (l:List α) (k:Nat) (h:k < l.length):(l.take (k+1)).map f=(l.take k).map f++[f l[k]]:=by
 rw [List.take_succ_eq_append_getElem h,List.map_append];rfl
def eSp (p:Str):List AV:=mM (eF p).1
theorem bF0 (l:List Str):(l.map fun p=>(eF p).1).map mM=l.map eSp:=by rw [List.map_map];rfl
theorem zR [aB Tryz.prog] [dB Tryz.prog] (s:Str) (hl:s.length≤1073741824):Ok Tryz.prog 171 [.str s] (.tup [.sl .own 2 ((gH s).1.map mM),.bool (gH s).2]):=by
 by_cases h0:s=[]
 ·subst h0
  have hr:gH []=([],true):=rfl
  rw [hr]
  refine ent Tryz.mix Tryz.func171 Tryz.ntmps171 ?_
  refine aW ?_
  exact aM Tryz.results171
 ·have cS:Ok Tryz.prog 65 [.str s,.int .u8 59] (.sl .own 1 ((bF 59 s).map bX)):=sO s 59 (by omega)
  have hb0:(s == ([]:Str))=false:=by simp [h0]
  have hle:=aV8 59 s
  have hn:=jO 59 s
  have hcn:s.count 59≤s.length:=List.count_le_length
  have hb:=fun k hk=>aXg (k:=k) h0 hk
  have hlg:=aU4 h0
  have hgd:=aU7 h0
  have hne:=pR 59 s
  generalize bF 59 s=l at *
  have hll:l.length≤1073741825:=by omega
  have hl0:0 < l.length:=List.length_pos_iff.2 hne
  generalize gH s=g at *
  refine ent Tryz.mix Tryz.func171 Tryz.ntmps171 ?_
  have W:=And.intro h0 hb0
  refine we ?_
  refine aR (ι:={q:Nat×Nat // (q.1≤l.length∧1≤q.2)∧(∀p∈l.take q.1,(eF p).2=true)∧(0 < q.1→l.length≤6)}) (fun t o i=>⟨aS t [(6,.int .i64 i.1.1),(4,.obj 0 i.1.2),(7,.undef),(8,.undef)],[⟨true,false,2,i.1.2,(l.take i.1.1).map eSp⟩]++o.drop 1⟩)
   (fun i=>l.length - i.1.1) ⟨(0,1),by simp,by simp,by simp⟩ aO ?_
  rintro ⟨⟨k,v⟩,⟨hk,hv⟩,hgood,hsix⟩ K1 hK1
  simp only at hk hv hgood hsix
  simp only [aS,List.set_cons_succ,List.set_cons_zero,List.drop_succ_cons,List.drop_zero,List.cons_append,List.nil_append] at hK1⊢
  have hk1:=wk1 (k:=k) (by omega)
  by_cases hlt:k < l.length
  ·have hg:=List.getElem?_eq_getElem hlt
   have c1:=aY9 l[k] (by have:=hle _ (List.getElem_mem hlt);omega)
   have hps:=bC7 eSp l k hlt
   have hx:eSp l[k]=mM (eF l[k]).1:=rfl
   have hgl:((l.take k).map eSp).length=k:=by simp;omega
   have hbk:=hb k hlt
   have hgk:=bAa hlt hgood
   simp only [mM] at c1
   generalize (l.take k).map eSp=rows at *
   generalize eF l[k]=x at *
   obtain ⟨x,ok⟩:=x
   simp only [mM] at c1 hbk hgk hps hx
   rw [hx] at hps
   cases ok with
   |false=>
    have hr:=hbk rfl
    subst hr
    have W:=And.intro hk1 (And.intro hg hlt)
    refine we ?_
    exact aM Tryz.results171
   |true=>
    by_cases h6:6 < l.length
    ·have hr:=hlg h6
     subst hr
     have h6i:(6:Int) < (l.length:Int):=by omega
     have W:=And.intro hk1 (And.intro hg (And.intro hlt h6i))
     refine we ?_
     exact aM Tryz.results171
    ·have h6i:¬(6:Int) < (l.length:Int):=by omega
     have W:=And.intro hk1 (And.intro hg (And.intro hlt (And.intro hgl h6i)))
     refine we ?_
     all_goals exact hK1 _ ⟨(k+1,v+1),⟨by simp only;omega,by simp only;omega⟩,hgk rfl,fun _=>by omega⟩ (aN 2 (by simp [hps])) (by simp only;omega)
  ·have htk:l.take k=l:=List.take_of_length_le (by omega)
   rw [htk] at hgood⊢
   have hr:=hgd hgood (hsix (by omega))
   subst hr
   simp only [bF0]
   have W:=hk1
   refine we ?_
   all_goals (try (refine ⟨.inr rfl,?_⟩;simp [Hands,Tryz.results171]))
   all_goals exact dQ _ (by intro x;rfl) l
def iL (l:List Str) (s:Str):List Str:=if l.length < 40 then l++[s] else l
def pOs (q:aC):List aA:=[⟨true,false,1,1,q.policy.scripts.map bX⟩,⟨true,false,1,1,q.policy.styles.map bX⟩,⟨true,false,1,1,q.policy.images.map bX⟩,⟨true,false,4,1,q.queue.map (bL .own)⟩,⟨true,false,4,1,q.builder.nodes.map (dY .own)⟩,⟨true,false,1,1,q.builder.opens.map jI⟩,⟨true,false,8,1,q.slots.map oG⟩,⟨true,false,5,1,q.mods.map jB⟩,⟨true,false,2,1,q.entries.map aF⟩,⟨true,false,2,1,q.ran.map aF⟩,⟨true,false,1,1,q.log.map bX⟩]
def pCs (b:Nat) (q:aC):List AV:=[.str q.addr.host,.str q.addr.path,.bool q.policy.isSet,.obj b 1,.obj (b+1) 1,.obj (b+2) 1,.str q.policy.nonce,.str q.tok.rest,.obj (b+3) 1,.bool q.ended,.obj (b+4) 1,.obj (b+5) 1,.obj (b+6) 1,.obj (b+7) 1,.obj (b+8) 1,.int .i64 q.block,.int .i64 q.inline,.int .i64 q.deferred,.int .i64 q.entered,.obj (b+9) 1,.obj (b+10) 1,.bool q.loaded]
def jG (l ss:List Str):List Str:=ss.foldl iL l
theorem aIy (l ss:List Str) (k:Nat) (h:k < ss.length):jG l (ss.take (k+1))=iL (jG l (ss.take k)) ss[k]:=by
 unfold jG
 rw [List.take_succ_eq_append_getElem h,List.foldl_append];rfl
theorem aKz (l:List Str):∀ss:List Str,(jG l ss).length≤l.length+ss.length:=by
 intro ss
 induction ss generalizing l with
 |nil=>simp [jG]
 |cons s ss ih=>
  have h1:(iL l s).length≤l.length+1:=by unfold iL;split<;>simp
  have h2:=ih (iL l s)
  have e:jG l (s::ss)=jG (iL l s) ss:=rfl
  rw [e];simp only [List.length_cons];omega
def jZ (p:aC) (l:List iG) (w:Bool):aC:=
 {p with builder:=(fC p.builder (dM p) l).1,log:=jG p.log (fC p.builder (dM p) l).2.2,queue:=if w=true then gP (fC p.builder (dM p) l).2.1++p.queue else p.queue}
theorem aN2 {α:Type} {f:α→Option Int} {l:List α} {k:Nat} {v:Int} (h:look f l k=some v):∃x∈l,f x=some v:=by
 unfold look at h
 obtain ⟨x,hx,hv⟩:=List.exists_of_findSome?_eq_some h
 exact ⟨x,List.mem_of_mem_take (List.mem_reverse.1 hx),hv⟩
theorem aXr {q:Str} {r:xE} (h:oQ q=some r):1≤r.color∧r.color≤999:=by
 unfold oQ at h
 split at h
 ·split at h
  ·rename_i hc
   obtain rfl:=Option.some.inj h
   exact hc.2
  ·cases h
 ·cases h
theorem wI (p:aC) (n:Str):0≤cB (dM p) n∧cB (dM p) n≤999:=by
 unfold cB
 cases h:look (aAc n) (dM p) (dM p).length with
 |none=>simp
 |some v=>
  obtain ⟨s,hs,hv⟩:=aN2 h
  unfold aAc at hv
  obtain ⟨r,hr,hrv⟩:=aN2 hv
  unfold aH7 at hrv
  split at hrv
  ·obtain rfl:=Option.some.inj hrv
   unfold dM mI at hs
   obtain ⟨y,_,rfl⟩:=List.mem_map.1 hs
   have h1:=List.mem_of_mem_take hr
   obtain ⟨q,_,hq⟩:=List.mem_filterMap.1 h1
   have:=aXr hq
   simp only [Option.getD_some]
   omega
  ·cases hrv
theorem aFo (p:aC):(dM p).length≤p.slots.length∧∀x∈dM p,x.rules.length≤8:=by
 refine ⟨aF5 _,?_⟩
 intro x hx
 unfold dM mI at hx
 obtain ⟨y,_,rfl⟩:=List.mem_map.1 hx
 exact bCb (bF 59 y.body)
theorem bDn {s:Str} (h:bU s=true):s.length≤8:=by
 simp only [bU,Bool.and_eq_true,decide_eq_true_eq] at h
 omega
theorem xK {s:Str} {op:Nat} {v:iG×Bool} (h:gZ s op=some v) (hb:v.2=true):v.1.text.length≤60:=by
 unfold gZ at h
 split at h
 ·obtain rfl:=Option.some.inj h
  simp only at hb⊢
  unfold jQ at hb
  split at hb
  ·simpa using hb
  ·have:=bDn hb
   omega
 ·cases h
theorem aK8 {α:Type} {a b:Option α} {v:α} (h:a.or b=some v):a=some v∨b=some v:=by
 cases a with
 |none=>exact .inr (by simpa using h)
 |some x=>exact .inl (by simpa using h)
theorem aQc (p:Str) (h:(eF p).2=true):(eF p).1.text.length≤60:=by
 unfold eF at h⊢
 cases hv:((((gZ p 1).or (gZ p 2)).or (gZ p 3)).or (gZ p 4)).or (gZ p 5) with
 |none=>simp
 |some v=>
  rw [hv] at h
  simp only [Option.getD_some] at h⊢
  rcases aK8 hv with hv|hv
  ·rcases aK8 hv with hv|hv
   ·rcases aK8 hv with hv|hv
    ·rcases aK8 hv with hv|hv
     ·exact xK hv h
     ·exact xK hv h
    ·exact xK hv h
   ·exact xK hv h
  ·exact xK hv h
theorem aAi (s:Str):(gH s).1.length≤6∧∀x∈(gH s).1,x.text.length≤60:=by
 unfold gH
 split
 ·simp
 ·split
  ·rename_i h
   refine ⟨by simpa using h.2,?_⟩
   intro x hx
   obtain ⟨p,hp,rfl⟩:=List.mem_map.1 hx
   exact aQc p (List.all_eq_true.1 h.1 p hp)
  ·simp
def aLh:Str:=[101,114,114,111,114]
def kY (p:aC) (code:Str) (w:Bool):aC:=
 if (gH code).2=true then jZ p (gH code).1 w else {p with log:=iL p.log aLh}
theorem aIv (l:List Str) (h:¬l.length < 40):∀ss:List Str,jG l ss=l
 |[]=>rfl
 |s::ss=>by
  show jG (iL l s) ss=l
  have:iL l s=l:=by unfold iL;rw [if_neg h]
  rw [this];exact aIv l h ss
theorem aVf (l ss:List Str) (k:Nat) (h:¬(jG l (ss.take k)).length < 40):jG l (ss.take k)=jG l ss:=by
 have e:jG l ss=jG (jG l (ss.take k)) (ss.drop k):=by
  unfold jG;rw [←List.foldl_append,List.take_append_drop]
 rw [e,aIv _ h]
theorem yK [aB Tryz.prog] [dB Tryz.prog] (p:aC) (code:Str) (w:Bool) (hs:aJ p≤67108864) (hc:code.length≤1073741824):Ok Tryz.prog 141 [.agg (aG .view p),.str code,.bool w] (.agg (aG .own (kY p code w))):=by
 have c1:=fH p (by omega)
 have c2:=zR code hc
 have hlg:p.log.length≤67108864:=by simp only [aJ,szL] at hs;omega
 obtain ⟨b1,b2⟩:=aAi code
 unfold kY
 generalize gH code=g at *
 obtain ⟨l,ok⟩:=g
 simp only at c2 b1 b2⊢
 cases ok
 ·rw [if_neg (by simp)]
  simp only [aG,aLh] at c1⊢
  clear b1 b2
  by_cases h:p.log.length < 40
  ·have hi:(p.log.length:Int) < 40:=by omega
   obtain ⟨l1,hl1⟩:∃l1,l1=p.log++[[101,114,114,111,114]]:=⟨_,rfl⟩
   have hap:p.log.map bX++[[.str [101,114,114,111,114]]]=l1.map bX:=by rw [hl1];simp
   have e:iL p.log [101,114,114,111,114]=l1:=by unfold iL;rw [if_pos h,hl1]
   rw [e]
   clear e hl1
   refine ent Tryz.mix Tryz.func141 Tryz.ntmps141 ?_
   have W:=And.intro hi (And.intro hap hlg)
   refine wl ?_
   exact aM Tryz.results141
  ·have hi:¬(p.log.length:Int) < 40:=by omega
   have e:iL p.log [101,114,114,111,114]=p.log:=by unfold iL;rw [if_neg h]
   rw [e]
   clear e
   refine ent Tryz.mix Tryz.func141 Tryz.ntmps141 ?_
   have W:=hi
   refine wl ?_
   exact aM Tryz.results141
 rw [if_pos rfl]
 have hsl:szL kH p.slots≤1073741824:=by simp only [aJ,szL] at *;omega
 have hsb:aU p.builder≤67108864:=by simp only [aJ] at hs;omega
 have hqu:p.queue.length≤67108864:=by simp only [aJ,szL] at hs;omega
 have c3:=aCb p hsl
 obtain ⟨hb1,hb2⟩:=aFo p
 have hb1':(dM p).length≤67108864:=by simp only [aJ,szL] at hs;omega
 have c4:=aA9 p.builder (dM p) l (by omega) b1 (fun x hm=>by have:=b2 x hm;omega) (by omega) (fun x hm=>by have:=hb2 x hm;omega) (wI p)
 obtain ⟨z1,z2,z3,z4⟩:=aBd 60 p.builder (dM p) l (by omega) b1 b2 (wI p) (by omega) l.length (Nat.le_refl _)
 have hend:nL p.builder (dM p) l l.length=fC p.builder (dM p) l:=by simp [nL]
 rw [hend] at z1 z2 z3 z4
 have c5:=xD (fC p.builder (dM p) l).2.1 (by omega)
 obtain ⟨y1,y2⟩:=zN (fC p.builder (dM p) l).2.1
 unfold jZ
 clear hb2 b2 hend
 generalize dM p=ss at *
 generalize fC p.builder ss l=g at *
 obtain ⟨b,wr,lg⟩:=g
 simp only at c4 c5 z1 z2 z3 z4 y1 y2⊢
 generalize gP wr=tk at *
 simp only [aG,aZ] at c1 c3 c4
 refine ent Tryz.mix Tryz.func141 Tryz.ntmps141 ?_
 refine bA ?_
 obtain ⟨Q,hQ⟩:∃Q:Nat→List Str,∀k,Q k=jG p.log (lg.take k):=⟨_,fun _=>rfl⟩
 have hQ0:Q 0=p.log:=by rw [hQ];rfl
 have hQn:∀k,(¬k < lg.length∨¬(Q k).length < 40)→jG p.log lg=Q k:=fun k h=>by
  rw [hQ] at h⊢
  rcases h with h|h
  ·rw [List.take_of_length_le (by omega)]
  ·rw [aVf _ _ _ h]
 have hQl:∀k,(Q k).length≤67108870:=fun k=>by
  rw [hQ];have:=aKz p.log (lg.take k);simp only [List.length_take] at this⊢;omega
 have hQs:∀k (h:k < lg.length),(Q k).length < 40→Q (k+1)=Q k++[lg[k]]:=fun k h h4=>by
  rw [hQ,aIy _ _ _ h,←hQ];unfold iL;rw [if_pos h4]
 refine aR (ι:={q:Nat×Nat // q.1≤lg.length∧1≤q.2}) (fun t o i=>⟨aS t [(13,.int .i64 i.1.1),(15,.undef)],o.take 12++[⟨true,false,1,i.1.2,(Q i.1.1).map bX⟩,⟨true,true,22,0,[[.str p.addr.host,.str p.addr.path,.bool p.policy.isSet,.obj 2 1,.obj 3 1,.obj 4 1,.str p.policy.nonce,.str p.tok.rest,.obj 5 1,.bool p.ended,.obj 17 1,.obj 18 1,.obj 8 1,.obj 9 1,.obj 10 1,.int .i64 p.block,.int .i64 p.inline,.int .i64 p.deferred,.int .i64 p.entered,.obj 11 1,.obj 12 i.1.2,.bool p.loaded]]⟩]++o.drop 14⟩)
  (fun i=>lg.length - i.1.1) ⟨(0,1),by simp,by simp⟩ (aO (by simp [hQ0]) (by simp)) ?_
 rintro ⟨⟨k,v⟩,hk,hv⟩ K1 hK1
 simp only at hk hv
 simp only [aS,List.set_cons_succ,List.set_cons_zero,List.take_succ_cons,List.take_zero,List.drop_succ_cons,List.drop_zero,List.cons_append,List.nil_append] at hK1⊢
 have hk1:=wk1 (k:=k) (by omega)
 have hl1:=hQl k
 have hend2:=hQn k
 have hstep:=hQs k
 clear hQn hQl hQs hQ0 hQ
 by_cases hgo:k < lg.length∧(Q k).length < 40
 ·obtain ⟨hlt,h40⟩:=hgo
  have hg:=List.getElem?_eq_getElem hlt
  have hnext:=hstep hlt h40
  have h40':((Q k).length:Int) < 40:=by omega
  clear hstep hend2
  generalize hqk:Q k=q at *
  have W:=And.intro hk1 (And.intro hg (And.intro hlt (And.intro h40' hl1)))
  refine wl ?_
  all_goals refine hK1 _ ⟨(k+1,v+1),by simp only;omega,by simp only;omega⟩ (aN 20 ?_ (by simp) (by simp) (by simp [eO])) (by simp only;omega)
  all_goals simp [hnext]
 ·have hfin:=hend2 (by omega)
  have hcase:¬k < lg.length∨(k < lg.length∧¬((Q k).length:Int) < 40):=by omega
  rw [hfin]
  clear hstep hend2 hK1 hgo hfin
  generalize Q k=q at *
  have hbq:(tk.length+p.queue.length) * 64≤140737488355328:=by omega
  rcases hcase with hlt|⟨hlt,h40⟩
  ·cases w
   ·have W:=And.intro hk1 hlt
    refine wl ?_
    exact aM Tryz.results141
   ·rw [if_pos rfl]
    have W:=And.intro hk1 (And.intro hbq hlt)
    refine wl ?_
    all_goals (try (refine ⟨.inr rfl,?_⟩;simp [Hands,Tryz.results141]))
    all_goals (rw [←List.map_append];exact pX _)
  ·cases w
   ·have W:=And.intro hk1 (And.intro hlt h40)
    refine wl ?_
    exact aM Tryz.results141
   ·rw [if_pos rfl]
    have W:=And.intro hk1 (And.intro hbq (And.intro hlt h40))
    refine wl ?_
    all_goals (try (refine ⟨.inr rfl,?_⟩;simp [Hands,Tryz.results141]))
    all_goals (rw [←List.map_append];exact pX _)
theorem gV {α:Type} (f:α→Nat):∀a b:List α,aK f (a++b)=aK f a+aK f b
 |[],b=>by simp [aK]
 |x::xs,b=>by simp only [List.cons_append,aK,gV f xs b];omega
end Go.Proofs.YtaddkhdghlaalaaGreatDoor
