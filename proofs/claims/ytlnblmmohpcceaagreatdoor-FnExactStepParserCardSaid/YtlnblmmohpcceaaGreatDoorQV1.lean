/-
  Proved here: steps towards the statement of this claim, text QV1.
  No condition beyond what each statement spells out.
-/
import Derived.Test.YtlnblmmohpcceaaGreatDoorQU5
import Derived.Test.YtlnblmmohpcceaaGreatDoorQMK6
import Derived.Test.YtlnblmmohpcceaaGreatDoorF4
set_option linter.all false
set_option maxRecDepth 4000
set_option maxHeartbeats 4000000
namespace Go.Proofs.YtlnblmmohpcceaaGreatDoor
open Go.Aw
theorem aNm [aA Tryz.prog] (a:aJ) (hs:aD a≤1048576):Ok Tryz.prog 18 [.agg (aG .view a)] (.agg (aG .own a)):=by
 simp only [aD] at hs
 refine ent Tryz.mix Tryz.func18 Tryz.ntmps18 ?_
 have W:=trivial
 repeat' first|refine wl ?_|(refine nx ?_;first|refine sk (hc:=aB5 a.addr (by omega)) (h:=?_)|refine sk (hc:=aU4 a.policy (by omega)) (h:=?_)|refine sk (hc:=aLj a.tok (by omega)) (h:=?_)|refine sk (hc:=aT2 a.queue (by omega)) (h:=?_)|refine sk (hc:=aTq a.builder (by omega)) (h:=?_)|refine sk (hc:=aX9 a.slots (by omega)) (h:=?_)|refine sk (hc:=aQ9 a.mods (by omega)) (h:=?_)|refine sk (hc:=aJc a.entries (by omega)) (h:=?_)|refine sk (hc:=aJc a.ran (by omega)) (h:=?_)|refine sk (hc:=wW a.log (by omega)) (h:=?_))|(refine sq (fun hc=>?_) (fun hc=>?_)<;>try exact hc.elim)|fail
 all_goals (try (refine ⟨.inr rfl,?_⟩;simp [Hands,Tryz.results18]))
theorem aN7 [aA Tryz.prog] (a:aJ) (n:Int) (h0:0≤n) (h1:n≤1048576) (hw:aFn a):Ok Tryz.prog 16 [.agg (aG .view a),.int .i64 n] (.int .i64 (sub n (aD a))):=by
 simp only [aFn] at hw
 obtain ⟨waddr,wpolicy,wtok,wqueue,wbuilder,wslots,wmods,wentries,wran,wlog⟩:=hw
 refine ent Tryz.mix Tryz.func16 Tryz.ntmps16 ?_
 have W:=trivial
 repeat' first|refine wl ?_|(refine nx ?_;first|refine sk (hc:=aBr a.addr _ (by omega) (by repeat' (first|omega|apply jA|apply gU)) waddr) (h:=?_)|refine sk (hc:=aTy a.policy _ (by omega) (by repeat' (first|omega|apply jA|apply gU)) wpolicy) (h:=?_)|refine sk (hc:=aLn a.tok _ (by omega) (by repeat' (first|omega|apply jA|apply gU)) wtok) (h:=?_)|refine sk (hc:=aUp a.queue _ (by omega) (by repeat' (first|omega|apply jA|apply gU)) wqueue) (h:=?_)|refine sk (hc:=aQr a.builder _ (by omega) (by repeat' (first|omega|apply jA|apply gU)) wbuilder) (h:=?_)|refine sk (hc:=aWs a.slots _ (by omega) (by repeat' (first|omega|apply jA|apply gU)) wslots) (h:=?_)|refine sk (hc:=aSg a.mods _ (by omega) (by repeat' (first|omega|apply jA|apply gU)) wmods) (h:=?_)|refine sk (hc:=aJ8 a.entries _ (by omega) (by repeat' (first|omega|apply jA|apply gU)) wentries) (h:=?_)|refine sk (hc:=aJ8 a.ran _ (by omega) (by repeat' (first|omega|apply jA|apply gU)) wran) (h:=?_)|refine sk (hc:=wG a.log _ (by omega) (by repeat' (first|omega|apply jA|apply gU)) wlog) (h:=?_))|(refine sq (fun hc=>?_) (fun hc=>?_)<;>try exact hc.elim)|fail
 all_goals (try (refine ⟨.inr rfl,?_⟩;simp [Hands,Tryz.results16,aD]))
 all_goals (
  (try generalize e0:sub n (aR a.addr)=m0 at *)
  (try (first|have f0:=iX e0 (by omega)|have f0:=gV e0 (by omega) (by omega)))
  (try generalize e1:sub m0 (gL a.policy)=m1 at *)
  (try (first|have f1:=iX e1 (by omega)|have f1:=gV e1 (by omega) (by omega)))
  (try generalize e2:sub m1 (nU a.tok)=m2 at *)
  (try (first|have f2:=iX e2 (by omega)|have f2:=gV e2 (by omega) (by omega)))
  (try generalize e3:sub m2 (szL aV a.queue)=m3 at *)
  (try (first|have f3:=iX e3 (by omega)|have f3:=gV e3 (by omega) (by omega)))
  (try generalize e4:sub m3 (aI a.builder)=m4 at *)
  (try (first|have f4:=iX e4 (by omega)|have f4:=gV e4 (by omega) (by omega)))
  (try generalize e5:sub m4 (szL fG a.slots)=m5 at *)
  (try (first|have f5:=iX e5 (by omega)|have f5:=gV e5 (by omega) (by omega)))
  (try generalize e6:sub m5 (szL aZ a.mods)=m6 at *)
  (try (first|have f6:=iX e6 (by omega)|have f6:=gV e6 (by omega) (by omega)))
  (try generalize e7:sub m6 (szL aR a.entries)=m7 at *)
  (try (first|have f7:=iX e7 (by omega)|have f7:=gV e7 (by omega) (by omega)))
  (try generalize e8:sub m7 (szL aR a.ran)=m8 at *)
  (try (first|have f8:=iX e8 (by omega)|have f8:=gV e8 (by omega) (by omega)))
  (try generalize e9:sub m8 (szL cB a.log)=m9 at *)
  (try (first|have f9:=iX e9 (by omega)|have f9:=gV e9 (by omega) (by omega)))
  repeat (simp (disch:=omega) only [wrap64] at *)
  (try simp only [sub]);(try split);all_goals omega)
theorem aBq [aA Tryz.prog] (a b:aJ) (hs:aD a≤1099511627776):Ok Tryz.prog 20 [.agg (aG .view a),.agg (aG .view b)] (.bool (decide (a=b))):=by
 simp only [aD] at hs
 refine ent Tryz.mix Tryz.func20 Tryz.ntmps20 ?_
 have W:=trivial
 repeat' first|refine wl ?_|(refine nx ?_;first|refine sk (hc:=aB4 a.addr b.addr (by omega)) (h:=?_)|refine sk (hc:=aVd a.policy b.policy (by omega)) (h:=?_)|refine sk (hc:=aMj a.tok b.tok (by omega)) (h:=?_)|refine sk (hc:=aUv a.queue b.queue (by omega)) (h:=?_)|refine sk (hc:=aQ5 a.builder b.builder (by omega)) (h:=?_)|refine sk (hc:=aXf a.slots b.slots (by omega)) (h:=?_)|refine sk (hc:=aR8 a.mods b.mods (by omega)) (h:=?_)|refine sk (hc:=aKo a.entries b.entries (by omega)) (h:=?_)|refine sk (hc:=aKo a.ran b.ran (by omega)) (h:=?_)|refine sk (hc:=wC a.log b.log (by omega)) (h:=?_))|(refine sq (fun hc=>?_) (fun hc=>?_)<;>try exact hc.elim)|fail
 all_goals (try (refine ⟨.inr rfl,?_⟩;simp [Hands,Tryz.results20]))
 all_goals ((repeat clear hK K);cases a;cases b;simp_all)
theorem iN [aA Tryz.prog] (k:Int) (hk:k≤4611686018427387904):Ok Tryz.prog 178 [.int .i64 k] (.str (markT k)):=by
 refine ent Tryz.mix Tryz.func178 Tryz.ntmps178 ?_
 have W:=trivial
 repeat' first|refine wl ?_|(refine sq (fun hc=>?_) (fun hc=>?_)<;>try exact hc.elim)|fail
 ·all_goals (try (refine ⟨.inr rfl,?_⟩;simp [Hands,Tryz.results178]))
  all_goals (simp [markT];omega)
 ·refine aM (ι:={p:Nat×Int×Str // 0≤p.2.1∧p.2.1 < 10 ^ p.1∧p.2.1≤4611686018427387904∧digits p.1 p.2.1 p.2.2=digits 20 k []∧p.2.2.length≤40 - p.1∧p.1≤20}) (fun t o i=>⟨aO t [(0,.int .i64 i.1.2.1),(3,.str i.1.2.2)],[]⟩)
   (fun i=>i.1.1) ⟨(20,k,[]),by simp only;omega,by simp only;omega,hk,rfl,by simp,by simp⟩ (aH (by simp) (by simp)) ?_
  rintro ⟨⟨f,n,out⟩,h0,hf,hn,hd,hl,hf2⟩ K1 hK1
  simp only at h0 hf hn hd hl hf2
  simp only [aO,List.set_cons_succ,List.set_cons_zero] at hK1⊢
  have ht:n.tdiv 10=n / 10:=Int.tdiv_eq_ediv_of_nonneg h0
  have hw:IntKind.i64.wrap (n.tdiv 10)=n.tdiv 10:=by rw [wrap64]<;>omega
  have h63:1+out.length≤9223372036854775807:=by omega
  by_cases hpos:0 < n
  ·cases f with
   |zero=>exfalso;simp at hf;omega
   |succ f=>
    have W:=And.intro hw (And.intro h63 hpos)
    repeat' first|refine wl ?_|(refine sq (fun hc=>?_) (fun hc=>?_)<;>try exact hc.elim)|fail
    refine hK1 _ ⟨(f,n.tdiv 10,digit n::out),by simp only;omega,?_,by simp only;omega,?_,by simp only [List.length_cons];omega,by simp only;omega⟩ (aQ 0 rfl (by simp [digit]) (by simp) (by simp)) (by simp)
    ·simp only [Int.pow_succ] at hf⊢;omega
    ·rw [←hd];simp only [digits];rw [if_neg (by omega)]
  ·have:n=0:=by omega
   subst this
   rw [aWz _ _ _ (by omega)] at hd
   have h64:1+out.length≤9223372036854775807:=by omega
   have W:=h64
   repeat' first|refine wl ?_|(refine sq (fun hc=>?_) (fun hc=>?_)<;>try exact hc.elim)|fail
   all_goals (try (refine ⟨.inr rfl,?_⟩;simp [Hands,Tryz.results178]))
   all_goals (rw [hd];simp [markT];omega)
theorem aT8 [aA Tryz.prog] (l:List Int) (k:Int) (h0:0≤k) (hl:k+(aC (fun _=>1) l:Nat)≤4611686018427387000) (hll:l.length≤4611686018427387904):OkM Tryz.prog 181 (.sl .own 1 (l.map dV)) (.sl .own 1 ((mkL xC (fun _=>1) k l).map dV)) [.int .i64 k] (.int .i64 (k+(aC (fun _=>1) l:Nat))):=by
 generalize hu:(mkL xC (fun _=>1) k l).map dV=l'
 have hul:l'.length=(l.map dV).length:=by rw [←hu];simp [dS]
 refine aAp Tryz.mix Tryz.func181 Tryz.ntmps181 ?_
 have W:=trivial
 repeat' first|refine wl ?_|(refine sq (fun hc=>?_) (fun hc=>?_)<;>try exact hc.elim)|fail
 refine aM (ι:={j:Nat // j≤l.length}) (fun t o i=>⟨aO t [(1,.int .i64 (k+(aC (fun _=>1) (l.take i.1):Nat))),(5,.int .i64 i.1)],[⟨true,false,1,0,iM (l.map dV) l' i.1⟩]⟩)
  (fun i=>l.length - i.1) ⟨0,by simp⟩ (aH (by simp [qQ]) (by simp [aC])) ?_
 rintro ⟨j,hj⟩ K1 hK1
 simp only [aO,List.set_cons_succ,List.set_cons_zero] at hK1⊢
 have hj1:IntKind.i64.wrap ((j:Int)+1)=((j+1:Nat):Int):=by rw [wrap64]<;>omega
 have hml:(iM (l.map dV) l' j).length=l.length:=by rw [nT _ _ _ hul];simp
 have hle:=dC (fun _=>1) l (j+1)
 by_cases hlt:j < l.length
 ·have hts:=bT (fun _=>1) l j hlt
  have hmg:=sN (l.map dV) l' j (by simpa using hlt) (by rw [hul];simpa using hlt)
  have hms:=tF (l.map dV) l' j (by simpa using hlt) (by rw [hul];simpa using hlt)
  have he:l'[j]'(by rw [hul];simpa using hlt)=dV (xC (k+(aC (fun _=>1) (l.take j):Nat)) l[j]):=by
   subst hu
   rw [List.getElem_map,lI]
  rw [he] at hms
  generalize hq:k+(aC (fun _=>1) (l.take j):Nat)=q at *
  simp only [dV,xC,qD] at hms
  have W:=And.intro hml (And.intro hmg (And.intro hj1 hms))
  have V:=And.intro hml (And.intro hj1 (And.intro hms hlt))
  repeat' first|refine wl ?_|(refine sq (fun hc=>?_) (fun hc=>?_)<;>try exact hc.elim)|fail
  refine hK1 _ ⟨j+1,by omega⟩ (aH (by simp) ?_) (by simp only;omega)
  simp
  omega
 ·have hma:=pV (l.map dV) l' j hul (by simp;omega)
  have hjl:j=l.length:=by omega
  have hcl:eB l'=true:=by rw [←hu];simp
  have htk:l.take j=l:=List.take_of_length_le (by omega)
  rw [htk] at *
  have W:=And.intro hml hj1
  repeat' first|refine wl ?_|(refine sq (fun hc=>?_) (fun hc=>?_)<;>try exact hc.elim)|fail
  all_goals (try (refine ⟨.inr rfl,?_⟩;simp [qM,Tryz.results181,hma,hcl]))
theorem uB [aA Tryz.prog] (l:List Str) (k:Int) (h0:0≤k) (hl:k+(aC (fun _=>1) l:Nat)≤4611686018427387000) (hll:l.length≤4611686018427387904):OkM Tryz.prog 105 (.sl .own 1 (l.map bU)) (.sl .own 1 ((mkL lM (fun _=>1) k l).map bU)) [.int .i64 k] (.int .i64 (k+(aC (fun _=>1) l:Nat))):=by
 generalize hu:(mkL lM (fun _=>1) k l).map bU=l'
 have hul:l'.length=(l.map bU).length:=by rw [←hu];simp [dS]
 refine aAp Tryz.mix Tryz.func105 Tryz.ntmps105 ?_
 have W:=trivial
 repeat' first|refine wl ?_|(refine sq (fun hc=>?_) (fun hc=>?_)<;>try exact hc.elim)|fail
 refine aM (ι:={j:Nat // j≤l.length}) (fun t o i=>⟨aO t [(1,.int .i64 (k+(aC (fun _=>1) (l.take i.1):Nat))),(5,.int .i64 i.1)],[⟨true,false,1,0,iM (l.map bU) l' i.1⟩]⟩)
  (fun i=>l.length - i.1) ⟨0,by simp⟩ (aH (by simp [qQ]) (by simp [aC])) ?_
 rintro ⟨j,hj⟩ K1 hK1
 simp only [aO,List.set_cons_succ,List.set_cons_zero] at hK1⊢
 have hj1:IntKind.i64.wrap ((j:Int)+1)=((j+1:Nat):Int):=by rw [wrap64]<;>omega
 have hml:(iM (l.map bU) l' j).length=l.length:=by rw [nT _ _ _ hul];simp
 have hle:=dC (fun _=>1) l (j+1)
 by_cases hlt:j < l.length
 ·have hts:=bT (fun _=>1) l j hlt
  have hmg:=sN (l.map bU) l' j (by simpa using hlt) (by rw [hul];simpa using hlt)
  have hms:=tF (l.map bU) l' j (by simpa using hlt) (by rw [hul];simpa using hlt)
  have he:l'[j]'(by rw [hul];simpa using hlt)=bU (lM (k+(aC (fun _=>1) (l.take j):Nat)) l[j]):=by
   subst hu
   rw [List.getElem_map,lI]
  rw [he] at hms
  generalize hq:k+(aC (fun _=>1) (l.take j):Nat)=q at *
  simp only [bU,lM,qD] at hms
  have W:=And.intro hml (And.intro hmg (And.intro hj1 hms))
  have V:=And.intro hml (And.intro hj1 (And.intro hms hlt))
  repeat' first|refine wl ?_|(refine nx ?_;refine sk (hc:=iN _ (by omega)) (h:=?_))|(refine sq (fun hc=>?_) (fun hc=>?_)<;>try exact hc.elim)|fail
  refine hK1 _ ⟨j+1,by omega⟩ (aH (by simp) ?_) (by simp only;omega)
  simp
  omega
 ·have hma:=pV (l.map bU) l' j hul (by simp;omega)
  have hjl:j=l.length:=by omega
  have hcl:eB l'=true:=by rw [←hu];simp
  have htk:l.take j=l:=List.take_of_length_le (by omega)
  rw [htk] at *
  have W:=And.intro hml hj1
  repeat' first|refine wl ?_|(refine sq (fun hc=>?_) (fun hc=>?_)<;>try exact hc.elim)|fail
  all_goals (try (refine ⟨.inr rfl,?_⟩;simp [qM,Tryz.results105,hma,hcl]))
theorem aFh [aA Tryz.prog] (l:List aK) (k:Int) (h0:0≤k) (hl:k+(aC (fun _=>2) l:Nat)≤4611686018427387000) (hll:l.length≤4611686018427387904):OkM Tryz.prog 104 (.sl .own 2 (l.map aF)) (.sl .own 2 ((mkL rR (fun _=>2) k l).map aF)) [.int .i64 k] (.int .i64 (k+(aC (fun _=>2) l:Nat))):=by
 generalize hu:(mkL rR (fun _=>2) k l).map aF=l'
 have hul:l'.length=(l.map aF).length:=by rw [←hu];simp [dS]
 refine aAp Tryz.mix Tryz.func104 Tryz.ntmps104 ?_
 have W:=trivial
 repeat' first|refine wl ?_|(refine sq (fun hc=>?_) (fun hc=>?_)<;>try exact hc.elim)|fail
 refine aM (ι:={j:Nat // j≤l.length}) (fun t o i=>⟨aO t [(1,.int .i64 (k+(aC (fun _=>2) (l.take i.1):Nat))),(5,.int .i64 i.1)],[⟨true,false,2,0,iM (l.map aF) l' i.1⟩]⟩)
  (fun i=>l.length - i.1) ⟨0,by simp⟩ (aH (by simp [qQ]) (by simp [aC])) ?_
 rintro ⟨j,hj⟩ K1 hK1
 simp only [aO,List.set_cons_succ,List.set_cons_zero] at hK1⊢
 have hj1:IntKind.i64.wrap ((j:Int)+1)=((j+1:Nat):Int):=by rw [wrap64]<;>omega
 have hml:(iM (l.map aF) l' j).length=l.length:=by rw [nT _ _ _ hul];simp
 have hle:=dC (fun _=>2) l (j+1)
 by_cases hlt:j < l.length
 ·have hts:=bT (fun _=>2) l j hlt
  have hmg:=sN (l.map aF) l' j (by simpa using hlt) (by rw [hul];simpa using hlt)
  have hms:=tF (l.map aF) l' j (by simpa using hlt) (by rw [hul];simpa using hlt)
  have he:l'[j]'(by rw [hul];simpa using hlt)=aF (rR (k+(aC (fun _=>2) (l.take j):Nat)) l[j]):=by
   subst hu
   rw [List.getElem_map,lI]
  rw [he] at hms
  generalize hq:k+(aC (fun _=>2) (l.take j):Nat)=q at *
  have e2:q+1+1=q+2:=by omega
  simp only [aF,rR,qD] at hms
  have W:=And.intro hml (And.intro hmg (And.intro hj1 (And.intro hms e2)))
  have V:=And.intro hml (And.intro hj1 (And.intro hms (And.intro hlt e2)))
  repeat' first|refine wl ?_|(refine nx ?_;refine sk (hc:=iN _ (by omega)) (h:=?_))|(refine sq (fun hc=>?_) (fun hc=>?_)<;>try exact hc.elim)|fail
  refine hK1 _ ⟨j+1,by omega⟩ (aH (by simp) ?_) (by simp only;omega)
  simp
  omega
 ·have hma:=pV (l.map aF) l' j hul (by simp;omega)
  have hjl:j=l.length:=by omega
  have hcl:eB l'=true:=by rw [←hu];simp
  have htk:l.take j=l:=List.take_of_length_le (by omega)
  rw [htk] at *
  have W:=And.intro hml hj1
  repeat' first|refine wl ?_|(refine sq (fun hc=>?_) (fun hc=>?_)<;>try exact hc.elim)|fail
  all_goals (try (refine ⟨.inr rfl,?_⟩;simp [qM,Tryz.results104,hma,hcl]))
theorem aF5 [aA Tryz.prog] (l:List fA) (k:Int) (h0:0≤k) (hl:k+(aC (fun _=>2) l:Nat)≤4611686018427387000) (hll:l.length≤4611686018427387904):OkM Tryz.prog 179 (.sl .own 2 (l.map dI)) (.sl .own 2 ((mkL rV (fun _=>2) k l).map dI)) [.int .i64 k] (.int .i64 (k+(aC (fun _=>2) l:Nat))):=by
 generalize hu:(mkL rV (fun _=>2) k l).map dI=l'
 have hul:l'.length=(l.map dI).length:=by rw [←hu];simp [dS]
 refine aAp Tryz.mix Tryz.func179 Tryz.ntmps179 ?_
 have W:=trivial
 repeat' first|refine wl ?_|(refine sq (fun hc=>?_) (fun hc=>?_)<;>try exact hc.elim)|fail
 refine aM (ι:={j:Nat // j≤l.length}) (fun t o i=>⟨aO t [(1,.int .i64 (k+(aC (fun _=>2) (l.take i.1):Nat))),(5,.int .i64 i.1)],[⟨true,false,2,0,iM (l.map dI) l' i.1⟩]⟩)
  (fun i=>l.length - i.1) ⟨0,by simp⟩ (aH (by simp [qQ]) (by simp [aC])) ?_
 rintro ⟨j,hj⟩ K1 hK1
 simp only [aO,List.set_cons_succ,List.set_cons_zero] at hK1⊢
 have hj1:IntKind.i64.wrap ((j:Int)+1)=((j+1:Nat):Int):=by rw [wrap64]<;>omega
 have hml:(iM (l.map dI) l' j).length=l.length:=by rw [nT _ _ _ hul];simp
 have hle:=dC (fun _=>2) l (j+1)
 by_cases hlt:j < l.length
 ·have hts:=bT (fun _=>2) l j hlt
  have hmg:=sN (l.map dI) l' j (by simpa using hlt) (by rw [hul];simpa using hlt)
  have hms:=tF (l.map dI) l' j (by simpa using hlt) (by rw [hul];simpa using hlt)
  have he:l'[j]'(by rw [hul];simpa using hlt)=dI (rV (k+(aC (fun _=>2) (l.take j):Nat)) l[j]):=by
   subst hu
   rw [List.getElem_map,lI]
  rw [he] at hms
  generalize hq:k+(aC (fun _=>2) (l.take j):Nat)=q at *
  have e2:q+1+1=q+2:=by omega
  simp only [dI,rV,qD] at hms
  have W:=And.intro hml (And.intro hmg (And.intro hj1 (And.intro hms e2)))
  have V:=And.intro hml (And.intro hj1 (And.intro hms (And.intro hlt e2)))
  repeat' first|refine wl ?_|(refine nx ?_;refine sk (hc:=iN _ (by omega)) (h:=?_))|(refine sq (fun hc=>?_) (fun hc=>?_)<;>try exact hc.elim)|fail
  refine hK1 _ ⟨j+1,by omega⟩ (aH (by simp) ?_) (by simp only;omega)
  simp
  omega
 ·have hma:=pV (l.map dI) l' j hul (by simp;omega)
  have hjl:j=l.length:=by omega
  have hcl:eB l'=true:=by rw [←hu];simp
  have htk:l.take j=l:=List.take_of_length_le (by omega)
  rw [htk] at *
  have W:=And.intro hml hj1
  repeat' first|refine wl ?_|(refine sq (fun hc=>?_) (fun hc=>?_)<;>try exact hc.elim)|fail
  all_goals (try (refine ⟨.inr rfl,?_⟩;simp [qM,Tryz.results179,hma,hcl]))
end Go.Proofs.YtlnblmmohpcceaaGreatDoor
