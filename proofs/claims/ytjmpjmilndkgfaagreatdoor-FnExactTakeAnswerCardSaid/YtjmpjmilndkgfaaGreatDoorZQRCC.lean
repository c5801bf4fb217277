/- Proved here: steps towards the statement of this claim. No condition. -/
import Derived.Test.YtjmpjmilndkgfaaGreatDoorZQRCB
import Derived.Test.YtjmpjmilndkgfaaGreatDoorZQZ5
set_option linter.all false
set_option maxRecDepth 8000
set_option maxHeartbeats 8000000
namespace Go.Proofs.YtjmpjmilndkgfaaGreatDoor
open Go.Aw Proofs.Tryz List IntKind
theorem Km [aC prog] (a:aT) (hl:aU a<=1099511627776):Ok prog 169 [.agg (aO a)] (.str (lX a)):=by
 have c1:=yR a (by omega);simp only [aU] at hl;have f1:a.host.length<=9223372036854775806:=by omega
 have f2:a.host.length+1<=9223372036854775807:=by omega
 have f3:a.host.length+1+a.path.length<=9223372036854775807:=by omega
 have f4:a.host.length+(a.path.length+1)<=9223372036854775807:=by omega
 refine bR aD func169 ntmps169 ?_;have W:=aA f1 (aA f2 (aA f3 f4));repeat' first|refine wg ?_|(refine sq ?_ ?_<;>intro hc<;>try exact hc.elim)|fail
 all_goals try(refine aR ?_;simp [aG,results169,lX])
 all_goals simp_all [lX]
theorem BD (a:aT):(lX a).length<=17:=by
 unfold lX;split
 .rename_i h;simp [zZ,dA] at h;simp;omega
 .simp
theorem Kn [aC prog] (a:aT) (hl:aU a<=1099511627776):Ok prog 188 [.agg (aO a)] (.str (lX a)):=by
 have c1:=yS a (by omega);simp only [aU] at hl;have f1:a.host.length<=9223372036854775806:=by omega
 have f2:a.host.length+1<=9223372036854775807:=by omega
 have f3:a.host.length+1+a.path.length<=9223372036854775807:=by omega
 have f4:a.host.length+(a.path.length+1)<=9223372036854775807:=by omega
 refine bR aD func188 ntmps188 ?_;have W:=aA f1 (aA f2 (aA f3 f4));repeat' first|refine wg ?_|(refine sq ?_ ?_<;>intro hc<;>try exact hc.elim)|fail
 all_goals try(refine aR ?_;simp [aG,results188,lX])
 all_goals simp_all [lX]
def rQ:List (Nat×Nat):=[(2,14),(3,15),(4,16),(5,17),(6,18),(7,19),(8,20),(9,21),(10,22),(11,23),(12,24)]
theorem VR {t t':List AV} {o o':List aM} {l1 l2 l3 l4 l5 l6 l7 l8 l9 l10 l11:Bool} {u n1 v1 n2 v2 n3 v3 n4 v4 n5 v5 n6 v6 n7 v7 n8 v8 n9 v9 n10 v10 n11 v11:Nat} {e1 e2 e3 e4 e5 e6 e7 e8 e9 e10 e11:List (List AV)} {o0 o1 z0:aM} {q:aI} (ho:o=[o0,o1,⟨l1,false,n1,v1,e1⟩,⟨l2,false,n2,v2,e2⟩,⟨l3,false,n3,v3,e3⟩,⟨l4,false,n4,v4,e4⟩,⟨l5,false,n5,v5,e5⟩,⟨l6,false,n6,v6,e6⟩,⟨l7,false,n7,v7,e7⟩,⟨l8,false,n8,v8,e8⟩,⟨l9,false,n9,v9,e9⟩,⟨l10,false,n10,v10,e10⟩,⟨l11,false,n11,v11,e11⟩,⟨true,true,22,u,[Dv 14 q]⟩]++Du q++[z0])
  (ho':o'=[o0,o1]++Du q++[⟨true,true,22,u,[Dv 2 q]⟩]) (ht:∀z∈rQ,wk (qK z.1 z.2 t') t') (hf:∀z∈rQ,o0.mG z.1 z.2=o0/\o1.mG z.1 z.2=o1) (hw:wk t t') (hc:fP 14 t'=true) (hc0:dJ 14 [o0,o1]=true):mK ⟨t,o⟩ ⟨t',o'⟩:=by
 subst ho;subst ho';have e:=λi j (h:(i,j)∈rQ)=>hf (i,j) h
 have h:=λi j (h:(i,j)∈rQ)=>ht (i,j) h
 simp only [Du,Dv,eI,eN,fX];refine (vQ hw).trans ?_;refine (bA 2 14 rfl rfl ⟨rfl,rfl⟩ (by simp [(e 2 14 (by decide))];rfl) (h 2 14 (by decide))).trans ?_;refine (bA 3 15 rfl rfl ⟨rfl,rfl⟩ (by simp [(e 3 15 (by decide))];rfl) (h 3 15 (by decide))).trans ?_;refine (bA 4 16 rfl rfl ⟨rfl,rfl⟩ (by simp [(e 4 16 (by decide))];rfl) (h 4 16 (by decide))).trans ?_;refine (bA 5 17 rfl rfl ⟨rfl,rfl⟩ (by simp [(e 5 17 (by decide))];rfl) (h 5 17 (by decide))).trans ?_;refine (bA 6 18 rfl rfl ⟨rfl,rfl⟩ (by simp [(e 6 18 (by decide))];rfl) (h 6 18 (by decide))).trans ?_;refine (bA 7 19 rfl rfl ⟨rfl,rfl⟩ (by simp [(e 7 19 (by decide))];rfl) (h 7 19 (by decide))).trans ?_;refine (bA 8 20 rfl rfl ⟨rfl,rfl⟩ (by simp [(e 8 20 (by decide))];rfl) (h 8 20 (by decide))).trans ?_;refine (bA 9 21 rfl rfl ⟨rfl,rfl⟩ (by simp [(e 9 21 (by decide))];rfl) (h 9 21 (by decide))).trans ?_;refine (bA 10 22 rfl rfl ⟨rfl,rfl⟩ (by simp [(e 10 22 (by decide))];rfl) (h 10 22 (by decide))).trans ?_;refine (bA 11 23 rfl rfl ⟨rfl,rfl⟩ (by simp [(e 11 23 (by decide))];rfl) (h 11 23 (by decide))).trans ?_;refine (bA 12 24 rfl rfl ⟨rfl,rfl⟩ (by simp [(e 12 24 (by decide))];rfl) (h 12 24 (by decide))).trans ?_;refine aW 14 (by simp) (lC _) hc ?_;simpa [dJ,fP,closed,and_assoc] using hc0
def rR:List (Nat×Nat):=[(2,26),(3,27),(4,28),(5,29),(6,30),(7,31),(8,32),(9,33),(10,34),(11,35),(12,36)]
theorem VS {t t':List AV} {o o':List aM} {l1 l2 l3 l4 l5 l6 l7 l8 l9 l10 l11:Bool} {u n1 v1 n2 v2 n3 v3 n4 v4 n5 v5 n6 v6 n7 v7 n8 v8 n9 v9 n10 v10 n11 v11:Nat} {e1 e2 e3 e4 e5 e6 e7 e8 e9 e10 e11:List (List AV)} {o0 o1 m0 m1 m2 m3 m4 m5 m6 m7 m8 m9 m10 m11:aM} {q:aI} (ho:o=[o0,o1,⟨l1,false,n1,v1,e1⟩,⟨l2,false,n2,v2,e2⟩,⟨l3,false,n3,v3,e3⟩,⟨l4,false,n4,v4,e4⟩,⟨l5,false,n5,v5,e5⟩,⟨l6,false,n6,v6,e6⟩,⟨l7,false,n7,v7,e7⟩,⟨l8,false,n8,v8,e8⟩,⟨l9,false,n9,v9,e9⟩,⟨l10,false,n10,v10,e10⟩,⟨l11,false,n11,v11,e11⟩,⟨true,true,22,u,[Dv 26 q]⟩,m0,m1,m2,m3,m4,m5,m6,m7,m8,m9,m10,m11]++Du q++[])
  (ho':o'=[o0,o1]++Du q++[⟨true,true,22,u,[Dv 2 q]⟩]) (ht:∀z∈rR,wk (qK z.1 z.2 t') t') (hf:∀z∈rR,o0.mG z.1 z.2=o0/\o1.mG z.1 z.2=o1) (hw:wk t t') (hc:fP 14 t'=true) (hc0:dJ 14 [o0,o1]=true):mK ⟨t,o⟩ ⟨t',o'⟩:=by
 subst ho;subst ho';have e:=λi j (h:(i,j)∈rR)=>hf (i,j) h
 have h:=λi j (h:(i,j)∈rR)=>ht (i,j) h
 simp only [Du,Dv,eI,eN,fX];refine (vQ hw).trans ?_;refine (bA 2 26 rfl rfl ⟨rfl,rfl⟩ (by simp [(e 2 26 (by decide))];rfl) (h 2 26 (by decide))).trans ?_;refine (bA 3 27 rfl rfl ⟨rfl,rfl⟩ (by simp [(e 3 27 (by decide))];rfl) (h 3 27 (by decide))).trans ?_;refine (bA 4 28 rfl rfl ⟨rfl,rfl⟩ (by simp [(e 4 28 (by decide))];rfl) (h 4 28 (by decide))).trans ?_;refine (bA 5 29 rfl rfl ⟨rfl,rfl⟩ (by simp [(e 5 29 (by decide))];rfl) (h 5 29 (by decide))).trans ?_;refine (bA 6 30 rfl rfl ⟨rfl,rfl⟩ (by simp [(e 6 30 (by decide))];rfl) (h 6 30 (by decide))).trans ?_;refine (bA 7 31 rfl rfl ⟨rfl,rfl⟩ (by simp [(e 7 31 (by decide))];rfl) (h 7 31 (by decide))).trans ?_;refine (bA 8 32 rfl rfl ⟨rfl,rfl⟩ (by simp [(e 8 32 (by decide))];rfl) (h 8 32 (by decide))).trans ?_;refine (bA 9 33 rfl rfl ⟨rfl,rfl⟩ (by simp [(e 9 33 (by decide))];rfl) (h 9 33 (by decide))).trans ?_;refine (bA 10 34 rfl rfl ⟨rfl,rfl⟩ (by simp [(e 10 34 (by decide))];rfl) (h 10 34 (by decide))).trans ?_;refine (bA 11 35 rfl rfl ⟨rfl,rfl⟩ (by simp [(e 11 35 (by decide))];rfl) (h 11 35 (by decide))).trans ?_;refine (bA 12 36 rfl rfl ⟨rfl,rfl⟩ (by simp [(e 12 36 (by decide))];rfl) (h 12 36 (by decide))).trans ?_;refine aW 14 (by simp) (lC _) hc ?_;simpa [dJ,fP,closed,and_assoc] using hc0
end Go.Proofs.YtjmpjmilndkgfaaGreatDoor
