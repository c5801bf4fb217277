/- Proved here: steps towards the statement of this claim. No condition. -/
import Derived.Test.YtnkpkklemmgapaaGreatDoorZYFacts
import Derived.Lib.SliceRun
set_option linter.all false
set_option maxRecDepth 100000
set_option maxHeartbeats 4000000
namespace Go.Proofs.YtnkpkklemmgapaaGreatDoor
open Go.Aw Proofs.Tryz List IntKind
end Go.Proofs.YtnkpkklemmgapaaGreatDoor
set_option maxRecDepth 100000
set_option maxHeartbeats 4000000
namespace Go.Proofs.YtnkpkklemmgapaaGreatDoor
open Go.Aw Go.RowKit Go.Lib Proofs.Tryz List IntKind
def Ch(c:UInt8):UInt8:=if c=91 then 60 else if c=93 then 62 else c
structure Ext(w w':World): Prop where
  size:w.heap.size <= w'.heap.size
  old:∀ b, b<w.heap.size -> w'.heap[b]? = w.heap[b]?
  same:nV w w'
theorem Ext.refl(w:World):Ext w w:=⟨eE _,λ_ _=>rfl,nV.rfl⟩
theorem Ext.trans{a b c:World}(h:Ext a b)(k:Ext b c):Ext a c:=⟨kO h.size k.size,λx hx=>(k.old x (gO hx h.size)).trans (h.old x hx),h.same.trans k.same⟩
theorem Ext.cell{w w':World}(h:Ext w w'){b:Nat}(hb:b<w.heap.size)(j:Nat):w'.cell? ⟨b,j,none⟩=w.cell? ⟨b,j,none⟩:=by simp[World.cell?,h.old b hb]
theorem Ext.frozen{w w':World}(h:Ext w w'){b:Nat}(hb:b<w.heap.size)(j:Nat):w'.frozen? ⟨b,j,none⟩=w.frozen? ⟨b,j,none⟩:=by simp[World.frozen?,h.old b hb]
theorem Vs(w:World)(b o:Nat)(v:Value){k:Nat}(h:k≠b):(w.setCell ⟨b,o,none⟩ v).heap[k]? =w.heap[k]?:=by have:=Go.Aw.uP b k h [v] o w;simpa [World.setCells]using this
theorem Ext.set{w w':World}(h:Ext w w'){b:Nat}(hb:w.heap.size<=b)(o:Nat)(v:Value):Ext w (w'.setCell ⟨b,o,none⟩ v):=by have h1:=Go.Aw.uQ b [v] o w';have h2:=Go.Aw.xX b [v] o w';simp only[World.setCells]at h1 h2;exact⟨by rw[h1];exact h.size,λx hx=>(Vs w' b o v (by omega)).trans (h.old x hx),h.same.trans h2⟩
end Go.Proofs.YtnkpkklemmgapaaGreatDoor
