/-
  Proved here: what the marks of policies, builders and pages are, and how many they are.
  No condition beyond what each statement spells out.
-/
import Derived.Test.YtbbefoefjmgnoaaAwMk
set_option linter.all false
set_option linter.unusedVariables false
namespace Go.Aw
def n1 {α : Type} (l : List α) : Nat := sumN (fun _ => 1) l
def cPolicy (a : DPolicy) : Nat := sumN (fun _ => 1) a.scripts + sumN (fun _ => 1) a.styles + sumN (fun _ => 1) a.images
def mkPolicy (k : Int) (a : DPolicy) : DPolicy := { a with
  scripts := mkL mkstring (fun _ => 1) k a.scripts
  styles := mkL mkstring (fun _ => 1) (k + (sumN (fun _ => 1) a.scripts : Nat)) a.styles
  images := mkL mkstring (fun _ => 1) (k + (sumN (fun _ => 1) a.scripts : Nat) + (sumN (fun _ => 1) a.styles : Nat)) a.images }
def cBuilder (a : DBuilder) : Nat := sumN cNode a.nodes + sumN (fun _ => 1) a.opens
def mkBuilder (k : Int) (a : DBuilder) : DBuilder := { a with
  nodes := mkL mkNode cNode k a.nodes
  opens := mkL mkint (fun _ => 1) (k + (sumN cNode a.nodes : Nat)) a.opens }
def cPage (a : DPage) : Nat := cPolicy a.policy + sumN cToken a.queue + cBuilder a.builder + sumN (fun _ => 8) a.slots + sumN (fun _ => 5) a.mods + sumN (fun _ => 2) a.entries + sumN (fun _ => 2) a.ran + sumN (fun _ => 1) a.log
def mkPage (k : Int) (a : DPage) : DPage := { a with
  policy := mkPolicy k a.policy
  queue := mkL mkToken cToken (k + (cPolicy a.policy : Nat)) a.queue
  builder := mkBuilder (k + (cPolicy a.policy : Nat) + (sumN cToken a.queue : Nat)) a.builder
  slots := mkL mkSlot (fun _ => 8) (k + (cPolicy a.policy : Nat) + (sumN cToken a.queue : Nat) + (cBuilder a.builder : Nat)) a.slots
  mods := mkL mkModule (fun _ => 5) (k + (cPolicy a.policy : Nat) + (sumN cToken a.queue : Nat) + (cBuilder a.builder : Nat) + (sumN (fun _ => 8) a.slots : Nat)) a.mods
  entries := mkL mkAddr (fun _ => 2) (k + (cPolicy a.policy : Nat) + (sumN cToken a.queue : Nat) + (cBuilder a.builder : Nat) + (sumN (fun _ => 8) a.slots : Nat) + (sumN (fun _ => 5) a.mods : Nat)) a.entries
  ran := mkL mkAddr (fun _ => 2) (k + (cPolicy a.policy : Nat) + (sumN cToken a.queue : Nat) + (cBuilder a.builder : Nat) + (sumN (fun _ => 8) a.slots : Nat) + (sumN (fun _ => 5) a.mods : Nat) + (sumN (fun _ => 2) a.entries : Nat)) a.ran
  log := mkL mkstring (fun _ => 1) (k + (cPolicy a.policy : Nat) + (sumN cToken a.queue : Nat) + (cBuilder a.builder : Nat) + (sumN (fun _ => 8) a.slots : Nat) + (sumN (fun _ => 5) a.mods : Nat) + (sumN (fun _ => 2) a.entries : Nat) + (sumN (fun _ => 2) a.ran : Nat)) a.log }
theorem sumN_const {α : Type} (c : Nat) (l : List α) : sumN (fun _ => c) l = c * l.length := by
  induction l with
  | nil => simp [sumN]
  | cons x xs ih => simp only [sumN, ih, List.length_cons, Nat.mul_add]; omega
theorem sumN_le_c {α : Type} {f g : α → Nat} (c : Nat) (h : ∀ x, f x ≤ c * (g x + 1)) : ∀ l : List α, sumN f l ≤ c * (l.length + sumN g l)
  | [] => by simp [sumN]
  | x :: xs => by
    simp only [sumN, List.length_cons]
    have h1 := h x
    have h2 := sumN_le_c c h xs
    have e : c * (xs.length + 1 + (g x + sumN g xs)) = c * (g x + 1) + c * (xs.length + sumN g xs) := by rw [← Nat.mul_add]; congr 1; omega
    omega
theorem attrs_le (l : List DAttr) : l.length ≤ szL szAttr l := by unfold szL; omega
theorem cToken_le (x : DToken) : cToken x ≤ 3 * (szToken x + 1) := by
  have := attrs_le x.attrs
  unfold cToken szToken; rw [sumN_const]; omega
theorem cNode_le (x : DNode) : cNode x ≤ 3 * (szNode x + 1) := by
  have := attrs_le x.attrs
  unfold cNode szNode; rw [sumN_const]; omega
theorem cPage_le (p : DPage) (h : szPage p ≤ 1048576) : cPage p ≤ 20971520 := by
  have h1 := sumN_le_c 3 cToken_le p.queue
  have h2 := sumN_le_c 3 cNode_le p.builder.nodes
  simp only [szPage, szPolicy, szBuilder, szL] at h
  simp only [cPage, cPolicy, cBuilder, sumN_const]
  omega
theorem attrs_Token {l : List DToken} {n : Nat} (h : sumN szToken l ≤ n) : ∀ x ∈ l, x.attrs.length ≤ n := fun x hx => by
  have h1 := sumN_mem_le szToken hx
  have h2 := attrs_le x.attrs
  have h3 : szToken x = x.name.length + szL szAttr x.attrs + x.text.length := rfl
  omega
theorem attrs_Node {l : List DNode} {n : Nat} (h : sumN szNode l ≤ n) : ∀ x ∈ l, x.attrs.length ≤ n := fun x hx => by
  have h1 := sumN_mem_le szNode hx
  have h2 := attrs_le x.attrs
  have h3 : szNode x = x.name.length + x.text.length + szL szAttr x.attrs := rfl
  omega
@[simp] theorem rtr_dfv_eToken (u : List Nat) (b : Bool) (l : List DToken) : rtr (dropf u) b (l.map (eToken .view)) = l.map (eToken .view) := rtr_map (by intro x; simp) l
@[simp] theorem rtr_dfv_eNode (u : List Nat) (b : Bool) (l : List DNode) : rtr (dropf u) b (l.map (eNode .view)) = l.map (eNode .view) := rtr_map (by intro x; simp) l
theorem mkint_get (l : List Int) (k : Int) (j : Nat) (h : j < l.length) : (mkL mkint (fun _ => 1) k l)[j]? = some (k + j) := by
  have h1 := mkL_get mkint (fun _ => 1) l k j h
  rw [List.getElem?_eq_getElem (by rw [mkL_length]; exact h), h1]
  have : (l.take j).length = j := by simp; omega
  simp only [mkint, sumN_const, this]
  congr 1; omega
end Go.Aw
