/- A strings.Builder that the call has made, as an object of the symbolic heap; what a writing call makes of it. Its conditions: as each states. -/
import Derived.Test.YtacjdfhllomccaaGreatDoorRowJ
import Derived.Test.YtacjdfhllomccaaGreatDoorOpsJ
import Derived.Lib.FrozenHead
import Derived.Lib.OthersKept
namespace Go.Proofs.YtacjdfhllomccaaGreatDoor
open Go.RowKit
set_option linter.unusedVariables false
def NoRow (e : TypeId) (x : HObj) : Prop := ∀ V w k, x.ok V w → x.own k → ∃ o, w.heap[k]? = some o ∧ ∀ c fz, o ≠ .cells c e fz
def Others (e : TypeId) : Nat → List HObj → Prop
 | _, [] => True
 | 0, _ :: H => ∀ x ∈ H, NoRow e x
 | n + 1, x :: H => NoRow e x ∧ Others e n H
theorem Others.get {e : TypeId} : ∀ {n : Nat} {H : List HObj}, Others e n H → ∀ k x, H[k]? = some x → k ≠ n → NoRow e x
 | _, [], _, k, x, hk, _ => by simp at hk
 | 0, y :: H, h, 0, x, hk, hn => absurd rfl hn
 | 0, y :: H, h, k + 1, x, hk, hn => h x (List.mem_of_getElem? (by simpa using hk))
 | n + 1, y :: H, h, 0, x, hk, hn => by simp at hk; subst hk; exact h.1
 | n + 1, y :: H, h, k + 1, x, hk, hn => h.2.get k x (by simpa using hk) (by omega)
section
variable {w0 : World} {H : List HObj} {tb e : TypeId} {b : Nat} {go : Option Nat} {l : ByteArray}
variable {P : Program} {N : Sz} {V : View} {M : List (Nat × Value)} {ops : Array Oper} {Q : Exit → Act → World → Prop} {o : Oper} {K : Act → World → Prop}
end
theorem splitPost (w : World) (n : Nat) (l : List ByteArray) (t : TypeId) (hl : l.length = n + 1) (hm : n + 1 ≤ maxLen) :
 Post (vSc (eList eStr)) l w (.returned (.slice (some ⟨w.heap.size, 0, none⟩) (n + 1) (n + 1))) (w.alloc (.cells (l.map Value.string).toArray t)) := by
 refine ⟨_, rfl, (RowKit.Below.refl _ w).alloc (Nat.le_refl _) _, some ⟨w.heap.size, 0, none⟩, n + 1, by rw [hl], by omega, hm, l.map Value.string, ⟨by rw [List.length_map]; show l.length = l.length * 1; omega, fun k x hk => ?_⟩, fun j u hu => ⟨_, rfl, ?_⟩⟩
 · show ((l.map Value.string).drop (k * 1)).take 1 = [Value.string x]
   have hkl : k < l.length := (List.getElem?_eq_some_iff.1 hk).1
   rw [show k * 1 = k by omega, List.drop_eq_getElem_cons (by rw [List.length_map]; exact hkl), List.take_succ_cons, List.take_zero, List.getElem_map]
   rw [(List.getElem?_eq_some_iff.1 hk).2]
 · have hadd : (⟨w.heap.size, 0, none⟩ : Addr).add j = ⟨w.heap.size, j, none⟩ := by unfold Addr.add; split <;> simp_all
   rw [hadd]
   have hn : (w.alloc (.cells (l.map Value.string).toArray t)).heap[w.heap.size]? = some (.cells (l.map Value.string).toArray t) := heap_alloc_new w _
   have hv : fresh w (w.alloc (.cells (l.map Value.string).toArray t)) w.heap.size = some (.cells (l.map Value.string).toArray t (0, 0)) := by
    show (if w.heap.size < w.heap.size then none else _) = _
    rw [if_neg (Nat.lt_irrefl _)]; exact hn
   unfold View.cell
   dsimp only
   rw [hv]
   simpa using hu
end Go.Proofs.YtacjdfhllomccaaGreatDoor
