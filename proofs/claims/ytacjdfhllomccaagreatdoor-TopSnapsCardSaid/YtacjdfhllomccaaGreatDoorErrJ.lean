/- Errors as results: only whether there is one is looked at; the library's variables that strconv and strings read. Its conditions: none. -/
import Derived.Test.YtacjdfhllomccaaGreatDoorOpsJ
import Derived.Test.YtacjdfhllomccaaGreatDoorRows
import Derived.Lib.LaidTab
import Derived.Lib.AtoiAll
import Derived.Lib.ItoaNum
import Derived.Lib.AppendIntMem
import Derived.Lib.SmallJoins
namespace Go.Proofs.YtacjdfhllomccaaGreatDoor
open Go.RowKit
set_option linter.unusedVariables false
def errV (b : Bool) (t : TypeId) (p : Value) : Value := match b with
 | true => .iface t p
 | false => .nilIface
def vErr : VEnc Bool := { rep := fun _ v b => ∃ t p, v = errV b t p, mono := fun _ h => h }
section
variable {P : Program} {M : List (Nat × Value)} {o : Oper} {a : Operand} {t t' t1 : TypeId} {x : Bool} {p : Value} {w : World}
theorem exec_err_neq (ho : o.op = .binOp .neq t a (.const .nilIface) t') (ha : evM M a = errV x t1 p) (e1 : ∀ w, (Op.equal t .nilIface .nilIface).run P w = .ok true w) (e2 : ∀ t1 p w, (Op.equal t (.iface t1 p) .nilIface).run P w = .ok false w) : (execOp (evM M) o).run P w = .ok (.value (.bool x)) w := by
 have hb : evM M (.const .nilIface) = .nilIface := rfl
 cases x <;> simp only [errV] at ha <;> simp [execOp, ho, ha, hb, eqGuard, binOp, e1, e2]
end
theorem gl_draws (w : World) (n : Nat) : Below w.heap.size w (w.drewN n) := ⟨rfl, rfl, rfl, Nat.le_refl _, fun _ _ => rfl⟩
theorem gl_grow (w : World) (k : Nat) (os : Array Obj) : Below w.heap.size w (Sort.grow (w.drewN k) os) := ⟨rfl, rfl, rfl, by show w.heap.size ≤ (w.heap ++ os).size; rw [Array.size_append]; omega, fun b hb => by show (w.heap ++ os)[b]? = w.heap[b]?; rw [Array.getElem?_append_left hb]⟩
theorem gl_bytes (w : World) (e : TypeId) (s : ByteArray) : Below w.heap.size w (Lib.bytesWorld w e s) := Joins.below_bytesWorld _ w e s (Nat.le_refl _)
structure Glob (w : World) : Prop where
 tab : Lib.TabIs Tryz.prog w "internal/strconv.uint64pow10" .u64 Lib.pow10Tab
 len : ∃ m, w.cell? ⟨0, 0, none⟩ = some (.int .i64 m)
 syn : ∃ t p, w.cell? ⟨2, 0, none⟩ = some (.iface t p)
 rng : ∃ t p, w.cell? ⟨3, 0, none⟩ = some (.iface t p)
theorem cell_le {w w' : World} (h : (vw w).le (vw w')) {a : Addr} {v : Value} (hv : w.cell? a = some v) : w'.cell? a = some v := by
 unfold World.cell? at *
 cases hb : w.heap[a.block]? with
 | none => rw [hb] at hv; cases hv
 | some x => rw [hb] at hv; rw [show w'.heap[a.block]? = some x from h _ _ hb]; exact hv
theorem Glob.mono {w w' : World} (g : Glob w) (h : (vw w).le (vw w')) : Glob w' := by
 obtain ⟨h1, ⟨m, h2⟩, ⟨t, p, h3⟩, ⟨t', p', h4⟩⟩ := g
 refine ⟨?_, ⟨m, cell_le h h2⟩, ⟨t, p, cell_le h h3⟩, ⟨t', p', cell_le h h4⟩⟩
 unfold Lib.TabIs World.var? at *
 cases hg : Tryz.prog.globalNamed "internal/strconv.uint64pow10" with
 | none => rw [hg] at h1; cases h1
 | some n =>
  rw [hg] at h1
  show (match w'.heap[n]? with | some (.cells cs _ _) => some cs | _ => none) = _
  have h5 : (match w.heap[n]? with | some (.cells cs _ _) => some cs | _ => none) = some (Lib.pow10Tab.map fun z => Value.int .u64 z).toArray := h1
  cases hb : w.heap[n]? with
  | none => rw [hb] at h5; cases h5
  | some x => rw [hb] at h5; rw [show w'.heap[n]? = some x from h _ _ hb]; exact h5
end Go.Proofs.YtacjdfhllomccaaGreatDoor
