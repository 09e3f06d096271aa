/- What is written into a row of the call's own beyond its end, and onto a beginning of it: what slices.Insert and slices.Delete do. Its conditions: none. -/
import Derived.Test.YtacjdfhllomccaaGreatDoorClearJ
import Derived.Lib.AppendZerosOnto
import Derived.Lib.Overlaps
namespace Go.Proofs.YtacjdfhllomccaaGreatDoor
open Go.RowKit
set_option linter.unusedVariables false
section
variable {P : Program} {Q : Exit → Act → World → Prop} {M : List (Nat × Value)} {ops : Array Oper} {o : Oper} {N : Sz} {w0 w : World} {V : View} {H : List HObj} {K : Act → World → Prop}
variable {α : Type} {E : Enc α} {p : Bool} {t e : TypeId} {A : Option Addr} {c : Nat} {l : List α}
theorem exec_slice_cap {x : Operand} {lx hx : Option Operand} {n s : Nat} {lo hi : Int} {k k' : IntKind} (ho : o.op = .slice t x lx hx none)
 (hxv : evM M x = .slice A n c) (ht : P.underlying t = some (.slice e)) (hs : (sizeOf e).run P w = .ok s w)
 (hlo : match lx with | some y => evM M y = .int k lo | none => lo = 0) (hhi : match hx with | some y => evM M y = .int k' hi | none => hi = n) (h0 : 0 ≤ lo) (h1 : lo ≤ hi) (h2 : hi ≤ c) :
 (execOp (evM M) o).run P w = .ok (.value (.slice (cutA A c lo.toNat s) (hi.toNat - lo.toNat) (c - lo.toNat))) w := by
 have e1 := @run_sliceBound P w k' hi c .sliceAcap (by omega) (by omega)
 have e2 := @run_sliceBound P w k lo hi.toNat .sliceB h0 (by omega)
 cases lx with
 | none =>
  dsimp only at hlo
  subst hlo
  cases hx with
  | none =>
   dsimp only at hhi
   subst hhi
   simp [execOp, ho, hxv, Instr.sliceAt, run_underlying ht, Instr.slice, Instr.sliceBounds, hs, cutA]
  | some y =>
   dsimp only at hhi
   simp [execOp, ho, hxv, hhi, Instr.sliceAt, run_underlying ht, Instr.slice, Instr.sliceBounds, hs, cutA, e1]
 | some z =>
  dsimp only at hlo
  cases hx with
  | none =>
   dsimp only at hhi
   subst hhi
   rw [show ((n : Int)).toNat = n from Int.toNat_natCast _] at e2
   simp [execOp, ho, hxv, hlo, Instr.sliceAt, run_underlying ht, Instr.slice, Instr.sliceBounds, hs, cutA, e2]
  | some y =>
   dsimp only at hhi
   simp [execOp, ho, hxv, hlo, hhi, Instr.sliceAt, run_underlying ht, Instr.slice, Instr.sliceBounds, hs, cutA, e1, e2]
theorem T.rowlen {φ : Act → World → Prop} (i : Nat) (hi : nth H i = some (rowb p e E A c l)) (q : l.length ≤ c → c ≤ maxLen → T N w0 V H M φ) : T N w0 V H M φ := fun a w hf hh => by
 have h := hh.objs _ (by rw [nth_eq] at hi; exact List.mem_of_getElem? hi)
 exact q h.1 h.2.1 a w hf hh
end
end Go.Proofs.YtacjdfhllomccaaGreatDoor
