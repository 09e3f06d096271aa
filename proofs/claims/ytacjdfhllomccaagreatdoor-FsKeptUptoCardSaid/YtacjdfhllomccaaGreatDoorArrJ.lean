/- The program logic's rules for arrays at an index that is not known. Its conditions: none. -/
import Derived.Test.YtacjdfhllomccaaGreatDoorDataJ
import Derived.Test.YtacjdfhllomccaaGreatDoorOpsJ
namespace Go.Proofs.YtacjdfhllomccaaGreatDoor
open Go.RowKit
set_option linter.unusedVariables false
section
variable {P : Program} {M : List (Nat × Value)} {o : Oper} {N : Sz} {w0 w : World} {V : View} {H : List HObj}
end
section
variable {P : Program} {M : List (Nat × Value)} {o : Oper} {N : Sz} {w0 w : World} {V : View} {H : List HObj} {α : Type} {E : Enc α} {φ : Act → World → Prop}
end
def eAt {α : Type} (w0 : World) (E : Enc α) : Enc α where
 size := E.size
 rep := fun V cs x => E.rep (made w0 V) cs x
 mono := fun hv h => E.mono (made_mono hv) h
 len := fun h => E.len h
 one := fun h => E.one h
section
variable {N : Sz} {M : List (Nat × Value)} {w0 w : World} {V : View} {H H' : List HObj} {α : Type} {E : Enc α} {φ : Act → World → Prop} {p : Bool} {e : TypeId} {A : Option Addr} {c : Nat} {l : List α}
theorem src_one {x : α} {b : Nat} {t : TypeId} {cs : List Value} (hh : Hp w0 V H w) {i : Nat} (hi : nth H i = some (box b t cs)) (hr : E.rep V cs x) : ∃ news, RowRep V E news [x] ∧ Lies (vw w) (some ⟨b, 0, none⟩) news := by
 refine ⟨cs, ⟨?_, fun k y hk => ?_⟩, lies_box fun j => ?_⟩
 · rw [E.len hr]; simp
 · cases k with
   | zero =>
    obtain rfl : x = y := by simpa using hk
    rw [Nat.zero_mul, List.drop_zero, List.take_of_length_le (by rw [E.len hr]; exact Nat.le_refl _)]
    exact hr
   | succ k => simp at hk
 · rw [nth_eq] at hi
   exact hh.cell_box hi j
theorem Hp.row_elem {i k : Nat} {x : α} (h : Hp w0 V H w) (hi : nth H i = some (rowb p e (eAt w0 E) A c l)) (hk : l[k]? = some x) :
 ∃ cs, E.rep (made w0 V) cs x ∧ ∀ j u, cs[j]? = some u → w.cell? (((sadr A).add (k * E.size)).add j) = some u := by
 rw [nth_eq] at hi
 obtain ⟨h1, h2, h3⟩ := h.objs _ (List.mem_of_getElem? hi)
 rcases h3 with h3 | ⟨g, cur, fz, xs, h3⟩
 · have hl : l = [] := List.eq_nil_of_length_eq_zero (by omega)
   subst hl
   simp at hk
 · have hs : RowRep V (eAt w0 E) xs l := h3.rep
   refine ⟨_, hs.2 k x hk, fun j u hu => ?_⟩
   rw [List.getElem?_take] at hu
   split at hu
   · rw [List.getElem?_drop] at hu
     obtain ⟨a, rfl, hc⟩ := h3.cells _ u hu
     rw [add_of_add]
     exact hc
   · cases hu
theorem W1.lookE {P : Program} {o : Oper} {ops : Array Oper} {Q : Exit → Act → World → Prop} {K : Act → World → Prop} (Ψ : Value → Prop) (hc : okO N ops M o = true)
 (hv : ∀ w, Hp w0 V H w → ∃ v, (execOp (evM M) o).run P w = .ok (.value v) w ∧ Ψ v) (h : ∀ v, Ψ v → T N w0 V H (putM o.dst v M) K) : W1 P Q ops o N w0 V H M K := fun a w hf hh => by
 obtain ⟨h1, _, _, h4⟩ := okO_parts hc
 refine ⟨gd_wanted hf h1, ?_⟩
 obtain ⟨v, hrun, hp⟩ := hv w hh
 unfold Oper.wp
 rw [okO_exec hc hf, hrun]
 exact h v hp _ _ (hf.put h4 v) hh
end
theorem T.end0 {P : Program} {fn : Func} {R : Ending → World → Prop} {N : Sz} {M : List (Nat × Value)} {w0 : World} {V : View} {H : List HObj} (hr : fn.results = #[]) (h : ∀ w, Hp w0 V H w → R (.returned (.tuple #[])) w) (hN : N.ds = [] := by rfl) : T N w0 V H M (bodyPost P fn R .normal) :=
 fun a w hf hh => ⟨by rw [hf.defers, hN]; rfl, _, by simp [results, hr], h w hh⟩
end Go.Proofs.YtacjdfhllomccaaGreatDoor
