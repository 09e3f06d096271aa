/- Recursion, gone through in place. Its conditions: none; every theorem holds for every program of the model. -/
import Derived.Test.YtacjdfhllomccaaGreatDoorArrJ
namespace Go.Proofs.YtacjdfhllomccaaGreatDoor
open Go.RowKit
set_option linter.unusedVariables false
section
variable {P : Program} {N : Sz} {w0 : World} {V : View} {H : List HObj} {M : List (Nat × Value)} {ops : Array Oper} {Q : Exit → Act → World → Prop} {o : Oper} {K : Act → World → Prop} {fn : Func} {c : Code} {R : Ending → World → Prop}
theorem W1.callI (f : FuncId) (l : List Value) (I : Value → World → Prop) (hc : okO N ops M o = true) (hv : ∀ w, (execOp (evM M) o).run P w = .ok (.enter f l.toArray) w)
 (hf : ∀ w, Hp w0 V H w → Calls P f l.toArray w (fun e w' => ∃ v, e = .returned v ∧ I v w'))
 (k : ∀ v w', I v w' → ∃ V' H', Hp w0 V' H' w' ∧ T N w0 V' H' (putM o.dst v M) K) : W1 P Q ops o N w0 V H M K := fun a w hfr hh => by
 obtain ⟨h1, _, _, h4⟩ := okO_parts hc
 refine ⟨gd_wanted hfr h1, ?_⟩
 unfold Oper.wp
 rw [okO_exec hc hfr, hv w, Oper.upon_enter]
 refine (hf w hh).mono ?_
 rintro e w' ⟨v, rfl, hi⟩
 obtain ⟨V', H', hh', ht⟩ := k v w' hi
 exact ht _ _ (hfr.put h4 v) hh'
theorem T.startI {N : Nat} {w : World} {l : List Value} {f : FuncId} (hf : P.funcs[f]? = some fn) (hb : fn.body = some c) (hN : fn.ntmps = N) (hn : Nat.ble l.length N = true)
 (h : T ⟨N, []⟩ w0 V H (argM 0 l) (c.wpIn (RF none) 0 P (bodyPost P fn R))) (hh : Hp w0 V H w) : Calls P f l.toArray w R := by
 subst hN
 refine calls_of_wp hf hb (wpIn_wide.1 (h _ w (Fr.start l.toArray fn.ntmps (by simpa using Nat.le_of_ble_eq_true hn) _ fun t v hv => ?_) hh))
 have := (lk_argM l 0 t v hv).2
 simpa using this
end
end Go.Proofs.YtacjdfhllomccaaGreatDoor
