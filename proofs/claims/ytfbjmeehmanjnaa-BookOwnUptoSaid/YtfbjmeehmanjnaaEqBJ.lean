/- Arrays of sixteen numbers, as Go compares them. Its conditions: none. -/
import Derived.Test.YtfbjmeehmanjnaaArrJ
import Derived.WalkKit
namespace Go.Proofs.Ytfbjmeehmanjnaa
open Go.RowKit
section
variable {P : Program}
theorem run_eqInt {e : TypeId} (d : Nat) (he : P.underlying e = some (.int .i64)) (x y : Int) (w : World) : (Op.equalIn (d + 1) e (.int .i64 x) (.int .i64 y)).run P w = .ok (x == y) w := by
 rw [Op.equalIn]
 simp [run_underlying he]
theorem run_eqLoop {e : TypeId} (d : Nat) (he : P.underlying e = some (.int .i64)) (hs : ∀ w, (sizeOf e).run P w = .ok 1 w) (ha : ∀ w, (isAgg e).run P w = .ok false w) (a b : DA16) (w : World) : ∀ (n k : Nat), k + n = 16 →
 (Sem.run P (forIn (List.range' k n) ((none : Option Bool), ()) fun i __s => do
  let __do_lift ← part e a.cells.toArray i
  let __do_lift_1 ← part e b.cells.toArray i
  let __do_lift ← Op.equalIn (d + 1) e __do_lift __do_lift_1
  if __do_lift = false then pure (ForInStep.done (some false, ())) else pure (ForInStep.yield (none, ()))) w) = .ok (if (List.range' k n).all (fun j => a.list[j]? == b.list[j]?) then (none, ()) else (some false, ())) w
 | 0, k, _ => by simp
 | n + 1, k, hk => by
  have h1 := List.getElem?_eq_getElem (show k < a.list.length by rw [DA16.list_length]; omega)
  have h2 := List.getElem?_eq_getElem (show k < b.list.length by rw [DA16.list_length]; omega)
  have p1 := arr_part P e a k _ w (hs w) (ha w) h1
  have p2 := arr_part P e b k _ w (hs w) (ha w) h2
  rw [Nat.mul_one] at p1 p2
  have he1 := run_eqInt (P := P) d he (a.list[k]'(by rw [DA16.list_length]; omega)) (b.list[k]'(by rw [DA16.list_length]; omega)) w
  rw [List.range'_succ, List.forIn_cons, List.all_cons, h1, h2]
  simp only [Sem.run_bind, p1, p2, he1, Result.andThen_ok]
  by_cases hx : a.list[k]'(by rw [DA16.list_length]; omega) = b.list[k]'(by rw [DA16.list_length]; omega)
  · have ih := run_eqLoop d he hs ha a b w n (k + 1) (by omega)
    have hx' : (a.list[k]'(by rw [DA16.list_length]; omega) == b.list[k]'(by rw [DA16.list_length]; omega)) = true := by simpa using hx
    simp only [hx', Option.some_beq_some, Bool.true_and]
    rw [← ih]
    simp
  · have hx' : (a.list[k]'(by rw [DA16.list_length]; omega) == b.list[k]'(by rw [DA16.list_length]; omega)) = false := by simpa using hx
    simp only [hx', Option.some_beq_some, Bool.false_and]
    simp
theorem run_equalIn_arr {t e : TypeId} (d : Nat) (ht : P.underlying t = some (.array 16 e)) (he : P.underlying e = some (.int .i64)) (hs : ∀ w, (sizeOf e).run P w = .ok 1 w) (ha : ∀ w, (isAgg e).run P w = .ok false w) (a b : DA16) (w : World) :
 (Op.equalIn (d + 2) t (.agg a.cells.toArray) (.agg b.cells.toArray)).run P w = .ok (a == b) w := by
 have hl := run_eqLoop (P := P) d he hs ha a b w 16 0 rfl
 have hall : ((List.range' 0 16).all fun j => a.list[j]? == b.list[j]?) = (a == b) := by
  rw [beq_DA16]
  simp [List.range', DA16.list]
 rw [hall] at hl
 rw [Op.equalIn]
 simp only [Sem.run_bind, run_underlying ht, Result.andThen_ok, hs]
 simp
 rw [hl]
 cases (a == b) <;> simp
end
end Go.Proofs.Ytfbjmeehmanjnaa
