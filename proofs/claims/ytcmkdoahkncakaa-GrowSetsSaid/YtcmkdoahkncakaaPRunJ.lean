/- Plain Lean: what the functions on runs compute. Its conditions: none. -/
import Derived.Test.YtcmkdoahkncakaaRunFJ
import Derived.Test.YtcmkdoahkncakaaMRunJ
import Derived.Test.YtcmkdoahkncakaaPLoopJ
namespace Go.Proofs.Ytcmkdoahkncakaa
set_option linter.unusedVariables false
set_option linter.unusedSimpArgs false
variable {F : Nat} [Big F]

theorem elem_Spot_eq (e : DElem) : elem_Spot e = some (spotE e) := rfl
/-! ### Check -/
/-- Whether one record may stand ahead of another. -/
def befB (p e : DElem) : Bool := decide (cmpS (spotE p) (spotE e) < 0) && (p.key != e.key || (p.gone != 0 && decide (p.gone ≤ e.made)))
/-- What is wrong at a place of a run. -/
def badAt (l : List DElem) (k : Nat) (e : DElem) : Option Int :=
  if chkE e ≠ 0 then some (chkE e) else if k = 0 then none else
    match l[k - 1]? with
    | some p => if befB p e then none else some 3
    | none => none
/-- The error of a run. -/
def chkR (l : List DElem) : Int := if 400 < l.length then 2 else ((l.zipIdx).findSome? fun p => badAt l p.2 p.1).getD 0
theorem findSome_map {α β γ : Type} (g : β → γ) (w : α → Option β) : ∀ l : List α, (l.findSome? fun a => (w a).map g) = (l.findSome? w).map g
  | [] => rfl
  | a :: l => by
    rw [List.findSome?_cons, List.findSome?_cons]
    cases w a with
    | some b => rfl
    | none => exact findSome_map g w l
def zeroE : DElem := ⟨⟨0, 0, 0⟩, 0, 0, ByteArray.mk #[]⟩
/-- The error of a reading. -/
def atE (l : List DElem) (k : DKey) (t : Int) : Int := if chkR l ≠ 0 then chkR l else if chkK k ≠ 0 then chkK k else if (atR l k t).isNone then 4 else 0
def atV (l : List DElem) (k : DKey) (t : Int) : DElem := if chkR l = 0 ∧ chkK k = 0 then (atR l k t).getD zeroE else zeroE
/-! ### A list, and a place in it -/
section
variable {α : Type} {l a b : List α} {x : α}
end

theorem Run.made {l : List DElem} (h : Run l) {e : DElem} (he : e ∈ l) : 1 ≤ e.made ∧ e.made ≤ 2147483647 := by
  obtain ⟨_, h1, h2, _⟩ := chkE_ok (h.ok e he); exact ⟨h1, h2⟩
/-! ### Put, Cut -/
/-- The error of a write. -/
def putE (l : List DElem) (k : DKey) (v : ByteArray) (t : Int) : Int :=
  if chkR l ≠ 0 then chkR l else if chkE (newE k v t) ≠ 0 then chkE (newE k v t) else if t < lastL l then 9 else if 400 < (putR l k v t).length then 8 else 0
def cutE (l : List DElem) (k : DKey) (t : Int) : Int :=
  if chkR l ≠ 0 then chkR l else if chkK k ≠ 0 then chkK k else if t < 1 ∨ 2147483647 < t ∨ t < lastL l then 9 else if (nowR l k).isNone then 4 else 0
end Go.Proofs.Ytcmkdoahkncakaa
