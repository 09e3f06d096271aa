/- Plain Lean: slices.Equal, Index, Contains. Its conditions: none. -/
import Derived.Test.YtfbjmeehmanjnaaEqsFJ
import Derived.Test.YtfbjmeehmanjnaaPLoopJ
import Derived.Test.YtfbjmeehmanjnaaPRunJ
import Derived.Test.YtfbjmeehmanjnaaLawJ
import Derived.JoinedCond
import Derived.Deep.CondSized
namespace Go.Proofs.Ytfbjmeehmanjnaa
set_option linter.unusedVariables false
set_option linter.unusedSimpArgs false
variable {F : Nat} [Big F]
theorem equalF {α : Type} [DecidableEq α] (test : α → α → Bool) (ht : ∀ x y, test x y = true ↔ x = y) (p q : List α) (hp : p.length ≤ 9223372036854775807) :
 (bif ((p.length : Int) != (q.length : Int)) then
  some false
 else
  (iter (σ := Int) (ρ := (Unit) ⊕ Bool) (fun x1 =>
   bif decide (x1 < (p.length : Int)) then
    (idx p x1).bind fun e1 =>
    (idx q x1).bind fun e2 =>
    bif (!(test e1 e2)) then
     some (.inr (.inr false))
    else
     some (.inl (IntKind.i64.wrap (x1 + 1)))
    else
     some (.inr (.inl ()))) F 0).bind fun z => match z with
  | .inl _ =>
   some true
  | .inr q => some q) = some (decide (p = q)) := by
 by_cases hl : p.length = q.length
 · rw [show ((p.length : Int) != (q.length : Int)) = false by rw [bne_eq_false_iff_eq]; omega, cond_false]
   obtain ⟨W, hW⟩ : ∃ W : Nat → α → Option (Unit ⊕ Bool), ∀ k e, W k e = if q[k]? = some e then none else some (Sum.inr false) := ⟨_, fun _ _ => rfl⟩
   rw [loop_find p W (Sum.inl ()) hp rfl (fun k e hk _ => ?_) (by simp)]
   · by_cases he : p = q
     · subst he
       rw [find_none.2 fun k e hk => by rw [hW, if_pos hk], decide_eq_true rfl]; rfl
     · rw [decide_eq_false he]
       cases hf : p.zipIdx.findSome? fun a => W a.2 a.1 with
       | some r =>
        obtain ⟨k, e, _, hr⟩ := find_some hf
        rw [hW] at hr
        split at hr
        · cases hr
        · obtain rfl := Option.some.inj hr; rfl
       | none =>
        exfalso
        apply he
        rw [find_none] at hf
        apply List.ext_getElem?
        intro k
        cases hk : p[k]? with
        | none => rw [List.getElem?_eq_none_iff] at hk; rw [List.getElem?_eq_none (by omega)]
        | some e =>
         have := hf k e hk
         rw [hW] at this
         split at this
         · rename_i h; exact h.symm
         · cases this
   · have hkl := (List.getElem?_eq_some_iff.1 hk).1
     have hq : q[k]? = some (q[k]'(by omega)) := List.getElem?_eq_getElem (by omega)
     rw [decide_eq_true (by omega), cond_true, idx_nat', idx_nat', hk, hq, Option.bind_some, Option.bind_some, w64 (by omega) (by omega), hW]
     by_cases he : q[k]'(by omega) = e
     · rw [if_pos (by rw [hq, he]), (ht _ _).2 he.symm]; rfl
     · have hf : test e (q[k]'(by omega)) = false := by
        cases hx : test e (q[k]'(by omega))
        · rfl
        · exact absurd ((ht _ _).1 hx).symm he
       rw [if_neg (by rw [hq]; simpa using he), hf]; rfl
 · rw [show ((p.length : Int) != (q.length : Int)) = true by rw [bne_iff_ne]; omega, cond_true, decide_eq_false (fun e => hl (by rw [e]))]
theorem eqElem (p q : List DElem) (hp : p.length ≤ 9223372036854775807) : slices_Equal_Elem F p q = some (decide (p = q)) := equalF (fun x y => x == y) (fun x y => by simp) p q hp
end Go.Proofs.Ytfbjmeehmanjnaa
/- Plain Lean: what the laws of runs share. Its conditions: none. -/
namespace Go.Proofs.Ytfbjmeehmanjnaa
set_option linter.unusedVariables false
set_option linter.unusedSimpArgs false
variable {F : Nat} [Big F]
end Go.Proofs.Ytfbjmeehmanjnaa
/- From 'every call returns true and changes nothing that was there' to a law's statement, where what it reads is not great. Its conditions: none. -/
namespace Go.Proofs.Ytfbjmeehmanjnaa
open Go.ChangeShapes Go.WideShapes Go.ChangeAt Go.RowKit
section
variable {H : Type}
theorem bulk_part {d : DataW H} {l : List (DataW H)} (h : d ∈ l) : Rows.uptoBulk d ≤ Rows.uptoBulkAll l := by
 induction l with
 | nil => cases h
 | cons x r ih =>
  simp only [Rows.uptoBulkAll]
  cases List.mem_cons.1 h with
  | inl e => subst e; omega
  | inr e => have := ih e; omega
theorem bulk_string {s : ByteArray} {ds : List (DataW H)} (hk : Rows.uptoSmall H ds = true) (h : DataW.lit (.string s.data.toList) ∈ ds) : s.size ≤ 1048576 := by
 have h1 : Rows.uptoBulkAll ds ≤ 1048576 := of_decide_eq_true hk
 have h2 := bulk_part h
 simp only [Rows.uptoBulk] at h2
 have e : s.data.toList.length = s.size := by rw [Array.length_toList]; rfl
 omega
variable {enc : TypeId × Value → H} {P : Program} {w : World} {base : Nat} {sp : Nat → Bool} {held : Bool} {fuel : Nat}
end
def LawCallU (P : Program) (F : FuncId) (fn : Func) : Prop :=
 ∀ (H : Type) (enc : TypeId × Value → H) (W : World) (base : Nat) (args : Array Value) (ds : List (DataW H)) (p : List MemPlace),
  (∀ (j : Nat) t v, fn.params[j]? = some t → args[j]? = some v → Value.okWide P W .any base t v) →
  DataW.TrodAll enc P W 0 (fun _ => true) true fn.params.toList args.toList ds p →
  (DataW.weightsEach P fn.params.toList ds).all (· ≤ reachBytes) = true → Rows.uptoSmall H ds = true →
  Calls P F args W fun e W' => e = .returned (.bool true) ∧ Below W.heap.size W W'
theorem law_lifted_upto {C : Checked} {os : Os} {F : FuncId} {fn : Func} {s : ChangeSpec} {tb : TypeId} {H : Type} {enc : TypeId × Value → H} (hcall : LawCallU C.prog F fn)
 (own : ownKnob C.prog.godebug = none) (started : os.Started) (noInit : C.prog.inits.idxOf? F = none) (hfn : C.prog.funcs[F]? = some fn)
 (witness : ∃ (w : World) (tape : Tape) (i : Input), w.os = os ∧ (w.forCall tape i).Shaped C.prog ∧ i.vars = [] ∧ Input.okWide C.prog (w.forCall tape i) .any w.heap.size F i ∧
  (Rows.OpenSpec.upto s).pre6 enc C.prog fn [] false (w.forCall tape i).memory i.args ∧ Assume.holds {} C.prog (lone (Frame.enter C.prog F i.args .normal) [] (w.forCall tape i)))
 (hvars : s.vars = []) (hres : fn.resultTypes = #[tb]) (htb : C.prog.underlying tb = some .bool) (laid : laidOutB C.prog = true)
 (hread : ∀ t ∈ fn.params.toList, C.prog.readableRec t = true ∧ t < C.prog.types.size)
 (hspec : ∀ (ds : List (DataW H)), ds.length = fn.params.toList.length → (s.fn H ds).results = [.lit (.bool true)] ∧ (s.fn H ds).args = ds ∧ (s.fn H ds).vars = []) (Fi : Stop.Interp) :
 ReturnsInHanded {} C os F .any ((Rows.OpenSpec.upto s).pre6 enc C.prog fn [] false) (((Rows.OpenSpec.upto s).at Fi).post enc C.prog fn false true false false) := by
 refine returnsInHanded_of_cond_sized (C := C) (s := Rows.OpenSpec.upto s) (k := Rows.uptoSmall) rfl own started noInit hfn witness ?_
 intro W base args ds gs before hval hW _ hk hw _
 have hW' : DataW.Whole enc C.prog fn.params.toList s.vars false W args.toList ds gs before := hW
 obtain ⟨p, q, hA, hV, rfl, hfz, hnd⟩ := hW
 have hv0 : (Rows.OpenSpec.upto s).vars = [] := hvars
 rw [hv0] at hV
 obtain ⟨rfl, rfl⟩ := trodVars_none hV
 have hvt : s.plain.varTypes C.prog = [] := by
  show DataSpec.varTypes _ _ = []
  unfold DataSpec.varTypes ChangeSpec.plain
  simp [hvars]
 have hw' : (DataW.weightsEach C.prog (fn.params.toList ++ s.plain.varTypes C.prog) (ds ++ [])).all (· ≤ reachBytes) = true := hw
 rw [hvt, List.append_nil, List.append_nil] at hw'
 rw [List.append_nil] at hk
 have hlen : ∀ (ts : List TypeId) (vs : List Value) (ds : List (DataW H)) (p : List MemPlace), DataW.TrodAll enc C.prog W 0 (fun _ => true) true ts vs ds p → ds.length = ts.length := by
  intro ts
  induction ts with
  | nil => intro vs ds p h; cases vs <;> cases ds <;> first | rfl | exact h.elim
  | cons t ts ih =>
   intro vs ds p h
   cases vs with
   | nil => exact h.elim
   | cons v vs =>
    cases ds with
    | nil => exact h.elim
    | cons d ds => obtain ⟨p1, q1, _, h2, _⟩ := h; simp [ih _ _ _ h2]
 refine (hcall H enc W base args ds p hval hA hw' hk).mono fun e W' ⟨he, hb⟩ => ?_
 subst he
 obtain ⟨hs1, hs2, hs3⟩ := hspec ds (hlen _ _ _ _ hA)
 have hlt : ∀ x ∈ p, x.block < W.heap.size := fun x hx => hW'.lt x (by simpa using hx)
 have hstay : ∀ sp : Nat → Bool, (∀ x ∈ p, sp x.block = true) → DataW.TrodAll enc C.prog W' 0 sp true fn.params.toList args.toList ds p := fun sp hsp =>
  trodAll_stays laid _ _ _ _ hread hA (fun x hx => hb.same (hlt x hx)) hsp
 have post : s.post enc C.prog fn false true false false W args (.bool true) W' := by
  refine ⟨ds, [], p ++ [], [], p, [], hW', ?_, ?_, ?_, World.keptBut_mono (fun x hx => ⟨by simpa using hx, .inr (.inl (by simpa using hx))⟩) (hb.frame (· ∈ p)), fun h => by cases h⟩
  · rw [List.append_nil, hs1, hres]
    exact trodAll_mk1 (shut_bool htb true)
  · rw [List.append_nil, hs2]
    exact hstay _ fun x hx => by simpa using hlt x hx
  · rw [List.append_nil, hs3, hvars]
    rfl
 exact ⟨_, rfl, post⟩
end Go.Proofs.Ytfbjmeehmanjnaa
