/- From 'every call returns true and changes nothing that was there' to a law's statement; how arguments are opened. Its conditions: none. -/
import Derived.Test.YtcmkdoahkncakaaOpsQ
import Derived.Test.YtcmkdoahkncakaaRows
import Derived.ProofKit
import Derived.Below
import Derived.Deep.Slices
import Derived.SizedLaws
namespace Go.Proofs.Ytcmkdoahkncakaa
open Go.ChangeShapes Go.WideShapes Go.ChangeAt Go.RowKit
section
variable {H : Type} {enc : TypeId × Value → H} {P : Program}
theorem trodAll_stays (hl : laidOutB P = true) {W W' : World} {sp : Nat → Bool} : ∀ (ts : List TypeId) (vs : List Value) (ds : List (DataW H)) (p : List MemPlace),
 (∀ t ∈ ts, P.readableRec t = true ∧ t < P.types.size) → DataW.TrodAll enc P W 0 (fun _ => true) true ts vs ds p → (∀ x ∈ p, W.sameAt W' x) → (∀ x ∈ p, sp x.block = true) →
 DataW.TrodAll enc P W' 0 sp true ts vs ds p
 | [], [], [], _, _, h, _, _ => h
 | t :: ts, v :: vs, d :: ds, ps, ht, h, hs, hsp => by
  obtain ⟨p, q, h1, h2, rfl⟩ := h
  have hp : ∀ x ∈ p, x ∈ p ++ q := fun x hx => List.mem_append_left q hx
  have hq : ∀ x ∈ q, x ∈ p ++ q := fun x hx => List.mem_append_right p hx
  obtain ⟨hr, hlt⟩ := ht t (by simp)
  exact ⟨p, q, WideElems.Trod_stays hl hr hlt h1 (fun x hx => hs x (hp x hx)) (fun x hx => hsp x (hp x hx)),
   trodAll_stays hl ts vs ds q (fun t' h' => ht t' (by simp [h'])) h2 (fun x hx => hs x (hq x hx)) (fun x hx => hsp x (hq x hx)), rfl⟩
 | [], _ :: _, _, _, _, h, _, _ => h.elim
 | [], [], _ :: _, _, _, h, _, _ => h.elim
 | _ :: _, [], _, _, _, h, _, _ => h.elim
 | _ :: _, _ :: _, [], _, _, h, _, _ => h.elim
end
def LawCall (P : Program) (F : FuncId) (fn : Func) : Prop :=
 ∀ (H : Type) (enc : TypeId × Value → H) (W : World) (base : Nat) (args : Array Value) (ds : List (DataW H)) (p : List MemPlace),
  (∀ (j : Nat) t v, fn.params[j]? = some t → args[j]? = some v → Value.okWide P W .any base t v) →
  DataW.TrodAll enc P W 0 (fun _ => true) true fn.params.toList args.toList ds p →
  (DataW.weightsEach P fn.params.toList ds).all (· ≤ reachBytes) = true →
  Calls P F args W fun e W' => e = .returned (.bool true) ∧ Below W.heap.size W W'
theorem law_lifted {C : Checked} {os : Os} {F : FuncId} {fn : Func} {s : ChangeSpec} {tb : TypeId} {H : Type} {enc : TypeId × Value → H} (hcall : LawCall C.prog F fn)
 (own : ownKnob C.prog.godebug = none) (started : os.Started) (noInit : C.prog.inits.idxOf? F = none) (hfn : C.prog.funcs[F]? = some fn)
 (witness : ∃ (w : World) (tape : Tape) (i : Input), w.os = os ∧ (w.forCall tape i).Shaped C.prog ∧ i.vars = [] ∧ Input.okWide C.prog (w.forCall tape i) .any w.heap.size F i ∧
  s.pre6 enc C.prog fn [] false (w.forCall tape i).memory i.args ∧ Assume.holds {} C.prog (lone (Frame.enter C.prog F i.args .normal) [] (w.forCall tape i)))
 (hvars : s.vars = []) (hres : fn.resultTypes = #[tb]) (htb : C.prog.underlying tb = some .bool) (laid : laidOutB C.prog = true)
 (hread : ∀ t ∈ fn.params.toList, C.prog.readableRec t = true ∧ t < C.prog.types.size)
 (hspec : ∀ (ds : List (DataW H)), ds.length = fn.params.toList.length → (s.fn H ds).results = [.lit (.bool true)] ∧ (s.fn H ds).args = ds ∧ (s.fn H ds).vars = []) :
 ReturnsInHanded {} C os F .any (s.pre6 enc C.prog fn [] false) (s.post enc C.prog fn false true false false) := by
 refine returnsInHanded_of_change_sized (C := C) own started noInit hfn witness ?_
 intro W base args ds gs before hval hW _ hw _
 have hW' := hW
 obtain ⟨p, q, hA, hV, rfl, hfz, hnd⟩ := hW
 rw [hvars] at hV
 obtain ⟨rfl, rfl⟩ := trodVars_none hV
 have hvt : s.plain.varTypes C.prog = [] := by
  show DataSpec.varTypes _ _ = []
  unfold DataSpec.varTypes ChangeSpec.plain
  simp [hvars]
 rw [hvt, List.append_nil, List.append_nil] at hw
 have hlen : ∀ (ts : List TypeId) (vs : List Value) (ds : List (DataW H)) (p : List MemPlace), DataW.TrodAll enc C.prog W 0 (fun _ => true) true ts vs ds p → ds.length = ts.length := by
  intro ts
  induction ts with
  | nil => intro vs ds p h; cases vs <;> cases ds <;> first | rfl | exact h.elim
  | cons t ts ih =>
   intro vs ds p h
   cases vs with
   | nil => exact h.elim
   | cons v vs =>
    cases ds with
    | nil => exact h.elim
    | cons d ds => obtain ⟨p1, q1, _, h2, _⟩ := h; simp [ih _ _ _ h2]
 refine (hcall H enc W base args ds p hval hA hw).mono fun e W' ⟨he, hb⟩ => ?_
 subst he
 obtain ⟨hs1, hs2, hs3⟩ := hspec ds (hlen _ _ _ _ hA)
 have hlt : ∀ x ∈ p, x.block < W.heap.size := fun x hx => hW'.lt x (by simpa using hx)
 have hstay : ∀ sp : Nat → Bool, (∀ x ∈ p, sp x.block = true) → DataW.TrodAll enc C.prog W' 0 sp true fn.params.toList args.toList ds p := fun sp hsp =>
  trodAll_stays laid _ _ _ _ hread hA (fun x hx => hb.same (hlt x hx)) hsp
 refine ⟨_, rfl, ds, [], p ++ [], [], p, [], hW', ?_, ?_, ?_, World.keptBut_mono (fun x hx => ⟨by simpa using hx, .inr (.inl (by simpa using hx))⟩) (hb.frame (· ∈ p)), fun h => by cases h⟩
 · rw [List.append_nil, hs1, hres]
   exact trodAll_mk1 (shut_bool htb true)
 · rw [List.append_nil, hs2]
   exact hstay _ fun x hx => by simpa using hlt x hx
 · rw [List.append_nil, hs3, hvars]
   rfl
section
variable {H : Type} {enc : TypeId × Value → H} {P : Program} {w : World} {base : Nat} {spare : Nat → Bool} {held : Bool}
end
def okInt (k : IntKind) (n : Int) : Prop := (Lit.int k n).wf = true
section
variable {P : Program} {t : TypeId}
end
end Go.Proofs.Ytcmkdoahkncakaa
