/- A law over listed library variables: from its call to the row's statement. Its conditions: none. -/
import Derived.Test.YtaccejbajgmdnaaDoorLaw
import Derived.Test.YtaccejbajgmdnaaDoorErr
import Derived.Test.YtaccejbajgmdnaaDoorTie
import Derived.Test.YtaccejbajgmdnaaDoorCards
import Derived.Deep.DeepHandedRow
import Derived.Deep.DeepWitnessRowRef
import Derived.LaidMore
import Derived.MakeChecks
import Derived.Stop.LaidErr
import Derived.SevenTiedAt
import Derived.Shelf.Vars
namespace Go.Proofs.YtaccejbajgmdnaaDoor
open Go.ChangeShapes Go.WideShapes Go.ChangeAt Go.RowKit
set_option linter.unusedVariables false

/-- What a call of a law must be shown to do, where the library's variables hold what they should. -/
def LawCallG (P : Program) (F : FuncId) (fn : Func) : Prop :=
  ∀ (H : Type) (enc : TypeId × Value → H) (W : World) (base : Nat) (args : Array Value) (ds : List (DataW H)) (p : List MemPlace),
    (∀ (j : Nat) t v, fn.params[j]? = some t → args[j]? = some v → Value.okWide P W .any base t v) →
    DataW.TrodAll enc P W 0 (fun _ => true) true fn.params.toList args.toList ds p →
    (DataW.weightsEach P fn.params.toList ds).all (· ≤ reachBytes) = true → Glob W →
    Calls P F args W fun e W' => e = .returned (.bool true) ∧ Below W.heap.size W W'

theorem law_lifted_laid {C : Checked} {os : Os} {F : FuncId} {fn : Func} {s : ChangeSpec} {tb : TypeId} {H : Type} {enc : TypeId × Value → H} {lst : List (String × DataW Unit)} (hcall : LawCallG C.prog F fn)
    (hglob : ∀ W : World, W.ShapedOpen C.prog → laidMetH C.prog lst W → Glob W)
    (own : ownKnob C.prog.godebug = none) (started : os.Started) (noInit : C.prog.inits.idxOf? F = none) (hfn : C.prog.funcs[F]? = some fn)
    (witness : ∃ (w : World) (tape : Tape) (i : Input), w.os = os ∧ (w.forCall tape i).Shaped C.prog ∧ i.vars = [] ∧ Input.okWide C.prog (w.forCall tape i) .any w.heap.size F i ∧
      (OpenSpec.ofChange s).preRow enc C.prog fn [] false lst (w.forCall tape i).memory i.args ∧ Assume.holds {} C.prog (lone (Frame.enter C.prog F i.args .normal) [] (w.forCall tape i)))
    (hvars : s.vars = []) (hres : fn.resultTypes = #[tb]) (htb : C.prog.underlying tb = some .bool) (laid : laidOutB C.prog = true)
    (hread : ∀ t ∈ fn.params.toList, C.prog.readableRec t = true ∧ t < C.prog.types.size)
    (hspec : ∀ (ds : List (DataW H)), ds.length = fn.params.toList.length → (s.fn H ds).results = [.lit (.bool true)] ∧ (s.fn H ds).args = ds ∧ (s.fn H ds).vars = []) (Fi : Stop.Interp) :
    ReturnsInHanded {} C os F .any ((OpenSpec.ofChange s).preRow enc C.prog fn [] false lst) (((OpenSpec.ofChange s).at Fi).post enc C.prog fn false true false false) := by
  refine returnsInHanded_of_row (C := C) (s := OpenSpec.ofChange s) own started noInit hfn witness ?_
  intro W base args ds gs before hval hW _ _ hw hL hsh _
  have hW' : DataW.Whole enc C.prog fn.params.toList s.vars false W args.toList ds gs before := hW
  obtain ⟨p, q, hA, hV, rfl, hfz, hnd⟩ := hW
  have hv0 : (OpenSpec.ofChange s).vars = [] := hvars
  rw [hv0] at hV
  obtain ⟨rfl, rfl⟩ := trodVars_none hV
  have hvt : s.plain.varTypes C.prog = [] := by
    show DataSpec.varTypes _ _ = []
    unfold DataSpec.varTypes ChangeSpec.plain
    simp [hvars]
  have hw' : (DataW.weightsEach C.prog (fn.params.toList ++ s.plain.varTypes C.prog) (ds ++ [])).all (· ≤ reachBytes) = true := hw
  rw [hvt, List.append_nil, List.append_nil] at hw'
  have hlen : ∀ (ts : List TypeId) (vs : List Value) (ds : List (DataW H)) (p : List MemPlace), DataW.TrodAll enc C.prog W 0 (fun _ => true) true ts vs ds p → ds.length = ts.length := by
    intro ts
    induction ts with
    | nil => intro vs ds p h; cases vs <;> cases ds <;> first | rfl | exact h.elim
    | cons t ts ih =>
      intro vs ds p h
      cases vs with
      | nil => exact h.elim
      | cons v vs =>
        cases ds with
        | nil => exact h.elim
        | cons d ds => obtain ⟨p1, q1, _, h2, _⟩ := h; simp [ih _ _ _ h2]
  refine (hcall H enc W base args ds p hval hA hw' (hglob W hsh hL)).mono fun e W' ⟨he, hb⟩ => ?_
  subst he
  obtain ⟨hs1, hs2, hs3⟩ := hspec ds (hlen _ _ _ _ hA)
  have hlt : ∀ x ∈ p, x.block < W.heap.size := fun x hx => hW'.lt x (by simpa using hx)
  have hstay : ∀ sp : Nat → Bool, (∀ x ∈ p, sp x.block = true) → DataW.TrodAll enc C.prog W' 0 sp true fn.params.toList args.toList ds p := fun sp hsp =>
    trodAll_stays laid _ _ _ _ hread hA (fun x hx => hb.same (hlt x hx)) hsp
  have post : s.post enc C.prog fn false true false false W args (.bool true) W' := by
    refine ⟨ds, [], p ++ [], [], p, [], hW', ?_, ?_, ?_, World.keptBut_mono (fun x hx => ⟨by simpa using hx, .inr (.inl (by simpa using hx))⟩) (hb.frame (· ∈ p)), fun h => by cases h⟩
    · rw [List.append_nil, hs1, hres]
      exact trodAll_mk1 (shut_bool htb true)
    · rw [List.append_nil, hs2]
      exact hstay _ fun x hx => by simpa using hlt x hx
    · rw [List.append_nil, hs3, hvars]
      rfl
  exact ⟨_, rfl, post⟩

/-! ### What the list gives -/
theorem cell_of_var {W : World} {n : String} {g : Nat} {v : Value} (hg : Tryd.prog.globalNamed n = some g) (h : W.var? Tryd.prog n = some #[v]) : W.cell? ⟨g, 0, none⟩ = some v := by
  have h0 := World.var?_cell hg h 0
  simpa using h0
theorem card_glob {W : World} (hsh : W.ShapedOpen Tryd.prog) (h : laidMetH Tryd.prog Rows.dirOthersRow.laid W) : Glob W := by
  rw [MakeChecks.laidMetH_plain _ _ _ (by kernel_rfl)] at h
  have h3 := h.tail.tail
  have h4 := h3.tail
  have h5 := h4.tail
  have hrow : ∀ u, Tryd.prog.typeName? 3 u = some ("*" ++ "errors.errorString") → u = 161 := fun u hu => typeName_ptr_named (nm := "errors.errorString") (by kernel_rfl) (by kernel_rfl) (by decide) u hu
  obtain ⟨a, s, hv, -, -, -⟩ := laid_sentinel h4 (g := 3) (by kernel_rfl) (ti := 72) (by kernel_rfl) Tryd.underlying72 (tp := 161) (fun u hu => hrow u (hu.trans (congrArg some (by decide)))) Tryd.underlying161 Tryd.underlying163 rfl rfl Tryd.underlying9 (by kernel_rfl) (by kernel_rfl)
  obtain ⟨a', s', hv', -, -, -⟩ := laid_sentinel h5 (g := 2) (by kernel_rfl) (ti := 72) (by kernel_rfl) Tryd.underlying72 (tp := 161) (fun u hu => hrow u (hu.trans (congrArg some (by decide)))) Tryd.underlying161 Tryd.underlying163 rfl rfl Tryd.underlying9 (by kernel_rfl) (by kernel_rfl)
  refine ⟨?_, cell_of_shapedOpen_int (zero := #[.int .i64 0]) (t := 3) hsh (of_decide_eq_true (by kernel_rfl)) (by kernel_rfl) rfl (by kernel_rfl) (by kernel_rfl) Tryd.underlying3, ⟨161, _, cell_of_var (by kernel_rfl) hv'⟩, ⟨161, _, cell_of_var (by kernel_rfl) hv⟩⟩
  have ed : (Rows.laid_internal_strconv_uint64pow10 : DataW Unit) = Lib.tabData .u64 Lib.pow10Tab := by kernel_rfl
  have h3' := h3
  exact Lib.tabIs_of_head (g := 1) (t := 151) (e := 84) (n := 20) (by kernel_rfl) (by kernel_rfl) Tryd.underlying151 Tryd.underlying84 (by kernel_rfl) (by kernel_rfl) (rest := (Rows.dirOthersRow.laid.drop 3)) (by rw [← ed]; exact h3')
end Go.Proofs.YtaccejbajgmdnaaDoor
