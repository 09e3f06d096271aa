/- Plain Lean: what a text in blocks answers. Its conditions: none. -/
import Derived.Test.YtaodaihoglcinacPFile
import Derived.Test.YtaodaihoglcinacBytes
namespace Go.Proofs.Ytaodaihoglcinac
set_option linter.unusedVariables false
set_option linter.unusedSimpArgs false
variable {F : Nat} [Big F]
section
variable {l m : List DElem} {p o : Int} {s : ByteArray} {t : Int}
/-- The text after a setting, block for block. -/
theorem set_want (h : setE l p o s t = 0) (hm : DoSpec l (setC l p o s) t m) {u : Int} (hu : t ≤ u) {i : Nat} (hi : i < 20) : vAt m (bkF p o i) u = want s i := by
  obtain ⟨hr, hk, hs, t0, t1, tl⟩ := setE_zero.1 h
  rw [hm.late hr (setC_ord l p o s) tl t0 t1 hu, setC_at hi]
  unfold dif
  split
  · rename_i he
    split at he
    · assumption
    · cases he
  · rename_i c he
    split at he
    · cases he
    · obtain rfl := Option.some.inj he
      rw [to_of]
theorem set_past (hm : DoSpec l (setC l p o s) t m) {u : Int} (hu : u < t) (p' o' : Int) : content m p' o' u = content l p' o' u := by
  unfold content contentTo
  simp only [hm.past hu]
theorem set_hist (hm : DoSpec l (setC l p o s) t m) {p' o' : Int} (hne : ¬ (p' = p ∧ o' = o)) (i : Nat) : hist m (bkF p' o' i) = hist l (bkF p' o' i) := by
  rw [hm.at_, setC_other (fun j hj e => hne ?_)]
  · rfl
  · have h1 := congrArg DKey.pfs e
    have h2 := congrArg DKey.obj e
    exact ⟨h1, h2⟩
theorem set_other (hm : DoSpec l (setC l p o s) t m) {p' o' : Int} (hne : ¬ (p' = p ∧ o' = o)) (u : Int) : content m p' o' u = content l p' o' u := by
  unfold content contentTo
  have : ∀ i, vAt m (bkF p' o' i) u = vAt l (bkF p' o' i) u := fun i => by
    unfold vAt; rw [atR_hist, atR_hist, set_hist hm hne]
  simp only [this]
/-- The blocks of a text, put together. -/
def gather (s : ByteArray) (n : Nat) : ByteArray := (List.range n).foldl (fun a i => a ++ (want s i).getD e0) e0
theorem append_e0 (s : ByteArray) : s ++ e0 = s := by
  apply ByteArray.ext; show (s ++ e0).data = _
  rw [ByteArray.data_append]; show s.data ++ #[] = _; simp
theorem gather_eq (s : ByteArray) : ∀ n, gather s n = s.extract 0 (min (16 * n) s.size)
  | 0 => by
    rw [show min (16 * 0) s.size = 0 by omega]
    show e0 = _
    apply ByteArray.ext
    rw [ByteArray.data_extract]
    simp [e0]
  | n + 1 => by
    have : gather s (n + 1) = gather s n ++ (want s n).getD e0 := by unfold gather; rw [List.range_succ, List.foldl_append]; rfl
    rw [this, gather_eq s n]
    unfold want
    split
    · rw [Option.getD_some, show min (16 * n) s.size = 16 * n by omega, ByteArray.extract_append_extract]
      congr 1 <;> omega
    · rw [Option.getD_none, append_e0, show min (16 * n) s.size = min (16 * (n + 1)) s.size by omega]
theorem extract_all (s : ByteArray) : s.extract 0 s.size = s := by
  apply ByteArray.ext
  rw [ByteArray.data_extract]
  show s.data.extract 0 s.data.size = _
  simp
theorem content_want {u : Int} (hs : s.size ≤ 320) (h : ∀ i, i < 20 → vAt m (bkF p o i) u = want s i) : content m p o u = s := by
  have h1 : content m p o u = gather s 20 := by
    unfold content contentTo gather
    have : ∀ (L : List Nat) (a : ByteArray), (∀ i ∈ L, i < 20) → L.foldl (fun a i => a ++ (vAt m (bkF p o i) u).getD e0) a = L.foldl (fun a i => a ++ (want s i).getD e0) a := by
      intro L
      induction L with
      | nil => intro a _; rfl
      | cons x L ih =>
        intro a hL
        rw [List.foldl_cons, List.foldl_cons, h x (hL x List.mem_cons_self)]
        exact ih _ fun i hi => hL i (List.mem_cons_of_mem _ hi)
    exact this _ _ fun i hi => List.mem_range.1 hi
  rw [h1, gather_eq, show min (16 * 20) s.size = s.size by omega, extract_all]
theorem set_content (h : setE l p o s t = 0) (hm : DoSpec l (setC l p o s) t m) {u : Int} (hu : t ≤ u) : content m p o u = s :=
  content_want (setE_zero.1 h).2.2.1 fun i hi => set_want h hm hu hi
end
/-- A setting that succeeds by looking. -/
theorem file_Set_is {l : List DElem} {p o : Int} {s : ByteArray} {t : Int} (h : setE l p o s t = 0) {m : List DElem} (hm : foldE (doStep t) l (setC l p o s) = .inl m) : DoSpec l (setC l p o s) t m ∧ file_Set F l p o s t = some (m, 0) := by
  rw [file_Set_eq, if_neg (by simpa using h), hm]
  refine ⟨?_, rfl⟩
  obtain ⟨hr, hk, hs, t0, t1, tl⟩ := setE_zero.1 h
  have gc := setC_good hr hk s
  rcases do_fold (fun c hc => ⟨gc.key c hc, gc.val c hc, gc.form c hc, gc.dif c hc⟩) gc.ord (show DoPre l (setC l p o s) t from ⟨hr, tl, t0, t1, setC_had⟩) with h4 | ⟨m', h4, h5⟩
  · rw [hm] at h4; cases h4
  · rw [hm] at h4; cases h4; exact h5
theorem set_nil {p o : Int} {s : ByteArray} {t : Int} (hp : chkK (bkF p o 0) = 0) (hs : s.size ≤ 320) (h0 : 1 ≤ t) (h1 : t ≤ 2147483647) : setE [] p o s t = 0 := setE_zero.2 ⟨Run.nil, hp, hs, h0, h1, by rw [show lastL [] = 0 from rfl]; omega⟩
theorem set_next {l m : List DElem} {p o : Int} {s s' : ByteArray} {t t' : Int} (h : setE l p o s t = 0) (hm : DoSpec l (setC l p o s) t m) (hs : s'.size ≤ 320) (h0 : t ≤ t') (h1 : t' ≤ 2147483647) : setE m p o s' t' = 0 :=
  setE_zero.2 ⟨hm.run, (setE_zero.1 h).2.1, hs, by have := (setE_zero.1 h).2.2.2.1; omega, h1, Int.le_trans hm.last h0⟩
theorem look_set {l m : List DElem} {p o : Int} {s : ByteArray} {t : Int} (h : setE l p o s t = 0) (hm : DoSpec l (setC l p o s) t m) : lookF l p o = 0 ∧ lookF m p o = 0 :=
  ⟨lookF_zero.2 ⟨(setE_zero.1 h).1, (setE_zero.1 h).2.1⟩, lookF_zero.2 ⟨hm.run, (setE_zero.1 h).2.1⟩⟩
theorem look_ok {l : List DElem} (hr : Run l) {p o : Int} (hp : 0 ≤ p) (hp' : p ≤ 3) (ho : 0 ≤ o) (ho' : o ≤ 1048576) : lookF l p o = 0 := lookF_zero.2 ⟨hr, by unfold chkK bkF; rw [if_neg]; dsimp only; omega⟩
theorem e0_ofL : e0 = ofL [] := rfl
/-- A text with a part written over. -/
def patched (C S : List UInt8) (a : Nat) : List UInt8 := C.take a ++ S ++ C.drop (a + S.length)
theorem content_run {l : List DElem} {p o t : Int} (h : lookF l p o = 0) : (content l p o t).size ≤ 800 := by
  have := contentTo_size (lookF_zero.1 h).1 p o t 20
  unfold content; omega
theorem setC_nil {l : List DElem} {p o : Int} {s : ByteArray} (h : ∀ i, i < 20 → nowV l (bkF p o i) = want s i) : setC l p o s = [] := by
  unfold setC
  rw [List.filterMap_eq_nil_iff]
  intro i hi
  unfold dif
  rw [if_pos (h i (List.mem_range.1 hi))]
end Go.Proofs.Ytaodaihoglcinac
