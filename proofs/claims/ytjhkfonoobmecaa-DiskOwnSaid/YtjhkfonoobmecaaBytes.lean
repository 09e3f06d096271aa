/- Plain Lean: bytes as lists, loops that count. Its conditions: none. -/
import Derived.Test.YtjhkfonoobmecaaOps
namespace Go.Proofs.Ytjhkfonoobmecaa
set_option linter.unusedVariables false
set_option linter.unusedSimpArgs false

/-! ### Bytes -/
def ofL (l : List UInt8) : ByteArray := ⟨l.toArray⟩
theorem ofL_toList (s : ByteArray) : ofL s.data.toList = s := rfl
theorem exists_ofL (s : ByteArray) : ∃ l, s = ofL l := ⟨s.data.toList, rfl⟩
@[simp] theorem ofL_size (l : List UInt8) : (ofL l).size = l.length := rfl
theorem ofL_inj {a b : List UInt8} : ofL a = ofL b ↔ a = b := by
  constructor
  · intro h
    have := congrArg (fun s : ByteArray => s.data.toList) h
    simpa [ofL] using this
  · rintro rfl; rfl
theorem mk_ofL (l : List UInt8) : (ByteArray.mk l.toArray) = ofL l := rfl
theorem sidx_ofL (l : List UInt8) (i : Int) : sidx (ofL l) i = if 0 ≤ i then l[i.toNat]? else none := by
  unfold sidx
  split
  · show (if h : i.toNat < l.toArray.size then some l.toArray[i.toNat] else none) = _
    by_cases hi : i.toNat < l.length
    · rw [dif_pos (by simpa using hi), List.getElem?_eq_getElem hi]; rfl
    · rw [dif_neg (by simpa using hi), List.getElem?_eq_none (by omega)]
  · rfl
theorem ofL_append (a b : List UInt8) : ofL a ++ ofL b = ofL (a ++ b) := by
  have : (ofL a ++ ofL b).data = (ofL (a ++ b)).data := by
    rw [ByteArray.data_append]; simp [ofL]
  exact ByteArray.ext this
theorem scat_ofL {a b : List UInt8} (h : a.length + b.length ≤ 9223372036854775807) : scat (ofL a) (ofL b) = some (ofL (a ++ b)) := by
  unfold scat
  rw [if_pos (by simpa using h), ofL_append]
theorem ofL_extract (l : List UInt8) (lo hi : Nat) : (ofL l).extract lo hi = ofL ((l.take hi).drop lo) := by
  apply ByteArray.ext
  rw [ByteArray.data_extract]
  simp [ofL, List.extract, List.drop_take]
theorem sslice_ofL {l : List UInt8} {lo hi : Int} (h0 : 0 ≤ lo) (h1 : lo ≤ hi) (h2 : hi ≤ l.length) : sslice (ofL l) lo hi = some (ofL ((l.take hi.toNat).drop lo.toNat)) := by
  unfold sslice
  rw [if_pos ⟨h0, h1, by simpa using h2⟩, ofL_extract]
theorem seq_ofL (a b : List UInt8) : seq (ofL a) (ofL b) = (a == b) := by
  rw [Bool.eq_iff_iff, seq_iff, ofL_inj]; simp
theorem bytesOf_eq (l : List Int) : bytesOf l = ofL (l.map fun n => UInt8.ofNat n.toNat) := by
  have key : ∀ (l : List Int) (s : ByteArray), l.foldl (fun s n => s.push (UInt8.ofNat n.toNat)) s = ofL (s.data.toList ++ l.map fun n => UInt8.ofNat n.toNat) := by
    intro l
    induction l with
    | nil => intro s; simp [ofL]
    | cons n l ih =>
      intro s
      rw [List.foldl_cons, ih]
      congr 1
      simp
  simpa [bytesOf] using key l ByteArray.empty
theorem listOf_ofL (l : List UInt8) : listOf (ofL l) = l.map fun b => (b.toNat : Int) := rfl
theorem bytesOf_listOf (l : List UInt8) : bytesOf (l.map fun b => (b.toNat : Int)) = ofL l := by
  rw [bytesOf_eq, List.map_map]
  congr 1
  have : (fun b : UInt8 => UInt8.ofNat ((b.toNat : Int)).toNat) = id := by funext b; simp
  rw [show (fun n : Int => UInt8.ofNat n.toNat) ∘ (fun b : UInt8 => (b.toNat : Int)) = id from this, List.map_id]

/-! ### Steps that the kernel need not unfold -/
theorem obind {α β : Type} (a : α) (f : α → Option β) : (some a).bind f = f a := by
  have h : ∀ o : Option α, o = some a → o.bind f = f a := fun o ho => by rw [ho]; rfl
  exact h _ rfl
theorem ctrue {α : Type} (a b : α) : (bif true then a else b) = a := by
  have h : ∀ c : Bool, c = true → (bif c then a else b) = a := fun c hc => by rw [hc]; rfl
  exact h _ rfl
theorem cfalse {α : Type} (a b : α) : (bif false then a else b) = b := by
  have h : ∀ c : Bool, c = false → (bif c then a else b) = b := fun c hc => by rw [hc]; rfl
  exact h _ rfl

/-! ### Loops -/
theorem iter_run {σ ρ : Type} {f : σ → Option (σ ⊕ ρ)} (g : Nat → σ) {r : ρ} : ∀ (n : Nat) (N : Nat), (∀ k, k < n → f (g k) = some (.inl (g (k + 1)))) → f (g n) = some (.inr r) → n < N → iter f N (g 0) = some r
  | 0, N, _, he, hN => by
    obtain ⟨N, rfl⟩ : ∃ M, N = M + 1 := ⟨N - 1, by omega⟩
    rw [iter, he]
  | n + 1, N, hs, he, hN => by
    obtain ⟨N, rfl⟩ : ∃ M, N = M + 1 := ⟨N - 1, by omega⟩
    rw [iter, hs 0 (by omega)]
    exact iter_run (fun k => g (k + 1)) n N (fun k hk => hs (k + 1) (by omega)) he (by omega)
theorem iter_FUEL {σ ρ : Type} {f : σ → Option (σ ⊕ ρ)} (g : Nat → σ) {r : ρ} (n : Nat) (hs : ∀ k, k < n → f (g k) = some (.inl (g (k + 1)))) (he : f (g n) = some (.inr r)) (hn : n < FUEL) {s : σ} (h0 : s = g 0) : iter f FUEL s = some r := by
  rw [h0]; exact iter_run g n FUEL hs he hn

/-- A loop that may be left at each round. -/
theorem iter_scan {σ ρ : Type} {f : σ → Option (σ ⊕ ρ)} (g : Nat → σ) (W : Nat → Option ρ) (n : Nat) {res : ρ} (hs : ∀ k, k < n → f (g k) = some (match W k with | some r => .inr r | none => .inl (g (k + 1)))) (he : f (g n) = some (.inr res)) :
    ∀ (m k N : Nat), k + m = n → m < N → iter f N (g k) = some (((List.range' k m).findSome? W).getD res)
  | 0, k, N, hk, hN => by
    obtain ⟨N, rfl⟩ : ∃ M, N = M + 1 := ⟨N - 1, by omega⟩
    rw [iter, show k = n by omega, he]; rfl
  | m + 1, k, N, hk, hN => by
    obtain ⟨N, rfl⟩ : ∃ M, N = M + 1 := ⟨N - 1, by omega⟩
    rw [iter, hs k (by omega), List.range'_succ, List.findSome?_cons]
    cases hW : W k with
    | some r => rfl
    | none => exact iter_scan g W n hs he m (k + 1) N (by omega) (by omega)
theorem lt_FUEL {n : Nat} (h : n ≤ 9223372036854775807) : n < FUEL := by unfold FUEL; omega
theorem iter_bind {σ ρ τ : Type} {f : σ → Option (σ ⊕ ρ)} {k : ρ → Option τ} {q : τ} (g : Nat → σ) {r : ρ} (n : Nat) {s : σ} (hn : n ≤ 9223372036854775807) (h0 : s = g 0) (hk : k r = some q) (hs : ∀ k, k < n → f (g k) = some (.inl (g (k + 1)))) (he : f (g n) = some (.inr r)) :
    (iter f FUEL s).bind k = some q := by
  rw [iter_FUEL g n hs he (lt_FUEL hn) h0]; exact hk
theorem wrap64 {n : Int} (h0 : -9223372036854775808 ≤ n) (h1 : n ≤ 9223372036854775807) : IntKind.i64.wrap n = n := by
  rw [IntKind.wrap_i64]
  omega
theorem wrapu8 (n : Int) : IntKind.u8.wrap n = n % 256 := by simp [IntKind.wrap, IntKind.bits, IntKind.signed]
theorem wrapu16 (n : Int) : IntKind.u16.wrap n = n % 65536 := by simp [IntKind.wrap, IntKind.bits, IntKind.signed]
theorem wrapu64 (n : Int) : IntKind.u64.wrap n = n % 18446744073709551616 := by simp [IntKind.wrap, IntKind.bits, IntKind.signed]
theorem u8_lt (b : UInt8) : (b.toNat : Int) < 256 := by have := b.toNat_lt; omega
end Go.Proofs.Ytjhkfonoobmecaa
