/- Plain Lean: bytes as lists, loops that count. Its conditions: none. -/
import Derived.Test.YtacjdfhllomccaaGreatDoorOpsJ
namespace Go.Proofs.YtacjdfhllomccaaGreatDoor
set_option linter.unusedVariables false
set_option linter.unusedSimpArgs false
def ofL (l : List UInt8) : ByteArray := ⟨l.toArray⟩
theorem ofL_toList (s : ByteArray) : ofL s.data.toList = s := rfl
@[simp] theorem ofL_size (l : List UInt8) : (ofL l).size = l.length := rfl
theorem ofL_inj {a b : List UInt8} : ofL a = ofL b ↔ a = b := by
 constructor
 · intro h
   have := congrArg (fun s : ByteArray => s.data.toList) h
   simpa [ofL] using this
 · rintro rfl; rfl
theorem sidx_ofL (l : List UInt8) (i : Int) : sidx (ofL l) i = if 0 ≤ i then l[i.toNat]? else none := by
 unfold sidx
 split
 · show (if h : i.toNat < l.toArray.size then some l.toArray[i.toNat] else none) = _
   by_cases hi : i.toNat < l.length
   · rw [dif_pos (by simpa using hi), List.getElem?_eq_getElem hi]; rfl
   · rw [dif_neg (by simpa using hi), List.getElem?_eq_none (by omega)]
 · rfl
theorem ofL_append (a b : List UInt8) : ofL a ++ ofL b = ofL (a ++ b) := by
 have : (ofL a ++ ofL b).data = (ofL (a ++ b)).data := by
  rw [ByteArray.data_append]; simp [ofL]
 exact ByteArray.ext this
theorem scat_ofL {a b : List UInt8} (h : a.length + b.length ≤ 9223372036854775807) : scat (ofL a) (ofL b) = some (ofL (a ++ b)) := by
 unfold scat
 rw [if_pos (by simpa using h), ofL_append]
theorem ofL_extract (l : List UInt8) (lo hi : Nat) : (ofL l).extract lo hi = ofL ((l.take hi).drop lo) := by
 apply ByteArray.ext
 rw [ByteArray.data_extract]
 simp [ofL, List.extract, List.drop_take]
theorem sslice_ofL {l : List UInt8} {lo hi : Int} (h0 : 0 ≤ lo) (h1 : lo ≤ hi) (h2 : hi ≤ l.length) : sslice (ofL l) lo hi = some (ofL ((l.take hi.toNat).drop lo.toNat)) := by
 unfold sslice
 rw [if_pos ⟨h0, h1, by simpa using h2⟩, ofL_extract]
theorem seq_ofL (a b : List UInt8) : seq (ofL a) (ofL b) = (a == b) := by
 rw [Bool.eq_iff_iff, seq_iff, ofL_inj]; simp
theorem obind {α β : Type} (a : α) (f : α → Option β) : (some a).bind f = f a := by
 have h : ∀ o : Option α, o = some a → o.bind f = f a := fun o ho => by rw [ho]; rfl
 exact h _ rfl
theorem wrap64 {n : Int} (h0 : -9223372036854775808 ≤ n) (h1 : n ≤ 9223372036854775807) : IntKind.i64.wrap n = n := by
 rw [IntKind.wrap_i64]
 omega
theorem wrapu16 (n : Int) : IntKind.u16.wrap n = n % 65536 := by simp [IntKind.wrap, IntKind.bits, IntKind.signed]
theorem wrapu64 (n : Int) : IntKind.u64.wrap n = n % 18446744073709551616 := by simp [IntKind.wrap, IntKind.bits, IntKind.signed]
end Go.Proofs.YtacjdfhllomccaaGreatDoor
