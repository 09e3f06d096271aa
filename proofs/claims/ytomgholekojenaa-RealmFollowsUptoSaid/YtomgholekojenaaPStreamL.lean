/- Plain Lean: what the laws of streams share. Its conditions: none. -/
import Derived.Test.YtomgholekojenaaPFeed
import Derived.Test.YtomgholekojenaaPEq
namespace Go.Proofs.Ytomgholekojenaa
set_option linter.unusedVariables false
set_option linter.unusedSimpArgs false
variable {F : Nat} [Big F]

/-- A run of one record. -/
def oneE : DElem := ⟨⟨0, 0, 1⟩, 1, 0, ByteArray.mk #[97]⟩
theorem run_one : Run [oneE] := ⟨by simp, fun x hx => by rw [List.mem_singleton.1 hx]; decide, List.pairwise_singleton _ _⟩
theorem read_eq {l : List DElem} (h : Run l) {p a b : Int} (hl : lookE p a b = 0) : stream_Read F l p a b = some (ofL (strR l p a b), 0) := by
  have : readE l p a b = 0 := by unfold readE; rw [if_neg (by simpa using chkR_zero.2 h)]; exact hl
  rw [stream_Read_eq, this, if_pos rfl]; rfl
theorem str_size (b : List UInt8) : ((ofL b).size : Int) = (b.length : Int) := rfl
theorem feed_nil {l : List DElem} (h : Run l) {p a b : Int} (hl : lookE p a b = 0) : stream_Feed F [] (ofL (strR l p a b)) = some (freshR l p a b, 0) := by
  have hs := spots_of (h.fresh p a b).ord
  have := feed_str (F := F) h Run.nil hl (by rw [mergeR_nil hs]; exact h.fresh p a b)
  rw [mergeR_nil hs] at this
  exact this
theorem feed_nothing {l m : List DElem} (h : Run l) (hm : Run m) {p t : Int} (hl : lookE p t t = 0) : stream_Feed F m (ofL (strR l p t t)) = some (m, 0) := by
  obtain ⟨_, _, h3, _⟩ := lookE_zero.1 hl
  have hf := fresh_same (l := l) p t h3
  have := feed_str (F := F) h hm hl (by rw [hf]; exact hm)
  rw [hf] at this
  exact this
theorem bits_empty : seq (ofL []) (ByteArray.mk #[]) = true := (seq_iff _ _).2 rfl
end Go.Proofs.Ytomgholekojenaa
