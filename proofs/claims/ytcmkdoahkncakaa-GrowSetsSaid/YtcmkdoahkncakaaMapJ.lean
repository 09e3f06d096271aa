/- The program logic's rules for maps from whole numbers to strings that the call has made. Its conditions: none. -/
import Derived.Test.YtcmkdoahkncakaaOpsJ
import Derived.MapKept
namespace Go.Proofs.Ytcmkdoahkncakaa
open Go.RowKit

/-- What a map's entries say. -/
def MapRep (es : Array MapEntry) (l : List (Int × ByteArray)) : Prop := es.toList.map (fun e => (e.key, e.val)) = l.map fun p => (Value.int .i64 p.1, Value.string p.2)
/-- A map of the call's own. -/
def mapo (b : Nat) (l : List (Int × ByteArray)) : HObj where
  own := fun b' => some b = some b'
  ok := fun _ w => ∃ es clock, w.heap[b]? = some (.map es clock) ∧ MapRep es l
  loc := fun _ w w' h ⟨es, c, h1, h2⟩ => ⟨es, c, by rw [h b rfl]; exact h1, h2⟩
  mono := fun _ _ _ _ h => h
  lt := fun _ w b' ⟨es, c, h1, _⟩ hb => by injection hb with hb; subst hb; exact lt_of_heap h1
/-- The first entry of a key: its place, its value. -/
def mfind (k : Int) : List (Int × ByteArray) → Nat → Option (Nat × ByteArray)
  | [], _ => none
  | p :: l, i => if p.1 = k then some (i, p.2) else mfind k l (i + 1)
/-- Of a map the value of a key. -/
def mget (l : List (Int × ByteArray)) (k : Int) : ByteArray := match mfind k l 0 with | some p => p.2 | none => ByteArray.mk #[]
def mhas (l : List (Int × ByteArray)) (k : Int) : Bool := (mfind k l 0).isSome
/-- A map with a value put. -/
def mput (l : List (Int × ByteArray)) (k : Int) (v : ByteArray) : List (Int × ByteArray) := match mfind k l 0 with
  | some p => l.modify p.1 fun q => (q.1, v)
  | none => l ++ [(k, v)]
section
variable {P : Program} {N : Sz} {w0 : World} {V : View} {H : List HObj} {M : List (Nat × Value)} {ops : Array Oper} {Q : Exit → Act → World → Prop} {o : Oper} {K : Act → World → Prop} {t kt et : TypeId} {b : Nat} {l : List (Int × ByteArray)}
end
end Go.Proofs.Ytcmkdoahkncakaa
