/- Plain Lean: what the functions on runs compute. Its conditions: none. -/
import Derived.Test.YtcmkdoahkncakaaRunFG
import Derived.Test.YtcmkdoahkncakaaMRunG
import Derived.Test.YtcmkdoahkncakaaPLoopG
namespace Go.Proofs.Ytcmkdoahkncakaa
set_option linter.unusedVariables false
set_option linter.unusedSimpArgs false
variable {F:Nat} [Big F]
theorem Ax (e:DElem):sV e=some (Ap e):=rfl
theorem BD {α β γ:Type}(g:β→γ)(w:α→Option β):∀ l:List α,(l.findSome? fun a=>(w a).map g)=(l.findSome? w).map g
 | []=>rfl
 | a::l=>by
  rw [List.findSome?_cons,List.findSome?_cons]
  cases w a with
  | some b=>rfl
  | none=>exact BD g w l
def Ho:DElem:=⟨⟨0,0,0⟩,0,0,ByteArray.mk #[]⟩
section
variable {α:Type} {l a b:List α} {x:α}
end
theorem Run.made {l:List DElem}(h:Run l){e:DElem}(he:e∈l):1≤e.made∧e.made≤2147483647:=by
 obtain⟨_,h1,h2,_⟩:=C8 (h.ok e he);exact⟨h1,h2⟩
end Go.Proofs.Ytcmkdoahkncakaa
