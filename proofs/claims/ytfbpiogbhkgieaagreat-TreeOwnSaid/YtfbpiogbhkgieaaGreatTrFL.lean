/- What room trees ask for. Its conditions: none. -/
import Derived.Test.YtfbpiogbhkgieaaGreatKeyFL
import Derived.Test.YtfbpiogbhkgieaaGreatRecL
import Derived.Test.YtfbpiogbhkgieaaGreatTreeOL
namespace Go.Proofs.YtfbpiogbhkgieaaGreat
set_option linter.unusedVariables false
def kT (F:Nat) (p0:(List DElem)) (p1:(List DElem)) : Option (Bool) :=
 bif ((p0.length:Int) != (p1.length:Int)) then
  some false
 else
  (iter (σ:=Int) (ρ:=(Unit) ⊕ Bool) (fun x1 =>
   bif decide (x1 < (p0.length:Int)) then
    (idx p0 x1).bind fun e1 =>
    (idx p1 x1).bind fun e2 =>
    bif (!(e1 == e2)) then
     some (.inr (.inr false))
    else
     some (.inl (IntKind.i64.wrap (x1 + 1)))
    else
     some (.inr (.inl ()))) F 0).bind fun z=>match z with
   | .inl _ =>
    some true
   | .inr q=>some q
def kU (F:Nat) (p0:(List DSpot)) (p1:(List DSpot)) : Option (Bool) :=
 bif ((p0.length:Int) != (p1.length:Int)) then
  some false
 else
  (iter (σ:=Int) (ρ:=(Unit) ⊕ Bool) (fun x1 =>
   bif decide (x1 < (p0.length:Int)) then
    (idx p0 x1).bind fun e1 =>
    (idx p1 x1).bind fun e2 =>
    bif (!(e1 == e2)) then
     some (.inr (.inr false))
    else
     some (.inl (IntKind.i64.wrap (x1 + 1)))
    else
     some (.inr (.inl ()))) F 0).bind fun z=>match z with
   | .inl _ =>
    some true
   | .inr q=>some q
def kF (F:Nat) (p0:(List Int)) (p1:(List Int)) : Option (Bool) :=
 bif ((p0.length:Int) != (p1.length:Int)) then
  some false
 else
  (iter (σ:=Int) (ρ:=(Unit) ⊕ Bool) (fun x1 =>
   bif decide (x1 < (p0.length:Int)) then
    (idx p0 x1).bind fun e1 =>
    (idx p1 x1).bind fun e2 =>
    bif (e1 != e2) then
     some (.inr (.inr false))
    else
     some (.inl (IntKind.i64.wrap (x1 + 1)))
    else
     some (.inr (.inl ()))) F 0).bind fun z=>match z with
   | .inl _ =>
    some true
   | .inr q=>some q
end Go.Proofs.YtfbpiogbhkgieaaGreat
namespace Go.Proofs.YtfbpiogbhkgieaaGreat
set_option linter.unusedVariables false
def kP (F:Nat) (p0:DNode) (p1:DNode) : Option (Bool) :=
 (
  bif (p0.kind == p1.kind) then
   (kT F p0.elems p1.elems).bind fun r1 =>
   bif r1 then
    (kF F p0.kids p1.kids).bind fun r2 =>
    bif r2 then
     (kU F p0.seps p1.seps).bind fun r3 =>
     bif r3 then
      (kF F p0.tids p1.tids).bind fun r4 =>
      some r4
     else
      some false
    else
     some false
   else
    some false
   else
    some false:Option (Bool)).bind fun z1 =>
 some z1
def kv (F:Nat) (p0:DTree) (p1:DTree) : Option (Bool) :=
 (
  bif (p0.root == p1.root) then
   (
    bif ((p0.nodes.length:Int) != (p1.nodes.length:Int)) then
     some false
     else
      (iter (σ:=Int) (ρ:=(Unit) ⊕ Bool) (fun x1 =>
       bif decide (x1 < (p0.nodes.length:Int)) then
        (idx p0.nodes x1).bind fun e1 =>
        (idx p1.nodes x1).bind fun e2 =>
        (kP F e1 e2).bind fun r1 =>
        bif (!r1) then
         some (.inr (.inr false))
        else
         some (.inl (IntKind.i64.wrap (x1 + 1)))
        else
         some (.inr (.inl ()))) F 0).bind fun z=>match z with
       | .inl _ =>
        some true
       | .inr q=>some q:Option (Bool)).bind fun z2 =>
   some z2
   else
    some false:Option (Bool)).bind fun z1 =>
 some z1
end Go.Proofs.YtfbpiogbhkgieaaGreat
namespace Go.Proofs.YtfbpiogbhkgieaaGreat
set_option linter.unusedVariables false
def nH (n:DNode) : Bool:=decide ((n.elems.length + 3) * 56≤140737488355328) && decide ((n.kids.length + 3) * 8≤140737488355328) && decide ((n.seps.length + 3) * 32≤140737488355328) && decide ((n.tids.length + 3) * 8≤140737488355328)
def qr (t:DTree) : Bool:=decide ((t.nodes.length + 1) * 104≤140737488355328) && t.nodes.all nH
def qV (F:Nat) (t:DTree) : Bool:=qr t && (kv F t t == some true)
theorem qt {t:DTree} (h:qr t=true) : (t.nodes.length + 1) * 104≤140737488355328∧t.nodes.all nH=true:=by
 unfold qr at h
 rw [Bool.and_eq_true] at h
 exact⟨of_decide_eq_true h.1,h.2⟩
theorem qq {n:DNode} (h:nH n=true) : (n.elems.length + 3) * 56≤140737488355328∧(n.kids.length + 3) * 8≤140737488355328∧(n.seps.length + 3) * 32≤140737488355328∧(n.tids.length + 3) * 8≤140737488355328:=by
 unfold nH at h
 simp only [Bool.and_eq_true] at h
 exact⟨of_decide_eq_true h.1.1.1,of_decide_eq_true h.1.1.2,of_decide_eq_true h.1.2,of_decide_eq_true h.2⟩
theorem mC {F:Nat} {t:DTree} (h:qV F t=true) : qr t=true∧kv F t t=some true:=by
 unfold qV at h
 simp only [Bool.and_eq_true,beq_iff_eq] at h
 exact h
end Go.Proofs.YtfbpiogbhkgieaaGreat
