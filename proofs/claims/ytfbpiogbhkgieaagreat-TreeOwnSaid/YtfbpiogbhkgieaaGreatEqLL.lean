/- Equality of structs, as Go compares them: written by walkgen.py. Its conditions: none. -/
import Derived.Test.YtfbpiogbhkgieaaGreatOpsL
import Derived.Test.YtfbpiogbhkgieaaGreatRows
import Derived.Test.YtfbpiogbhkgieaaGreatRecL
import Derived.WalkKit
namespace Go.Proofs.YtfbpiogbhkgieaaGreat
theorem obs {α:Type _} {β:Type _} (a:α) (f:α→Option β) : (some a).bind f=f a:=rfl
theorem gge {α:Type _} {l:List α} {i:Nat} (h:i < l.length) : l[i]? = some l[i]:=List.getElem?_eq_getElem h
theorem ggs {α:Type _} {l:List α} {i:Nat} {a:α} : l[i]? = some a↔∃ h:i < l.length,l[i]=a:=List.getElem?_eq_some_iff
set_option linter.unusedVariables false
set_option linter.unusedSimpArgs false
theorem w64 {n:Int} (h0 : -9223372036854775808≤n) (h1:n≤9223372036854775807) : IntKind.i64.wrap n=n:=by
 rw [IntKind.wrap_i64]
 omega
theorem tz {α:Type} (l:List α) (k:Nat) : idx l (k:Int)=l[k]?:=by
 unfold idx;rw [if_neg (by omega),Int.toNat_natCast]
theorem tJ {α:Type} {b:Nat} {l m:List α} (h:(l.length + m.length) * b≤140737488355328) (hm:l.length + m.length≤9223372036854775807) : lf b l m=some (l ++ m):=by
 unfold lf;rw [if_pos ⟨h,by unfold maxLen;omega⟩]
theorem pD {α:Type} {l:List α} {lo hi:Int} (h0:0≤lo) (h1:lo≤hi) (h2:hi≤l.length) : i9 l lo hi=some ((l.take hi.toNat).drop lo.toNat):=by
 unfold i9;rw [if_pos ⟨h0,h1,h2⟩]
theorem tm {α:Type} {l:List α} {k:Nat} (h:k≤l.length) : i9 l 0 (k:Int)=some (l.take k):=by
 rw [pD (by omega) (by omega) (by omega)];simp
theorem sO {α:Type} {l:List α} {k:Nat} (h:k≤l.length) : i9 l (k:Int) (l.length:Int)=some (l.drop k):=by
 rw [pD (by omega) (by omega) (by omega)];simp
theorem s9 {c:Int} (h:c≠0) : (c != 0)=true:=by simpa using h
theorem sV {c:Int} (h:c=0) : (c != 0)=false:=by simp [h]
section loops
variable {σ ρ α τ:Type} {F:Nat}
theorem qY {f:σ→Option (σ ⊕ ρ)} (g:Nat→σ) {r:ρ} : ∀(n:Nat) (N:Nat),(∀ k,k < n→f (g k)=some (.inl (g (k + 1))))→f (g n)=some (.inr r)→n < N→iter f N (g 0)=some r
 | 0,N,_,he,hN=>by
  obtain⟨N,rfl⟩ : ∃ M,N=M + 1:=⟨N - 1,by omega⟩
  rw [iter,he]
 | n + 1,N,hs,he,hN=>by
  obtain⟨N,rfl⟩ : ∃ M,N=M + 1:=⟨N - 1,by omega⟩
  rw [iter,hs 0 (by omega)]
  exact qY (fun k=>g (k + 1)) n N (fun k hk=>hs (k + 1) (by omega)) he (by omega)
theorem qJ [h:Big F] {n:Nat} (hn:n≤9223372036854775807) : n < F:=by have:=h.le;omega
theorem rQ [Big F] {f:σ→Option (σ ⊕ ρ)} (g:Nat→σ) (n:Nat) {r:ρ} {s:σ} (h0:s=g 0) (hn:n≤9223372036854775807) (hs : ∀ k,k < n→f (g k)=some (.inl (g (k + 1)))) (he:f (g n)=some (.inr r)) : iter f F s=some r:=by
 rw [h0];exact qY g n F hs he (qJ hn)
theorem rp [Big F] {f:Int→Option (Int ⊕ ρ)} (l:List α) (w:Nat→α→Option ρ) (res:ρ) (hn:l.length≤9223372036854775807) {s:Int} (h0:s=0)
 (hs : ∀(k:Nat) (e:α),l[k]? = some e→(∀ j x,j < k→l[j]? = some x→w j x=none)→f (k:Int)=some (match w k e with | some r=>.inr r | none=>.inl ((k:Int) + 1)))
 (he:f (l.length:Int)=some (.inr res)) : iter f F s=some (((l.zipIdx).findSome? fun p=>w p.2 p.1).getD res):=by
 subst h0
 have key : ∀(m k N:Nat),k + m=l.length→m < N→(∀ j x,j < k→l[j]? = some x→w j x=none)→iter f N (k:Int)=some ((((l.drop k).zipIdx k).findSome? fun p=>w p.2 p.1).getD res):=by
  intro m
  induction m with
  | zero =>
   intro k N hk hN _
   obtain⟨N,rfl⟩ : ∃ M,N=M + 1:=⟨N - 1,by omega⟩
   rw [iter,show k=l.length by omega,he,List.drop_length];rfl
  | succ m ih =>
   intro k N hk hN hb
   obtain⟨N,rfl⟩ : ∃ M,N=M + 1:=⟨N - 1,by omega⟩
   have hkl:k < l.length:=by omega
   rw [iter,hs k l[k] (List.getElem?_eq_getElem hkl) hb,List.drop_eq_getElem_cons hkl,List.zipIdx_cons,List.findSome?_cons]
   dsimp only
   cases hw:w k l[k] with
   | some r=>rfl
   | none =>
    refine ih (k + 1) N (by omega) (by omega) fun j x hj hx=>?_
    rcases Nat.lt_or_ge j k with h1 | h1
    · exact hb j x h1 hx
    · obtain rfl:j=k:=by omega
      rw [List.getElem?_eq_getElem hkl] at hx
      obtain rfl:=Option.some.inj hx
      exact hw
 have:=key l.length 0 F (by omega) (qJ hn) (fun j x hj=>by omega)
 rw [List.drop_zero] at this
 exact this
theorem sX [Big F] {f:Int→Option (Int ⊕ ρ)} (l:List α) (w:α→Option ρ) (res:ρ) (hn:l.length≤9223372036854775807) {s:Int} (h0:s=0)
 (hs : ∀(k:Nat) (e:α),l[k]? = some e→f (k:Int)=some (match w e with | some r=>.inr r | none=>.inl ((k:Int) + 1)))
 (he:f (l.length:Int)=some (.inr res)) : iter f F s=some ((l.findSome? w).getD res):=by
 rw [rp l (fun _ e=>w e) res hn h0 (fun k e hk _=>hs k e hk) he]
 congr 2
 have : ∀(l:List α) (n:Nat),(l.zipIdx n).findSome? (fun p=>w p.1)=l.findSome? w:=by
  intro l
  induction l with
  | nil=>intro n;rfl
  | cons a l ih=>intro n;rw [List.zipIdx_cons,List.findSome?_cons,List.findSome?_cons,ih]
 exact this l 0
theorem tf {l:List α} {w:Nat→α→Option ρ} : (l.zipIdx.findSome? fun p=>w p.2 p.1)=none↔∀ k e,l[k]? = some e→w k e=none:=by
 rw [List.findSome?_eq_none_iff]
 constructor
 · intro h k e hk
   exact h (e,k) (by rw [List.mem_zipIdx_iff_getElem?];exact hk)
 · rintro h ⟨e,k⟩ hp
   rw [List.mem_zipIdx_iff_getElem?] at hp
   exact h k e hp
theorem tg {l:List α} {w:Nat→α→Option ρ} {r:ρ} (h:(l.zipIdx.findSome? fun p=>w p.2 p.1)=some r) : ∃ k e,l[k]? = some e∧w k e=some r:=by
 obtain⟨⟨e,k⟩,hp,hr⟩:=List.exists_of_findSome?_eq_some h
 rw [List.mem_zipIdx_iff_getElem?] at hp
 exact⟨k,e,hp,hr⟩
theorem tj [Big F] {f:τ × Int→Option ((τ × Int) ⊕ ρ)} (l:List α) (st:τ→α→τ) (a0:τ) {r:ρ} (hn:l.length≤9223372036854775807) {s:τ × Int} (h0:s=(a0,0))
 (hs : ∀(k:Nat) (e:α),l[k]? = some e→f ((l.take k).foldl st a0,(k:Int))=some (.inl (st ((l.take k).foldl st a0) e,(k:Int) + 1)))
 (he:f (l.foldl st a0,(l.length:Int))=some (.inr r)) : iter f F s=some r:=by
 refine rQ (fun k=>((l.take k).foldl st a0,(k:Int))) l.length (by rw [h0];rfl) hn (fun k hk=>?_) (by rw [List.take_length];exact he)
 rw [hs k l[k] (List.getElem?_eq_getElem hk),List.take_add_one,List.getElem?_eq_getElem hk,Option.toList_some,List.foldl_append]
 simp
theorem tB [Big F] {f:σ→Option (σ ⊕ ρ)} {K:ρ→Option τ} (R:Nat→σ→τ→Prop)
 (hR : ∀ m s q,R m s q→(∃ r,f s=some (.inr r)∧K r=some q)∨∃ m' s',m' < m∧f s=some (.inl s')∧R m' s' q) {m:Nat} {s:σ} {q:τ} (hm:m≤9223372036854775807) (h:R m s q) : (iter f F s).bind K=some q:=by
 have key : ∀(n N m:Nat) (s:σ),m≤n→n < N→R m s q→(iter f N s).bind K=some q:=by
  intro n
  induction n with
  | zero =>
   intro N m s hmn hN hs
   obtain⟨N,rfl⟩ : ∃ M,N=M + 1:=⟨N - 1,by omega⟩
   rcases hR m s q hs with ⟨r,h1,h2⟩ | ⟨m',s',h1,h2,h3⟩
   · rw [iter,h1];exact h2
   · omega
  | succ n ih =>
   intro N m s hmn hN hs
   obtain⟨N,rfl⟩ : ∃ M,N=M + 1:=⟨N - 1,by omega⟩
   rcases hR m s q hs with ⟨r,h1,h2⟩ | ⟨m',s',h1,h2,h3⟩
   · rw [iter,h1];exact h2
   · rw [iter,h2];exact ih N m' s' (by omega) (by omega) h3
 exact key m F m s (Nat.le_refl _) (qJ hm) h
theorem sW {β:Type} (g:α→β) (l:List α) : ∀ a:List β,l.foldl (fun a e=>a ++ [g e]) a=a ++ l.map g:=by
 induction l with
 | nil=>intro a;simp
 | cons x l ih=>intro a;rw [List.foldl_cons,ih];simp
def sM (p:Nat→Bool) : Nat→Nat
 | 0=>0
 | n + 1=>if p (sM p n) then sM p n else if p n then n else n + 1
end loops
end Go.Proofs.YtfbpiogbhkgieaaGreat
namespace Go.Proofs.YtfbpiogbhkgieaaGreat
open Go.RowKit
set_option maxHeartbeats 1000000 in
theorem pq {M:List (Nat × Value)} {o:Oper} {a b:Operand} {t:TypeId} (x y:DKey) (w:World) (ho:o.op = .binOp .eql 26 a b t) (ha:evM M a = .agg x.cells.toArray) (hb:evM M b = .agg y.cells.toArray) :
 (execOp (evM M) o).run Tryz.prog w = .ok (.value (.bool (x == y))) w:=by
 rw [mA];simp only [execOp,ho,ha,hb,DKey.cells];cases c:x.pfs == y.pfs;simp [go_sem,c];cases d:x.obj == y.obj;simp [go_sem,c,d];cases e:x.off == y.off;simp [go_sem,c,d,e];simp [go_sem,c,d,e]
set_option maxHeartbeats 1000000 in
theorem kA {M:List (Nat × Value)} {o:Oper} {a b:Operand} {t:TypeId} (x y:DSpot) (w:World) (ho:o.op = .binOp .eql 36 a b t) (ha:evM M a = .agg x.cells.toArray) (hb:evM M b = .agg y.cells.toArray) :
 (execOp (evM M) o).run Tryz.prog w = .ok (.value (.bool (x == y))) w:=by
 rw [pA,mA];simp only [execOp,ho,ha,hb,DSpot.cells];cases c:x.key.pfs == y.key.pfs;simp [go_sem,c];cases d:x.key.obj == y.key.obj;simp [go_sem,c,d];cases e:x.key.off == y.key.off;simp [go_sem,c,d,e];cases f:x.made == y.made;simp [go_sem,c,d,e,f];simp [go_sem,c,d,e,f]
set_option maxHeartbeats 1000000 in
theorem pr {M:List (Nat × Value)} {o:Oper} {a b:Operand} {t:TypeId} (x y:DKey) (w:World) (ho:o.op = .binOp .neq 26 a b t) (ha:evM M a = .agg x.cells.toArray) (hb:evM M b = .agg y.cells.toArray) :
 (execOp (evM M) o).run Tryz.prog w = .ok (.value (.bool (!(x == y)))) w:=by
 rw [mA];simp only [execOp,ho,ha,hb,DKey.cells];cases c:x.pfs == y.pfs;simp [go_sem,c];cases d:x.obj == y.obj;simp [go_sem,c,d];cases e:x.off == y.off;simp [go_sem,c,d,e];simp [go_sem,c,d,e]
set_option maxHeartbeats 1000000 in
theorem oR {M:List (Nat × Value)} {o:Oper} {a b:Operand} {t:TypeId} (x y:DElem) (w:World) (ho:o.op = .binOp .neq 28 a b t) (ha:evM M a = .agg x.cells.toArray) (hb:evM M b = .agg y.cells.toArray) :
 (execOp (evM M) o).run Tryz.prog w = .ok (.value (.bool (!(x == y)))) w:=by
 rw [ri,mA];simp only [execOp,ho,ha,hb,DElem.cells,seq];cases c:x.key.pfs == y.key.pfs;simp [go_sem,c];cases d:x.key.obj == y.key.obj;simp [go_sem,c,d];cases e:x.key.off == y.key.off;simp [go_sem,c,d,e];cases f:x.made == y.made;simp [go_sem,c,d,e,f];cases g:x.gone == y.gone;simp [go_sem,c,d,e,f,g];cases h:x.val.toList == y.val.toList;simp [go_sem,c,d,e,f,g,h];simp [go_sem,c,d,e,f,g,h]
set_option maxHeartbeats 1000000 in
theorem oS {M:List (Nat × Value)} {o:Oper} {a b:Operand} {t:TypeId} (x y:DSpot) (w:World) (ho:o.op = .binOp .neq 36 a b t) (ha:evM M a = .agg x.cells.toArray) (hb:evM M b = .agg y.cells.toArray) :
 (execOp (evM M) o).run Tryz.prog w = .ok (.value (.bool (!(x == y)))) w:=by
 rw [pA,mA];simp only [execOp,ho,ha,hb,DSpot.cells];cases c:x.key.pfs == y.key.pfs;simp [go_sem,c];cases d:x.key.obj == y.key.obj;simp [go_sem,c,d];cases e:x.key.off == y.key.off;simp [go_sem,c,d,e];cases f:x.made == y.made;simp [go_sem,c,d,e,f];simp [go_sem,c,d,e,f]
end Go.Proofs.YtfbpiogbhkgieaaGreat
