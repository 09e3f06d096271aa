/- Plain Lean: right runs, as lists of records by key. Its conditions: none. -/
import Derived.Test.YtcmkdoahkncakaaPKeyG
namespace Go.Proofs.Ytcmkdoahkncakaa
set_option linter.unusedVariables false
set_option linter.unusedSimpArgs false
theorem HW {a b:Int}:ord a b<0↔a<b:=by unfold ord;(repeat' split) <;> omega
theorem Cmp.refl {α:Type}{f:α→α→Int}(h:Cmp f)(a:α):f a a=0:=(h.zero a a).2 rfl
theorem Cmp.lt_trans {α:Type}{f:α→α→Int}(h:Cmp f){a b c:α}(h1:f a b<0)(h2:f b c<0):f a c<0:=by
 have h3:=h.trans a b c (by omega) (by omega)
 rcases Int.lt_or_eq_of_le h3 with h4 | h4
 · exact h4
 · have:=(h.zero _ _).1 h4
   subst this
   have:=h.neg a b
   omega
theorem Cmp.pos {α:Type}{f:α→α→Int}(h:Cmp f){a b:α}:0<f a b↔f b a<0:=by
 have:=h.neg a b;omega
def Ap (e:DElem):DSpot:=⟨e.key,e.made⟩
theorem F9 {a b:DSpot}:cmpS a b<0↔cmpK a.key b.key<0∨(a.key=b.key∧a.made<b.made):=by
 rw [EY]
 by_cases h:cmpK a.key b.key=0
 · rw [if_neg (by simpa using h),HW]
   have:=(B8.zero _ _).1 h
   simp [this,B8.refl]
 · rw [if_pos h]
   have:a.key≠b.key:=fun e=>h ((B8.zero _ _).2 e)
   simp [this]
def Bef (p e:DElem):Prop:=cmpS (Ap p) (Ap e)<0∧(p.key=e.key→p.gone≠0∧p.gone≤e.made)
theorem Bef.key {p e:DElem}(h:Bef p e):cmpK p.key e.key<0∨p.key=e.key∧p.made<e.made∧p.gone≠0∧p.gone≤e.made:=by
 rcases F9.1 h.1 with h1 | h1
 · exact .inl h1
 · exact .inr ⟨h1.1,h1.2,h.2 h1.1⟩
theorem Hq {p e:DElem}:Bef p e↔cmpK p.key e.key<0∨p.key=e.key∧p.made<e.made∧p.gone≠0∧p.gone≤e.made:=by
 refine⟨Bef.key,fun h=>⟨?_,?_⟩⟩
 · rw [F9]
   rcases h with h | h
   · exact .inl h
   · exact .inr ⟨h.1,h.2.1⟩
 · intro hk
   rcases h with h | h
   · rw [hk,B8.refl] at h;omega
   · exact h.2.2
theorem Bef.trans {p q e:DElem}(hq:Ay q=0)(h1:Bef p q)(h2:Bef q e):Bef p e:=by
 obtain⟨_,_,_,h3,_⟩:=C8 hq
 rw [Hq] at *
 rcases h1 with h1 | ⟨k1,h1⟩ <;> rcases h2 with h2 | ⟨k2,h2⟩
 · exact .inl (B8.lt_trans h1 h2)
 · rw [← k2];exact .inl h1
 · rw [k1];exact .inl h2
 · refine .inr ⟨k1.trans k2,?_⟩;omega
structure Run (l:List DElem):Prop where
 len:l.length≤400
 ok : ∀ e∈l,Ay e=0
 ord:l.Pairwise Bef
theorem Run.nil:Run []:=⟨by simp,by simp,List.Pairwise.nil⟩
theorem Run.sub {l m:List DElem}(h:Run l)(hs:m.Sublist l):Run m :=
 ⟨Nat.le_trans hs.length_le h.len,fun e he=>h.ok e (hs.subset he),h.ord.sublist hs⟩
theorem Bef.irrefl {e:DElem}(h:Bef e e):False:=by
 have:=h.1;rw [As.refl] at this;omega
theorem Bef.asymm {a b:DElem}(h:Bef a b)(k:Bef b a):False:=by
 have h1:=h.1;have h2:=k.1;have:=As.neg (Ap a) (Ap b);omega
def lo (l:List DElem)(k:DKey):List DElem:=l.filter fun e=>decide (cmpK e.key k<0)
def hi (l:List DElem)(k:DKey):List DElem:=l.filter fun e=>decide (0<cmpK e.key k)
theorem Bef.le {a b:DElem}(h:Bef a b):cmpK a.key b.key≤0:=by
 rcases h.key with h | h
 · omega
 · rw [h.1,B8.refl];omega
theorem D5 {α:Type}{R:α→α→Prop}:∀ {l:List α},l.Pairwise R→∀ {a b:α},a∈l→b∈l→a=b∨R a b∨R b a
 | [],_,_,_,h,_=>by simp at h
 | c::l,h,a,b,ha,hb=>by
  rw [List.pairwise_cons] at h
  rcases List.mem_cons.1 ha with ha | ha <;> rcases List.mem_cons.1 hb with hb | hb
  · left;rw [ha,hb]
  · right;left;rw [ha];exact h.1 b hb
  · right;right;rw [hb];exact h.1 a ha
  · exact D5 h.2 ha hb
def cl (t:Int)(e:DElem):Option DElem:=if e.gone=0 then if e.made=t then none else some { e with gone:=t } else some e
section
variable {l:List DElem} {k:DKey} {t:Int} {v:ByteArray}
end
end Go.Proofs.Ytcmkdoahkncakaa
