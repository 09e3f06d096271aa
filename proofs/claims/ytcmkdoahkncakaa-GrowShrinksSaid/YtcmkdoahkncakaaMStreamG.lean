/- Plain Lean: what is new of a realm, and how it is put among the records of another run. Its conditions: none. -/
import Derived.Test.YtcmkdoahkncakaaMRunG
namespace Go.Proofs.Ytcmkdoahkncakaa
set_option linter.unusedVariables false
set_option linter.unusedSimpArgs false
def SpO (p e:DElem):Prop:=cmpS (Ap p) (Ap e)<0
theorem SpO.irrefl {e:DElem}(h:SpO e e):False:=by unfold SpO at h;rw [As.refl] at h;omega
theorem SpO.asymm {a b:DElem}(h:SpO a b)(k:SpO b a):False:=by
 unfold SpO at h k;have:=As.neg (Ap a) (Ap b);omega
theorem SpO.trans {a b c:DElem}(h:SpO a b)(k:SpO b c):SpO a c:=As.lt_trans h k
theorem SpO.ne {a b:DElem}(h:SpO a b):Ap a≠Ap b:=fun e=>by
 unfold SpO at h;rw [e,As.refl] at h;omega
theorem DQ : ∀ {l m:List DElem},l.Pairwise SpO→m.Pairwise SpO→(∀ e,e∈l↔e∈m)→l=m
 | [],[],_,_,_=>rfl
 | [],b::m,_,_,h=>by have:=(h b).2 (by simp);simp at this
 | a::l,[],_,_,h=>by have:=(h a).1 (by simp);simp at this
 | a::l,b::m,hl,hm,h=>by
  rw [List.pairwise_cons] at hl hm
  have hab:a=b:=by
   have h1:=(h a).1 (by simp)
   have h2:=(h b).2 (by simp)
   rcases List.mem_cons.1 h1 with h1 | h1
   · exact h1
   · rcases List.mem_cons.1 h2 with h2 | h2
     · exact h2.symm
     · exact(SpO.asymm (hm.1 a h1) (hl.1 b h2)).elim
  subst hab
  congr 1
  refine DQ hl.2 hm.2 fun e=>?_
  constructor
  · intro he
    rcases List.mem_cons.1 ((h e).1 (List.mem_cons_of_mem _ he)) with h1 | h1
    · subst h1;exact(SpO.irrefl (hl.1 _ he)).elim
    · exact h1
  · intro he
    rcases List.mem_cons.1 ((h e).2 (List.mem_cons_of_mem _ he)) with h1 | h1
    · subst h1;exact(SpO.irrefl (hm.1 _ he)).elim
    · exact h1
theorem Hi {l:List DElem}(h:l.Pairwise SpO){a b:DElem}(ha:a∈l)(hb:b∈l)(e:Ap a=Ap b):a=b:=by
 rcases D5 h ha hb with h1 | h1 | h1
 · exact h1
 · exact(h1.ne e).elim
 · exact(h1.ne e.symm).elim
def FA (l:List DElem)(s:DSpot):List DElem:=l.filter fun x=>decide (cmpS (Ap x) s<0)
def Fy (l:List DElem)(s:DSpot):List DElem:=l.filter fun x=>decide (0<cmpS (Ap x) s)
def Ef (l:List DElem)(e:DElem):List DElem:=FA l (Ap e)++e::Fy l (Ap e)
theorem D3 {l:List DElem}{s:DSpot}{x:DElem}:x∈FA l s↔x∈l∧cmpS (Ap x) s<0:=by simp [FA]
theorem C3 {l:List DElem}{s:DSpot}{x:DElem}:x∈Fy l s↔x∈l∧0<cmpS (Ap x) s:=by simp [Fy]
theorem Dg {l:List DElem}{e x:DElem}:x∈Ef l e↔x=e∨x∈l∧Ap x≠Ap e:=by
 unfold Ef
 rw [List.mem_append,List.mem_cons,D3,C3]
 have h0:=As.zero (Ap x) (Ap e)
 constructor
 · rintro(⟨h1,h2⟩ | h1 | ⟨h1,h2⟩)
   · exact .inr ⟨h1,fun h=>by rw [h0.2 h] at h2;omega⟩
   · exact .inl h1
   · exact .inr ⟨h1,fun h=>by rw [h0.2 h] at h2;omega⟩
 · rintro(h1 | ⟨h1,h2⟩)
   · exact .inr (.inl h1)
   · rcases Int.lt_trichotomy (cmpS (Ap x) (Ap e)) 0 with h | h | h
     · exact .inl ⟨h1,h⟩
     · exact(h2 (h0.1 h)).elim
     · exact .inr (.inr ⟨h1,h⟩)
theorem CG {l:List DElem}(h:l.Pairwise SpO)(e:DElem):(Ef l e).Pairwise SpO:=by
 unfold Ef
 rw [List.pairwise_append,List.pairwise_cons]
 refine⟨h.sublist List.filter_sublist,⟨fun x hx=>As.pos.1 (C3.1 hx).2,h.sublist List.filter_sublist⟩,fun a ha b hb=>?_⟩
 have h1:=(D3.1 ha).2
 rcases List.mem_cons.1 hb with rfl | hb
 · exact h1
 · exact As.lt_trans h1 (As.pos.1 (C3.1 hb).2)
def CC (t:Int)(e:DElem):DElem:=if t<e.gone then { e with gone:=0 } else e
def Ew (l:List DElem)(pfs t:Int):List DElem:=(l.filter fun e=>decide (e.made≤t)&&e.key.pfs == pfs).map (CC t)
def HR (l:List DElem)(pfs from_ to:Int):List DElem:=(Ew l pfs to).filter fun e=>decide (from_<Cb e)
theorem CV (t:Int)(e:DElem):(CC t e).key=e.key:=by unfold CC;split <;> rfl
theorem C7 (t:Int)(e:DElem):(CC t e).made=e.made:=by unfold CC;split <;> rfl
theorem GL (t:Int)(e:DElem):(CC t e).val=e.val:=by unfold CC;split <;> rfl
theorem D9 (t:Int)(e:DElem):Ap (CC t e)=Ap e:=by unfold Ap;rw [CV,C7]
theorem D8 (t:Int)(e:DElem):(CC t e).gone=if t<e.gone then 0 else e.gone:=by unfold CC;split <;> rfl
theorem Hl {t:Int}{e:DElem}(h:Ay e=0):Ay (CC t e)=0:=by
 obtain⟨h1,h2,h3,h4,h5⟩:=C8 h
 unfold Ay
 rw [CV,C7,GL,D8,if_neg (by rw [h1];simp),if_neg,if_neg (by omega)]
 split <;> omega
theorem GB {l:List DElem}{pfs t:Int}{x:DElem}:x∈Ew l pfs t↔∃ e∈l,e.made≤t∧e.key.pfs=pfs∧x=CC t e:=by
 simp only [Ew,List.mem_map,List.mem_filter,Bool.and_eq_true,decide_eq_true_eq,beq_iff_eq]
 constructor
 · rintro⟨e,⟨h1,h2,h3⟩,rfl⟩;exact⟨e,h1,h2,h3,rfl⟩
 · rintro⟨e,h1,h2,h3,rfl⟩;exact⟨e,⟨h1,h2,h3⟩,rfl⟩
theorem Run.upto {l:List DElem}(h:Run l)(pfs t:Int):Run (Ew l pfs t):=by
 refine⟨?_,fun x hx=>?_,?_⟩
 · unfold Ew;rw [List.length_map];exact Nat.le_trans (List.length_filter_le _ _) h.len
 · obtain⟨e,he,_,_,rfl⟩:=GB.1 hx
   exact Hl (h.ok e he)
 · unfold Ew
   rw [List.pairwise_map]
   refine(h.ord.sublist List.filter_sublist).imp_of_mem fun {a b} ha hb hab=>?_
   have hb' : b.made≤t:=by have:=(List.mem_filter.1 hb).2;simp at this;exact this.1
   refine⟨by rw [D9,D9];exact hab.1,fun hk=>?_⟩
   rw [CV,CV] at hk
   have:=hab.2 hk
   rw [D8,C7,if_neg (by omega)]
   exact this
theorem Run.fresh {l:List DElem}(h:Run l)(pfs a b:Int):Run (HR l pfs a b):=(h.upto pfs b).sub List.filter_sublist
end Go.Proofs.Ytcmkdoahkncakaa
