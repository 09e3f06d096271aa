/- Plain Lean: what is new of a realm, and how it is put among the records of another run. Its conditions: none. -/
import Derived.Test.YtcmkdoahkncakaaMRunH
namespace Go.Proofs.Ytcmkdoahkncakaa
set_option linter.unusedVariables false
set_option linter.unusedSimpArgs false
def SpO (p e:DElem):Prop:=cmpS (Dy p) (Dy e)<0
theorem SpO.irrefl {e:DElem}(h:SpO e e):False:=by unfold SpO at h;rw [DC.refl] at h;omega
theorem SpO.asymm {a b:DElem}(h:SpO a b)(k:SpO b a):False:=by
 unfold SpO at h k;have:=DC.neg (Dy a) (Dy b);omega
theorem SpO.trans {a b c:DElem}(h:SpO a b)(k:SpO b c):SpO a c:=DC.lt_trans h k
theorem SpO.ne {a b:DElem}(h:SpO a b):Dy a≠Dy b:=fun e=>by
 unfold SpO at h;rw [e,DC.refl] at h;omega
theorem Gp {l:List DElem}(h:l.Pairwise Bef):l.Pairwise SpO:=h.imp fun hb=>hb.1
theorem I9 : ∀ {l m:List DElem},l.Pairwise SpO→m.Pairwise SpO→(∀ e,e∈l↔e∈m)→l=m
 | [],[],_,_,_=>rfl
 | [],b::m,_,_,h=>by have:=(h b).2 (by simp);simp at this
 | a::l,[],_,_,h=>by have:=(h a).1 (by simp);simp at this
 | a::l,b::m,hl,hm,h=>by
  rw [List.pairwise_cons] at hl hm
  have hab:a=b:=by
   have h1:=(h a).1 (by simp)
   have h2:=(h b).2 (by simp)
   rcases List.mem_cons.1 h1 with h1 | h1
   · exact h1
   · rcases List.mem_cons.1 h2 with h2 | h2
     · exact h2.symm
     · exact(SpO.asymm (hm.1 a h1) (hl.1 b h2)).elim
  subst hab
  congr 1
  refine I9 hl.2 hm.2 fun e=>?_
  constructor
  · intro he
    rcases List.mem_cons.1 ((h e).1 (List.mem_cons_of_mem _ he)) with h1 | h1
    · subst h1;exact(SpO.irrefl (hl.1 _ he)).elim
    · exact h1
  · intro he
    rcases List.mem_cons.1 ((h e).2 (List.mem_cons_of_mem _ he)) with h1 | h1
    · subst h1;exact(SpO.irrefl (hm.1 _ he)).elim
    · exact h1
def J1 (l:List DElem)(s:DSpot):List DElem:=l.filter fun x=>decide (cmpS (Dy x) s<0)
def JY (l:List DElem)(s:DSpot):List DElem:=l.filter fun x=>decide (0<cmpS (Dy x) s)
def Kb (l:List DElem)(e:DElem):List DElem:=J1 l (Dy e)++e::JY l (Dy e)
theorem HS {l:List DElem}{s:DSpot}{x:DElem}:x∈J1 l s↔x∈l∧cmpS (Dy x) s<0:=by simp [J1]
theorem GP {l:List DElem}{s:DSpot}{x:DElem}:x∈JY l s↔x∈l∧0<cmpS (Dy x) s:=by simp [JY]
theorem JC {l:List DElem}{e x:DElem}:x∈Kb l e↔x=e∨x∈l∧Dy x≠Dy e:=by
 unfold Kb
 rw [List.mem_append,List.mem_cons,HS,GP]
 have h0:=DC.zero (Dy x) (Dy e)
 constructor
 · rintro(⟨h1,h2⟩ | h1 | ⟨h1,h2⟩)
   · exact .inr ⟨h1,fun h=>by rw [h0.2 h] at h2;omega⟩
   · exact .inl h1
   · exact .inr ⟨h1,fun h=>by rw [h0.2 h] at h2;omega⟩
 · rintro(h1 | ⟨h1,h2⟩)
   · exact .inr (.inl h1)
   · rcases Int.lt_trichotomy (cmpS (Dy x) (Dy e)) 0 with h | h | h
     · exact .inl ⟨h1,h⟩
     · exact(h2 (h0.1 h)).elim
     · exact .inr (.inr ⟨h1,h⟩)
theorem Ht {l:List DElem}(h:l.Pairwise SpO)(e:DElem):(Kb l e).Pairwise SpO:=by
 unfold Kb
 rw [List.pairwise_append,List.pairwise_cons]
 refine⟨h.sublist List.filter_sublist,⟨fun x hx=>DC.pos.1 (GP.1 hx).2,h.sublist List.filter_sublist⟩,fun a ha b hb=>?_⟩
 have h1:=(HS.1 ha).2
 rcases List.mem_cons.1 hb with rfl | hb
 · exact h1
 · exact DC.lt_trans h1 (DC.pos.1 (GP.1 hb).2)
def F5 (t:Int)(e:DElem):DElem:=if t<e.gone then { e with gone:=0 } else e
def II (l:List DElem)(pfs t:Int):List DElem:=(l.filter fun e=>decide (e.made≤t)&&e.key.pfs == pfs).map (F5 t)
def MC (l:List DElem)(pfs from_ to:Int):List DElem:=(II l pfs to).filter fun e=>decide (from_<Ea e)
theorem GA (t:Int)(e:DElem):(F5 t e).key=e.key:=by unfold F5;split <;> rfl
theorem GV (t:Int)(e:DElem):(F5 t e).made=e.made:=by unfold F5;split <;> rfl
theorem Li (t:Int)(e:DElem):(F5 t e).val=e.val:=by unfold F5;split <;> rfl
theorem HY (t:Int)(e:DElem):Dy (F5 t e)=Dy e:=by unfold Dy;rw [GA,GV]
theorem HX (t:Int)(e:DElem):(F5 t e).gone=if t<e.gone then 0 else e.gone:=by unfold F5;split <;> rfl
theorem LY {t:Int}{e:DElem}(h:DG e=0):DG (F5 t e)=0:=by
 obtain⟨h1,h2,h3,h4,h5⟩:=Fd h
 unfold DG
 rw [GA,GV,Li,HX,if_neg (by rw [h1];simp),if_neg,if_neg (by omega)]
 split <;> omega
theorem K8 {l:List DElem}{pfs t:Int}{x:DElem}:x∈II l pfs t↔∃ e∈l,e.made≤t∧e.key.pfs=pfs∧x=F5 t e:=by
 simp only [II,List.mem_map,List.mem_filter,Bool.and_eq_true,decide_eq_true_eq,beq_iff_eq]
 constructor
 · rintro⟨e,⟨h1,h2,h3⟩,rfl⟩;exact⟨e,h1,h2,h3,rfl⟩
 · rintro⟨e,h1,h2,h3,rfl⟩;exact⟨e,⟨h1,h2,h3⟩,rfl⟩
theorem Run.upto {l:List DElem}(h:Run l)(pfs t:Int):Run (II l pfs t):=by
 refine⟨?_,fun x hx=>?_,?_⟩
 · unfold II;rw [List.length_map];exact Nat.le_trans (List.length_filter_le _ _) h.len
 · obtain⟨e,he,_,_,rfl⟩:=K8.1 hx
   exact LY (h.ok e he)
 · unfold II
   rw [List.pairwise_map]
   refine(h.ord.sublist List.filter_sublist).imp_of_mem fun {a b} ha hb hab=>?_
   have hb' : b.made≤t:=by have:=(List.mem_filter.1 hb).2;simp at this;exact this.1
   refine⟨by rw [HY,HY];exact hab.1,fun hk=>?_⟩
   rw [GA,GA] at hk
   have:=hab.2 hk
   rw [HX,GV,if_neg (by omega)]
   exact this
theorem Run.fresh {l:List DElem}(h:Run l)(pfs a b:Int):Run (MC l pfs a b):=(h.upto pfs b).sub List.filter_sublist
end Go.Proofs.Ytcmkdoahkncakaa
