/- Plain Lean: what the functions on runs compute. Its conditions: none. -/
import Derived.Test.YtcmkdoahkncakaaRunFH
import Derived.Test.YtcmkdoahkncakaaMRunH
import Derived.Test.YtcmkdoahkncakaaPLoopH
namespace Go.Proofs.Ytcmkdoahkncakaa
set_option linter.unusedVariables false
set_option linter.unusedSimpArgs false
variable {F:Nat} [Big F]
theorem DF (e:DElem):wj e=some (Dy e):=rfl
def Lr (p e:DElem):Bool:=decide (cmpS (Dy p) (Dy e)<0)&&(p.key != e.key||(p.gone != 0&&decide (p.gone≤e.made)))
theorem Jk {p e:DElem}:Lr p e=true↔Bef p e:=by
 unfold Lr Bef
 simp only [Bool.and_eq_true,Bool.or_eq_true,decide_eq_true_eq,bne_iff_ne,ne_eq]
 constructor
 · rintro⟨h1,h2⟩;exact⟨h1,fun hk=>h2.resolve_left fun h=>h hk⟩
 · rintro⟨h1,h2⟩;exact⟨h1,(Decidable.em (p.key=e.key)).elim (fun h=>.inr (h2 h)) .inl⟩
def F7 (l:List DElem)(k:Nat)(e:DElem):Option Int :=
 if DG e≠0 then some (DG e) else if k=0 then none else
  match l[k-1]? with
  | some p=>if Lr p e then none else some 3
  | none=>none
theorem HG {l:List DElem}{e:DElem}(h:DG e=0):F7 l 0 e=none:=by unfold F7;rw [if_neg (by simpa using h),if_pos rfl]
theorem GH {l:List DElem}{j:Nat}{p e:DElem}(h:DG e=0)(hj:l[j]? = some p):F7 l (j+1) e=if Lr p e then none else some 3:=by
 unfold F7;rw [if_neg (by simpa using h),if_neg (by omega),Nat.add_sub_cancel,hj]
theorem Ij {l:List DElem}{k:Nat}{e:DElem}(h:DG e≠0):F7 l k e=some (DG e):=by unfold F7;rw [if_pos h]
def F6 (l:List DElem):Int:=if 400<l.length then 2 else ((l.zipIdx).findSome? fun p=>F7 l p.2 p.1).getD 0
theorem Es {α β γ:Type}(g:β→γ)(w:α→Option β):∀ l:List α,(l.findSome? fun a=>(w a).map g)=(l.findSome? w).map g
 | []=>rfl
 | a::l=>by
  rw [List.findSome?_cons,List.findSome?_cons]
  cases w a with
  | some b=>rfl
  | none=>exact Es g w l
theorem I7 (l:List DElem):yz F l=some (F6 l):=by
 unfold yz F6
 by_cases hl:400<l.length
 · rw [if_pos hl,decide_eq_true (by omega),cond_true]
 · rw [if_neg hl,decide_eq_false (by omega),cond_false]
   rw [Fa l (fun k e=>(F7 l k e).map Sum.inr) (Sum.inl ()) (by omega) rfl (fun k e hk hb=>?_) (by simp)]
   · rw [Es]
     cases l.zipIdx.findSome? fun p=>F7 l p.2 p.1 <;> rfl
   · have hkl:=(ggs.1 hk).1
     rw [decide_eq_true (by omega),cond_true,DA,hk,obs,Ei,obs]
     by_cases hc:DG e=0
     · rw [DO hc,cond_false]
       cases k with
       | zero=>rw [HG hc];simp [w64]
       | succ j =>
        obtain⟨p,hj⟩ : ∃ p,l[j]? = some p:=⟨_,gge (show j<l.length by omega)⟩
        rw [GH hc hj,show (((j+1:Nat):Int) == 0)=false by rw [beq_eq_false_iff_ne];omega,cond_false,w64 (by omega) (by omega),show (((j+1:Nat):Int)-1)=(j:Int) by omega,DA,hj,w64 (by omega) (by omega)]
        simp only [obs,DF,DL]
        unfold Lr
        by_cases h1:cmpS (Dy p) (Dy e)<0
        · rw [decide_eq_false (by omega),cond_false,decide_eq_true h1,Bool.true_and]
          by_cases h2:p.key=e.key
          · rw [show (p.key == e.key)=true by simpa using h2,cond_true,show (p.key != e.key)=false by simpa using h2,Bool.false_or]
            by_cases h3:p.gone=0
            · rw [show (p.gone == 0)=true by simpa using h3,cond_true,show (p.gone != 0)=false by simpa using h3];rfl
            · rw [show (p.gone == 0)=false by simpa using h3,cond_false,show (p.gone != 0)=true by simpa using h3,Bool.true_and]
              by_cases h4:p.gone≤e.made
              · rw [decide_eq_false (by omega),decide_eq_true h4];rfl
              · rw [decide_eq_true (by omega),decide_eq_false h4];rfl
          · rw [show (p.key == e.key)=false by simpa using h2,cond_false,show (p.key != e.key)=true by simpa using h2];rfl
        · rw [decide_eq_true (by omega),cond_true,decide_eq_false h1];rfl
     · rw [DU hc,cond_true,Ij hc];rfl
theorem EI {l:List DElem}:F6 l=0↔Run l:=by
 unfold F6
 by_cases hl:400<l.length
 · rw [if_pos hl]
   constructor
   · intro h;cases h
   · intro h;have:=h.len;omega
 · rw [if_neg hl]
   cases hf:l.zipIdx.findSome? fun p=>F7 l p.2 p.1 with
   | some c =>
    obtain⟨k,e,hk,hb⟩:=Gs hf
    rw [Option.getD_some]
    constructor
    · intro hc
      subst hc
      unfold F7 at hb
      split at hb
      · rename_i h;exact absurd (Option.some.inj hb) h
      · split at hb
        · cases hb
        · split at hb
          · split at hb
            · cases hb
            · cases hb
          · cases hb
    · intro h
      have he:=h.ok e (List.mem_of_getElem? hk)
      cases k with
      | zero=>rw [HG he] at hb;cases hb
      | succ j =>
       have hkl:=(ggs.1 hk).1
       have hj:l[j]? = some l[j]:=gge (by omega)
       have hp:=List.pairwise_iff_getElem.1 h.ord j (j+1) (by omega) hkl (by omega)
       rw [(ggs.1 hk).2] at hp
       rw [GH he hj,if_pos (Jk.2 hp)] at hb
       cases hb
   | none =>
    rw [FH] at hf
    refine⟨fun _=>?_,fun _=>rfl⟩
    have hok : ∀ e∈l,DG e=0:=fun e he=>by
     obtain⟨k,hk,rfl⟩:=List.getElem_of_mem he
     have h1:=hf k _ (gge hk)
     by_cases hc:DG l[k]=0
     · exact hc
     · rw [Ij hc] at h1;cases h1
    refine⟨by omega,hok,?_⟩
    rw [List.pairwise_iff_getElem]
    have step : ∀ j (hj:j+1<l.length),Bef l[j] l[j+1]:=fun j hj=>by
     have h1:=hf (j+1) _ (gge hj)
     rw [GH (hok _ (List.getElem_mem hj)) (gge (show j<l.length by omega))] at h1
     split at h1
     · rename_i h;exact Jk.1 h
     · cases h1
    have far : ∀ d i (hd:i+d+1<l.length),Bef (l[i]'(by omega)) l[i+d+1]:=by
     intro d
     induction d with
     | zero=>intro i hd;exact step i hd
     | succ d ih =>
      intro i hd
      have h1:=ih i (by omega)
      have h2:=step (i+d+1) (by omega)
      exact h1.trans (hok _ (List.getElem_mem _)) h2
    intro i j hi hj hij
    have:=far (j-i-1) i (by omega)
    have e:i+(j-i-1)+1=j:=by omega
    simp only [e] at this
    exact this
def zeroE:DElem:=⟨⟨0,0,0⟩,0,0,ByteArray.mk #[]⟩
def atE (l:List DElem)(k:DKey)(t:Int):Int:=if F6 l≠0 then F6 l else if Fs k≠0 then Fs k else if (atR l k t).isNone then 4 else 0
def atV (l:List DElem)(k:DKey)(t:Int):DElem:=if F6 l=0∧Fs k=0 then (atR l k t).getD zeroE else zeroE
section
variable {α:Type} {l a b:List α} {x:α}
end
theorem Run.made {l:List DElem}(h:Run l){e:DElem}(he:e∈l):1≤e.made∧e.made≤2147483647:=by
 obtain⟨_,h1,h2,_⟩:=Fd (h.ok e he);exact⟨h1,h2⟩
def Ic (l:List DElem)(k:DKey)(v:ByteArray)(t:Int):Int :=
 if F6 l≠0 then F6 l else if DG (Ev k v t)≠0 then DG (Ev k v t) else if t<EA l then 9 else if 400<(putR l k v t).length then 8 else 0
theorem ID {l:List DElem}{k:DKey}{v:ByteArray}{t:Int}:Ic l k v t=0↔Run l∧DG (Ev k v t)=0∧EA l≤t∧(putR l k v t).length≤400:=by
 unfold Ic
 rw [← EI]
 split
 · simp_all
 · split
   · simp_all
   · split
     · constructor
       · intro h;cases h
       · omega
     · split
       · constructor
         · intro h;cases h
         · omega
       · simp_all
def IM (l:List DElem)(k:DKey)(t:Int):Int :=
 if F6 l≠0 then F6 l else if Fs k≠0 then Fs k else if t<1∨2147483647<t∨t<EA l then 9 else if (Ep l k).isNone then 4 else 0
theorem Io {l:List DElem}{k:DKey}{t:Int}:IM l k t=0↔Run l∧Fs k=0∧1≤t∧t≤2147483647∧EA l≤t∧(Ep l k).isSome=true:=by
 unfold IM
 rw [← EI]
 split
 · simp_all
 · split
   · simp_all
   · split
     · constructor
       · intro h;cases h
       · omega
     · cases Ep l k
       · simp
       · simp_all
end Go.Proofs.Ytcmkdoahkncakaa
