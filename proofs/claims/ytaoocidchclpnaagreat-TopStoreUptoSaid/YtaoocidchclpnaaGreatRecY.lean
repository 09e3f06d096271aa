/- Recursion, gone through in place. Its conditions: none; every theorem holds for every program of the model. -/
import Derived.Test.YtaoocidchclpnaaGreatArrY
namespace Go.Proofs.YtaoocidchclpnaaGreat
structure Dbuild_low where
 i:Int
 s:DSpot
 deriving DecidableEq
def Dbuild_low.cells (x:Dbuild_low) : List Value:=[.int .i64 x.i,.int .i64 x.s.key.pfs,.int .i64 x.s.key.obj,.int .i64 x.s.key.off,.int .i64 x.s.made]
def ebuild_low:Enc Dbuild_low:=mA 5 Dbuild_low.cells (fun _=>rfl) (fun _=>jg rfl)
end Go.Proofs.YtaoocidchclpnaaGreat
namespace Go.Proofs.YtaoocidchclpnaaGreat
open Go.RowKit
set_option linter.unusedVariables false
def ql {σ ρ:Type} (f:(σ→Option ρ)→σ→Option ρ) : Nat→σ→Option ρ
 | 0,_=>none
 | n + 1,s=>f (ql f n) s
theorem mn {σ ρ:Type} {f:(σ→Option ρ)→σ→Option ρ} (Q:σ→ρ→Prop) : ∀ {n:Nat} {s:σ} {r:ρ},ql f n s=some r →
 (∀ self:σ→Option ρ,(∀ s r,self s=some r→Q s r)→∀ s r,f self s=some r→Q s r)→Q s r
 | 0,_,_,h,_=>by cases h
 | n + 1,s,r,h,step=>step (ql f n) (fun s r h=>mn Q h step) s r h
section
variable {P:Program} {N:Sz} {w0:World} {V:View} {H:List HObj} {M:List (Nat × Value)} {ops:Array Oper} {Q:Exit→Act→World→Prop} {o:Oper} {K:Act→World→Prop} {fn:Func} {c:Code} {R:Ending→World→Prop}
theorem W1.pF (f:FuncId) (l:List Value) (I:Value→World→Prop) (hc:okO N ops M o=true) (hv : ∀ w,(execOp (evM M) o).run P w = .ok (.enter f l.toArray) w)
 (hf : ∀ w,Hp w0 V H w→Calls P f l.toArray w (fun e w'=>∃ v,e = .returned v∧I v w'))
 (k : ∀ v w',I v w'→∃ V' H',Hp w0 V' H' w'∧T N w0 V' H' (jh o.dst v M) K) : W1 P Q ops o N w0 V H M K:=fun a w hfr hh=>by
 obtain⟨h1,_,_,h4⟩:=i9 hc
 refine⟨iY hfr h1,?_⟩
 unfold Oper.wp
 rw [jq hc hfr,hv w,Oper.upon_enter]
 refine(hf w hh).mono ?_
 rintro e w' ⟨v,rfl,hi⟩
 obtain⟨V',H',hh',ht⟩:=k v w' hi
 exact ht _ _ (hfr.put h4 v) hh'
theorem T.iZ {N:Nat} {w:World} {l:List Value} {f:FuncId} (hf:P.funcs[f]? = some fn) (hb:fn.body=some c) (hN:fn.ntmps=N) (hn:Nat.ble l.length N=true)
 (h:T ⟨N,[]⟩ w0 V H (qN 0 l) (c.wpIn (RF none) 0 P (bodyPost P fn R))) (hh:Hp w0 V H w) : Calls P f l.toArray w R:=by
 subst hN
 refine calls_of_wp hf hb (wpIn_wide.1 (h _ w (Fr.start l.toArray fn.ntmps (by simpa using Nat.le_of_ble_eq_true hn) _ fun t v hv=>?_) hh))
 have:=(oz l 0 t v hv).2
 simpa using this
end
end Go.Proofs.YtaoocidchclpnaaGreat
