/- Recursion, gone through in place. Its conditions: none; every theorem holds for every program of the model. -/
import Derived.Test.YtfbpiogbhkgieaaGreatOpsL
import Derived.MapKept
import Derived.Test.YtfbpiogbhkgieaaGreatDataL
namespace Go.Proofs.YtfbpiogbhkgieaaGreat
open Go.RowKit
section
variable {P:Program} {N:Sz} {w0:World} {V:View} {H:List HObj} {M:List (Nat × Value)} {ops:Array Oper} {Q:Exit→Act→World→Prop} {o:Oper} {K:Act→World→Prop} {t kt et:TypeId} {b:Nat} {l:List (Int × ByteArray)}
end
end Go.Proofs.YtfbpiogbhkgieaaGreat
namespace Go.Proofs.YtfbpiogbhkgieaaGreat
open Go.RowKit
set_option linter.unusedVariables false
section
variable {P:Program} {M:List (Nat × Value)} {o:Oper} {N:Sz} {w0 w:World} {V:View} {H:List HObj}
end
section
variable {P:Program} {M:List (Nat × Value)} {o:Oper} {N:Sz} {w0 w:World} {V:View} {H:List HObj} {α:Type} {E:Enc α} {φ:Act→World→Prop}
theorem W1.sT {ops:Array Oper} {Q:Exit→Act→World→Prop} {K:Act→World→Prop} (h:T N w0 V H M (fun a w=>Region.wanted o (yielded ops a.tmps)=true∧o.wp P a w K Q)) : W1 P Q ops o N w0 V H M K:=h
theorem W1.sU {ops:Array Oper} {Q:Exit→Act→World→Prop} {K:Act→World→Prop} (h:W1 P Q ops o N w0 V H M K) : T N w0 V H M (fun a w=>Region.wanted o (yielded ops a.tmps)=true∧o.wp P a w K Q):=h
end
section
variable {N:Sz} {M:List (Nat × Value)} {w0 w:World} {V:View} {H H' : List HObj} {α:Type} {E:Enc α} {φ:Act→World→Prop} {p:Bool} {e:TypeId} {A:Option Addr} {c:Nat} {l:List α}
theorem rg {x:α} {b:Nat} {t:TypeId} {cs:List Value} (hh:Hp w0 V H w) {i:Nat} (hi:nth H i=some (box b t cs)) (hr:E.rep V cs x) : ∃ news,iJ V E news [x]∧mv (vw w) (some ⟨b,0,none⟩) news:=by
 refine⟨cs,⟨?_,fun k y hk=>?_⟩,qh fun j=>?_⟩
 · rw [E.len hr];simp
 · cases k with
   | zero =>
    obtain rfl:x=y:=by simpa using hk
    rw [Nat.zero_mul,List.drop_zero,List.take_of_length_le (by rw [E.len hr];exact Nat.le_refl _)]
    exact hr
   | succ k=>simp at hk
 · rw [jE] at hi
   exact hh.cell_box hi j
end
theorem T.jD {P:Program} {fn:Func} {R:Ending→World→Prop} {N:Sz} {M:List (Nat × Value)} {w0:World} {V:View} {H:List HObj} (hr:fn.results = #[]) (h : ∀ w,Hp w0 V H w→R (.returned (.tuple #[])) w) (hN:N.ds=[]:=by rfl) : T N w0 V H M (bodyPost P fn R .normal) :=
 fun a w hf hh=>⟨by rw [hf.defers,hN];rfl,_,by simp [results,hr],h w hh⟩
end Go.Proofs.YtfbpiogbhkgieaaGreat
namespace Go.Proofs.YtfbpiogbhkgieaaGreat
structure Dbuild_low where
 i:Int
 s:DSpot
 deriving DecidableEq
def Dbuild_low.cells (x:Dbuild_low) : List Value:=[.int .i64 x.i,.int .i64 x.s.key.pfs,.int .i64 x.s.key.obj,.int .i64 x.s.key.off,.int .i64 x.s.made]
def ebuild_low:Enc Dbuild_low:=lP 5 Dbuild_low.cells (fun _=>rfl) (fun _=>jJ rfl)
end Go.Proofs.YtfbpiogbhkgieaaGreat
namespace Go.Proofs.YtfbpiogbhkgieaaGreat
open Go.RowKit
set_option linter.unusedVariables false
def nS {σ ρ:Type} (f:(σ→Option ρ)→σ→Option ρ) : Nat→σ→Option ρ
 | 0,_=>none
 | n + 1,s=>f (nS f n) s
theorem kQ {σ ρ:Type} {f:(σ→Option ρ)→σ→Option ρ} (Q:σ→ρ→Prop) : ∀ {n:Nat} {s:σ} {r:ρ},nS f n s=some r →
 (∀ self:σ→Option ρ,(∀ s r,self s=some r→Q s r)→∀ s r,f self s=some r→Q s r)→Q s r
 | 0,_,_,h,_=>by cases h
 | n + 1,s,r,h,step=>step (nS f n) (fun s r h=>kQ Q h step) s r h
section
variable {P:Program} {N:Sz} {w0:World} {V:View} {H:List HObj} {M:List (Nat × Value)} {ops:Array Oper} {Q:Exit→Act→World→Prop} {o:Oper} {K:Act→World→Prop} {fn:Func} {c:Code} {R:Ending→World→Prop}
theorem W1.nA (f:FuncId) (l:List Value) (I:Value→World→Prop) (hc:okO N ops M o=true) (hv : ∀ w,(execOp (evM M) o).run P w = .ok (.enter f l.toArray) w)
 (hf : ∀ w,Hp w0 V H w→Calls P f l.toArray w (fun e w'=>∃ v,e = .returned v∧I v w'))
 (k : ∀ v w',I v w'→∃ V' H',Hp w0 V' H' w'∧T N w0 V' H' (io o.dst v M) K) : W1 P Q ops o N w0 V H M K:=fun a w hfr hh=>by
 obtain⟨h1,_,_,h4⟩:=i8 hc
 refine⟨iW hfr h1,?_⟩
 unfold Oper.wp
 rw [jk hc hfr,hv w,Oper.upon_enter]
 refine(hf w hh).mono ?_
 rintro e w' ⟨v,rfl,hi⟩
 obtain⟨V',H',hh',ht⟩:=k v w' hi
 exact ht _ _ (hfr.put h4 v) hh'
theorem T.iF {N:Nat} {w:World} {l:List Value} {f:FuncId} (hf:P.funcs[f]? = some fn) (hb:fn.body=some c) (hN:fn.ntmps=N) (hn:Nat.ble l.length N=true)
 (h:T ⟨N,[]⟩ w0 V H (pZ 0 l) (c.wpIn (RF none) 0 P (bodyPost P fn R))) (hh:Hp w0 V H w) : Calls P f l.toArray w R:=by
 subst hN
 refine calls_of_wp hf hb (wpIn_wide.1 (h _ w (Fr.start l.toArray fn.ntmps (by simpa using Nat.le_of_ble_eq_true hn) _ fun t v hv=>?_) hh))
 have:=(nF l 0 t v hv).2
 simpa using this
end
end Go.Proofs.YtfbpiogbhkgieaaGreat
