/- The program logic's rules for memory: loads, stores, owned rows, regions whose order is open. Its conditions: none. -/
import Derived.Test.YtljbmnknmhogaaaCoreT
import Derived.Deep.Quiet
import Derived.LoopN
import Derived.Maps.AppendAt
import Derived.Laws.Entries
namespace Go.Proofs.Ytljbmnknmhogaaa
open Go.RowKit
section
variable {P:Program}
theorem iG {M:List (Nat × Value)} {o:Oper} {t:TypeId} {x:Operand} {a:Addr} {v:Value} {w:World} (ho:o.op = .load t x) (hx:evM M x = .pointer (some a))
 (ht:(isAgg t).run P w = .ok false w) (hc:w.cell? a=some v) : (execOp (evM M) o).run P w = .ok (.value v) w:=by
 simp [execOp,ho,hx,Instr.loadAt,Instr.sureAddr,loadVar,ht,load,Sem.run,hc]
theorem lK {M:List (Nat × Value)} {o:Oper} {t:TypeId} {x:Operand} {a:Addr} {cs:List Value} {w:World} (ho:o.op = .load t x) (hx:evM M x = .pointer (some a))
 (ht:(isAgg t).run P w = .ok true w) (hs:(sizeOf t).run P w = .ok cs.length w) (hc : ∀ j v,cs[j]? = some v→w.cell? (a.add j)=some v) :
 (execOp (evM M) o).run P w = .ok (.value (.agg cs.toArray)) w:=by
 simp [execOp,ho,hx,Instr.loadAt,Instr.sureAddr,loadVar,ht,hs,run_loadCells_list w a cs hc]
theorem pH {M:List (Nat × Value)} {o:Oper} {t:TypeId} {x y:Operand} {b off:Nat} {v:Value} {vs cs cs' : List Value} {t' : TypeId} {w:World} (ho:o.op = .store t x y)
 (hx:evM M x = .pointer (some ⟨b,off,none⟩)) (hy:evM M y=v) (hvs:v.cells=vs.toArray) (hs:(sizeOf t).run P w = .ok vs.length w) (h1 : ∀ u∈vs,u.oneCell' = true)
 (hl:off + vs.length≤cs.length) (hcs:cs.take off ++ vs ++ cs.drop (off + vs.length)=cs') (hw:w.heap[b]? = some (.cells cs.toArray t' (0,0))) :
 (execOp (evM M) o).run P w = .ok .skip (w.setRow b cs'.toArray):=by
 have hst:=run_storeCells_at P b off t' vs 0 cs.toArray w hw (by simpa using hl) h1
 simp only [Nat.add_zero] at hst
 rw [hcs] at hst
 simp [execOp,ho,hx,hy,Instr.storeAt,Instr.sureAddr,storeVar,hvs,hs,hst]
theorem Hp.sub {w0:World} {V:View} {H H' : List HObj} {w:World} (h:Hp w0 V H w) (hs:H'.Sublist H) : Hp w0 V H' w :=
 ⟨h.os,h.tape,h.output,h.size,h.view,h.base,fun x hx=>h.objs x (hs.subset hx),fun x hx=>h.apart x (hs.subset hx),h.sep.sublist hs⟩
theorem T.rI {N:Sz} {w0:World} {V:View} {H H' : List HObj} {M M' : List (Nat × Value)} {φ:Act→World→Prop} (h:T N w0 V H' M' φ) (hM : ∀ a,Fr N M a→Fr N M' a) (hs:H'.Sublist H) : T N w0 V H M φ :=
 fun a w hf hh=>h a w (hM a hf) (hh.sub hs)
theorem Hp.called_same {w0:World} {V:View} {H:List HObj} {w w' : World} (h:Hp w0 V H w) (hb:Below w.heap.size w w') : Hp w0 V H w':=by
 refine⟨hb.os.trans h.os,hb.tape.trans h.tape,hb.output.trans h.output,Nat.le_trans h.size hb.size,fun b o hv=>?_,h.base,fun x hx=>?_,h.apart,h.sep⟩
 · have h1:=h.view b o hv
   show w'.heap[b]? = some o
   rw [hb.block b (jI h1)]
   exact h1
 · exact x.loc V w w' (fun b hxb=>hb.block b (x.lt V w b (h.objs x hx) hxb)) (h.objs x hx)
def mb {α:Type} (n:Nat) (f:α→List Value) (h : ∀ x,(f x).length=n) (h1 : ∀ x,∀ u∈f x,u.oneCell' = true) : Enc α where
 size:=n
 rep:=fun _ cs x=>cs=f x
 mono:=fun _ h=>h
 len:=fun {_ _ x} e=>by rw [e];exact h x
 one:=fun {_ _ x} e=>by rw [e];exact h1 x
def eK (k:IntKind) : Enc Int:=mb 1 (fun x=>[.int k x]) (fun _=>rfl) (fun _ u hu=>by simp at hu;subst hu;rfl)
abbrev ic:Enc Int:=eK .i64
def eBool:Enc Bool:=mb 1 (fun x=>[.bool x]) (fun _=>rfl) (fun _ u hu=>by simp at hu;subst hu;rfl)
def rA:Enc ByteArray:=mb 1 (fun x=>[.string x]) (fun _=>rfl) (fun _ u hu=>by simp at hu;subst hu;rfl)
def ms (V:View) (A:Option Addr) (xs:List Value) : Prop:=∀ j u,xs[j]? = some u→∃ a,A=some a∧V.cell (a.add j)=some u
def iN {α:Type} (V:View) (E:Enc α) (xs:List Value) (l:List α) : Prop :=
 xs.length=l.length * E.size∧∀ k x,l[k]? = some x→E.rep V ((xs.drop (k * E.size)).take E.size) x
def ib {α:Type} (V:View) (E:Enc α) (A:Option Addr) (c:Nat) (l:List α) : Prop :=
 l.length≤c∧c≤maxLen∧∃ xs,iN V E xs l∧ms V A xs
section slices
variable {α:Type} {V V' : View} {E:Enc α} {A:Option Addr} {c:Nat} {l:List α} {xs:List Value}
theorem ms.mono (h:ms V A xs) (hv:View.le V V') : ms V' A xs:=fun j u hu=>by
 obtain⟨a,ha,hc⟩:=h j u hu
 exact⟨a,ha,View.cell_mono hv hc⟩
theorem iN.mono (h:iN V E xs l) (hv:View.le V V') : iN V' E xs l:=⟨h.1,fun k x hk=>E.mono hv (h.2 k x hk)⟩
theorem ib.mono (h:ib V E A c l) (hv:View.le V V') : ib V' E A c l:=by
 obtain⟨h1,h2,xs,h3,h4⟩:=h
 exact⟨h1,h2,xs,h3.mono hv,h4.mono hv⟩
def lf (E:Enc α) : Enc (List α) where
 size:=1
 rep:=fun V cs l=>∃ A c,cs=[.slice A l.length c]∧ib V E A c l
 mono:=fun hv ⟨A,c,h1,h2⟩=>⟨A,c,h1,h2.mono hv⟩
 len:=fun ⟨_,_,h1,_⟩=>by rw [h1];rfl
 one:=fun ⟨_,_,h1,_⟩ u hu=>by rw [h1] at hu;simp at hu;subst hu;rfl
theorem lm (a:Addr) (n:Nat) : (a.add n).block=a.block:=by unfold Addr.add;split <;> rfl
theorem lH (a:Addr) (i j:Nat) : (a.add i).add j=a.add (i + j):=by
 unfold Addr.add
 by_cases hi:i=0 <;> by_cases hj:j=0 <;> simp [hi,hj,Nat.add_assoc]
def iI (A:Option Addr) : Addr:=A.getD ⟨0,0,none⟩
theorem ib.elem (h:ib V E A c l) {k:Nat} {x:α} (hk:l[k]? = some x) :
 ∃ cs,E.rep V cs x∧∀ j u,cs[j]? = some u→A.isSome=true∧V.cell (((iI A).add (k * E.size)).add j)=some u:=by
 obtain⟨_,_,xs,h3,h4⟩:=h
 refine⟨_,h3.2 k x hk,fun j u hu=>?_⟩
 rw [List.getElem?_take] at hu
 split at hu
 · rw [List.getElem?_drop] at hu
   obtain⟨a,rfl,hc⟩:=h4 _ u hu
   refine⟨rfl,?_⟩
   rw [lH]
   exact hc
 · cases hu
theorem ib.cell (h:ib V E A c l) {k f:Nat} {x:α} {u:Value} (hk:l[k]? = some x) (hf : ∀ cs,E.rep V cs x→cs[f]? = some u) :
 V.cell (((iI A).add (k * E.size)).add f)=some u:=by
 obtain⟨cs,hr,hc⟩:=h.elem hk
 exact(hc f u (hf cs hr)).2
theorem ib.some_ (h:ib V E A c l) {k:Nat} {x:α} (hk:l[k]? = some x) (hs:0 < E.size) : A.isSome=true:=by
 obtain⟨cs,hr,hc⟩:=h.elem hk
 have hl:=E.len hr
 have:cs[0]? = some (cs[0]'(by omega)):=List.getElem?_eq_getElem (by omega)
 exact(hc 0 _ this).1
theorem ib.nil (V:View) (E:Enc α) : ib V E none 0 []:=⟨Nat.le_refl _,by decide,[],⟨by simp,fun k x hk=>by simp at hk⟩,fun j u hu=>by simp at hu⟩
end slices
theorem ig {M:List (Nat × Value)} {o:Oper} {t e:TypeId} {x i:Operand} {A:Option Addr} {n c s:Nat} {k:IntKind} {iv:Int} {w:World} (ho:o.op = .indexAddr t x i)
 (hx:evM M x = .slice A n c) (hi:evM M i = .int k iv) (ht:P.underlying t=some (.slice e)) (hs:(sizeOf e).run P w = .ok s w) (h0:0≤iv) (hn:iv < n) (hA:A.isSome=true) :
 (execOp (evM M) o).run P w = .ok (.value (.pointer (some ((iI A).add (iv.toNat * s))))) w:=by
 obtain⟨a,rfl⟩:=Option.isSome_iff_exists.1 hA
 simp [execOp,ho,hx,hi,Instr.indexAt,asIntOf,run_underlying ht,hs,h0,hn,iI]
def idx {α:Type} (l:List α) (i:Int) : Option α:=if i < 0 then none else l[i.toNat]?
theorem ij {α:Type} {l:List α} {i:Int} {x:α} (h:idx l i=some x) : 0≤i∧i < l.length∧l[i.toNat]? = some x:=by
 unfold idx at h
 split at h
 · cases h
 · rename_i hi
   have hlt:=(List.getElem?_eq_some_iff.1 h).1
   exact⟨by omega,by omega,h⟩
theorem jX {w:World} {k:IntKind} {i:Int} {y:Nat} {code:BoundsCode} (h0:0≤i) (h1:i≤y) : (Instr.sliceBound (.int k i) y code).run P w = .ok i.toNat w:=by
 simp [Instr.sliceBound,asIntOf,h0,h1]
def seq (x y:ByteArray) : Bool:=x.toList == y.toList
def iter {σ ρ:Type} (f:σ→Option (σ ⊕ ρ)) : Nat→σ→Option ρ
 | 0,_=>none
 | n + 1,s=>match f s with
  | none=>none
  | some (.inl s')=>iter f n s'
  | some (.inr r)=>some r
def FUEL:Nat:=18446744073709551616
class Big (F:Nat) : Prop where
 le:18446744073709551616≤F
instance :Big FUEL:=⟨Nat.le_refl _⟩
theorem rj {rl:Option Nat} {σ ρ:Type} {c:Code} {f:σ→Option (σ ⊕ ρ)} {I:σ→Act→World→Prop} {Q:Exit→Act→World→Prop} (r:ρ)
 (body : ∀ s y,f s=some y→(∀ r',y = .inr r'→r' = r)→∀ a w,I s a w→c.wpIn (RF rl) 0 P (Exit.then (fun a' w'=>∃ s',y = .inl s'∧I s' a' w') Q) a w) :
 ∀ n s,iter f n s=some r→∀ a w,I s a w→(Code.loop c).wpIn (RF rl) 0 P Q a w:=by
 intro n s hn a w hI
 refine wpIn_loop_rounds n ?_
 have key : ∀ n s,iter f n s=some r→∀ a w,I s a w→Code.roundsIn (RF rl) 0 P c Q n a w:=by
  intro n
  induction n with
  | zero=>intro s hs;cases hs
  | succ n ih =>
   intro s hs a w hI
   simp only [iter] at hs
   cases hf:f s with
   | none=>rw [hf] at hs;cases hs
   | some y =>
    have hy : ∀ r',y = .inr r'→r' = r:=fun r' e=>by
     subst e
     rw [hf] at hs
     exact Option.some.inj hs
    rw [roundsIn_succ]
    refine Go.wpIn_mono (body s y hf hy a w hI) (fun e a₁ w₁ hq=>?_)
    cases e with
    | normal =>
     obtain⟨s',rfl,hI'⟩:=hq
     rw [hf] at hs
     exact ih s' hs a₁ w₁ hI'
    | exit id=>exact hq
    | goto l=>exact hq
    | ret=>exact hq
    | panic ch=>exact hq
    | outgrown=>exact hq
 exact key n s hn a w hI
section
variable {rl:Option Nat} {N:Sz} {w0:World} {V:View} {H:List HObj} {M:List (Nat × Value)} {Q:Exit→Act→World→Prop} {c:Code}
theorem T.qu (n:Nat) (h:T N w0 V H M (Code.roundsIn (RF rl) 0 P c Q n)) : T N w0 V H M ((Code.loop c).wpIn (RF rl) 0 P Q):=fun a w hf hh=>wpIn_loop_rounds n (h a w hf hh)
theorem T.nS {n:Nat} (h:T N w0 V H M (c.wpIn (RF rl) 0 P (Exit.then (Code.roundsIn (RF rl) 0 P c Q n) Q))) : T N w0 V H M (Code.roundsIn (RF rl) 0 P c Q (n + 1)):=fun a w hf hh=>by
 rw [roundsIn_succ]
 exact h a w hf hh
theorem T.jl {σ ρ:Type} {f:σ→Option (σ ⊕ ρ)} {n:Nat} {s:σ} {r:ρ} (I:σ→Act→World→Prop) (hr:iter f n s=some r) (h0:T N w0 V H M (I s))
 (body : ∀ s y,f s=some y→(∀ r',y = .inr r'→r' = r)→∀ a w,I s a w→c.wpIn (RF rl) 0 P (Exit.then (fun a' w'=>∃ s',y = .inl s'∧I s' a' w') Q) a w) :
 T N w0 V H M ((Code.loop c).wpIn (RF rl) 0 P Q):=fun a w hf hh=>rj r body n s hr a w (h0 a w hf hh)
end
section
variable {N:Sz} {w0:World} {V:View} {H:List HObj} {M:List (Nat × Value)} {ops:Array Oper} {Q:Exit→Act→World→Prop} {rest:List Oper} {o:Oper} {φ:Act→Prop}
def TQ (N:Sz) (M:List (Nat × Value)) (φ:Act→Prop) : Prop:=∀ a,Fr N M a→φ a
theorem T.j6 {id:Nat} {l:List Oper} (hm:P.follows .mixedOrders=true) (hB:Region.lexB .any l.toArray=true)
 (h:TQ N M (wpQuiet P l.toArray (Hp w0 V H) (fun a'=>∀ w',Hp w0 V H w'→Q .normal a' w') l)) : T N w0 V H M ((Code.region id l.toArray true).wpIn (RF none) 0 P Q) :=
 fun a w hf hh=>wpIn_wide.2 (wp_region_quiet (C:=Hp w0 V H) hm hB hh.drew (by simpa using h a hf))
theorem TQ.jN (h:T N w0 V H M (Q .normal)) : TQ N M (wpQuiet P ops (Hp w0 V H) (fun a'=>∀ w',Hp w0 V H w'→Q .normal a' w') []):=fun a hf w' hh=>h a w' hf hh
theorem TQ.pX (v:Value) (hc:okO N ops M o=true) (hv : ∀ w,Hp w0 V H w→(execOp (evM M) o).run P w = .ok (.value v) w)
 (h:TQ N (iq o.dst v M) (wpQuiet P ops (Hp w0 V H) φ rest)) : TQ N M (wpQuiet P ops (Hp w0 V H) φ (o::rest)):=fun a hf=>by
 obtain⟨h1,_,_,h4⟩:=jd hc
 unfold wpQuiet
 rw [if_pos (i8 hf h1)]
 refine⟨v,fun w hw=>?_,h _ (hf.put h4 v)⟩
 unfold Oper.quietAt
 rw [jr hc hf,hv w hw]
 exact⟨rfl,rfl⟩
theorem TQ.qV (v:Value) (hc:okO N ops M o=true) (hv : ∀ w,(execOp (evM M) o).run P w = .ok (.value v) w)
 (h:TQ N (iq o.dst v M) (wpQuiet P ops (Hp w0 V H) φ rest)) : TQ N M (wpQuiet P ops (Hp w0 V H) φ (o::rest)):=TQ.pX v hc (fun w _=>hv w) h
theorem TQ.qU (hg:gd ops M o.guard=some false) (hd:mO N o.dst=true) (h:TQ N (iq o.dst undef M) (wpQuiet P ops (Hp w0 V H) φ rest)) :
 TQ N M (wpQuiet P ops (Hp w0 V H) φ (o::rest)):=fun a hf=>by
 unfold wpQuiet
 rw [if_neg (by rw [i8 hf hg];simp)]
 exact h _ (hf.put hd undef)
theorem TQ.jA {ρ:Type} (E:VEnc ρ) (r:ρ) (f:FuncId) (vs:Array Value) (v:Value) (hval : ∀ V u,E.rep V u r→u=v) (hc:okO N ops M o=true)
 (hv : ∀ w,(execOp (evM M) o).run P w = .ok (.enter f vs) w) (hf : ∀ w,Hp w0 V H w→Calls P f vs w (jZ E r w))
 (h:TQ N (iq o.dst v M) (wpQuiet P ops (Hp w0 V H) φ rest)) : TQ N M (wpQuiet P ops (Hp w0 V H) φ (o::rest)):=fun a hfr=>by
 obtain⟨h1,_,_,h4⟩:=jd hc
 unfold wpQuiet
 rw [if_pos (i8 hfr h1)]
 refine⟨v,fun w hw=>?_,h _ (hfr.put h4 v)⟩
 unfold Oper.quietAt
 rw [jr hc hfr,hv w]
 refine⟨rfl,(hf w hw).mono ?_⟩
 rintro e w' ⟨u,rfl,hb,hr⟩
 exact⟨by rw [hval _ _ hr],hw.called_same hb⟩
end
section
variable {N:Sz} {w0:World} {V V0:View} {H H0:List HObj} {M:List (Nat × Value)} {ops:Array Oper} {Q:Exit→Act→World→Prop} {o:Oper} {fuel:Nat} {listed:Array Bool}
theorem T.jB {id:Nat} {l:List Oper} (H0:List HObj) (hm:P.follows .mixedOrders=true)
 (h:T N w0 V H M (wpAnyH P .any l.toArray Q (Hp w0 V H0) l.length (Array.replicate l.length false))) : T N w0 V H M ((Code.region id l.toArray true).wpIn (RF none) 0 P Q) :=
 fun a w hf hh=>wpIn_wide.2 (wp_region_held (S:=Hp w0 V H0) hm (by simpa using h a _ hf hh.drew))
theorem TA.qP (hr:Region.ready .any ops listed=[]) (h:T N w0 V H M (Q .normal)) : T N w0 V H M (wpAnyH P .any ops Q (Hp w0 V0 H0) fuel listed) :=
 fun a w hf hh=>wpAnyH_done hr (h a w hf hh) fuel
theorem TA.qQ (i:Nat) (v:Value) (hi:ops[i]? = some o) (hsel:Region.noSelect ops=true) (hfree:Region.free .any ops listed i=true) (hr:(Region.ready .any ops listed).contains i=true)
 (hQ : ∀ c a w,Q (.panic c) (a.put o.dst v) w→Q (.panic c) a w) (hS : ∀ w,Hp w0 V H w→Hp w0 V0 H0 w)
 (hc:okO N ops M o=true) (hv : ∀ w,Hp w0 V0 H0 w→(execOp (evM M) o).run P w = .ok (.value v) w)
 (h:T N w0 V H (iq o.dst v M) (wpAnyH P .any ops Q (Hp w0 V0 H0) fuel (listed.setIfInBounds i true))) : T N w0 V H M (wpAnyH P .any ops Q (Hp w0 V0 H0) (fuel + 1) listed) :=
 fun a w hf hh=>by
  obtain⟨h1,_,_,h4⟩:=jd hc
  refine wpAnyH_take hi hsel hfree hr hQ (.inl ⟨i8 hf h1,fun w' hw'=>?_⟩) (hS w hh) (h _ _ (hf.put h4 v) hh)
  rw [jr hc hf]
  exact hv w' hw'
theorem TA.rD (i:Nat) (hr:Region.ready .any ops listed=[i]) (hi:ops[i]? = some o)
 (h:W1 P Q ops o N w0 V H M (fun a' w'=>Hp w0 V0 H0 w'∧wpAnyH P .any ops Q (Hp w0 V0 H0) fuel (listed.setIfInBounds i true) a' w')) : T N w0 V H M (wpAnyH P .any ops Q (Hp w0 V0 H0) (fuel + 1) listed) :=
 fun _ w hf hh=>by
  refine wpAnyH_all hr (by simp) (fun j hj=>?_)
  simp only [List.mem_singleton] at hj
  subst hj
  obtain⟨h1,h2⟩:=h _ w hf hh
  unfold wpOp
  simp only [hi]
  rw [if_pos h1]
  exact .inl h2
theorem TA.rJ {φ ψ:Act→World→Prop} (h1 : ∀ w,Hp w0 V H w→Hp w0 V0 H0 w) (h:T N w0 V H M ψ) (hφ : ∀ a w,φ a w↔(Hp w0 V0 H0 w∧ψ a w)) : T N w0 V H M φ :=
 fun a w hf hh=>(hφ a w).2 ⟨h1 w hh,h a w hf hh⟩
theorem Hp.older {w:World} (hv:View.le V0 V) (hb:View.le (vw w0) V0) (hs:H0.Sublist H) (ho : ∀ x∈H0,∀ w,x.ok V w→x.ok V0 w) (h:Hp w0 V H w) : Hp w0 V0 H0 w :=
 ⟨h.os,h.tape,h.output,h.size,View.le_trans hv h.view,hb,fun x hx=>ho x hx w (h.objs x (hs.subset hx)),fun x hx b hxb=>by
  have h1:=h.apart x (hs.subset hx) b hxb
  cases hV:V0 b with
  | none=>rfl
  | some o=>exact absurd (hv b o hV) (by rw [h1];simp),h.sep.sublist hs⟩
end
def ph:Nat→List Value→List (Nat × Value)
 | _,[]=>[]
 | n,v::l=>(n,v)::ph (n + 1) l
theorem nb : ∀(l:List Value) (n t:Nat) (v:Value),lk (ph n l) t=some v→n≤t∧l[t - n]? = some v
 | [],_,_,_,h=>by cases h
 | u::l,n,t,v,h=>by
  simp only [ph,lk] at h
  cases hb:Nat.beq n t with
  | true =>
   rw [hb,cond_true] at h
   obtain rfl:=Nat.eq_of_beq_eq_true hb
   exact⟨Nat.le_refl _,by simpa using h⟩
  | false =>
   rw [hb,cond_false] at h
   obtain⟨h1,h2⟩:=nb l (n + 1) t v h
   refine⟨by omega,?_⟩
   have e:t - n=(t - (n + 1)) + 1:=by omega
   rw [e,List.getElem?_cons_succ]
   exact h2
section
variable {N:Sz} {w0:World} {V:View} {H:List HObj} {M:List (Nat × Value)} {fn:Func} {R:Ending→World→Prop} {c:Code} {f:FuncId} {w:World}
theorem T.i9 {N:Nat} {l:List Value} (hf:P.funcs[f]? = some fn) (hb:fn.body=some c) (hN:fn.ntmps=N) (hn:Nat.ble l.length N=true)
 (h:T ⟨N,[]⟩ w (vw w) [] (ph 0 l) (c.wpIn (RF none) 0 P (bodyPost P fn R))) : Calls P f l.toArray w R:=by
 subst hN
 refine calls_of_wp hf hb (wpIn_wide.1 (h _ w (Fr.start l.toArray fn.ntmps (by simpa using Nat.le_of_ble_eq_true hn) _ fun t v hv=>?_) (Hp.start w)))
 have:=(nb l 0 t v hv).2
 simpa using this
def ow (tmps:Array Value) (r:ResultVar) : Sem Value :=
 match r with
 | .tmp t=>pure (tmps.getD t undef)
 | .cell a t=>do loadVar t (← asAddr (tmps.getD a undef))
theorem mZ (fn:Func) (tmps:Array Value) : results fn tmps=(do
 let vs ← fn.results.mapM (ow tmps)
 pure (if h:vs.size=1 then vs[0] else .tuple vs)):=rfl
def kF (P:Program) (N:Sz) (w0:World) (V:View) (H:List HObj) (M:List (Nat × Value)) (r:ResultVar) (v:Value) : Prop :=
 ∀ a w,Fr N M a→Hp w0 V H w→(ow a.tmps r).run P w = .ok v w
theorem Fr.getD {a:Act} (h:Fr N M a) {t:Nat} {v:Value} (hv:lk M t=some v) : a.tmps.getD t undef=v:=by
 rw [Array.getD_eq_getD_getElem?,h.get t v hv];rfl
theorem kF.tmp {t:Nat} {v:Value} (hv:lk M t=some v) : kF P N w0 V H M (.tmp t) v:=fun a w hf _=>by
 unfold ow
 dsimp only
 rw [hf.getD hv];rfl
theorem kF.cellN {t:Nat} {ty ty' : TypeId} {b:Nat} {cs:List Value} (i:Nat) (hv:lk M t=some (.pointer (some ⟨b,0,none⟩))) (hi:nth H i=some (box b ty' cs))
 (ht : ∀ w,(isAgg ty).run P w = .ok true w) (hs : ∀ w,(sizeOf ty).run P w = .ok cs.length w) : kF P N w0 V H M (.cell t ty) (.agg cs.toArray):=fun a w hf hh=>by
 rw [jC] at hi
 unfold ow
 dsimp only
 rw [hf.getD hv]
 have hc : ∀ j v,cs[j]? = some v→w.cell? ((⟨b,0,none⟩ : Addr).add j)=some v:=fun j v hj=>by
  have hadd:(⟨b,0,none⟩ : Addr).add j=⟨b,j,none⟩:=by unfold Addr.add;split <;> simp_all
  rw [hadd,hh.cell_box hi j,hj]
 simp [asAddr,loadVar,ht,hs,run_loadCells_list w _ cs hc]
theorem kF.cell1 {t:Nat} {ty ty' : TypeId} {b:Nat} {v:Value} (i:Nat) (hv:lk M t=some (.pointer (some ⟨b,0,none⟩))) (hi:nth H i=some (box b ty' [v]))
 (ht : ∀ w,(isAgg ty).run P w = .ok false w) : kF P N w0 V H M (.cell t ty) v:=fun a w hf hh=>by
 rw [jC] at hi
 unfold ow
 dsimp only
 rw [hf.getD hv]
 have hc:w.cell? ⟨b,0,none⟩=some v:=hh.cell_box hi 0
 simp [asAddr,loadVar,ht,load,Sem.run,hc]
theorem T.pD (hr:fn.results = #[]) (h : ∀ w,Hp w0 V H w→R (.returned (.tuple #[])) w) (hN:N.ds=[]:=by rfl) : T N w0 V H M (fun a w=>bodyPost P fn R .ret a w) :=
 fun a w hf hh=>⟨by rw [hf.defers,hN];rfl,_,by simp [results,hr],h w hh⟩
theorem T.ir {r:ResultVar} {v:Value} (hr:fn.results = #[r]) (h1:kF P N w0 V H M r v) (h : ∀ w,Hp w0 V H w→R (.returned v) w) (hN:N.ds=[]:=by rfl) : T N w0 V H M (fun a w=>bodyPost P fn R .ret a w) :=
 fun a w hf hh=>⟨by rw [hf.defers,hN];rfl,v,by rw [mZ,hr];simp [h1 a w hf hh],h w hh⟩
theorem T.jf {r1 r2:ResultVar} {v1 v2:Value} (hr:fn.results = #[r1,r2]) (h1:kF P N w0 V H M r1 v1) (h2:kF P N w0 V H M r2 v2) (h : ∀ w,Hp w0 V H w→R (.returned (.tuple #[v1,v2])) w) (hN:N.ds=[]:=by rfl) : T N w0 V H M (fun a w=>bodyPost P fn R .ret a w) :=
 fun a w hf hh=>⟨by rw [hf.defers,hN];rfl,.tuple #[v1,v2],by rw [mZ,hr];simp [h1 a w hf hh,h2 a w hf hh],h w hh⟩
theorem T.mt {r1 r2 r3:ResultVar} {v1 v2 v3:Value} (hr:fn.results = #[r1,r2,r3]) (h1:kF P N w0 V H M r1 v1) (h2:kF P N w0 V H M r2 v2) (h3:kF P N w0 V H M r3 v3) (h : ∀ w,Hp w0 V H w→R (.returned (.tuple #[v1,v2,v3])) w) (hN:N.ds=[]:=by rfl) : T N w0 V H M (fun a w=>bodyPost P fn R .ret a w) :=
 fun a w hf hh=>⟨by rw [hf.defers,hN];rfl,.tuple #[v1,v2,v3],by rw [mZ,hr];simp [h1 a w hf hh,h2 a w hf hh,h3 a w hf hh],h w hh⟩
end
def vSc {α:Type} (E:Enc α) : VEnc α:={ rep:=fun V v x=>E.rep V [v] x,mono:=fun hv h=>E.mono hv h }
def vAg {α:Type} (E:Enc α) : VEnc α:={ rep:=fun V v x=>∃ cs:List Value,v = .agg cs.toArray∧E.rep V cs x,mono:=fun hv ⟨cs,h1,h2⟩=>⟨cs,h1,E.mono hv h2⟩ }
def vT2 {α β:Type} (A:VEnc α) (B:VEnc β) : VEnc (α × β) :=
 { rep:=fun V v x=>∃ v1 v2,v = .tuple #[v1,v2]∧A.rep V v1 x.1∧B.rep V v2 x.2,mono:=fun hv ⟨v1,v2,h,h1,h2⟩=>⟨v1,v2,h,A.mono hv h1,B.mono hv h2⟩ }
def vT3 {α β γ:Type} (A:VEnc α) (B:VEnc β) (C:VEnc γ) : VEnc (α × β × γ) :=
 { rep:=fun V v x=>∃ v1 v2 v3,v = .tuple #[v1,v2,v3]∧A.rep V v1 x.1∧B.rep V v2 x.2.1∧C.rep V v3 x.2.2,mono:=fun hv ⟨v1,v2,v3,h,h1,h2,h3⟩=>⟨v1,v2,v3,h,A.mono hv h1,B.mono hv h2,C.mono hv h3⟩ }
theorem vAg.mk {α:Type} {E:Enc α} {V:View} {cs:List Value} {x:α} (h:E.rep V cs x) : (vAg E).rep V (.agg cs.toArray) x:=⟨cs,rfl,h⟩
theorem vT2.mk {α β:Type} {A:VEnc α} {B:VEnc β} {V:View} {v1 v2:Value} {x:α} {y:β} (h1:A.rep V v1 x) (h2:B.rep V v2 y) : (vT2 A B).rep V (.tuple #[v1,v2]) (x,y):=⟨v1,v2,rfl,h1,h2⟩
theorem vT3.mk {α β γ:Type} {A:VEnc α} {B:VEnc β} {C:VEnc γ} {V:View} {v1 v2 v3:Value} {x:α} {y:β} {z:γ} (h1:A.rep V v1 x) (h2:B.rep V v2 y) (h3:C.rep V v3 z) : (vT3 A B C).rep V (.tuple #[v1,v2,v3]) (x,y,z):=⟨v1,v2,v3,rfl,h1,h2,h3⟩
def li {α:Type} (E:VEnc α) (f:α→Value) : Prop:=∀ V v x,E.rep V v x→v=f x
theorem li.flat1 {α:Type} {g:α→List Value} {hl : ∀ x,(g x).length=1} {h1 : ∀ x,∀ u∈g x,u.oneCell' = true} (f:α→Value) (hf : ∀ x,g x=[f x]) : li (vSc (mb 1 g hl h1)) f:=fun V v x h=>by
 have : [v]=g x:=h
 rw [hf] at this
 simpa using this
theorem li.flatN {α:Type} {n:Nat} {g:α→List Value} {hl : ∀ x,(g x).length=n} {h1 : ∀ x,∀ u∈g x,u.oneCell' = true} : li (vAg (mb n g hl h1)) (fun x=>.agg (g x).toArray):=fun V v x h=>by
 obtain⟨cs,hv,hc⟩:=h
 rw [hv,show cs=g x from hc]
theorem li.t2 {α β:Type} {A:VEnc α} {B:VEnc β} {f:α→Value} {g:β→Value} (h1:li A f) (h2:li B g) : li (vT2 A B) (fun x=>.tuple #[f x.1,g x.2]):=fun V v x h=>by
 obtain⟨v1,v2,hv,ha,hb⟩:=h
 rw [hv,h1 _ _ _ ha,h2 _ _ _ hb]
theorem li.t3 {α β γ:Type} {A:VEnc α} {B:VEnc β} {C:VEnc γ} {f:α→Value} {g:β→Value} {k:γ→Value} (h1:li A f) (h2:li B g) (h3:li C k) : li (vT3 A B C) (fun x=>.tuple #[f x.1,g x.2.1,k x.2.2]):=fun V v x h=>by
 obtain⟨v1,v2,v3,hv,ha,hb,hc⟩:=h
 rw [hv,h1 _ _ _ ha,h2 _ _ _ hb,h3 _ _ _ hc]
theorem il:li (vSc ic) (fun x=>.int .i64 x):=li.flat1 _ fun _=>rfl
theorem jL:li (vSc eBool) (fun x=>.bool x):=li.flat1 _ fun _=>rfl
def shr (k:IntKind) (x:Int) (n:Nat) : Int:=x.fdiv (2 ^ min n k.bits)
end
end Go.Proofs.Ytljbmnknmhogaaa
