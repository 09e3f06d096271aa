/- A small program logic over the kit's 'Code.wp', independent of any program: known slots of a frame, a symbolic heap of boxes and owned rows, a view of memory that is never written again.
 Its conditions: none;every theorem holds for every program of the model. -/
import Derived.Below
import Derived.Tactics
import Derived.OrdersHeld
import Derived.KernelRfl
import Derived.Laws.AppendOwn
import Derived.Laws.OwnMore
import Derived.Laws.MakeOwn
import Derived.Laws.CopyRow
import Derived.Laws.Cells
import Derived.Laws.Sem
import Derived.RangeFuncCalls
import Derived.LoopNIn
import Derived.TacticsIn
import Derived.OrdersIn
namespace Go.Proofs.Ytljbmnknmhogaaa
open Go.RowKit
def lk:List (Nat × Value)→Nat→Option Value
 | [],_=>none
 | (k,v)::M,t=>bif Nat.beq k t then some v else lk M t
def evM (M:List (Nat × Value)) : Operand→Value
 | .tmp t=>(lk M t).getD undef
 | .const v=>v
 | .global g=>.pointer (some ⟨g,0,none⟩)
 | .func f=>.func (.func f) #[] #[]
def nJ (M:List (Nat × Value)) : Operand→Bool
 | .tmp t=>(lk M t).isSome
 | _=>true
structure Sz where
 n:Nat
 ds:List Nat
instance (n:Nat) : OfNat Sz n:=⟨⟨n,[]⟩⟩
def qF (d:Nat) : Deferred:={ target:=.collected d,args:=#[] }
structure Fr (N:Sz) (M:List (Nat × Value)) (a:Act) : Prop where
 defers:a.defers=N.ds.map qF
 size:a.tmps.size=N.n
 get : ∀ t v,lk M t=some v→a.tmps[t]? = some v
theorem Fr.eval {N:Sz} {M:List (Nat × Value)} {a:Act} (h:Fr N M a) {x:Operand} (hx:nJ M x=true) : a.eval x=evM M x:=by
 cases x with
 | tmp t =>
  simp only [nJ] at hx
  obtain⟨v,hv⟩:=Option.isSome_iff_exists.1 hx
  have:=h.get t v hv
  simp [Act.eval,evM,hv,Array.getD_eq_getD_getElem?,this]
 | const v=>rfl
 | global g=>rfl
 | func f=>rfl
def iq (dst:Option Tmp) (v:Value) (M:List (Nat × Value)) : List (Nat × Value) :=
 match dst with
 | some d=>(d,v)::M
 | none=>M
def mO (N:Sz) : Option Tmp→Bool
 | some d=>Nat.blt d N.n
 | none=>true
theorem Fr.put {N:Sz} {M:List (Nat × Value)} {a:Act} (h:Fr N M a) {dst:Option Tmp} (hd:mO N dst=true) (v:Value) : Fr N (iq dst v M) (a.put dst v):=by
 cases dst with
 | none=>exact h
 | some d =>
  have hlt:d < N.n:=by simpa [mO,Nat.blt_eq] using hd
  refine⟨h.defers,by simpa [Act.put] using h.size,fun t u hu=>?_⟩
  simp only [iq,lk] at hu
  by_cases hdt:d=t
  · subst hdt
    have hb:Nat.beq d d=true:=Nat.beq_refl d
    rw [hb,cond_true] at hu
    obtain rfl:=Option.some.inj hu
    simp [Act.put,h.size,hlt]
  · have hb : Nat.beq d t = false := by
     cases hh:Nat.beq d t with
     | false=>rfl
     | true=>exact absurd (Nat.eq_of_beq_eq_true hh) hdt
    rw [hb,cond_false] at hu
    have:=h.get t u hu
    simp only [Act.put]
    rw [Array.getElem?_setIfInBounds_ne hdt]
    exact this
theorem Fr.nil {N:Sz} {M:List (Nat × Value)} {a:Act} (h:Fr N M a) : Fr N [] a:=⟨h.defers,h.size,fun t v hv=>by cases hv⟩
theorem Fr.pick {N:Sz} {M M' : List (Nat × Value)} {a:Act} (h' : Fr N M' a) (h:Fr N M a) (t:Nat) {v:Value} (hv:lk M t=some v) : Fr N ((t,v)::M') a:=by
 refine⟨h.defers,h.size,fun s u hu=>?_⟩
 simp only [lk] at hu
 by_cases hts:t=s
 · subst hts
   have hb:Nat.beq t t=true:=Nat.beq_refl t
   rw [hb,cond_true] at hu
   obtain rfl:=Option.some.inj hu
   exact h.get t v hv
 · have hb : Nat.beq t s = false := by
    cases hh:Nat.beq t s with
    | false=>rfl
    | true=>exact absurd (Nat.eq_of_beq_eq_true hh) hts
   rw [hb,cond_false] at hu
   exact h'.get s u hu
def gd (ops:Array Oper) (M:List (Nat × Value)) : Option (Nat × Bool)→Option Bool
 | none=>some true
 | some (j,want) =>
  match (ops[j]?).bind (·.dst) with
  | none=>some false
  | some t=>match lk M t with
   | some (.bool b)=>some (b == want)
   | some _=>some false
   | none=>none
theorem i8 {N:Sz} {M:List (Nat × Value)} {a:Act} (h:Fr N M a) {ops:Array Oper} {o:Oper} {b:Bool} (hg:gd ops M o.guard=some b) : Region.wanted o (yielded ops a.tmps)=b:=by
 unfold Region.wanted
 cases hgo:o.guard with
 | none=>rw [hgo] at hg;exact Option.some.inj hg
 | some p =>
  obtain⟨j,want⟩:=p
  rw [hgo] at hg
  simp only [gd] at hg
  simp only [yielded]
  cases hd:(ops[j]?).bind (·.dst) with
  | none =>
   rw [hd] at hg
   obtain rfl:=Option.some.inj hg
   simp
  | some t =>
   rw [hd] at hg
   simp only at hg
   cases hl:lk M t with
   | none=>rw [hl] at hg;cases hg
   | some v =>
    rw [hl] at hg
    have hget:=h.get t v hl
    simp only [Option.bind_some,hget]
    cases v with
    | bool b' =>
     obtain rfl:=Option.some.inj hg
     cases b' <;> cases want <;> rfl
    | _ =>
     obtain rfl:=Option.some.inj hg
     simp
def pb:Op→Bool
 | .select ..=>true
 | _=>false
theorem pS {op:Op} (h:pb op=false) : ∀ cs b,op≠.select cs b:=by
 rintro cs b rfl
 cases h
def okO (N:Sz) (ops:Array Oper) (M:List (Nat × Value)) (o:Oper) : Bool :=
 (match gd ops M o.guard with | some true=>true | _=>false) && o.op.operands.all (nJ M) && !pb o.op && mO N o.dst
theorem jd {N:Sz} {ops:Array Oper} {M:List (Nat × Value)} {o:Oper} (h:okO N ops M o=true) :
 gd ops M o.guard=some true∧(∀ x∈o.op.operands,nJ M x=true)∧pb o.op=false∧mO N o.dst=true:=by
 simp only [okO,Bool.and_eq_true,Bool.not_eq_true'] at h
 obtain⟨⟨⟨h1,h2⟩,h3⟩,h4⟩:=h
 refine⟨?_,fun x hx=>?_,h3,h4⟩
 · split at h1
   · assumption
   · cases h1
 · rw [Array.all_eq_true_iff_forall_mem] at h2
   exact h2 x hx
theorem jr {N:Sz} {ops:Array Oper} {M:List (Nat × Value)} {o:Oper} {a:Act} (h:okO N ops M o=true) (hf:Fr N M a) : execOp a.eval o=execOp (evM M) o:=by
 obtain⟨_,h2,h3,_⟩:=jd h
 exact execOp_congr o (pS h3) fun x hx=>hf.eval (h2 x hx)
abbrev View:=Nat→Option Obj
def View.le (V V' : View) : Prop:=∀ b o,V b=some o→V' b=some o
theorem View.le_refl (V:View) : View.le V V:=fun _ _ h=>h
theorem View.le_trans {A B C:View} (h:View.le A B) (k:View.le B C) : View.le A C:=fun b o hb=>k b o (h b o hb)
def vw (w:World) : View:=fun b=>w.heap[b]?
def View.cell (V:View) (a:Addr) : Option Value :=
 match V a.block with
 | some (.cells c _ _)=>if a.spot.isSome then none else c[a.off]?
 | _=>none
theorem View.cell_mono {V V' : View} (h:View.le V V') {a:Addr} {v:Value} (hv:V.cell a=some v) : V'.cell a=some v:=by
 unfold View.cell at hv ⊢
 cases hb:V a.block with
 | none=>rw [hb] at hv;cases hv
 | some o=>rw [h _ _ hb];rw [hb] at hv;exact hv
theorem nj (w:World) (a:Addr) : (vw w).cell a=w.cell? a:=rfl
def nI (w w' : World) : View:=fun b=>if b < w.heap.size then none else w'.heap[b]?
structure Enc (α:Type) where
 size:Nat
 rep:View→List Value→α→Prop
 mono : ∀ {V V' : View} {cs:List Value} {x:α},View.le V V'→rep V cs x→rep V' cs x
 len : ∀ {V:View} {cs:List Value} {x:α},rep V cs x→cs.length=size
 one : ∀ {V:View} {cs:List Value} {x:α},rep V cs x→∀ u∈cs,u.oneCell' = true
structure VEnc (α:Type) where
 rep:View→Value→α→Prop
 mono : ∀ {V V' : View} {v:Value} {x:α},View.le V V'→rep V v x→rep V' v x
structure HObj where
 own:Nat→Prop
 ok:View→World→Prop
 loc : ∀ V w w',(∀ b,own b→w'.heap[b]? = w.heap[b]?)→ok V w→ok V w'
 mono : ∀ V V' w,View.le V V'→ok V w→ok V' w
 lt : ∀ V w b,ok V w→own b→b < w.heap.size
theorem jI {w:World} {b:Nat} {o:Obj} (h:w.heap[b]? = some o) : b < w.heap.size:=by
 rcases Nat.lt_or_ge b w.heap.size with hlt | hge
 · exact hlt
 · rw [Array.getElem?_eq_none hge] at h;cases h
def box (b:Nat) (t:TypeId) (cs:List Value) : HObj where
 own:=fun b'=>some b=some b'
 ok:=fun _ w=>w.heap[b]? = some (.cells cs.toArray t (0,0))
 loc:=fun _ w w' h hb=>by rw [h b rfl];exact hb
 mono:=fun _ _ _ _ h=>h
 lt:=fun _ w b' h hb=>by injection hb with hb;subst hb;exact jI h
structure Hp (w0:World) (V:View) (H:List HObj) (w:World) : Prop where
 os:w.os=w0.os
 tape:w.tape=w0.tape
 output:w.output=w0.output
 size:w0.heap.size≤w.heap.size
 view:View.le V (vw w)
 base:View.le (vw w0) V
 objs : ∀ x∈H,x.ok V w
 apart : ∀ x∈H,∀ b,x.own b→V b=none
 sep:H.Pairwise fun x y=>∀ b,x.own b→¬ y.own b
theorem Hp.start (w:World) : Hp w (vw w) [] w :=
 ⟨rfl,rfl,rfl,Nat.le_refl _,View.le_refl _,View.le_refl _,by simp,by simp,List.Pairwise.nil⟩
theorem Hp.below {w0:World} {V:View} {H:List HObj} {w:World} (h:Hp w0 V H w) : Below w0.heap.size w0 w:=by
 refine⟨h.os,h.tape,h.output,h.size,fun k hk=>?_⟩
 have h1:w0.heap[k]? = some w0.heap[k]:=Array.getElem?_eq_getElem hk
 have h2:=h.view _ _ (h.base k _ h1)
 rw [h1]
 exact h2
theorem Hp.drew {w0:World} {V:View} {H:List HObj} {w:World} (h:Hp w0 V H w) : Hp w0 V H { w with drawn:=w.drawn + 1 } :=
 ⟨h.os,h.tape,h.output,h.size,h.view,h.base,fun x hx=>x.loc V w _ (fun _ _=>rfl) (h.objs x hx),h.apart,h.sep⟩
theorem Hp.new {w0:World} {V:View} {H:List HObj} {w:World} (h:Hp w0 V H w) (t:TypeId) (cs:List Value) :
 Hp w0 V (box w.heap.size t cs::H) { w with heap:=w.heap.push (.cells cs.toArray t) }:=by
 have hold : ∀ b,b < w.heap.size→(w.heap.push (Obj.cells cs.toArray t))[b]? = w.heap[b]?:=fun b hb=>by
  rw [Array.getElem?_push,if_neg (by omega)]
 refine⟨h.os,h.tape,h.output,by simpa using Nat.le_succ_of_le h.size,fun b o hb=>?_,h.base,fun x hx=>?_,fun x hx b hb=>?_,?_⟩
 · have h1:=h.view b o hb
   show (w.heap.push _)[b]? = some o
   rw [hold b (jI h1)]
   exact h1
 · rcases List.mem_cons.1 hx with rfl | hx
   · show (w.heap.push _)[w.heap.size]? = _
     simp
   · exact x.loc V w _ (fun b hb=>hold b (x.lt V w b (h.objs x hx) hb)) (h.objs x hx)
 · rcases List.mem_cons.1 hx with rfl | hx
   · injection hb with hb
     subst hb
     cases hv:V w.heap.size with
     | none=>rfl
     | some o=>exact absurd (jI (h.view _ _ hv)) (Nat.lt_irrefl _)
   · exact h.apart x hx b hb
 · refine List.Pairwise.cons (fun y hy b hb hyb=>?_) h.sep
   injection hb with hb
   subst hb
   exact absurd (y.lt V w _ (h.objs y hy) hyb) (Nat.lt_irrefl _)
theorem Hp.cell_box {w0:World} {V:View} {H:List HObj} {w:World} (h:Hp w0 V H w) {i b:Nat} {t:TypeId} {cs:List Value} (hi:H[i]? = some (box b t cs)) (j:Nat) :
 w.cell? ⟨b,j,none⟩=cs[j]?:=by
 have hm:w.heap[b]? = some (.cells cs.toArray t (0,0)):=h.objs _ (List.mem_of_getElem? hi)
 rw [cell_of_row w b j cs.toArray t (0,0) hm]
 simp
theorem Hp.cell_view {w0:World} {V:View} {H:List HObj} {w:World} (h:Hp w0 V H w) {a:Addr} {v:Value} (hv:V.cell a=some v) : w.cell? a=some v :=
 View.cell_mono h.view hv
theorem Hp.turn {w0:World} {V:View} {H:List HObj} {w w' : World} (h:Hp w0 V H w) {i:Nat} {x y:HObj} (hi:H[i]? = some x)
 {o:Option Nat} (hg:w.grownBy w' o) (hy:y.ok V w') (hb : ∀ b,y.own b→x.own b∨w.heap.size≤b) (ho : ∀ b,o=some b→x.own b:=by first | exact fun _ h=>h | exact fun _ h=>by cases h) : Hp w0 V (H.set i y) w':=by
 have hxm:=List.mem_of_getElem? hi
 have hil:i < H.length:=(List.getElem?_eq_some_iff.1 hi).1
 have hxi:H[i]=x:=(List.getElem?_eq_some_iff.1 hi).2
 have keepV : ∀ b o,V b=some o→w'.heap[b]? = w.heap[b]?:=fun b o hv =>
  hg.block b (jI (h.view b o hv)) (fun e=>by rw [h.apart x hxm b (ho b e.symm)] at hv;cases hv)
 have hnone : ∀ b,w.heap.size≤b→V b=none:=fun b hbs=>by
  cases hv:V b with
  | none=>rfl
  | some o=>exact absurd (jI (h.view _ _ hv)) (by omega)
 have hsep:=h.sep
 rw [List.pairwise_iff_getElem] at hsep
 have other : ∀ k (hk:k < H.length),k≠i→∀ b,H[k].own b→¬ x.own b:=fun k hk hki b hkb hxb=>by
  rcases Nat.lt_or_ge k i with hlt | hge
  · exact hsep k i hk hil hlt b hkb (by rw [hxi];exact hxb)
  · exact hsep i k hil hk (by omega) b (by rw [hxi];exact hxb) hkb
 refine⟨hg.os.trans h.os,hg.tape.trans h.tape,hg.output.trans h.output,Nat.le_trans h.size hg.size,fun b o hb'=>?_,h.base,fun z hz=>?_,fun z hz b hzb=>?_,?_⟩
 · show w'.heap[b]? = some o
   rw [keepV b o hb']
   exact h.view b o hb'
 · obtain⟨k,hk,rfl⟩:=List.getElem_of_mem hz
   rw [List.getElem_set]
   rw [List.length_set] at hk
   split
   · exact hy
   · rename_i hne
     exact H[k].loc V w w' (fun b hkb=>hg.block b (H[k].lt V w b (h.objs _ (List.getElem_mem hk)) hkb) (fun e=>other k hk (fun e'=>hne e'.symm) b hkb (ho b e.symm))) (h.objs _ (List.getElem_mem hk))
 · obtain⟨k,hk,rfl⟩:=List.getElem_of_mem hz
   rw [List.getElem_set] at hzb
   rw [List.length_set] at hk
   split at hzb
   · rcases hb b hzb with h1 | h1
     · exact h.apart x hxm b h1
     · exact hnone b h1
   · exact h.apart _ (List.getElem_mem hk) b hzb
 · rw [List.pairwise_iff_getElem]
   intro k l hk hl hkl b hkb hlb
   rw [List.getElem_set] at hkb hlb
   rw [List.length_set] at hk hl
   split at hkb
   · rename_i hik
     subst hik
     rw [if_neg (by omega)] at hlb
     rcases hb b hkb with h1 | h1
     · exact other l hl (by omega) b hlb h1
     · exact absurd (H[l].lt V w b (h.objs _ (List.getElem_mem hl)) hlb) (by omega)
   · split at hlb
     · rename_i hil'
       subst hil'
       rcases hb b hlb with h1 | h1
       · exact other k hk (by omega) b hkb h1
       · exact absurd (H[k].lt V w b (h.objs _ (List.getElem_mem hk)) hkb) (by omega)
     · exact hsep k l hk hl hkl b hkb hlb
theorem Hp.store_box {w0:World} {V:View} {H:List HObj} {w:World} (h:Hp w0 V H w) {i b:Nat} {t:TypeId} {cs:List Value} (hi:H[i]? = some (box b t cs)) (cs' : List Value) :
 Hp w0 V (H.set i (box b t cs')) (w.setRow b cs'.toArray):=by
 have hm:w.heap[b]? = some (.cells cs.toArray t (0,0)):=h.objs _ (List.mem_of_getElem? hi)
 refine h.turn (o:=some b) hi ⟨rfl,rfl,rfl,by simp,fun k _ hk=>setRow_other w b k _ (fun e=>hk (by simp [e]))⟩ ?_ (fun b' hb'=>.inl hb')
 exact setRow_heap w b cs.toArray cs'.toArray t (0,0) hm
def pu (V:View) (w w' : World) : View:=fun b=>if b < w.heap.size then V b else w'.heap[b]?
theorem oU {w0:World} {V:View} {H:List HObj} {w:World} (h:Hp w0 V H w) (w' : World) : View.le V (pu V w w'):=fun b o hb=>by
 have:=jI (h.view b o hb)
 simp only [pu,if_pos this]
 exact hb
theorem Hp.called {w0:World} {V:View} {H:List HObj} {w w' : World} (h:Hp w0 V H w) (hb:Below w.heap.size w w') : Hp w0 (pu V w w') H w':=by
 refine⟨hb.os.trans h.os,hb.tape.trans h.tape,hb.output.trans h.output,Nat.le_trans h.size hb.size,fun b o hv=>?_,View.le_trans h.base (oU h w'),fun x hx=>?_,fun x hx b hxb=>?_,h.sep⟩
 · unfold pu at hv
   show w'.heap[b]? = some o
   split at hv
   · rename_i hlt;rw [hb.block b hlt];exact h.view b o hv
   · exact hv
 · refine x.mono V _ w' (oU h w') (x.loc V w w' (fun b hxb=>hb.block b (x.lt V w b (h.objs x hx) hxb)) (h.objs x hx))
 · have hlt:=x.lt V w b (h.objs x hx) hxb
   simp only [pu,if_pos hlt]
   exact h.apart x hx b hxb
def T (N:Sz) (w0:World) (V:View) (H:List HObj) (M:List (Nat × Value)) (φ:Act→World→Prop) : Prop :=
 ∀ a w,Fr N M a→Hp w0 V H w→φ a w
abbrev RF (rl:Option Nat) : Fence:={ Fence.wide with round:=rl }
theorem pi {rl:Option Nat} {P:Program} {f:FuncId} {args:Array Value} {w:World} {R:Ending→World→Prop} (h:Calls P f args w R) : CallsIn (RF rl) 0 P f args w R:=(callsIn_wide (n:=0)).2 h
def iQ:Op→Bool
 | .defer _=>false
 | _=>true
theorem om {op:Op} (h:iQ op=true) : ∀ c,op≠.defer c:=by
 rintro c rfl
 cases h
theorem rm {rl:Option Nat} {P:Program} {o:Oper} {a:Act} {w:World} {K:Act→World→Prop} {Q:Exit→Act→World→Prop} (hd:iQ o.op=true) (h:o.wp P a w K Q) : o.wpIn (RF rl) 0 P a w K Q:=by
 refine⟨fun f _=>trivial,?_⟩
 rw [Oper.semAt_eq _ _ _ (om hd)]
 unfold Oper.wp at h
 generalize (execOp a.eval o).run P w=r at *
 have hdep:(RF rl).depth.isSome=true→1≤0:=fun h=>by cases h
 cases r with
 | ok x w' =>
  cases x <;> simp only [Oper.upon,Oper.uponIn] at h ⊢ <;>
   first
    | exact h
    | exact ⟨hdep,pi h⟩
    | exact ⟨hdep,fun c cs _=>let ⟨v,w1,r,s⟩:=h c cs;⟨v,w1,r,stepsIn_wide.2 s⟩⟩
    | exact h.elim
 | halt x w'=>cases x <;> simp only [Oper.upon,Oper.uponIn] at h ⊢ <;> exact h
section rules
variable {rl:Option Nat} {P:Program} {N:Sz} {w0:World} {V:View} {H:List HObj} {M:List (Nat × Value)} {ops:Array Oper} {Q:Exit→Act→World→Prop} {rest:List Oper} {o:Oper}
theorem T.ie {x y:Code} (h:T N w0 V H M (x.wpIn (RF rl) 0 P (Exit.then (y.wpIn (RF rl) 0 P Q) Q))) : T N w0 V H M ((Code.seq x y).wpIn (RF rl) 0 P Q):=fun a w hf hh=>wpIn_seq (h a w hf hh)
theorem T.iZ {x y:Code} (I:Act→World→Prop) (h:T N w0 V H M (x.wpIn (RF rl) 0 P (Exit.then I Q))) (k : ∀ a w,I a w→y.wpIn (RF rl) 0 P Q a w) : T N w0 V H M ((Code.seq x y).wpIn (RF rl) 0 P Q) :=
 fun a w hf hh=>wpIn_seq (Go.wpIn_mono (h a w hf hh) (fun e a w hq=>by cases e <;> first | exact k a w hq | exact hq))
theorem T.jw {x:Code} (I:Act→World→Prop) (h:T N w0 V H M (x.wpIn (RF rl) 0 P (Exit.then I Q))) (k : ∀ a w,I a w→Q .normal a w) : T N w0 V H M (x.wpIn (RF rl) 0 P Q) :=
 fun a w hf hh=>Go.wpIn_mono (h a w hf hh) (fun e a w hq=>by cases e <;> first | exact k a w hq | exact hq)
theorem T.hJ (h:T N w0 V H M (Q .normal)) : T N w0 V H M (Code.skip.wpIn (RF rl) 0 P Q):=fun a w hf hh=>wpIn_skip (h a w hf hh)
theorem T.iO {id:Nat} (h:T N w0 V H M (Q (.exit id))) : T N w0 V H M ((Code.exit id).wpIn (RF rl) 0 P Q):=fun a w hf hh=>wpIn_exit (h a w hf hh)
theorem T.ik {φ:Act→World→Prop} (hq:Q .ret=φ) (h:T N w0 V H M φ) : T N w0 V H M (Code.ret.wpIn (RF rl) 0 P Q):=fun a w hf hh=>wpIn_ret (by rw [hq];exact h a w hf hh)
theorem T.im {id:Nat} {c:Code} (h:T N w0 V H M (c.wpIn (RF rl) 0 P (Exit.inBlock id Q))) : T N w0 V H M ((Code.block id c).wpIn (RF rl) 0 P Q):=fun a w hf hh=>wpIn_block (h a w hf hh)
theorem T.qr {c:Operand} {x y:Code} (b:Bool) (hk:nJ M c=true) (hc:evM M c = .bool b)
 (ht:b=true→T N w0 V H M (x.wpIn (RF rl) 0 P Q)) (hf:b=false→T N w0 V H M (y.wpIn (RF rl) 0 P Q)) : T N w0 V H M ((Code.cond c x y).wpIn (RF rl) 0 P Q) :=
 fun a w hfr hh=>wpIn_cond_split ((hfr.eval hk).trans hc) (fun h=>ht h a w hfr hh) (fun h=>hf h a w hfr hh)
theorem T.ia {id:Nat} {l:List Oper} (h:T N w0 V H M (wpListIn (RF rl) 0 P l.toArray Q l)) : T N w0 V H M ((Code.region id l.toArray false).wpIn (RF rl) 0 P Q) :=
 fun a w hf hh=>wpIn_region_lit (h a w hf hh)
theorem T.gO (h:T N w0 V H M (Q .normal)) : T N w0 V H M (wpListIn (RF rl) 0 P ops Q []):=fun a w hf hh=>wpListIn_nil (h a w hf hh)
theorem nk {a:Act} {w:World} (hw:Region.wanted o (yielded ops a.tmps)=true) (h:o.wpIn (RF rl) 0 P a w (wpListIn (RF rl) 0 P ops Q rest) Q) : wpListIn (RF rl) 0 P ops Q (o::rest) a w:=by
 unfold wpListIn
 rw [if_pos hw]
 exact h
def W1 (P:Program) (Q:Exit→Act→World→Prop) (ops:Array Oper) (o:Oper) (N:Sz) (w0:World) (V:View) (H:List HObj) (M:List (Nat × Value)) (K:Act→World→Prop) : Prop :=
 ∀ a w,Fr N M a→Hp w0 V H w→Region.wanted o (yielded ops a.tmps)=true∧o.wp P a w K Q
theorem T.gZ (h:W1 P Q ops o N w0 V H M (wpListIn (RF rl) 0 P ops Q rest)) (hd:iQ o.op=true:=by kernel_rfl) : T N w0 V H M (wpListIn (RF rl) 0 P ops Q (o::rest)):=fun a w hf hh =>
 nk (h a w hf hh).1 (rm hd (h a w hf hh).2)
variable {K:Act→World→Prop}
theorem W1.nT (v:Value) (hc:okO N ops M o=true) (hv : ∀ w,Hp w0 V H w→(execOp (evM M) o).run P w = .ok (.value v) w)
 (h:T N w0 V H (iq o.dst v M) K) : W1 P Q ops o N w0 V H M K:=fun a w hf hh=>by
 obtain⟨h1,_,_,h4⟩:=jd hc
 refine⟨i8 hf h1,?_⟩
 unfold Oper.wp
 rw [jr hc hf,hv w hh]
 exact h _ _ (hf.put h4 v) hh
theorem T.rp (v:Value) (hc:okO N ops M o=true) (hv : ∀ w,(execOp (evM M) o).run P w = .ok (.value v) w)
 (h:T N w0 V H (iq o.dst v M) (wpListIn (RF rl) 0 P ops Q rest)) (hd:iQ o.op=true:=by kernel_rfl) : T N w0 V H M (wpListIn (RF rl) 0 P ops Q (o::rest)):=T.gZ (W1.nT v hc (fun w _=>hv w) h) hd
theorem T.rH (v:Value) (hc:okO N ops M o=true) (hv : ∀ w,Hp w0 V H w→(execOp (evM M) o).run P w = .ok (.value v) w)
 (h:T N w0 V H (iq o.dst v M) (wpListIn (RF rl) 0 P ops Q rest)) (hd:iQ o.op=true:=by kernel_rfl) : T N w0 V H M (wpListIn (RF rl) 0 P ops Q (o::rest)):=T.gZ (W1.nT v hc hv h) hd
theorem T.ro (hg:gd ops M o.guard=some false) (hd:mO N o.dst=true) (h:T N w0 V H (iq o.dst undef M) (wpListIn (RF rl) 0 P ops Q rest)) :
 T N w0 V H M (wpListIn (RF rl) 0 P ops Q (o::rest)):=fun a w hf hh=>by
 unfold wpListIn
 rw [if_neg (by rw [i8 hf hg];simp)]
 exact⟨fun _ _=>trivial,h _ _ (hf.put hd undef) hh⟩
theorem W1.pE (t:TypeId) (cs:List Value) (f:Nat→Value) (hc:okO N ops M o=true)
 (hv : ∀ w:World,(execOp (evM M) o).run P w = .ok (.value (f w.heap.size)) { w with heap:=w.heap.push (.cells cs.toArray t) })
 (h : ∀ b,T N w0 V (box b t cs::H) (iq o.dst (f b) M) K) : W1 P Q ops o N w0 V H M K:=fun a w hf hh=>by
 obtain⟨h1,_,_,h4⟩:=jd hc
 refine⟨i8 hf h1,?_⟩
 unfold Oper.wp
 rw [jr hc hf,hv w]
 exact h _ _ _ (hf.put h4 _) (hh.new t cs)
def nth {α:Type} : List α→Nat→Option α
 | [],_=>none
 | x::_,0=>some x
 | _::l,n + 1=>nth l n
theorem jC {α:Type} : ∀(l:List α) (n:Nat),nth l n=l[n]?
 | [],_=>rfl
 | _::_,0=>rfl
 | _::l,n + 1=>jC l n
theorem W1.qA (i:Nat) {b:Nat} {t:TypeId} {cs:List Value} (cs' : List Value) (H' : List HObj) (hi:nth H i=some (box b t cs)) (hH:H.set i (box b t cs')=H') (hc:okO N ops M o=true)
 (hv : ∀ w:World,w.heap[b]? = some (.cells cs.toArray t (0,0))→(execOp (evM M) o).run P w = .ok .skip (w.setRow b cs'.toArray))
 (h:T N w0 V H' (iq o.dst undef M) K) : W1 P Q ops o N w0 V H M K:=fun a w hf hh=>by
 obtain⟨h1,_,_,h4⟩:=jd hc
 rw [jC] at hi
 refine⟨i8 hf h1,?_⟩
 unfold Oper.wp
 rw [jr hc hf,hv w (hh.objs _ (List.mem_of_getElem? hi))]
 have:=hh.store_box hi cs'
 rw [hH] at this
 exact h _ _ (hf.put h4 _) this
def jZ {ρ:Type} (E:VEnc ρ) (r:ρ) (w:World) (e:Ending) (w' : World) : Prop :=
 ∃ v,e = .returned v∧Below w.heap.size w w'∧E.rep (nI w w') v r
def made (w0:World) (V:View) : View:=fun b=>if b < w0.heap.size then none else V b
theorem iP (w0:World) (V:View) : View.le (made w0 V) V:=fun b o h=>by
 unfold made at h
 split at h
 · cases h
 · exact h
theorem iK {w0:World} {V V' : View} (h:View.le V V') : View.le (made w0 V) (made w0 V'):=fun b o hb=>by
 unfold made at hb ⊢
 split at hb
 · cases hb
 · rename_i hlt;rw [if_neg hlt];exact h b o hb
theorem kB {w0:World} {V:View} {H:List HObj} {w:World} (h:Hp w0 V H w) : View.le (made w0 V) (nI w0 w):=fun b o hb=>by
 unfold made at hb
 unfold nI
 split at hb
 · cases hb
 · rename_i hlt;rw [if_neg hlt];exact h.view b o hb
theorem pJ {w0:World} {V:View} {H:List HObj} {w:World} (h:Hp w0 V H w) (w' : World) : View.le (nI w w') (made w0 (pu V w w')):=fun b o hb=>by
 have hs:=h.size
 unfold nI at hb
 split at hb
 · cases hb
 · rename_i hlt
   unfold made pu
   rw [if_neg (by omega),if_neg hlt]
   exact hb
theorem W1.qW {ρ:Type} (E:VEnc ρ) (r:ρ) (f:FuncId) (vs:Array Value) (hc:okO N ops M o=true)
 (hv : ∀ w,(execOp (evM M) o).run P w = .ok (.enter f vs) w) (hf : ∀ w,Hp w0 V H w→Calls P f vs w (jZ E r w))
 (h : ∀ v V',View.le V V'→E.rep (made w0 V') v r→T N w0 V' H (iq o.dst v M) K) : W1 P Q ops o N w0 V H M K:=fun a w hfr hh=>by
 obtain⟨h1,_,_,h4⟩:=jd hc
 refine⟨i8 hfr h1,?_⟩
 unfold Oper.wp
 rw [jr hc hfr,hv w,Oper.upon_enter]
 refine(hf w hh).mono ?_
 rintro e w' ⟨v,rfl,hb,hr⟩
 exact h v (pu V w w') (oU hh w') (E.mono (pJ hh w') hr) _ _ (hfr.put h4 v) (hh.called hb)
theorem W1.qd {N' : Nat} {fn:Func} {c:Code} (f:FuncId) (vs:Array Value) (M0:List (Nat × Value)) (hfn:P.funcs[f]? = some fn) (hb:fn.body=some c) (hN:fn.ntmps=N') (hc:okO N ops M o=true)
 (hv : ∀ w,(execOp (evM M) o).run P w = .ok (.enter f vs) w) (hn:vs.size≤N') (hM : ∀ t v,lk M0 t=some v→vs[t]? = some v)
 (h:T ⟨N',[]⟩ w0 V H M0 (c.wpIn (RF none) 0 P (bodyPost P fn (fun e w'=>∃ v,e = .returned v∧∀ a,Fr N (iq o.dst v M) a→K a w')))) : W1 P Q ops o N w0 V H M K:=fun a w hfr hh=>by
 obtain⟨h1,_,_,h4⟩:=jd hc
 subst hN
 refine⟨i8 hfr h1,?_⟩
 unfold Oper.wp
 rw [jr hc hfr,hv w,Oper.upon_enter]
 have hst:Fr ⟨fn.ntmps,[]⟩ M0 { tmps:=vs ++ Array.replicate (fn.ntmps - vs.size) undef,defers:=[] } :=
  ⟨rfl,by simp;omega,fun t v hv=>by
   have h1:=hM t v hv
   have hlt:t < vs.size:=by
    rcases Nat.lt_or_ge t vs.size with h | h
    · exact h
    · rw [Array.getElem?_eq_none h] at h1;cases h1
   show (vs ++ Array.replicate (fn.ntmps - vs.size) undef)[t]? = _
   rw [Array.getElem?_append_left hlt]
   exact h1⟩
 refine(calls_of_wp hfn hb (wpIn_wide.1 (h _ w hst hh))).mono ?_
 rintro e w' ⟨v,rfl,hk⟩
 exact hk _ (hfr.put h4 v)
theorem T.rG {fn:Func} {R:Ending→World→Prop} (v:Value) (hr : ∀ a w,Fr N M a→Hp w0 V H w→(results fn a.tmps).run P w = .ok v w)
 (hR : ∀ w,Hp w0 V H w→R (.returned v) w) (hN:N.ds=[]:=by rfl) : T N w0 V H M (fun a w=>a.defers=[]∧∃ v,(results fn a.tmps).run P w = .ok v w∧R (.returned v) w) :=
 fun a w hf hh=>⟨by rw [hf.defers,hN];rfl,v,hr a w hf hh,hR w hh⟩
theorem Fr.start (args:Array Value) (n:Nat) (hn:args.size≤n) (M:List (Nat × Value)) (hM : ∀ t v,lk M t=some v→args[t]? = some v) :
 Fr ⟨n,[]⟩ M { tmps:=args ++ Array.replicate (n - args.size) undef,defers:=[] } :=
 ⟨rfl,by simp;omega,fun t v hv=>by
  have h1:=hM t v hv
  have hlt:t < args.size:=by
   rcases Nat.lt_or_ge t args.size with h | h
   · exact h
   · rw [Array.getElem?_eq_none h] at h1;cases h1
  simp only
  rw [Array.getElem?_append_left hlt]
  exact h1⟩
end rules
end Go.Proofs.Ytljbmnknmhogaaa
