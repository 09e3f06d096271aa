/- A small program logic over the kit's 'Code.wp', independent of any program: known slots of a frame, a symbolic heap of boxes and owned rows, a view of memory that is never written again.
 Its conditions: none;every theorem holds for every program of the model. -/
import Derived.Below
import Derived.Tactics
import Derived.OrdersHeld
import Derived.KernelRfl
import Derived.Laws.AppendOwn
import Derived.Laws.OwnMore
import Derived.Laws.MakeOwn
import Derived.Laws.CopyRow
import Derived.Laws.Cells
import Derived.Laws.Sem
import Derived.RangeFuncCalls
import Derived.LoopNIn
import Derived.TacticsIn
import Derived.OrdersIn
import Derived.Deep.Quiet
import Derived.LoopN
import Derived.Maps.AppendAt
import Derived.Laws.Entries
open Option renaming some→a_, isSome_iff_exists→z_
open Nat renaming beq→d_, lt_or_ge→g_, le_refl→i_, le_of_ble_eq_true→p_, eq_of_beq_eq_true→q_, le_trans→v_
open List renaming getElem_mem→f_, mem_of_getElem?→j_, getElem?_eq_some_iff→u_, getElem_set→x_, length_set→y_, pairwise_iff_getElem→C_, getElem_of_mem→D_
open Array renaming replicate→l_, getElem?_eq_none→t_, getD_eq_getD_getElem?→B_, getElem?_append_left→E_
namespace Go.Proofs.YtnofgfobljadbaaGreat
set_option linter.unusedSimpArgs false
set_option linter.unusedVariables false
theorem o_ {p : Prop} (h : p := by omega) : p := h
theorem c_ {p : Prop} (h : p := by decide) : p := h
theorem s_ {p : Prop} (h : p := by simp) : p := h
section
theorem k_ {α:Sort _} {a b:α} (h:a=b:=by kernel_rfl):a=b:=h
theorem b_ {α:Sort _} {a b:α} (h:a=b:=by rfl):a=b:=h
theorem n_ {a b:Nat} (h:Nat.ble a b=true:=by rfl):a<=b:=p_ h
theorem m_ {a b:Nat} (h:Nat.ble a b=true:=by kernel_rfl):a<=b:=p_ h
open Go.RowKit
def lk:List (Nat×Value)->Nat->Option Value
 |[],_=>none
 |(k,v)::M,t=>bif d_ k t then some v else lk M t
def evM (M:List (Nat×Value)):Operand->Value
 |.tmp t=>(lk M t).getD undef
 |.const v=>v
 |.global g=>.pointer (some ⟨g,0,none⟩)
 |.func f=>.func (.func f) #[] #[]
def pX (M:List (Nat×Value)):Operand->Bool
 |.tmp t=>(lk M t).isSome
 |_=>true
structure Sz where
 n:Nat
 ds:List Nat
instance (n:Nat):OfNat Sz n:=⟨⟨n,[]⟩⟩
def uv (d:Nat):Deferred:={ target:=.collected d,args:=#[] }
structure Fr (N:Sz) (M:List (Nat×Value)) (a:Act):Prop where
 defers:a.defers=N.ds.map uv
 size:a.tmps.size=N.n
 get:∀t v,lk M t=some v->a.tmps[t]? = some v
theorem Fr.eval {N:Sz} {M:List (Nat×Value)} {a:Act} (h:Fr N M a) {x:Operand} (hx:pX M x=true):a.eval x=evM M x:=by
 cases x with
 |tmp t=>simp only[pX] at hx;obtain⟨v,hv⟩:=z_.1 hx;have:=h.get t v hv;simp[Act.eval,evM,hv,B_,this]
 |const v=>rfl
 |global g=>rfl
 |func f=>rfl
def ju (dst:Option Tmp) (v:Value) (M:List (Nat×Value)):List (Nat×Value):=match dst with
 |some d=>(d,v)::M
 |none=>M
def nN (N:Sz):Option Tmp->Bool
 |some d=>Nat.blt d N.n
 |none=>true
theorem Fr.put {N:Sz} {M:List (Nat×Value)} {a:Act} (h:Fr N M a) {dst:Option Tmp} (hd:nN N dst=true) (v:Value):Fr N (ju dst v M) (a.put dst v):=by
 cases dst with
 |none=>exact h
 |some d =>
  have hlt:d<N.n:=by simpa[nN,Nat.blt_eq] using hd
  refine⟨h.defers,by simpa[Act.put] using h.size,λt u hu=>?_⟩;simp only[ju,lk] at hu;by_cases hdt:d=t
  . subst hdt;have hb:d_ d d=true:=Nat.beq_refl d;rw[hb,cond_true] at hu;obtain rfl:=a_.inj hu;simp[Act.put,h.size,hlt]
  . have hb:d_ d t=false:=by
     cases hh:d_ d t with
     |false=>rfl
     |true=>exact absurd (q_ hh) hdt
    rw[hb,cond_false] at hu;have:=h.get t u hu;simp only[Act.put];rw[Array.getElem?_setIfInBounds_ne hdt];exact this
theorem Fr.nil {N:Sz} {M:List (Nat×Value)} {a:Act} (h:Fr N M a):Fr N [] a:=⟨h.defers,h.size,λt v hv=>by cases hv⟩
theorem Fr.pick {N:Sz} {M M':List (Nat×Value)} {a:Act} (h':Fr N M' a) (h:Fr N M a) (t:Nat) {v:Value} (hv:lk M t=some v):Fr N ((t,v)::M') a:=by
 refine⟨h.defers,h.size,λs u hu=>?_⟩;simp only[lk] at hu;by_cases hts:t=s
 . subst hts;have hb:d_ t t=true:=Nat.beq_refl t;rw[hb,cond_true] at hu;obtain rfl:=a_.inj hu;exact h.get t v hv
 . have hb:d_ t s=false:=by
    cases hh:d_ t s with
    |false=>rfl
    |true=>exact absurd (q_ hh) hts
   rw[hb,cond_false] at hu;exact h'.get s u hu
def gd (ops:Array Oper) (M:List (Nat×Value)):Option (Nat×Bool)->Option Bool
 |none=>some true
 |some (j,want)=>match (ops[j]?).bind (·.dst) with
  |none=>some false
  |some t=>match lk M t with
   |some (.bool b)=>some (b==want)
   |some _=>some false
   |none=>none
theorem jb {N:Sz} {M:List (Nat×Value)} {a:Act} (h:Fr N M a) {ops:Array Oper} {o:Oper} {b:Bool} (hg:gd ops M o.guard=some b):Region.wanted o (yielded ops a.tmps)=b:=by
 unfold Region.wanted
 cases hgo:o.guard with
 |none=>rw[hgo] at hg;exact a_.inj hg
 |some p =>
  obtain⟨j,want⟩:=p;rw[hgo] at hg;simp only[gd] at hg;simp only[yielded]
  cases hd:(ops[j]?).bind (·.dst) with
  |none=>rw[hd] at hg;obtain rfl:=a_.inj hg;simp
  |some t =>
   rw[hd] at hg;simp only at hg
   cases hl:lk M t with
   |none=>rw[hl] at hg;cases hg
   |some v =>
    rw[hl] at hg;have hget:=h.get t v hl;simp only[Option.bind_some,hget]
    cases v with
    |bool b'=>obtain rfl:=a_.inj hg;cases b' <;> cases want <;> rfl
    |_=>obtain rfl:=a_.inj hg;simp
def rG:Op->Bool
 |.select ..=>true
 |_=>false
theorem tf {op:Op} (h:rG op=false):∀cs b,op≠.select cs b:=by rintro cs b rfl;cases h
def okO (N:Sz) (ops:Array Oper) (M:List (Nat×Value)) (o:Oper):Bool:=(match gd ops M o.guard with|some true=>true|_=>false)&&o.op.operands.all (pX M)&&!rG o.op&&nN N o.dst
theorem jk {N:Sz} {ops:Array Oper} {M:List (Nat×Value)} {o:Oper} (h:okO N ops M o=true) :
 gd ops M o.guard=some true/\(∀x∈o.op.operands,pX M x=true)/\rG o.op=false/\nN N o.dst=true:=by
 simp only[okO,Bool.and_eq_true,Bool.not_eq_true'] at h;obtain⟨⟨⟨h1,h2⟩,h3⟩,h4⟩:=h;refine⟨?_,λx hx=>?_,h3,h4⟩
 . split at h1
   . assumption
   . cases h1
 . rw[Array.all_eq_true_iff_forall_mem] at h2;exact h2 x hx
theorem jG {N:Sz} {ops:Array Oper} {M:List (Nat×Value)} {o:Oper} {a:Act} (h:okO N ops M o=true) (hf:Fr N M a):execOp a.eval o=execOp (evM M) o:=by obtain⟨_,h2,h3,_⟩:=jk h;exact execOp_congr o (tf h3) λx hx=>hf.eval (h2 x hx)
abbrev View:=Nat->Option Obj
def View.le (V V':View):Prop:=∀b o,V b=some o->V' b=some o
theorem View.le_refl (V:View):View.le V V:=λ_ _ h=>h
theorem View.le_trans {A B C:View} (h:View.le A B) (k:View.le B C):View.le A C:=λb o hb=>k b o (h b o hb)
def vw (w:World):View:=λb=>w.heap[b]?
def View.cell (V:View) (a:Addr):Option Value:=match V a.block with
 |some (.cells c _ _)=>if a.spot.isSome then none else c[a.off]?
 |_=>none
theorem View.cell_mono {V V':View} (h:View.le V V') {a:Addr} {v:Value} (hv:V.cell a=some v):V'.cell a=some v:=by
 unfold View.cell at hv ⊢
 cases hb:V a.block with
 |none=>rw[hb] at hv;cases hv
 |some o=>rw[h _ _ hb];rw[hb] at hv;exact hv
theorem py (w:World) (a:Addr):(vw w).cell a=w.cell? a:=rfl
def pW (w w':World):View:=λb=>if b<w.heap.size then none else w'.heap[b]?
structure Enc (α:Type) where
 size:Nat
 rep:View->List Value->α->Prop
 mono:∀ {V V':View} {cs:List Value} {x:α},View.le V V'->rep V cs x->rep V' cs x
 len:∀ {V:View} {cs:List Value} {x:α},rep V cs x->cs.length=size
 one:∀ {V:View} {cs:List Value} {x:α},rep V cs x->∀u∈cs,u.oneCell'=true
structure VEnc (α:Type) where
 rep:View->Value->α->Prop
 mono:∀ {V V':View} {v:Value} {x:α},View.le V V'->rep V v x->rep V' v x
structure HObj where
 own:Nat->Prop
 ok:View->World->Prop
 loc:∀V w w',(∀b,own b->w'.heap[b]? = w.heap[b]?)->ok V w->ok V w'
 mono:∀V V' w,View.le V V'->ok V w->ok V' w
 lt:∀V w b,ok V w->own b->b<w.heap.size
theorem jU {w:World} {b:Nat} {o:Obj} (h:w.heap[b]? = some o):b<w.heap.size:=by
 rcases g_ b w.heap.size with hlt|hge
 . exact hlt
 . rw[t_ hge] at h;cases h
def box (b:Nat) (t:TypeId) (cs:List Value):HObj where
 own:=λb'=>some b=some b'
 ok:=λ_ w=>w.heap[b]? = some (.cells cs.toArray t (0,0))
 loc:=λ_ w w' h hb=>by rw[h b rfl];exact hb
 mono:=λ_ _ _ _ h=>h
 lt:=λ_ w b' h hb=>by injection hb with hb;subst hb;exact jU h
structure Hp (w0:World) (V:View) (H:List HObj) (w:World):Prop where
 os:w.os=w0.os
 tape:w.tape=w0.tape
 output:w.output=w0.output
 size:w0.heap.size<=w.heap.size
 view:View.le V (vw w)
 base:View.le (vw w0) V
 objs:∀x∈H,x.ok V w
 apart:∀x∈H,∀b,x.own b->V b=none
 sep:H.Pairwise λx y=>∀b,x.own b->¬ y.own b
theorem Hp.start (w:World):Hp w (vw w) [] w :=
 ⟨rfl,rfl,rfl,i_ _,View.le_refl _,View.le_refl _,by simp,by simp,List.Pairwise.nil⟩
theorem Hp.below {w0:World} {V:View} {H:List HObj} {w:World} (h:Hp w0 V H w):Below w0.heap.size w0 w:=by refine⟨h.os,h.tape,h.output,h.size,λk hk=>?_⟩;have h1:w0.heap[k]? = some w0.heap[k]:=Array.getElem?_eq_getElem hk;have h2:=h.view _ _ (h.base k _ h1);rw[h1];exact h2
theorem Hp.drew {w0:World} {V:View} {H:List HObj} {w:World} (h:Hp w0 V H w):Hp w0 V H { w with drawn:=w.drawn + 1 } :=
 ⟨h.os,h.tape,h.output,h.size,h.view,h.base,λx hx=>x.loc V w _ (λ_ _=>rfl) (h.objs x hx),h.apart,h.sep⟩
theorem Hp.new {w0:World} {V:View} {H:List HObj} {w:World} (h:Hp w0 V H w) (t:TypeId) (cs:List Value) :
 Hp w0 V (box w.heap.size t cs::H) { w with heap:=w.heap.push (.cells cs.toArray t) }:=by
 have hold:∀b,b<w.heap.size->(w.heap.push (Obj.cells cs.toArray t))[b]? = w.heap[b]?:=λb hb=>by rw[Array.getElem?_push,if_neg o_]
 refine⟨h.os,h.tape,h.output,by simpa using Nat.le_succ_of_le h.size,λb o hb=>?_,h.base,λx hx=>?_,λx hx b hb=>?_,?_⟩
 . have h1:=h.view b o hb;show (w.heap.push _)[b]? = some o;rw[hold b (jU h1)];exact h1
 . rcases List.mem_cons.1 hx with rfl|hx
   . show (w.heap.push _)[w.heap.size]? = _;simp
   . exact x.loc V w _ (λb hb=>hold b (x.lt V w b (h.objs x hx) hb)) (h.objs x hx)
 . rcases List.mem_cons.1 hx with rfl|hx
   . injection hb with hb;subst hb
     cases hv:V w.heap.size with
     |none=>rfl
     |some o=>exact absurd (jU (h.view _ _ hv)) (Nat.lt_irrefl _)
   . exact h.apart x hx b hb
 . refine List.Pairwise.cons (λy hy b hb hyb=>?_) h.sep;injection hb with hb;subst hb;exact absurd (y.lt V w _ (h.objs y hy) hyb) (Nat.lt_irrefl _)
theorem Hp.cell_box {w0:World} {V:View} {H:List HObj} {w:World} (h:Hp w0 V H w) {i b:Nat} {t:TypeId} {cs:List Value} (hi:H[i]? = some (box b t cs)) (j:Nat) :
 w.cell? ⟨b,j,none⟩=cs[j]?:=by
 have hm:w.heap[b]? = some (.cells cs.toArray t (0,0)):=h.objs _ (j_ hi);rw[cell_of_row w b j cs.toArray t (0,0) hm];simp
theorem Hp.cell_view {w0:World} {V:View} {H:List HObj} {w:World} (h:Hp w0 V H w) {a:Addr} {v:Value} (hv:V.cell a=some v):w.cell? a=some v :=
 View.cell_mono h.view hv
theorem Hp.turn {w0:World} {V:View} {H:List HObj} {w w':World} (h:Hp w0 V H w) {i:Nat} {x y:HObj} (hi:H[i]? = some x)
 {o:Option Nat} (hg:w.grownBy w' o) (hy:y.ok V w') (hb:∀b,y.own b->x.own b\/w.heap.size<=b) (ho:∀b,o=some b->x.own b:=by first|exact λ_ h=>h|exact λ_ h=>by cases h):Hp w0 V (H.set i y) w':=by
 have hxm:=j_ hi;have hil:i<H.length:=(u_.1 hi).1;have hxi:H[i]=x:=(u_.1 hi).2
 have keepV:∀b o,V b=some o->w'.heap[b]? = w.heap[b]?:=λb o hv =>
  hg.block b (jU (h.view b o hv)) (λe=>by rw[h.apart x hxm b (ho b e.symm)] at hv;cases hv)
 have hnone:∀b,w.heap.size<=b->V b=none:=λb hbs=>by
  cases hv:V b with
  |none=>rfl
  |some o=>exact absurd (jU (h.view _ _ hv)) o_
 have hsep:=h.sep;rw[C_] at hsep
 have other:∀k (hk:k<H.length),k≠i->∀b,H[k].own b->¬ x.own b:=λk hk hki b hkb hxb=>by
  rcases g_ k i with hlt|hge
  . exact hsep k i hk hil hlt b hkb (by rw[hxi];exact hxb)
  . exact hsep i k hil hk o_ b (by rw[hxi];exact hxb) hkb
 refine⟨hg.os.trans h.os,hg.tape.trans h.tape,hg.output.trans h.output,v_ h.size hg.size,λb o hb'=>?_,h.base,λz hz=>?_,λz hz b hzb=>?_,?_⟩
 . show w'.heap[b]? = some o;rw[keepV b o hb'];exact h.view b o hb'
 . obtain⟨k,hk,rfl⟩:=D_ hz;rw[x_];rw[y_] at hk;split
   . exact hy
   . rename_i hne;exact H[k].loc V w w' (λb hkb=>hg.block b (H[k].lt V w b (h.objs _ (f_ hk)) hkb) (λe=>other k hk (λe'=>hne e'.symm) b hkb (ho b e.symm))) (h.objs _ (f_ hk))
 . obtain⟨k,hk,rfl⟩:=D_ hz;rw[x_] at hzb;rw[y_] at hk;split at hzb
   . rcases hb b hzb with h1|h1
     . exact h.apart x hxm b h1
     . exact hnone b h1
   . exact h.apart _ (f_ hk) b hzb
 . rw[C_];intro k l hk hl hkl b hkb hlb;rw[x_] at hkb hlb;rw[y_] at hk hl;split at hkb
   . rename_i hik;subst hik;rw[if_neg o_] at hlb;rcases hb b hkb with h1|h1
     . exact other l hl o_ b hlb h1
     . exact absurd (H[l].lt V w b (h.objs _ (f_ hl)) hlb) o_
   . split at hlb
     . rename_i hil';subst hil';rcases hb b hlb with h1|h1
       . exact other k hk o_ b hkb h1
       . exact absurd (H[k].lt V w b (h.objs _ (f_ hk)) hkb) o_
     . exact hsep k l hk hl hkl b hkb hlb
theorem Hp.store_box {w0:World} {V:View} {H:List HObj} {w:World} (h:Hp w0 V H w) {i b:Nat} {t:TypeId} {cs:List Value} (hi:H[i]? = some (box b t cs)) (cs':List Value) :
 Hp w0 V (H.set i (box b t cs')) (w.setRow b cs'.toArray):=by
 have hm:w.heap[b]? = some (.cells cs.toArray t (0,0)):=h.objs _ (j_ hi);refine h.turn (o:=some b) hi ⟨rfl,rfl,rfl,by simp,λk _ hk=>setRow_other w b k _ (λe=>hk (by simp[e]))⟩ ?_ (λb' hb'=>.inl hb');exact setRow_heap w b cs.toArray cs'.toArray t (0,0) hm
def sv (V:View) (w w':World):View:=λb=>if b<w.heap.size then V b else w'.heap[b]?
theorem rA {w0:World} {V:View} {H:List HObj} {w:World} (h:Hp w0 V H w) (w':World):View.le V (sv V w w'):=λb o hb=>by have:=jU (h.view b o hb);simp only[sv,if_pos this];exact hb
theorem Hp.called {w0:World} {V:View} {H:List HObj} {w w':World} (h:Hp w0 V H w) (hb:Below w.heap.size w w'):Hp w0 (sv V w w') H w':=by
 refine⟨hb.os.trans h.os,hb.tape.trans h.tape,hb.output.trans h.output,v_ h.size hb.size,λb o hv=>?_,View.le_trans h.base (rA h w'),λx hx=>?_,λx hx b hxb=>?_,h.sep⟩
 . unfold sv at hv;show w'.heap[b]? = some o;split at hv
   . rename_i hlt;rw[hb.block b hlt];exact h.view b o hv
   . exact hv
 . refine x.mono V _ w' (rA h w') (x.loc V w w' (λb hxb=>hb.block b (x.lt V w b (h.objs x hx) hxb)) (h.objs x hx))
 . have hlt:=x.lt V w b (h.objs x hx) hxb;simp only[sv,if_pos hlt];exact h.apart x hx b hxb
def T (N:Sz) (w0:World) (V:View) (H:List HObj) (M:List (Nat×Value)) (φ:Act->World->Prop):Prop:=∀a w,Fr N M a->Hp w0 V H w->φ a w
abbrev RF (rl:Option Nat):Fence:={ Fence.wide with round:=rl }
theorem rV {rl:Option Nat} {P:Program} {f:FuncId} {args:Array Value} {w:World} {R:Ending->World->Prop} (h:Calls P f args w R):CallsIn (RF rl) 0 P f args w R:=(callsIn_wide (n:=0)).2 h
def jT:Op->Bool
 |.defer _=>false
 |_=>true
theorem qF {op:Op} (h:jT op=true):∀c,op≠.defer c:=by rintro c rfl;cases h
theorem vc {rl:Option Nat} {P:Program} {o:Oper} {a:Act} {w:World} {K:Act->World->Prop} {Q:Exit->Act->World->Prop} (hd:jT o.op=true) (h:o.wp P a w K Q):o.wpIn (RF rl) 0 P a w K Q:=by
 refine⟨λf _=>trivial,?_⟩;rw[Oper.semAt_eq _ _ _ (qF hd)];unfold Oper.wp at h
 generalize (execOp a.eval o).run P w=r at *
 have hdep:(RF rl).depth.isSome=true->1<=0:=λh=>by cases h
 cases r with
 |ok x w' =>
  cases x <;> simp only[Oper.upon,Oper.uponIn] at h ⊢ <;>
   first
    |exact h
    |exact⟨hdep,rV h⟩
    |exact⟨hdep,λc cs _=>let ⟨v,w1,r,s⟩:=h c cs;⟨v,w1,r,stepsIn_wide.2 s⟩⟩
    |exact h.elim
 |halt x w'=>cases x <;> simp only[Oper.upon,Oper.uponIn] at h ⊢ <;> exact h
section rules
variable {rl:Option Nat} {P:Program} {N:Sz} {w0:World} {V:View} {H:List HObj} {M:List (Nat×Value)} {ops:Array Oper} {Q:Exit->Act->World->Prop} {rest:List Oper} {o:Oper}
theorem T.ik {x y:Code} (h:T N w0 V H M (x.wpIn (RF rl) 0 P (Exit.then (y.wpIn (RF rl) 0 P Q) Q))):T N w0 V H M ((Code.seq x y).wpIn (RF rl) 0 P Q):=λa w hf hh=>wpIn_seq (h a w hf hh)
theorem T.iD {x y:Code} (I:Act->World->Prop) (h:T N w0 V H M (x.wpIn (RF rl) 0 P (Exit.then I Q))) (k:∀a w,I a w->y.wpIn (RF rl) 0 P Q a w):T N w0 V H M ((Code.seq x y).wpIn (RF rl) 0 P Q) :=
 λa w hf hh=>wpIn_seq (Go.wpIn_mono (h a w hf hh) (λe a w hq=>by cases e <;> first|exact k a w hq|exact hq))
theorem T.iI {x:Code} (I:Act->World->Prop) (h:T N w0 V H M (x.wpIn (RF rl) 0 P (Exit.then I Q))) (k:∀a w,I a w->Q .normal a w):T N w0 V H M (x.wpIn (RF rl) 0 P Q) :=
 λa w hf hh=>Go.wpIn_mono (h a w hf hh) (λe a w hq=>by cases e <;> first|exact k a w hq|exact hq)
theorem T.pQ (h:T N w0 V H M (Q .normal)):T N w0 V H M (Code.skip.wpIn (RF rl) 0 P Q):=λa w hf hh=>wpIn_skip (h a w hf hh)
theorem T.ud {id:Nat} (h:T N w0 V H M (Q (.exit id))):T N w0 V H M ((Code.exit id).wpIn (RF rl) 0 P Q):=λa w hf hh=>wpIn_exit (h a w hf hh)
theorem T.jr {φ:Act->World->Prop} (hq:Q .ret=φ) (h:T N w0 V H M φ):T N w0 V H M (Code.ret.wpIn (RF rl) 0 P Q):=λa w hf hh=>wpIn_ret (by rw[hq];exact h a w hf hh)
theorem T.uD {id:Nat} {c:Code} (h:T N w0 V H M (c.wpIn (RF rl) 0 P (Exit.inBlock id Q))):T N w0 V H M ((Code.block id c).wpIn (RF rl) 0 P Q):=λa w hf hh=>wpIn_block (h a w hf hh)
theorem T.t8 {c:Operand} {x y:Code} (b:Bool) (hk:pX M c=true) (hc:evM M c=.bool b)
 (ht:b=true->T N w0 V H M (x.wpIn (RF rl) 0 P Q)) (hf:b=false->T N w0 V H M (y.wpIn (RF rl) 0 P Q)):T N w0 V H M ((Code.cond c x y).wpIn (RF rl) 0 P Q) :=
 λa w hfr hh=>wpIn_cond_split ((hfr.eval hk).trans hc) (λh=>ht h a w hfr hh) (λh=>hf h a w hfr hh)
theorem T.rO {id:Nat} {l:List Oper} (h:T N w0 V H M (wpListIn (RF rl) 0 P l.toArray Q l)):T N w0 V H M ((Code.region id l.toArray false).wpIn (RF rl) 0 P Q) :=
 λa w hf hh=>wpIn_region_lit (h a w hf hh)
theorem T.uW (h:T N w0 V H M (Q .normal)):T N w0 V H M (wpListIn (RF rl) 0 P ops Q []):=λa w hf hh=>wpListIn_nil (h a w hf hh)
theorem pA {a:Act} {w:World} (hw:Region.wanted o (yielded ops a.tmps)=true) (h:o.wpIn (RF rl) 0 P a w (wpListIn (RF rl) 0 P ops Q rest) Q):wpListIn (RF rl) 0 P ops Q (o::rest) a w:=by unfold wpListIn;rw[if_pos hw];exact h
def W1 (P:Program) (Q:Exit->Act->World->Prop) (ops:Array Oper) (o:Oper) (N:Sz) (w0:World) (V:View) (H:List HObj) (M:List (Nat×Value)) (K:Act->World->Prop):Prop:=∀a w,Fr N M a->Hp w0 V H w->Region.wanted o (yielded ops a.tmps)=true/\o.wp P a w K Q
theorem T.ia (h:W1 P Q ops o N w0 V H M (wpListIn (RF rl) 0 P ops Q rest)) (hd:jT o.op=true:=by kernel_rfl):T N w0 V H M (wpListIn (RF rl) 0 P ops Q (o::rest)):=λa w hf hh =>
 pA (h a w hf hh).1 (vc hd (h a w hf hh).2)
variable {K:Act->World->Prop}
theorem W1.ml (v:Value) (hc:okO N ops M o=true) (hv:∀w,Hp w0 V H w->(execOp (evM M) o).run P w=.ok (.value v) w)
 (h:T N w0 V H (ju o.dst v M) K):W1 P Q ops o N w0 V H M K:=λa w hf hh=>by
 obtain⟨h1,_,_,h4⟩:=jk hc;refine⟨jb hf h1,?_⟩;unfold Oper.wp;rw[jG hc hf,hv w hh];exact h _ _ (hf.put h4 v) hh
theorem T.vf (v:Value) (hc:okO N ops M o=true) (hv:∀w,(execOp (evM M) o).run P w=.ok (.value v) w)
 (h:T N w0 V H (ju o.dst v M) (wpListIn (RF rl) 0 P ops Q rest)) (hd:jT o.op=true:=by kernel_rfl):T N w0 V H M (wpListIn (RF rl) 0 P ops Q (o::rest)):=T.ia (W1.ml v hc (λw _=>hv w) h) hd
theorem T.ve (hg:gd ops M o.guard=some false) (hd:nN N o.dst=true) (h:T N w0 V H (ju o.dst undef M) (wpListIn (RF rl) 0 P ops Q rest)) :
 T N w0 V H M (wpListIn (RF rl) 0 P ops Q (o::rest)):=λa w hf hh=>by
 unfold wpListIn;rw[if_neg (by rw[jb hf hg];simp)];exact⟨λ_ _=>trivial,h _ _ (hf.put hd undef) hh⟩
theorem W1.qt (t:TypeId) (cs:List Value) (f:Nat->Value) (hc:okO N ops M o=true)
 (hv:∀w:World,(execOp (evM M) o).run P w=.ok (.value (f w.heap.size)) { w with heap:=w.heap.push (.cells cs.toArray t) })
 (h:∀b,T N w0 V (box b t cs::H) (ju o.dst (f b) M) K):W1 P Q ops o N w0 V H M K:=λa w hf hh=>by
 obtain⟨h1,_,_,h4⟩:=jk hc;refine⟨jb hf h1,?_⟩;unfold Oper.wp;rw[jG hc hf,hv w];exact h _ _ _ (hf.put h4 _) (hh.new t cs)
def nth {α:Type}:List α->Nat->Option α
 |[],_=>none
 |x::_,0=>some x
 |_::l,n + 1=>nth l n
theorem jJ {α:Type}:∀(l:List α) (n:Nat),nth l n=l[n]?
 |[],_=>rfl
 |_::_,0=>rfl
 |_::l,n + 1=>jJ l n
theorem W1.uk (i:Nat) {b:Nat} {t:TypeId} {cs:List Value} (cs':List Value) (H':List HObj) (hi:nth H i=some (box b t cs)) (hH:H.set i (box b t cs')=H') (hc:okO N ops M o=true)
 (hv:∀w:World,w.heap[b]? = some (.cells cs.toArray t (0,0))->(execOp (evM M) o).run P w=.ok .skip (w.setRow b cs'.toArray))
 (h:T N w0 V H' (ju o.dst undef M) K):W1 P Q ops o N w0 V H M K:=λa w hf hh=>by
 obtain⟨h1,_,_,h4⟩:=jk hc;rw[jJ] at hi;refine⟨jb hf h1,?_⟩;unfold Oper.wp;rw[jG hc hf,hv w (hh.objs _ (j_ hi))];have:=hh.store_box hi cs';rw[hH] at this;exact h _ _ (hf.put h4 _) this
def jI {ρ:Type} (E:VEnc ρ) (r:ρ) (w:World) (e:Ending) (w':World):Prop:=∃v,e=.returned v/\Below w.heap.size w w'/\E.rep (pW w w') v r
def made (w0:World) (V:View):View:=λb=>if b<w0.heap.size then none else V b
theorem iq (w0:World) (V:View):View.le (made w0 V) V:=λb o h=>by
 unfold made at h;split at h
 . cases h
 . exact h
theorem jC {w0:World} {V V':View} (h:View.le V V'):View.le (made w0 V) (made w0 V'):=λb o hb=>by
 unfold made at hb ⊢;split at hb
 . cases hb
 . rename_i hlt;rw[if_neg hlt];exact h b o hb
theorem kj {w0:World} {V:View} {H:List HObj} {w:World} (h:Hp w0 V H w):View.le (made w0 V) (pW w0 w):=λb o hb=>by
 unfold made at hb;unfold pW;split at hb
 . cases hb
 . rename_i hlt;rw[if_neg hlt];exact h.view b o hb
theorem sS {w0:World} {V:View} {H:List HObj} {w:World} (h:Hp w0 V H w) (w':World):View.le (pW w w') (made w0 (sv V w w')):=λb o hb=>by
 have hs:=h.size;unfold pW at hb;split at hb
 . cases hb
 . rename_i hlt;unfold made sv;rw[if_neg o_,if_neg hlt];exact hb
theorem W1.uN {ρ:Type} (E:VEnc ρ) (r:ρ) (f:FuncId) (vs:Array Value) (hc:okO N ops M o=true)
 (hv:∀w,(execOp (evM M) o).run P w=.ok (.enter f vs) w) (hf:∀w,Hp w0 V H w->Calls P f vs w (jI E r w))
 (h:∀v V',View.le V V'->E.rep (made w0 V') v r->T N w0 V' H (ju o.dst v M) K):W1 P Q ops o N w0 V H M K:=λa w hfr hh=>by
 obtain⟨h1,_,_,h4⟩:=jk hc;refine⟨jb hfr h1,?_⟩;unfold Oper.wp;rw[jG hc hfr,hv w,Oper.upon_enter];refine(hf w hh).mono ?_;rintro e w' ⟨v,rfl,hb,hr⟩;exact h v (sv V w w') (rA hh w') (E.mono (sS hh w') hr) _ _ (hfr.put h4 v) (hh.called hb)
theorem W1.tJ {N':Nat} {fn:Func} {c:Code} (f:FuncId) (vs:Array Value) (M0:List (Nat×Value)) (hfn:P.funcs[f]? = some fn) (hb:fn.body=some c) (hN:fn.ntmps=N') (hc:okO N ops M o=true)
 (hv:∀w,(execOp (evM M) o).run P w=.ok (.enter f vs) w) (hn:vs.size<=N') (hM:∀t v,lk M0 t=some v->vs[t]? = some v)
 (h:T ⟨N',[]⟩ w0 V H M0 (c.wpIn (RF none) 0 P (bodyPost P fn (λe w'=>∃v,e=.returned v/\∀a,Fr N (ju o.dst v M) a->K a w')))):W1 P Q ops o N w0 V H M K:=λa w hfr hh=>by
 obtain⟨h1,_,_,h4⟩:=jk hc;subst hN;refine⟨jb hfr h1,?_⟩;unfold Oper.wp;rw[jG hc hfr,hv w,Oper.upon_enter]
 have hst:Fr ⟨fn.ntmps,[]⟩ M0 { tmps:=vs++l_ (fn.ntmps - vs.size) undef,defers:=[] } :=
  ⟨rfl,by simp;omega,λt v hv=>by
   have h1:=hM t v hv
   have hlt:t<vs.size:=by
    rcases g_ t vs.size with h|h
    . exact h
    . rw[t_ h] at h1;cases h1
   show (vs++l_ (fn.ntmps - vs.size) undef)[t]? = _;rw[E_ hlt]
   exact h1⟩
 refine(calls_of_wp hfn hb (wpIn_wide.1 (h _ w hst hh))).mono ?_;rintro e w' ⟨v,rfl,hk⟩;exact hk _ (hfr.put h4 v)
theorem Fr.start (args:Array Value) (n:Nat) (hn:args.size<=n) (M:List (Nat×Value)) (hM:∀t v,lk M t=some v->args[t]? = some v) :
 Fr ⟨n,[]⟩ M { tmps:=args++l_ (n - args.size) undef,defers:=[] } :=
 ⟨rfl,by simp;omega,λt v hv=>by
  have h1:=hM t v hv
  have hlt:t<args.size:=by
   rcases g_ t args.size with h|h
   . exact h
   . rw[t_ h] at h1;cases h1
  simp only;rw[E_ hlt]
  exact h1⟩
end rules
end
section
open Go.RowKit
section
variable {P:Program}
theorem iu {M:List (Nat×Value)} {o:Oper} {t:TypeId} {x:Operand} {a:Addr} {v:Value} {w:World} (ho:o.op=.load t x) (hx:evM M x=.pointer (some a))
 (ht:(isAgg t).run P w=.ok false w) (hc:w.cell? a=some v):(execOp (evM M) o).run P w=.ok (.value v) w:=by
 simp[execOp,ho,hx,Instr.loadAt,Instr.sureAddr,loadVar,ht,load,Sem.run,hc]
theorem mG {M:List (Nat×Value)} {o:Oper} {t:TypeId} {x:Operand} {a:Addr} {cs:List Value} {w:World} (ho:o.op=.load t x) (hx:evM M x=.pointer (some a))
 (ht:(isAgg t).run P w=.ok true w) (hs:(sizeOf t).run P w=.ok cs.length w) (hc:∀j v,cs[j]? = some v->w.cell? (a.add j)=some v) :
 (execOp (evM M) o).run P w=.ok (.value (.agg cs.toArray)) w:=by
 simp[execOp,ho,hx,Instr.loadAt,Instr.sureAddr,loadVar,ht,hs,run_loadCells_list w a cs hc]
theorem sQ {M:List (Nat×Value)} {o:Oper} {t:TypeId} {x y:Operand} {b off:Nat} {v:Value} {vs cs cs':List Value} {t':TypeId} {w:World} (ho:o.op=.store t x y)
 (hx:evM M x=.pointer (some ⟨b,off,none⟩)) (hy:evM M y=v) (hvs:v.cells=vs.toArray) (hs:(sizeOf t).run P w=.ok vs.length w) (h1:∀u∈vs,u.oneCell'=true)
 (hl:off + vs.length<=cs.length) (hcs:cs.take off++vs++cs.drop (off + vs.length)=cs') (hw:w.heap[b]? = some (.cells cs.toArray t' (0,0))) :
 (execOp (evM M) o).run P w=.ok .skip (w.setRow b cs'.toArray):=by
 have hst:=run_storeCells_at P b off t' vs 0 cs.toArray w hw (by simpa using hl) h1;simp only[Nat.add_zero] at hst;rw[hcs] at hst;simp[execOp,ho,hx,hy,Instr.storeAt,Instr.sureAddr,storeVar,hvs,hs,hst]
theorem Hp.sub {w0:World} {V:View} {H H':List HObj} {w:World} (h:Hp w0 V H w) (hs:H'.Sublist H):Hp w0 V H' w :=
 ⟨h.os,h.tape,h.output,h.size,h.view,h.base,λx hx=>h.objs x (hs.subset hx),λx hx=>h.apart x (hs.subset hx),h.sep.sublist hs⟩
theorem Hp.called_same {w0:World} {V:View} {H:List HObj} {w w':World} (h:Hp w0 V H w) (hb:Below w.heap.size w w'):Hp w0 V H w':=by
 refine⟨hb.os.trans h.os,hb.tape.trans h.tape,hb.output.trans h.output,v_ h.size hb.size,λb o hv=>?_,h.base,λx hx=>?_,h.apart,h.sep⟩
 . have h1:=h.view b o hv;show w'.heap[b]? = some o;rw[hb.block b (jU h1)];exact h1
 . exact x.loc V w w' (λb hxb=>hb.block b (x.lt V w b (h.objs x hx) hxb)) (h.objs x hx)
def m8 {α:Type} (n:Nat) (f:α->List Value) (h:∀x,(f x).length=n) (h1:∀x,∀u∈f x,u.oneCell'=true):Enc α where
 size:=n
 rep:=λ_ cs x=>cs=f x
 mono:=λ_ h=>h
 len:=λ{_ _ x} e=>by rw[e];exact h x
 one:=λ{_ _ x} e=>by rw[e];exact h1 x
def eK (k:IntKind):Enc Int:=m8 1 (λx=>[.int k x]) (λ_=>rfl) (λ_ u hu=>by simp at hu;subst hu;rfl)
abbrev hO:Enc Int:=eK .i64
def eBool:Enc Bool:=m8 1 (λx=>[.bool x]) (λ_=>rfl) (λ_ u hu=>by simp at hu;subst hu;rfl)
def eStr:Enc ByteArray:=m8 1 (λx=>[.string x]) (λ_=>rfl) (λ_ u hu=>by simp at hu;subst hu;rfl)
def nF (V:View) (A:Option Addr) (xs:List Value):Prop:=∀j u,xs[j]? = some u->∃a,A=some a/\V.cell (a.add j)=some u
def iH {α:Type} (V:View) (E:Enc α) (xs:List Value) (l:List α):Prop:=xs.length=l.length * E.size/\∀k x,l[k]? = some x->E.rep V ((xs.drop (k * E.size)).take E.size) x
def hJ {α:Type} (V:View) (E:Enc α) (A:Option Addr) (c:Nat) (l:List α):Prop:=l.length<=c/\c<=maxLen/\∃xs,iH V E xs l/\nF V A xs
section slices
variable {α:Type} {V V':View} {E:Enc α} {A:Option Addr} {c:Nat} {l:List α} {xs:List Value}
theorem nF.mono (h:nF V A xs) (hv:View.le V V'):nF V' A xs:=λj u hu=>by obtain⟨a,ha,hc⟩:=h j u hu;exact⟨a,ha,View.cell_mono hv hc⟩
theorem iH.mono (h:iH V E xs l) (hv:View.le V V'):iH V' E xs l:=⟨h.1,λk x hk=>E.mono hv (h.2 k x hk)⟩
theorem hJ.mono (h:hJ V E A c l) (hv:View.le V V'):hJ V' E A c l:=by obtain⟨h1,h2,xs,h3,h4⟩:=h;exact⟨h1,h2,xs,h3.mono hv,h4.mono hv⟩
def ku (E:Enc α):Enc (List α) where
 size:=1
 rep:=λV cs l=>∃A c,cs=[.slice A l.length c]/\hJ V E A c l
 mono:=λhv ⟨A,c,h1,h2⟩=>⟨A,c,h1,h2.mono hv⟩
 len:=λ⟨_,_,h1,_⟩=>by rw[h1];rfl
 one:=λ⟨_,_,h1,_⟩ u hu=>by rw[h1] at hu;simp at hu;subst hu;rfl
theorem mn (a:Addr) (n:Nat):(a.add n).block=a.block:=by unfold Addr.add;split <;> rfl
theorem mE (a:Addr) (i j:Nat):(a.add i).add j=a.add (i + j):=by unfold Addr.add;by_cases hi:i=0 <;> by_cases hj:j=0 <;> simp[hi,hj,Nat.add_assoc]
def iz (A:Option Addr):Addr:=A.getD ⟨0,0,none⟩
theorem hJ.elem (h:hJ V E A c l) {k:Nat} {x:α} (hk:l[k]? = some x) :
 ∃cs,E.rep V cs x/\∀j u,cs[j]? = some u->A.isSome=true/\V.cell (((iz A).add (k * E.size)).add j)=some u:=by
 obtain⟨_,_,xs,h3,h4⟩:=h;refine⟨_,h3.2 k x hk,λj u hu=>?_⟩;rw[List.getElem?_take] at hu;split at hu
 . rw[List.getElem?_drop] at hu;obtain⟨a,rfl,hc⟩:=h4 _ u hu;refine⟨rfl,?_⟩;rw[mE];exact hc
 . cases hu
theorem hJ.cell (h:hJ V E A c l) {k f:Nat} {x:α} {u:Value} (hk:l[k]? = some x) (hf:∀cs,E.rep V cs x->cs[f]? = some u) :
 V.cell (((iz A).add (k * E.size)).add f)=some u:=by
 obtain⟨cs,hr,hc⟩:=h.elem hk;exact(hc f u (hf cs hr)).2
theorem hJ.some_ (h:hJ V E A c l) {k:Nat} {x:α} (hk:l[k]? = some x) (hs:0<E.size):A.isSome=true:=by obtain⟨cs,hr,hc⟩:=h.elem hk;have hl:=E.len hr;have:cs[0]? = some (cs[0]'o_):=List.getElem?_eq_getElem o_;exact(hc 0 _ this).1
theorem hJ.nil (V:View) (E:Enc α):hJ V E none 0 []:=⟨i_ _,by decide,[],⟨by simp,λk x hk=>by simp at hk⟩,λj u hu=>by simp at hu⟩
end slices
theorem ib {M:List (Nat×Value)} {o:Oper} {t e:TypeId} {x i:Operand} {A:Option Addr} {n c s:Nat} {k:IntKind} {iv:Int} {w:World} (ho:o.op=.indexAddr t x i)
 (hx:evM M x=.slice A n c) (hi:evM M i=.int k iv) (ht:P.underlying t=some (.slice e)) (hs:(sizeOf e).run P w=.ok s w) (h0:0<=iv) (hn:iv<n) (hA:A.isSome=true) :
 (execOp (evM M) o).run P w=.ok (.value (.pointer (some ((iz A).add (iv.toNat * s))))) w:=by
 obtain⟨a,rfl⟩:=z_.1 hA;simp[execOp,ho,hx,hi,Instr.indexAt,asIntOf,run_underlying ht,hs,h0,hn,iz]
def idx {α:Type} (l:List α) (i:Int):Option α:=if i<0 then none else l[i.toNat]?
theorem ig {α:Type} {l:List α} {i:Int} {x:α} (h:idx l i=some x):0<=i/\i<l.length/\l[i.toNat]? = some x:=by
 unfold idx at h;split at h
 . cases h
 . rename_i hi;have hlt:=(u_.1 h).1;exact⟨by omega,by omega,h⟩
def qP (s:ByteArray) (i:Int):Option UInt8:=if 0<=i then s[i.toNat]? else none
theorem j4 {M:List (Nat×Value)} {o:Oper} {t:TypeId} {x i:Operand} {s:ByteArray} {k:IntKind} {iv:Int} {b:UInt8} {w:World} (ho:o.op=.index t x i)
 (hx:evM M x=.string s) (hi:evM M i=.int k iv) (ht:P.underlying t=some .string) (hb:qP s iv=some b):(execOp (evM M) o).run P w=.ok (.value (.int .u8 b.toNat)) w:=by
 unfold qP at hb;simp only[execOp,ho,hx,hi,Instr.index,asIntOf,Sem.run_bind,Sem.run_pure,Result.andThen_ok,run_underlying ht,hb]
def km (s:ByteArray) (lo hi:Int):Option ByteArray:=if 0<=lo/\lo<=hi/\hi<=s.size then some (s.extract lo.toNat hi.toNat) else none
theorem oa {s r:ByteArray} {lo hi:Int} (h:km s lo hi=some r):0<=lo/\lo<=hi/\hi<=s.size/\s.extract lo.toNat hi.toNat=r:=by
 unfold km at h;split at h
 . rename_i hc;exact⟨hc.1,hc.2.1,hc.2.2,a_.inj h⟩
 . cases h
theorem jK {w:World} {k:IntKind} {i:Int} {y:Nat} {code:BoundsCode} (h0:0<=i) (h1:i<=y):(Instr.sliceBound (.int k i) y code).run P w=.ok i.toNat w:=by simp[Instr.sliceBound,asIntOf,h0,h1]
theorem iX {M:List (Nat×Value)} {o:Oper} {t:TypeId} {x l h:Operand} {s r:ByteArray} {k k':IntKind} {lo hi:Int} {w:World} (ho:o.op=.slice t x (some l) (some h) none)
 (hx:evM M x=.string s) (hl:evM M l=.int k lo) (hh:evM M h=.int k' hi) (ht:P.underlying t=some .string) (hr:km s lo hi=some r) :
 (execOp (evM M) o).run P w=.ok (.value (.string r)) w:=by
 obtain⟨h0,h1,h2,rfl⟩:=oa hr;have e1:=@jK P w k' hi s.size .sliceAlen o_ h2;have e2:=@jK P w k lo hi.toNat .sliceB h0 o_;simp[execOp,ho,hx,hl,hh,Instr.sliceAt,run_underlying ht,Instr.slice,Instr.sliceBounds,e1,e2]
theorem jF {M:List (Nat×Value)} {o:Oper} {t:TypeId} {x l:Operand} {s r:ByteArray} {k:IntKind} {lo:Int} {w:World} (ho:o.op=.slice t x (some l) none none)
 (hx:evM M x=.string s) (hl:evM M l=.int k lo) (ht:P.underlying t=some .string) (hr:km s lo s.size=some r) :
 (execOp (evM M) o).run P w=.ok (.value (.string r)) w:=by
 obtain⟨h0,h1,h2,rfl⟩:=oa hr;have e2:=@jK P w k lo s.size .sliceB h0 o_;simp[execOp,ho,hx,hl,Instr.sliceAt,run_underlying ht,Instr.slice,Instr.sliceBounds,e2]
theorem kZ {M:List (Nat×Value)} {o:Oper} {t:TypeId} {x h:Operand} {s r:ByteArray} {k:IntKind} {hi:Int} {w:World} (ho:o.op=.slice t x none (some h) none)
 (hx:evM M x=.string s) (hh:evM M h=.int k hi) (ht:P.underlying t=some .string) (hr:km s 0 hi=some r) :
 (execOp (evM M) o).run P w=.ok (.value (.string r)) w:=by
 obtain⟨h0,h1,h2,rfl⟩:=oa hr;have e2:=@jK P w k hi s.size .sliceAlen o_ h2;simp[execOp,ho,hx,hh,Instr.sliceAt,run_underlying ht,Instr.slice,Instr.sliceBounds,e2]
def m5 (x y:ByteArray):Option ByteArray:=if x.size + y.size<=9223372036854775807 then some (x++y) else none
theorem tW {x y z:ByteArray} (h:m5 x y=some z):x.size + y.size<=9223372036854775807/\x++y=z:=by
 unfold m5 at h;split at h
 . rename_i hc;exact⟨hc,a_.inj h⟩
 . cases h
theorem jq {M:List (Nat×Value)} {o:Oper} {t t':TypeId} {x y:Operand} {s r z:ByteArray} {w:World} (ho:o.op=.binOp .add t x y t')
 (hx:evM M x=.string s) (hy:evM M y=.string r) (hr:m5 s r=some z):(execOp (evM M) o).run P w=.ok (.value (.string z)) w:=by
 obtain⟨hc,rfl⟩:=tW hr;have h1:¬ (((s.size + r.size:Nat):Int) > IntKind.i64.max):=by have:IntKind.i64.max=9223372036854775807:=rfl;rw[this];omega
 simp only[execOp,ho,hx,hy,eqGuard,binOp,Op.stringOp,if_neg h1];rfl
def seq (x y:ByteArray):Bool:=x.toList==y.toList
def iter {σ ρ:Type} (f:σ->Option (σ⊕ρ)):Nat->σ->Option ρ
 |0,_=>none
 |n + 1,s=>match f s with
  |none=>none
  |some (.inl s')=>iter f n s'
  |some (.inr r)=>some r
def FUEL:Nat:=18446744073709551616
class Big (F:Nat):Prop where
 le:18446744073709551616<=F
instance :Big FUEL:=⟨i_ _⟩
theorem uV {rl:Option Nat} {σ ρ:Type} {c:Code} {f:σ->Option (σ⊕ρ)} {I:σ->Act->World->Prop} {Q:Exit->Act->World->Prop} (r:ρ)
 (body:∀s y,f s=some y->(∀r',y=.inr r'->r'=r)->∀a w,I s a w->c.wpIn (RF rl) 0 P (Exit.then (λa' w'=>∃s',y=.inl s'/\I s' a' w') Q) a w) :
 ∀n s,iter f n s=some r->∀a w,I s a w->(Code.loop c).wpIn (RF rl) 0 P Q a w:=by
 intro n s hn a w hI;refine wpIn_loop_rounds n ?_
 have key:∀n s,iter f n s=some r->∀a w,I s a w->Code.roundsIn (RF rl) 0 P c Q n a w:=by
  intro n
  induction n with
  |zero=>intro s hs;cases hs
  |succ n ih =>
   intro s hs a w hI;simp only[iter] at hs
   cases hf:f s with
   |none=>rw[hf] at hs;cases hs
   |some y =>
    have hy:∀r',y=.inr r'->r'=r:=λr' e=>by subst e;rw[hf] at hs;exact a_.inj hs
    rw[roundsIn_succ];refine Go.wpIn_mono (body s y hf hy a w hI) (λe a₁ w₁ hq=>?_)
    cases e with
    |normal=>obtain⟨s',rfl,hI'⟩:=hq;rw[hf] at hs;exact ih s' hs a₁ w₁ hI'
    |exit id=>exact hq
    |goto l=>exact hq
    |ret=>exact hq
    |panic ch=>exact hq
    |outgrown=>exact hq
 exact key n s hn a w hI
section
variable {rl:Option Nat} {N:Sz} {w0:World} {V:View} {H:List HObj} {M:List (Nat×Value)} {Q:Exit->Act->World->Prop} {c:Code}
theorem T.rP (n:Nat) (h:T N w0 V H M (Code.roundsIn (RF rl) 0 P c Q n)):T N w0 V H M ((Code.loop c).wpIn (RF rl) 0 P Q):=λa w hf hh=>wpIn_loop_rounds n (h a w hf hh)
theorem T.mh {n:Nat} (h:T N w0 V H M (c.wpIn (RF rl) 0 P (Exit.then (Code.roundsIn (RF rl) 0 P c Q n) Q))):T N w0 V H M (Code.roundsIn (RF rl) 0 P c Q (n + 1)):=λa w hf hh=>by rw[roundsIn_succ];exact h a w hf hh
theorem T.iF {σ ρ:Type} {f:σ->Option (σ⊕ρ)} {n:Nat} {s:σ} {r:ρ} (I:σ->Act->World->Prop) (hr:iter f n s=some r) (h0:T N w0 V H M (I s))
 (body:∀s y,f s=some y->(∀r',y=.inr r'->r'=r)->∀a w,I s a w->c.wpIn (RF rl) 0 P (Exit.then (λa' w'=>∃s',y=.inl s'/\I s' a' w') Q) a w) :
 T N w0 V H M ((Code.loop c).wpIn (RF rl) 0 P Q):=λa w hf hh=>uV r body n s hr a w (h0 a w hf hh)
end
section
variable {N:Sz} {w0:World} {V:View} {H:List HObj} {M:List (Nat×Value)} {ops:Array Oper} {Q:Exit->Act->World->Prop} {rest:List Oper} {o:Oper} {φ:Act->Prop}
def TQ (N:Sz) (M:List (Nat×Value)) (φ:Act->Prop):Prop:=∀a,Fr N M a->φ a
theorem T.jE {id:Nat} {l:List Oper} (hm:P.follows .mixedOrders=true) (hB:Region.lexB .any l.toArray=true)
 (h:TQ N M (wpQuiet P l.toArray (Hp w0 V H) (λa'=>∀w',Hp w0 V H w'->Q .normal a' w') l)):T N w0 V H M ((Code.region id l.toArray true).wpIn (RF none) 0 P Q) :=
 λa w hf hh=>wpIn_wide.2 (wp_region_quiet (C:=Hp w0 V H) hm hB hh.drew (by simpa using h a hf))
theorem TQ.jy (h:T N w0 V H M (Q .normal)):TQ N M (wpQuiet P ops (Hp w0 V H) (λa'=>∀w',Hp w0 V H w'->Q .normal a' w') []):=λa hf w' hh=>h a w' hf hh
theorem TQ.tz (v:Value) (hc:okO N ops M o=true) (hv:∀w,Hp w0 V H w->(execOp (evM M) o).run P w=.ok (.value v) w)
 (h:TQ N (ju o.dst v M) (wpQuiet P ops (Hp w0 V H) φ rest)):TQ N M (wpQuiet P ops (Hp w0 V H) φ (o::rest)):=λa hf=>by
 obtain⟨h1,_,_,h4⟩:=jk hc;unfold wpQuiet;rw[if_pos (jb hf h1)];refine⟨v,λw hw=>?_,h _ (hf.put h4 v)⟩;unfold Oper.quietAt;rw[jG hc hf,hv w hw];exact⟨rfl,rfl⟩
theorem TQ.uM (v:Value) (hc:okO N ops M o=true) (hv:∀w,(execOp (evM M) o).run P w=.ok (.value v) w)
 (h:TQ N (ju o.dst v M) (wpQuiet P ops (Hp w0 V H) φ rest)):TQ N M (wpQuiet P ops (Hp w0 V H) φ (o::rest)):=TQ.tz v hc (λw _=>hv w) h
theorem TQ.uL (hg:gd ops M o.guard=some false) (hd:nN N o.dst=true) (h:TQ N (ju o.dst undef M) (wpQuiet P ops (Hp w0 V H) φ rest)) :
 TQ N M (wpQuiet P ops (Hp w0 V H) φ (o::rest)):=λa hf=>by
 unfold wpQuiet;rw[if_neg (by rw[jb hf hg];simp)];exact h _ (hf.put hd undef)
theorem TQ.iV {ρ:Type} (E:VEnc ρ) (r:ρ) (f:FuncId) (vs:Array Value) (v:Value) (hval:∀V u,E.rep V u r->u=v) (hc:okO N ops M o=true)
 (hv:∀w,(execOp (evM M) o).run P w=.ok (.enter f vs) w) (hf:∀w,Hp w0 V H w->Calls P f vs w (jI E r w))
 (h:TQ N (ju o.dst v M) (wpQuiet P ops (Hp w0 V H) φ rest)):TQ N M (wpQuiet P ops (Hp w0 V H) φ (o::rest)):=λa hfr=>by
 obtain⟨h1,_,_,h4⟩:=jk hc;unfold wpQuiet;rw[if_pos (jb hfr h1)];refine⟨v,λw hw=>?_,h _ (hfr.put h4 v)⟩;unfold Oper.quietAt;rw[jG hc hfr,hv w];refine⟨rfl,(hf w hw).mono ?_⟩;rintro e w' ⟨u,rfl,hb,hr⟩;exact⟨by rw[hval _ _ hr],hw.called_same hb⟩
end
section
variable {N:Sz} {w0:World} {V V0:View} {H H0:List HObj} {M:List (Nat×Value)} {ops:Array Oper} {Q:Exit->Act->World->Prop} {o:Oper} {fuel:Nat} {listed:Array Bool}
theorem T.iN {id:Nat} {l:List Oper} (H0:List HObj) (hm:P.follows .mixedOrders=true)
 (h:T N w0 V H M (wpAnyH P .any l.toArray Q (Hp w0 V H0) l.length (l_ l.length false))):T N w0 V H M ((Code.region id l.toArray true).wpIn (RF none) 0 P Q) :=
 λa w hf hh=>wpIn_wide.2 (wp_region_held (S:=Hp w0 V H0) hm (by simpa using h a _ hf hh.drew))
theorem TA.uG (hr:Region.ready .any ops listed=[]) (h:T N w0 V H M (Q .normal)):T N w0 V H M (wpAnyH P .any ops Q (Hp w0 V0 H0) fuel listed) :=
 λa w hf hh=>wpAnyH_done hr (h a w hf hh) fuel
theorem TA.uH (i:Nat) (v:Value) (hi:ops[i]? = some o) (hsel:Region.noSelect ops=true) (hfree:Region.free .any ops listed i=true) (hr:(Region.ready .any ops listed).contains i=true)
 (hQ:∀c a w,Q (.panic c) (a.put o.dst v) w->Q (.panic c) a w) (hS:∀w,Hp w0 V H w->Hp w0 V0 H0 w)
 (hc:okO N ops M o=true) (hv:∀w,Hp w0 V0 H0 w->(execOp (evM M) o).run P w=.ok (.value v) w)
 (h:T N w0 V H (ju o.dst v M) (wpAnyH P .any ops Q (Hp w0 V0 H0) fuel (listed.setIfInBounds i true))):T N w0 V H M (wpAnyH P .any ops Q (Hp w0 V0 H0) (fuel + 1) listed) :=
 λa w hf hh=>by obtain⟨h1,_,_,h4⟩:=jk hc;refine wpAnyH_take hi hsel hfree hr hQ (.inl ⟨jb hf h1,λw' hw'=>?_⟩) (hS w hh) (h _ _ (hf.put h4 v) hh);rw[jG hc hf];exact hv w' hw'
theorem TA.om (i:Nat) (hi:ops[i]? = some o) (hsel:Region.noSelect ops=true) (hfree:Region.free .any ops listed i=true) (hr:(Region.ready .any ops listed).contains i=true)
 (hQ:∀c a w,Q (.panic c) (a.put o.dst undef) w->Q (.panic c) a w) (hS:∀w,Hp w0 V H w->Hp w0 V0 H0 w)
 (hg:gd ops M o.guard=some false) (hd:nN N o.dst=true)
 (h:T N w0 V H (ju o.dst undef M) (wpAnyH P .any ops Q (Hp w0 V0 H0) fuel (listed.setIfInBounds i true))):T N w0 V H M (wpAnyH P .any ops Q (Hp w0 V0 H0) (fuel + 1) listed) :=
 λ_ w hf hh=>wpAnyH_take hi hsel hfree hr hQ (.inr ⟨jb hf hg,rfl⟩) (hS w hh) (h _ _ (hf.put hd undef) hh)
theorem Hp.older {w:World} (hv:View.le V0 V) (hb:View.le (vw w0) V0) (hs:H0.Sublist H) (ho:∀x∈H0,∀w,x.ok V w->x.ok V0 w) (h:Hp w0 V H w):Hp w0 V0 H0 w :=
 ⟨h.os,h.tape,h.output,h.size,View.le_trans hv h.view,hb,λx hx=>ho x hx w (h.objs x (hs.subset hx)),λx hx b hxb=>by
  have h1:=h.apart x (hs.subset hx) b hxb
  cases hV:V0 b with
  |none=>rfl
  |some o=>exact absurd (hv b o hV) (by rw[h1];simp),h.sep.sublist hs⟩
end
def rR:Nat->List Value->List (Nat×Value)
 |_,[]=>[]
 |n,v::l=>(n,v)::rR (n + 1) l
theorem pp:∀(l:List Value) (n t:Nat) (v:Value),lk (rR n l) t=some v->n<=t/\l[t - n]? = some v
 |[],_,_,_,h=>by cases h
 |u::l,n,t,v,h=>by
  simp only[rR,lk] at h
  cases hb:d_ n t with
  |true=>rw[hb,cond_true] at h;obtain rfl:=q_ hb;exact⟨i_ _,by simpa using h⟩
  |false=>rw[hb,cond_false] at h;obtain⟨h1,h2⟩:=pp l (n + 1) t v h;refine⟨by omega,?_⟩;have e:t - n=(t - (n + 1)) + 1:=o_;rw[e,List.getElem?_cons_succ];exact h2
section
variable {N:Sz} {w0:World} {V:View} {H:List HObj} {M:List (Nat×Value)} {fn:Func} {R:Ending->World->Prop} {c:Code} {f:FuncId} {w:World}
theorem T.iB {N:Nat} {l:List Value} (hf:P.funcs[f]? = some fn) (hb:fn.body=some c) (hN:fn.ntmps=N) (hn:Nat.ble l.length N=true)
 (h:T ⟨N,[]⟩ w (vw w) [] (rR 0 l) (c.wpIn (RF none) 0 P (bodyPost P fn R))):Calls P f l.toArray w R:=by
 subst hN;refine calls_of_wp hf hb (wpIn_wide.1 (h _ w (Fr.start l.toArray fn.ntmps (by simpa using p_ hn) _ λt v hv=>?_) (Hp.start w)));have:=(pp l 0 t v hv).2;simpa using this
def qJ (tmps:Array Value) (r:ResultVar):Sem Value:=match r with
 |.tmp t=>pure (tmps.getD t undef)
 |.cell a t=>do loadVar t (<-asAddr (tmps.getD a undef))
theorem oW (fn:Func) (tmps:Array Value):results fn tmps=(do
 let vs <-fn.results.mapM (qJ tmps)
 pure (if h:vs.size=1 then vs[0] else .tuple vs)):=rfl
def kQ (P:Program) (N:Sz) (w0:World) (V:View) (H:List HObj) (M:List (Nat×Value)) (r:ResultVar) (v:Value):Prop:=∀a w,Fr N M a->Hp w0 V H w->(qJ a.tmps r).run P w=.ok v w
theorem Fr.getD {a:Act} (h:Fr N M a) {t:Nat} {v:Value} (hv:lk M t=some v):a.tmps.getD t undef=v:=by rw[B_,h.get t v hv];rfl
theorem kQ.tmp {t:Nat} {v:Value} (hv:lk M t=some v):kQ P N w0 V H M (.tmp t) v:=λa w hf _=>by unfold qJ;dsimp only;rw[hf.getD hv];rfl
theorem kQ.cellN {t:Nat} {ty ty':TypeId} {b:Nat} {cs:List Value} (i:Nat) (hv:lk M t=some (.pointer (some ⟨b,0,none⟩))) (hi:nth H i=some (box b ty' cs))
 (ht:∀w,(isAgg ty).run P w=.ok true w) (hs:∀w,(sizeOf ty).run P w=.ok cs.length w):kQ P N w0 V H M (.cell t ty) (.agg cs.toArray):=λa w hf hh=>by
 rw[jJ] at hi;unfold qJ;dsimp only;rw[hf.getD hv]
 have hc:∀j v,cs[j]? = some v->w.cell? ((⟨b,0,none⟩:Addr).add j)=some v:=λj v hj=>by
  have hadd:(⟨b,0,none⟩:Addr).add j=⟨b,j,none⟩:=by unfold Addr.add;split <;> simp_all
  rw[hadd,hh.cell_box hi j,hj]
 simp[asAddr,loadVar,ht,hs,run_loadCells_list w _ cs hc]
theorem kQ.cell1 {t:Nat} {ty ty':TypeId} {b:Nat} {v:Value} (i:Nat) (hv:lk M t=some (.pointer (some ⟨b,0,none⟩))) (hi:nth H i=some (box b ty' [v]))
 (ht:∀w,(isAgg ty).run P w=.ok false w):kQ P N w0 V H M (.cell t ty) v:=λa w hf hh=>by
 rw[jJ] at hi;unfold qJ;dsimp only;rw[hf.getD hv];have hc:w.cell? ⟨b,0,none⟩=some v:=hh.cell_box hi 0;simp[asAddr,loadVar,ht,load,Sem.run,hc]
theorem T.sK (hr:fn.results = #[]) (h:∀w,Hp w0 V H w->R (.returned (.tuple #[])) w) (hN:N.ds=[]:=by rfl):T N w0 V H M (λa w=>bodyPost P fn R .ret a w) :=
 λa w hf hh=>⟨by rw[hf.defers,hN];rfl,_,by simp[results,hr],h w hh⟩
theorem T.kh {r:ResultVar} {v:Value} (hr:fn.results = #[r]) (h1:kQ P N w0 V H M r v) (h:∀w,Hp w0 V H w->R (.returned v) w) (hN:N.ds=[]:=by rfl):T N w0 V H M (λa w=>bodyPost P fn R .ret a w) :=
 λa w hf hh=>⟨by rw[hf.defers,hN];rfl,v,by rw[oW,hr];simp[h1 a w hf hh],h w hh⟩
theorem T.kM {r1 r2:ResultVar} {v1 v2:Value} (hr:fn.results = #[r1,r2]) (h1:kQ P N w0 V H M r1 v1) (h2:kQ P N w0 V H M r2 v2) (h:∀w,Hp w0 V H w->R (.returned (.tuple #[v1,v2])) w) (hN:N.ds=[]:=by rfl):T N w0 V H M (λa w=>bodyPost P fn R .ret a w) :=
 λa w hf hh=>⟨by rw[hf.defers,hN];rfl,.tuple #[v1,v2],by rw[oW,hr];simp[h1 a w hf hh,h2 a w hf hh],h w hh⟩
theorem T.ri {r1 r2 r3:ResultVar} {v1 v2 v3:Value} (hr:fn.results = #[r1,r2,r3]) (h1:kQ P N w0 V H M r1 v1) (h2:kQ P N w0 V H M r2 v2) (h3:kQ P N w0 V H M r3 v3) (h:∀w,Hp w0 V H w->R (.returned (.tuple #[v1,v2,v3])) w) (hN:N.ds=[]:=by rfl):T N w0 V H M (λa w=>bodyPost P fn R .ret a w) :=
 λa w hf hh=>⟨by rw[hf.defers,hN];rfl,.tuple #[v1,v2,v3],by rw[oW,hr];simp[h1 a w hf hh,h2 a w hf hh,h3 a w hf hh],h w hh⟩
end
def vSc {α:Type} (E:Enc α):VEnc α:={ rep:=λV v x=>E.rep V [v] x,mono:=λhv h=>E.mono hv h }
def vAg {α:Type} (E:Enc α):VEnc α:={ rep:=λV v x=>∃cs:List Value,v=.agg cs.toArray/\E.rep V cs x,mono:=λhv ⟨cs,h1,h2⟩=>⟨cs,h1,E.mono hv h2⟩ }
def vT2 {α β:Type} (A:VEnc α) (B:VEnc β):VEnc (α×β):={ rep:=λV v x=>∃v1 v2,v=.tuple #[v1,v2]/\A.rep V v1 x.1/\B.rep V v2 x.2,mono:=λhv ⟨v1,v2,h,h1,h2⟩=>⟨v1,v2,h,A.mono hv h1,B.mono hv h2⟩ }
def vT3 {α β γ:Type} (A:VEnc α) (B:VEnc β) (C:VEnc γ):VEnc (α×β×γ):={ rep:=λV v x=>∃v1 v2 v3,v=.tuple #[v1,v2,v3]/\A.rep V v1 x.1/\B.rep V v2 x.2.1/\C.rep V v3 x.2.2,mono:=λhv ⟨v1,v2,v3,h,h1,h2,h3⟩=>⟨v1,v2,v3,h,A.mono hv h1,B.mono hv h2,C.mono hv h3⟩ }
theorem vAg.mk {α:Type} {E:Enc α} {V:View} {cs:List Value} {x:α} (h:E.rep V cs x):(vAg E).rep V (.agg cs.toArray) x:=⟨cs,rfl,h⟩
theorem vT2.mk {α β:Type} {A:VEnc α} {B:VEnc β} {V:View} {v1 v2:Value} {x:α} {y:β} (h1:A.rep V v1 x) (h2:B.rep V v2 y):(vT2 A B).rep V (.tuple #[v1,v2]) (x,y):=⟨v1,v2,rfl,h1,h2⟩
theorem vT3.mk {α β γ:Type} {A:VEnc α} {B:VEnc β} {C:VEnc γ} {V:View} {v1 v2 v3:Value} {x:α} {y:β} {z:γ} (h1:A.rep V v1 x) (h2:B.rep V v2 y) (h3:C.rep V v3 z):(vT3 A B C).rep V (.tuple #[v1,v2,v3]) (x,y,z):=⟨v1,v2,v3,rfl,h1,h2,h3⟩
def kg {α:Type} (E:VEnc α) (f:α->Value):Prop:=∀V v x,E.rep V v x->v=f x
theorem kg.flat1 {α:Type} {g:α->List Value} {hl:∀x,(g x).length=1} {h1:∀x,∀u∈g x,u.oneCell'=true} (f:α->Value) (hf:∀x,g x=[f x]):kg (vSc (m8 1 g hl h1)) f:=λV v x h=>by have:[v]=g x:=h;rw[hf] at this;simpa using this
theorem kg.flatN {α:Type} {n:Nat} {g:α->List Value} {hl:∀x,(g x).length=n} {h1:∀x,∀u∈g x,u.oneCell'=true}:kg (vAg (m8 n g hl h1)) (λx=>.agg (g x).toArray):=λV v x h=>by obtain⟨cs,hv,hc⟩:=h;rw[hv,show cs=g x from hc]
theorem kg.t2 {α β:Type} {A:VEnc α} {B:VEnc β} {f:α->Value} {g:β->Value} (h1:kg A f) (h2:kg B g):kg (vT2 A B) (λx=>.tuple #[f x.1,g x.2]):=λV v x h=>by obtain⟨v1,v2,hv,ha,hb⟩:=h;rw[hv,h1 _ _ _ ha,h2 _ _ _ hb]
theorem kg.t3 {α β γ:Type} {A:VEnc α} {B:VEnc β} {C:VEnc γ} {f:α->Value} {g:β->Value} {k:γ->Value} (h1:kg A f) (h2:kg B g) (h3:kg C k):kg (vT3 A B C) (λx=>.tuple #[f x.1,g x.2.1,k x.2.2]):=λV v x h=>by obtain⟨v1,v2,v3,hv,ha,hb,hc⟩:=h;rw[hv,h1 _ _ _ ha,h2 _ _ _ hb,h3 _ _ _ hc]
theorem ic:kg (vSc hO) (λx=>.int .i64 x):=kg.flat1 _ λ_=>rfl
theorem jH:kg (vSc eBool) (λx=>.bool x):=kg.flat1 _ λ_=>rfl
theorem iY:kg (vSc eStr) (λx=>.string x):=kg.flat1 _ λ_=>rfl
def vp (k:IntKind) (x y:Int):Int:=k.wrap ((BitVec.ofInt k.bits x &&& BitVec.ofInt k.bits y).toNat:Int)
def bor (k:IntKind) (x y:Int):Int:=k.wrap ((BitVec.ofInt k.bits x ||| BitVec.ofInt k.bits y).toNat:Int)
def vj (k:IntKind) (x y:Int):Int:=k.wrap ((BitVec.ofInt k.bits x ^^^ BitVec.ofInt k.bits y).toNat:Int)
def shl (k:IntKind) (x:Int) (n:Nat):Int:=k.wrap (x * 2 ^ min n k.bits)
def shr (k:IntKind) (x:Int) (n:Nat):Int:=x.fdiv (2 ^ min n k.bits)
end
end
end Go.Proofs.YtnofgfobljadbaaGreat
