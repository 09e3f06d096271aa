/- Ranges over functions. Its conditions: none; every theorem holds for every program of the model. -/
import Derived.Test.YtnofgfobljadbaaGreatRecO
import Derived.RangeFuncLeaves
import Derived.RangeFuncRecord
open List renaming mem_of_getElem?→a_
namespace Go.Proofs.YtnofgfobljadbaaGreat
set_option linter.unusedSimpArgs false
set_option linter.unusedVariables false
section
open Go.RowKit
def lz {α:Type} (n:Nat) (a:α) (b:Nat->α):α:=match n with
 |0=>a
 |k + 1=>b k
theorem jC {α:Type} (a:α) (b:Nat->α):lz 0 a b=a:=rfl
theorem jV {α:Type} (k:Nat) (a:α) (b:Nat->α):lz (k + 1) a b=b k:=rfl
def isz:Nat->Bool
 |0=>true
 |_ + 1=>false
def qW (b:Nat) (o:Obj):HObj where
 own:=λb'=>some b=some b'
 ok:=λ_ w=>w.heap[b]? = some o
 loc:=λ_ w w' h hb=>by rw[h b rfl];exact hb
 mono:=λ_ _ _ _ h=>h
 lt:=λ_ w b' h hb=>by injection hb with hb;subst hb;exact jr h
def pick:Code->List Code->Nat->Code
 |c,[],_=>c
 |c,_::_,0=>c
 |_,c'::cs,k + 1=>pick c' cs k
theorem uh (c:Code) (k:Nat):pick c [] k=c:=by cases k <;> rfl
theorem tF (c c':Code) (cs:List Code):pick c (c'::cs) 0=c:=rfl
theorem tE (c c':Code) (cs:List Code) (k:Nat):pick c (c'::cs) (k + 1)=pick c' cs k:=rfl
def sA (r:Loop) (c:Code) (cs:List Code):Nat->Loop
 |0=>{ r with state:=.ready,pending:=none }
 |k + 1=>{ r with state:=.done,pending:=some (pick c cs k) }
def tZ (r:Loop):Loop:={ r with state:=.busy,pending:=none }
abbrev jy (l:Nat) (r:Loop) (c:Code) (cs:List Code) (k:Nat):HObj:=qW l (.loop (sA r c cs k))
abbrev pV (l:Nat) (r:Loop):HObj:=qW l (.loop (tZ r))
abbrev jp (d:Nat):HObj:=qW d (.deferred (some []))
section
variable {P:Program} {N:Sz} {w0:World} {V:View} {H:List HObj} {M:List (Nat×Value)} {ops:Array Oper} {Q:Exit->Act->World->Prop} {rest:List Oper} {o:Oper} {R:Ending->World->Prop}
theorem qS (W:World) (l:Nat) (o:Obj):W.grownBy (W.putObj l o) (some l) :=
 ⟨rfl,rfl,rfl,by simp,λk _ hk=>World.putObj_heap_other (λe=>hk (by rw[e]))⟩
theorem Hp.putObj {w:World} (h:Hp w0 V H w) {i b:Nat} {o:Obj} (hi:nth H i=some (qW b o)) (o':Obj):Hp w0 V (H.set i (qW b o')) (w.putObj b o'):=by rw[i9] at hi;have hm:w.heap[b]? = some o:=h.objs _ (a_ hi);exact h.turn hi (qS w b o') (World.putObj_heap_same (jr hm)) (λb' hb'=>.inl hb')
theorem Hp.obj {w:World} (h:Hp w0 V H w) {i b:Nat} {o:Obj} (hi:nth H i=some (qW b o)):w.heap[b]? = some o:=by rw[i9] at hi;exact h.objs _ (a_ hi)
theorem Hp.newObj {w:World} (h:Hp w0 V H w) (o:Obj):Hp w0 V (qW w.heap.size o::H) (w.alloc o) :=
 h.fresh_obj _ (World.grownBy_alloc w o none) (World.alloc_heap_new w o) (λb hb=>by injection hb with hb;exact Nat.le_of_eq hb)
theorem T.qI {l:Nat} {r:Loop} {c:Code} {cs:List Code} {body:Code} (i:Nat) (H':List HObj) (hi:nth H i=some (jy l r c cs 0)) (hH:H.set i (pV l r)=H')
 (h:T N w0 V H' M (body.wpIn (RF (some l)) 0 P (roundPost P l R))) :
 T N w0 V H M (λa₁ w₁=>∃w₂,(Instr.beginRound l).run P w₁=.ok () w₂/\body.wpIn (RF (some l)) 0 P (roundPost P l R) a₁ w₂):=λa w hf hh =>
 ⟨_,run_beginRound (hh.obj hi) rfl,h _ _ hf (hH▸hh.putObj hi _)⟩
theorem T.nV {l:Nat} {r:Loop} (c:Code) (cs:List Code) (i:Nat) (H':List HObj) (hi:nth H i=some (pV l r)) (hH:H.set i (jy l r c cs 0)=H')
 (h:∀w,Hp w0 V H' w->R (.returned (.bool true)) w):T N w0 V H M (roundPost P l R .normal):=λa w hf hh =>
 ⟨_,_,run_endRound none (hh.obj hi),h _ (hH▸hh.putObj hi _)⟩
theorem T.rj {l:Nat} {r:Loop} {id:Nat} (c:Code) (cs:List Code) (k i:Nat) (H':List HObj) (hi:nth H i=some (pV l r)) (hk:pick c cs k=.exit id) (hH:H.set i (jy l r c cs (k + 1))=H')
 (h:∀w,Hp w0 V H' w->R (.returned (.bool false)) w):T N w0 V H M (roundPost P l R (.exit id)):=λa w hf hh=>by
 refine⟨_,_,run_endRound (some (.exit id)) (hh.obj hi),h _ ?_⟩;have e:sA r c cs (k + 1) = { tZ r with state:=.done,pending:=some (.exit id) }:=by rw[<-hk];rfl
 rw[<-hH];show Hp w0 V (H.set i (qW l (.loop (sA r c cs (k + 1))))) _;rw[e];exact hh.putObj hi _
theorem T.rW {l:Nat} {r:Loop} (c:Code) (cs:List Code) (k i:Nat) (H':List HObj) (hi:nth H i=some (pV l r)) (hk:pick c cs k=.ret) (hH:H.set i (jy l r c cs (k + 1))=H')
 (h:∀w,Hp w0 V H' w->R (.returned (.bool false)) w):T N w0 V H M (roundPost P l R .ret):=λa w hf hh=>by
 refine⟨_,_,run_endRound (some .ret) (hh.obj hi),h _ ?_⟩;have e:sA r c cs (k + 1) = { tZ r with state:=.done,pending:=some .ret }:=by rw[<-hk];rfl
 rw[<-hH];show Hp w0 V (H.set i (qW l (.loop (sA r c cs (k + 1))))) _;rw[e];exact hh.putObj hi _
theorem T.lh {k:Act->World->Prop} {id:Nat} (h:T N w0 V H M (Q (.exit id))):T N w0 V H M (Exit.then k Q (.exit id)):=λa w hf hh=>h a w hf hh
theorem T.rY {id id':Nat} (hne:Nat.beq id' id=false) (h:T N w0 V H M (Q (.exit id'))):T N w0 V H M (Exit.inBlock id Q (.exit id')):=λa w hf hh=>by show (if id'=id then Q .normal a w else Q (.exit id') a w);rw[if_neg (λe=>by subst e;simp at hne)];exact h a w hf hh
theorem T.tg {k:Act->World->Prop} (h:T N w0 V H M (Q .ret)):T N w0 V H M (Exit.then k Q .ret):=λa w hf hh=>h a w hf hh
theorem T.rX {id:Nat} (h:T N w0 V H M (Q .ret)):T N w0 V H M (Exit.inBlock id Q .ret):=λa w hf hh=>h a w hf hh
theorem T.ko {k:Act->World->Prop} (h:T N w0 V H M k):T N w0 V H M (Exit.then k Q .normal):=λa w hf hh=>h a w hf hh
theorem T.kP {id:Nat} (h:T N w0 V H M (Q .normal)):T N w0 V H M (Exit.inBlock id Q .normal):=λa w hf hh=>h a w hf hh
def W1R (rl:Option Nat) (P:Program) (Q:Exit->Act->World->Prop) (ops:Array Oper) (o:Oper) (N:Sz) (w0:World) (V:View) (H:List HObj) (M:List (Nat×Value)) (K:Act->World->Prop):Prop:=∀a w,Fr N M a->Hp w0 V H w->Region.wanted o (yielded ops a.tmps)=true/\o.wpIn (RF rl) 0 P a w K Q
theorem T.sS {rl:Option Nat} (h:W1R rl P Q ops o N w0 V H M (wpListIn (RF rl) 0 P ops Q rest)):T N w0 V H M (wpListIn (RF rl) 0 P ops Q (o::rest)):=λa w hf hh =>
 oP (h a w hf hh).1 (h a w hf hh).2
theorem W1.j5 {rl:Option Nat} {K:Act->World->Prop} (h:W1 P Q ops o N w0 V H M K) (hd:iB o.op=true:=by kernel_rfl):W1R rl P Q ops o N w0 V H M K:=λa w hf hh =>
 ⟨(h a w hf hh).1,uU hd (h a w hf hh).2⟩
theorem W1R.oT {x y:Operand} {tys:Array TypeId} {v:Value} {nn p:Nat} {M0:List (Nat×Value)} {assign body c:Code} {cs:List Code} {r:Loop} {K:Act->World->Prop} (i l:Nat) (I:Value->World->Prop)
 (hi:nth H i=some (jy l r c cs 0)) (hps:r.params = #[p]) (ha:r.assign=assign) (hb:r.body=body) (hfr:Fr ⟨nn,[]⟩ M0 { tmps:=r.tmps,defers:=[] }) (hp:Nat.blt p nn=true)
 (hc:okO N ops M o=true) (ho:o.op=.call { callee:=.value x,args:=#[y],argTypes:=tys }) (hx:evM M x=.func (.yield l) #[] #[]) (hv:evM M y=v)
 (hround:T ⟨nn,[]⟩ w0 V H (ic (some p) v M0) (assign.wpIn (RF (some l)) 0 P (Exit.then (λa₁ w₁=>∃w₂,(Instr.beginRound l).run P w₁=.ok () w₂/\body.wpIn (RF (some l)) 0 P (roundPost P l (λe w'=>∃u,e=.returned u/\I u w')) a₁ w₂) (λ_ _ _=>False))))
 (k:∀u w',I u w'->∃V' H',Hp w0 V' H' w'/\T N w0 V' H' (ic o.dst u M) K):W1R none P Q ops o N w0 V H M K:=λa w hf hh=>by
 obtain⟨h1,_,_,h4⟩:=iP hc;refine⟨iM hf h1,λ_ _=>trivial,?_⟩;rw[Oper.semAt_eq _ _ _ (qk (by rw[ho];rfl)),ja hc hf];have hrun:(execOp (evM M) o).run P w=.ok (.round l r.fn ((r.params.zip #[v]).foldl (λt (p,a)=>t.setIfInBounds p a) r.tmps) r.assign r.body) w:=by have hy:=run_yield (P:=P) (args:=#[v]) (hh.obj hi) (by show #[v].size=r.params.size;rw[hps];rfl);simp only[execOp,ho,resolve,hx,Sem.run_bind];simp[invoke,go_sem,hv,hy];exact⟨rfl,rfl,rfl,rfl⟩
 rw[hrun,Oper.uponIn_round];refine⟨λh=>(by cases h),?_⟩;have hfr':Fr ⟨nn,[]⟩ (ic (some p) v M0) { tmps:=(r.params.zip #[v]).foldl (λt (p,a)=>t.setIfInBounds p a) r.tmps,defers:=[] }:=by rw[hps];simpa[Act.put] using hfr.put (dst:=some p) (by exact hp) v
 have hround':RoundIn (RF none) 0 P l r.fn ((r.params.zip #[v]).foldl (λt (p,a)=>t.setIfInBounds p a) r.tmps) r.assign r.body w (λe w'=>∃u,e=.returned u/\I u w'):=by rw[ha,hb];exact roundIn_of_wpIn (F:=RF none) trivial (hround _ _ hfr' hh)
 refine hround'.mono ?_;rintro e w' ⟨u,rfl,hu⟩;obtain⟨V',H',hh',ht⟩:=k u w' hu;exact ht _ _ (hf.put h4 u) hh'
section
variable {rl:Option Nat} {fuel:Nat} {listed:Array Bool}
theorem T.uX {id:Nat} {l:List Oper} (hm:P.follows .mixedOrders=true)
 (h:T N w0 V H M (wpAnyIn (RF rl) 0 P .any l.toArray Q l.length (Array.replicate l.length false))):T N w0 V H M ((Code.region id l.toArray true).wpIn (RF rl) 0 P Q) :=
 λa w hf hh=>wpIn_region_any hm (by simpa using h a _ hf hh.drew)
def TBI (rl:Option Nat) (P:Program) (Q:Exit->Act->World->Prop) (ops:Array Oper) (N:Sz) (w0:World) (V:View) (H:List HObj) (M:List (Nat×Value)) (fuel:Nat) (listed:Array Bool) (i:Nat):Prop:=∀o,ops[i]? = some o->T N w0 V H M (wpOpIn (RF rl) 0 P ops Q i (wpAnyIn (RF rl) 0 P .any ops Q fuel (listed.setIfInBounds i true)))
theorem TI.uz (hr:Region.ready .any ops listed=[]) (h:T N w0 V H M (Q .normal)):T N w0 V H M (wpAnyIn (RF rl) 0 P .any ops Q fuel listed):=λa w hf hh=>by
 cases fuel with
 |zero=>exact⟨hr,h a w hf hh⟩
 |succ n=>exact⟨λ_=>h a w hf hh,λi hi=>by rw[hr] at hi;cases hi⟩
theorem TI.pN (n:Nat) (l':Array Bool) (I:Act->World->Prop) (h2:∀a w,I a w->wpAnyIn (RF rl) 0 P .any ops Q n l' a w)
 (h1:(∀a w,I a w->wpAnyIn (RF rl) 0 P .any ops Q n l' a w)->T N w0 V H M (wpAnyIn (RF rl) 0 P .any ops Q fuel listed)):T N w0 V H M (wpAnyIn (RF rl) 0 P .any ops Q fuel listed):=h1 h2
theorem TI.mN {l':Array Bool} {I:Act->World->Prop} (h2:∀a w,I a w->wpAnyIn (RF rl) 0 P .any ops Q fuel l' a w) (he:listed=l') (h:∀a w,Fr N M a->Hp w0 V H w->I a w):T N w0 V H M (wpAnyIn (RF rl) 0 P .any ops Q fuel listed):=λa w hf hh=>by subst he;exact h2 a w (h a w hf hh)
theorem TI.tT (rs:List Nat) (hr:Region.ready .any ops listed=rs) (hne:rs.isEmpty=false) (h:TBs (TBI rl P Q ops N w0 V H M fuel listed) rs) :
 T N w0 V H M (wpAnyIn (RF rl) 0 P .any ops Q (fuel + 1) listed):=λa w hf hh=>by
 refine⟨λe=>(by rw[hr] at e;rw[e] at hne;cases hne),λi hi=>?_⟩;have hlt:i<ops.size:=by have h1:=(List.mem_filter.1 hi).1;simpa using h1
 rw[hr] at hi;exact h.get i hi ops[i] (Array.getElem?_eq_getElem hlt) a w hf hh
theorem TI.br {i:Nat} {o:Oper} (ho:ops[i]? = some o) (h:W1R rl P Q ops o N w0 V H M (wpAnyIn (RF rl) 0 P .any ops Q fuel (listed.setIfInBounds i true))):TBI rl P Q ops N w0 V H M fuel listed i:=λo' ho' a w hf hh=>by unfold wpOpIn;simp only[ho];rw[if_pos (h a w hf hh).1];exact(h a w hf hh).2
theorem TI.no {i:Nat} {o:Oper} (ho:ops[i]? = some o) (hg:gd ops M o.guard=some false) (hd:nT N o.dst=true)
 (h:T N w0 V H (ic o.dst undef M) (wpAnyIn (RF rl) 0 P .any ops Q fuel (listed.setIfInBounds i true))):TBI rl P Q ops N w0 V H M fuel listed i:=λo' ho' a w hf hh=>by
 unfold wpOpIn;simp only[ho];rw[if_neg (by rw[iM hf hg];simp)];exact⟨λ_ _=>trivial,h _ _ (hf.put hd undef) hh⟩
end
theorem T.qK {nn:Nat} {g:Operand} {ps:Array Tmp} {assign body:Code} {gf:FuncId} {lb:List Value} (c:Code) (cs:List Code) (J:Nat->Nat->Loop->World->Prop) (hk:pr M g=true) (hg:evM M g=.func (.func gf) #[] lb.toArray)
 (eg:∀args w,(callFunc gf args).run P w=.ok (.enter gf args) w)
 (hcall:∀(l d:Nat) (r:Loop),r.params=ps->r.assign=assign->r.body=body->Fr ⟨nn,[]⟩ M { tmps:=r.tmps,defers:=[] } ->
  ∀w1,Hp w0 V (jy l r c cs 0::jp d::H) w1->Calls P gf (Value.func (.yield l) #[] #[]::lb).toArray w1 (λe w2=>∃v,e=.returned v/\J l d r w2))
 (k:∀l d r w2,J l d r w2->∃V' H' n,Hp w0 V' (jy l r c cs n::H') w2/\lz n (T ⟨nn,[d]⟩ w0 V' H' M (Q .normal)) (λn=>T ⟨nn,[d]⟩ w0 V' H' M ((pick c cs n).wpIn (RF none) 0 P Q))) :
 T ⟨nn,[]⟩ w0 V H M ((Code.rangeFunc g ps assign body).wpIn (RF none) 0 P Q):=λa w hf hh=>by
 refine wpIn_rangeFunc λfn _=>?_;have hr0:(RF none).round=none:=rfl;rw[hr0];let r0:Loop:={ state:=.ready,pending:=none,fn,tmps:=a.tmps,params:=ps,assign,body,defers:=w.heap.size };let w1:World:=(w.alloc (.deferred (some []))).alloc (.loop r0)
 refine⟨w.heap.size + 1,[{ target:=.collected w.heap.size,args:=#[] }],w1,{ target:=.fn (.func gf) lb.toArray,args:=#[.func (.yield (w.heap.size + 1)) #[] #[]] },w1,gf,
  #[.func (.yield (w.heap.size + 1)) #[] #[]]++lb.toArray,w1,run_enterLoop_outer _ _ _ _ _,?_,λ_ _=>trivial,?_,λh=>(by cases h),?_⟩
 . simp only[resolve,hf.eval hk,hg];simp[go_sem]
 . simp[invoke,go_sem,eg]
 . have hh1:=(hh.newObj (.deferred (some []))).newObj (.loop r0);have hs:(w.alloc (.deferred (some []))).heap.size=w.heap.size + 1:=by simp
   rw[hs] at hh1;have hc:=hcall (w.heap.size + 1) w.heap.size r0 rfl rfl rfl ⟨rfl,hf.size,hf.get⟩ w1 hh1;have he:(#[Value.func (.yield (w.heap.size + 1)) #[] #[]]++lb.toArray)=(Value.func (.yield (w.heap.size + 1)) #[] #[]::lb).toArray:=s_;rw[he];refine rp (hc.mono ?_);rintro e w2 ⟨v,rfl,hj⟩;obtain⟨V',H',n,hh',ht⟩:=k _ _ _ _ hj;have hi:nth (jy (w.heap.size + 1) r0 c cs n::H') 0=some (jy (w.heap.size + 1) r0 c cs n):=rfl;have hf':Fr ⟨nn,[w.heap.size]⟩ M { a with defers:=[{ target:=.collected w.heap.size,args:=#[] }]++a.defers }:=⟨by rw[hf.defers];rfl,hf.size,hf.get⟩
   cases n with
   |zero=>exact⟨none,_,run_endLoop (hh'.obj hi) (by simp[sA]),ht _ _ hf' ((hh'.putObj hi _).sub (.cons _ (List.Sublist.refl _)))⟩
   |succ n=>exact⟨some (pick c cs n),_,run_endLoop (hh'.obj hi) (by simp[sA]),ht _ _ hf' ((hh'.putObj hi _).sub (.cons _ (List.Sublist.refl _)))⟩
end
section
variable {P:Program} {N:Sz} {w0 w:World} {V:View} {H:List HObj} {M:List (Nat×Value)} {fn:Func} {R:Ending->World->Prop} {c:Code} {f:FuncId}
theorem T.pL {n:Nat} {l:List Value} (hf:P.funcs[f]? = some fn) (hb:fn.body=some c) (hN:fn.ntmps=n) (hn:Nat.ble l.length n=true)
 (h:T ⟨n,[]⟩ w (vw w) [] (ro 0 l) (c.wpIn (RF none) 0 P (bodyPostM (RF none) 0 P fn R))):Calls P f l.toArray w R:=by
 subst hN;refine callsIn_wide.1 (callsIn_of_wp_marks (F:=RF none) (n:=0) hf hb trivial (h _ w (Fr.start l.toArray fn.ntmps (by simpa using Nat.le_of_ble_eq_true hn) _ λt v hv=>?_) (Hp.start w)));have:=(oD l 0 t v hv).2;simpa using this
theorem T.m7 {n:Nat} (H2:List HObj) (ds:List Nat) (hs:∀w,Hp w0 V H w->Hp w0 V (ds.map jp++H2) w) (h:T ⟨n,[]⟩ w0 V H2 M (λa w=>bodyPost P fn R .ret a w)):T ⟨n,ds⟩ w0 V H M (bodyPostM (RF none) 0 P fn R .ret):=λa w hf hh=>by
 show LeavesInM (RF none) 0 P fn a.tmps R a.defers .returning w;rw[hf.defers];have hf':Fr ⟨n,[]⟩ M { a with defers:=[] }:=⟨rfl,hf.size,hf.get⟩
 have key:∀(ds:List Nat) (w:World),Hp w0 V (ds.map jp++H2) w->LeavesInM (RF none) 0 P fn a.tmps R (ds.map uf) .returning w:=by
  intro ds
  induction ds with
  |nil=>exact λw hw=>(h _ w hf' hw).2
  |cons d ds ih=>intro w hw;have hi:nth (jp d::(ds.map jp++H2)) 0=some (jp d):=rfl;exact⟨by simp,.inl ⟨d,_,rfl,run_takeDeferred (hw.obj hi),ih _ ((hw.putObj hi (.deferred none)).sub (.cons _ (List.Sublist.refl _)))⟩⟩
 exact key ds w (hs w hh)
end
end
end Go.Proofs.YtnofgfobljadbaaGreat
