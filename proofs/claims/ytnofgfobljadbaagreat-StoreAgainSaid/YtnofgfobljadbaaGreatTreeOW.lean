/- Recursion, gone through in place. Its conditions: none; every theorem holds for every program of the model. -/
import Derived.Test.YtnofgfobljadbaaGreatOpsW
import Derived.MapKept
import Derived.RangeFuncLeaves
import Derived.RangeFuncRecord
open List renaming mem_cons_self→a_, mem_cons_of_mem→d_, mem_of_getElem?→f_, mem_cons→g_, length_replicate→l_, getElem?_eq_some_iff→p_, replicate→q_, eq_nil_of_length_eq_zero→t_, getElem?_set_self→v_, mem_append_left→x_, perm_middle→y_, length_set→B_, getElem?_set→C_, append_assoc→D_, mem_append→E_, pairwise_append→H_, mem_append_right→I_, take_of_length_le→J_, perm_append_comm→L_, set_set→M_, getElem?_eq_getElem→N_, getElem?_append_left→P_
open Sum renaming inr→i_
open Nat renaming le_refl→j_, mul_one→F_, zero_mul→G_, lt_or_ge→K_, le_of_ble_eq_true→O_
open Array renaming getElem?_eq_getElem→u_
open Option renaming some→z_, map_eq_some_iff→Q_
namespace Go.Proofs.YtnofgfobljadbaaGreat
set_option linter.unusedSimpArgs false
set_option linter.unusedVariables false
section
open Go.RowKit
section
variable {P:Program} {N:Sz} {w0:World} {V:View} {H:List HObj} {M:List (Nat×Value)} {ops:Array Oper} {Q:Exit->Act->World->Prop} {o:Oper} {K:Act->World->Prop} {t kt et:TypeId} {b:Nat} {l:List (Int×ByteArray)}
end
end
section
open Go.RowKit
section
variable {P:Program} {M:List (Nat×Value)} {o:Oper} {N:Sz} {w0 w:World} {V:View} {H:List HObj}
end
section
variable {P:Program} {M:List (Nat×Value)} {o:Oper} {N:Sz} {w0 w:World} {V:View} {H:List HObj} {α:Type} {E:Enc α} {φ:Act->World->Prop}
theorem T.tZ {b t n:Nat} {x:α} {v:Value} (hE:∀V,E.rep V [v] x) (hs:E.size=1) (h0:0<n) (hn:n<=maxLen)
 (h:T N w0 V (row t E (some ⟨b,0,none⟩) n (q_ n x)::H) M φ):T N w0 V (box b t (q_ n v)::H) M φ:=λa w hf hh=>by
 refine h a w hf ?_;have hbox:w.heap[b]? = some (.cells (q_ n v).toArray t (0,0)):=hh.objs _ (a_ ..);have hblk:jd (some (⟨b,0,none⟩:Addr)) n=some b:=by unfold jd;rw[if_neg o_];rfl
 refine { os:=hh.os,tape:=hh.tape,output:=hh.output,size:=hh.size,view:=hh.view,base:=hh.base,objs:=λy hy=>?_,apart:=λy hy b' hb'=>?_,sep:=?_ }
 . rcases g_.1 hy with rfl|hy
   . refine⟨by rw[l_];exact j_ _,hn,.inr ⟨b,_,_,_,⟨rfl,hbox,λ_=>rfl,λi _ h=>by simp at h,?_,rfl,?_⟩⟩⟩
     . rw[List.size_toArray,l_,hs,F_]
     . rw[l_,hs,F_];show iH V E ((q_ n v).take n) (q_ n x);rw[J_ (by rw[l_];exact j_ _)];refine⟨by rw[l_,l_,hs,F_],λk y hk=>?_⟩;have hkn:k<n:=(by have:=(p_.1 hk).1;rwa[l_] at this);have hyx:y=x:=List.eq_of_mem_replicate (f_ hk);subst hyx;rw[hs,F_];have:((q_ n v).drop k).take 1=[v]:=(by rw[List.drop_replicate,List.take_replicate,Nat.min_eq_left o_];rfl);rw[this];exact hE V
   . exact hh.objs y (d_ _ hy)
 . rcases g_.1 hy with rfl|hy
   . have e:b=b':=z_.inj (hblk.symm.trans hb');subst e;exact hh.apart _ (a_ ..) b rfl
   . exact hh.apart y (d_ _ hy) b' hb'
 . have hs:=hh.sep;rw[List.pairwise_cons] at hs ⊢;refine⟨λy hy b' hb'=>?_,hs.2⟩;have e:b=b':=z_.inj (hblk.symm.trans hb');subst e;exact hs.1 y hy b rfl
theorem W1.rm {ops:Array Oper} {Q:Exit->Act->World->Prop} {K:Act->World->Prop} (h:T N w0 V H M (λa w=>Region.wanted o (yielded ops a.tmps)=true/\o.wp P a w K Q)):W1 P Q ops o N w0 V H M K:=h
theorem W1.rn {ops:Array Oper} {Q:Exit->Act->World->Prop} {K:Act->World->Prop} (h:W1 P Q ops o N w0 V H M K):T N w0 V H M (λa w=>Region.wanted o (yielded ops a.tmps)=true/\o.wp P a w K Q):=h
theorem Hp.row_len {p:Bool} {t:TypeId} {A:Option Addr} {c:Nat} {l:List α} (h:Hp w0 V H w) {i:Nat} (hi:nth H i=some (kJ p t E A c l)):l.length<=c:=by rw[jJ] at hi;exact(h.objs _ (f_ hi)).1
theorem pU {t e:TypeId} {x i:Operand} {b s n:Nat} {k:IntKind} {iv:Int} {l:List α} (ho:o.op=.indexAddr t x i) (hx:evM M x=.pointer (some ⟨b,0,none⟩)) (hi:evM M i=.int k iv)
 (ht:P.underlying t=some (.array n e)) (hs:(sizeOf e).run P w=.ok s w) (h0:0<=iv) (h1:iv<(l.length:Int)) (hl:l.length<=n) :
 (execOp (evM M) o).run P w=.ok (.value (.pointer (some ((iz (some ⟨b,0,none⟩)).add (iv.toNat * s))))) w:=by
 have h2:iv<(n:Int):=o_;simp[execOp,ho,hx,hi,Instr.indexAt,asIntOf,run_underlying ht,hs,h0,h2,Instr.sureAddr,iz]
end
def eAt {α:Type} (w0:World) (E:Enc α):Enc α where
 size:=E.size
 rep:=λV cs x=>E.rep (made w0 V) cs x
 mono:=λhv h=>E.mono (jC hv) h
 len:=λh=>E.len h
 one:=λh=>E.one h
theorem hJ.ofAt {α:Type} {E:Enc α} {w0:World} {V:View} {A:Option Addr} {c:Nat} {l:List α} (h:hJ V (eAt w0 E) A c l):hJ V E A c l:=by obtain⟨h1,h2,xs,⟨h3,h4⟩,h5⟩:=h;exact⟨h1,h2,xs,⟨h3,λk x hx=>E.mono (iq _ _) (h4 k x hx)⟩,h5⟩
section
variable {N:Sz} {M:List (Nat×Value)} {w0 w:World} {V:View} {H H':List HObj} {α:Type} {E:Enc α} {φ:Act->World->Prop} {p:Bool} {e:TypeId} {A:Option Addr} {c:Nat} {l:List α}
theorem jQ {x:α} {b:Nat} {t:TypeId} {cs:List Value} (hh:Hp w0 V H w) {i:Nat} (hi:nth H i=some (box b t cs)) (hr:E.rep V cs x):∃news,iH V E news [x]/\nF (vw w) (some ⟨b,0,none⟩) news:=by
 refine⟨cs,⟨?_,λk y hk=>?_⟩,sc λj=>?_⟩
 . rw[E.len hr];simp
 . cases k with
   |zero=>obtain rfl:x=y:=(by simpa using hk);rw[G_,List.drop_zero,J_ (by rw[E.len hr];exact j_ _)];exact hr
   |succ k=>simp at hk
 . rw[jJ] at hi;exact hh.cell_box hi j
theorem Hp.row_elem {i k:Nat} {x:α} (h:Hp w0 V H w) (hi:nth H i=some (kJ p e (eAt w0 E) A c l)) (hk:l[k]? = some x) :
 ∃cs,E.rep (made w0 V) cs x/\∀j u,cs[j]? = some u->w.cell? (((iz A).add (k * E.size)).add j)=some u:=by
 rw[jJ] at hi;obtain⟨h1,h2,h3⟩:=h.objs _ (f_ hi);rcases h3 with h3|⟨g,cur,fz,xs,h3⟩
 . have hl:l=[]:=t_ o_;subst hl;simp at hk
 . have hs:iH V (eAt w0 E) xs l:=h3.rep;refine⟨_,hs.2 k x hk,λj u hu=>?_⟩;rw[List.getElem?_take] at hu;split at hu
   . rw[List.getElem?_drop] at hu;obtain⟨a,rfl,hc⟩:=h3.cells _ u hu;rw[mE];exact hc
   . cases hu
theorem W1.qr {P:Program} {o:Oper} {ops:Array Oper} {Q:Exit->Act->World->Prop} {K:Act->World->Prop} (Ψ:Value->Prop) (hc:okO N ops M o=true)
 (hv:∀w,Hp w0 V H w->∃v,(execOp (evM M) o).run P w=.ok (.value v) w/\Ψ v) (h:∀v,Ψ v->T N w0 V H (ju o.dst v M) K):W1 P Q ops o N w0 V H M K:=λa w hf hh=>by
 obtain⟨h1,_,_,h4⟩:=jk hc;refine⟨jb hf h1,?_⟩;obtain⟨v,hrun,hp⟩:=hv w hh;unfold Oper.wp;rw[jG hc hf,hrun];exact h v hp _ _ (hf.put h4 v) hh
theorem T.tG {b t:Nat} {x:α} {cs:List Value} (i:Nat) (H':List HObj) (hi:nth H i=some (box b t cs)) (hr:E.rep V cs x) (hs:0<1) (hH:H.set i (row t E (some ⟨b,0,none⟩) 1 [x])=H')
 (h:T N w0 V H' M φ):T N w0 V H M φ:=λa w hf hh=>by
 rw[jJ] at hi;have hbox:w.heap[b]? = some (.cells cs.toArray t (0,0)):=hh.objs _ (f_ hi);have hlen:=E.len hr;refine h a w hf (hH▸hh.turn (o:=none) hi ⟨rfl,rfl,rfl,j_ _,λ_ _ _=>rfl⟩ ?_ (λb' hb'=>.inl ?_))
 . refine⟨j_ _,by decide,.inr ⟨b,_,_,cs,⟨rfl,hbox,λ_=>rfl,λi _ h=>by simp at h,by simp[hlen],by simp[<-hlen],?_⟩⟩⟩;refine⟨by rw[hlen];simp,λk y hk=>?_⟩
   cases k with
   |zero=>obtain rfl:x=y:=(by simpa using hk);rw[G_,List.drop_zero,J_ (by rw[hlen];exact j_ _)];exact hr
   |succ k=>simp at hk
 . have e:jd (some (⟨b,0,none⟩:Addr)) 1=some b:=rfl;exact e.symm.trans hb'
theorem Hp.freezeM (h:Hp w0 V H w) (i:Nat) (hi:nth H i=some (kJ p e (eAt w0 E) A c l)) (hH:H.eraseIdx i=H'):∃V',View.le V V'/\Hp w0 V' H' w/\hJ (made w0 V') E A c l:=by
 obtain⟨V',h1,h2,h3,_⟩:=h.freeze i hi hH;refine⟨V',h1,h2,?_⟩;obtain⟨k1,k2,xs,hr,hl⟩:=h3;refine⟨k1,k2,xs,⟨hr.1,hr.2⟩,λj u hu=>?_⟩;obtain⟨a,ha,hc⟩:=hl j u hu;refine⟨a,ha,?_⟩;rw[jJ] at hi;obtain⟨g1,g2,g3⟩:=h.objs _ (f_ hi);rcases g3 with g3|⟨g,cur,fz,ys,hrow⟩
 . exfalso;have hl0:l=[]:=t_ o_;subst hl0;have:=hr.1;rw[List.length_nil,G_] at this;rw[t_ this] at hu;simp at hu
 . have hag:a=⟨g,0,none⟩:=z_.inj (ha.symm.trans hrow.adr);subst hag
   have hnew:¬ g<w0.heap.size:=λhlt=>by
    have hw:(vw w0) g=some w0.heap[g]:=u_ hlt;have hc0:c≠0:=λhc0=>by have hl0:l=[]:=t_ o_;subst hl0;have:=hr.1;rw[List.length_nil,G_] at this;rw[t_ this] at hu;simp at hu
    have:=h.apart _ (f_ hi) g (by show jd A c=some g;unfold jd;rw[if_neg hc0,hrow.adr];rfl);rw[h.base g _ hw] at this;cases this
   have e1:((⟨g,0,none⟩:Addr).add j).block=g:=mn _ _;unfold View.cell at hc ⊢;rw[e1] at hc ⊢;unfold made;rw[if_neg hnew];exact hc
theorem T.kr (i:Nat) (hi:nth H i=some (kJ p e (eAt w0 E) A c l)) (hH:H.eraseIdx i=H') (h:∀V',View.le V V'->hJ (made w0 V') E A c l->T N w0 V' H' M φ):T N w0 V H M φ:=λa w hf hh=>by obtain⟨V',h1,h2,h4⟩:=hh.freezeM i hi hH;exact h V' h1 h4 a w hf h2
end
theorem T.me {P:Program} {fn:Func} {R:Ending->World->Prop} {N:Sz} {M:List (Nat×Value)} {w0:World} {V:View} {H:List HObj} (hr:fn.results = #[]) (h:∀w,Hp w0 V H w->R (.returned (.tuple #[])) w) (hN:N.ds=[]:=by rfl):T N w0 V H M (bodyPost P fn R .normal) :=
 λa w hf hh=>⟨by rw[hf.defers,hN];rfl,_,by simp[results,hr],h w hh⟩
end
structure Dbuild_low where
 i:Int
 s:DSpot
 deriving DecidableEq
def Dbuild_low.cells (x:Dbuild_low):List Value:=[.int .i64 x.i,.int .i64 x.s.key.pfs,.int .i64 x.s.key.obj,.int .i64 x.s.key.off,.int .i64 x.s.made]
def ebuild_low:Enc Dbuild_low:=m8 5 Dbuild_low.cells (λ_=>rfl) (λ_=>jz rfl)
section
open Go.RowKit
def qc {σ ρ:Type} (f:(σ->Option ρ)->σ->Option ρ):Nat->σ->Option ρ
 |0,_=>none
 |n + 1,s=>f (qc f n) s
theorem lY {σ ρ:Type} {f:(σ->Option ρ)->σ->Option ρ} (Q:σ->ρ->Prop):∀ {n:Nat} {s:σ} {r:ρ},qc f n s=some r ->
 (∀self:σ->Option ρ,(∀s r,self s=some r->Q s r)->∀s r,f self s=some r->Q s r)->Q s r
 |0,_,_,h,_=>by cases h
 |n + 1,s,r,h,step=>step (qc f n) (λs r h=>lY Q h step) s r h
section
variable {P:Program} {N:Sz} {w0:World} {V:View} {H:List HObj} {M:List (Nat×Value)} {ops:Array Oper} {Q:Exit->Act->World->Prop} {o:Oper} {K:Act->World->Prop} {fn:Func} {c:Code} {R:Ending->World->Prop}
theorem W1.qo (f:FuncId) (l:List Value) (I:Value->World->Prop) (hc:okO N ops M o=true) (hv:∀w,(execOp (evM M) o).run P w=.ok (.enter f l.toArray) w)
 (hf:∀w,Hp w0 V H w->Calls P f l.toArray w (λe w'=>∃v,e=.returned v/\I v w'))
 (k:∀v w',I v w'->∃V' H',Hp w0 V' H' w'/\T N w0 V' H' (ju o.dst v M) K):W1 P Q ops o N w0 V H M K:=λa w hfr hh=>by
 obtain⟨h1,_,_,h4⟩:=jk hc;refine⟨jb hfr h1,?_⟩;unfold Oper.wp;rw[jG hc hfr,hv w,Oper.upon_enter];refine(hf w hh).mono ?_;rintro e w' ⟨v,rfl,hi⟩;obtain⟨V',H',hh',ht⟩:=k v w' hi;exact ht _ _ (hfr.put h4 v) hh'
theorem T.iQ {N:Nat} {w:World} {l:List Value} {f:FuncId} (hf:P.funcs[f]? = some fn) (hb:fn.body=some c) (hN:fn.ntmps=N) (hn:Nat.ble l.length N=true)
 (h:T ⟨N,[]⟩ w0 V H (rR 0 l) (c.wpIn (RF none) 0 P (bodyPost P fn R))) (hh:Hp w0 V H w):Calls P f l.toArray w R:=by
 subst hN;refine calls_of_wp hf hb (wpIn_wide.1 (h _ w (Fr.start l.toArray fn.ntmps (by simpa using O_ hn) _ λt v hv=>?_) hh));have:=(pp l 0 t v hv).2;simpa using this
end
end
section
open Go.RowKit
def j5 {α:Type} (n:Nat) (a:α) (b:Nat->α):α:=match n with
 |0=>a
 |k + 1=>b k
theorem iK {α:Type} (a:α) (b:Nat->α):j5 0 a b=a:=rfl
theorem iO {α:Type} (k:Nat) (a:α) (b:Nat->α):j5 (k + 1) a b=b k:=rfl
def isz:Nat->Bool
 |0=>true
 |_ + 1=>false
def rC (b:Nat) (o:Obj):HObj where
 own:=λb'=>some b=some b'
 ok:=λ_ w=>w.heap[b]? = some o
 loc:=λ_ w w' h hb=>by rw[h b rfl];exact hb
 mono:=λ_ _ _ _ h=>h
 lt:=λ_ w b' h hb=>by injection hb with hb;subst hb;exact jU h
def pick:Code->List Code->Nat->Code
 |c,[],_=>c
 |c,_::_,0=>c
 |_,c'::cs,k + 1=>pick c' cs k
theorem qI (c:Code) (k:Nat):pick c [] k=c:=by cases k <;> rfl
theorem rh (c c':Code) (cs:List Code):pick c (c'::cs) 0=c:=rfl
theorem rg (c c':Code) (cs:List Code) (k:Nat):pick c (c'::cs) (k + 1)=pick c' cs k:=rfl
def sW (r:Loop) (c:Code) (cs:List Code):Nat->Loop
 |0=>{ r with state:=.ready,pending:=none }
 |k + 1=>{ r with state:=.done,pending:=some (pick c cs k) }
def um (r:Loop):Loop:={ r with state:=.busy,pending:=none }
abbrev jf (l:Nat) (r:Loop) (c:Code) (cs:List Code) (k:Nat):HObj:=rC l (.loop (sW r c cs k))
abbrev oD (l:Nat) (r:Loop):HObj:=rC l (.loop (um r))
abbrev iL (d:Nat):HObj:=rC d (.deferred (some []))
section
variable {P:Program} {N:Sz} {w0:World} {V:View} {H:List HObj} {M:List (Nat×Value)} {ops:Array Oper} {Q:Exit->Act->World->Prop} {rest:List Oper} {o:Oper} {R:Ending->World->Prop}
theorem rx (W:World) (l:Nat) (o:Obj):W.grownBy (W.putObj l o) (some l) :=
 ⟨rfl,rfl,rfl,by simp,λk _ hk=>World.putObj_heap_other (λe=>hk (by rw[e]))⟩
theorem Hp.putObj {w:World} (h:Hp w0 V H w) {i b:Nat} {o:Obj} (hi:nth H i=some (rC b o)) (o':Obj):Hp w0 V (H.set i (rC b o')) (w.putObj b o'):=by rw[jJ] at hi;have hm:w.heap[b]? = some o:=h.objs _ (f_ hi);exact h.turn hi (rx w b o') (World.putObj_heap_same (jU hm)) (λb' hb'=>.inl hb')
theorem Hp.obj {w:World} (h:Hp w0 V H w) {i b:Nat} {o:Obj} (hi:nth H i=some (rC b o)):w.heap[b]? = some o:=by rw[jJ] at hi;exact h.objs _ (f_ hi)
theorem Hp.newObj {w:World} (h:Hp w0 V H w) (o:Obj):Hp w0 V (rC w.heap.size o::H) (w.alloc o) :=
 h.fresh_obj _ (World.grownBy_alloc w o none) (World.alloc_heap_new w o) (λb hb=>by injection hb with hb;exact Nat.le_of_eq hb)
theorem T.pd {l:Nat} {r:Loop} {c:Code} {cs:List Code} {body:Code} (i:Nat) (H':List HObj) (hi:nth H i=some (jf l r c cs 0)) (hH:H.set i (oD l r)=H')
 (h:T N w0 V H' M (body.wpIn (RF (some l)) 0 P (roundPost P l R))) :
 T N w0 V H M (λa₁ w₁=>∃w₂,(Instr.beginRound l).run P w₁=.ok () w₂/\body.wpIn (RF (some l)) 0 P (roundPost P l R) a₁ w₂):=λa w hf hh =>
 ⟨_,run_beginRound (hh.obj hi) rfl,h _ _ hf (hH▸hh.putObj hi _)⟩
theorem T.lR {l:Nat} {r:Loop} (c:Code) (cs:List Code) (i:Nat) (H':List HObj) (hi:nth H i=some (oD l r)) (hH:H.set i (jf l r c cs 0)=H')
 (h:∀w,Hp w0 V H' w->R (.returned (.bool true)) w):T N w0 V H M (roundPost P l R .normal):=λa w hf hh =>
 ⟨_,_,run_endRound none (hh.obj hi),h _ (hH▸hh.putObj hi _)⟩
theorem T.nG {l:Nat} {r:Loop} {id:Nat} (c:Code) (cs:List Code) (k i:Nat) (H':List HObj) (hi:nth H i=some (oD l r)) (hk:pick c cs k=.exit id) (hH:H.set i (jf l r c cs (k + 1))=H')
 (h:∀w,Hp w0 V H' w->R (.returned (.bool false)) w):T N w0 V H M (roundPost P l R (.exit id)):=λa w hf hh=>by
 refine⟨_,_,run_endRound (some (.exit id)) (hh.obj hi),h _ ?_⟩;have e:sW r c cs (k + 1) = { um r with state:=.done,pending:=some (.exit id) }:=by rw[<-hk];rfl
 rw[<-hH];show Hp w0 V (H.set i (rC l (.loop (sW r c cs (k + 1))))) _;rw[e];exact hh.putObj hi _
theorem T.ql {l:Nat} {r:Loop} (c:Code) (cs:List Code) (k i:Nat) (H':List HObj) (hi:nth H i=some (oD l r)) (hk:pick c cs k=.ret) (hH:H.set i (jf l r c cs (k + 1))=H')
 (h:∀w,Hp w0 V H' w->R (.returned (.bool false)) w):T N w0 V H M (roundPost P l R .ret):=λa w hf hh=>by
 refine⟨_,_,run_endRound (some .ret) (hh.obj hi),h _ ?_⟩;have e:sW r c cs (k + 1) = { um r with state:=.done,pending:=some .ret }:=by rw[<-hk];rfl
 rw[<-hH];show Hp w0 V (H.set i (rC l (.loop (sW r c cs (k + 1))))) _;rw[e];exact hh.putObj hi _
theorem T.pD {k:Act->World->Prop} {id:Nat} (h:T N w0 V H M (Q (.exit id))):T N w0 V H M (Exit.then k Q (.exit id)):=λa w hf hh=>h a w hf hh
theorem T.oJ {id id':Nat} (hne:Nat.beq id' id=false) (h:T N w0 V H M (Q (.exit id'))):T N w0 V H M (Exit.inBlock id Q (.exit id')):=λa w hf hh=>by show (if id'=id then Q .normal a w else Q (.exit id') a w);rw[if_neg (λe=>by subst e;simp at hne)];exact h a w hf hh
theorem T.qZ {k:Act->World->Prop} (h:T N w0 V H M (Q .ret)):T N w0 V H M (Exit.then k Q .ret):=λa w hf hh=>h a w hf hh
theorem T.qm {id:Nat} (h:T N w0 V H M (Q .ret)):T N w0 V H M (Exit.inBlock id Q .ret):=λa w hf hh=>h a w hf hh
theorem T.jN {k:Act->World->Prop} (h:T N w0 V H M k):T N w0 V H M (Exit.then k Q .normal):=λa w hf hh=>h a w hf hh
theorem T.jZ {id:Nat} (h:T N w0 V H M (Q .normal)):T N w0 V H M (Exit.inBlock id Q .normal):=λa w hf hh=>h a w hf hh
def W1R (rl:Option Nat) (P:Program) (Q:Exit->Act->World->Prop) (ops:Array Oper) (o:Oper) (N:Sz) (w0:World) (V:View) (H:List HObj) (M:List (Nat×Value)) (K:Act->World->Prop):Prop:=∀a w,Fr N M a->Hp w0 V H w->Region.wanted o (yielded ops a.tmps)=true/\o.wpIn (RF rl) 0 P a w K Q
theorem T.rj {rl:Option Nat} (h:W1R rl P Q ops o N w0 V H M (wpListIn (RF rl) 0 P ops Q rest)):T N w0 V H M (wpListIn (RF rl) 0 P ops Q (o::rest)):=λa w hf hh =>
 pA (h a w hf hh).1 (h a w hf hh).2
theorem W1.iT {rl:Option Nat} {K:Act->World->Prop} (h:W1 P Q ops o N w0 V H M K) (hd:jT o.op=true:=by kernel_rfl):W1R rl P Q ops o N w0 V H M K:=λa w hf hh =>
 ⟨(h a w hf hh).1,vc hd (h a w hf hh).2⟩
theorem W1R.m6 {x y:Operand} {tys:Array TypeId} {v:Value} {nn p:Nat} {M0:List (Nat×Value)} {assign body c:Code} {cs:List Code} {r:Loop} {K:Act->World->Prop} (i l:Nat) (I:Value->World->Prop)
 (hi:nth H i=some (jf l r c cs 0)) (hps:r.params = #[p]) (ha:r.assign=assign) (hb:r.body=body) (hfr:Fr ⟨nn,[]⟩ M0 { tmps:=r.tmps,defers:=[] }) (hp:Nat.blt p nn=true)
 (hc:okO N ops M o=true) (ho:o.op=.call { callee:=.value x,args:=#[y],argTypes:=tys }) (hx:evM M x=.func (.yield l) #[] #[]) (hv:evM M y=v)
 (hround:T ⟨nn,[]⟩ w0 V H (ju (some p) v M0) (assign.wpIn (RF (some l)) 0 P (Exit.then (λa₁ w₁=>∃w₂,(Instr.beginRound l).run P w₁=.ok () w₂/\body.wpIn (RF (some l)) 0 P (roundPost P l (λe w'=>∃u,e=.returned u/\I u w')) a₁ w₂) (λ_ _ _=>False))))
 (k:∀u w',I u w'->∃V' H',Hp w0 V' H' w'/\T N w0 V' H' (ju o.dst u M) K):W1R none P Q ops o N w0 V H M K:=λa w hf hh=>by
 obtain⟨h1,_,_,h4⟩:=jk hc;refine⟨jb hf h1,λ_ _=>trivial,?_⟩;rw[Oper.semAt_eq _ _ _ (qF (by rw[ho];rfl)),jG hc hf];have hrun:(execOp (evM M) o).run P w=.ok (.round l r.fn ((r.params.zip #[v]).foldl (λt (p,a)=>t.setIfInBounds p a) r.tmps) r.assign r.body) w:=by have hy:=run_yield (P:=P) (args:=#[v]) (hh.obj hi) (by show #[v].size=r.params.size;rw[hps];rfl);simp only[execOp,ho,resolve,hx,Sem.run_bind];simp[invoke,go_sem,hv,hy];exact⟨rfl,rfl,rfl,rfl⟩
 rw[hrun,Oper.uponIn_round];refine⟨λh=>(by cases h),?_⟩;have hfr':Fr ⟨nn,[]⟩ (ju (some p) v M0) { tmps:=(r.params.zip #[v]).foldl (λt (p,a)=>t.setIfInBounds p a) r.tmps,defers:=[] }:=by rw[hps];simpa[Act.put] using hfr.put (dst:=some p) (by exact hp) v
 have hround':RoundIn (RF none) 0 P l r.fn ((r.params.zip #[v]).foldl (λt (p,a)=>t.setIfInBounds p a) r.tmps) r.assign r.body w (λe w'=>∃u,e=.returned u/\I u w'):=by rw[ha,hb];exact roundIn_of_wpIn (F:=RF none) trivial (hround _ _ hfr' hh)
 refine hround'.mono ?_;rintro e w' ⟨u,rfl,hu⟩;obtain⟨V',H',hh',ht⟩:=k u w' hu;exact ht _ _ (hf.put h4 u) hh'
section
variable {rl:Option Nat} {fuel:Nat} {listed:Array Bool}
theorem T.sI {id:Nat} {l:List Oper} (hm:P.follows .mixedOrders=true)
 (h:T N w0 V H M (wpAnyIn (RF rl) 0 P .any l.toArray Q l.length (Array.replicate l.length false))):T N w0 V H M ((Code.region id l.toArray true).wpIn (RF rl) 0 P Q) :=
 λa w hf hh=>wpIn_region_any hm (by simpa using h a _ hf hh.drew)
def TBI (rl:Option Nat) (P:Program) (Q:Exit->Act->World->Prop) (ops:Array Oper) (N:Sz) (w0:World) (V:View) (H:List HObj) (M:List (Nat×Value)) (fuel:Nat) (listed:Array Bool) (i:Nat):Prop:=∀o,ops[i]? = some o->T N w0 V H M (wpOpIn (RF rl) 0 P ops Q i (wpAnyIn (RF rl) 0 P .any ops Q fuel (listed.setIfInBounds i true)))
theorem TI.uI (hr:Region.ready .any ops listed=[]) (h:T N w0 V H M (Q .normal)):T N w0 V H M (wpAnyIn (RF rl) 0 P .any ops Q fuel listed):=λa w hf hh=>by
 cases fuel with
 |zero=>exact⟨hr,h a w hf hh⟩
 |succ n=>exact⟨λ_=>h a w hf hh,λi hi=>by rw[hr] at hi;cases hi⟩
theorem TI.mD (n:Nat) (l':Array Bool) (I:Act->World->Prop) (h2:∀a w,I a w->wpAnyIn (RF rl) 0 P .any ops Q n l' a w)
 (h1:(∀a w,I a w->wpAnyIn (RF rl) 0 P .any ops Q n l' a w)->T N w0 V H M (wpAnyIn (RF rl) 0 P .any ops Q fuel listed)):T N w0 V H M (wpAnyIn (RF rl) 0 P .any ops Q fuel listed):=h1 h2
theorem TI.kw {l':Array Bool} {I:Act->World->Prop} (h2:∀a w,I a w->wpAnyIn (RF rl) 0 P .any ops Q fuel l' a w) (he:listed=l') (h:∀a w,Fr N M a->Hp w0 V H w->I a w):T N w0 V H M (wpAnyIn (RF rl) 0 P .any ops Q fuel listed):=λa w hf hh=>by subst he;exact h2 a w (h a w hf hh)
theorem TI.uf (rs:List Nat) (hr:Region.ready .any ops listed=rs) (hne:rs.isEmpty=false) (h:TBs (TBI rl P Q ops N w0 V H M fuel listed) rs) :
 T N w0 V H M (wpAnyIn (RF rl) 0 P .any ops Q (fuel + 1) listed):=λa w hf hh=>by
 refine⟨λe=>(by rw[hr] at e;rw[e] at hne;cases hne),λi hi=>?_⟩;have hlt:i<ops.size:=by have h1:=(List.mem_filter.1 hi).1;simpa using h1
 rw[hr] at hi;exact h.get i hi ops[i] (u_ hlt) a w hf hh
theorem TI.br {i:Nat} {o:Oper} (ho:ops[i]? = some o) (h:W1R rl P Q ops o N w0 V H M (wpAnyIn (RF rl) 0 P .any ops Q fuel (listed.setIfInBounds i true))):TBI rl P Q ops N w0 V H M fuel listed i:=λo' ho' a w hf hh=>by unfold wpOpIn;simp only[ho];rw[if_pos (h a w hf hh).1];exact(h a w hf hh).2
theorem TI.no {i:Nat} {o:Oper} (ho:ops[i]? = some o) (hg:gd ops M o.guard=some false) (hd:nN N o.dst=true)
 (h:T N w0 V H (ju o.dst undef M) (wpAnyIn (RF rl) 0 P .any ops Q fuel (listed.setIfInBounds i true))):TBI rl P Q ops N w0 V H M fuel listed i:=λo' ho' a w hf hh=>by
 unfold wpOpIn;simp only[ho];rw[if_neg (by rw[jb hf hg];simp)];exact⟨λ_ _=>trivial,h _ _ (hf.put hd undef) hh⟩
end
theorem T.pf {nn:Nat} {g:Operand} {ps:Array Tmp} {assign body:Code} {gf:FuncId} {lb:List Value} (c:Code) (cs:List Code) (J:Nat->Nat->Loop->World->Prop) (hk:pX M g=true) (hg:evM M g=.func (.func gf) #[] lb.toArray)
 (eg:∀args w,(callFunc gf args).run P w=.ok (.enter gf args) w)
 (hcall:∀(l d:Nat) (r:Loop),r.params=ps->r.assign=assign->r.body=body->Fr ⟨nn,[]⟩ M { tmps:=r.tmps,defers:=[] } ->
  ∀w1,Hp w0 V (jf l r c cs 0::iL d::H) w1->Calls P gf (Value.func (.yield l) #[] #[]::lb).toArray w1 (λe w2=>∃v,e=.returned v/\J l d r w2))
 (k:∀l d r w2,J l d r w2->∃V' H' n,Hp w0 V' (jf l r c cs n::H') w2/\j5 n (T ⟨nn,[d]⟩ w0 V' H' M (Q .normal)) (λn=>T ⟨nn,[d]⟩ w0 V' H' M ((pick c cs n).wpIn (RF none) 0 P Q))) :
 T ⟨nn,[]⟩ w0 V H M ((Code.rangeFunc g ps assign body).wpIn (RF none) 0 P Q):=λa w hf hh=>by
 refine wpIn_rangeFunc λfn _=>?_;have hr0:(RF none).round=none:=rfl;rw[hr0];let r0:Loop:={ state:=.ready,pending:=none,fn,tmps:=a.tmps,params:=ps,assign,body,defers:=w.heap.size };let w1:World:=(w.alloc (.deferred (some []))).alloc (.loop r0)
 refine⟨w.heap.size + 1,[{ target:=.collected w.heap.size,args:=#[] }],w1,{ target:=.fn (.func gf) lb.toArray,args:=#[.func (.yield (w.heap.size + 1)) #[] #[]] },w1,gf,
  #[.func (.yield (w.heap.size + 1)) #[] #[]]++lb.toArray,w1,run_enterLoop_outer _ _ _ _ _,?_,λ_ _=>trivial,?_,λh=>(by cases h),?_⟩
 . simp only[resolve,hf.eval hk,hg];simp[go_sem]
 . simp[invoke,go_sem,eg]
 . have hh1:=(hh.newObj (.deferred (some []))).newObj (.loop r0);have hs:(w.alloc (.deferred (some []))).heap.size=w.heap.size + 1:=by simp
   rw[hs] at hh1;have hc:=hcall (w.heap.size + 1) w.heap.size r0 rfl rfl rfl ⟨rfl,hf.size,hf.get⟩ w1 hh1;have he:(#[Value.func (.yield (w.heap.size + 1)) #[] #[]]++lb.toArray)=(Value.func (.yield (w.heap.size + 1)) #[] #[]::lb).toArray:=s_;rw[he];refine rV (hc.mono ?_);rintro e w2 ⟨v,rfl,hj⟩;obtain⟨V',H',n,hh',ht⟩:=k _ _ _ _ hj;have hi:nth (jf (w.heap.size + 1) r0 c cs n::H') 0=some (jf (w.heap.size + 1) r0 c cs n):=rfl;have hf':Fr ⟨nn,[w.heap.size]⟩ M { a with defers:=[{ target:=.collected w.heap.size,args:=#[] }]++a.defers }:=⟨by rw[hf.defers];rfl,hf.size,hf.get⟩
   cases n with
   |zero=>exact⟨none,_,run_endLoop (hh'.obj hi) (by simp[sW]),ht _ _ hf' ((hh'.putObj hi _).sub (.cons _ (List.Sublist.refl _)))⟩
   |succ n=>exact⟨some (pick c cs n),_,run_endLoop (hh'.obj hi) (by simp[sW]),ht _ _ hf' ((hh'.putObj hi _).sub (.cons _ (List.Sublist.refl _)))⟩
end
section
variable {P:Program} {N:Sz} {w0 w:World} {V:View} {H:List HObj} {M:List (Nat×Value)} {fn:Func} {R:Ending->World->Prop} {c:Code} {f:FuncId}
theorem T.nH {n:Nat} {l:List Value} (hf:P.funcs[f]? = some fn) (hb:fn.body=some c) (hN:fn.ntmps=n) (hn:Nat.ble l.length n=true)
 (h:T ⟨n,[]⟩ w (vw w) [] (rR 0 l) (c.wpIn (RF none) 0 P (bodyPostM (RF none) 0 P fn R))):Calls P f l.toArray w R:=by
 subst hN;refine callsIn_wide.1 (callsIn_of_wp_marks (F:=RF none) (n:=0) hf hb trivial (h _ w (Fr.start l.toArray fn.ntmps (by simpa using O_ hn) _ λt v hv=>?_) (Hp.start w)));have:=(pp l 0 t v hv).2;simpa using this
theorem T.kF {n:Nat} (H2:List HObj) (ds:List Nat) (hs:∀w,Hp w0 V H w->Hp w0 V (ds.map iL++H2) w) (h:T ⟨n,[]⟩ w0 V H2 M (λa w=>bodyPost P fn R .ret a w)):T ⟨n,ds⟩ w0 V H M (bodyPostM (RF none) 0 P fn R .ret):=λa w hf hh=>by
 show LeavesInM (RF none) 0 P fn a.tmps R a.defers .returning w;rw[hf.defers];have hf':Fr ⟨n,[]⟩ M { a with defers:=[] }:=⟨rfl,hf.size,hf.get⟩
 have key:∀(ds:List Nat) (w:World),Hp w0 V (ds.map iL++H2) w->LeavesInM (RF none) 0 P fn a.tmps R (ds.map uv) .returning w:=by
  intro ds
  induction ds with
  |nil=>exact λw hw=>(h _ w hf' hw).2
  |cons d ds ih=>intro w hw;have hi:nth (iL d::(ds.map iL++H2)) 0=some (iL d):=rfl;exact⟨by simp,.inl ⟨d,_,rfl,run_takeDeferred (hw.obj hi),ih _ ((hw.putObj hi (.deferred none)).sub (.cons _ (List.Sublist.refl _)))⟩⟩
 exact key ds w (hs w hh)
end
end
section
open Go.RowKit
structure DHdr where
 kind:Int
 a1:Option Addr
 n1:Nat
 c1:Nat
 a2:Option Addr
 n2:Nat
 c2:Nat
 a3:Option Addr
 n3:Nat
 c3:Nat
 a4:Option Addr
 n4:Nat
 c4:Nat
abbrev DHdr.cells (h:DHdr):List Value:=[.int .i64 h.kind,.slice h.a1 h.n1 h.c1,.slice h.a2 h.n2 h.c2,.slice h.a3 h.n3 h.c3,.slice h.a4 h.n4 h.c4]
def eHdr:Enc DHdr:=m8 5 DHdr.cells (λ_=>rfl) (λ_=>jz rfl)
structure Fits (h:DHdr) (n:DNode):Prop where
 kind:h.kind=n.kind
 n1:h.n1=n.elems.length
 n2:h.n2=n.kids.length
 n3:h.n3=n.seps.length
 n4:h.n4=n.tids.length
def lG (p:Prop):HObj where
 own:=λ_=>False
 ok:=λ_ _=>p
 loc:=λ_ _ _ _ h=>h
 mono:=λ_ _ _ _ h=>h
 lt:=λ_ _ _ _ h=>by cases h
structure TreeTy where
 te:TypeId
 ti:TypeId
 ts:TypeId
def iU (ty:TreeTy) (h:DHdr) (n:DNode):List HObj:=[row ty.te eElem h.a1 h.c1 n.elems,row ty.ti hO h.a2 h.c2 n.kids,row ty.ts eSpot h.a3 h.c3 n.seps,row ty.ti hO h.a4 h.c4 n.tids]
def jM (ty:TreeTy):List DHdr->List (Int⊕DNode)->List HObj
 |h::hs,.inr n::ns=>lG (Fits h n)::(iU ty h n++jM ty hs ns)
 |_::hs,.inl _::ns=>jM ty hs ns
 |_,_=>[]
def vn (x y:HObj):Prop:=∀b,x.own b->¬ y.own b
structure LenK (hs:List DHdr) (ns:List (Int⊕DNode)):Prop where
 len:hs.length=ns.length
 kinds:∀(i:Nat) (k:Int),ns[i]? = some (.inl k)->∃h,hs[i]? = some h/\h.kind=k
theorem LenK.nil:LenK [] []:=⟨rfl,λi k h=>by simp at h⟩
theorem LenK.inl {hs:List DHdr} {ns:List (Int⊕DNode)} (h:LenK hs ns) {i:Nat} {x:DHdr} {k:Int} (hx:hs[i]? = some x) (hk:x.kind=k):LenK hs (ns.set i (.inl k)):=⟨by rw[B_];exact h.len,λj q hq=>by
 rw[C_] at hq;split at hq
 . rename_i e;subst e;split at hq
   . obtain rfl:k=q:=(by simpa using hq);exact⟨x,hx,hk⟩
   . cases hq
 . exact h.kinds j q hq⟩
theorem LenK.inr {hs:List DHdr} {ns:List (Int⊕DNode)} (h:LenK hs ns) (i:Nat) (n:DNode):LenK hs (ns.set i (.inr n)):=⟨by rw[B_];exact h.len,λj q hq=>by
 rw[C_] at hq;split at hq
 . split at hq
   . cases hq
   . cases hq
 . exact h.kinds j q hq⟩
theorem LenK.head {hs:List DHdr} {ns:List (Int⊕DNode)} (h:LenK hs ns) (i:Nat) (x:DHdr):LenK (hs.set i x) (ns.set i (.inl x.kind)):=⟨by rw[B_,B_];exact h.len,λj q hq=>by
 rw[C_] at hq ⊢;have hl:=h.len;split at hq
 . rename_i e;subst e;split at hq
   . rename_i hi;obtain rfl:x.kind=q:=(by simpa using hq);rw[if_pos rfl,if_pos o_];exact⟨x,rfl,rfl⟩
   . cases hq
 . rename_i e;rw[if_neg e]
   exact h.kinds j q hq⟩
theorem LenK.push {hs:List DHdr} {ns:List (Int⊕DNode)} (h:LenK hs ns) (x:DHdr) (n:DNode):LenK (hs++[x]) (ns++[.inr n]):=⟨by simp[h.len],λj q hq=>by
 rcases K_ j ns.length with hlt|hge
 . rw[P_ hlt] at hq;obtain⟨y,hy,hk⟩:=h.kinds j q hq;exact⟨y,by rw[P_ (by have:=h.len;omega)];exact hy,hk⟩
 . rw[List.getElem?_append_right hge] at hq
   cases hj:j - ns.length with
   |zero=>rw[hj] at hq;simp at hq
   |succ m=>rw[hj] at hq;simp at hq⟩
def iA (ty:TreeTy) (hs:List DHdr) (ns:List (Int⊕DNode)):HObj where
 own:=λb=>∃x∈jM ty hs ns,x.own b
 ok:=λV w=>LenK hs ns/\(∀x∈jM ty hs ns,x.ok V w)/\(jM ty hs ns).Pairwise vn
 loc:=λV w w' hb ⟨h1,h2,h3⟩=>⟨h1,λx hx=>x.loc V w w' (λb hxb=>hb b ⟨x,hx,hxb⟩) (h2 x hx),h3⟩
 mono:=λV V' w hv ⟨h1,h2,h3⟩=>⟨h1,λx hx=>x.mono V V' w hv (h2 x hx),h3⟩
 lt:=λV w b ⟨_,h2,_⟩ ⟨x,hx,hb⟩=>x.lt V w b (h2 x hx) hb
theorem lH (ty:TreeTy):∀(hs:List DHdr) (ns:List (Int⊕DNode)) (i:Nat) (h:DHdr) (n:DNode) (q:Int),hs[i]? = some h->ns[i]? = some (.inr n)->(jM ty hs ns).Perm (lG (Fits h n)::(iU ty h n++jM ty hs (ns.set i (.inl q))))
 |[],_,i,h,n,_,h1,_=>by simp at h1
 |_,[],i,h,n,_,_,h2=>by simp at h2
 |a::hs,m::ns,0,h,n,q,h1,h2=>by
  obtain rfl:a=h:=by simpa using h1
  obtain rfl:m=.inr n:=by simpa using h2
  exact List.Perm.refl _
 |a::hs,m::ns,i + 1,h,n,q,h1,h2=>by
  have ih:=lH ty hs ns i h n q (by simpa using h1) (by simpa using h2)
  cases m with
  |inl _=>exact ih
  |inr m=>show (lG (Fits a m)::(iU ty a m++jM ty hs ns)).Perm (lG (Fits h n)::(iU ty h n++(lG (Fits a m)::(iU ty a m++jM ty hs (ns.set i (.inl q))))));have h3:=(ih.append_left (lG (Fits a m)::iU ty a m));refine h3.trans ?_;show ((lG (Fits a m)::iU ty a m)++((lG (Fits h n)::iU ty h n)++jM ty hs (ns.set i (.inl q)))).Perm ((lG (Fits h n)::iU ty h n)++((lG (Fits a m)::iU ty a m)++jM ty hs (ns.set i (.inl q))));rw[<-D_,<-D_];exact List.Perm.append_right _ L_
theorem tU (ty:TreeTy) (hs:List DHdr) (ns:List (Int⊕DNode)) (i:Nat) (h:DHdr) (n:DNode) (q:Int) (h1:hs[i]? = some h) (h2:i<ns.length) (h3:ns[i]? = some (.inl q)) :
 (lG (Fits h n)::(iU ty h n++jM ty hs ns)).Perm (jM ty hs (ns.set i (.inr n))):=by
 have:=lH ty hs (ns.set i (.inr n)) i h n q h1 (by rw[v_ h2])
 rw[M_,show ns.set i (.inl q)=ns from List.ext_getElem? λj=>by
  rw[C_];split
  . rename_i e;subst e;first|rw[if_pos h2,h3]|exact h3.symm
  . rfl] at this
 exact this.symm
theorem qM (ty:TreeTy):∀(hs:List DHdr) (ns:List (Int⊕DNode)) (i:Nat) (h:DHdr) (q r:Int),ns[i]? = some (.inl q)->jM ty (hs.set i h) (ns.set i (.inl r))=jM ty hs ns
 |[],_,i,h,_,_,_=>by simp[jM]
 |_::_,[],i,h,_,_,h2=>by simp at h2
 |a::hs,m::ns,0,h,q,r,h2=>by
  obtain rfl:m=.inl q:=by simpa using h2
  rfl
 |a::hs,m::ns,i + 1,h,q,r,h2=>by
  have ih:=qM ty hs ns i h q r (by simpa using h2)
  cases m with
  |inl _=>exact ih
  |inr m=>show lG (Fits a m)::(iU ty a m++jM ty (hs.set i h) (ns.set i (.inl r)))=_;rw[ih];rfl
theorem qL (ty:TreeTy):∀(hs:List DHdr) (ns:List (Int⊕DNode)) (i:Nat) (q:Int),(jM ty hs (ns.set i (.inl q))).Sublist (jM ty hs ns)
 |[],ns,i,q=>by cases ns <;> simp[jM]
 |_::_,[],i,q=>by simp[jM]
 |a::hs,m::ns,0,q=>by
  cases m with
  |inl _=>exact List.Sublist.refl _
  |inr m=>exact(List.sublist_append_right (lG (Fits a m)::iU ty a m) _)
 |a::hs,m::ns,i + 1,q=>by
  have ih:=qL ty hs ns i q
  cases m with
  |inl _=>exact ih
  |inr m=>exact(List.Sublist.refl (lG (Fits a m)::iU ty a m)).append ih
theorem pw (ty:TreeTy) (h:DHdr) (m:Int⊕DNode):∀(hs:List DHdr) (ns:List (Int⊕DNode)),hs.length=ns.length->jM ty (hs++[h]) (ns++[m])=jM ty hs ns++jM ty [h] [m]
 |[],[],_=>by simp[jM]
 |[],_::_,h=>by simp at h
 |_::_,[],h=>by simp at h
 |a::hs,x::ns,hl=>by
  have ih:=pw ty h m hs ns (by simpa using hl)
  cases x with
  |inl _=>exact ih
  |inr x=>show lG (Fits a x)::(iU ty a x++jM ty (hs++[h]) (ns++[m]))=_;rw[ih];simp[jM]
theorem Hp.put {w0:World} {V:View} {H:List HObj} {w:World} {p:Prop} (h:Hp w0 V H w) (hp:p):Hp w0 V (lG p::H) w :=
 ⟨h.os,h.tape,h.output,h.size,h.view,h.base,λx hx=>by
  rcases g_.1 hx with rfl|hx
  . exact hp
  . exact h.objs x hx,λx hx b hb=>by
  rcases g_.1 hx with rfl|hx
  . cases hb
  . exact h.apart x hx b hb,List.Pairwise.cons (λy _ b hb=>by cases hb) h.sep⟩
def inN:Int⊕DNode->Option DNode
 |.inl _=>none
 |.inr n=>some n
def tD:Int⊕DNode->Int
 |.inl k=>k
 |.inr n=>n.kind
def kI (ns:List (Int⊕DNode)) (i:Int):Option DNode:=if i<0 then none else (ns[i.toNat]?).bind inN
def sU (ns:List (Int⊕DNode)) (i:Int):Option Int:=if i<0 then none else (ns[i.toNat]?).map tD
def ja (ns:List (Int⊕DNode)) (i:Int):List (Int⊕DNode):=ns.set i.toNat (.inl (((ns[i.toNat]?).map tD).getD 0))
def jA (ns:List (Int⊕DNode)) (i:Int) (n:DNode):List (Int⊕DNode):=ns.set i.toNat (.inr n)
theorem nU {ns:List (Int⊕DNode)} {i:Int} {n:DNode} (h:kI ns i=some n):0<=i/\ns[i.toNat]? = some (.inr n):=by
 unfold kI at h;split at h
 . cases h
 . refine⟨by omega,?_⟩
   cases hx:ns[i.toNat]? with
   |none=>rw[hx] at h;cases h
   |some m =>
    rw[hx] at h
    cases m with
    |inl k=>cases h
    |inr m=>obtain rfl:m=n:=(by simpa[inN] using h);rfl
structure TreeOk (hs:List DHdr) (ns:List (Int⊕DNode)):Prop where
 lenk:LenK hs ns
 fits:∀(i:Nat) (n:DNode),ns[i]? = some (.inr n)->∃h,hs[i]? = some h/\Fits h n
theorem TreeOk.len {hs:List DHdr} {ns:List (Int⊕DNode)} (h:TreeOk hs ns):hs.length=ns.length:=h.lenk.len
theorem sY {ty:TreeTy} {V:View} {w:World}:∀(hs:List DHdr) (ns:List (Int⊕DNode)),(∀x∈jM ty hs ns,x.ok V w)->hs.length=ns.length->∀(i:Nat) (n:DNode),ns[i]? = some (.inr n)->∃h,hs[i]? = some h/\Fits h n:=λhs ns hok hl i n hn=>by have hi:=(p_.1 hn).1;have hh:hs[i]? = some (hs[i]'o_):=N_ o_;exact⟨_,hh,hok _ ((lH ty hs ns i _ n 0 hh hn).mem_iff.2 a_)⟩
theorem TreeOk.of {ty:TreeTy} {V:View} {w:World} {hs:List DHdr} {ns:List (Int⊕DNode)} (h:(iA ty hs ns).ok V w):TreeOk hs ns:=⟨h.1,sY hs ns h.2.1 h.1.len⟩
theorem Hp.opened {w0:World} {V:View} {X:List HObj} {w:World} {ty:TreeTy} {hs:List DHdr} {ns:List (Int⊕DNode)} (h:Hp w0 V (iA ty hs ns::X) w):LenK hs ns/\Hp w0 V (jM ty hs ns++X) w:=by
 obtain⟨h1,h2,h3⟩:=h.objs _ a_;have hs':=List.pairwise_cons.1 h.sep;refine⟨h1,h.os,h.tape,h.output,h.size,h.view,h.base,λx hx=>?_,λx hx b hb=>?_,?_⟩
 . rcases E_.1 hx with hx|hx
   . exact h2 x hx
   . exact h.objs x (d_ _ hx)
 . rcases E_.1 hx with hx|hx
   . exact h.apart _ a_ b ⟨x,hx,hb⟩
   . exact h.apart x (d_ _ hx) b hb
 . exact H_.2 ⟨h3,hs'.2,λx hx y hy b hb=>hs'.1 y hy b ⟨x,hx,hb⟩⟩
theorem Hp.closed {w0:World} {V:View} {X:List HObj} {w:World} {ty:TreeTy} {hs:List DHdr} {ns:List (Int⊕DNode)} (hl:LenK hs ns) (h:Hp w0 V (jM ty hs ns++X) w):Hp w0 V (iA ty hs ns::X) w:=by
 obtain⟨p1,p2,p3⟩:=H_.1 h.sep;refine⟨h.os,h.tape,h.output,h.size,h.view,h.base,λx hx=>?_,λx hx b hb=>?_,?_⟩
 . rcases g_.1 hx with rfl|hx
   . exact⟨hl,λx hx=>h.objs x (x_ _ hx),p1⟩
   . exact h.objs x (I_ _ hx)
 . rcases g_.1 hx with rfl|hx
   . obtain⟨y,hy,hb⟩:=hb;exact h.apart y (x_ _ hy) b hb
   . exact h.apart x (I_ _ hx) b hb
 . refine List.Pairwise.cons (λy hy b hb=>?_) p2;obtain⟨x,hx,hb⟩:=hb;exact p3 x hx y hy b hb
theorem TreeOk.at_ {hs:List DHdr} {ns:List (Int⊕DNode)} (h:TreeOk hs ns) {i:Int} {n:DNode} (hn:kI ns i=some n) :
 ∃a1 c1 a2 c2 a3 c3 a4 c4,0<=i/\i<(hs.length:Int)/\hs[i.toNat]? = some ⟨n.kind,a1,n.elems.length,c1,a2,n.kids.length,c2,a3,n.seps.length,c3,a4,n.tids.length,c4⟩:=by
 obtain⟨h0,h1⟩:=nU hn;obtain⟨⟨k,a1,n1,c1,a2,n2,c2,a3,n3,c3,a4,n4,c4⟩,h2,f1,f2,f3,f4,f5⟩:=h.fits _ _ h1;dsimp only at f1 f2 f3 f4 f5;subst f1 f2 f3 f4 f5;exact⟨a1,c1,a2,c2,a3,c3,a4,c4,h0,by have:=(p_.1 h2).1;omega,h2⟩
theorem TreeOk.kind_ {hs:List DHdr} {ns:List (Int⊕DNode)} (h:TreeOk hs ns) {i k:Int} (hn:sU ns i=some k) :
 ∃a1 n1 c1 a2 n2 c2 a3 n3 c3 a4 n4 c4,0<=i/\i<(hs.length:Int)/\hs[i.toNat]? = some ⟨k,a1,n1,c1,a2,n2,c2,a3,n3,c3,a4,n4,c4⟩:=by
 unfold sU at hn;split at hn
 . cases hn
 rename_i h0;obtain⟨x,hx,hk⟩:=Q_.1 hn
 have hh:∃e,hs[i.toNat]? = some e/\e.kind=k:=by
  cases x with
  |inl q=>obtain rfl:q=k:=hk;exact h.lenk.kinds _ _ hx
  |inr n=>obtain rfl:n.kind=k:=hk;obtain⟨e,he,hf⟩:=h.fits _ _ hx;exact⟨e,he,hf.kind⟩
 obtain⟨⟨q,a1,n1,c1,a2,n2,c2,a3,n3,c3,a4,n4,c4⟩,h2,hk⟩:=hh;obtain rfl:q=k:=hk;exact⟨a1,n1,c1,a2,n2,c2,a3,n3,c3,a4,n4,c4,by omega,by have:=(p_.1 h2).1;omega,h2⟩
section
variable {N:Sz} {w0:World} {V:View} {H X H':List HObj} {M:List (Nat×Value)} {φ:Act->World->Prop} {ty:TreeTy} {hs:List DHdr} {ns:List (Int⊕DNode)} {k:Int} {n:DNode} {h:DHdr}
theorem su {α:Type}:∀(l:List α) (i:Nat) (x:α),l[i]? = some x->l.Perm (x::l.eraseIdx i)
 |[],_,_,h=>by simp at h
 |a::l,0,x,h=>by
  obtain rfl:a=x:=by simpa using h
  exact List.Perm.refl _
 |a::l,i + 1,x,h=>((su l i x (by simpa using h)).cons a).trans (List.Perm.swap _ _ _)
theorem pq {α:Type}:∀(l:List α) (i:Nat) (x y:α),l[i]? = some x->(l.set i y).Perm (y::l.eraseIdx i)
 |[],_,_,_,h=>by simp at h
 |a::l,0,x,y,h=>List.Perm.refl _
 |a::l,i + 1,x,y,h=>((pq l i x y (by simpa using h)).cons a).trans (List.Perm.swap _ _ _)
theorem qk {i:Nat} {x:HObj} (hi:nth H i=some x):H.Perm (x::H.eraseIdx i):=by rw[jJ] at hi;exact su H i x hi
theorem qH {i:Nat} {x y:HObj} (hi:nth H i=some x):(H.set i y).Perm (y::H.eraseIdx i):=by rw[jJ] at hi;exact pq H i x y hi
theorem T.jl (i:Nat) (hi:nth H i=some (iA ty hs ns)) (q:TreeOk hs ns->T N w0 V H M φ):T N w0 V H M φ:=λa w hf hh=>q (TreeOk.of (hh.objs _ (by rw[jJ] at hi;exact f_ hi))) a w hf hh
theorem T.ol (i:Nat) (hi:nth H i=some (iA ty hs ns)) (hn:kI ns k=some n) (hh:hs[k.toNat]? = some h) (hH:H.set i (iA ty hs (ja ns k))=H')
 (q:T N w0 V (row ty.te eElem h.a1 h.c1 n.elems::row ty.ti hO h.a2 h.c2 n.kids::row ty.ts eSpot h.a3 h.c3 n.seps::row ty.ti hO h.a4 h.c4 n.tids::H') M φ):T N w0 V H M φ:=λa w hf hp=>by
 subst hH;obtain⟨h0,h1⟩:=nU hn;refine q a w hf ?_;obtain⟨hl,h2⟩:=(hp.perm (qk hi)).opened;have h3:=h2.perm (List.Perm.append_right _ (lH ty hs ns k.toNat h n (((ns[k.toNat]?).map tD).getD 0) hh h1));have hfit:Fits h n:=h3.objs _ a_;have h4:=(h3.sub (H':=iU ty h n++jM ty hs (ja ns k)++H.eraseIdx i) (.cons _ (List.Sublist.refl _)));have h5:Hp w0 V (jM ty hs (ja ns k)++(iU ty h n++H.eraseIdx i)) w:=h4.perm (by rw[<-D_];exact List.Perm.append_right _ L_);have h6:=Hp.closed (show LenK hs (ja ns k) from hl.inl hh (by rw[h1];exact hfit.kind)) h5;refine h6.perm ?_;have e1:(iA ty hs (ja ns k)::(iU ty h n++H.eraseIdx i)).Perm (iU ty h n++(iA ty hs (ja ns k)::H.eraseIdx i)):=y_.symm;exact e1.trans ((qH hi).symm.append_left (iU ty h n))
theorem T.vg (hX:H.Perm (row ty.te eElem h.a1 h.c1 n.elems::row ty.ti hO h.a2 h.c2 n.kids::row ty.ts eSpot h.a3 h.c3 n.seps::row ty.ti hO h.a4 h.c4 n.tids::iA ty hs ns::X))
 (h0:0<=k) {r:Int} (h1:ns[k.toNat]? = some (.inl r)) (hh:hs[k.toNat]? = some h) (hf:Fits h n) (q:T N w0 V (iA ty hs (jA ns k n)::X) M φ):T N w0 V H M φ:=λa w hfr hp=>by
 refine q a w hfr ?_;have h2:=hp.perm (hX.trans (show (iU ty h n++(iA ty hs ns::X)).Perm (iA ty hs ns::(iU ty h n++X)) from y_));obtain⟨hl,h3⟩:=h2.opened;have h4:Hp w0 V (lG (Fits h n)::(iU ty h n++jM ty hs ns)++X) w:=(h3.perm (show (jM ty hs ns++(iU ty h n++X)).Perm ((iU ty h n++jM ty hs ns)++X) by rw[<-D_];exact List.Perm.append_right _ L_)).put hf;have hi:k.toNat<ns.length:=(p_.1 h1).1;have h5:=h4.perm (List.Perm.append_right X (tU ty hs ns k.toNat h n r hh hi h1));exact Hp.closed (show LenK hs (jA ns k n) from hl.inr _ _) h5
theorem T.tx (hX:H.Perm (row ty.te eElem h.a1 h.c1 n.elems::row ty.ti hO h.a2 h.c2 n.kids::row ty.ts eSpot h.a3 h.c3 n.seps::row ty.ti hO h.a4 h.c4 n.tids::iA ty hs ns::X)) (hf:Fits h n)
 (q:T N w0 V (iA ty (hs++[h]) (ns++[.inr n])::X) M φ):T N w0 V H M φ:=λa w hfr hp=>by
 refine q a w hfr ?_;have h2:=hp.perm (hX.trans (show (iU ty h n++(iA ty hs ns::X)).Perm (iA ty hs ns::(iU ty h n++X)) from y_));obtain⟨hl,h3⟩:=h2.opened;have h4:=h3.put hf;refine Hp.closed (hl.push h n) ?_;rw[pw ty h (.inr n) hs ns hl.len];refine h4.perm ?_;have e1:jM ty [h] [.inr n]=lG (Fits h n)::iU ty h n:=by simp[jM]
 rw[e1];show (lG (Fits h n)::(jM ty hs ns++(iU ty h n++X))).Perm (jM ty hs ns++(lG (Fits h n)::iU ty h n)++X);rw[D_];exact y_.symm
theorem T.uE (i:Nat) (k:Int) (hi:nth H i=some (iA ty hs ns)) (hH:H.set i (iA ty hs (ja ns k))=H') (q:T N w0 V H' M φ):T N w0 V H M φ:=λa w hf hp=>by
 subst hH;refine q a w hf ?_;have ht:=TreeOk.of (hp.objs _ (by rw[jJ] at hi;exact f_ hi));obtain⟨hl,h2⟩:=(hp.perm (qk hi)).opened;have h3:=h2.sub (H':=jM ty hs (ja ns k)++H.eraseIdx i) ((qL ty hs ns k.toNat _).append (List.Sublist.refl _));refine(Hp.closed ?_ h3).perm (qH hi).symm;unfold ja
 cases hx:ns[k.toNat]? with
 |none=>rw[List.set_eq_of_length_le (List.getElem?_eq_none_iff.1 hx)];exact hl
 |some x =>
  cases x with
  |inl q=>obtain⟨e,he,hk⟩:=hl.kinds _ _ hx;exact hl.inl he hk
  |inr n=>obtain⟨e,he,hf⟩:=ht.fits _ _ hx;exact hl.inl he hf.kind
theorem T.ue (i:Nat) (j:Nat) (h':DHdr) (hi:nth H i=some (iA ty hs ns)) {r:Int} (hj:ns[j]? = some (.inl r)) (hH:H.set i (iA ty (hs.set j h') (ns.set j (.inl h'.kind)))=H') (q:T N w0 V H' M φ):T N w0 V H M φ:=λa w hf hp=>by subst hH;refine q a w hf ?_;obtain⟨hl,h2⟩:=(hp.perm (qk hi)).opened;refine(Hp.closed (hl.head j h') ?_).perm (qH hi).symm;rw[qM ty hs ns j h' _ _ hj];exact h2
theorem T.tH (ty:TreeTy) (q:T N w0 V (iA ty [] []::H) M φ):T N w0 V H M φ:=λa w hf hp=>q a w hf (Hp.closed LenK.nil hp)
end
def tY (x:HObj):Prop:=∀V V' w,x.ok V w->x.ok V' w
def rL:List HObj->Prop
 |[]=>True
 |x::l=>tY x/\rL l
theorem rL.mem:∀ {l:List HObj},rL l->∀x∈l,tY x
 |[],_,x,h=>by cases h
 |a::l,h,x,hx=>by
  rcases g_.1 hx with rfl|hx
  . exact h.1
  . exact rL.mem h.2 x hx
theorem nc {α:Type} {E:Enc α} {p:Bool} {e:TypeId} {A:Option Addr} {c:Nat} {l:List α} (hf:∀V V' cs x,E.rep V cs x->E.rep V' cs x):tY (kJ p e E A c l):=λV V' w h=>by obtain⟨h1,h2,h3⟩:=h;exact⟨h1,h2,h3.imp id λ⟨g,cur,fz,xs,h⟩=>⟨g,cur,fz,xs,{ h with rep:=⟨h.rep.1,λk x hk=>hf _ _ _ _ (h.rep.2 k x hk)⟩ }⟩⟩
theorem oQ (ty:TreeTy):∀(hs:List DHdr) (ns:List (Int⊕DNode)),∀x∈jM ty hs ns,tY x
 |[],ns,x,hx=>by cases ns <;> simp[jM] at hx
 |_::_,[],x,hx=>by simp[jM] at hx
 |a::hs,.inl _::ns,x,hx=>oQ ty hs ns x hx
 |a::hs,.inr m::ns,x,hx=>by
  rcases g_.1 hx with rfl|hx
  . exact λ_ _ _ h=>h
  rcases E_.1 hx with hx|hx
  . simp only[iU,g_,List.not_mem_nil,or_false] at hx;rcases hx with rfl|rfl|rfl|rfl <;> exact nc λ_ _ _ _ h=>h
  . exact oQ ty hs ns x hx
theorem tM (ty:TreeTy) (hs:List DHdr) (ns:List (Int⊕DNode)):tY (iA ty hs ns):=λV V' w ⟨h1,h2,h3⟩=>⟨h1,λx hx=>oQ ty hs ns x hx V V' w (h2 x hx),h3⟩
def tw (w w':World) (X:List HObj):Prop:=∀ {w0:World} {V:View} {H:List HObj},Hp w0 V H w->Hp w0 V (X++H) w'
theorem rZ {w w':World} {V1:View} {X:List HObj} (h:Hp w V1 X w') (hf:rL X):tw w w' X:=λ{w0 V H} hp=>by
 have hold:∀b,b<w.heap.size->w'.heap[b]? = w.heap[b]?:=λb hb=>by have h1:=h.view b w.heap[b] (h.base b _ (u_ hb));rw[u_ hb];exact h1
 have hnew:∀x∈X,∀b,x.own b->w.heap.size<=b:=λx hx b hb=>by
  rcases K_ b w.heap.size with hlt|hge
  . have h1:=h.apart x hx b hb;have h2:=h.base b w.heap[b] (u_ hlt);rw[h1] at h2;cases h2
  . exact hge
 refine⟨h.os.trans hp.os,h.tape.trans hp.tape,h.output.trans hp.output,Nat.le_trans hp.size h.size,λb o hv=>?_,hp.base,λx hx=>?_,λx hx b hb=>?_,?_⟩
 . have h1:=hp.view b o hv;show w'.heap[b]? = some o;rw[hold b (jU h1)];exact h1
 . rcases E_.1 hx with hx|hx
   . exact hf.mem x hx _ _ _ (h.objs x hx)
   . exact x.loc V w w' (λb hb=>hold b (x.lt V w b (hp.objs x hx) hb)) (hp.objs x hx)
 . rcases E_.1 hx with hx|hx
   . cases hv:V b with
     |none=>rfl
     |some o=>exact absurd (jU (hp.view _ _ hv)) (by have:=hnew x hx b hb;omega)
   . exact hp.apart x hx b hb
 . refine H_.2 ⟨h.sep,hp.sep,λx hx y hy b hb hyb=>?_⟩;have:=hnew x hx b hb;have:=y.lt V w b (hp.objs y hy) hyb;omega
section
variable {P:Program} {N:Sz} {w0:World} {V:View} {H:List HObj} {M:List (Nat×Value)} {ops:Array Oper} {Q:Exit->Act->World->Prop} {o:Oper} {K:Act->World->Prop}
theorem W1.nI {π:Type} (f:FuncId) (vs:Array Value) (v:π->Value) (X:π->List HObj) (R:π->Prop) (hc:okO N ops M o=true) (hv:∀w,(execOp (evM M) o).run P w=.ok (.enter f vs) w)
 (hf:∀w,Hp w0 V H w->Calls P f vs w λe w'=>∃p,e=.returned (v p)/\R p/\tw w w' (X p)) (h:∀p,R p->T N w0 V (X p++H) (ju o.dst (v p) M) K):W1 P Q ops o N w0 V H M K:=λa w hfr hh=>by
 obtain⟨h1,_,_,h4⟩:=jk hc;refine⟨jb hfr h1,?_⟩;unfold Oper.wp;rw[jG hc hfr,hv w,Oper.upon_enter];refine(hf w hh).mono ?_;rintro e w' ⟨p,rfl,hr,hg⟩;exact h p hr _ _ (hfr.put h4 _) (hg hh)
end
def uB (ty:TreeTy) (n:DNode) (w:World) (e:Ending) (w':World):Prop:=∃h:DHdr,e=.returned (.agg h.cells.toArray)/\Fits h n/\tw w w' (iU ty h n)
def uC (ty:TreeTy) (tn:TypeId) (t:DTree) (w:World) (e:Ending) (w':World):Prop:=∃p:Option Addr×Nat×List DHdr,e=.returned (.agg #[.int .i64 t.root,.slice p.1 p.2.2.length p.2.1])/\p.2.2.length=t.nodes.length/\tw w w' [row tn eHdr p.1 p.2.1 p.2.2,iA ty p.2.2 (t.nodes.map i_)]
theorem Hp.lent {w0:World} {V:View} {H:List HObj} {w:World} {ty:TreeTy} {hs:List DHdr} {ns:List (Int⊕DNode)} {k:Int} {n:DNode} {h:DHdr} (hp:Hp w0 V H w) {i:Nat} (hi:nth H i=some (iA ty hs ns)) (hn:kI ns k=some n) (hh:hs[k.toNat]? = some h) :
 hJ (vw w) eElem h.a1 h.c1 n.elems/\hJ (vw w) hO h.a2 h.c2 n.kids/\hJ (vw w) eSpot h.a3 h.c3 n.seps/\hJ (vw w) hO h.a4 h.c4 n.tids:=by
 obtain⟨h0,h1⟩:=nU hn;obtain⟨hl,h2⟩:=(hp.perm (qk hi)).opened;have h3:=h2.perm (List.Perm.append_right _ (lH ty hs ns k.toNat h n 0 hh h1));exact⟨h3.row_slOk (i:=1) rfl,h3.row_slOk (i:=2) rfl,h3.row_slOk (i:=3) rfl,h3.row_slOk (i:=4) rfl⟩
def tE (bytes n:Nat):Option Unit:=if n * bytes<=140737488355328/\n<=maxLen then some () else none
theorem qK {bytes n:Nat} {u:Unit} (h:tE bytes n=some u):oX n bytes=true/\n<=maxLen:=by
 unfold tE at h;by_cases hc:n * bytes<=140737488355328/\n<=maxLen
 . exact⟨decide_eq_true hc.1,hc.2⟩
 . rw[if_neg hc] at h;cases h
def ll (ns:List (Int⊕DNode)) (i:Int):Option Unit:=if 0<=i/\i<(ns.length:Int) then some () else none
theorem TreeOk.has {hs:List DHdr} {ns:List (Int⊕DNode)} (h:TreeOk hs ns) {i:Int} {u:Unit} (hn:ll ns i=some u):0<=i/\i<(hs.length:Int)/\∃x,hs[i.toNat]? = some x:=by
 unfold ll at hn;split at hn
 . rename_i hi;have:=h.len;exact⟨hi.1,by omega,_,N_ o_⟩
 . cases hn
theorem uP {ns:List (Int⊕DNode)} {i:Int} {u:Unit} (hn:ll ns i=some u):(ja ns i)[i.toNat]? = some (.inl (((ns[i.toNat]?).map tD).getD 0)):=by
 unfold ll at hn;split at hn
 . unfold ja;rw[v_ o_]
 . cases hn
def qY:List (Int⊕DNode)->Option (List DNode)
 |[]=>some []
 |.inl _::_=>none
 |.inr n::ns=>(qY ns).map (n::·)
theorem lE:∀ {ns:List (Int⊕DNode)} {l:List DNode},qY ns=some l->ns=l.map i_
 |[],l,h=>by obtain rfl:[]=l:=z_.inj h;rfl
 |.inl _::ns,l,h=>by cases h
 |.inr n::ns,l,h=>by obtain⟨m,hm,rfl⟩:=Q_.1 h;rw[lE hm];rfl
theorem vo (l:List DNode):qY (l.map i_)=some l:=by
 induction l with
 |nil=>rfl
 |cons n l ih=>show (qY (l.map i_)).map _=_;rw[ih];rfl
theorem uw {α:Type} {E:Enc α} {p:Bool} {e:TypeId} {A:Option Addr} {c:Nat} {l:List α} {V U:View} {w:World} (hf:∀V V' cs x,E.rep V cs x->E.rep V' cs x) (h:(kJ p e E A c l).ok V w) (hU:∀b,jd A c=some b->U b=w.heap[b]?):hJ U E A c l:=by
 obtain⟨h1,h2,h3⟩:=h;refine⟨h1,h2,?_⟩;by_cases hc:c=0
 . have hl:l=[]:=t_ o_;subst hl;exact⟨[],iH.nil,λj u hu=>by simp at hu⟩
 rcases h3 with h3|⟨g,cur,fz,xs,h3⟩
 . exact absurd h3 hc
 refine⟨xs,⟨h3.rep.1,λk x hk=>hf _ _ _ _ (h3.rep.2 k x hk)⟩,λj u hu=>?_⟩;obtain⟨a,ha,hcell⟩:=h3.cells j u hu;refine⟨a,ha,?_⟩;have hag:a=⟨g,0,none⟩:=z_.inj (ha.symm.trans h3.adr);subst hag;have hb:=hU g (by unfold jd;rw[if_neg hc,h3.adr];rfl);have e1:((⟨g,0,none⟩:Addr).add j).block=g:=mn _ _;unfold View.cell;rw[e1,hb];rw[py,World.cell?,e1] at hcell;exact hcell
open Classical in
theorem Hp.freezeAll {w0:World} {V:View} {X H:List HObj} {w:World} (h:Hp w0 V (X++H) w):∃V',View.le V V'/\Hp w0 V' H w/\∀x∈X,∀b,x.own b->V' b=w.heap[b]?/\w0.heap.size<=b:=by
 obtain⟨p1,p2,p3⟩:=H_.1 h.sep
 have hle:View.le V (λb=>if ∃x∈X,x.own b then w.heap[b]? else V b):=λb o hv=>by
  show (if ∃x∈X,x.own b then w.heap[b]? else V b)=some o;split
  . exact h.view b o hv
  . exact hv
 refine⟨λb=>if ∃x∈X,x.own b then w.heap[b]? else V b,hle,⟨h.os,h.tape,h.output,h.size,λb o hv=>?_,View.le_trans h.base hle,λy hy=>y.mono _ _ _ hle (h.objs y (I_ _ hy)),λy hy b hyb=>?_,p2⟩,λx hx b hb=>⟨?_,?_⟩⟩
 . have hv':(if ∃x∈X,x.own b then w.heap[b]? else V b)=some o:=hv;split at hv'
   . exact hv'
   . exact h.view b o hv'
 . show (if ∃x∈X,x.own b then w.heap[b]? else V b)=none;rw[if_neg (λ⟨x,hx,hb⟩=>p3 x hx y hy b hb hyb)];exact h.apart y (I_ _ hy) b hyb
 . show (if ∃x∈X,x.own b then w.heap[b]? else V b)=_;rw[if_pos ⟨x,hx,hb⟩]
 . rcases K_ b w0.heap.size with hlt|hge
   . have h1:=h.apart x (x_ _ hx) b hb;have h2:=h.base b w0.heap[b] (u_ hlt);rw[h1] at h2;cases h2
   . exact hge
theorem T.lI {N:Sz} {w0:World} {V:View} {H H':List HObj} {M:List (Nat×Value)} {φ:Act->World->Prop} {ty:TreeTy} {hs:List DHdr} {l:List DNode} {tn:TypeId} {A:Option Addr} {c:Nat}
 (hP:H.Perm (row tn eHdr A c hs::iA ty hs (l.map i_)::H')) (q:∀V',View.le V V'->hJ (made w0 V') iy A c l->hs.length=l.length->T N w0 V' H' M φ):T N w0 V H M φ:=λa w hf hp=>by
 obtain⟨hl,h1⟩:=(hp.perm (hP.trans (List.Perm.swap _ _ _))).opened;replace hl:=hl.len;rw[List.length_map] at hl;have h2:Hp w0 V ((row tn eHdr A c hs::jM ty hs (l.map i_))++H') w:=h1.perm y_;obtain⟨V',hv,h3,h4⟩:=h2.freezeAll;refine q V' hv ?_ hl a w hf h3;have hU:∀x∈row tn eHdr A c hs::jM ty hs (l.map i_),∀b,x.own b->(made w0 V') b=w.heap[b]?:=λx hx b hb=>by obtain⟨e1,e2⟩:=h4 x hx b hb;unfold made;rw[if_neg o_];exact e1
 have hrow:=uw (U:=made w0 V') (λ_ _ _ _ h=>h) (h2.objs _ a_) (hU _ a_);obtain⟨k1,k2,xs,k3,k4⟩:=hrow;refine⟨by omega,k2,xs,⟨by rw[k3.1,hl];rfl,λk n hn=>?_⟩,k4⟩;have hkl:=(p_.1 hn).1;have hh:hs[k]? = some (hs[k]'o_):=N_ o_;have hc:=k3.2 k _ hh;have hmem:=lH ty hs (l.map i_) k _ n 0 hh (by rw[List.getElem?_map,hn];rfl);have hfit:Fits (hs[k]'o_) n:=h2.objs _ (x_ _ (d_ _ (hmem.mem_iff.2 a_)));have hin:∀x∈iU ty (hs[k]'o_) n,x∈row tn eHdr A c hs::jM ty hs (l.map i_):=λx hx=>d_ _ (hmem.mem_iff.2 (d_ _ (x_ _ hx)))
 have hsl:∀ {α:Type} {E:Enc α} {e:TypeId} {B:Option Addr} {d:Nat} {m:List α},(∀V V' cs x,E.rep V cs x->E.rep V' cs x)->row e E B d m∈iU ty (hs[k]'o_) n->hJ (made w0 V') E B d m:=λhfl hx =>
  uw hfl (h2.objs _ (x_ _ (hin _ hx))) (hU _ (hin _ hx))
 generalize hs[k]'o_=hd at *
 obtain⟨kk,a1,n1,c1,a2,n2,c2,a3,n3,c3,a4,n4,c4⟩:=hd;obtain⟨f0,f1,f2,f3,f4⟩:=hfit;dsimp only at f0 f1 f2 f3 f4;subst f0 f1 f2 f3 f4;exact⟨a1,c1,a2,c2,a3,c3,a4,c4,hc,hsl (e:=ty.te) (λ_ _ _ _ h=>h) a_,hsl (e:=ty.ti) (λ_ _ _ _ h=>h) (d_ _ a_),hsl (e:=ty.ts) (λ_ _ _ _ h=>h) (d_ _ (d_ _ a_)),hsl (e:=ty.ti) (λ_ _ _ _ h=>h) (d_ _ (d_ _ (d_ _ a_)))⟩
theorem kD {ns:List (Int⊕DNode)} {i:Int} {n:DNode} {u:Unit} (h:ll ns i=some u):kI (jA ns i n) i=some n:=by
 unfold ll at h;split at h
 . rename_i hi;unfold kI jA;rw[if_neg o_,v_ o_];rfl
 . cases h
theorem tS (ns:List (Int⊕DNode)) (i:Int) (n:DNode):jA (ja ns i) i n=jA ns i n:=by unfold jA ja;rw[M_]
theorem tT {ns:List (Int⊕DNode)} {i:Int} {n:DNode} (x:Int⊕DNode):jA (ns.set i.toNat x) i n=jA ns i n:=by unfold jA;rw[M_]
theorem tC {ns:List (Int⊕DNode)} {i:Int} {u:Unit} (h:ll ns i=some u):0<=i/\i.toNat<ns.length:=by
 unfold ll at h;split at h
 . omega
 . cases h
theorem TreeOk.set_at {hs:List DHdr} {ns:List (Int⊕DNode)} (ht:TreeOk hs ns) {i:Int} {u:Unit} (h':DHdr) (h:ll ns i=some u):(hs.set i.toNat h')[i.toNat]? = some h':=by have:=tC h;rw[v_ (by rw[ht.len];exact this.2)]
def uO (a b:DNode):Option Unit:=if a.elems.length=b.elems.length/\a.kids.length=b.kids.length/\a.seps.length=b.seps.length/\a.tids.length=b.tids.length then some () else none
theorem lF {a b:DNode} {u:Unit} (h:uO a b=some u):a.elems.length=b.elems.length/\a.kids.length=b.kids.length/\a.seps.length=b.seps.length/\a.tids.length=b.tids.length:=by
 unfold uO at h;split at h
 . assumption
 . cases h
section
variable {N:Sz} {w0:World} {V:View} {H X H':List HObj} {M:List (Nat×Value)} {φ:Act->World->Prop} {ty:TreeTy} {hs:List DHdr} {ns:List (Int⊕DNode)} {k:Int} {n:DNode} {h:DHdr}
theorem T.mB (X:List HObj) (h:DHdr) (n:DNode) (hP:H.Perm (row ty.te eElem h.a1 h.c1 n.elems::row ty.ti hO h.a2 h.c2 n.kids::row ty.ts eSpot h.a3 h.c3 n.seps::row ty.ti hO h.a4 h.c4 n.tids::iA ty hs ns::X)) (hf:Fits h n) {u:Unit} (hk:ll ns k=some u)
 (q:T N w0 V (iA ty (hs.set k.toNat h) (jA ns k n)::X) M φ):T N w0 V H M φ:=λa w hfr hp=>by
 have h1:=hp.perm hP;have h0:=tC hk;obtain⟨hok,-⟩:=(h1.perm (y_ (l₁:=iU ty h n))).opened;have hlen:k.toNat<hs.length:=by have:=hok.len;omega
 have e1:(hs.set k.toNat h)[k.toNat]? = some h:=v_ hlen;rw[<-tS,<-tT (.inl h.kind)] at q;refine T.uE (H:=row ty.te eElem h.a1 h.c1 n.elems::row ty.ti hO h.a2 h.c2 n.kids::row ty.ts eSpot h.a3 h.c3 n.seps::row ty.ti hO h.a4 h.c4 n.tids::iA ty hs ns::X) 4 k rfl rfl ?_ a w hfr h1;refine T.ue 4 k.toNat h rfl (uP hk) rfl ?_;exact T.vg (h:=h) (n:=n) (r:=h.kind) (List.Perm.refl _) h0.1 (v_ (by unfold ja;rw[B_];exact h0.2)) e1 hf q
theorem T.sJ (X:List HObj) (h:DHdr) (n:DNode) (hP:H.Perm (row ty.te eElem h.a1 h.c1 n.elems::row ty.ti hO h.a2 h.c2 n.kids::row ty.ts eSpot h.a3 h.c3 n.seps::row ty.ti hO h.a4 h.c4 n.tids::iA ty hs ns::X)) (hf:Fits h n) (ht:TreeOk hs ns) (h0:0<=k) (hh:hs[k.toNat]? = some h)
 (q:T N w0 V (iA ty hs (jA ns k n)::X) M φ):T N w0 V H M φ:=by
 have hlt:=(p_.1 hh).1;have hk:ll ns k=some ():=by unfold ll;rw[if_pos ⟨h0,by have:=ht.len;omega⟩]
 refine T.mB X h n hP hf hk ?_
 have e:hs.set k.toNat h=hs:=List.ext_getElem? λj=>by
  rw[C_];split
  . rename_i e;subst e;first|rw[if_pos hlt,hh]|exact hh.symm
  . rfl
 rw[e];exact q
theorem T.mA {α:Type} {E:Enc α} {f:α->List Value} {l:List α} {b t:Nat} (i:Nat) (H':List HObj) (hi:nth H i=some (box b t (l.flatMap f))) (hf:∀V x,E.rep V (f x) x) (hl:0<l.length) (hm:l.length<=maxLen) (hH:H.set i (row t E (some ⟨b,0,none⟩) l.length l)=H')
 (q:T N w0 V H' M φ):T N w0 V H M φ:=λa w hfr hh=>by
 rw[jJ] at hi;have hbox:w.heap[b]? = some (.cells (l.flatMap f).toArray t (0,0)):=hh.objs _ (f_ hi);have hrep:iH V E (l.flatMap f) l:=nY hf l;have hlen:=hrep.1;have hblk:jd (some (⟨b,0,none⟩:Addr)) l.length=some b:=by unfold jd;rw[if_neg o_];rfl
 refine q a w hfr (hH▸hh.turn (o:=none) hi ⟨rfl,rfl,rfl,j_ _,λ_ _ _=>rfl⟩ ?_ (λb' hb'=>.inl ?_))
 . exact⟨j_ _,hm,.inr ⟨b,_,_,(l.flatMap f),⟨rfl,hbox,λ_=>rfl,λi _ h=>by simp at h,by rw[List.size_toArray,hlen],by rw[<-hlen,List.take_length],hrep⟩⟩⟩
 . exact hblk.symm.trans hb'
end
end
end Go.Proofs.YtnofgfobljadbaaGreat
