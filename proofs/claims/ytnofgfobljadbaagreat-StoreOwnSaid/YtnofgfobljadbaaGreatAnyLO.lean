/- Regions whose order is open, with one operation that writes late: what is read ahead of it may be read first; paths that meet again go on as one. Its conditions: none. -/
import Derived.Test.YtnofgfobljadbaaGreatRangeO
open List renaming not_mem_nil→a_
open Array renaming getElem?_eq_none→d_, setIfInBounds_comm→f_, getElem?_eq_getElem→g_
namespace Go.Proofs.YtnofgfobljadbaaGreat
set_option linter.unusedSimpArgs false
set_option linter.unusedVariables false
section
section
variable {P:Program} {md:Region.Mode} {ops:Array Oper} {Q:Exit->Act->World->Prop} {S S1:World->Prop} {j0:Nat}
def jn (P:Program) (md:Region.Mode) (ops:Array Oper) (Q:Exit->Act->World->Prop) (j0:Nat) (S:World->Prop):Nat->Array Bool->Act->World->Prop
 |0=>λlisted a w=>Region.ready md ops listed=[]/\Q .normal a w
 |n + 1=>λlisted a w=>(Region.ready md ops listed=[]->Q .normal a w)/\∀k∈Region.ready md ops listed,wpOp P ops Q k (λb u=>((listed.setIfInBounds k true).getD j0 true=false->S u)/\jn P md ops Q j0 S n (listed.setIfInBounds k true) b u) a w
theorem qA:∀(n:Nat) (listed:Array Bool) (a:Act) (w:World),jn P md ops Q j0 S n listed a w->wpAny P md ops Q n listed a w
 |0,_,_,_,h=>h
 |n + 1,listed,_,_,h=>⟨h.1,λk hk=>wpOp_mono (λb u hb=>qA n _ b u hb.2) (h.2 k hk)⟩
theorem sO {listed:Array Bool} {a:Act} {w:World} (hr:Region.ready md ops listed=[]) (h:Q .normal a w) (n:Nat):jn P md ops Q j0 S n listed a w:=by
 cases n with
 |zero=>exact⟨hr,h⟩
 |succ n=>exact⟨λ_=>h,λk hk=>by rw[hr] at hk;cases hk⟩
theorem mW {i:Nat} {oi:Oper} {v:Value} (hi:ops[i]? = some oi) (hsel:∀(j:Nat) (o:Oper) cs b,ops[j]? = some o->o.op≠.select cs b)
 (hQ:∀c a w,Q (.panic c) (a.put oi.dst v) w->Q (.panic c) a w) (hne:i≠j0) (G:Array Bool->Prop)
 (hG:∀listed j,G listed->j∈Region.ready md ops listed->j≠i->G (listed.setIfInBounds j true))
 (hS1:∀listed w,G listed->listed.getD i true=false->(listed.getD j0 true=false->S w)->S1 w) (n:Nat) :
 ∀(listed:Array Bool) (a:Act) (w:World),
  (∀j oj,ops[j]? = some oj->j≠i->listed.getD j true=false->(∀e∈oj.after,Region.binds md e=true->e.on≠i)->oi.apart ops oj=true) ->
  i∈Region.ready md ops listed->YieldsIf P ops S1 oi v a->G listed->(listed.getD j0 true=false->S w) ->
  jn P md ops Q j0 S n (listed.setIfInBounds i true) (a.put oi.dst v) w->jn P md ops Q j0 S (n + 1) listed a w:=by
 induction n with
 |zero =>
  intro listed a w _ hr hy hg hs H;refine⟨λh=>absurd (h▸hr) a_,λj hj=>?_⟩;by_cases hji:j=i
  . subst hji;exact hy.wpOp hi (hS1 _ _ hg (mem_ready.1 hr).1 hs) ⟨λh=>hs (by rwa[getD_set_ne true hne] at h),H⟩
  . exact absurd (H.1▸ready_mono hj hji) a_
 |succ n ih =>
  intro listed a w hfree hr hy hg hs H;refine⟨λh=>absurd (h▸hr) a_,λj hj=>?_⟩;by_cases hji:j=i
  . subst hji;exact hy.wpOp hi (hS1 _ _ hg (mem_ready.1 hr).1 hs) ⟨λh=>hs (by rwa[getD_set_ne true hne] at h),H⟩
  . obtain⟨hju,oj,hoj,hall⟩:=mem_ready.1 hj;have hiu:=(mem_ready.1 hr).1
    have hno:∀e∈oj.after,Region.binds md e=true->e.on≠i:=λe he hb hei=>by
     have g1:=hall e he hb;rw[hei] at g1;rcases Nat.lt_or_ge i listed.size with hlt|hge
     . simp[hlt] at hiu g1;rw[hiu] at g1;cases g1
     . simp[d_ hge] at g1
    have h2:=wpOp_putIf hoj (hfree j oj hoj hji hju hno) (λcs b=>hsel i oi cs b hi) (λcs b=>hsel j oj cs b hoj) hQ hy (H.2 j (ready_mono hj hji));refine wpOp_mono (λb u h3=>?_) h2;obtain⟨hy',hs',hrest⟩:=h3
    have hs2:(listed.setIfInBounds j true).getD j0 true=false->S u:=λhq=>hs' (by
     rw[f_ _ _ (Ne.symm hji),getD_set_ne true hne];exact hq)
    refine⟨hs2,ih (listed.setIfInBounds j true) b u (λk ok hk hki hun hnk=>hfree k ok hk hki ?_ hnk) (ready_mono hr (Ne.symm hji)) hy' (hG _ _ hg hj hji) hs2 ?_⟩
    . by_cases hjk:j=k
      . subst hjk;exact hju
      . rwa[getD_set_ne true hjk] at hun
    . rw[f_ _ _ hji];exact hrest
def pJ (md:Region.Mode) (ops:Array Oper) (j k:Nat):Bool:=match ops[j]? with
 |some o=>o.after.any λe=>Region.binds md e&&e.on==k
 |none=>false
def pW (md:Region.Mode) (ops:Array Oper):Nat->List Nat->Nat->Bool
 |j,[],i=>pJ md ops j i
 |j,k::c,i=>pJ md ops j k&&pW md ops k c i
def qR (md:Region.Mode) (ops:Array Oper) (listed:Array Bool):Bool:=(List.range ops.size).all λk=>!listed.getD k true||match ops[k]? with
 |some o=>o.after.all λe=>!Region.binds md e||listed.getD e.on false
 |none=>true
def nF (md:Region.Mode) (ops:Array Oper) (listed:Array Bool):Prop:=∀(k:Nat) (o:Oper),ops[k]? = some o->listed.getD k true=true->∀e∈o.after,Region.binds md e=true->listed.getD e.on false=true
theorem tw {listed:Array Bool} (h:qR md ops listed=true):nF md ops listed:=λk o hk hl e he hb=>by have h1:=List.all_eq_true.1 h k (List.mem_range.2 (Array.getElem?_eq_some_iff.1 hk).1);rw[hl,hk] at h1;have h3:(o.after.all λe=>!Region.binds md e||listed.getD e.on false)=true:=h1;have h2:=Array.all_eq_true'.1 h3 e he;rw[hb] at h2;exact h2
theorem rq {listed:Array Bool} (h:nF md ops listed) {j:Nat} (hj:j∈Region.ready md ops listed):nF md ops (listed.setIfInBounds j true):=λk o hk hl e he hb=>by
 obtain⟨_,oj,hoj,hall⟩:=mem_ready.1 hj;by_cases hjk:j=k
 . subst hjk;obtain rfl:=Option.some.inj (hoj.symm.trans hk);exact getD_set_true (hall e he hb)
 . rw[getD_set_ne true hjk] at hl;exact getD_set_true (h k o hk hl e he hb)
theorem sU {listed:Array Bool} {k:Nat} (h:listed.getD k false=true):listed.getD k true=true:=by
 rcases Nat.lt_or_ge k listed.size with hlt|hge
 . simp[hlt] at h ⊢;exact h
 . simp[d_ hge] at h
theorem nS {listed:Array Bool} (h:nF md ops listed) {j i:Nat} (hc:pJ md ops j i=true) (hl:listed.getD j true=true):listed.getD i false=true:=by
 unfold pJ at hc;split at hc
 . rename_i o ho;obtain⟨e,he,hb⟩:=Array.any_eq_true'.1 hc;simp only[Bool.and_eq_true,beq_iff_eq] at hb;rw[<-hb.2];exact h j o ho hl e he hb.1
 . cases hc
theorem ow {listed:Array Bool} (h:nF md ops listed):∀(c:List Nat) (j i:Nat),pW md ops j c i=true->listed.getD j true=true->listed.getD i false=true
 |[],j,i,hc,hl=>nS h hc hl
 |k::c,j,i,hc,hl=>by unfold pW at hc;rw[Bool.and_eq_true] at hc;exact ow h c k i hc.2 (sU (nS h hc.1 hl))
end
section
variable {P:Program} {N:Sz} {w0:World} {V V0:View} {H H0:List HObj} {M:List (Nat×Value)} {ops:Array Oper} {Q:Exit->Act->World->Prop} {o:Oper} {fuel:Nat} {listed:Array Bool} {j0:Nat}
theorem T.js {id:Nat} {l:List Oper} (j0:Nat) (H0:List HObj) (hm:P.follows .mixedOrders=true)
 (h:T N w0 V H M (jn P .any l.toArray Q j0 (Hp w0 V H0) l.length (Array.replicate l.length false))):T N w0 V H M ((Code.region id l.toArray true).wpIn (RF none) 0 P Q) :=
 λa w hf hh=>wpIn_wide.2 (wp_region_any hm (qA _ _ _ _ (by simpa using h a _ hf hh.drew)))
theorem TL.uA {fuel:Nat} (hr:Region.ready .any ops listed=[]) (h:T N w0 V H M (Q .normal)):T N w0 V H M (jn P .any ops Q j0 (Hp w0 V0 H0) fuel listed) :=
 λa w hf hh=>sO hr (h a w hf hh) fuel
theorem TL.uB (i:Nat) (v:Value) (c:List Nat) (hi:ops[i]? = some o) (hsel:Region.noSelect ops=true) (hfree:Region.free .any ops listed i=true) (hr:(Region.ready .any ops listed).contains i=true)
 (hQ:∀c a w,Q (.panic c) (a.put o.dst v) w->Q (.panic c) a w) (hne:(i==j0)=false) (hch:pW .any ops j0 c i=true) (hcl:qR .any ops listed=true) (hS:∀w,Hp w0 V H w->Hp w0 V0 H0 w)
 (hc:okO N ops M o=true) (hv:∀w,Hp w0 V0 H0 w->(execOp (evM M) o).run P w=.ok (.value v) w)
 (h:T N w0 V H (ic o.dst v M) (jn P .any ops Q j0 (Hp w0 V0 H0) fuel (listed.setIfInBounds i true))):T N w0 V H M (jn P .any ops Q j0 (Hp w0 V0 H0) (fuel + 1) listed):=λa w hf hh=>by
 obtain⟨h1,_,_,h4⟩:=iP hc;refine mW (S1:=Hp w0 V0 H0) hi (Region.noSelect_spec hsel) hQ (ne_of_beq_false hne) (nF .any ops) (λl j hg hj _=>rq hg hj) (λl u hg hl hs=>hs ?_) fuel listed a w (Region.free_spec hi hfree) (by simpa using hr) (.inl ⟨iM hf h1,λw' hw'=>?_⟩) (tw hcl) (λ_=>hS w hh) (h _ _ (hf.put h4 v) hh)
 . cases hj:l.getD j0 true with
   |false=>rfl
   |true=>rw[sU (ow hg c j0 i hch hj)] at hl;cases hl
 . rw[ja hc hf];exact hv w' hw'
theorem TL.tW (i:Nat) (v:Value) (hi:ops[i]? = some o) (hsel:Region.noSelect ops=true) (hfree:Region.free .any ops listed i=true) (hr:(Region.ready .any ops listed).contains i=true)
 (hQ:∀c a w,Q (.panic c) (a.put o.dst v) w->Q (.panic c) a w) (hne:(i==j0)=false) (hS:∀w,Hp w0 V H w->Hp w0 V0 H0 w)
 (hc:okO N ops M o=true) (hv:∀w,(execOp (evM M) o).run P w=.ok (.value v) w)
 (h:T N w0 V H (ic o.dst v M) (jn P .any ops Q j0 (Hp w0 V0 H0) fuel (listed.setIfInBounds i true))):T N w0 V H M (jn P .any ops Q j0 (Hp w0 V0 H0) (fuel + 1) listed):=λa w hf hh=>by
 obtain⟨h1,_,_,h4⟩:=iP hc;refine mW (S1:=λ_=>True) hi (Region.noSelect_spec hsel) hQ (ne_of_beq_false hne) (λ_=>True) (λ_ _ _ _ _=>trivial) (λ_ _ _ _ _=>trivial) fuel listed a w (Region.free_spec hi hfree) (by simpa using hr) (.inl ⟨iM hf h1,λw' _=>?_⟩) trivial (λ_=>hS w hh) (h _ _ (hf.put h4 v) hh);rw[ja hc hf];exact hv w'
theorem TL.kX (i:Nat) (v:Value) (hi:ops[i]? = some o) (hsel:Region.noSelect ops=true) (hfree:Region.free .any ops listed i=true) (hr:(Region.ready .any ops listed).contains i=true)
 (hQ:∀c a w,Q (.panic c) (a.put o.dst v) w->Q (.panic c) a w) (hne:(i==j0)=false) (hj:listed.getD j0 true=true)
 (hc:okO N ops M o=true) (hv:∀w,(execOp (evM M) o).run P w=.ok (.value v) w)
 (h:T N w0 V H (ic o.dst v M) (jn P .any ops Q j0 (Hp w0 V0 H0) fuel (listed.setIfInBounds i true))):T N w0 V H M (jn P .any ops Q j0 (Hp w0 V0 H0) (fuel + 1) listed):=λa w hf hh=>by
 obtain⟨h1,_,_,h4⟩:=iP hc;refine mW (S1:=λ_=>True) hi (Region.noSelect_spec hsel) hQ (ne_of_beq_false hne) (λ_=>True) (λ_ _ _ _ _=>trivial) (λ_ _ _ _ _=>trivial) fuel listed a w (Region.free_spec hi hfree) (by simpa using hr) (.inl ⟨iM hf h1,λw' _=>?_⟩) trivial (λh=>by rw[hj] at h;cases h) (h _ _ (hf.put h4 v) hh);rw[ja hc hf];exact hv w'
def TBL (P:Program) (Q:Exit->Act->World->Prop) (ops:Array Oper) (N:Sz) (w0:World) (V V0:View) (H H0:List HObj) (M:List (Nat×Value)) (j0 fuel:Nat) (listed:Array Bool) (i:Nat):Prop:=∀o,ops[i]? = some o->W1 P Q ops o N w0 V H M (λa' w'=>((listed.setIfInBounds i true).getD j0 true=false->Hp w0 V0 H0 w')/\jn P .any ops Q j0 (Hp w0 V0 H0) fuel (listed.setIfInBounds i true) a' w')
theorem TL.tU (rs:List Nat) (hr:Region.ready .any ops listed=rs) (hne:rs.isEmpty=false) (h:TBs (TBL P Q ops N w0 V V0 H H0 M j0 fuel listed) rs) :
 T N w0 V H M (jn P .any ops Q j0 (Hp w0 V0 H0) (fuel + 1) listed):=λa w hf hh=>by
 refine⟨λe=>(by rw[hr] at e;rw[e] at hne;cases hne),λi hi=>?_⟩;have hlt:i<ops.size:=by have h1:=(List.mem_filter.1 hi).1;simpa using h1
 obtain⟨h1,h2⟩:=h.get i (hr▸hi) ops[i] (g_ hlt) a w hf hh;unfold wpOp;simp only[g_ hlt];rw[if_pos h1];exact .inl h2
theorem TL.br {i:Nat} {o:Oper} (ho:ops[i]? = some o)
 (h:W1 P Q ops o N w0 V H M (λa' w'=>((listed.setIfInBounds i true).getD j0 true=false->Hp w0 V0 H0 w')/\jn P .any ops Q j0 (Hp w0 V0 H0) fuel (listed.setIfInBounds i true) a' w')):TBL P Q ops N w0 V V0 H H0 M j0 fuel listed i:=λo' ho'=>by
 obtain rfl:=Option.some.inj (ho.symm.trans ho');exact h
theorem TL.on {b:Bool} {V':View} {H':List HObj} {M':List (Nat×Value)} {ψ:Act->World->Prop} (hS:∀w,Hp w0 V' H' w->Hp w0 V0 H0 w) (h:T N w0 V' H' M' ψ):T N w0 V' H' M' (λa w=>(b=false->Hp w0 V0 H0 w)/\ψ a w) :=
 λa w hf hh=>⟨λ_=>hS w hh,h a w hf hh⟩
theorem TL.ju {b:Bool} {V':View} {H':List HObj} {M':List (Nat×Value)} {ψ:Act->World->Prop} (hb:b=true) (h:T N w0 V' H' M' ψ):T N w0 V' H' M' (λa w=>(b=false->Hp w0 V0 H0 w)/\ψ a w) :=
 λa w hf hh=>⟨λh=>(by rw[hb] at h;cases h),h a w hf hh⟩
theorem TL.tV (n:Nat) (l':Array Bool) (I:Act->World->Prop) (h2:∀a w,I a w->jn P .any ops Q j0 (Hp w0 V0 H0) n l' a w)
 (h1:(∀a w,I a w->jn P .any ops Q j0 (Hp w0 V0 H0) n l' a w)->T N w0 V H M (jn P .any ops Q j0 (Hp w0 V0 H0) fuel listed)):T N w0 V H M (jn P .any ops Q j0 (Hp w0 V0 H0) fuel listed):=h1 h2
theorem TL.jG {l':Array Bool} {I:Act->World->Prop} (h2:∀a w,I a w->jn P .any ops Q j0 (Hp w0 V0 H0) fuel l' a w) (he:listed=l') (h:∀a w,Fr N M a->Hp w0 V H w->I a w):T N w0 V H M (jn P .any ops Q j0 (Hp w0 V0 H0) fuel listed):=λa w hf hh=>by subst he;exact h2 a w (h a w hf hh)
end
end
end Go.Proofs.YtnofgfobljadbaaGreat
