/- Plain Lean: parts of trees, as chains of spans; what stays of them when other nodes are written. Its conditions: none. -/
import Derived.Test.YtcmkdoahkncakaaMBuildH
import Derived.Test.YtcmkdoahkncakaaTreeOH
namespace Go.Proofs.Ytcmkdoahkncakaa
set_option linter.unusedSimpArgs false
set_option linter.unusedVariables false
section
def hiS (s:Span)(x:DSpot):Span:={ s with hi:=x,hasHi:=true }
def loS (s:Span)(x:DSpot):Span:={ s with lo:=x,hasLo:=true }
theorem Et {s:Span}{x y:DSpot}:inS (hiS s x) y=true↔(s.hasLo=true→cmpS s.lo y≤0)∧cmpS y x<0:=by
 rw [DW];unfold hiS;simp
theorem Fp {s:Span}{x y:DSpot}:inS (loS s x) y=true↔cmpS x y≤0∧(s.hasHi=true→cmpS y s.hi<0):=by
 rw [DW];unfold loS;simp
theorem ED {s:Span}{x y:DSpot}(hx:inS s x=true)(h:inS (hiS s x) y=true):inS s y=true:=by
 rw [Et] at h
 rw [DW] at hx ⊢
 exact⟨h.1,fun hh=>DC.lt_trans h.2 (hx.2 hh)⟩
theorem EZ {s:Span}{x y:DSpot}(hx:inS s x=true)(h:inS (loS s x) y=true):inS s y=true:=by
 rw [Fp] at h
 rw [DW] at hx ⊢
 exact⟨fun hh=>Jf (hx.1 hh) h.1,h.2⟩
def Ch (P:Int→Int→Span→Prop):List DSpot→Span→List Int→List Int→Prop
 | [],s,ks,ts=>∃ k t,ks=[k]∧ts=[t]∧P k t s
 | x::xs,s,ks,ts=>∃ k ks' t ts',ks=k::ks'∧ts=t::ts'∧inS s x=true∧P k t (hiS s x)∧Ch P xs (loS s x) ks' ts'
section
variable {P Q:Int→Int→Span→Prop}
theorem Ch.lens : ∀ {xs:List DSpot} {s:Span} {ks ts:List Int},Ch P xs s ks ts→xs.length+1=ks.length∧ts.length=ks.length
 | [],s,ks,ts,⟨k,t,h1,h2,_⟩=>by subst h1 h2;exact⟨rfl,rfl⟩
 | x::xs,s,ks,ts,⟨k,ks',t,ts',h1,h2,_,_,c⟩=>by
  subst h1 h2
  have:=c.lens
  simp only [List.length_cons];omega
theorem Ch.mono : ∀ {xs:List DSpot} {s:Span} {ks ts:List Int},(∀ k t s',k∈ks→P k t s'→Q k t s')→Ch P xs s ks ts→Ch Q xs s ks ts
 | [],s,ks,ts,h,⟨k,t,h1,h2,c⟩=>⟨k,t,h1,h2,h _ _ _ (by rw [h1];exact List.mem_cons_self) c⟩
 | x::xs,s,ks,ts,h,⟨k,ks',t,ts',h1,h2,h3,h4,c⟩=>⟨k,ks',t,ts',h1,h2,h3,h _ _ _ (by rw [h1];exact List.mem_cons_self) h4,c.mono fun k t s' hk=>h k t s' (by rw [h1];exact List.mem_cons_of_mem _ hk)⟩
theorem Ch.mem : ∀ {xs:List DSpot} {s:Span} {ks ts:List Int},Ch P xs s ks ts→∀ k∈ks,∃ t s',P k t s'∧∀ y,inS s' y=true→inS s y=true
 | [],s,ks,ts,⟨k,t,h1,h2,c⟩,q,hq=>by
  subst h1
  rw [List.mem_singleton.1 hq];exact⟨t,s,c,fun _ h=>h⟩
 | x::xs,s,ks,ts,⟨k,ks',t,ts',h1,h2,h3,h4,c⟩,q,hq=>by
  subst h1
  rcases List.mem_cons.1 hq with rfl | hq
  · exact⟨t,_,h4,fun y h=>ED h3 h⟩
  · obtain⟨t',s',i1,i2⟩:=c.mem q hq
    exact⟨t',s',i1,fun y h=>EZ h3 (i2 y h)⟩
theorem Ch.seps : ∀ {xs:List DSpot} {s:Span} {ks ts:List Int},Ch P xs s ks ts→∀ x∈xs,inS s x=true
 | [],s,ks,ts,c,y,hy=>by cases hy
 | x::xs,s,ks,ts,⟨k,ks',t,ts',h1,h2,h3,h4,c⟩,y,hy=>by
  rcases List.mem_cons.1 hy with rfl | hy
  · exact h3
  · exact EZ h3 (c.seps y hy)
theorem Ch.at_ : ∀ {xs:List DSpot} {s:Span} {ks ts:List Int},Ch P xs s ks ts→∀(q:Nat) (k:Int),ks[q]? = some k→∃ t s',ts[q]? = some t∧P k t s'∧∀ y,inS s' y=true→inS s y=true
 | [],s,ks,ts,⟨k,t,h1,h2,c⟩,q,k',hq=>by
  subst h1 h2
  cases q with
  | zero => obtain rfl : k = k' := by simpa using hq
            exact⟨t,s,rfl,c,fun _ h=>h⟩
  | succ q=>simp at hq
 | x::xs,s,ks,ts,⟨k,ks',t,ts',h1,h2,h3,h4,c⟩,q,k',hq=>by
  subst h1 h2
  cases q with
  | zero => obtain rfl : k = k' := by simpa using hq
            exact⟨t,_,rfl,h4,fun y h=>ED h3 h⟩
  | succ q =>
   obtain⟨t',s',i1,i2,i3⟩:=c.at_ q k' (by simpa using hq)
   exact⟨t',s',by simpa using i1,i2,fun y h=>EZ h3 (i3 y h)⟩
theorem Ch.join : ∀ {xs:List DSpot} {s:Span} {ks ts ks' ts' : List Int} {xs' : List DSpot} {x:DSpot},inS s x=true→Ch P xs (hiS s x) ks ts→Ch P xs' (loS s x) ks' ts'→Ch P (xs++x::xs') s (ks++ks') (ts++ts')
 | [],s,ks,ts,ks',ts',xs',x,hx,⟨k,t,h1,h2,c⟩,c'=>⟨k,ks',t,ts',by rw [h1];rfl,by rw [h2];rfl,hx,c,c'⟩
 | y::xs,s,ks,ts,ks',ts',xs',x,hx,⟨k,ks1,t,ts1,h1,h2,h3,h4,c⟩,c'=>by
  subst h1 h2
  have hy:=Et.1 h3
  have e1:loS (hiS s x) y=hiS (loS s y) x:=rfl
  have e2:loS s x=loS (loS s y) x:=rfl
  exact⟨k,ks1++ks',t,ts1++ts',rfl,rfl,ED hx h3,h4,Ch.join (s:=loS s y) (Fp.2 ⟨by omega,fun hh=>(DW.1 hx).2 hh⟩) (e1▸c) (e2▸c')⟩
theorem Ch.split : ∀ {xs:List DSpot} {s:Span} {ks ts ks' ts' : List Int} {xs' : List DSpot} {x:DSpot},xs.length+1=ks.length→ts.length=ks.length→(xs++x::xs').Pairwise SpotO→Ch P (xs++x::xs') s (ks++ks') (ts++ts') →
 inS s x=true∧Ch P xs (hiS s x) ks ts∧Ch P xs' (loS s x) ks' ts'
 | [],s,ks,ts,ks',ts',xs',x,h1,h2,ho,⟨k,ks1,t,ts1,e1,e2,i1,i2,c⟩=>by
  obtain⟨a,rfl⟩:=List.length_eq_one_iff.1 h1.symm
  obtain⟨b,rfl⟩:=List.length_eq_one_iff.1 h2
  obtain⟨rfl,rfl⟩ : a=k∧ks' = ks1:=by simpa using e1
  obtain⟨rfl,rfl⟩ : b=t∧ts' = ts1:=by simpa using e2
  exact⟨i1,⟨a,b,rfl,rfl,i2⟩,c⟩
 | y::xs,s,ks,ts,ks',ts',xs',x,h1,h2,ho,⟨k,ks1,t,ts1,e1,e2,i1,i2,c⟩=>by
  rw [List.cons_append,List.pairwise_cons] at ho
  have hyx:cmpS y x<0:=ho.1 x (by simp)
  cases ks with
  | nil=>simp at h1
  | cons a ks =>
  cases ts with
  | nil=>simp at h2
  | cons b ts =>
  obtain⟨rfl,rfl⟩ : a=k∧ks++ks' = ks1:=by simpa using e1
  obtain⟨rfl,rfl⟩ : b=t∧ts++ts' = ts1:=by simpa using e2
  obtain⟨j1,j2,j3⟩:=Ch.split (s:=loS s y) (by simpa using h1) (by simpa using h2) ho.2 c
  exact⟨EZ i1 j1,⟨a,ks,b,ts,rfl,rfl,Et.2 ⟨(DW.1 i1).1,hyx⟩,i2,j2⟩,j3⟩
theorem Ch.focus : ∀ {XA XM XB:List DSpot} {A M B TA TM TB:List Int} {s:Span},XA.length=A.length→TA.length=A.length→XM.length+1=M.length→TM.length=M.length→XB.length=B.length→TB.length=B.length →
 (XA++(XM++XB)).Pairwise SpotO→Ch P (XA++(XM++XB)) s (A++(M++B)) (TA++(TM++TB)) →
 ∃ s',Ch P XM s' M TM∧(∀ y,inS s' y=true→inS s y=true)∧(∀ x∈XA,∀ y,inS s' y=true→cmpS x y≤0)∧(∀ x∈XB,∀ y,inS s' y=true→cmpS y x<0) ∧
  (∀ y,inS s y=true→(∀ x∈XA,cmpS x y≤0)→(∀ x∈XB,cmpS y x<0)→inS s' y=true) ∧
  ∀ Q:Int→Int→Span→Prop,(∀ k t s',k∈A∨k∈B→P k t s'→Q k t s')→∀ M' XM' TM',Ch Q XM' s' M' TM'→Ch Q (XA++(XM'++XB)) s (A++(M'++B)) (TA++(TM'++TB))
 | [],XM,[],A,M,B,TA,TM,TB,s,h1,h2,_,_,h5,h6,_,c=>by
  obtain rfl:=List.eq_nil_of_length_eq_zero h1.symm
  obtain rfl:=List.eq_nil_of_length_eq_zero h2
  obtain rfl:=List.eq_nil_of_length_eq_zero h5.symm
  obtain rfl:=List.eq_nil_of_length_eq_zero h6
  exact⟨s,by simpa using c,fun _ h=>h,by simp,by simp,fun _ h _ _=>h,fun Q _ M' XM' TM' c'=>by simpa using c'⟩
 | [],XM,x::XB,A,M,B,TA,TM,TB,s,h1,h2,h3,h4,h5,h6,ho,c=>by
  obtain rfl:=List.eq_nil_of_length_eq_zero h1.symm
  obtain rfl:=List.eq_nil_of_length_eq_zero h2
  obtain⟨i1,i2,i3⟩:=Ch.split (s:=s) h3 h4 ho c
  refine⟨hiS s x,i2,fun y h=>ED i1 h,by simp,fun z hz y hy=>?_,fun y hy _ hb=>?_,fun Q hPQ M' XM' TM' c'=>?_⟩
  · have hyx:=(Et.1 hy).2
    rcases List.mem_cons.1 hz with rfl | hz
    · exact hyx
    · have:cmpS x z<0:=(List.pairwise_cons.1 (List.pairwise_append.1 (show (XM++x::XB).Pairwise SpotO from ho)).2.1).1 z hz
      exact DC.lt_trans hyx this
  · exact Et.2 ⟨(DW.1 hy).1,hb x List.mem_cons_self⟩
  · show Ch Q (XM'++x::XB) s (M'++B) (TM'++TB)
    exact Ch.join i1 c' (i3.mono fun k t s' hk=>hPQ k t s' (.inr hk))
 | x::XA,XM,XB,A,M,B,TA,TM,TB,s,h1,h2,h3,h4,h5,h6,ho,⟨k,ks1,t,ts1,e1,e2,c1,c2,c⟩=>by
  rw [List.cons_append,List.pairwise_cons] at ho
  cases A with
  | nil=>simp at h1
  | cons a A =>
  cases TA with
  | nil=>simp at h2
  | cons b TA =>
  obtain⟨rfl,rfl⟩ : a=k∧A++(M++B)=ks1:=by simpa using e1
  obtain⟨rfl,rfl⟩ : b=t∧TA++(TM++TB)=ts1:=by simpa using e2
  obtain⟨s',i1,i2,i3,i4,i5,i6⟩:=Ch.focus (s:=loS s x) (by simpa using h1) (by simpa using h2) h3 h4 h5 h6 ho.2 c
  refine⟨s',i1,fun y h=>EZ c1 (i2 y h),fun z hz y hy=>?_,i4,fun y hy ha hb=>?_,fun Q hPQ M' XM' TM' c'=>⟨a,A++(M'++B),b,TA++(TM'++TB),rfl,rfl,c1,hPQ a b _ (.inl List.mem_cons_self) c2,i6 Q (fun k t s' hk=>hPQ k t s' (hk.elim (fun h=>.inl (List.mem_cons_of_mem _ h)) .inr)) M' XM' TM' c'⟩⟩
  · rcases List.mem_cons.1 hz with rfl | hz
    · exact(Fp.1 (i2 y hy)).1
    · exact i3 z hz y hy
  · exact i5 y (Fp.2 ⟨ha x List.mem_cons_self,(DW.1 hy).2⟩) (fun z hz=>ha z (List.mem_cons_of_mem _ hz)) hb
end
def DK (ns:List DNode):Nat→Int→Nat→Span→Prop
 | 0,i,m,s=>(0≤i∧i<(ns.length:Int))∧(nd ns i).kind=1∧m≤(nd ns i).elems.length∧∀ x∈(nd ns i).elems,inS s (Dy x)=true
 | h+1,i,m,s=>(0≤i∧i<(ns.length:Int))∧(nd ns i).kind=2∧m≤(nd ns i).kids.length∧Ch (fun k t s'=>DK ns h k 4 s'∧DE (nd ns k)=t) (nd ns i).seps s (nd ns i).kids (nd ns i).tids
abbrev GO (ns:List DNode)(h:Nat):Int→Int→Span→Prop:=fun k t s'=>DK ns h k 4 s'∧DE (nd ns k)=t
theorem DK.range {ns:List DNode}{h:Nat}{i:Int}{m:Nat}{s:Span}(c:DK ns h i m s):0≤i∧i<(ns.length:Int):=by cases h <;> exact c.1
def kS (xs:List DSpot)(s:Span)(q:Nat):Span:=DO ⟨2,[],[],xs,[]⟩ s q
theorem KC (x:DSpot)(xs:List DSpot)(s:Span):kS (x::xs) s 0=hiS s x:=rfl
theorem KB (x:DSpot)(xs:List DSpot)(s:Span){q:Nat}(hq:q≤xs.length):kS (x::xs) s (q+1)=kS xs (loS s x) q:=by
 have key:E8 ⟨2,[],[],x::xs,[]⟩ s (q+1)=E8 ⟨2,[],[],xs,[]⟩ (loS s x) q:=by
  cases q with
  | zero=>rfl
  | succ r =>
   have hr:xs[r]? = some xs[r]:=gge (by omega)
   show (match (x::xs)[r+1]? with | some y=>({ s with lo:=y,hasLo:=true }:Span) | none=>s)=(match xs[r]? with | some y=>({ loS s x with lo:=y,hasLo:=true }:Span) | none=>loS s x)
   rw [List.getElem?_cons_succ,hr];rfl
 unfold kS DO
 rw [key]
 show Hw ⟨2,[],[],x::xs,[]⟩ (E8 ⟨2,[],[],xs,[]⟩ (loS s x) q) (q+1)=Hw ⟨2,[],[],xs,[]⟩ (E8 ⟨2,[],[],xs,[]⟩ (loS s x) q) q
 unfold Hw
 show (match (x::xs)[q+1]? with | some y=>_ | none=>_)=_
 rw [List.getElem?_cons_succ]
 rfl
theorem JP {P:Int→Int→Span→Prop}:∀ {xs:List DSpot} {s:Span} {ks ts:List Int},xs.length+1=ks.length→ts.length=ks.length→xs.Pairwise SpotO→(∀ x∈xs,inS s x=true) →
 (Ch P xs s ks ts↔∀(q:Nat) (k t:Int),ks[q]? = some k→ts[q]? = some t→P k t (kS xs s q))
 | [],s,ks,ts,h1,h2,_,_=>by
  obtain⟨a,rfl⟩:=List.length_eq_one_iff.1 h1.symm
  obtain⟨b,rfl⟩:=List.length_eq_one_iff.1 h2
  constructor
  · rintro⟨k,t,e1,e2,c⟩ q k' t' hk ht
    obtain rfl:a=k:=by simpa using e1
    obtain rfl:b=t:=by simpa using e2
    cases q with
    | zero =>
     obtain rfl:a=k':=by simpa using hk
     obtain rfl:b=t':=by simpa using ht
     exact c
    | succ q=>simp at hk
  · intro h
    exact⟨a,b,rfl,rfl,h 0 a b rfl rfl⟩
 | x::xs,s,ks,ts,h1,h2,ho,hs=>by
  cases ks with
  | nil=>simp at h1
  | cons a ks =>
  cases ts with
  | nil=>simp at h2
  | cons b ts =>
  rw [List.pairwise_cons] at ho
  have hx:=DW.1 (hs x List.mem_cons_self)
  have ih:=JP (P:=P) (xs:=xs) (s:=loS s x) (ks:=ks) (ts:=ts) (by simpa using h1) (by simpa using h2) ho.2 (fun y hy=>by
   have hxy:cmpS x y<0:=ho.1 y hy
   have:=DW.1 (hs y (List.mem_cons_of_mem _ hy))
   exact Fp.2 ⟨by omega,this.2⟩)
  have hlen:xs.length+1=ks.length:=by simpa using h1
  constructor
  · rintro⟨k,ks1,t,ts1,e1,e2,c1,c2,c⟩ q k' t' hk ht
    obtain⟨rfl,rfl⟩ : a=k∧ks=ks1:=by simpa using e1
    obtain⟨rfl,rfl⟩ : b=t∧ts=ts1:=by simpa using e2
    cases q with
    | zero =>
     obtain rfl:a=k':=by simpa using hk
     obtain rfl:b=t':=by simpa using ht
     rw [KC];exact c2
    | succ q =>
     rw [List.getElem?_cons_succ] at hk ht
     rw [KB x xs s (by have:=(ggs.1 hk).1;omega)]
     exact ih.1 c q k' t' hk ht
  · intro h
    refine⟨a,ks,b,ts,rfl,rfl,hs x List.mem_cons_self,by have:=h 0 a b rfl rfl;rwa [KC] at this,ih.2 fun q k t hk ht=>?_⟩
    have:=h (q+1) k t (by simpa using hk) (by simpa using ht)
    rwa [KB x xs s (by have:=(ggs.1 hk).1;omega)] at this
theorem Mf (n:DNode)(s:Span)(q:Nat):DO n s q=kS n.seps s q:=by
 unfold kS DO Hw
 have:E8 n s q=E8 ⟨2,[],[],n.seps,[]⟩ s q:=by cases q <;> rfl
 rw [this]
theorem HX {n:DNode}{s:Span}:(∀ q,q≤n.seps.length→D4 n s q=false)↔∀ x∈n.seps,inS s x=true:=by
 have key : ∀ q x,n.seps[q]? = some x→(D4 n s (q+1)=false↔inS s x=true):=fun q x hx=>by
  have e:D4 n s (q+1) = !inS s x:=by
   show (match n.seps[q]? with | some x=>!inS s x | none=>false)=_
   rw [hx]
  rw [e];simp
 constructor
 · intro h x hx
   obtain⟨q,hq⟩:=List.mem_iff_getElem?.1 hx
   have:=(ggs.1 hq).1
   exact(key q x hq).1 (h (q+1) (by omega))
 · intro h q hq
   cases q with
   | zero=>rfl
   | succ q =>
    have hx:n.seps[q]? = some n.seps[q]:=gge (by omega)
    exact(key q _ hx).2 (h _ (List.getElem_mem _))
def mOf (d:Int)(h:Nat):Nat:=if 0<d then 4 else if h=0 then 0 else 2
theorem HG {ns:List DNode}(hns : ∀ n∈ns,DT n=0):∀(h:Nat) (i d:Int) (s:Span),0≤d→(okN ns h i d s↔DK ns h i (mOf d h) s):=by
 intro h
 induction h with
 | zero =>
  intro i d s hd
  have hm : ∀ L:Leaf (nd ns i),((0<d→4≤(nd ns i).elems.length+(nd ns i).kids.length)↔mOf d 0≤(nd ns i).elems.length):=fun L=>by
   rw [L.kids];unfold mOf
   by_cases h:0<d
   · rw [if_pos h];simp [h]
   · rw [if_neg h];simp [h]
  constructor
  · rintro⟨h1,h2,h3,h4⟩
    exact⟨h1,h2,(hm (Fz hns h1 h2)).1 h3,h4⟩
  · rintro⟨h1,h2,h3,h4⟩
    exact⟨h1,h2,(hm (Fz hns h1 h2)).2 h3,h4⟩
 | succ h ih =>
  intro i d s hd
  have hm : ∀ L:Inner (nd ns i),((0<d→4≤(nd ns i).elems.length+(nd ns i).kids.length)↔mOf d (h+1)≤(nd ns i).kids.length):=fun L=>by
   rw [L.elems];unfold mOf
   have:=L.two
   by_cases h:0<d
   · rw [if_pos h];simp [h]
   · rw [if_neg h];simp [h];omega
  have h4:mOf (d+1) h=4:=by unfold mOf;rw [if_pos (by omega)]
  constructor
  · rintro⟨h1,h2,h3,h5⟩
    obtain⟨hk,L⟩:=EQ hns h1 h2
    refine⟨h1,hk,(hm L).1 h3,?_⟩
    refine(JP L.seps L.tids L.ord (HX.1 fun q hq=>?_)).2 fun q k t hk' ht=>?_
    · have hlen:=L.seps
      have hkk:(nd ns i).kids[q]? = some (nd ns i).kids[q]:=gge (by omega)
      exact(h5 (_,q) (FU hkk)).2.1
    · obtain⟨c1,_,c3⟩:=h5 (k,q) (FU hk')
      dsimp only at c1 c3
      rw [Mf] at c1
      have:=(ih k (d+1) _ (by omega)).1 c1
      rw [h4] at this
      exact⟨this,by rw [c3,ht];rfl⟩
  · rintro⟨h1,h2,h3,h5⟩
    obtain⟨hk,L⟩:=EQ hns h1 ⟨by rw [h2];decide,by rw [h2];decide⟩
    have hseps:=h5.seps
    refine⟨h1,⟨by rw [h2];decide,by rw [h2];decide⟩,(hm L).2 h3,fun p hp=>?_⟩
    rw [List.mem_zipIdx_iff_getElem?] at hp
    have hpl:=(ggs.1 hp).1
    have htl:=L.tids
    have ht:(nd ns i).tids[p.2]? = some (nd ns i).tids[p.2]:=gge (by omega)
    obtain⟨c1,c2⟩:=(JP L.seps L.tids L.ord hseps).1 h5 p.2 p.1 _ hp ht
    refine⟨?_,HX.2 hseps p.2 (by have:=L.seps;omega),by rw [c2,ht];rfl⟩
    rw [Mf]
    rw [← h4] at c1
    exact(ih p.1 (d+1) _ (by omega)).2 c1
theorem EX {f g:Int→List Nat}:∀ {l:List Int},(∀ a∈l,f a=g a)→l.flatMap f=l.flatMap g
 | [],_=>rfl
 | a::l,h=>by rw [List.flatMap_cons,List.flatMap_cons,h a List.mem_cons_self,EX fun b hb=>h b (List.mem_cons_of_mem _ hb)]
theorem DK.same {ns ns' : List DNode}(hl:ns.length≤ns'.length):∀ {h:Nat} {i:Int} {m:Nat} {s:Span},DK ns h i m s→(∀ j∈ids ns h i,ns'[j]? = ns[j]?) →
 DK ns' h i m s∧ids ns' h i=ids ns h i∧Dx ns' h i=Dx ns h i∧nd ns' i=nd ns i:=by
 intro h
 induction h with
 | zero =>
  intro i m s c hj
  have e:nd ns' i=nd ns i:=by unfold nd;rw [hj i.toNat (by simp [ids])]
  refine⟨?_,rfl,by unfold Dx;rw [e],e⟩
  obtain⟨h1,h2,h3,h4⟩:=c
  exact⟨⟨h1.1,by omega⟩,by rw [e];exact h2,by rw [e];exact h3,by rw [e];exact h4⟩
 | succ h ih =>
  intro i m s c hj
  have e:nd ns' i=nd ns i:=by unfold nd;rw [hj i.toNat (by simp [ids])]
  obtain⟨h1,h2,h3,h4⟩:=c
  have hkid : ∀ k∈(nd ns i).kids,∀ {m:Nat} {s:Span},DK ns h k m s→DK ns' h k m s∧ids ns' h k=ids ns h k∧Dx ns' h k=Dx ns h k∧nd ns' k=nd ns k:=fun k hk {m s} c =>
   ih c fun j hjk=>hj j (by rw [ids];exact List.mem_cons_of_mem _ (List.mem_flatMap.2 ⟨k,hk,hjk⟩))
  refine⟨⟨⟨h1.1,by omega⟩,by rw [e];exact h2,by rw [e];exact h3,?_⟩,?_,?_,e⟩
  · rw [e]
    exact h4.mono fun k t s' hk c=>⟨(hkid k hk c.1).1,by rw [(hkid k hk c.1).2.2.2];exact c.2⟩
  · rw [ids,ids,e]
    congr 1
    exact EX fun k hk=>by obtain ⟨t,s',c,_⟩:=h4.mem k hk;exact(hkid k hk c.1).2.1
  · rw [Dx,Dx,e]
    exact DV fun k hk=>by obtain ⟨t,s',c,_⟩:=h4.mem k hk;exact(hkid k hk c.1).2.2.1
end
section
abbrev NL:=List (Int ⊕ DNode)
def zN:DNode:=⟨0,[],[],[],[]⟩
def fN1:Int ⊕ DNode→DNode
 | .inl _=>zN
 | .inr n=>n
def fN (N:NL):List DNode:=N.map fN1
theorem DD (N:NL):(fN N).length=N.length:=List.length_map ..
theorem F2 (N:NL)(j:Nat):(fN N)[j]? = (N[j]?).map fN1:=List.getElem?_map ..
theorem Lp {N N' : NL}{j:Nat}(h:N'[j]? = N[j]?):(fN N')[j]? = (fN N)[j]?:=by rw [F2,F2,h]
theorem Mp (l:List DNode):fN (l.map Sum.inr)=l:=by
 unfold fN
 rw [List.map_map]
 exact List.map_id'' (fun _=>rfl) l
theorem DR (N:NL){i:Int}{j:Nat}(h:j≠i.toNat):(wt N i)[j]? = N[j]?:=by unfold wt;rw [List.getElem?_set_ne (by omega)]
theorem DH (N:NL){i:Int}{n:DNode}{j:Nat}(h:j≠i.toNat):(v0 N i n)[j]? = N[j]?:=by unfold v0;rw [List.getElem?_set_ne (by omega)]
theorem DY (N:NL){i:Int}{n:DNode}(h:i.toNat<N.length):(v0 N i n)[i.toNat]? = some (.inr n):=by unfold v0;rw [List.getElem?_set_self h]
theorem Dz (N:NL)(i:Int):(wt N i).length=N.length:=by unfold wt;rw [List.length_set]
theorem DB (N:NL)(i:Int)(n:DNode):(v0 N i n).length=N.length:=by unfold v0;rw [List.length_set]
def kd (N:NL)(j:Nat):Option Int:=(N[j]?).map Ce
theorem Fv (N:NL)(i:Int)(j:Nat):kd (wt N i) j=kd N j:=by
 unfold kd wt
 rw [List.getElem?_set]
 split
 · rename_i e;subst e
   split
   · rename_i h;rw [gge h];rfl
   · rename_i h;rw [List.getElem?_eq_none (by omega)]
 · rfl
def Em (N:NL):Prop:=∀ n∈fN N,DT n=0
theorem Em.out {N:NL}(h:Em N)(i:Int):Em (wt N i):=fun n hn=>by
 obtain⟨x,hx,rfl⟩:=List.mem_map.1 hn
 rcases List.mem_or_eq_of_mem_set hx with hx | rfl
 · exact h _ (List.mem_map.2 ⟨x,hx,rfl⟩)
 · show DT zN=0;decide
theorem Em.put {N:NL}(h:Em N){i:Int}{n:DNode}(hn:DT n=0):Em (v0 N i n):=fun m hm=>by
 obtain⟨x,hx,rfl⟩:=List.mem_map.1 hm
 rcases List.mem_or_eq_of_mem_set hx with hx | rfl
 · exact h _ (List.mem_map.2 ⟨x,hx,rfl⟩)
 · exact hn
theorem Em.push {N:NL}(h:Em N){n:DNode}(hn:DT n=0):Em (N++[.inr n]):=fun m hm=>by
 obtain⟨x,hx,rfl⟩:=List.mem_map.1 hm
 rcases List.mem_append.1 hx with hx | hx
 · exact h _ (List.mem_map.2 ⟨x,hx,rfl⟩)
 · rw [List.mem_singleton.1 hx];exact hn
theorem L4 {N:NL}{i:Int}(h:0≤i∧i<((fN N).length:Int))(hk:(nd (fN N) i).kind≠0):xp N i=some (nd (fN N) i)∧N[i.toNat]? = some (.inr (nd (fN N) i)):=by
 rw [DD] at h
 have hg:N[i.toNat]? = some N[i.toNat]:=gge (by omega)
 have hn:nd (fN N) i=fN1 N[i.toNat]:=by
  unfold nd;rw [F2,hg];rfl
 cases hx:N[i.toNat] with
 | inl k =>
  rw [hn,hx] at hk
  exact absurd rfl hk
 | inr n =>
  rw [hn,hx]
  unfold xp
  rw [if_neg (by omega),hg,hx]
  exact⟨rfl,rfl⟩
theorem DK.kind {ns:List DNode}{h:Nat}{i:Int}{m:Nat}{s:Span}(c:DK ns h i m s):(nd ns i).kind≠0:=by
 cases h with
 | zero=>rw [c.2.1];decide
 | succ h=>rw [c.2.1];decide
theorem DK.node {N:NL}{h:Nat}{i:Int}{m:Nat}{s:Span}(c:DK (fN N) h i m s):xp N i=some (nd (fN N) i)∧N[i.toNat]? = some (.inr (nd (fN N) i)):=L4 c.range c.kind
theorem FC {N:NL}{i:Int}(h:0≤i∧i<(N.length:Int)):xO N i=some ():=by unfold xO;rw [if_pos h]
theorem Hj {N:NL}{i:Int}{n:DNode}(h:0≤i∧i<(N.length:Int)):nd (fN (v0 N i n)) i=n:=by
 unfold nd
 rw [F2,DY N (by omega)];rfl
theorem DK.agree {N N' : NL}(hl:N.length≤N'.length){h:Nat}{i:Int}{m:Nat}{s:Span}(c:DK (fN N) h i m s)(hj : ∀ j∈ids (fN N) h i,N'[j]? = N[j]?) :
 DK (fN N') h i m s∧ids (fN N') h i=ids (fN N) h i∧Dx (fN N') h i=Dx (fN N) h i∧nd (fN N') i=nd (fN N) i :=
 DK.same (by rw [DD,DD];exact hl) c fun j hjm=>Lp (hj j hjm)
theorem DK.head {ns:List DNode}(h:Nat)(i:Int):i.toNat∈ids ns h i:=by cases h <;> simp [ids]
theorem Ch.before {P:Int→Int→Span→Prop}:∀ {XA X:List DSpot} {s:Span} {A K TA T:List Int},XA.length=A.length→TA.length=A.length→Ch P (XA++X) s (A++K) (TA++T)→∀ k∈A,∃ t s',P k t s'∧∀ y,inS s' y=true→∃ x∈XA,cmpS y x<0
 | [],X,s,A,K,TA,T,h1,_,_,k,hk=>by
  obtain rfl:=List.eq_nil_of_length_eq_zero h1.symm
  cases hk
 | x::XA,X,s,A,K,TA,T,h1,h2,⟨a,ks,t,ts,e1,e2,c1,c2,c⟩,k,hk=>by
  cases A with
  | nil=>simp at h1
  | cons b A =>
  cases TA with
  | nil=>simp at h2
  | cons u TA =>
  obtain⟨rfl,rfl⟩ : b=a∧A++K=ks:=by simpa using e1
  obtain⟨rfl,rfl⟩ : u=t∧TA++T=ts:=by simpa using e2
  rcases List.mem_cons.1 hk with rfl | hk
  · exact⟨u,_,c2,fun y hy=>⟨x,List.mem_cons_self,(Et.1 hy).2⟩⟩
  · obtain⟨t',s',i1,i2⟩:=Ch.before (by simpa using h1) (by simpa using h2) c k hk
    exact⟨t',s',i1,fun y hy=>by obtain ⟨z,hz,hzy⟩:=i2 y hy;exact⟨z,List.mem_cons_of_mem _ hz,hzy⟩⟩
theorem Ch.behind {P:Int→Int→Span→Prop}:∀ {XA XB:List DSpot} {x:DSpot} {s:Span} {A B TA TB:List Int},XA.length+1=A.length→TA.length=A.length→Ch P (XA++x::XB) s (A++B) (TA++TB)→∀ k∈B,∃ t s',P k t s'∧∀ y,inS s' y=true→cmpS x y≤0
 | [],XB,x,s,A,B,TA,TB,h1,h2,⟨a,ks,t,ts,e1,e2,c1,c2,c⟩,k,hk=>by
  obtain⟨b,rfl⟩:=List.length_eq_one_iff.1 h1.symm
  obtain⟨u,rfl⟩:=List.length_eq_one_iff.1 h2
  obtain⟨rfl,rfl⟩ : b=a∧B=ks:=by simpa using e1
  obtain⟨rfl,rfl⟩ : u=t∧TB=ts:=by simpa using e2
  obtain⟨t',s',i1,i2⟩:=c.mem k hk
  exact⟨t',s',i1,fun y hy=>(Fp.1 (i2 y hy)).1⟩
 | z::XA,XB,x,s,A,B,TA,TB,h1,h2,⟨a,ks,t,ts,e1,e2,c1,c2,c⟩,k,hk=>by
  cases A with
  | nil=>simp at h1
  | cons b A =>
  cases TA with
  | nil=>simp at h2
  | cons u TA =>
  obtain⟨rfl,rfl⟩ : b=a∧A++B=ks:=by simpa using e1
  obtain⟨rfl,rfl⟩ : u=t∧TA++TB=ts:=by simpa using e2
  exact Ch.behind (by simpa using h1) (by simpa using h2) c k hk
theorem FO {α:Type}(l:List α){w:Nat}(h:w<l.length):l=l.take w++l[w]::l.drop (w+1):=by
 rw [← List.drop_eq_getElem_cons h,List.take_append_drop]
structure Foc (P:Int→Int→Span→Prop) (n:DNode) (s:Span) (sp:DSpot) (A:List Int) (k:Int) (B:List Int) (XA XB:List DSpot) (TA:List Int) (t:Int) (TB:List Int) (s' : Span):Prop where
 kids:n.kids=A++k::B
 seps:n.seps=XA++XB
 tids:n.tids=TA++t::TB
 xa:XA.length=A.length
 ta:TA.length=A.length
 xb:XB.length=B.length
 tb:TB.length=B.length
 way:Fl n.seps sp=A.length
 here:P k t s'
 in_:inS s' sp=true
 sub : ∀ y,inS s' y=true→inS s y=true
 lo : ∀ k'∈A,∃ t' s'',P k' t' s''∧∀ y,inS s'' y=true→cmpS y sp<0
 hi : ∀ k'∈B,∃ t' s'',P k' t' s''∧∀ y,inS s'' y=true→cmpS sp y<0
 loX : ∀ x∈XA,∀ y,inS s' y=true→cmpS x y≤0
 hiX : ∀ x∈XB,∀ y,inS s' y=true→cmpS y x<0
 turn : ∀ Q:Int→Int→Span→Prop,(∀ k t s',k∈A∨k∈B→P k t s'→Q k t s')→∀ M' XM' TM',Ch Q XM' s' M' TM'→Ch Q (XA++(XM'++XB)) s (A++(M'++B)) (TA++(TM'++TB))
theorem JU {P:Int→Int→Span→Prop}{n:DNode}{s:Span}{sp:DSpot}(h1:n.seps.length+1=n.kids.length)(h2:n.tids.length=n.kids.length)(ho:n.seps.Pairwise SpotO)(c:Ch P n.seps s n.kids n.tids)(hs:inS s sp=true) :
 ∃ A k B XA XB TA t TB s',Foc P n s sp A k B XA XB TA t TB s':=by
 have hw:=HI n.seps sp
 obtain⟨w1,w2⟩:=I6 n.seps sp
 generalize hwe:Fl n.seps sp=w at *
 have e1:=FO n.kids (w:=w) (by omega)
 have e2:=FO n.tids (w:=w) (by omega)
 have e3:n.seps=n.seps.take w++n.seps.drop w:=(List.take_append_drop _ _).symm
 have l1:(n.kids.take w).length=w:=by rw [List.length_take];omega
 have l2:(n.tids.take w).length=w:=by rw [List.length_take];omega
 have l3:(n.seps.take w).length=w:=by rw [List.length_take];omega
 have l4:(n.kids.drop (w+1)).length=n.kids.length-(w+1):=List.length_drop
 have l5:(n.tids.drop (w+1)).length=n.tids.length-(w+1):=List.length_drop
 have l6:(n.seps.drop w).length=n.seps.length-w:=List.length_drop
 have xa : ∀ x∈n.seps.take w,cmpS x sp≤0:=fun x hx=>by
  obtain⟨q,hq⟩:=List.mem_iff_getElem?.1 hx
  have hql:=(ggs.1 hq).1
  rw [List.getElem?_take_of_lt (by omega)] at hq
  exact w1 q x (by omega) hq
 have xb : ∀ x∈n.seps.drop w,cmpS sp x<0:=fun x hx=>by
  have hlt:w<n.seps.length:=by
   obtain⟨q,hq⟩:=List.mem_iff_getElem?.1 hx
   have:=(ggs.1 hq).1;omega
  have h0:n.seps[w]? = some n.seps[w]:=gge hlt
  have h3:=w2 _ h0
  have h4:cmpS sp n.seps[w]<0:=by
   have:=DC.neg n.seps[w] sp
   omega
  rw [List.drop_eq_getElem_cons hlt] at hx
  rcases List.mem_cons.1 hx with rfl | hx
  · exact h4
  · obtain⟨q,hq⟩:=List.mem_iff_getElem?.1 hx
    rw [List.getElem?_drop] at hq
    exact DC.lt_trans h4 (Ei ho (by omega) h0 hq)
 have c':=c
 rw [e1,e2,e3] at c'
 have ho':=ho
 rw [e3] at ho'
 obtain⟨s',i1,i2,i3,i4,i5,i6⟩:=Ch.focus (XM:=[]) (M:=[n.kids[w]]) (TM:=[n.tids[w]]) (by omega) (by omega) rfl rfl (by omega) (by omega) ho' c'
 obtain⟨k,t,hk,ht,hP⟩:=i1
 obtain rfl:n.kids[w]=k:=by simpa using hk
 obtain rfl:n.tids[w]=t:=by simpa using ht
 refine⟨_,_,_,n.seps.take w,n.seps.drop w,_,_,_,s',e1,e3,e2,by omega,by omega,by omega,by omega,by rw [hwe,l1],hP,?_,i2,fun k' hk'=>?_,fun k' hk'=>?_,i3,i4,i6⟩
 · exact i5 sp hs (fun x hx=>xa x hx) (fun x hx=>xb x hx)
 · obtain⟨t',s'',j1,j2⟩:=Ch.before (by omega) (by omega) c' k' hk'
   exact⟨t',s'',j1,fun y hy=>by obtain ⟨x,hx,hxy⟩:=j2 y hy;exact EC hxy (xa x hx)⟩
 · have hne : n.seps.drop w ≠ [] := fun e => by
    have:(n.kids.drop (w+1)).length=0:=by rw [e] at l6;simp at l6;omega
    rw [List.eq_nil_of_length_eq_zero this] at hk';cases hk'
   obtain⟨x,XB,hX⟩:=List.exists_cons_of_ne_nil hne
   have c2:=c'
   rw [hX,show n.kids.take w++n.kids[w]::n.kids.drop (w+1)=(n.kids.take w++[n.kids[w]])++n.kids.drop (w+1) by simp,show n.tids.take w++n.tids[w]::n.tids.drop (w+1)=(n.tids.take w++[n.tids[w]])++n.tids.drop (w+1) by simp] at c2
   obtain⟨t',s'',j1,j2⟩:=Ch.behind (by simp;omega) (by simp;omega) c2 k' hk'
   exact⟨t',s'',j1,fun y hy=>EC (xb x (by rw [hX];exact List.mem_cons_self)) (j2 y hy)⟩
theorem DK.weak {ns:List DNode}{h:Nat}{i:Int}{m m' : Nat}{s:Span}(hm:m'≤m)(c:DK ns h i m s):DK ns h i m' s:=by
 cases h with
 | zero=>exact ⟨c.1,c.2.1,Nat.le_trans hm c.2.2.1,c.2.2.2⟩
 | succ h=>exact ⟨c.1,c.2.1,Nat.le_trans hm c.2.2.1,c.2.2.2⟩
theorem DK.leaf {ns:List DNode}(hns : ∀ n∈ns,DT n=0){i:Int}{m:Nat}{s:Span}(c:DK ns 0 i m s):Leaf (nd ns i):=Fz hns c.1 c.2.1
theorem DK.inner {ns:List DNode}(hns : ∀ n∈ns,DT n=0){h:Nat}{i:Int}{m:Nat}{s:Span}(c:DK ns (h+1) i m s):Inner (nd ns i):=(EQ hns c.1 ⟨by rw [c.2.1];decide,by rw [c.2.1];decide⟩).2
theorem DK.elems {ns:List DNode}(hns : ∀ n∈ns,DT n=0){h:Nat}{i:Int}{m:Nat}{s:Span}(c:DK ns h i m s):(Dx ns h i).Pairwise SpO∧∀ e∈Dx ns h i,inS s (Dy e)=true∧DG e=0:=by
 have h0:DK ns h i (mOf 0 h) s:=by
  cases h with
  | zero=>exact c.weak (Nat.zero_le _)
  | succ h=>exact ⟨c.1,c.2.1,(c.inner hns).two,c.2.2.2⟩
 exact EO hns h i 0 s ((HG hns h i 0 s (Int.le_refl _)).2 h0)
theorem Gb {f:Int→List Nat}{i:Nat}{A B:List Int}{k:Int}(h:(i::(A++k::B).flatMap f).Nodup) :
 i ∉ f k∧(f k).Nodup∧(∀ a,a∈A∨a∈B→i ∉ f a∧∀ j∈f a,j ∉ f k):=by
 rw [List.flatMap_append,List.flatMap_cons,List.nodup_cons] at h
 obtain⟨h1,h2⟩:=h
 rw [List.nodup_append] at h2
 obtain⟨h3,h4,h5⟩:=h2
 rw [List.nodup_append] at h4
 obtain⟨h6,h7,h8⟩:=h4
 simp only [List.mem_append,not_or] at h1
 refine⟨h1.2.1,h6,fun a ha=>⟨fun hi=>?_,fun j hj hk=>?_⟩⟩
 · rcases ha with ha | ha
   · exact h1.1 (List.mem_flatMap.2 ⟨a,ha,hi⟩)
   · exact h1.2.2 (List.mem_flatMap.2 ⟨a,ha,hi⟩)
 · rcases ha with ha | ha
   · exact h5 j (List.mem_flatMap.2 ⟨a,ha,hj⟩) j (List.mem_append_left _ hk) rfl
   · exact h8 j hk j (List.mem_flatMap.2 ⟨a,ha,hj⟩) rfl
theorem EA {α:Type}(A:List α)(x:α)(B:List α):idx (A++x::B) (A.length:Int)=some x:=by
 rw [DA,List.getElem?_append_right (Nat.le_refl _)];simp
theorem FA {α:Type}(A:List α)(x y:α)(B:List α):(A++x::B).set A.length y=A++y::B:=by
 rw [List.set_append_right _ _ (Nat.le_refl _)];simp
end
end Go.Proofs.Ytcmkdoahkncakaa
