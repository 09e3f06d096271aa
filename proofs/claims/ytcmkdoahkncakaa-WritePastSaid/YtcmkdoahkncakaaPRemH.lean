/- Plain Lean: parts of trees, as chains of spans; what stays of them when other nodes are written. Its conditions: none. -/
import Derived.Test.YtcmkdoahkncakaaMBuildH
import Derived.Test.YtcmkdoahkncakaaTreeOH
import Derived.Test.YtcmkdoahkncakaaBuildFH
import Derived.Test.YtcmkdoahkncakaaPTreeH
import Derived.Test.YtcmkdoahkncakaaInsH
import Derived.Test.YtcmkdoahkncakaaPLoopH
namespace Go.Proofs.Ytcmkdoahkncakaa
open IntKind (i64)
open List (flatMap_append mem_cons mem_cons_self flatMap_cons mem_append length_take length_map pairwise_cons pairwise_append mem_cons_of_mem flatMap_singleton mem_flatMap nodup_append length_singleton length_drop mem_map take_append_drop append_assoc nodup_cons mem_append_left length_append append_nil mem_of_mem_drop eq_nil_of_length_eq_zero mem_singleton length_eq_one_iff mem_append_right drop_eq_getElem_cons map_append mem_of_mem_take cons_append take_add_one perm_middle take_left' drop_left')
set_option linter.unusedSimpArgs false
set_option linter.unusedVariables false
section
def hiS (s:Span)(x:DSpot):Span:={ s with hi:=x,hasHi:=true }
def loS (s:Span)(x:DSpot):Span:={ s with lo:=x,hasLo:=true }
theorem Et {s:Span}{x y:DSpot}:inS (hiS s x) y=true↔(s.hasLo=true→cmpS s.lo y≤0)∧cmpS y x<0:=by
 rw [DX];unfold hiS;simp
theorem Fm {s:Span}{x y:DSpot}:inS (loS s x) y=true↔cmpS x y≤0∧(s.hasHi=true→cmpS y s.hi<0):=by
 rw [DX];unfold loS;simp
theorem EF {s:Span}{x y:DSpot}(hx:inS s x=true)(h:inS (hiS s x) y=true):inS s y=true:=by
 rw [Et] at h
 rw [DX] at hx ⊢
 exact⟨h.1,fun hh=>DC.lt_trans h.2 (hx.2 hh)⟩
theorem E8 {s:Span}{x y:DSpot}(hx:inS s x=true)(h:inS (loS s x) y=true):inS s y=true:=by
 rw [Fm] at h
 rw [DX] at hx ⊢
 exact⟨fun hh=>Jp (hx.1 hh) h.1,h.2⟩
def Ch (P:Int→Int→Span→Prop):List DSpot→Span→List Int→List Int→Prop
 | [],s,ks,ts=>∃ k t,ks=[k]∧ts=[t]∧P k t s
 | x::xs,s,ks,ts=>∃ k ks' t ts',ks=k::ks'∧ts=t::ts'∧inS s x=true∧P k t (hiS s x)∧Ch P xs (loS s x) ks' ts'
section
variable {P Q:Int→Int→Span→Prop}
theorem Ch.lens : ∀ {xs:List DSpot} {s:Span} {ks ts:List Int},Ch P xs s ks ts→xs.length+1=ks.length∧ts.length=ks.length
 | [],s,ks,ts,⟨k,t,h1,h2,_⟩=>by subst h1 h2;exact⟨rfl,rfl⟩
 | x::xs,s,ks,ts,⟨k,ks',t,ts',h1,h2,_,_,c⟩=>by
  subst h1 h2
  have:=c.lens
  simp only [List.length_cons];omega
theorem Ch.mono : ∀ {xs:List DSpot} {s:Span} {ks ts:List Int},(∀ k t s',k∈ks→P k t s'→Q k t s')→Ch P xs s ks ts→Ch Q xs s ks ts
 | [],s,ks,ts,h,⟨k,t,h1,h2,c⟩=>⟨k,t,h1,h2,h _ _ _ (by rw [h1];exact mem_cons_self) c⟩
 | x::xs,s,ks,ts,h,⟨k,ks',t,ts',h1,h2,h3,h4,c⟩=>⟨k,ks',t,ts',h1,h2,h3,h _ _ _ (by rw [h1];exact mem_cons_self) h4,c.mono fun k t s' hk=>h k t s' (by rw [h1];exact mem_cons_of_mem _ hk)⟩
theorem Ch.mem : ∀ {xs:List DSpot} {s:Span} {ks ts:List Int},Ch P xs s ks ts→∀ k∈ks,∃ t s',P k t s'∧∀ y,inS s' y=true→inS s y=true
 | [],s,ks,ts,⟨k,t,h1,h2,c⟩,q,hq=>by
  subst h1
  rw [mem_singleton.1 hq];exact⟨t,s,c,fun _ h=>h⟩
 | x::xs,s,ks,ts,⟨k,ks',t,ts',h1,h2,h3,h4,c⟩,q,hq=>by
  subst h1
  rcases mem_cons.1 hq with rfl | hq
  · exact⟨t,_,h4,fun y h=>EF h3 h⟩
  · obtain⟨t',s',i1,i2⟩:=c.mem q hq
    exact⟨t',s',i1,fun y h=>E8 h3 (i2 y h)⟩
theorem Ch.seps : ∀ {xs:List DSpot} {s:Span} {ks ts:List Int},Ch P xs s ks ts→∀ x∈xs,inS s x=true
 | [],s,ks,ts,c,y,hy=>by cases hy
 | x::xs,s,ks,ts,⟨k,ks',t,ts',h1,h2,h3,h4,c⟩,y,hy=>by
  rcases mem_cons.1 hy with rfl | hy
  · exact h3
  · exact E8 h3 (c.seps y hy)
theorem Ch.at_ : ∀ {xs:List DSpot} {s:Span} {ks ts:List Int},Ch P xs s ks ts→∀(q:Nat) (k:Int),ks[q]? = some k→∃ t s',ts[q]? = some t∧P k t s'∧∀ y,inS s' y=true→inS s y=true
 | [],s,ks,ts,⟨k,t,h1,h2,c⟩,q,k',hq=>by
  subst h1 h2
  cases q with
  | zero => obtain rfl : k = k' := by simpa using hq
            exact⟨t,s,rfl,c,fun _ h=>h⟩
  | succ q=>simp at hq
 | x::xs,s,ks,ts,⟨k,ks',t,ts',h1,h2,h3,h4,c⟩,q,k',hq=>by
  subst h1 h2
  cases q with
  | zero => obtain rfl : k = k' := by simpa using hq
            exact⟨t,_,rfl,h4,fun y h=>EF h3 h⟩
  | succ q =>
   obtain⟨t',s',i1,i2,i3⟩:=c.at_ q k' (by simpa using hq)
   exact⟨t',s',by simpa using i1,i2,fun y h=>E8 h3 (i3 y h)⟩
theorem Ch.join : ∀ {xs:List DSpot} {s:Span} {ks ts ks' ts' : List Int} {xs' : List DSpot} {x:DSpot},inS s x=true→Ch P xs (hiS s x) ks ts→Ch P xs' (loS s x) ks' ts'→Ch P (xs++x::xs') s (ks++ks') (ts++ts')
 | [],s,ks,ts,ks',ts',xs',x,hx,⟨k,t,h1,h2,c⟩,c'=>⟨k,ks',t,ts',by rw [h1];rfl,by rw [h2];rfl,hx,c,c'⟩
 | y::xs,s,ks,ts,ks',ts',xs',x,hx,⟨k,ks1,t,ts1,h1,h2,h3,h4,c⟩,c'=>by
  subst h1 h2
  have hy:=Et.1 h3
  have e1:loS (hiS s x) y=hiS (loS s y) x:=rfl
  have e2:loS s x=loS (loS s y) x:=rfl
  exact⟨k,ks1++ks',t,ts1++ts',rfl,rfl,EF hx h3,h4,Ch.join (s:=loS s y) (Fm.2 ⟨by omega,fun hh=>(DX.1 hx).2 hh⟩) (e1▸c) (e2▸c')⟩
theorem Ch.split : ∀ {xs:List DSpot} {s:Span} {ks ts ks' ts' : List Int} {xs' : List DSpot} {x:DSpot},xs.length+1=ks.length→ts.length=ks.length→(xs++x::xs').Pairwise SpotO→Ch P (xs++x::xs') s (ks++ks') (ts++ts') →
 inS s x=true∧Ch P xs (hiS s x) ks ts∧Ch P xs' (loS s x) ks' ts'
 | [],s,ks,ts,ks',ts',xs',x,h1,h2,ho,⟨k,ks1,t,ts1,e1,e2,i1,i2,c⟩=>by
  obtain⟨a,rfl⟩:=length_eq_one_iff.1 h1.symm
  obtain⟨b,rfl⟩:=length_eq_one_iff.1 h2
  obtain⟨rfl,rfl⟩ : a=k∧ks' = ks1:=by simpa using e1
  obtain⟨rfl,rfl⟩ : b=t∧ts' = ts1:=by simpa using e2
  exact⟨i1,⟨a,b,rfl,rfl,i2⟩,c⟩
 | y::xs,s,ks,ts,ks',ts',xs',x,h1,h2,ho,⟨k,ks1,t,ts1,e1,e2,i1,i2,c⟩=>by
  rw [cons_append,pairwise_cons] at ho
  have hyx:cmpS y x<0:=ho.1 x (by simp)
  cases ks with
  | nil=>simp at h1
  | cons a ks =>
  cases ts with
  | nil=>simp at h2
  | cons b ts =>
  obtain⟨rfl,rfl⟩ : a=k∧ks++ks' = ks1:=by simpa using e1
  obtain⟨rfl,rfl⟩ : b=t∧ts++ts' = ts1:=by simpa using e2
  obtain⟨j1,j2,j3⟩:=Ch.split (s:=loS s y) (by simpa using h1) (by simpa using h2) ho.2 c
  exact⟨E8 i1 j1,⟨a,ks,b,ts,rfl,rfl,Et.2 ⟨(DX.1 i1).1,hyx⟩,i2,j2⟩,j3⟩
theorem Ch.focus : ∀ {XA XM XB:List DSpot} {A M B TA TM TB:List Int} {s:Span},XA.length=A.length→TA.length=A.length→XM.length+1=M.length→TM.length=M.length→XB.length=B.length→TB.length=B.length →
 (XA++(XM++XB)).Pairwise SpotO→Ch P (XA++(XM++XB)) s (A++(M++B)) (TA++(TM++TB)) →
 ∃ s',Ch P XM s' M TM∧(∀ y,inS s' y=true→inS s y=true)∧(∀ x∈XA,∀ y,inS s' y=true→cmpS x y≤0)∧(∀ x∈XB,∀ y,inS s' y=true→cmpS y x<0) ∧
  (∀ y,inS s y=true→(∀ x∈XA,cmpS x y≤0)→(∀ x∈XB,cmpS y x<0)→inS s' y=true) ∧
  ∀ Q:Int→Int→Span→Prop,(∀ k t s',k∈A∨k∈B→P k t s'→Q k t s')→∀ M' XM' TM',Ch Q XM' s' M' TM'→Ch Q (XA++(XM'++XB)) s (A++(M'++B)) (TA++(TM'++TB))
 | [],XM,[],A,M,B,TA,TM,TB,s,h1,h2,_,_,h5,h6,_,c=>by
  obtain rfl:=eq_nil_of_length_eq_zero h1.symm
  obtain rfl:=eq_nil_of_length_eq_zero h2
  obtain rfl:=eq_nil_of_length_eq_zero h5.symm
  obtain rfl:=eq_nil_of_length_eq_zero h6
  exact⟨s,by simpa using c,fun _ h=>h,by simp,by simp,fun _ h _ _=>h,fun Q _ M' XM' TM' c'=>by simpa using c'⟩
 | [],XM,x::XB,A,M,B,TA,TM,TB,s,h1,h2,h3,h4,h5,h6,ho,c=>by
  obtain rfl:=eq_nil_of_length_eq_zero h1.symm
  obtain rfl:=eq_nil_of_length_eq_zero h2
  obtain⟨i1,i2,i3⟩:=Ch.split (s:=s) h3 h4 ho c
  refine⟨hiS s x,i2,fun y h=>EF i1 h,by simp,fun z hz y hy=>?_,fun y hy _ hb=>?_,fun Q hPQ M' XM' TM' c'=>?_⟩
  · have hyx:=(Et.1 hy).2
    rcases mem_cons.1 hz with rfl | hz
    · exact hyx
    · have:cmpS x z<0:=(pairwise_cons.1 (pairwise_append.1 (show (XM++x::XB).Pairwise SpotO from ho)).2.1).1 z hz
      exact DC.lt_trans hyx this
  · exact Et.2 ⟨(DX.1 hy).1,hb x mem_cons_self⟩
  · show Ch Q (XM'++x::XB) s (M'++B) (TM'++TB)
    exact Ch.join i1 c' (i3.mono fun k t s' hk=>hPQ k t s' (.inr hk))
 | x::XA,XM,XB,A,M,B,TA,TM,TB,s,h1,h2,h3,h4,h5,h6,ho,⟨k,ks1,t,ts1,e1,e2,c1,c2,c⟩=>by
  rw [cons_append,pairwise_cons] at ho
  cases A with
  | nil=>simp at h1
  | cons a A =>
  cases TA with
  | nil=>simp at h2
  | cons b TA =>
  obtain⟨rfl,rfl⟩ : a=k∧A++(M++B)=ks1:=by simpa using e1
  obtain⟨rfl,rfl⟩ : b=t∧TA++(TM++TB)=ts1:=by simpa using e2
  obtain⟨s',i1,i2,i3,i4,i5,i6⟩:=Ch.focus (s:=loS s x) (by simpa using h1) (by simpa using h2) h3 h4 h5 h6 ho.2 c
  refine⟨s',i1,fun y h=>E8 c1 (i2 y h),fun z hz y hy=>?_,i4,fun y hy ha hb=>?_,fun Q hPQ M' XM' TM' c'=>⟨a,A++(M'++B),b,TA++(TM'++TB),rfl,rfl,c1,hPQ a b _ (.inl mem_cons_self) c2,i6 Q (fun k t s' hk=>hPQ k t s' (hk.elim (fun h=>.inl (mem_cons_of_mem _ h)) .inr)) M' XM' TM' c'⟩⟩
  · rcases mem_cons.1 hz with rfl | hz
    · exact(Fm.1 (i2 y hy)).1
    · exact i3 z hz y hy
  · exact i5 y (Fm.2 ⟨ha x mem_cons_self,(DX.1 hy).2⟩) (fun z hz=>ha z (mem_cons_of_mem _ hz)) hb
end
def DJ (ns:List DNode):Nat→Int→Nat→Span→Prop
 | 0,i,m,s=>(0≤i∧i<(ns.length:Int))∧(nd ns i).kind=1∧m≤(nd ns i).elems.length∧∀ x∈(nd ns i).elems,inS s (Dy x)=true
 | h+1,i,m,s=>(0≤i∧i<(ns.length:Int))∧(nd ns i).kind=2∧m≤(nd ns i).kids.length∧Ch (fun k t s'=>DJ ns h k 4 s'∧DE (nd ns k)=t) (nd ns i).seps s (nd ns i).kids (nd ns i).tids
abbrev GW (ns:List DNode)(h:Nat):Int→Int→Span→Prop:=fun k t s'=>DJ ns h k 4 s'∧DE (nd ns k)=t
theorem DJ.range {ns:List DNode}{h:Nat}{i:Int}{m:Nat}{s:Span}(c:DJ ns h i m s):0≤i∧i<(ns.length:Int):=by cases h <;> exact c.1
def kS (xs:List DSpot)(s:Span)(q:Nat):Span:=DM ⟨2,[],[],xs,[]⟩ s q
theorem KQ (x:DSpot)(xs:List DSpot)(s:Span):kS (x::xs) s 0=hiS s x:=rfl
theorem KP (x:DSpot)(xs:List DSpot)(s:Span){q:Nat}(hq:q≤xs.length):kS (x::xs) s (q+1)=kS xs (loS s x) q:=by
 have key:E9 ⟨2,[],[],x::xs,[]⟩ s (q+1)=E9 ⟨2,[],[],xs,[]⟩ (loS s x) q:=by
  cases q with
  | zero=>rfl
  | succ r =>
   have hr:xs[r]? = some xs[r]:=gge (by omega)
   show (match (x::xs)[r+1]? with | some y=>({ s with lo:=y,hasLo:=true }:Span) | none=>s)=(match xs[r]? with | some y=>({ loS s x with lo:=y,hasLo:=true }:Span) | none=>loS s x)
   rw [List.getElem?_cons_succ,hr];rfl
 unfold kS DM
 rw [key]
 show Hw ⟨2,[],[],x::xs,[]⟩ (E9 ⟨2,[],[],xs,[]⟩ (loS s x) q) (q+1)=Hw ⟨2,[],[],xs,[]⟩ (E9 ⟨2,[],[],xs,[]⟩ (loS s x) q) q
 unfold Hw
 show (match (x::xs)[q+1]? with | some y=>_ | none=>_)=_
 rw [List.getElem?_cons_succ]
 rfl
theorem J3 {P:Int→Int→Span→Prop}:∀ {xs:List DSpot} {s:Span} {ks ts:List Int},xs.length+1=ks.length→ts.length=ks.length→xs.Pairwise SpotO→(∀ x∈xs,inS s x=true) →
 (Ch P xs s ks ts↔∀(q:Nat) (k t:Int),ks[q]? = some k→ts[q]? = some t→P k t (kS xs s q))
 | [],s,ks,ts,h1,h2,_,_=>by
  obtain⟨a,rfl⟩:=length_eq_one_iff.1 h1.symm
  obtain⟨b,rfl⟩:=length_eq_one_iff.1 h2
  constructor
  · rintro⟨k,t,e1,e2,c⟩ q k' t' hk ht
    obtain rfl:a=k:=by simpa using e1
    obtain rfl:b=t:=by simpa using e2
    cases q with
    | zero =>
     obtain rfl:a=k':=by simpa using hk
     obtain rfl:b=t':=by simpa using ht
     exact c
    | succ q=>simp at hk
  · intro h
    exact⟨a,b,rfl,rfl,h 0 a b rfl rfl⟩
 | x::xs,s,ks,ts,h1,h2,ho,hs=>by
  cases ks with
  | nil=>simp at h1
  | cons a ks =>
  cases ts with
  | nil=>simp at h2
  | cons b ts =>
  rw [pairwise_cons] at ho
  have hx:=DX.1 (hs x mem_cons_self)
  have ih:=J3 (P:=P) (xs:=xs) (s:=loS s x) (ks:=ks) (ts:=ts) (by simpa using h1) (by simpa using h2) ho.2 (fun y hy=>by
   have hxy:cmpS x y<0:=ho.1 y hy
   have:=DX.1 (hs y (mem_cons_of_mem _ hy))
   exact Fm.2 ⟨by omega,this.2⟩)
  have hlen:xs.length+1=ks.length:=by simpa using h1
  constructor
  · rintro⟨k,ks1,t,ts1,e1,e2,c1,c2,c⟩ q k' t' hk ht
    obtain⟨rfl,rfl⟩ : a=k∧ks=ks1:=by simpa using e1
    obtain⟨rfl,rfl⟩ : b=t∧ts=ts1:=by simpa using e2
    cases q with
    | zero =>
     obtain rfl:a=k':=by simpa using hk
     obtain rfl:b=t':=by simpa using ht
     rw [KQ];exact c2
    | succ q =>
     rw [List.getElem?_cons_succ] at hk ht
     rw [KP x xs s (by have:=(ggs.1 hk).1;omega)]
     exact ih.1 c q k' t' hk ht
  · intro h
    refine⟨a,ks,b,ts,rfl,rfl,hs x mem_cons_self,by have:=h 0 a b rfl rfl;rwa [KQ] at this,ih.2 fun q k t hk ht=>?_⟩
    have:=h (q+1) k t (by simpa using hk) (by simpa using ht)
    rwa [KP x xs s (by have:=(ggs.1 hk).1;omega)] at this
theorem Mt (n:DNode)(s:Span)(q:Nat):DM n s q=kS n.seps s q:=by
 unfold kS DM Hw
 have:E9 n s q=E9 ⟨2,[],[],n.seps,[]⟩ s q:=by cases q <;> rfl
 rw [this]
theorem HV {n:DNode}{s:Span}:(∀ q,q≤n.seps.length→D5 n s q=false)↔∀ x∈n.seps,inS s x=true:=by
 have key : ∀ q x,n.seps[q]? = some x→(D5 n s (q+1)=false↔inS s x=true):=fun q x hx=>by
  have e:D5 n s (q+1) = !inS s x:=by
   show (match n.seps[q]? with | some x=>!inS s x | none=>false)=_
   rw [hx]
  rw [e];simp
 constructor
 · intro h x hx
   obtain⟨q,hq⟩:=List.mem_iff_getElem?.1 hx
   have:=(ggs.1 hq).1
   exact(key q x hq).1 (h (q+1) (by omega))
 · intro h q hq
   cases q with
   | zero=>rfl
   | succ q =>
    have hx:n.seps[q]? = some n.seps[q]:=gge (by omega)
    exact(key q _ hx).2 (h _ (List.getElem_mem _))
def mOf (d:Int)(h:Nat):Nat:=if 0<d then 4 else if h=0 then 0 else 2
theorem HE {ns:List DNode}(hns : ∀ n∈ns,DS n=0):∀(h:Nat) (i d:Int) (s:Span),0≤d→(okN ns h i d s↔DJ ns h i (mOf d h) s):=by
 intro h
 induction h with
 | zero =>
  intro i d s hd
  have hm : ∀ L:Leaf (nd ns i),((0<d→4≤(nd ns i).elems.length+(nd ns i).kids.length)↔mOf d 0≤(nd ns i).elems.length):=fun L=>by
   rw [L.kids];unfold mOf
   by_cases h:0<d
   · rw [if_pos h];simp [h]
   · rw [if_neg h];simp [h]
  constructor
  · rintro⟨h1,h2,h3,h4⟩
    exact⟨h1,h2,(hm (FA hns h1 h2)).1 h3,h4⟩
  · rintro⟨h1,h2,h3,h4⟩
    exact⟨h1,h2,(hm (FA hns h1 h2)).2 h3,h4⟩
 | succ h ih =>
  intro i d s hd
  have hm : ∀ L:Inner (nd ns i),((0<d→4≤(nd ns i).elems.length+(nd ns i).kids.length)↔mOf d (h+1)≤(nd ns i).kids.length):=fun L=>by
   rw [L.elems];unfold mOf
   have:=L.two
   by_cases h:0<d
   · rw [if_pos h];simp [h]
   · rw [if_neg h];simp [h];omega
  have h4:mOf (d+1) h=4:=by unfold mOf;rw [if_pos (by omega)]
  constructor
  · rintro⟨h1,h2,h3,h5⟩
    obtain⟨hk,L⟩:=EQ hns h1 h2
    refine⟨h1,hk,(hm L).1 h3,?_⟩
    refine(J3 L.seps L.tids L.ord (HV.1 fun q hq=>?_)).2 fun q k t hk' ht=>?_
    · have hlen:=L.seps
      have hkk:(nd ns i).kids[q]? = some (nd ns i).kids[q]:=gge (by omega)
      exact(h5 (_,q) (FZ hkk)).2.1
    · obtain⟨c1,_,c3⟩:=h5 (k,q) (FZ hk')
      dsimp only at c1 c3
      rw [Mt] at c1
      have:=(ih k (d+1) _ (by omega)).1 c1
      rw [h4] at this
      exact⟨this,by rw [c3,ht];rfl⟩
  · rintro⟨h1,h2,h3,h5⟩
    obtain⟨hk,L⟩:=EQ hns h1 ⟨by rw [h2];decide,by rw [h2];decide⟩
    have hseps:=h5.seps
    refine⟨h1,⟨by rw [h2];decide,by rw [h2];decide⟩,(hm L).2 h3,fun p hp=>?_⟩
    rw [List.mem_zipIdx_iff_getElem?] at hp
    have hpl:=(ggs.1 hp).1
    have htl:=L.tids
    have ht:(nd ns i).tids[p.2]? = some (nd ns i).tids[p.2]:=gge (by omega)
    obtain⟨c1,c2⟩:=(J3 L.seps L.tids L.ord hseps).1 h5 p.2 p.1 _ hp ht
    refine⟨?_,HV.2 hseps p.2 (by have:=L.seps;omega),by rw [c2,ht];rfl⟩
    rw [Mt]
    rw [← h4] at c1
    exact(ih p.1 (d+1) _ (by omega)).2 c1
theorem EY {f g:Int→List Nat}:∀ {l:List Int},(∀ a∈l,f a=g a)→l.flatMap f=l.flatMap g
 | [],_=>rfl
 | a::l,h=>by rw [flatMap_cons,flatMap_cons,h a mem_cons_self,EY fun b hb=>h b (mem_cons_of_mem _ hb)]
theorem DJ.same {ns ns' : List DNode}(hl:ns.length≤ns'.length):∀ {h:Nat} {i:Int} {m:Nat} {s:Span},DJ ns h i m s→(∀ j∈ids ns h i,ns'[j]? = ns[j]?) →
 DJ ns' h i m s∧ids ns' h i=ids ns h i∧Dx ns' h i=Dx ns h i∧nd ns' i=nd ns i:=by
 intro h
 induction h with
 | zero =>
  intro i m s c hj
  have e:nd ns' i=nd ns i:=by unfold nd;rw [hj i.toNat (by simp [ids])]
  refine⟨?_,rfl,by unfold Dx;rw [e],e⟩
  obtain⟨h1,h2,h3,h4⟩:=c
  exact⟨⟨h1.1,by omega⟩,by rw [e];exact h2,by rw [e];exact h3,by rw [e];exact h4⟩
 | succ h ih =>
  intro i m s c hj
  have e:nd ns' i=nd ns i:=by unfold nd;rw [hj i.toNat (by simp [ids])]
  obtain⟨h1,h2,h3,h4⟩:=c
  have hkid : ∀ k∈(nd ns i).kids,∀ {m:Nat} {s:Span},DJ ns h k m s→DJ ns' h k m s∧ids ns' h k=ids ns h k∧Dx ns' h k=Dx ns h k∧nd ns' k=nd ns k:=fun k hk {m s} c =>
   ih c fun j hjk=>hj j (by rw [ids];exact mem_cons_of_mem _ (mem_flatMap.2 ⟨k,hk,hjk⟩))
  refine⟨⟨⟨h1.1,by omega⟩,by rw [e];exact h2,by rw [e];exact h3,?_⟩,?_,?_,e⟩
  · rw [e]
    exact h4.mono fun k t s' hk c=>⟨(hkid k hk c.1).1,by rw [(hkid k hk c.1).2.2.2];exact c.2⟩
  · rw [ids,ids,e]
    congr 1
    exact EY fun k hk=>by obtain ⟨t,s',c,_⟩:=h4.mem k hk;exact(hkid k hk c.1).2.1
  · rw [Dx,Dx,e]
    exact DT fun k hk=>by obtain ⟨t,s',c,_⟩:=h4.mem k hk;exact(hkid k hk c.1).2.2.1
end
section
abbrev NL:=List (Int ⊕ DNode)
def zN:DNode:=⟨0,[],[],[],[]⟩
def fN1:Int ⊕ DNode→DNode
 | .inl _=>zN
 | .inr n=>n
def fN (N:NL):List DNode:=N.map fN1
theorem DD (N:NL):(fN N).length=N.length:=length_map ..
theorem F9 (N:NL)(j:Nat):(fN N)[j]? = (N[j]?).map fN1:=List.getElem?_map ..
theorem Lz {N N' : NL}{j:Nat}(h:N'[j]? = N[j]?):(fN N')[j]? = (fN N)[j]?:=by rw [F9,F9,h]
theorem MB (l:List DNode):fN (l.map Sum.inr)=l:=by
 unfold fN
 rw [List.map_map]
 exact List.map_id'' (fun _=>rfl) l
theorem DQ (N:NL){i:Int}{j:Nat}(h:j≠i.toNat):(wt N i)[j]? = N[j]?:=by unfold wt;rw [List.getElem?_set_ne (by omega)]
theorem DI (N:NL){i:Int}{n:DNode}{j:Nat}(h:j≠i.toNat):(v0 N i n)[j]? = N[j]?:=by unfold v0;rw [List.getElem?_set_ne (by omega)]
theorem DY (N:NL){i:Int}{n:DNode}(h:i.toNat<N.length):(v0 N i n)[i.toNat]? = some (.inr n):=by unfold v0;rw [List.getElem?_set_self h]
theorem Dz (N:NL)(i:Int):(wt N i).length=N.length:=by unfold wt;rw [List.length_set]
theorem DB (N:NL)(i:Int)(n:DNode):(v0 N i n).length=N.length:=by unfold v0;rw [List.length_set]
def kd (N:NL)(j:Nat):Option Int:=(N[j]?).map Ce
theorem Fu (N:NL)(i:Int)(j:Nat):kd (wt N i) j=kd N j:=by
 unfold kd wt
 rw [List.getElem?_set]
 split
 · rename_i e;subst e
   split
   · rename_i h;rw [gge h];rfl
   · rename_i h;rw [List.getElem?_eq_none (by omega)]
 · rfl
def Em (N:NL):Prop:=∀ n∈fN N,DS n=0
theorem Em.out {N:NL}(h:Em N)(i:Int):Em (wt N i):=fun n hn=>by
 obtain⟨x,hx,rfl⟩:=mem_map.1 hn
 rcases List.mem_or_eq_of_mem_set hx with hx | rfl
 · exact h _ (mem_map.2 ⟨x,hx,rfl⟩)
 · show DS zN=0;decide
theorem Em.put {N:NL}(h:Em N){i:Int}{n:DNode}(hn:DS n=0):Em (v0 N i n):=fun m hm=>by
 obtain⟨x,hx,rfl⟩:=mem_map.1 hm
 rcases List.mem_or_eq_of_mem_set hx with hx | rfl
 · exact h _ (mem_map.2 ⟨x,hx,rfl⟩)
 · exact hn
theorem Em.push {N:NL}(h:Em N){n:DNode}(hn:DS n=0):Em (N++[.inr n]):=fun m hm=>by
 obtain⟨x,hx,rfl⟩:=mem_map.1 hm
 rcases mem_append.1 hx with hx | hx
 · exact h _ (mem_map.2 ⟨x,hx,rfl⟩)
 · rw [mem_singleton.1 hx];exact hn
theorem Mg {N:NL}{i:Int}(h:0≤i∧i<((fN N).length:Int))(hk:(nd (fN N) i).kind≠0):xp N i=some (nd (fN N) i)∧N[i.toNat]? = some (.inr (nd (fN N) i)):=by
 rw [DD] at h
 have hg:N[i.toNat]? = some N[i.toNat]:=gge (by omega)
 have hn:nd (fN N) i=fN1 N[i.toNat]:=by
  unfold nd;rw [F9,hg];rfl
 cases hx:N[i.toNat] with
 | inl k =>
  rw [hn,hx] at hk
  exact absurd rfl hk
 | inr n =>
  rw [hn,hx]
  unfold xp
  rw [if_neg (by omega),hg,hx]
  exact⟨rfl,rfl⟩
theorem DJ.kind {ns:List DNode}{h:Nat}{i:Int}{m:Nat}{s:Span}(c:DJ ns h i m s):(nd ns i).kind≠0:=by
 cases h with
 | zero=>rw [c.2.1];decide
 | succ h=>rw [c.2.1];decide
theorem DJ.node {N:NL}{h:Nat}{i:Int}{m:Nat}{s:Span}(c:DJ (fN N) h i m s):xp N i=some (nd (fN N) i)∧N[i.toNat]? = some (.inr (nd (fN N) i)):=Mg c.range c.kind
theorem FE {N:NL}{i:Int}(h:0≤i∧i<(N.length:Int)):xO N i=some ():=by unfold xO;rw [if_pos h]
theorem Hk {N:NL}{i:Int}{n:DNode}(h:0≤i∧i<(N.length:Int)):nd (fN (v0 N i n)) i=n:=by
 unfold nd
 rw [F9,DY N (by omega)];rfl
theorem DJ.agree {N N' : NL}(hl:N.length≤N'.length){h:Nat}{i:Int}{m:Nat}{s:Span}(c:DJ (fN N) h i m s)(hj : ∀ j∈ids (fN N) h i,N'[j]? = N[j]?) :
 DJ (fN N') h i m s∧ids (fN N') h i=ids (fN N) h i∧Dx (fN N') h i=Dx (fN N) h i∧nd (fN N') i=nd (fN N) i :=
 DJ.same (by rw [DD,DD];exact hl) c fun j hjm=>Lz (hj j hjm)
theorem DJ.head {ns:List DNode}(h:Nat)(i:Int):i.toNat∈ids ns h i:=by cases h <;> simp [ids]
theorem Ch.before {P:Int→Int→Span→Prop}:∀ {XA X:List DSpot} {s:Span} {A K TA T:List Int},XA.length=A.length→TA.length=A.length→Ch P (XA++X) s (A++K) (TA++T)→∀ k∈A,∃ t s',P k t s'∧∀ y,inS s' y=true→∃ x∈XA,cmpS y x<0
 | [],X,s,A,K,TA,T,h1,_,_,k,hk=>by
  obtain rfl:=eq_nil_of_length_eq_zero h1.symm
  cases hk
 | x::XA,X,s,A,K,TA,T,h1,h2,⟨a,ks,t,ts,e1,e2,c1,c2,c⟩,k,hk=>by
  cases A with
  | nil=>simp at h1
  | cons b A =>
  cases TA with
  | nil=>simp at h2
  | cons u TA =>
  obtain⟨rfl,rfl⟩ : b=a∧A++K=ks:=by simpa using e1
  obtain⟨rfl,rfl⟩ : u=t∧TA++T=ts:=by simpa using e2
  rcases mem_cons.1 hk with rfl | hk
  · exact⟨u,_,c2,fun y hy=>⟨x,mem_cons_self,(Et.1 hy).2⟩⟩
  · obtain⟨t',s',i1,i2⟩:=Ch.before (by simpa using h1) (by simpa using h2) c k hk
    exact⟨t',s',i1,fun y hy=>by obtain ⟨z,hz,hzy⟩:=i2 y hy;exact⟨z,mem_cons_of_mem _ hz,hzy⟩⟩
theorem Ch.behind {P:Int→Int→Span→Prop}:∀ {XA XB:List DSpot} {x:DSpot} {s:Span} {A B TA TB:List Int},XA.length+1=A.length→TA.length=A.length→Ch P (XA++x::XB) s (A++B) (TA++TB)→∀ k∈B,∃ t s',P k t s'∧∀ y,inS s' y=true→cmpS x y≤0
 | [],XB,x,s,A,B,TA,TB,h1,h2,⟨a,ks,t,ts,e1,e2,c1,c2,c⟩,k,hk=>by
  obtain⟨b,rfl⟩:=length_eq_one_iff.1 h1.symm
  obtain⟨u,rfl⟩:=length_eq_one_iff.1 h2
  obtain⟨rfl,rfl⟩ : b=a∧B=ks:=by simpa using e1
  obtain⟨rfl,rfl⟩ : u=t∧TB=ts:=by simpa using e2
  obtain⟨t',s',i1,i2⟩:=c.mem k hk
  exact⟨t',s',i1,fun y hy=>(Fm.1 (i2 y hy)).1⟩
 | z::XA,XB,x,s,A,B,TA,TB,h1,h2,⟨a,ks,t,ts,e1,e2,c1,c2,c⟩,k,hk=>by
  cases A with
  | nil=>simp at h1
  | cons b A =>
  cases TA with
  | nil=>simp at h2
  | cons u TA =>
  obtain⟨rfl,rfl⟩ : b=a∧A++B=ks:=by simpa using e1
  obtain⟨rfl,rfl⟩ : u=t∧TA++TB=ts:=by simpa using e2
  exact Ch.behind (by simpa using h1) (by simpa using h2) c k hk
theorem FT {α:Type}(l:List α){w:Nat}(h:w<l.length):l=l.take w++l[w]::l.drop (w+1):=by
 rw [← drop_eq_getElem_cons h,take_append_drop]
structure Foc (P:Int→Int→Span→Prop) (n:DNode) (s:Span) (sp:DSpot) (A:List Int) (k:Int) (B:List Int) (XA XB:List DSpot) (TA:List Int) (t:Int) (TB:List Int) (s' : Span):Prop where
 kids:n.kids=A++k::B
 seps:n.seps=XA++XB
 tids:n.tids=TA++t::TB
 xa:XA.length=A.length
 ta:TA.length=A.length
 xb:XB.length=B.length
 tb:TB.length=B.length
 way:ET n.seps sp=A.length
 here:P k t s'
 in_:inS s' sp=true
 sub : ∀ y,inS s' y=true→inS s y=true
 lo : ∀ k'∈A,∃ t' s'',P k' t' s''∧∀ y,inS s'' y=true→cmpS y sp<0
 hi : ∀ k'∈B,∃ t' s'',P k' t' s''∧∀ y,inS s'' y=true→cmpS sp y<0
 loX : ∀ x∈XA,∀ y,inS s' y=true→cmpS x y≤0
 hiX : ∀ x∈XB,∀ y,inS s' y=true→cmpS y x<0
 turn : ∀ Q:Int→Int→Span→Prop,(∀ k t s',k∈A∨k∈B→P k t s'→Q k t s')→∀ M' XM' TM',Ch Q XM' s' M' TM'→Ch Q (XA++(XM'++XB)) s (A++(M'++B)) (TA++(TM'++TB))
theorem J8 {P:Int→Int→Span→Prop}{n:DNode}{s:Span}{sp:DSpot}(h1:n.seps.length+1=n.kids.length)(h2:n.tids.length=n.kids.length)(ho:n.seps.Pairwise SpotO)(c:Ch P n.seps s n.kids n.tids)(hs:inS s sp=true) :
 ∃ A k B XA XB TA t TB s',Foc P n s sp A k B XA XB TA t TB s':=by
 have hw:=HF n.seps sp
 obtain⟨w1,w2⟩:=Je n.seps sp
 generalize hwe:ET n.seps sp=w at *
 have e1:=FT n.kids (w:=w) (by omega)
 have e2:=FT n.tids (w:=w) (by omega)
 have e3:n.seps=n.seps.take w++n.seps.drop w:=(take_append_drop _ _).symm
 have l1:(n.kids.take w).length=w:=by rw [length_take];omega
 have l2:(n.tids.take w).length=w:=by rw [length_take];omega
 have l3:(n.seps.take w).length=w:=by rw [length_take];omega
 have l4:(n.kids.drop (w+1)).length=n.kids.length-(w+1):=length_drop
 have l5:(n.tids.drop (w+1)).length=n.tids.length-(w+1):=length_drop
 have l6:(n.seps.drop w).length=n.seps.length-w:=length_drop
 have xa : ∀ x∈n.seps.take w,cmpS x sp≤0:=fun x hx=>by
  obtain⟨q,hq⟩:=List.mem_iff_getElem?.1 hx
  have hql:=(ggs.1 hq).1
  rw [List.getElem?_take_of_lt (by omega)] at hq
  exact w1 q x (by omega) hq
 have xb : ∀ x∈n.seps.drop w,cmpS sp x<0:=fun x hx=>by
  have hlt:w<n.seps.length:=by
   obtain⟨q,hq⟩:=List.mem_iff_getElem?.1 hx
   have:=(ggs.1 hq).1;omega
  have h0:n.seps[w]? = some n.seps[w]:=gge hlt
  have h3:=w2 _ h0
  have h4:cmpS sp n.seps[w]<0:=by
   have:=DC.neg n.seps[w] sp
   omega
  rw [drop_eq_getElem_cons hlt] at hx
  rcases mem_cons.1 hx with rfl | hx
  · exact h4
  · obtain⟨q,hq⟩:=List.mem_iff_getElem?.1 hx
    rw [List.getElem?_drop] at hq
    exact DC.lt_trans h4 (Eg ho (by omega) h0 hq)
 have c':=c
 rw [e1,e2,e3] at c'
 have ho':=ho
 rw [e3] at ho'
 obtain⟨s',i1,i2,i3,i4,i5,i6⟩:=Ch.focus (XM:=[]) (M:=[n.kids[w]]) (TM:=[n.tids[w]]) (by omega) (by omega) rfl rfl (by omega) (by omega) ho' c'
 obtain⟨k,t,hk,ht,hP⟩:=i1
 obtain rfl:n.kids[w]=k:=by simpa using hk
 obtain rfl:n.tids[w]=t:=by simpa using ht
 refine⟨_,_,_,n.seps.take w,n.seps.drop w,_,_,_,s',e1,e3,e2,by omega,by omega,by omega,by omega,by rw [hwe,l1],hP,?_,i2,fun k' hk'=>?_,fun k' hk'=>?_,i3,i4,i6⟩
 · exact i5 sp hs (fun x hx=>xa x hx) (fun x hx=>xb x hx)
 · obtain⟨t',s'',j1,j2⟩:=Ch.before (by omega) (by omega) c' k' hk'
   exact⟨t',s'',j1,fun y hy=>by obtain ⟨x,hx,hxy⟩:=j2 y hy;exact EE hxy (xa x hx)⟩
 · have hne : n.seps.drop w ≠ [] := fun e => by
    have:(n.kids.drop (w+1)).length=0:=by rw [e] at l6;simp at l6;omega
    rw [eq_nil_of_length_eq_zero this] at hk';cases hk'
   obtain⟨x,XB,hX⟩:=List.exists_cons_of_ne_nil hne
   have c2:=c'
   rw [hX,show n.kids.take w++n.kids[w]::n.kids.drop (w+1)=(n.kids.take w++[n.kids[w]])++n.kids.drop (w+1) by simp,show n.tids.take w++n.tids[w]::n.tids.drop (w+1)=(n.tids.take w++[n.tids[w]])++n.tids.drop (w+1) by simp] at c2
   obtain⟨t',s'',j1,j2⟩:=Ch.behind (by simp;omega) (by simp;omega) c2 k' hk'
   exact⟨t',s'',j1,fun y hy=>EE (xb x (by rw [hX];exact mem_cons_self)) (j2 y hy)⟩
theorem DJ.weak {ns:List DNode}{h:Nat}{i:Int}{m m' : Nat}{s:Span}(hm:m'≤m)(c:DJ ns h i m s):DJ ns h i m' s:=by
 cases h with
 | zero=>exact ⟨c.1,c.2.1,Nat.le_trans hm c.2.2.1,c.2.2.2⟩
 | succ h=>exact ⟨c.1,c.2.1,Nat.le_trans hm c.2.2.1,c.2.2.2⟩
theorem DJ.leaf {ns:List DNode}(hns : ∀ n∈ns,DS n=0){i:Int}{m:Nat}{s:Span}(c:DJ ns 0 i m s):Leaf (nd ns i):=FA hns c.1 c.2.1
theorem DJ.inner {ns:List DNode}(hns : ∀ n∈ns,DS n=0){h:Nat}{i:Int}{m:Nat}{s:Span}(c:DJ ns (h+1) i m s):Inner (nd ns i):=(EQ hns c.1 ⟨by rw [c.2.1];decide,by rw [c.2.1];decide⟩).2
theorem DJ.elems {ns:List DNode}(hns : ∀ n∈ns,DS n=0){h:Nat}{i:Int}{m:Nat}{s:Span}(c:DJ ns h i m s):(Dx ns h i).Pairwise SpO∧∀ e∈Dx ns h i,inS s (Dy e)=true∧DG e=0:=by
 have h0:DJ ns h i (mOf 0 h) s:=by
  cases h with
  | zero=>exact c.weak (Nat.zero_le _)
  | succ h=>exact ⟨c.1,c.2.1,(c.inner hns).two,c.2.2.2⟩
 exact Er hns h i 0 s ((HE hns h i 0 s (Int.le_refl _)).2 h0)
theorem Gi {f:Int→List Nat}{i:Nat}{A B:List Int}{k:Int}(h:(i::(A++k::B).flatMap f).Nodup) :
 i ∉ f k∧(f k).Nodup∧(∀ a,a∈A∨a∈B→i ∉ f a∧∀ j∈f a,j ∉ f k):=by
 rw [flatMap_append,flatMap_cons,nodup_cons] at h
 obtain⟨h1,h2⟩:=h
 rw [nodup_append] at h2
 obtain⟨h3,h4,h5⟩:=h2
 rw [nodup_append] at h4
 obtain⟨h6,h7,h8⟩:=h4
 simp only [mem_append,not_or] at h1
 refine⟨h1.2.1,h6,fun a ha=>⟨fun hi=>?_,fun j hj hk=>?_⟩⟩
 · rcases ha with ha | ha
   · exact h1.1 (mem_flatMap.2 ⟨a,ha,hi⟩)
   · exact h1.2.2 (mem_flatMap.2 ⟨a,ha,hi⟩)
 · rcases ha with ha | ha
   · exact h5 j (mem_flatMap.2 ⟨a,ha,hj⟩) j (mem_append_left _ hk) rfl
   · exact h8 j hk j (mem_flatMap.2 ⟨a,ha,hj⟩) rfl
theorem EC {α:Type}(A:List α)(x:α)(B:List α):idx (A++x::B) (A.length:Int)=some x:=by
 rw [DA,List.getElem?_append_right (Nat.le_refl _)];simp
theorem FC {α:Type}(A:List α)(x y:α)(B:List α):(A++x::B).set A.length y=A++y::B:=by
 rw [List.set_append_right _ _ (Nat.le_refl _)];simp
end
section
variable {F:Nat} [Big F]
def EN (n i:Nat):Nat:=off n (kOf n) (i+1)-off n (kOf n) i
def Gz (n:Nat):List Int:=(List.range (kOf n)).map fun i=>((EN n i:Nat):Int)
theorem ER (n:Nat):(Gz n).length=kOf n:=by unfold Gz;simp
theorem Hu {n i:Nat}(h:i<kOf n):(Gz n)[i]? = some ((EN n i:Nat):Int):=by
 unfold Gz;rw [List.getElem?_map,List.getElem?_range h];rfl
theorem MD (n:Nat):kOf n≤n+1:=by unfold kOf;split <;> omega
theorem FP {α:Type}{l:List α}{i:Nat}{x:α}(h:l[i]? = some x):l.take (i+1)=l.take i++[x]:=by
 rw [take_add_one,h];rfl
theorem F0 {n:Nat}(hn:n≤100000):yu F (n:Int)=some (Gz n):=by
 unfold yu
 have hE:(if (1:Int)<(i64.wrap ((i64.wrap ((i64.wrap ((n:Int)+8))-1):Int).tdiv 8)) then i64.wrap ((i64.wrap ((i64.wrap ((n:Int)+8))-1):Int).tdiv 8) else 1)=(kOf n:Int):=by
  rw [w64 (n:=(n:Int)+8) (by omega) (by omega),w64 (n:=(n:Int)+8-1) (by omega) (by omega),show (n:Int)+8-1=((n+7:Nat):Int) by omega]
  have e:(((n+7:Nat):Int)).tdiv 8=(((n+7) / 8:Nat):Int):=rfl
  rw [e,w64 (by omega) (by omega)]
  unfold kOf
  by_cases h:8<n
  · rw [if_pos h,if_pos (by omega)]
  · rw [if_neg h,if_neg (by omega)];rfl
 rw [hE]
 have hk:=Ek n
 have hk1:=MD n
 rw [Fb (List.range (kOf n)) (fun acc i=>acc++[((EN n i:Nat):Int)]) [] (r:=Gz n) (by rw [List.length_range];omega) rfl ?hs ?he]
 · rfl
 case hs =>
  intro i e hi
  have hi':=hi
  have hlt:=(ggs.1 hi).1
  rw [List.length_range] at hlt
  rw [List.getElem?_range hlt] at hi
  obtain rfl:=Option.some.inj hi
  dsimp only
  rw [HI]
  rw [show decide ((i:Int)<(kOf n:Int))=true from decide_eq_true (by omega),cond_true]
  have ht:BR (kOf n:Int)=some (kOf n:Int):=by unfold BR;rw [if_neg (by omega)]
  rw [ht,obs,obs]
  have hb1:n*(i+1)≤100000*100002:=Nat.mul_le_mul hn (by omega)
  have hb0:n*i≤100000*100002:=Nat.mul_le_mul hn (by omega)
  have e1:(n:Int)*((i:Int)+1)=((n*(i+1):Nat):Int):=by push_cast;rfl
  have e0:(n:Int)*(i:Int)=((n*i:Nat):Int):=by push_cast;rfl
  have d1:(((n*(i+1):Nat):Int)).tdiv (kOf n:Int)=((off n (kOf n) (i+1):Nat):Int):=rfl
  have d0:(((n*i:Nat):Int)).tdiv (kOf n:Int)=((off n (kOf n) i:Nat):Int):=rfl
  have hm:=Ha (n:=n) (k:=kOf n) (show i≤i+1 by omega)
  have hl:=Kl (n:=n) hk (show i+1≤kOf n by omega)
  have es:((off n (kOf n) (i+1):Nat):Int)-((off n (kOf n) i:Nat):Int)=((EN n i:Nat):Int):=by unfold EN;omega
  have hsh:EN n i≤n:=by unfold EN;omega
  rw [w64 (n:=(i:Int)+1) (by omega) (by omega),e1,e0,w64 (n:=((n*(i+1):Nat):Int)) (by omega) (by omega),w64 (n:=((n*i:Nat):Int)) (by omega) (by omega),d1,d0,w64 (n:=((off n (kOf n) (i+1):Nat):Int)) (by omega) (by omega),w64 (n:=((off n (kOf n) i:Nat):Int)) (by omega) (by omega),es,w64 (by omega) (by omega)]
  rw [DN (by simp;omega) (by simp;omega)]
  rfl
 case he =>
  dsimp only
  rw [HI,List.length_range,decide_eq_false (by omega),cond_false];rfl
theorem Ex {n:DNode}(h:DS n=0):Small n:=by
 obtain⟨h1,h2⟩:=ES h
 rcases DV.1 h with q | q | q
 · refine⟨by omega,by omega,?_,?_⟩
   · rw [q.2.2.2.1];simp
   · rw [q.2.2.2.2];simp
 · refine⟨by omega,by omega,?_,?_⟩
   · rw [q.2.seps];simp
   · rw [q.2.tids];simp
 · exact⟨by omega,by omega,by have:=q.2.seps;omega,by have:=q.2.tids;omega⟩
def J0 (l:List DElem):Option Int:=l.zipIdx.findSome? fun p=>Eo l p.2 p.1
def ofR (l:List DElem):DTree × Int:=if 400<l.length then (⟨0,[]⟩,2) else match J0 l with
 | some e=>(⟨0,[]⟩,e)
 | none=>(EX l,0)
theorem Ik {l:List DElem}:J0 l=none↔(∀ e∈l,DG e=0)∧l.Pairwise SpO:=by
 unfold J0
 rw [FH]
 constructor
 · intro h
   refine⟨fun e he=>?_,Fe (R:=SpO) (fun a b c h1 h2=>SpO.trans h1 h2) fun j p e hp he=>?_⟩
   · obtain⟨k,hk⟩:=List.mem_iff_getElem?.1 he
     exact(EK.1 (h k e hk)).1
   · exact(EK.1 (h (j+1) e he)).2 j p rfl hp
 · rintro⟨h1,h2⟩ k e hk
   exact EK.2 ⟨h1 e (List.mem_of_getElem? hk),fun j p hj hp=>Eg h2 (by omega) hp hk⟩
theorem JB {α:Type}{G:List (List α)}{β:Type}{φ:List α × Nat→β}{i:Nat}{g:List α}(h:G[i]? = some g):(G.zipIdx.map φ)[i]? = some (φ (g,i)):=by
 rw [List.getElem?_map,List.getElem?_zipIdx,h];simp
theorem IH {α:Type}(l:List α)(i:Nat):(l.drop (off l.length (kOf l.length) i)).drop (EN l.length i)=l.drop (off l.length (kOf l.length) (i+1)):=by
 rw [List.drop_drop]
 congr 1
 have:=Ha (n:=l.length) (k:=kOf l.length) (show i≤i+1 by omega)
 unfold EN;omega
theorem IG {α:Type}(l:List α){i:Nat}(h:i<kOf l.length):EN l.length i≤(l.drop (off l.length (kOf l.length) i)).length:=by
 have h1:=Kl (n:=l.length) (Ek l.length) (show i+1≤kOf l.length by omega)
 rw [length_drop];unfold EN;omega
theorem Jm (l:List DElem):AL F l=some (ofR l):=by
 unfold AL ofR
 by_cases hl:400<l.length
 · rw [show decide ((400:Int)<(l.length:Int))=true from decide_eq_true (by omega),cond_true,if_pos hl]
 rw [show decide ((400:Int)<(l.length:Int))=false from decide_eq_false (by omega),cond_false,if_neg hl]
 rw [Fa l (fun k e=>(Eo l k e).map fun x=>Sum.inr ((⟨0,[]⟩ : DTree),x)) (.inl ()) (by omega) rfl (fun k e hk hb=>?_) (by simp)]
 rotate_left
 · have hkl:=(ggs.1 hk).1
   rw [decide_eq_true (by omega),cond_true,DA,hk,obs,Ei,obs]
   unfold Eo
   by_cases hc:DG e=0
   · rw [DO hc,cond_false,if_neg (show ¬ (DG e≠0) by simpa using hc)]
     cases k with
     | zero =>
      rw [show decide ((0:Int)<((0:Nat):Int))=false from rfl,cond_false,obs,cond_false,w64 (by omega) (by omega)];rfl
     | succ j =>
      obtain⟨p,hp⟩ : ∃ p,l[j]? = some p:=⟨_,gge (by omega)⟩
      have e1:i64.wrap (((j+1:Nat):Int)-1)=(j:Int):=by rw [w64 (by omega) (by omega)];omega
      rw [decide_eq_true (show (0:Int)<((j+1:Nat):Int) by omega),cond_true,e1,DA,hp]
      simp only [obs,DF,DL,hp]
      by_cases hs:0≤cmpS (Dy p) (Dy e)
      · rw [decide_eq_true hs,if_pos hs];rfl
      · rw [decide_eq_false hs,if_neg hs,cond_false,w64 (by omega) (by omega)];rfl
   · rw [DU hc,cond_true,if_pos (show (DG e≠0) by simpa using hc)];rfl
 have hbad:((l.zipIdx.findSome? fun p=>(Eo l p.2 p.1).map fun x=>(Sum.inr ((⟨0,[]⟩ : DTree),x):Unit ⊕ (DTree × Int))).getD (.inl ()))=match J0 l with
  | some e=>.inr (⟨0,[]⟩,e)
  | none=>.inl ():=by
  have : ∀ q:List (DElem × Nat),(q.findSome? fun p=>(Eo l p.2 p.1).map fun x=>(Sum.inr ((⟨0,[]⟩ : DTree),x):Unit ⊕ (DTree × Int)))=(q.findSome? fun p=>Eo l p.2 p.1).map fun x=>Sum.inr (⟨0,[]⟩,x):=by
   intro q
   induction q with
   | nil=>rfl
   | cons a q ih=>rw [List.findSome?_cons,List.findSome?_cons];cases Eo l a.2 a.1 with
    | none=>exact ih
    | some x=>rfl
  rw [this]
  unfold J0
  cases (l.zipIdx.findSome? fun p=>Eo l p.2 p.1) <;> rfl
 rw [hbad,obs]
 cases hb:J0 l with
 | some e=>rfl
 | none =>
  obtain⟨ho,hp⟩:=Ik.1 hb
  dsimp only
  have hk:=Ek l.length
  have hk50:kOf l.length≤50:=Iz (by omega) (by decide)
  have hglen:=DR l
  rw [F0 (by omega),obs]
  rw [D7 (fun i=>(((D2 l).take i,(Fy l).take i,l.drop (off l.length (kOf l.length) i),(i:Int)):List DNode × List Dbuild_low × List DElem × Int)) (kOf l.length) (r:=(D2 l,Fy l)) (by rw [Gk];rfl) (by omega) ?hs ?he]
  case he =>
   dsimp only
   rw [ER,decide_eq_false (by omega),cond_false,List.take_of_length_le (by unfold D2;rw [length_map];omega),List.take_of_length_le (by unfold Fy;rw [length_map,List.length_zipIdx];omega)]
  case hs =>
   intro i hi
   dsimp only
   have hg:=GL hi
   have hn0:(D2 l)[i]? = some (LL (EW l (kOf l.length) i)):=by unfold D2;rw [List.getElem?_map,hg];rfl
   have hl0:(Fy l)[i]? = some ⟨(i:Int),G4 (EW l (kOf l.length) i)⟩:=JB hg
   have hrl:=IG l hi
   have hrn:=IH l i
   have hpc:EW l (kOf l.length) i=(l.drop (off l.length (kOf l.length) i)).take (EN l.length i):=rfl
   have hpl:(EW l (kOf l.length) i).length≤8:=(D6 (List.mem_of_getElem? hg)).1
   generalize hrest:l.drop (off l.length (kOf l.length) i)=rest at *
   have htl:((D2 l).take i).length=i:=by rw [length_take];unfold D2;rw [length_map];omega
   have htl2:((Fy l).take i).length=i:=by rw [length_take];unfold Fy;rw [length_map,List.length_zipIdx];omega
   rw [ER,decide_eq_true (by omega),cond_true,DA,Hu hi,obs]
   have hspot:(bif decide ((0:Int)<((EN l.length i:Nat):Int)) then (idx rest 0).bind fun e4=>(wj e4).bind fun r8=>some (r8.key.pfs,r8.key.obj,r8.key.off,r8.made) else some (0,0,0,0):Option (Int × Int × Int × Int)) =
    some ((G4 (EW l (kOf l.length) i)).key.pfs,(G4 (EW l (kOf l.length) i)).key.obj,(G4 (EW l (kOf l.length) i)).key.off,(G4 (EW l (kOf l.length) i)).made):=by
    by_cases h0:0<EN l.length i
    · rw [decide_eq_true (show (0:Int)<((EN l.length i:Nat):Int) by omega),cond_true]
      cases rest with
      | nil=>simp at hrl;omega
      | cons e r =>
       obtain⟨q,hq⟩ : ∃ q,EN l.length i=q+1:=⟨EN l.length i-1,by omega⟩
       rw [hpc,hq,show idx (e::r) 0=some e from rfl,obs,DF];rfl
    · have h00:EN l.length i=0:=by omega
      rw [h00,List.take_zero] at hpc
      rw [hpc,h00];rfl
   rw [hspot,obs]
   dsimp only
   rw [Ed hrl,obs,← hpc,DN (by simp;omega) (by simp;omega),obs,DN (by simp;omega) (by simp;omega),obs,DN (by simp;omega) (by simp;omega),obs,DW hrl,obs,hrn,w64 (by omega) (by omega),htl,FP hn0,FP hl0]
   rfl
  rw [obs]
  dsimp only
  have L0:=Lev.zero (by omega) ho hp
  have hlv0:(Fy l).length≤400:=by have:=L0.size;omega
  have hout : ∀ {K:List DNode × List Dbuild_low→Option (DTree × Int)} {f:List DNode × List Dbuild_low→Option ((List DNode × List Dbuild_low) ⊕ (List DNode × List Dbuild_low))},
   (∀ ns lv h,Lev ns lv l h→f (ns,lv)=some (if 1<lv.length then .inl (D4 (ns,lv)) else .inr (ns,lv)))→(iter f F (D2 l,Fy l)).bind K=K (up 400 (D2 l,Fy l)):=by
   intro K f hf
   obtain⟨q,hq⟩ : ∃ q,K (up 400 (D2 l,Fy l))=some q∨True:=⟨(⟨0,[]⟩,0),.inr trivial⟩
   have hit:iter f F (D2 l,Fy l)=some (up 400 (D2 l,Fy l)):=by
    have:=LN (F:=F) (f:=f) (K:=some) (fun m s q=>q=up m s∧s.2.length≤m∧∃ h,Lev s.1 s.2 l h) ?_ (m:=400) (s:=(D2 l,Fy l)) (q:=up 400 (D2 l,Fy l)) (by omega) ⟨rfl,hlv0,0,L0⟩
    · simpa using this
    · rintro m ⟨ns,lv⟩ q ⟨rfl,hm,h,L⟩
      dsimp only at hm L
      have hpos:0<lv.length:=by rw [L.count];exact J2 _ _
      by_cases h1:1<lv.length
      · right
        obtain⟨m,rfl⟩ : ∃ k,m=k+1:=⟨m-1,by omega⟩
        have L':=L.next hp ho h1
        have hc:(D4 (ns,lv)).2.length=kOf lv.length:=by unfold D4;dsimp only;rw [length_map,List.length_zipIdx,DR]
        have hh:=GZ h1
        refine⟨m,D4 (ns,lv),by omega,by rw [hf ns lv h L,if_pos h1],?_,Nat.le_trans (Nat.le_of_eq hc) (by omega),h+1,L'⟩
        rw [up,if_pos h1]
      · left
        refine⟨(ns,lv),by rw [hf ns lv h L,if_neg h1],?_⟩
        cases m with
        | zero=>rfl
        | succ m=>rw [up,if_neg h1]
   rw [hit,obs]
  rw [hout ?hstep]
  case hstep =>
   intro ns lv h L
   dsimp only
   have hsize:=L.size
   by_cases h1:1<lv.length
   rotate_left
   · rw [if_neg h1,show decide ((1:Int)<(lv.length:Int))=false from decide_eq_false (by omega),cond_false]
   rw [if_pos h1,show decide ((1:Int)<(lv.length:Int))=true from decide_eq_true (by omega),cond_true]
   rw [F0 (by omega),obs]
   have hkl:=GZ h1
   have hkp:=Ek lv.length
   have hgl:=DR lv
   have hgm:((groups lv).map (FF ns)).length=kOf lv.length:=by rw [length_map];exact hgl
   have hlm:(D4 (ns,lv)).2.length=kOf lv.length:=by unfold D4;dsimp only;rw [length_map,List.length_zipIdx,DR]
   rw [D7 (fun i=>(((D4 (ns,lv)).2.take i,ns++((groups lv).map (FF ns)).take i,lv.drop (off lv.length (kOf lv.length) i),(i:Int)):List Dbuild_low × List DNode × List Dbuild_low × Int)) (kOf lv.length) (r:=((D4 (ns,lv)).2,(D4 (ns,lv)).1)) (by rw [Gk];simp) (by omega) ?hs2 ?he2]
   · rfl
   case he2 =>
    dsimp only
    rw [ER,decide_eq_false (by omega),cond_false,List.take_of_length_le (by omega),List.take_of_length_le (by omega)];rfl
   case hs2 =>
    intro i hi
    dsimp only
    have hg:=GL hi
    have hn0:((groups lv).map (FF ns))[i]? = some (FF ns (EW lv (kOf lv.length) i)):=by rw [List.getElem?_map,hg];rfl
    have hl0:(D4 (ns,lv)).2[i]? = some ⟨((ns.length+i:Nat):Int),KL (EW lv (kOf lv.length) i)⟩:=JB hg
    have hrl:=IG lv hi
    have hrn:=IH lv i
    have hpc:EW lv (kOf lv.length) i=(lv.drop (off lv.length (kOf lv.length) i)).take (EN lv.length i):=rfl
    obtain⟨hp8,_,_,hp1⟩:=D6 (List.mem_of_getElem? hg)
    have hp1:=hp1 h1
    have hsub:=(Gy (List.mem_of_getElem? hg)).subset
    generalize EW lv (kOf lv.length) i=g at *
    generalize lv.drop (off lv.length (kOf lv.length) i)=rest at *
    have htl:(((groups lv).map (FF ns)).take i).length=i:=by rw [length_take];omega
    have htl2:((D4 (ns,lv)).2.take i).length=i:=by rw [length_take];omega
    rw [ER,decide_eq_true (by omega),cond_true,DA,Hu hi,obs,Ed hrl,obs,← hpc]
    rw [D7 (s:=(([]:List DSpot),([]:List Int),([]:List Int),(0:Int))) (fun j=>(((g.take j).tail.map (·.s),(g.take j).map (fun k=>DE (nd ns k.i)),(g.take j).map (·.i),(j:Int)):List DSpot × List Int × List Int × Int)) g.length (r:=(g.tail.map (·.s),g.map (fun k=>DE (nd ns k.i)),g.map (·.i))) rfl (by omega) ?hs3 ?he3]
    case he3 =>
     dsimp only
     rw [decide_eq_false (by omega),cond_false,List.take_length]
    case hs3 =>
     intro j hj
     dsimp only
     have hgj:g[j]? = some g[j]:=gge hj
     have hin:=hsub (List.mem_of_getElem? hgj)
     have hrange:=(L.fit _ hin).range
     generalize g[j]=e at *
     have hnd:idx (ns++((groups lv).map (FF ns)).take i) e.i=some (nd ns e.i):=by
      rw [Gh hrange.1 (by rw [length_append];have:=hrange.2;omega),GQ ns _ hrange]
     have htk:(g.take j).length=j:=by rw [length_take];omega
     rw [decide_eq_true (by omega),cond_true,DA,hgj,obs,DN (by rw [length_map,htk,length_singleton];omega) (by rw [length_map,htk,length_singleton];omega),obs,hnd,obs,Ef _ (Ex (L.chk _ (Ez hrange.1 hrange.2))),obs,DN (by rw [length_map,htk,length_singleton];omega) (by rw [length_map,htk,length_singleton];omega),obs,w64 (by omega) (by omega),FP hgj,map_append,map_append]
     cases j with
     | zero=>rfl
     | succ j =>
      have hne:g.take (j+1)≠[]:=fun h=>by rw [h] at htk;simp at htk
      rw [decide_eq_true (show (0:Int)<((j+1:Nat):Int) by omega),cond_true,DN (by rw [length_map,List.length_tail,htk,length_singleton];omega) (by rw [length_map,List.length_tail,htk,length_singleton];omega),List.tail_append_of_ne_nil hne,map_append]
      rfl
    rw [obs]
    dsimp only
    obtain⟨y,g',rfl⟩ : ∃ y g',g=y::g':=by
     cases g with
     | nil=>simp at hp1
     | cons y g'=>exact ⟨y,g',rfl⟩
    have hy:idx rest 0=some y:=by
     cases rest with
     | nil=>simp at hpc
     | cons z r =>
      cases hsh:EN lv.length i with
      | zero=>rw [hsh] at hpc;simp at hpc
      | succ q=>rw [hsh,List.take_succ_cons] at hpc;rw [(List.cons.inj hpc).1];rfl
    rw [hy,obs,DN (by rw [htl2,length_singleton];omega) (by rw [htl2,length_singleton];omega),obs,DN (by rw [length_append,htl,length_singleton];omega) (by rw [length_append,htl,length_singleton];omega),obs,DW hrl,obs,hrn,w64 (by omega) (by omega),length_append,htl,FP hn0,FP hl0,append_assoc]
    rfl
  obtain⟨h,L,h1⟩:=Lev.up hp ho 400 L0 hlv0
  unfold EX
  dsimp only
  generalize up 400 (D2 l,Fy l)=x at L h1
  obtain⟨ns,lv⟩:=x
  dsimp only at L h1 ⊢
  obtain⟨y,rfl⟩:=length_eq_one_iff.1 h1
  rfl
end
section
def EH (e x:DElem):DElem:=if Dy x=Dy e then e else x
theorem Hn (e x:DElem):Dy (EH e x)=Dy x:=by
 unfold EH
 split
 · rename_i h;exact h.symm
 · rfl
theorem Mq {e x:DElem}(he:DG e=0)(hx:DG x=0):DG (EH e x)=0:=by
 unfold EH;split <;> assumption
theorem JS {e:DElem}{l:List DElem}(h:l.Pairwise SpO):(l.map (EH e)).Pairwise SpO:=by
 rw [List.pairwise_map]
 exact h.imp fun {a b} hab=>by unfold SpO at hab ⊢;rw [Hn,Hn];exact hab
theorem GU {e:DElem}{l:List DElem}(h : ∀ x∈l,Dy x≠Dy e):l.map (EH e)=l:=by
 conv=>rhs;rw [← List.map_id l]
 exact List.map_congr_left fun x hx=>by unfold EH;rw [if_neg (h x hx)];rfl
structure ChgPost (e:DElem) (N N' : NL) (h:Nat) (i:Int) (m:Nat) (s:Span):Prop where
 len:N'.length=N.length
 out : ∀ j,j ∉ ids (fN N) h i→N'[j]? = N[j]?
 kinds : ∀ j,kd N' j=kd N j
 chk:Em N'
 sub:DJ (fN N') h i m s
 ids:ids (fN N') h i=ids (fN N) h i
 elems:Dx (fN N') h i=(Dx (fN N) h i).map (EH e)
def GB (F:Nat)(e:DElem)(rf1:NL × Int→Option NL)(x:NL × Int):Option NL :=
 match x with
  | (x1,x2) =>
   (xp x1 x2).bind fun n1 =>
    bif (n1.kind == 1) then
     (iter (σ:=(List DElem) × Int) (ρ:=(List DElem)) (fun x=>match x with
      | (x3,x4) =>
       bif decide (x4<(n1.elems.length:Int)) then
        (
         (idx x3 x4).bind fun e1 =>
          (wj e1).bind fun r8 =>
          (wj e).bind fun r9 =>
          bif (r8 == r9) then
           (idx x3 x4).bind fun e2 =>
           some (x3.set x4.toNat e)
          else
           some x3:Option ((List DElem))).bind fun z3 =>
        some (.inl (z3,i64.wrap (x4+1)))
        else
         some (.inr x3)) F (n1.elems,0)).bind fun z2 =>
     (BF n1 (DNode.mk n1.kind z2 n1.kids n1.seps n1.tids)).bind fun u1 =>
     some (v0 (wt x1 x2) x2 (DNode.mk n1.kind z2 n1.kids n1.seps n1.tids))
    else
     (wj e).bind fun r10 =>
     (yd F n1 r10).bind fun r11 =>
     (idx n1.kids r11).bind fun e3 =>
     (rf1 ((wt x1 x2),e3)).bind fun z4 =>
     (idx n1.kids r11).bind fun e4 =>
     (xp z4 e4).bind fun n2 =>
     (wy F n2).bind fun r12 =>
     (idx n1.tids r11).bind fun e5 =>
     (BF n1 (DNode.mk n1.kind n1.elems n1.kids n1.seps (n1.tids.set r11.toNat r12))).bind fun u2 =>
     some (v0 z4 x2 (DNode.mk n1.kind n1.elems n1.kids n1.seps (n1.tids.set r11.toNat r12)))
variable {F:Nat} [Big F]
theorem KK {a b:DNode}(h1:a.elems.length=b.elems.length)(h2:a.kids.length=b.kids.length)(h3:a.seps.length=b.seps.length)(h4:a.tids.length=b.tids.length):BF a b=some ():=by
 unfold BF;rw [if_pos ⟨h1,h2,h3,h4⟩]
theorem Fg {n:DNode}(h1:n.kind=1)(h2:Leaf n):DS n=0:=DV.2 (.inr (.inl ⟨h1,h2⟩))
theorem D1 {n:DNode}(h1:n.kind=2)(h2:Inner n):DS n=0:=DV.2 (.inr (.inr ⟨h1,h2⟩))
theorem FG {N:NL}(h:Em N){i:Int}(hi:0≤i∧i<((fN N).length:Int)):DS (nd (fN N) i)=0:=h _ (Ez hi.1 hi.2)
theorem D9 {N:NL}(h:Em N){i:Int}(hi:0≤i∧i<((fN N).length:Int)):wy F (nd (fN N) i)=some (DE (nd (fN N) i)):=Ef _ (Ex (FG h hi))
theorem LU (l:List DElem)(e:DElem)(hl:l.length≤8) :
 iter (σ:=(List DElem) × Int) (ρ:=(List DElem)) (fun x=>match x with
  | (x3,x4) =>
   bif decide (x4<(l.length:Int)) then
    (
     (idx x3 x4).bind fun e1 =>
      (wj e1).bind fun r8 =>
      (wj e).bind fun r9 =>
      bif (r8 == r9) then
       (idx x3 x4).bind fun e2 =>
       some (x3.set x4.toNat e)
      else
       some x3:Option ((List DElem))).bind fun z3 =>
    some (.inl (z3,i64.wrap (x4+1)))
    else
     some (.inr x3)) F (l,0)=some (l.map (EH e)):=by
 refine D7 (fun k=>((l.take k).map (EH e)++l.drop k,(k:Int))) l.length (by simp) (by omega) (fun k hk=>?_) ?_
 · have hs:l.drop k=l[k]::l.drop (k+1):=drop_eq_getElem_cons hk
   have hlen:((l.take k).map (EH e)).length=k:=by rw [length_map,length_take];omega
   have hi:idx ((l.take k).map (EH e)++l.drop k) (k:Int)=some l[k]:=by
    rw [hs]
    have:=EC ((l.take k).map (EH e)) l[k] (l.drop (k+1))
    rwa [hlen] at this
   have ht:l.take (k+1)=l.take k++[l[k]]:=by rw [take_add_one,gge hk];rfl
   dsimp only
   rw [decide_eq_true (by omega),cond_true,hi,obs,DF,obs,DF,obs,w64 (by omega) (by omega),ht,map_append,append_assoc]
   by_cases h:Dy l[k]=Dy e
   · rw [show (Dy l[k] == Dy e)=true by simpa using h,cond_true,obs,obs,Int.toNat_natCast,hs]
     have:=FC ((l.take k).map (EH e)) l[k] e (l.drop (k+1))
     rw [hlen] at this
     rw [this]
     show _=some (Sum.inl ((l.take k).map (EH e)++([EH e l[k]]++l.drop (k+1)),_))
     unfold EH
     rw [if_pos h];rfl
   · rw [show (Dy l[k] == Dy e)=false by simpa using h,cond_false,obs]
     show _=some (Sum.inl ((l.take k).map (EH e)++([EH e l[k]]++l.drop (k+1)),_))
     rw [hs]
     conv=>rhs;unfold EH
     rw [if_neg h];rfl
 · dsimp only
   rw [decide_eq_false (by omega),cond_false,List.drop_length,List.take_length,append_nil]
theorem Lt {e:DElem}(he:DG e=0):∀(h mf:Nat) (N:NL) (i:Int) (m:Nat) (s:Span),h<mf→Em N→DJ (fN N) h i m s→(ids (fN N) h i).Nodup→inS s (Dy e)=true →
 ∃ N',Ae (GB F e) mf (N,i)=some N'∧ChgPost e N N' h i m s:=by
 intro h
 induction h with
 | zero =>
  intro mf N i m s hm hc c hn hs
  obtain⟨mf,rfl⟩ : ∃ q,mf=q+1:=⟨mf-1,by omega⟩
  have L:=c.leaf hc
  have hr:=c.range
  rw [DD] at hr
  obtain⟨hnode,hat⟩:=c.node
  have hk1:=c.2.1
  have L' : Leaf ⟨1,(nd (fN N) i).elems.map (EH e),(nd (fN N) i).kids,(nd (fN N) i).seps,(nd (fN N) i).tids⟩ :=
   ⟨L.kids,L.seps,L.tids,by rw [length_map];exact L.len,fun x hx=>by
    obtain⟨y,hy,rfl⟩:=mem_map.1 hx
    exact Mq he (L.ok y hy),JS L.ord⟩
  have hc':=Fg (n:=⟨1,(nd (fN N) i).elems.map (EH e),(nd (fN N) i).kids,(nd (fN N) i).seps,(nd (fN N) i).tids⟩) rfl L'
  have hnd:nd (fN (v0 (wt N i) i ⟨1,(nd (fN N) i).elems.map (EH e),(nd (fN N) i).kids,(nd (fN N) i).seps,(nd (fN N) i).tids⟩)) i=_:=Hk (by rw [Dz];exact hr)
  refine⟨v0 (wt N i) i ⟨1,(nd (fN N) i).elems.map (EH e),(nd (fN N) i).kids,(nd (fN N) i).seps,(nd (fN N) i).tids⟩,?_,?_,?_,?_,(hc.out i).put hc',?_,rfl,?_⟩
  · show GB F e (Ae (GB F e) mf) (N,i)=_
    have hfit:BF (nd (fN N) i) ⟨1,(nd (fN N) i).elems.map (EH e),(nd (fN N) i).kids,(nd (fN N) i).seps,(nd (fN N) i).tids⟩=some ():=KK (by simp) rfl rfl rfl
    unfold GB
    dsimp only
    rw [hnode,obs,hk1,show ((1:Int) == 1)=true from rfl,cond_true,LU _ _ L.len,obs,hfit,obs]
  · rw [DB,Dz]
  · intro j hj
    have hji:j≠i.toNat:=by simpa [ids] using hj
    rw [DI _ hji,DQ _ hji]
  · intro j
    by_cases hji:j=i.toNat
    · subst hji
      unfold kd
      rw [DY _ (by rw [Dz];omega),hat]
      show some 1=some (nd (fN N) i).kind
      rw [hk1]
    · unfold kd;rw [DI _ hji,DQ _ hji]
  · refine⟨?_,by rw [hnd],by rw [hnd,length_map];exact c.2.2.1,?_⟩
    · rw [DD,DB,Dz];exact hr
    · rw [hnd]
      intro x hx
      obtain⟨y,hy,rfl⟩:=mem_map.1 hx
      rw [Hn];exact c.2.2.2 y hy
  · show (nd _ i).elems=_
    rw [hnd];rfl
 | succ h ih =>
  intro mf N i m s hm hc c hn hs
  obtain⟨mf,rfl⟩ : ∃ q,mf=q+1:=⟨mf-1,by omega⟩
  have L:=c.inner hc
  have hr:=c.range
  rw [DD] at hr
  obtain⟨hnode,hat⟩:=c.node
  obtain⟨_,hk2,hmk,hch⟩:=c
  obtain⟨A,k,B,XA,XB,TA,t,TB,s',f⟩:=J8 L.seps L.tids L.ord hch hs
  generalize hnn:nd (fN N) i=n at *
  rw [ids,hnn,f.kids] at hn
  obtain⟨d1,d2,d3⟩:=Gi hn
  have hN1 : ∀ j∈ids (fN N) h k,(wt N i)[j]? = N[j]?:=fun j hj=>DQ N (fun e=>d1 (e▸hj))
  obtain⟨q1,q2,q3,q4⟩:=DJ.agree (N':=wt N i) (by rw [Dz];exact Nat.le_refl _) f.here.1 hN1
  obtain⟨N2,hrun,P2⟩:=ih mf (wt N i) k 4 s' (by omega) (hc.out i) q1 (by rw [q2];exact d2) f.in_
  have hlen2:N2.length=N.length:=by rw [P2.len,Dz]
  obtain⟨hnode2,_⟩:=P2.sub.node
  have hg:=Gc (FG P2.chk P2.sub.range)
  have hw:ET n.seps (Dy e)=TA.length:=by rw [f.way,f.ta]
  have htids:(n.tids.set TA.length (DE (nd (fN N2) k)))=TA++DE (nd (fN N2) k)::TB:=by rw [f.tids,FC]
  have L' : Inner ⟨2,n.elems,n.kids,n.seps,TA++DE (nd (fN N2) k)::TB⟩ :=
   ⟨L.elems,L.two,L.eight,L.seps,by have h5:=L.tids;rw [f.tids] at h5;simpa using h5,L.kid,fun x hx=>by
    rcases mem_append.1 hx with hx | hx
    · exact L.tid x (by rw [f.tids];exact mem_append_left _ hx)
    · rcases mem_cons.1 hx with rfl | hx
      · exact hg
      · exact L.tid x (by rw [f.tids];exact mem_append_right _ (mem_cons_of_mem _ hx)),L.ok,L.ord⟩
  obtain⟨n',hn'⟩ : ∃ n' : DNode,n' = ⟨2,n.elems,n.kids,n.seps,TA++DE (nd (fN N2) k)::TB⟩:=⟨_,rfl⟩
  have e2:n'.kind=2:=by rw [hn']
  have ek:n'.kids=n.kids:=by rw [hn']
  have es:n'.seps=n.seps:=by rw [hn']
  have et:n'.tids=TA++DE (nd (fN N2) k)::TB:=by rw [hn']
  rw [← hn'] at L'
  have hc':=D1 e2 L'
  have hnd:nd (fN (v0 N2 i n')) i=n':=Hk (by rw [hlen2];exact hr)
  have hi2:i.toNat ∉ ids (fN N2) h k:=by rw [P2.ids,q2];exact d1
  obtain⟨r1,r2,r3,r4⟩:=DJ.agree (N':=v0 N2 i n') (by rw [DB];exact Nat.le_refl _) P2.sub fun j hj=>DI N2 (fun e=>hi2 (e▸hj))
  have other : ∀ a,a∈A∨a∈B→∀ {m:Nat} {s:Span},DJ (fN N) h a m s→_:=fun a ha m s c=>DJ.agree (N:=N) (N':=v0 N2 i n') (by rw [DB,hlen2];exact Nat.le_refl _) c fun j hj=>by
   obtain⟨x1,x2⟩:=d3 a ha
   have hji:j≠i.toNat:=fun e=>x1 (e▸hj)
   rw [DI N2 hji,P2.out j (by rw [q2];exact x2 j hj),DQ N hji]
  have hkids : ∀ a,a∈A∨a∈B→∃ t' s'',DJ (fN N) h a 4 s''∧(∀ x∈Dx (fN N) h a,Dy x≠Dy e):=fun a ha=>by
   rcases ha with ha | ha
   · obtain⟨t',s'',x1,x2⟩:=f.lo a ha
     exact⟨t',s'',x1.1,fun x hx e=>by have:=x2 _ ((x1.1.elems hc).2 x hx).1;rw [e,DC.refl] at this;omega⟩
   · obtain⟨t',s'',x1,x2⟩:=f.hi a ha
     exact⟨t',s'',x1.1,fun x hx e=>by have:=x2 _ ((x1.1.elems hc).2 x hx).1;rw [e,DC.refl] at this;omega⟩
  have flat : ∀(l:List Int),(∀ a∈l,a∈A∨a∈B)→l.flatMap (ids (fN (v0 N2 i n')) h)=l.flatMap (ids (fN N) h) ∧
   l.flatMap (Dx (fN (v0 N2 i n')) h)=(l.flatMap (Dx (fN N) h)).map (EH e):=fun l hl=>by
   constructor
   · exact EY fun a ha=>by obtain ⟨t',s'',x1,_⟩:=hkids a (hl a ha);exact(other a (hl a ha) x1).2.1
   · rw [List.map_flatMap]
     exact DT fun a ha=>by obtain ⟨t',s'',x1,x2⟩:=hkids a (hl a ha);rw [(other a (hl a ha) x1).2.2.1,GU x2]
  refine⟨v0 N2 i n',?_,by rw [DB,hlen2],?_,?_,P2.chk.put hc',?_,?_,?_⟩
  · rw [hn']
    show GB F e (Ae (GB F e) mf) (N,i)=_
    have hfit:BF n ⟨2,n.elems,n.kids,n.seps,TA++DE (nd (fN N2) k)::TB⟩=some ():=KK rfl rfl rfl (by rw [f.tids];simp)
    generalize Ae (GB F e) mf=rf at hrun
    unfold GB
    dsimp only
    rw [hnode,obs,hk2,show ((2:Int) == 1)=false from rfl,cond_false,DF,obs,EL n _ (Ex (D1 hk2 L)),obs,f.way,f.kids,EC,obs,hrun,obs,obs,hnode2,obs,D9 P2.chk P2.sub.range,obs,f.tids,← f.ta,EC,obs,Int.toNat_natCast,FC]
    rw [f.kids] at hfit
    rw [hfit,obs]
  · intro j hj
    rw [ids,hnn,f.kids,flatMap_append,flatMap_cons] at hj
    simp only [mem_cons,mem_append,not_or] at hj
    rw [DI N2 hj.1,P2.out j (by rw [q2];exact hj.2.2.1),DQ N hj.1]
  · intro j
    by_cases hji:j=i.toNat
    · subst hji
      unfold kd
      rw [DY _ (by rw [hlen2];omega),hat]
      show some n'.kind=some n.kind
      rw [hk2,e2]
    · have:=P2.kinds j
      rw [Fu] at this
      rw [← this]
      unfold kd;rw [DI N2 hji]
  · refine⟨?_,by rw [hnd,e2],by rw [hnd,ek];exact hmk,?_⟩
    · rw [DD,DB,hlen2];exact hr
    · rw [hnd,es,ek,et]
      have:=f.turn (GW (fN (v0 N2 i n')) h) (fun a t' s'' ha x=>⟨(other a ha x.1).1,by rw [(other a ha x.1).2.2.2];exact x.2⟩) [k] [] [DE (nd (fN N2) k)] ⟨k,_,rfl,rfl,r1,by rw [r4]⟩
      rw [f.kids,f.seps]
      simpa using this
  · rw [ids,hnd,ids,hnn,ek,f.kids,flatMap_append,flatMap_cons,flatMap_append,flatMap_cons,(flat A fun a ha=>.inl ha).1,(flat B fun a ha=>.inr ha).1,r2,P2.ids,q2]
  · rw [Dx,hnd,Dx,hnn,ek,f.kids,flatMap_append,flatMap_cons,flatMap_append,flatMap_cons,(flat A fun a ha=>.inl ha).2,(flat B fun a ha=>.inr ha).2,r3,P2.elems,q3,map_append,map_append]
end
section
def H3 (x:Int ⊕ DNode):Bool:=Ce x != 0
def used (N:NL):Nat:=N.countP H3
theorem Fc {x:Int ⊕ DNode}:H3 x=true↔Ce x≠0:=by unfold H3;simp
theorem H4 {N:NL}{i:Nat}{x:Int ⊕ DNode}(y:Int ⊕ DNode)(h:N[i]? = some x):used (N.set i y)+(if H3 x then 1 else 0)=used N+(if H3 y then 1 else 0):=by
 unfold used
 induction N generalizing i with
 | nil=>simp at h
 | cons a N ih =>
  cases i with
  | zero =>
   obtain rfl:a=x:=by simpa using h
   rw [List.set_cons_zero,List.countP_cons,List.countP_cons];omega
  | succ i =>
   have:=ih (i:=i) (by simpa using h)
   rw [List.set_cons_succ,List.countP_cons,List.countP_cons];omega
theorem Lk {N:NL}{i:Nat}{x y:Int ⊕ DNode}(h:N[i]? = some x)(hx:Ce x≠0)(hy:Ce y≠0):used (N.set i y)=used N:=by
 have:=H4 y h
 rw [if_pos (Fc.2 hx),if_pos (Fc.2 hy)] at this
 omega
theorem He (N:NL)(i:Int):used (wt N i)=used N:=by
 unfold wt
 rcases Nat.lt_or_ge i.toNat N.length with h | h
 · have hg:=gge h
   have:=H4 (.inl (((N[i.toNat]?).map Ce).getD 0)) hg
   have e:H3 (.inl (((N[i.toNat]?).map Ce).getD 0))=H3 N[i.toNat]:=by rw [hg];rfl
   rw [e] at this
   omega
 · rw [List.set_eq_of_length_le h]
theorem Fz {N:NL}{j:Nat}{x:Int ⊕ DNode}(h:N[j]? = some x):kd N j=some (Ce x):=by unfold kd;rw [h];rfl
theorem KR {N:NL}{j:Nat}{k:Int}(h:kd N j=some k):∃ x,N[j]? = some x∧Ce x=k:=Option.map_eq_some_iff.1 h
theorem L4 {N:NL}(h : ∀(j:Nat) (x:Int ⊕ DNode),N[j]? = some x→Ce x≠0):used N=N.length :=
 List.countP_eq_length.2 fun x hx=>by
  obtain⟨j,hj⟩:=List.mem_iff_getElem?.1 hx
  exact Fc.2 (h j x hj)
structure Fr2 (N N' : NL) (I K:List Nat) (c:Nat):Prop where
 len:N.length≤N'.length
 cap:N'.length≤max N.length (used N')
 use:used N'≤used N+c
 out : ∀(j:Nat) (x:Int ⊕ DNode),j ∉ I→N[j]? = some x→Ce x≠0→N'[j]? = some x
 kept : ∀(j:Nat) (x:Int ⊕ DNode),N[j]? = some x→Ce x≠0→∃ y,N'[j]? = some y∧Ce y≠0
 new : ∀ j∈K,j∈I∨∀ x:Int ⊕ DNode,N[j]? = some x→Ce x=0
 all : ∀(j:Nat) (x:Int ⊕ DNode),N'[j]? = some x→Ce x≠0→j∈K∨(j ∉ I∧∃ y,N[j]? = some y∧Ce y≠0)
 nodup:K.Nodup
 chk:Em N'
 zero : ∀ j:Nat,N'[j]? = some (.inl 0)→N[j]? = some (.inl 0)
theorem Fr2.perm {N N' : NL}{I K K' : List Nat}{c:Nat}(h:Fr2 N N' I K c)(p:K.Perm K'):Fr2 N N' I K' c :=
 ⟨h.len,h.cap,h.use,h.out,h.kept,fun j hj=>h.new j (p.mem_iff.2 hj),fun j x hx hk=>(h.all j x hx hk).imp (fun q=>p.mem_iff.1 q) id,p.nodup_iff.1 h.nodup,h.chk,h.zero⟩
theorem Fr2.more {N N' : NL}{I K:List Nat}{c c' : Nat}(h:Fr2 N N' I K c)(hc:c≤c'):Fr2 N N' I K c' :=
 ⟨h.len,h.cap,Nat.le_trans h.use (by omega),h.out,h.kept,h.new,h.all,h.nodup,h.chk,h.zero⟩
theorem DJ.used {N:NL}:∀ {h:Nat} {i:Int} {m:Nat} {s:Span},DJ (fN N) h i m s→∀ j∈ids (fN N) h i,∃ n,N[j]? = some (.inr n)∧n.kind≠0:=by
 intro h
 induction h with
 | zero =>
  intro i m s c j hj
  obtain rfl:j=i.toNat:=by simpa [ids] using hj
  exact⟨_,c.node.2,c.kind⟩
 | succ h ih =>
  intro i m s c j hj
  rw [ids] at hj
  rcases mem_cons.1 hj with rfl | hj
  · exact⟨_,c.node.2,c.kind⟩
  · obtain⟨k,hk,hj⟩:=mem_flatMap.1 hj
    obtain⟨t,s',x,_⟩:=c.2.2.2.mem k hk
    exact ih x.1 j hj
theorem Fr2.start {N:NL}(hc:Em N){i:Int}{n:DNode}(hi:N[i.toNat]? = some (.inr n))(hk:n.kind≠0):Fr2 N (wt N i) [i.toNat] [i.toNat] 0:=by
 refine⟨by rw [Dz];exact Nat.le_refl _,by rw [Dz];exact Nat.le_max_left _ _,by rw [He];exact Nat.le_refl _,fun j x hj hx _=>by rw [DQ N (by simpa using hj)];exact hx,fun j x hx hk=>?_,fun j hj=>.inl hj,fun j x hx hk=>?_,by simp,hc.out i,fun j hj=>?_⟩
 · have:=Fu N i j
   rw [Fz hx] at this
   obtain⟨y,hy,hyk⟩:=KR this
   exact⟨y,hy,by rw [hyk];exact hk⟩
 · by_cases hji:j=i.toNat
   · exact .inl (by simp [hji])
   · rw [DQ N hji] at hx
     exact .inr ⟨by simpa using hji,x,hx,hk⟩
 · by_cases hji:j=i.toNat
   · subst hji
     have:=Fu N i i.toNat
     rw [Fz hj,Fz hi] at this
     exact absurd (Option.some.inj this).symm hk
   · rw [DQ N hji] at hj;exact hj
theorem Fr2.up {N N2:NL}{i:Nat}{I1 I2 I3 K:List Nat}{c:Nat}{i' : Int}(hi:i'.toNat=i)(f:Fr2 (wt N i') N2 I2 K c)(hn:(i::(I1++(I2++I3))).Nodup)(hu : ∀ j∈i::(I1++(I2++I3)),∃ n:DNode,N[j]? = some (.inr n)∧n.kind≠0) :
 Fr2 N N2 (i::(I1++(I2++I3))) (i::(I1++(K++I3))) c:=by
 have hk : ∀(j:Nat) (x:Int ⊕ DNode),N[j]? = some x→Ce x≠0→∃ y,(wt N i')[j]? = some y∧Ce y≠0:=fun j x hx hxk=>by
  have:=Fu N i' j
  rw [Fz hx] at this
  obtain⟨y,hy,hyk⟩:=KR this
  exact⟨y,hy,by rw [hyk];exact hxk⟩
 have hk' : ∀(j:Nat) (x:Int ⊕ DNode),(wt N i')[j]? = some x→Ce x≠0→∃ y,N[j]? = some y∧Ce y≠0:=fun j x hx hxk=>by
  have:=Fu N i' j
  rw [Fz hx] at this
  obtain⟨y,hy,hyk⟩:=KR this.symm
  exact⟨y,hy,by rw [hyk];exact hxk⟩
 have hK : ∀ j∈K,j∈I2∨∀ x:Int ⊕ DNode,N[j]? = some x→Ce x=0:=fun j hj=>(f.new j hj).imp id fun h x hx=>by
  by_cases h0:Ce x=0
  · exact h0
  · obtain⟨y,hy,hyk⟩:=hk j x hx h0
    exact absurd (h y hy) hyk
 obtain⟨n1,n2⟩:=nodup_cons.1 hn
 obtain⟨n3,n4,n5⟩:=nodup_append.1 n2
 obtain⟨n6,n7,n8⟩:=nodup_append.1 n4
 have hKu : ∀ j∈K,j ∉ I2→∀ n:DNode,N[j]? = some (.inr n)→n.kind=0:=fun j hj hj2 n hx=>by
  rcases hK j hj with h | h
  · exact absurd h hj2
  · exact h _ hx
 have hne : ∀ j∈K,j∈i::(I1++(I2++I3))→j∈I2:=fun j hj hm=>by
  by_cases h2:j∈I2
  · exact h2
  · obtain⟨n,hx,hnk⟩:=hu j hm
    exact absurd (hKu j hj h2 n hx) hnk
 refine⟨by have:=f.len;rwa [Dz] at this,by have:=f.cap;rwa [Dz] at this,by have:=f.use;rwa [He] at this,fun j x hj hx hxk=>?_,fun j x hx hxk=>?_,fun j hj=>?_,fun j x hx hxk=>?_,?_,f.chk,fun j hj=>?_⟩
 · simp only [mem_cons,mem_append,not_or] at hj
   exact f.out j x hj.2.2.1 (by rw [DQ N (by omega)];exact hx) hxk
 · obtain⟨y,hy,hyk⟩:=hk j x hx hxk
   exact f.kept j y hy hyk
 · simp only [mem_cons,mem_append] at hj ⊢
   rcases hj with h | h | h | h
   · exact .inl (.inl h)
   · exact .inl (.inr (.inl h))
   · exact(hK j h).imp (fun h=>.inr (.inr (.inl h))) id
   · exact .inl (.inr (.inr (.inr h)))
 · simp only [mem_cons,mem_append,not_or]
   rcases f.all j x hx hxk with h | ⟨h,y,hy,hyk⟩
   · exact .inl (.inr (.inr (.inl h)))
   · by_cases h0:j=i
     · exact .inl (.inl h0)
     by_cases h1:j∈I1
     · exact .inl (.inr (.inl h1))
     by_cases h3:j∈I3
     · exact .inl (.inr (.inr (.inr h3)))
     · exact .inr ⟨⟨h0,h1,h,h3⟩,hk' j y hy hyk⟩
 · refine nodup_cons.2 ⟨fun hm=>?_,nodup_append.2 ⟨n3,nodup_append.2 ⟨f.nodup,n7,fun a ha b hb e=>?_⟩,fun a ha b hb e=>?_⟩⟩
   · simp only [mem_append,not_or] at hm n1
     rcases hm with h | h | h
     · exact n1.1 h
     · exact n1.2.1 (hne i h mem_cons_self)
     · exact n1.2.2 h
   · subst e
     exact n8 a (hne a ha (by simp [hb])) a hb rfl
   · subst e
     rcases mem_append.1 hb with h | h
     · exact n5 a ha a (mem_append_left _ (hne a h (by simp [ha]))) rfl
     · exact n5 a ha a (mem_append_right _ h) rfl
 · have h0:=f.zero j hj
   by_cases hji:j=i'.toNat
   · subst hji
     obtain⟨n,hx,hnk⟩:=hu i mem_cons_self
     rw [← hi] at hx
     have:=Fu N i' i'.toNat
     rw [Fz h0,Fz hx] at this
     exact absurd (Option.some.inj this).symm hnk
   · rw [DQ N hji] at h0;exact h0
theorem Fr2.put {N N2:NL}{I K:List Nat}{c:Nat}(f:Fr2 N N2 I K c){i:Int}(hI:i.toNat∈I)(hK:i.toNat∈K){x:Int ⊕ DNode}(hx:N2[i.toNat]? = some x)(hxk:Ce x≠0){n:DNode}(hn:n.kind≠0)(hc:DS n=0):Fr2 N (v0 N2 i n) I K c:=by
 have hlt:=(ggs.1 hx).1
 have hu:used (v0 N2 i n)=used N2:=Lk hx hxk hn
 refine⟨by rw [DB];exact f.len,by rw [DB,hu];exact f.cap,by rw [hu];exact f.use,fun j y hj hy hyk=>?_,fun j y hy hyk=>?_,f.new,fun j y hy hyk=>?_,f.nodup,f.chk.put hc,fun j hj=>?_⟩
 · rw [DI N2 (show j≠i.toNat from fun e=>hj (by rw [e];exact hI))];exact f.out j y hj hy hyk
 · by_cases hji:j=i.toNat
   · subst hji;exact⟨_,DY N2 hlt,hn⟩
   · rw [DI N2 hji];exact f.kept j y hy hyk
 · by_cases hji:j=i.toNat
   · subst hji;exact .inl hK
   · rw [DI N2 hji] at hy;exact f.all j y hy hyk
 · by_cases hji:j=i.toNat
   · subst hji;rw [DY N2 hlt] at hj;cases hj
   · rw [DI N2 hji] at hj;exact f.zero j hj
structure TakeP (N:NL) (n:DNode) (N' : NL) (j:Nat):Prop where
 at_:N'[j]? = some (.inr n)
 same : ∀ q,q≠j→N'[q]? = N[q]?
 free : ∀ x:Int ⊕ DNode,N[j]? = some x→Ce x=0
 len:N'.length=N.length∨N'.length=N.length+1∧j=N.length∧∀(q:Nat) (x:Int ⊕ DNode),N[q]? = some x→Ce x≠0
 use:Ce (.inr n)≠0→used N' = used N+1
theorem Fr2.take {N N2 N' : NL}{I K:List Nat}{c:Nat}(f:Fr2 N N2 I K c){n:DNode}{j:Nat}(t:TakeP N2 n N' j)(hn:n.kind≠0)(hc:DS n=0)(hK : ∀ q∈K,∃ x,N2[q]? = some x∧Ce x≠0):Fr2 N N' I (j::K) (c+1):=by
 have hu:=t.use hn
 have hjN : ∀ x:Int ⊕ DNode,N[j]? = some x→Ce x=0:=fun x hx=>by
  by_cases h0:Ce x=0
  · exact h0
  · obtain⟨y,hy,hyk⟩:=f.kept j x hx h0
    exact absurd (t.free y hy) hyk
 have hlen:N2.length≤N'.length:=by rcases t.len with h | ⟨h,_⟩ <;> omega
 refine⟨Nat.le_trans f.len hlen,?_,by rw [hu];have:=f.use;omega,fun q x hq hx hxk=>?_,fun q x hx hxk=>?_,fun q hq=>?_,fun q x hx hxk=>?_,nodup_cons.2 ⟨fun hj=>?_,f.nodup⟩,fun m hm=>?_,fun q hq=>?_⟩
 · rcases t.len with h | ⟨h,_,ha⟩
   · rw [h,hu];have:=f.cap;omega
   · have:=L4 ha
     rw [hu,h,this];omega
 · have h1:=f.out q x hq hx hxk
   by_cases hqj:q=j
   · subst hqj;exact absurd (hjN x hx) hxk
   · rw [t.same q hqj];exact h1
 · obtain⟨y,hy,hyk⟩:=f.kept q x hx hxk
   by_cases hqj:q=j
   · subst hqj;exact⟨_,t.at_,hn⟩
   · exact⟨y,by rw [t.same q hqj];exact hy,hyk⟩
 · rcases mem_cons.1 hq with rfl | hq
   · exact .inr hjN
   · exact f.new q hq
 · by_cases hqj:q=j
   · subst hqj;exact .inl mem_cons_self
   · rw [t.same q hqj] at hx
     exact(f.all q x hx hxk).imp (mem_cons_of_mem _) id
 · obtain⟨x,hx,hxk⟩:=hK j hj
   exact hxk (t.free x hx)
 · obtain⟨x,hx,rfl⟩:=mem_map.1 hm
   obtain⟨q,hq⟩:=List.mem_iff_getElem?.1 hx
   by_cases hqj:q=j
   · subst hqj
     rw [t.at_] at hq
     obtain rfl:=Option.some.inj hq
     exact hc
   · rw [t.same q hqj] at hq
     exact f.chk _ (mem_map.2 ⟨x,List.mem_of_getElem? hq,rfl⟩)
 · by_cases hqj:q=j
   · subst hqj;rw [t.at_] at hq;cases hq
   · rw [t.same q hqj] at hq;exact f.zero q hq
end
section
def KV (F:Nat)(N:NL)(n:DNode):Option ((List (Int ⊕ DNode)) × Int) :=
 (iter (σ:=Int) (ρ:=(Unit) ⊕ ((List (Int ⊕ DNode)) × Int)) (fun x16 =>
  bif decide (x16<(N.length:Int)) then
   (Bl N x16).bind fun kd4 =>
   bif (kd4 == 0) then
    (xO N x16).bind fun u15 =>
    some (.inr (.inr ((v0 N x16 n),x16)))
   else
    some (.inl (i64.wrap (x16+1)))
   else
    some (.inr (.inl ()))) F 0).bind fun z=>match z with
  | .inl _ =>
   (BP 104 (N.length+1)).bind fun u16 =>
   some ((N++[(Sum.inr n:Int ⊕ DNode)]),i64.wrap (((N++[(Sum.inr n:Int ⊕ DNode)]).length:Int)-1))
  | .inr q=>some q
def MJ (F:Nat)(l:List DElem)(e:DElem):Option Int :=
 iter (σ:=Int) (ρ:=Int) (fun x15 =>
  (
   bif decide (x15<(l.length:Int)) then
    (idx l x15).bind fun e28 =>
    (wj e28).bind fun r68 =>
    (wj e).bind fun r69 =>
    (wF r68 r69).bind fun r70 =>
    some (decide (r70<0))
    else
     some false:Option (Bool)).bind fun z131 =>
   bif z131 then
    some (.inl (i64.wrap (x15+1)))
   else
    some (.inr x15)) F 0
abbrev InsT:=(List (Int ⊕ DNode)) × Int × Int × Int × Int × Int × Bool
def IY (F:Nat)(e:DElem)(rf4:NL × Int→Option InsT)(x13:NL)(x14:Int)(n31:DNode):Option ((List DElem) × (List Int) × (List DSpot) × (List Int) × (List (Int ⊕ DNode))) :=
 bif (n31.kind == 1) then
  (MJ F n31.elems e).bind fun z130 =>
  (Cn 56 n31.elems z130 e).bind fun _ =>
  some ((wE n31.elems z130.toNat e),n31.kids,n31.seps,n31.tids,(wt x13 x14))
  else
   (wj e).bind fun r71 =>
   (yd F n31 r71).bind fun r72 =>
   (idx n31.kids r72).bind fun e29 =>
   (rf4 ((wt x13 x14),e29)).bind fun z=>match z with
    | (z132,z133,z134,z135,z136,z137,z138) =>
     (idx n31.kids r72).bind fun e30 =>
     (xp z132 e30).bind fun n32 =>
     (wy F n32).bind fun r73 =>
     (idx n31.tids r72).bind fun e31 =>
     bif z138 then
      (Cn 8 n31.kids (i64.wrap (r72+1)) z137).bind fun _ =>
      (Cn 32 n31.seps r72 (DSpot.mk (DKey.mk z133 z134 z135) z136)).bind fun _ =>
      (xp z132 z137).bind fun n33 =>
      (wy F n33).bind fun r74 =>
      (Cn 8 (n31.tids.set r72.toNat r73) (i64.wrap (r72+1)) r74).bind fun _ =>
      some (n31.elems,(wE n31.kids (i64.wrap (r72+1)).toNat z137),(wE n31.seps r72.toNat (DSpot.mk (DKey.mk z133 z134 z135) z136)),(wE (n31.tids.set r72.toNat r73) (i64.wrap (r72+1)).toNat r74),z132)
     else
      some (n31.elems,n31.kids,n31.seps,(n31.tids.set r72.toNat r73),z132)
def F2 (k:Int)(z125:List DElem)(z126:List Int)(z127:List DSpot)(z128:List Int):Option ((List Int) × (List DSpot) × (List Int) × (List DElem) × (List DElem) × (List Int) × (List DSpot) × (List Int) × Int × Int × Int × Int × Int) :=
 bif (k == 1) then
  (wn z125 4 (z125.length:Int)).bind fun s25 =>
  (xT 56 ([]:List DElem) s25).bind fun _ =>
  (wn z125 0 4).bind fun s26 =>
  (idx s25 0).bind fun e33 =>
  (wj e33).bind fun r76 =>
  some ([],[],[],s25,s26,z126,z127,z128,r76.key.pfs,r76.key.obj,r76.key.off,r76.made,1)
  else
   (wn z126 4 (z126.length:Int)).bind fun s27 =>
   (wn z127 4 (z127.length:Int)).bind fun s28 =>
   (wn z128 4 (z128.length:Int)).bind fun s29 =>
   (xT 8 ([]:List Int) s27).bind fun y37 =>
   (xT 32 ([]:List DSpot) s28).bind fun y38 =>
   (xT 8 ([]:List Int) s29).bind fun y39 =>
   (idx z127 3).bind fun e34 =>
   (wn z126 0 4).bind fun s30 =>
   (wn z127 0 3).bind fun s31 =>
   (wn z128 0 4).bind fun s32 =>
   some (s29,s28,s27,[],z125,s30,s31,s32,e34.key.pfs,e34.key.obj,e34.key.off,e34.made,2)
def Hi (F:Nat)(e:DElem)(rf4:NL × Int→Option InsT)(x:NL × Int):Option InsT :=
 match x with
  | (x13,x14) =>
   (xp x13 x14).bind fun n31 =>
    (IY F e rf4 x13 x14 n31).bind fun z=>match z with
     | (z125,z126,z127,z128,z129) =>
      bif decide ((i64.wrap ((z125.length:Int)+(z126.length:Int)))≤8) then
       (xO z129 x14).bind fun u13 =>
       some ((v0 z129 x14 (DNode.mk n31.kind z125 z126 z127 z128)),0,0,0,0,0,false)
      else
       (F2 n31.kind z125 z126 z127 z128).bind fun z=>match z with
        | (z139,z140,z141,z142,z143,z144,z145,z146,z147,z148,z149,z150,z151) =>
         (xO z129 x14).bind fun u14 =>
         (KV F (v0 z129 x14 (DNode.mk n31.kind z143 z144 z145 z146)) (DNode.mk z151 z142 z141 z140 z139)).bind fun z=>match z with
          | (z152,z153) =>
           some (z152,z147,z148,z149,z150,z153,true)
def Lo (F:Nat)(e:DElem)(N:NL)(root:Int):Option (Int × NL) :=
 (Ae (σ:=(List (Int ⊕ DNode)) × Int) (ρ:=InsT) (Hi F e) F (N,root)).bind fun z=>match z with
  | (z39,z40,z41,z42,z43,z44,z45) =>
   bif (!z45) then
    some (root,z39)
   else
    (xp z39 root).bind fun n41 =>
    (xp z39 z44).bind fun n42 =>
    (wy F n41).bind fun r84 =>
    (wy F n42).bind fun r85 =>
    (KV F z39 (DNode.mk 2 [] [root,z44] [(DSpot.mk (DKey.mk z40 z41 z42) z43)] [r84,r85])).bind fun z=>match z with
     | (z154,z155) =>
      some (z155,z154)
variable {F:Nat} [Big F]
theorem Kd {N:NL}{k:Nat}{x:Int ⊕ DNode}(h:N[k]? = some x):Bl N (k:Int)=some (Ce x):=by
 unfold Bl;rw [if_neg (by omega),Int.toNat_natCast,h];rfl
theorem JW {N:NL}(n:DNode)(hl:N.length≤1000):∃ N' j,KV F N n=some (N',((j:Nat):Int))∧TakeP N n N' j:=by
 unfold KV
 rw [Fa (ρ:=Unit ⊕ (List (Int ⊕ DNode) × Int)) N (fun k x=>if Ce x=0 then some (.inr (v0 N (k:Int) n,(k:Int))) else none) (.inl ()) (by omega) rfl ?hs ?he]
 case hs =>
  intro k x hk _
  have hkl:=(ggs.1 hk).1
  rw [decide_eq_true (by omega),cond_true,Kd hk,obs]
  by_cases h:Ce x=0
  · rw [show (Ce x == 0)=true by simpa using h,cond_true,FE ⟨by omega,by omega⟩,obs,if_pos h]
  · rw [show (Ce x == 0)=false by simpa using h,cond_false,if_neg h,w64 (by omega) (by omega)]
 case he=>rw [decide_eq_false (by omega),cond_false]
 rw [obs]
 cases hf:N.zipIdx.findSome? (fun p=>if Ce p.1=0 then some (Sum.inr (v0 N (p.2:Int) n,(p.2:Int)):Unit ⊕ (List (Int ⊕ DNode) × Int)) else none) with
 | some r =>
  obtain⟨k,x,hk,hr⟩:=Gs (w:=fun k x=>if Ce x=0 then some (Sum.inr (v0 N (k:Int) n,(k:Int)):Unit ⊕ (List (Int ⊕ DNode) × Int)) else none) hf
  have hkl:=(ggs.1 hk).1
  split at hr
  · rename_i h0
    obtain rfl:=Option.some.inj hr
    refine⟨v0 N (k:Int) n,k,rfl,⟨?_,fun q hq=>?_,fun y hy=>?_,.inl (DB _ _ _),fun hn=>?_⟩⟩
    · have:=DY N (i:=(k:Int)) (n:=n) (by rw [Int.toNat_natCast];exact hkl)
      rwa [Int.toNat_natCast] at this
    · exact DI N (by rw [Int.toNat_natCast];exact hq)
    · rw [hk] at hy
      obtain rfl:=Option.some.inj hy
      exact h0
    · unfold v0
      rw [Int.toNat_natCast]
      have:=H4 (.inr n) hk
      rw [if_neg (fun h=>Fc.1 h h0),if_pos (Fc.2 hn)] at this
      omega
  · cases hr
 | none =>
  have hn:=(FH (w:=fun k x=>if Ce x=0 then some (Sum.inr (v0 N (k:Int) n,(k:Int)):Unit ⊕ (List (Int ⊕ DNode) × Int)) else none)).1 hf
  have hall : ∀(q:Nat) (x:Int ⊕ DNode),N[q]? = some x→Ce x≠0:=fun q x hx h0=>by
   have:=hn q x hx
   rw [if_pos h0] at this;cases this
  refine⟨N++[.inr n],N.length,?_,⟨by rw [List.getElem?_append_right (Nat.le_refl _)];simp,fun q hq=>?_,fun x hx=>?_,.inr ⟨by simp,rfl,hall⟩,fun hk=>?_⟩⟩
  · have hr:BP 104 (N.length+1)=some ():=by unfold BP;rw [if_pos ⟨by omega,by unfold maxLen;omega⟩]
    dsimp only [Option.getD_none]
    rw [hr,obs,length_append,length_singleton,w64 (by omega) (by omega)]
    congr 2;omega
  · rcases Nat.lt_or_ge q N.length with h | h
    · rw [List.getElem?_append_left h]
    · rw [List.getElem?_eq_none (by rw [length_append,length_singleton];omega),List.getElem?_eq_none h]
  · have:=(ggs.1 hx).1;omega
  · unfold used
    rw [List.countP_append,List.countP_singleton,if_pos (Fc.2 hk)]
theorem LZ {α:Type}{p:α→Bool}{x:α}:∀ {l:List α},x∈l.takeWhile p→p x=true
 | [],h=>by simp at h
 | a::l,h=>by
  cases ha:p a with
  | true =>
   rw [List.takeWhile_cons_of_pos ha] at h
   rcases mem_cons.1 h with rfl | h
   · exact ha
   · exact LZ h
  | false=>rw [List.takeWhile_cons_of_neg (by simp [ha])] at h;cases h
theorem Mk (l:List DElem)(e:DElem)(hl:l.length≤1000):∃ w:Nat,MJ F l e=some (w:Int)∧w≤l.length∧(∀ x∈l.take w,cmpS (Dy x) (Dy e)<0)∧∀ x,l[w]? = some x→¬ cmpS (Dy x) (Dy e)<0:=by
 obtain⟨w1,w2⟩ : (∀ x∈l.takeWhile (fun x=>decide (cmpS (Dy x) (Dy e)<0)),cmpS (Dy x) (Dy e)<0)∧∀ x,l[(l.takeWhile (fun x=>decide (cmpS (Dy x) (Dy e)<0))).length]? = some x→¬ cmpS (Dy x) (Dy e)<0:=by
  refine⟨fun x hx=>by simpa using LZ hx,?_⟩
  clear hl
  induction l with
  | nil=>intro x hx;simp at hx
  | cons a l ih =>
   intro x hx
   by_cases h:cmpS (Dy a) (Dy e)<0
   · rw [List.takeWhile_cons_of_pos (by simpa using h),List.length_cons,List.getElem?_cons_succ] at hx
     exact ih x hx
   · rw [List.takeWhile_cons_of_neg (by simpa using h)] at hx
     obtain rfl:a=x:=by simpa using hx
     exact h
 have hpre:l.takeWhile (fun x=>decide (cmpS (Dy x) (Dy e)<0)) <+: l:=List.takeWhile_prefix _
 have hle:=hpre.length_le
 have ht:l.take (l.takeWhile (fun x=>decide (cmpS (Dy x) (Dy e)<0))).length=l.takeWhile (fun x=>decide (cmpS (Dy x) (Dy e)<0)):=(List.prefix_iff_eq_take.1 hpre).symm
 generalize hw:(l.takeWhile (fun x=>decide (cmpS (Dy x) (Dy e)<0))).length=w at *
 refine⟨w,?_,hle,by rw [ht];exact w1,w2⟩
 unfold MJ
 refine D7 (fun k=>(k:Int)) w rfl (by omega) (fun k hk=>?_) ?_
 · have hkl:k<l.length:=by omega
   have hg:l[k]? = some l[k]:=gge hkl
   have hmem:l[k]∈l.take w:=List.mem_of_getElem? (by rw [List.getElem?_take_of_lt hk];exact hg)
   rw [decide_eq_true (by omega),cond_true,DA,hg,obs,DF,obs,DF,obs,DL,obs,decide_eq_true (w1 _ (by rw [← ht];exact hmem)),obs,cond_true,w64 (by omega) (by omega)]
   rfl
 · by_cases h:w<l.length
   · have hg:l[w]? = some l[w]:=gge h
     rw [decide_eq_true (by omega),cond_true,DA,hg,obs,DF,obs,DF,obs,DL,obs,decide_eq_false (w2 _ hg),obs,cond_false]
   · rw [decide_eq_false (by omega),cond_false,obs,cond_false]
theorem IX {l:List DElem}{e:DElem}{w:Nat}(ho:l.Pairwise SpO)(hw:w≤l.length)(h1 : ∀ x∈l.take w,cmpS (Dy x) (Dy e)<0)(h2 : ∀ x,l[w]? = some x→¬ cmpS (Dy x) (Dy e)<0)(hne : ∀ x∈l,Dy x≠Dy e) :
 (wE l w e).Pairwise SpO∧∀ x,x∈wE l w e↔x=e∨x∈l:=by
 have ho':=ho
 rw [← take_append_drop w l] at ho'
 obtain⟨o1,o2,o3⟩:=pairwise_append.1 ho'
 have hd : ∀ x∈l.drop w,SpO e x:=fun x hx=>by
  have h0 : ∀ y,l[w]? = some y→SpO e y:=fun y hy=>by
   have h3:=h2 y hy
   have h4:=hne y (List.mem_of_getElem? hy)
   have h5:cmpS (Dy y) (Dy e)≠0:=fun h=>h4 ((DC.zero _ _).1 h)
   have h6:=DC.neg (Dy y) (Dy e)
   show cmpS (Dy e) (Dy y)<0
   omega
  obtain⟨q,hq⟩:=List.mem_iff_getElem?.1 hx
  rw [List.getElem?_drop] at hq
  cases q with
  | zero=>exact h0 x (by simpa using hq)
  | succ q =>
   have hlt:=(ggs.1 hq).1
   have hg:l[w]? = some l[w]:=gge (by omega)
   exact(h0 _ hg).trans (Eg ho (by omega) hg hq)
 unfold wE
 refine⟨pairwise_append.2 ⟨o1,pairwise_cons.2 ⟨hd,o2⟩,fun a ha b hb=>?_⟩,fun x=>?_⟩
 · rcases mem_cons.1 hb with rfl | hb
   · exact h1 a ha
   · exact o3 a ha b hb
 · conv=>rhs;rw [← take_append_drop w l]
   rw [mem_append,mem_cons,mem_append]
   constructor
   · rintro(h | h | h)
     · exact .inr (.inl h)
     · exact .inl h
     · exact .inr (.inr h)
   · rintro(h | h | h)
     · exact .inr (.inl h)
     · exact .inl h
     · exact .inr (.inr h)
structure InsPost (e:DElem) (N N' : NL) (h:Nat) (i:Int) (s:Span) (m:Nat) (R:List Int) (X:List DSpot):Prop where
 fr:Fr2 N N' (ids (fN N) h i) (R.flatMap (ids (fN N') h)) (h+1)
 ch:Ch (fun k t s'=>DJ (fN N') h k m s'∧DE (nd (fN N') k)=t) X s R (R.map fun k=>DE (nd (fN N') k))
 elems : ∀ x,x∈R.flatMap (Dx (fN N') h)↔x=e∨x∈Dx (fN N) h i
theorem En {N N' : NL}{h:Nat}{X:List DSpot}{s:Span}{Ks Ts:List Int}(hl:N.length≤N'.length)(c:Ch (GW (fN N) h) X s Ks Ts)(hj : ∀ j∈Ks.flatMap (ids (fN N) h),N'[j]? = N[j]?) :
 Ch (GW (fN N') h) X s Ks Ts∧Ks.flatMap (ids (fN N') h)=Ks.flatMap (ids (fN N) h)∧Ks.flatMap (Dx (fN N') h)=Ks.flatMap (Dx (fN N) h):=by
 have key : ∀ k∈Ks,∀ {m:Nat} {s:Span},DJ (fN N) h k m s→DJ (fN N') h k m s∧ids (fN N') h k=ids (fN N) h k∧Dx (fN N') h k=Dx (fN N) h k∧nd (fN N') k=nd (fN N) k:=fun k hk {m s} x =>
  x.agree hl fun j hjk=>hj j (mem_flatMap.2 ⟨k,hk,hjk⟩)
 refine⟨c.mono fun k t s' hk x=>⟨(key k hk x.1).1,by rw [(key k hk x.1).2.2.2];exact x.2⟩,EY fun k hk=>?_,DT fun k hk=>?_⟩
 · obtain⟨t,s',x,_⟩:=c.mem k hk;exact(key k hk x.1).2.1
 · obtain⟨t,s',x,_⟩:=c.mem k hk;exact(key k hk x.1).2.2.1
theorem Ch.tmem {P:Int→Int→Span→Prop}:∀ {xs:List DSpot} {s:Span} {ks ts:List Int},Ch P xs s ks ts→∀ t∈ts,∃ k s',k∈ks∧P k t s'
 | [],s,ks,ts,⟨k,t,h1,h2,c⟩,q,hq=>by
  subst h1 h2
  rw [mem_singleton.1 hq];exact⟨k,s,mem_cons_self,c⟩
 | x::xs,s,ks,ts,⟨k,ks',t,ts',h1,h2,h3,h4,c⟩,q,hq=>by
  subst h1 h2
  rcases mem_cons.1 hq with rfl | hq
  · exact⟨k,_,mem_cons_self,h4⟩
  · obtain⟨k',s',i1,i2⟩:=c.tmem q hq
    exact⟨k',s',mem_cons_of_mem _ i1,i2⟩
theorem EP {N:NL}(hc:Em N)(hl:N.length≤400){h:Nat}{X:List DSpot}{s:Span}{Ks Ts:List Int}(c:Ch (GW (fN N) h) X s Ks Ts)(h2:2≤Ks.length)(h8:Ks.length≤8)(ho:X.Pairwise SpotO)(hx : ∀ x∈X,DG (zE x)=0) :
 Inner ⟨2,[],Ks,X,Ts⟩:=by
 have hlen:=c.lens
 refine⟨rfl,h2,h8,hlen.1,hlen.2,fun k hk=>?_,fun t ht=>?_,hx,ho⟩
 · obtain⟨t,s',x,_⟩:=c.mem k hk
   have:=x.1.range
   rw [DD] at this
   omega
 · obtain⟨k,s',_,x⟩:=c.tmem t ht
   rw [← x.2]
   exact Gc (FG hc x.1.range)
theorem DJ.some_elem {ns:List DNode}(hns : ∀ n∈ns,DS n=0){h:Nat}{i:Int}{s:Span}(c:DJ ns h i 4 s):∃ e,e∈Dx ns h i:=by
 have h0:=(HE hns h i 1 s (by decide)).2 (by unfold mOf;rw [if_pos (by decide)];exact c)
 have:=J7 hns h i 1 s h0 (by decide)
 have h1:0<4 ^ (h+1):=Nat.pow_pos (by decide)
 exact List.exists_mem_of_length_pos (by omega)
theorem J9 {l:List DElem}(hl:l.length=9)(ks:List Int)(xs:List DSpot)(ts:List Int):∃ x,l[4]? = some x∧F2 1 l ks xs ts=some ([],[],[],l.drop 4,l.take 4,ks,xs,ts,(Dy x).key.pfs,(Dy x).key.obj,(Dy x).key.off,(Dy x).made,1):=by
 have hg:l[4]? = some l[4]:=gge (by omega)
 refine⟨_,hg,?_⟩
 unfold F2
 have h1:wn l 4 (l.length:Int)=some (l.drop 4):=DW (k:=4) (by omega)
 have h2:wn l 0 4=some (l.take 4):=Ed (k:=4) (by omega)
 have h3:idx (l.drop 4) 0=some l[4]:=by rw [show (0:Int)=((0:Nat):Int) from rfl,DA,List.getElem?_drop];exact hg
 rw [show ((1:Int) == 1)=true from rfl,cond_true,h1,obs,DN (by simp [hl]) (by simp [hl]),obs,h2,obs,h3,obs,DF,obs]
theorem Js {ks:List Int}{xs:List DSpot}{ts:List Int}(hk:ks.length=9)(hx:xs.length=8)(ht:ts.length=9)(l:List DElem):∃ x,xs[3]? = some x∧F2 2 l ks xs ts=some (ts.drop 4,xs.drop 4,ks.drop 4,[],l,ks.take 4,xs.take 3,ts.take 4,x.key.pfs,x.key.obj,x.key.off,x.made,2):=by
 have hg:xs[3]? = some xs[3]:=gge (by omega)
 refine⟨_,hg,?_⟩
 unfold F2
 have h1:wn ks 4 (ks.length:Int)=some (ks.drop 4):=DW (k:=4) (by omega)
 have h2:wn xs 4 (xs.length:Int)=some (xs.drop 4):=DW (k:=4) (by omega)
 have h3:wn ts 4 (ts.length:Int)=some (ts.drop 4):=DW (k:=4) (by omega)
 have h4:wn ks 0 4=some (ks.take 4):=Ed (k:=4) (by omega)
 have h5:wn xs 0 3=some (xs.take 3):=Ed (k:=3) (by omega)
 have h6:wn ts 0 4=some (ts.take 4):=Ed (k:=4) (by omega)
 have h7:idx xs 3=some xs[3]:=by rw [show (3:Int)=((3:Nat):Int) from rfl,DA];exact hg
 rw [show ((2:Int) == 1)=false from rfl,cond_false,h1,obs,h2,obs,h3,obs,DN (by simp [hk]) (by simp [hk]),obs,DN (by simp [hx]) (by simp [hx]),obs,DN (by simp [ht]) (by simp [ht]),obs,h7,obs,h4,obs,h5,obs,h6,obs]
end
section
variable {F:Nat} [Big F]
theorem Fr2.cong {N N' : NL}{I I' K K' : List Nat}{c:Nat}(f:Fr2 N N' I K c)(h1:I=I')(h2:K=K'):Fr2 N N' I' K' c:=by subst h1 h2;exact f
theorem F3 {N:NL}{i:Int}{n:DNode}(h:N[i.toNat]? = some (.inr n)):nd (fN N) i=n:=by unfold nd;rw [F9,h];rfl
def JX (F:Nat)(e:DElem)(N:NL)(h mf:Nat)(i:Int)(s:Span)(m:Nat):Prop :=
 ∃(N' : NL) (sp:DSpot) (r:Int) (b:Bool),Ae (Hi F e) mf (N,i)=some (N',sp.key.pfs,sp.key.obj,sp.key.off,sp.made,r,b) ∧
  ((b=false∧InsPost e N N' h i s m [i] [])∨(b=true∧DG (zE sp)=0∧InsPost e N N' h i s 4 [i,r] [sp]))
def z0:DSpot:=⟨⟨0,0,0⟩,0⟩
omit [Big F] in
theorem HO {e:DElem}{rf:NL × Int→Option InsT}{N N2:NL}{i:Int}{n:DNode}{l:List DElem}{ks:List Int}{xs:List DSpot}{ts:List Int}(hn:xp N i=some n)(hm:IY F e rf N i n=some (l,ks,xs,ts,N2))(h8:l.length+ks.length≤8)(hi:0≤i∧i<(N2.length:Int)) :
 Hi F e rf (N,i)=some (v0 N2 i ⟨n.kind,l,ks,xs,ts⟩,0,0,0,0,0,false):=by
 unfold Hi
 dsimp only
 rw [hn,obs,hm,obs]
 dsimp only
 rw [w64 (by omega) (by omega),decide_eq_true (by omega),cond_true,FE hi,obs]
theorem HN {e:DElem}{rf:NL × Int→Option InsT}{N N2:NL}{i:Int}{n:DNode}{l:List DElem}{ks:List Int}{xs:List DSpot}{ts:List Int}(hn:xp N i=some n)(hm:IY F e rf N i n=some (l,ks,xs,ts,N2))(h8:l.length+ks.length=9)(hi:0≤i∧i<(N2.length:Int))(hl:N2.length≤1000)
 {r1:List Int} {r2:List DSpot} {r3:List Int} {r4 l1:List DElem} {l2:List Int} {l3:List DSpot} {l4:List Int} {sp:DSpot} {k:Int} (hh:F2 n.kind l ks xs ts=some (r1,r2,r3,r4,l1,l2,l3,l4,sp.key.pfs,sp.key.obj,sp.key.off,sp.made,k)) :
 ∃ N' j,Hi F e rf (N,i)=some (N',sp.key.pfs,sp.key.obj,sp.key.off,sp.made,((j:Nat):Int),true)∧TakeP (v0 N2 i ⟨n.kind,l1,l2,l3,l4⟩) ⟨k,r4,r3,r2,r1⟩ N' j:=by
 obtain⟨N',j,h1,h2⟩:=JW (F:=F) (N:=v0 N2 i ⟨n.kind,l1,l2,l3,l4⟩) ⟨k,r4,r3,r2,r1⟩ (by rw [DB];exact hl)
 refine⟨N',j,?_,h2⟩
 unfold Hi
 dsimp only
 rw [hn,obs,hm,obs]
 dsimp only
 rw [w64 (by omega) (by omega),decide_eq_false (by omega),cond_false,hh,obs]
 dsimp only
 rw [FE hi,obs,h1,obs]
theorem LI {e:DElem}(he:DG e=0){mf:Nat}{N:NL}{i:Int}{m:Nat}{s:Span}(hm:0<mf)(hc:Em N)(hl:N.length≤400)(c:DJ (fN N) 0 i m s)(hs:inS s (Dy e)=true)(hne : ∀ x∈Dx (fN N) 0 i,Dy x≠Dy e):JX F e N 0 mf i s m:=by
 obtain⟨mf,rfl⟩ : ∃ q,mf=q+1:=⟨mf-1,by omega⟩
 have L:=c.leaf hc
 have hr:=c.range
 rw [DD] at hr
 obtain⟨hnode,hat⟩:=c.node
 have hk0:=c.kind
 obtain⟨_,hk1,hmk,hin⟩:=c
 have hne' : ∀ x∈(nd (fN N) i).elems,Dy x≠Dy e:=hne
 have hel : ∀ x,x∈Dx (fN N) 0 i↔x∈(nd (fN N) i).elems:=fun x=>Iff.rfl
 generalize hnn:nd (fN N) i=n at *
 obtain⟨w,hw,hwl,hw1,hw2⟩:=Mk (F:=F) n.elems e (by have:=L.len;omega)
 obtain⟨so,sm⟩:=IX L.ord hwl hw1 hw2 hne'
 have hlen:=xQ e hwl
 have h8:=L.len
 generalize hl' : wE n.elems w e=l' at *
 have hok : ∀ x∈l',DG x=0:=fun x hx=>by
  rcases (sm x).1 hx with rfl | hx
  · exact he
  · exact L.ok x hx
 have hin' : ∀ x∈l',inS s (Dy x)=true:=fun x hx=>by
  rcases (sm x).1 hx with rfl | hx
  · exact hs
  · exact hin x hx
 have hM : ∀ rf,IY F e rf N i n=some (l',[],[],[],wt N i):=fun rf=>by
  unfold IY
  rw [hk1,show ((1:Int) == 1)=true from rfl,cond_true,hw,obs]
  unfold Cn
  rw [if_pos ⟨by omega,by omega,by omega,by unfold maxLen;omega⟩,obs,Int.toNat_natCast,hl',L.kids,L.seps,L.tids]
 have fr0:=Fr2.start hc hat hk0
 have hat1 : ∃ x,(wt N i)[i.toNat]? = some x∧Ce x≠0:=by
  have:=Fu N i i.toNat
  rw [Fz hat] at this
  obtain⟨x,hx,hxk⟩:=KR this
  exact⟨x,hx,by rw [hxk];exact hk0⟩
 obtain⟨x1,hx1,hxk1⟩:=hat1
 have hI:ids (fN N) 0 i=[i.toNat]:=rfl
 by_cases hs8:l'.length≤8
 · have Lf:Leaf ⟨1,l',[],[],[]⟩:=⟨rfl,rfl,rfl,hs8,hok,so⟩
   have hck:=Fg (n:=⟨1,l',[],[],[]⟩) rfl Lf
   have hnd:nd (fN (v0 (wt N i) i ⟨1,l',[],[],[]⟩)) i=⟨1,l',[],[],[]⟩:=Hk (by rw [Dz];exact hr)
   refine⟨v0 (wt N i) i ⟨1,l',[],[],[]⟩,z0,0,false,?_,.inl ⟨rfl,⟨?_,?_,?_⟩⟩⟩
   · show Hi F e (Ae (Hi F e) mf) (N,i)=_
     rw [HO hnode (hM _) (by simpa using hs8) (by rw [Dz];exact hr),hk1];rfl
   · exact((fr0.put mem_cons_self mem_cons_self hx1 hxk1 (show (1:Int)≠0 by decide) hck).more (Nat.zero_le _)).cong rfl (by simp [ids])
   · refine⟨i,_,rfl,rfl,⟨?_,by rw [hnd],by rw [hnd];show m≤l'.length;omega,by rw [hnd];exact hin'⟩,rfl⟩
     rw [DD,DB,Dz];exact hr
   · intro x
     rw [hel,← sm x,flatMap_singleton]
     show x∈(nd _ i).elems↔_
     rw [hnd]
 · have h9:l'.length=9:=by omega
   obtain⟨x,hx,hh⟩:=J9 h9 [] [] []
   rw [← hk1] at hh
   obtain⟨N',j,hB,tk⟩:=HN (sp:=Dy x) hnode (hM (Ae (Hi F e) mf)) (by simpa using h9) (by rw [Dz];exact hr) (by rw [Dz];omega) hh
   rw [hk1] at tk
   have e48:l' = l'.take 4++l'.drop 4:=(take_append_drop 4 l').symm
   have hso:=so
   rw [e48] at hso
   obtain⟨o1,o2,o3⟩:=pairwise_append.1 hso
   have hl1:(l'.take 4).length=4:=by rw [length_take];omega
   have hl2:(l'.drop 4).length=5:=by rw [length_drop];omega
   have hxd : ∃ r,l'.drop 4=x::r:=by
    have h4:4<l'.length:=by omega
    rw [gge h4] at hx
    obtain rfl:=Option.some.inj hx
    exact⟨_,drop_eq_getElem_cons h4⟩
   obtain⟨rr,hrr⟩:=hxd
   have Lf1:Leaf ⟨1,l'.take 4,[],[],[]⟩:=⟨rfl,rfl,rfl,by show (l'.take 4).length≤8;omega,fun y hy=>hok y (mem_of_mem_take hy),o1⟩
   have Lf2:Leaf ⟨1,l'.drop 4,[],[],[]⟩:=⟨rfl,rfl,rfl,by show (l'.drop 4).length≤8;omega,fun y hy=>hok y (mem_of_mem_drop hy),o2⟩
   have hck1:=Fg (n:=⟨1,l'.take 4,[],[],[]⟩) rfl Lf1
   have hck2:=Fg (n:=⟨1,l'.drop 4,[],[],[]⟩) rfl Lf2
   have fr1:=fr0.put mem_cons_self mem_cons_self hx1 hxk1 (n:=⟨1,l'.take 4,[],[],[]⟩) (show (1:Int)≠0 by decide) hck1
   have hat2:(v0 (wt N i) i ⟨1,l'.take 4,[],[],[]⟩)[i.toNat]? = some (.inr ⟨1,l'.take 4,[],[],[]⟩):=DY _ (by rw [Dz];omega)
   have fr2:=fr1.take tk (show (1:Int)≠0 by decide) hck2 fun q hq=>by
    obtain rfl:q=i.toNat:=by simpa using hq
    exact⟨_,hat2,show (1:Int)≠0 by decide⟩
   have hij:i.toNat≠j:=fun h=>by
    subst h
    exact absurd (tk.free _ hat2) (show (1:Int)≠0 by decide)
   have hNi:N'[i.toNat]? = some (.inr ⟨1,l'.take 4,[],[],[]⟩):=by rw [tk.same _ hij];exact hat2
   have hnd1:nd (fN N') i=⟨1,l'.take 4,[],[],[]⟩:=F3 hNi
   have hnd2:nd (fN N') (j:Int)=⟨1,l'.drop 4,[],[],[]⟩:=G7 (by rw [F9,tk.at_];rfl)
   have hjl:j<N'.length:=(ggs.1 tk.at_).1
   have hil:i.toNat<N'.length:=(ggs.1 hNi).1
   have hxs:inS s (Dy x)=true:=hin' x (mem_of_mem_drop (by rw [hrr];exact mem_cons_self))
   refine⟨N',Dy x,(j:Int),true,hB,.inr ⟨rfl,Jb (hok x (mem_of_mem_drop (by rw [hrr];exact mem_cons_self))),⟨?_,?_,?_⟩⟩⟩
   · refine((fr2.more (by omega)).perm (K':=[i.toNat,j]) (List.Perm.swap _ _ _)).cong rfl ?_
     simp [ids]
   · refine⟨i,[(j:Int)],_,_,rfl,rfl,hxs,⟨⟨?_,by rw [hnd1],by rw [hnd1];show 4≤(l'.take 4).length;omega,?_⟩,rfl⟩,(j:Int),_,rfl,rfl,⟨?_,by rw [hnd2],by rw [hnd2];show 4≤(l'.drop 4).length;omega,?_⟩,rfl⟩
     · rw [DD];omega
     · rw [hnd1]
       intro y hy
       exact Et.2 ⟨(DX.1 (hin' y (mem_of_mem_take hy))).1,o3 y hy x (by rw [hrr];exact mem_cons_self)⟩
     · rw [DD];omega
     · rw [hnd2]
       intro y hy
       refine Fm.2 ⟨?_,(DX.1 (hin' y (mem_of_mem_drop hy))).2⟩
       have hy' : y∈x::rr:=by rw [← hrr];exact hy
       rw [hrr] at o2
       rcases mem_cons.1 hy' with rfl | hy'
       · rw [DC.refl];decide
       · have:cmpS (Dy x) (Dy y)<0:=(pairwise_cons.1 o2).1 y hy'
         omega
   · intro y
     rw [hel,← sm y,flatMap_cons,flatMap_singleton]
     show y∈(nd _ i).elems++(nd _ (j:Int)).elems↔_
     rw [hnd1,hnd2]
     show y∈l'.take 4++l'.drop 4↔_
     rw [← e48]
theorem Ho (l:List DElem)(a:List Int)(b:List DSpot)(c:List Int):(DNode.mk 2 l a b c).kind≠0:=show (2:Int)≠0 by decide
theorem Me {e:DElem}{N N2:NL}{h mf:Nat}{i:Int}{m:Nat}{s:Span}{n:DNode}{Ks:List Int}{Xs:List DSpot}{Ts:List Int}(hnode:xp N i=some n)(hk2:n.kind=2)(hM:IY F e (Ae (Hi F e) mf) N i n=some ([],Ks,Xs,Ts,N2))(hi:0≤i∧i<(N2.length:Int))(hl2:N2.length≤400)
 (fr:Fr2 N N2 (ids (fN N) (h+1) i) (i.toNat::Ks.flatMap (ids (fN N2) h)) (h+1)) (hole : ∃ x,N2[i.toNat]? = some x∧Ce x≠0) (c:Ch (GW (fN N2) h) Xs s Ks Ts) (h2:2≤Ks.length) (h9:Ks.length≤9) (hm:m≤Ks.length) (ho:Xs.Pairwise SpotO) (hx : ∀ x∈Xs,DG (zE x)=0)
 (el : ∀ x,x∈Ks.flatMap (Dx (fN N2) h)↔x=e∨x∈Dx (fN N) (h+1) i):JX F e N (h+1) (mf+1) i s m:=by
 have hI:i.toNat∈ids (fN N) (h+1) i:=DJ.head _ _
 have hc2:=fr.chk
 obtain⟨x1,hx1,hxk1⟩:=hole
 have hiK:i.toNat ∉ Ks.flatMap (ids (fN N2) h):=(nodup_cons.1 fr.nodup).1
 have hlens:=c.lens
 by_cases h8:Ks.length≤8
 · have hck:=D1 (n:=⟨2,[],Ks,Xs,Ts⟩) rfl (EP hc2 hl2 c h2 h8 ho hx)
   have hnd:nd (fN (v0 N2 i ⟨2,[],Ks,Xs,Ts⟩)) i=⟨2,[],Ks,Xs,Ts⟩:=Hk hi
   obtain⟨a1,a2,a3⟩:=En (N':=v0 N2 i ⟨2,[],Ks,Xs,Ts⟩) (by rw [DB];exact Nat.le_refl _) c fun j hj=>DI N2 (show j≠i.toNat from fun h=>hiK (by rw [← h];exact hj))
   refine⟨v0 N2 i ⟨2,[],Ks,Xs,Ts⟩,z0,0,false,?_,.inl ⟨rfl,⟨?_,?_,?_⟩⟩⟩
   · show Hi F e (Ae (Hi F e) mf) (N,i)=_
     rw [HO hnode hM (by simpa using h8) hi,hk2];rfl
   · refine((fr.put hI mem_cons_self hx1 hxk1 (Ho _ _ _ _) hck).more (by omega)).cong rfl ?_
     rw [flatMap_singleton,ids,hnd,a2]
   · refine⟨i,_,rfl,rfl,⟨?_,by rw [hnd],by rw [hnd];exact hm,by rw [hnd];exact a1⟩,rfl⟩
     rw [DD,DB];exact hi
   · intro x
     rw [flatMap_singleton,Dx,hnd,a3]
     exact el x
 · have hk9:Ks.length=9:=by omega
   obtain⟨sp,hsp,hh⟩:=Js hk9 (show Xs.length=8 by omega) (show Ts.length=9 by omega) []
   rw [← hk2] at hh
   obtain⟨N',j,hB,tk⟩:=HN hnode hM (by simpa using hk9) hi (by omega) hh
   rw [hk2] at tk
   have h3:3<Xs.length:=by omega
   have hspx:Xs[3]=sp:=by rw [gge h3] at hsp;exact Option.some.inj hsp
   have eX:Xs=Xs.take 3++sp::Xs.drop 4:=by rw [← hspx];exact FT Xs h3
   have eK:Ks=Ks.take 4++Ks.drop 4:=(take_append_drop 4 Ks).symm
   have eT:Ts=Ts.take 4++Ts.drop 4:=(take_append_drop 4 Ts).symm
   have l1:(Ks.take 4).length=4:=by rw [length_take];omega
   have l2:(Xs.take 3).length=3:=by rw [length_take];omega
   have l3:(Ts.take 4).length=4:=by rw [length_take];omega
   have l4:(Ks.drop 4).length=5:=by rw [length_drop];omega
   have c':=c
   rw [eX,eK,eT] at c'
   have ho':=ho
   rw [eX] at ho'
   obtain⟨s1,s2,s3⟩:=Ch.split (by omega) (by omega) ho' c'
   obtain⟨o1,o2,o3⟩:=pairwise_append.1 ho'
   have hck1:=D1 (n:=⟨2,[],Ks.take 4,Xs.take 3,Ts.take 4⟩) rfl (EP hc2 hl2 s2 (by omega) (by omega) o1 fun x h=>hx x (mem_of_mem_take h))
   have hck2:=D1 (n:=⟨2,[],Ks.drop 4,Xs.drop 4,Ts.drop 4⟩) rfl (EP hc2 hl2 s3 (by omega) (by omega) (pairwise_cons.1 o2).2 fun x h=>hx x (mem_of_mem_drop h))
   have fr1:=fr.put hI mem_cons_self hx1 hxk1 (Ho [] (Ks.take 4) (Xs.take 3) (Ts.take 4)) hck1
   have hat2:(v0 N2 i ⟨2,[],Ks.take 4,Xs.take 3,Ts.take 4⟩)[i.toNat]? = some (.inr ⟨2,[],Ks.take 4,Xs.take 3,Ts.take 4⟩):=DY _ (by omega)
   have hKu : ∀ q∈Ks.flatMap (ids (fN N2) h),∃ n:DNode,N2[q]? = some (.inr n)∧n.kind≠0:=fun q hq=>by
    obtain⟨k,hk,hq⟩:=mem_flatMap.1 hq
    obtain⟨t,s',x,_⟩:=c.mem k hk
    exact x.1.used q hq
   have hne : ∀ q∈Ks.flatMap (ids (fN N2) h),q≠i.toNat:=fun q hq h=>hiK (by rw [← h];exact hq)
   have fr2:=fr1.take tk (Ho _ _ _ _) hck2 fun q hq=>by
    rcases mem_cons.1 hq with rfl | hq
    · exact⟨_,hat2,Ho _ _ _ _⟩
    · obtain⟨y,hy,hyk⟩:=hKu q hq
      exact⟨.inr y,by rw [DI N2 (hne q hq)];exact hy,hyk⟩
   have hij:i.toNat≠j:=fun h=>by
    subst h
    exact absurd (tk.free _ hat2) (Ho _ _ _ _)
   have hNi:N'[i.toNat]? = some (.inr ⟨2,[],Ks.take 4,Xs.take 3,Ts.take 4⟩):=by rw [tk.same _ hij];exact hat2
   have hnd1:nd (fN N') i=⟨2,[],Ks.take 4,Xs.take 3,Ts.take 4⟩:=F3 hNi
   have hnd2:nd (fN N') (j:Int)=⟨2,[],Ks.drop 4,Xs.drop 4,Ts.drop 4⟩:=F3 (by rw [Int.toNat_natCast];exact tk.at_)
   have hjl:j<N'.length:=(ggs.1 tk.at_).1
   have hil:i.toNat<N'.length:=(ggs.1 hNi).1
   have hlen:N2.length≤N'.length:=by rcases tk.len with h | ⟨h,_⟩ <;> rw [DB] at h <;> omega
   have hag : ∀ q∈Ks.flatMap (ids (fN N2) h),N'[q]? = N2[q]?:=fun q hq=>by
    have hqj:q≠j:=fun h=>by
     subst h
     obtain⟨y,hy,hyk⟩:=hKu q hq
     exact absurd (tk.free (.inr y) (by rw [DI N2 (hne q hq)];exact hy)) hyk
    rw [tk.same q hqj,DI N2 (hne q hq)]
   have sub1 : ∀ q∈(Ks.take 4).flatMap (ids (fN N2) h),q∈Ks.flatMap (ids (fN N2) h):=fun q hq=>by
    rw [eK,flatMap_append];exact mem_append_left _ hq
   have sub2 : ∀ q∈(Ks.drop 4).flatMap (ids (fN N2) h),q∈Ks.flatMap (ids (fN N2) h):=fun q hq=>by
    rw [eK,flatMap_append];exact mem_append_right _ hq
   obtain⟨a1,a2,a3⟩:=En hlen s2 fun q hq=>hag q (sub1 q hq)
   obtain⟨b1,b2,b3⟩:=En hlen s3 fun q hq=>hag q (sub2 q hq)
   refine⟨N',sp,(j:Int),true,hB,.inr ⟨rfl,hx sp (by rw [eX];simp),⟨?_,?_,?_⟩⟩⟩
   · refine(fr2.perm (K':=i.toNat::((Ks.take 4).flatMap (ids (fN N2) h)++j::(Ks.drop 4).flatMap (ids (fN N2) h))) ?_).cong rfl ?_
     · rw [show Ks.flatMap (ids (fN N2) h)=(Ks.take 4).flatMap (ids (fN N2) h)++(Ks.drop 4).flatMap (ids (fN N2) h) by rw [← flatMap_append,← eK]]
       exact(List.Perm.swap _ _ _).trans (List.Perm.cons _ perm_middle.symm)
     · rw [flatMap_cons,flatMap_singleton,ids,ids,hnd1,hnd2,a2,b2,Int.toNat_natCast];rfl
   · refine⟨i,[(j:Int)],_,_,rfl,rfl,s1,⟨⟨?_,by rw [hnd1],by rw [hnd1];show 4≤(Ks.take 4).length;omega,by rw [hnd1];exact a1⟩,rfl⟩,(j:Int),_,rfl,rfl,⟨?_,by rw [hnd2],by rw [hnd2];show 4≤(Ks.drop 4).length;omega,by rw [hnd2];exact b1⟩,rfl⟩
     · rw [DD];omega
     · rw [DD];omega
   · intro x
     rw [← el x,flatMap_cons,flatMap_singleton,Dx,Dx,hnd1,hnd2]
     show x∈(Ks.take 4).flatMap _++(Ks.drop 4).flatMap _↔_
     rw [a3,b3,← flatMap_append,← eK]
theorem Ja (sp:DSpot):DSpot.mk (DKey.mk sp.key.pfs sp.key.obj sp.key.off) sp.made=sp:=rfl
theorem LH {e:DElem}(he:DG e=0):∀(h mf:Nat) (N:NL) (i:Int) (m:Nat) (s:Span),h<mf→Em N→N.length≤400→used N+(h+1)≤400→DJ (fN N) h i m s→(ids (fN N) h i).Nodup→inS s (Dy e)=true→(∀ x∈Dx (fN N) h i,Dy x≠Dy e) →
 JX F e N h mf i s m:=by
 intro h
 induction h with
 | zero=>exact fun mf N i m s hm hc hl _ c _ hs hne=>LI he hm hc hl c hs hne
 | succ h ih =>
  intro mf N i m s hm hc hl hu c hn hs hne
  obtain⟨mf,rfl⟩ : ∃ q,mf=q+1:=⟨mf-1,by omega⟩
  have L:=c.inner hc
  have hr:=c.range
  rw [DD] at hr
  have hus:=c.used
  obtain⟨hnode,hat⟩:=c.node
  have hk0:=c.kind
  obtain⟨_,hk2,hmk,hch⟩:=c
  obtain⟨A,k,B,XA,XB,TA,t,TB,s',f⟩:=J8 L.seps L.tids L.ord hch hs
  have hids:ids (fN N) (h+1) i=i.toNat::(A.flatMap (ids (fN N) h)++(ids (fN N) h k++B.flatMap (ids (fN N) h))):=by
   rw [ids,f.kids,flatMap_append,flatMap_cons]
  have hels:Dx (fN N) (h+1) i=A.flatMap (Dx (fN N) h)++(Dx (fN N) h k++B.flatMap (Dx (fN N) h)):=by
   rw [Dx,f.kids,flatMap_append,flatMap_cons]
  generalize hnn:nd (fN N) i=n at *
  have hn0:=hn
  rw [ids,hnn,f.kids] at hn
  obtain⟨d1,d2,d3⟩:=Gi hn
  have hN1 : ∀ j∈ids (fN N) h k,(wt N i)[j]? = N[j]?:=fun j hj=>DQ N (fun e=>d1 (e▸hj))
  obtain⟨q1,q2,q3,q4⟩:=DJ.agree (N':=wt N i) (by rw [Dz];exact Nat.le_refl _) f.here.1 hN1
  obtain⟨N2,sp,r,b,hrun,hpost⟩:=ih mf (wt N i) k 4 s' (by omega) (hc.out i) (by rw [Dz];exact hl) (by rw [He];omega) q1 (by rw [q2];exact d2) f.in_ (fun x hx=>hne x (by rw [hels,← q3];simp [hx]))
  have hw:ET n.seps (Dy e)=A.length:=f.way
  have hkl:n.kids.length=A.length+B.length+1:=by rw [f.kids];simp;omega
  have h8:=L.eight
  have hta:=f.ta
  have hxa:=f.xa
  obtain⟨R,X,P,hXp,hXc,hRl,hXo,hM⟩ : ∃ R X,InsPost e (wt N i) N2 h k s' 4 R X∧(∀ x∈X,DG (zE x)=0)∧X.length+1=R.length∧R.length≤2∧(XA++(X++XB)).Pairwise SpotO ∧
   IY F e (Ae (Hi F e) mf) N i n=some ([],A++(R++B),XA++(X++XB),TA++(R.map (fun k=>DE (nd (fN N2) k))++TB),N2):=by
   have hord:=L.ord
   rw [f.seps] at hord
   have hcall : ∀(K:InsT→Option ((List DElem) × (List Int) × (List DSpot) × (List Int) × (List (Int ⊕ DNode)))),True:=fun _=>trivial
   rcases hpost with ⟨rfl,P⟩ | ⟨rfl,hsp,P⟩
   · refine⟨[k],[],P,by simp,rfl,by simp,by simpa using hord,?_⟩
     obtain⟨k',t',e1,e2,x⟩:=P.ch
     obtain rfl:k=k':=by simpa using e1
     unfold IY
     rw [hk2,show ((2:Int) == 1)=false from rfl,cond_false,DF,obs,EL n _ (Ex (D1 hk2 L)),obs,hw,f.kids,EC,obs,hrun,obs]
     dsimp only
     rw [obs,x.1.node.1,obs,D9 P.fr.chk x.1.range,obs,f.tids,← hta,EC,obs,cond_false,Int.toNat_natCast,FC,L.elems,f.seps]
     simp
   · obtain⟨k',ks',t',ts',e1,e2,i1,x,k2,t2,e3,e4,y⟩:=P.ch
     obtain⟨rfl,rfl⟩ : k=k'∧[r]=ks':=by simpa using e1
     obtain rfl:r=k2:=by simpa using e3
     refine⟨[k,r],[sp],P,by simpa using hsp,rfl,by simp,?_,?_⟩
     · obtain⟨p1,p2,p3⟩:=pairwise_append.1 hord
       obtain⟨y0,hy0⟩:=x.1.some_elem P.fr.chk
       have hy1:=(Et.1 ((x.1.elems P.fr.chk).2 y0 hy0).1)
       have hy2:=EF i1 ((x.1.elems P.fr.chk).2 y0 hy0).1
       have hlo : ∀ z∈XA,SpotO z sp:=fun z hz=>GI (f.loX z hz _ hy2) hy1.2
       have hhi : ∀ z∈XB,SpotO sp z:=fun z hz=>f.hiX z hz sp i1
       refine pairwise_append.2 ⟨p1,pairwise_cons.2 ⟨hhi,p2⟩,fun a ha b hb=>?_⟩
       rcases mem_cons.1 hb with rfl | hb
       · exact hlo a ha
       · exact p3 a ha b hb
     · have hXl:n.seps.length=A.length+B.length:=by have:=L.seps;omega
       have htl:(TA++DE (nd (fN N2) k)::TB).length=A.length+B.length+1:=by have:=f.tb;simp;omega
       unfold IY
       rw [hk2,show ((2:Int) == 1)=false from rfl,cond_false,DF,obs,EL n _ (Ex (D1 hk2 L)),obs,hw,f.kids,EC,obs,hrun,obs]
       dsimp only
       rw [obs,x.1.node.1,obs,D9 P.fr.chk x.1.range,obs,f.tids,show idx (TA++t::TB) (A.length:Int)=some t by rw [← hta];exact EC _ _ _,obs,cond_true,w64 (by omega) (by omega),Int.toNat_natCast,show (TA++t::TB).set A.length (DE (nd (fN N2) k))=TA++DE (nd (fN N2) k)::TB by rw [← hta];exact FC _ _ _ _,Ja]
       have hi1:Cn 8 (A++k::B) ((A.length:Int)+1) r=some (A++(k::r::B)):=by
        unfold Cn
        rw [if_pos ⟨by omega,by simp;omega,by simp;omega,by unfold maxLen;simp;omega⟩,show ((A.length:Int)+1).toNat=A.length+1 by omega]
        unfold wE
        rw [show A++k::B=(A++[k])++B by simp,take_left' (by simp),drop_left' (by simp)];simp
       have hi2:Cn 32 n.seps (A.length:Int) sp=some (XA++sp::XB):=by
        unfold Cn
        rw [if_pos ⟨by omega,by omega,by omega,by unfold maxLen;omega⟩,Int.toNat_natCast]
        unfold wE
        rw [f.seps,take_left' hxa,drop_left' hxa]
       have hi3:Cn 8 (TA++DE (nd (fN N2) k)::TB) ((A.length:Int)+1) (DE (nd (fN N2) r))=some (TA++(DE (nd (fN N2) k)::DE (nd (fN N2) r)::TB)):=by
        unfold Cn
        rw [if_pos ⟨by omega,by omega,by omega,by unfold maxLen;omega⟩,show ((A.length:Int)+1).toNat=A.length+1 by omega]
        unfold wE
        rw [show TA++DE (nd (fN N2) k)::TB=(TA++[DE (nd (fN N2) k)])++TB by simp,take_left' (by simp;omega),drop_left' (by simp;omega)];simp
       obtain⟨_,_,_,_,j1⟩:=zn hi1
       obtain⟨_,_,_,_,j2⟩:=zn hi2
       obtain⟨_,_,_,_,j3⟩:=zn hi3
       rw [Int.toNat_natCast] at j2
       rw [hi1,obs,hi2,obs,y.1.node.1,obs,D9 P.fr.chk y.1.range,obs,hi3,obs,j1,j2,j3,L.elems]
       simp
  have hl2:N2.length≤400:=by
   have h1:=P.fr.cap
   have h2:=P.fr.use
   rw [Dz] at h1
   rw [He] at h2
   omega
  have hr2:0≤i∧i<(N2.length:Int):=by
   have:=P.fr.len
   rw [Dz] at this
   omega
  have hab : ∀ a,a∈A∨a∈B→∀ j∈ids (fN N) h a,N2[j]? = N[j]?:=fun a ha j hj=>by
   obtain⟨x1,x2⟩:=d3 a ha
   obtain⟨y,hy,hyk⟩:=hus j (by
    rw [hids]
    rcases ha with ha | ha
    · simp only [mem_cons,mem_append,mem_flatMap];exact .inr (.inl ⟨a,ha,hj⟩)
    · simp only [mem_cons,mem_append,mem_flatMap];exact .inr (.inr (.inr ⟨a,ha,hj⟩)))
   have hji:j≠i.toNat:=fun e=>x1 (e▸hj)
   rw [P.fr.out j (.inr y) (by rw [q2];exact x2 j hj) (by rw [DQ N hji];exact hy) hyk,hy]
  have hlen2:N.length≤N2.length:=by have:=P.fr.len;rwa [Dz] at this
  have other : ∀ a,a∈A∨a∈B→∀ {m:Nat} {s:Span},DJ (fN N) h a m s→_:=fun a ha m s c=>DJ.agree (N:=N) (N':=N2) hlen2 c (hab a ha)
  have c2:=f.turn (GW (fN N2) h) (fun a t' s'' ha x=>⟨(other a ha x.1).1,by rw [(other a ha x.1).2.2.2];exact x.2⟩) R X _ P.ch
  have hkids : ∀ a,a∈A∨a∈B→∃ t' s'',DJ (fN N) h a 4 s'':=fun a ha=>by
   rcases ha with ha | ha
   · obtain⟨t',s'',x1,_⟩:=f.lo a ha;exact⟨t',s'',x1.1⟩
   · obtain⟨t',s'',x1,_⟩:=f.hi a ha;exact⟨t',s'',x1.1⟩
  have flat : ∀(l:List Int),(∀ a∈l,a∈A∨a∈B)→l.flatMap (ids (fN N2) h)=l.flatMap (ids (fN N) h)∧l.flatMap (Dx (fN N2) h)=l.flatMap (Dx (fN N) h):=fun l hl=>by
   constructor
   · exact EY fun a ha=>by obtain ⟨t',s'',x1⟩:=hkids a (hl a ha);exact(other a (hl a ha) x1).2.1
   · exact DT fun a ha=>by obtain ⟨t',s'',x1⟩:=hkids a (hl a ha);exact(other a (hl a ha) x1).2.2.1
  have fr:=P.fr.up (i:=i.toNat) (I1:=A.flatMap (ids (fN N) h)) (I3:=B.flatMap (ids (fN N) h)) rfl (by rw [q2,← hids];exact hn0) (fun j hj=>hus j (by rw [hids,← q2];exact hj))
  rw [q2,← hids] at fr
  have hK:(A++(R++B)).flatMap (ids (fN N2) h)=A.flatMap (ids (fN N) h)++(R.flatMap (ids (fN N2) h)++B.flatMap (ids (fN N) h)):=by
   rw [flatMap_append,flatMap_append,(flat A fun a ha=>.inl ha).1,(flat B fun a ha=>.inr ha).1]
  refine Me hnode hk2 hM hr2 hl2 (fr.cong rfl (by rw [hK])) (fr.kept _ _ hat hk0) c2 ?_ ?_ ?_ hXo ?_ ?_
  · have:=L.two;simp;omega
  · simp;omega
  · simp;omega
  · intro x hx
    rcases mem_append.1 hx with hx | hx
    · exact L.ok x (by rw [f.seps];exact mem_append_left _ hx)
    · rcases mem_append.1 hx with hx | hx
      · exact hXp x hx
      · exact L.ok x (by rw [f.seps];exact mem_append_right _ hx)
  · intro x
    have hp:=P.elems x
    rw [q3] at hp
    rw [flatMap_append,flatMap_append,(flat A fun a ha=>.inl ha).2,(flat B fun a ha=>.inr ha).2,hels,mem_append,mem_append,hp,mem_append,mem_append]
    constructor
    · rintro(h | (h | h) | h)
      · exact .inr (.inl h)
      · exact .inl h
      · exact .inr (.inr (.inl h))
      · exact .inr (.inr (.inr h))
    · rintro(h | h | h | h)
      · exact .inr (.inl (.inl h))
      · exact .inl h
      · exact .inr (.inl (.inr h))
      · exact .inr (.inr h)
end
section
variable {F:Nat} [Big F] {α:Type}
theorem Ki {f:Int→Option (Int ⊕ (Unit ⊕ Int))}(l:List α)(p:α→Bool)(hn:l.length≤9223372036854775807)
 (hs : ∀(k:Nat) (x:α),l[k]? = some x→f (k:Int)=some (if p x then .inr (.inr (k:Int)) else .inl ((k:Int)+1)))
 (he:f (l.length:Int)=some (.inr (.inl ()))):iter f F 0=some (match l.findIdx? p with | some i=>.inr (i:Int) | none=>.inl ()):=by
 cases h:l.findIdx? p with
 | none =>
  rw [List.findIdx?_eq_none_iff] at h
  refine D7 (fun k=>(k:Int)) l.length (show (0:Int)=_ from rfl) hn (fun k hk=>?_) he
  rw [hs k _ (gge hk),h _ (List.getElem_mem hk)];rfl
 | some i =>
  rw [List.findIdx?_eq_some_iff_getElem] at h
  obtain⟨hi,h1,h2⟩:=h
  refine D7 (fun k=>(k:Int)) i (show (0:Int)=_ from rfl) (by omega) (fun k hk=>?_) ?_
  · rw [hs k _ (gge (by omega)),if_neg (h2 k hk)];rfl
  · show f (i:Int)=_
    rw [hs i _ (gge hi),if_pos h1]
def dst (q:α→Bool)(l:List α)(i0:Nat):Nat→List α × Nat
 | 0=>(l,i0)
 | k+1=>match l[i0+1+k]? with
  | some x=>if q x then ((dst q l i0 k).1.set (dst q l i0 k).2 x,(dst q l i0 k).2+1) else dst q l i0 k
  | none=>dst q l i0 k
theorem KJ (q:α→Bool)(l:List α)(i0:Nat)(h0:(l.take (i0+1)).filter q=l.take i0)(hi:i0<l.length):∀ k,i0+1+k≤l.length →
 (dst q l i0 k).1.length=l.length∧(dst q l i0 k).2<i0+1+k∧(dst q l i0 k).1.take (dst q l i0 k).2=(l.take (i0+1+k)).filter q∧(dst q l i0 k).1.drop (i0+1+k)=l.drop (i0+1+k)
 | 0,_=>⟨rfl,by show i0<_;omega,by show l.take i0=_;exact h0.symm,rfl⟩
 | k+1,hk=>by
  obtain⟨h1,h2,h3,h4⟩:=KJ q l i0 h0 hi k (by omega)
  have hlt:i0+1+k<l.length:=by omega
  have hx:=gge hlt
  have ht:l.take (i0+1+(k+1))=l.take (i0+1+k)++[l[i0+1+k]]:=by rw [show i0+1+(k+1)=(i0+1+k)+1 by omega,take_add_one,hx];rfl
  have h5:(dst q l i0 k).1.drop (i0+1+(k+1))=l.drop (i0+1+(k+1)):=by
   rw [show i0+1+(k+1)=(i0+1+k)+1 by omega,← List.drop_drop,h4,List.drop_drop]
  rw [dst,hx]
  dsimp only
  rw [ht,List.filter_append]
  by_cases hq:q l[i0+1+k]=true
  · rw [if_pos hq]
    dsimp only
    refine⟨by rw [List.length_set,h1],by omega,?_,?_⟩
    · rw [take_add_one,List.take_set_of_le (Nat.le_refl _),h3,List.getElem?_set,if_pos rfl,if_pos (by omega)]
      simp [hq]
    · rw [List.drop_set_of_lt (by omega),h5]
  · rw [if_neg hq]
    refine⟨h1,by omega,?_,h5⟩
    rw [h3];simp [hq]
theorem K6 {f:List α × Int × Int→Option ((List α × Int × Int) ⊕ (List α × Int))}(l:List α)(q:α→Bool)(i0:Nat)(hi:i0<l.length)(hn:l.length≤9223372036854775806)(h0:(l.take (i0+1)).filter q=l.take i0)
 (hs : ∀(A:List α) (i j:Nat) (x:α),A.length=l.length→i<j→A[j]? = some x→f (A,(i:Int),(j:Int))=some (.inl (if q x then A.set i x else A,if q x then (i:Int)+1 else (i:Int),(j:Int)+1)))
 (he : ∀(A:List α) (i:Nat),A.length=l.length→f (A,(i:Int),(l.length:Int))=some (.inr (A,(i:Int)))) :
 ∃(A:List α) (i:Nat),iter f F (l,(i0:Int),(i0:Int)+1)=some (A,(i:Int))∧A.length=l.length∧i≤l.length∧A.take i=l.filter q:=by
 have inv:=KJ q l i0 h0 hi
 obtain⟨e1,e2,e3,e4⟩:=inv (l.length-(i0+1)) (by omega)
 refine⟨_,_,D7 (fun k=>((dst q l i0 k).1,((dst q l i0 k).2:Int),((i0+1+k:Nat):Int))) (l.length-(i0+1)) (r:=((dst q l i0 (l.length-(i0+1))).1,((dst q l i0 (l.length-(i0+1))).2:Int))) rfl (by omega) (fun k hk=>?_) ?_,e1,by omega,?_⟩
 · obtain⟨h1,h2,h3,h4⟩:=inv k (by omega)
   have hlt:i0+1+k<l.length:=by omega
   have hx:(dst q l i0 k).1[i0+1+k]? = some l[i0+1+k]:=by
    have:=congrArg (fun m=>m[0]?) h4
    simp only [List.getElem?_drop,Nat.add_zero] at this
    rw [this,gge hlt]
   rw [hs _ _ _ _ h1 h2 hx]
   have hd:dst q l i0 (k+1)=if q l[i0+1+k] then ((dst q l i0 k).1.set (dst q l i0 k).2 l[i0+1+k],(dst q l i0 k).2+1) else dst q l i0 k:=by
    conv=>lhs;rw [dst,gge hlt]
   rw [hd]
   by_cases hq:q l[i0+1+k]=true
   · simp only [hq,if_true];rfl
   · simp only [hq,if_false];rfl
 · rw [show i0+1+(l.length-(i0+1))=l.length by omega]
   exact he _ _ e1
 · rw [e3,show i0+1+(l.length-(i0+1))=l.length by omega,List.take_length]
theorem IV {l:List α}{q:α→Bool}{i:Nat}(h:l.findIdx? (fun x=>!q x)=some i):i<l.length∧(l.take (i+1)).filter q=l.take i:=by
 rw [List.findIdx?_eq_some_iff_getElem] at h
 obtain⟨hi,h1,h2⟩:=h
 refine⟨hi,?_⟩
 rw [take_add_one,gge hi,List.filter_append]
 have hq:q l[i]=false:=by simpa using h1
 have:(l.take i).filter q=l.take i:=by
  rw [List.filter_eq_self]
  intro x hx
  obtain⟨j,hj,rfl⟩:=List.getElem_of_mem hx
  rw [length_take] at hj
  rw [List.getElem_take]
  simpa using h2 j (by omega)
 rw [this];simp [hq]
theorem Lh (A m:List α)(i:Nat)(h:i≤A.length):(over A i m).take i=A.take i:=by
 unfold over
 rw [append_assoc,List.take_append_of_le_length (by rw [length_take];omega),List.take_take,Nat.min_self]
end
section
abbrev RemT:=(List Int) × (List DSpot) × (List Int) × (List (Int ⊕ DNode))
def MA (F:Nat)(l:List DElem)(p1:DSpot):Option (List DElem) :=
 (
  (
   (iter (σ:=Int) (ρ:=(Unit) ⊕ Int) (fun x3 =>
    bif decide (x3<(l.length:Int)) then
     (idx l x3).bind fun e1 =>
     (
      (wj e1).bind fun r8 =>
       some (r8 == p1):Option (Bool)).bind fun z6 =>
     bif z6 then
      some (.inr (.inr x3))
     else
      some (.inl (i64.wrap (x3+1)))
     else
      some (.inr (.inl ()))) F 0).bind fun z=>match z with
    | .inl _ =>
     some (-1)
    | .inr q=>some q:Option (Int)).bind fun z5 =>
   bif (z5 == (-1)) then
    some l
   else
    (iter (σ:=(List DElem) × Int × Int) (ρ:=(List DElem) × Int) (fun x=>match x with
     | (x4,x5,x6) =>
      bif decide (x6<(x4.length:Int)) then
       (
        (idx x4 x6).bind fun e2 =>
         (
          (wj e2).bind fun r9 =>
           some (r9 == p1):Option (Bool)).bind fun z11 =>
         bif (!z11) then
          (idx x4 x5).bind fun e3 =>
          some ((x4.set x5.toNat e2),i64.wrap (x5+1))
         else
          some (x4,x5):Option ((List DElem) × Int)).bind fun z=>match z with
        | (z9,z10) =>
         some (.inl (z9,z10,i64.wrap (x6+1)))
       else
        some (.inr (x4,x5))) F (l,z5,i64.wrap (z5+1))).bind fun z=>match z with
     | (z7,z8) =>
      (wn z7 z8 (z7.length:Int)).bind fun s2 =>
      (wn (over z7 z8.toNat (List.replicate s2.length ((DElem.mk (DKey.mk 0 0 0) 0 0 (ByteArray.mk #[])):DElem))) 0 z8).bind fun s3 =>
      some s3:Option ((List DElem)))
def KN (n5 n6:DNode)(e10:DSpot):Option (List DSpot) :=
 (
  (xT 56 n5.elems n6.elems).bind fun _ =>
   (
    bif (n5.kind == 2) then
     (xT 32 n5.seps [e10]).bind fun y4 =>
     (xT 32 (n5.seps++[e10]) n6.seps).bind fun y5 =>
     some ((n5.seps++[e10])++n6.seps)
     else
      some n5.seps:Option ((List DSpot))).bind fun z23 =>
   (xT 8 n5.kids n6.kids).bind fun _ =>
   (xT 8 n5.tids n6.tids).bind fun _ =>
   some z23:Option ((List DSpot)))
def Mv (F:Nat)(n1:DNode)(r10 r11:Int)(z12:NL)(z21 e8 e9:Int)(n5 n6:DNode)(z22:List DSpot):Option RemT :=
 bif decide ((8:Int)<(i64.wrap (((n5.elems++n6.elems).length:Int)+((n5.kids++n6.kids).length:Int)))) then
  (F2 n5.kind (n5.elems++n6.elems) (n5.kids++n6.kids) z22 (n5.tids++n6.tids)).bind fun z=>match z with
   | (z28,z29,z30,z31,z32,z33,z34,z35,z36,z37,z38,z39,z40) =>
    (xO (wt z12 e8) e8).bind fun u2 =>
    (xO (v0 (wt z12 e8) e8 (DNode.mk n5.kind z32 z33 z34 z35)) e9).bind fun u3 =>
    (idx n1.seps z21).bind fun e15 =>
    (wy F (DNode.mk z40 z31 z30 z29 z28)).bind fun r25 =>
    (idx (n1.tids.set r10.toNat r11) (i64.wrap (z21+1))).bind fun e16 =>
    some (n1.kids,(n1.seps.set z21.toNat (DSpot.mk (DKey.mk z36 z37 z38) z39)),((n1.tids.set r10.toNat r11).set ((i64.wrap (z21+1)).toNat) r25),(v0 (v0 (wt z12 e8) e8 (DNode.mk n5.kind z32 z33 z34 z35)) e9 (DNode.mk z40 z31 z30 z29 z28)))
  else
   (xO (wt z12 e8) e8).bind fun u4 =>
   (xO (v0 (wt z12 e8) e8 (DNode.mk n5.kind (n5.elems++n6.elems) (n5.kids++n6.kids) z22 (n5.tids++n6.tids))) e9).bind fun u5 =>
   (CG n1.kids (i64.wrap (z21+1)) (i64.wrap (z21+2))).bind fun _ =>
   (CG n1.seps z21 (i64.wrap (z21+1))).bind fun _ =>
   (CG (n1.tids.set r10.toNat r11) (i64.wrap (z21+1)) (i64.wrap (z21+2))).bind fun _ =>
   some ((xf n1.kids (i64.wrap (z21+1)).toNat (i64.wrap (z21+2)).toNat),(xf n1.seps z21.toNat (i64.wrap (z21+1)).toNat),(xf (n1.tids.set r10.toNat r11) (i64.wrap (z21+1)).toNat (i64.wrap (z21+2)).toNat),(v0 (v0 (wt z12 e8) e8 (DNode.mk n5.kind (n5.elems++n6.elems) (n5.kids++n6.kids) z22 (n5.tids++n6.tids))) e9 (DNode.mk 0 [] [] [] [])))
def Jr (F:Nat)(n1:DNode)(r10 r11:Int)(z12:NL):Option RemT :=
 (
  (
   bif (r10 == (i64.wrap ((n1.kids.length:Int)-1))) then
    some (i64.wrap (r10-1))
    else
     some r10:Option (Int)).bind fun z21 =>
   (idx n1.kids z21).bind fun e8 =>
   (idx n1.kids (i64.wrap (z21+1))).bind fun e9 =>
   (xp z12 e8).bind fun n5 =>
   (xp (wt z12 e8) e9).bind fun n6 =>
   (idx n1.seps z21).bind fun e10 =>
   (KN n5 n6 e10).bind fun z22 =>
   (Mv F n1 r10 r11 z12 z21 e8 e9 n5 n6 z22).bind fun z=>match z with
    | (z24,z25,z26,z27) =>
     (xp z27 e8).bind fun n13 =>
     (wy F n13).bind fun r30 =>
     (idx z26 z21).bind fun e19 =>
     some (z24,z25,(z26.set z21.toNat r30),z27):Option RemT)
def ML (F:Nat)(n1 n4:DNode)(r10 r11:Int)(z12:NL):Option RemT :=
 bif decide ((i64.wrap ((n4.elems.length:Int)+(n4.kids.length:Int)))<4) then
  (Jr F n1 r10 r11 z12).bind fun z=>match z with
   | (z17,z18,z19,z20) =>
    some (z17,z18,z19,z20)
  else
   some (n1.kids,n1.seps,(n1.tids.set r10.toNat r11),z12)
def Id (F:Nat)(p1:DSpot)(rf1:NL × Int→Option NL)(x:NL × Int):Option NL :=
 match x with
  | (x1,x2) =>
   (xp x1 x2).bind fun n1 =>
    bif (n1.kind == 1) then
     (MA F n1.elems p1).bind fun z4 =>
     (xO (wt x1 x2) x2).bind fun u1 =>
     some (v0 (wt x1 x2) x2 (DNode.mk n1.kind z4 n1.kids n1.seps n1.tids))
    else
     (yd F n1 p1).bind fun r10 =>
     (idx n1.kids r10).bind fun e5 =>
     (rf1 ((wt x1 x2),e5)).bind fun z12 =>
     (idx n1.kids r10).bind fun e6 =>
     (xp z12 e6).bind fun n4 =>
     (wy F n4).bind fun r11 =>
     (idx n1.tids r10).bind fun e7 =>
     (ML F n1 n4 r10 r11 z12).bind fun z=>match z with
      | (z13,z14,z15,z16) =>
       (xO z16 x2).bind fun u6 =>
       some (v0 z16 x2 (DNode.mk n1.kind n1.elems z13 z14 z15))
def Mj (F:Nat)(p1:DSpot)(N:NL)(root:Int):Option (NL × Int) :=
 (Ae (σ:=(List (Int ⊕ DNode)) × Int) (ρ:=(List (Int ⊕ DNode))) (Id F p1) F (N,root)).bind fun q2 =>
  (
   (xp q2 root).bind fun n15 =>
    bif ((n15.kids.length:Int) == 1) then
     (xO (wt q2 root) root).bind fun u7 =>
     (idx n15.kids 0).bind fun e22 =>
     some (e22,(v0 (wt q2 root) root (DNode.mk 0 [] [] [] [])))
    else
     some (root,(v0 (wt q2 root) root n15)):Option (Int × (List (Int ⊕ DNode)))).bind fun z=>match z with
   | (z41,z42) =>
    some (z42,z41)
variable {F:Nat} [Big F]
def Fj (sp:DSpot)(e:DElem):Bool:=!(Dy e == sp)
theorem L7 (l:List DElem)(sp:DSpot)(hl:l.length≤1000):MA F l sp=some (l.filter (Fj sp)):=by
 unfold MA
 rw [Ki l (fun x=>Dy x == sp) (by omega) (fun n x hx=>?_) (by simp)]
 · rw [obs]
   have hq:(fun x:DElem=>Dy x == sp)=fun x=>!(Fj sp x):=by funext x;simp [Fj]
   cases hf:l.findIdx? (fun x=>Dy x == sp) with
   | none =>
    dsimp only
    rw [obs,show ((-1:Int) == -1)=true from rfl,cond_true,List.filter_eq_self.2 fun x hx=>?_]
    rw [List.findIdx?_eq_none_iff] at hf
    simpa [Fj] using hf x hx
   | some n =>
    dsimp only
    rw [obs,show ((n:Int) == -1)=false by rw [beq_eq_false_iff_ne];omega,cond_false]
    rw [hq] at hf
    obtain⟨hn,h0⟩:=IV hf
    rw [w64 (n:=(n:Int)+1) (by omega) (by omega)]
    obtain⟨A,m,e1,e2,e3,e4⟩:=K6 (F:=F) (f:=fun x=>match x with
     | (x4,x5,x6) =>
      bif decide (x6<(x4.length:Int)) then
       (
        (idx x4 x6).bind fun e2 =>
         (
          (wj e2).bind fun r9 =>
           some (r9 == sp):Option (Bool)).bind fun z11 =>
         bif (!z11) then
          (idx x4 x5).bind fun e3 =>
          some ((x4.set x5.toNat e2),i64.wrap (x5+1))
         else
          some (x4,x5):Option ((List DElem) × Int)).bind fun z=>match z with
        | (z9,z10) =>
         some (.inl (z9,z10,i64.wrap (x6+1)))
       else
        some (.inr (x4,x5))) l (Fj sp) n hn (by omega) h0 (fun A i j x hA hij hx=>by
     have hjl:=(ggs.1 hx).1
     dsimp only
     rw [decide_eq_true (by omega),cond_true,DA,DA,hx,obs,DF,obs,obs,gge (show i<A.length by omega),obs,w64 (by omega) (by omega),w64 (by omega) (by omega),Int.toNat_natCast]
     unfold Fj
     cases Dy x == sp <;> rfl) (fun A i hA=>by
     dsimp only
     rw [decide_eq_false (by omega)];rfl)
    refine Eq.trans (congrArg (fun z=>Option.bind z _) e1) ?_
    rw [obs]
    dsimp only
    rw [Hj (by omega) (by omega) (by omega),obs,Int.toNat_natCast,Ed (by rw [xh _ _ _ (by simp;omega)];omega),obs,Lh _ _ _ (by omega),e4]
 · have hnl:=(ggs.1 hx).1
   rw [decide_eq_true (by omega),cond_true,DA,hx,obs,DF,obs,obs,w64 (by omega) (by omega)]
   cases Dy x == sp <;> rfl
theorem Jt {l:List DElem}(hl:5≤l.length)(hl' : l.length≤100)(ks:List Int)(xs:List DSpot)(ts:List Int):∃ x,l[4]? = some x∧F2 1 l ks xs ts=some ([],[],[],l.drop 4,l.take 4,ks,xs,ts,(Dy x).key.pfs,(Dy x).key.obj,(Dy x).key.off,(Dy x).made,1):=by
 have hg:l[4]? = some l[4]:=gge (by omega)
 refine⟨_,hg,?_⟩
 unfold F2
 have h1:wn l 4 (l.length:Int)=some (l.drop 4):=DW (k:=4) (by omega)
 have h2:wn l 0 4=some (l.take 4):=Ed (k:=4) (by omega)
 have h3:idx (l.drop 4) 0=some l[4]:=by rw [show (0:Int)=((0:Nat):Int) from rfl,DA,List.getElem?_drop];exact hg
 rw [show ((1:Int) == 1)=true from rfl,cond_true,h1,obs,DN (by simp;omega) (by simp;omega),obs,h2,obs,h3,obs,DF,obs]
theorem IW {ks:List Int}{xs:List DSpot}{ts:List Int}(hk:5≤ks.length)(hk' : ks.length≤100)(hx:xs.length+1=ks.length)(ht:ts.length=ks.length)(l:List DElem):∃ x,xs[3]? = some x∧F2 2 l ks xs ts=some (ts.drop 4,xs.drop 4,ks.drop 4,[],l,ks.take 4,xs.take 3,ts.take 4,x.key.pfs,x.key.obj,x.key.off,x.made,2):=by
 have hg:xs[3]? = some xs[3]:=gge (by omega)
 refine⟨_,hg,?_⟩
 unfold F2
 have h1:wn ks 4 (ks.length:Int)=some (ks.drop 4):=DW (k:=4) (by omega)
 have h2:wn xs 4 (xs.length:Int)=some (xs.drop 4):=DW (k:=4) (by omega)
 have h3:wn ts 4 (ts.length:Int)=some (ts.drop 4):=DW (k:=4) (by omega)
 have h4:wn ks 0 4=some (ks.take 4):=Ed (k:=4) (by omega)
 have h5:wn xs 0 3=some (xs.take 3):=Ed (k:=3) (by omega)
 have h6:wn ts 0 4=some (ts.take 4):=Ed (k:=4) (by omega)
 have h7:idx xs 3=some xs[3]:=by rw [show (3:Int)=((3:Nat):Int) from rfl,DA];exact hg
 rw [show ((2:Int) == 1)=false from rfl,cond_false,h1,obs,h2,obs,h3,obs,DN (by simp;omega) (by simp;omega),obs,DN (by simp;omega) (by simp;omega),obs,DN (by simp;omega) (by simp;omega),obs,h7,obs,h4,obs,h5,obs,h6,obs]
def put2 (N:NL)(k1 k2:Int)(a b:DNode):NL:=v0 (v0 (wt N k1) k1 a) k2 b
omit [Big F] in
theorem D8 (N:NL)(k1 k2:Int)(a b:DNode):(put2 N k1 k2 a b).length=N.length:=by unfold put2;rw [DB,DB,Dz]
theorem Gl (N:NL){k1 k2:Int}(a b:DNode){j:Nat}(h1:j≠k1.toNat)(h2:j≠k2.toNat):(put2 N k1 k2 a b)[j]? = N[j]?:=by unfold put2;rw [DI _ h2,DI _ h1,DQ _ h1]
theorem Hb {N:NL}{k1 k2:Int}(a b:DNode)(hne:k1.toNat≠k2.toNat)(h:k1.toNat<N.length):(put2 N k1 k2 a b)[k1.toNat]? = some (.inr a):=by unfold put2;rw [DI _ hne,DY _ (by rw [Dz];exact h)]
theorem Gm {N:NL}{k1 k2:Int}(a b:DNode)(h:k2.toNat<N.length):(put2 N k1 k2 a b)[k2.toNat]? = some (.inr b):=by unfold put2;rw [DY _ (by rw [DB,Dz];exact h)]
theorem Em.put2 {N:NL}(h:Em N){k1 k2:Int}{a b:DNode}(ha:DS a=0)(hb:DS b=0):Em (put2 N k1 k2 a b):=((h.out k1).put ha).put hb
theorem KD:DS zN=0:=by decide
theorem Kk {N:NL}{k1 k2:Int}(hne:k2.toNat≠k1.toNat):xp (wt N k1) k2=xp N k2:=by unfold xp;rw [DQ N hne]
structure PairPost (N2 N3:NL) (h:Nat) (k1 k2:Int) (s:Span) (K:List Int) (X:List DSpot):Prop where
 len:N3.length=N2.length
 out : ∀ j:Nat,j≠k1.toNat→j≠k2.toNat→N3[j]? = N2[j]?
 chk:Em N3
 ch:Ch (GW (fN N3) h) X s K (K.map fun k=>DE (nd (fN N3) k))
 ok : ∀ x∈X,DG (zE x)=0
 perm : ∃ Z,(ids (fN N2) h k1++ids (fN N2) h k2).Perm (Z++K.flatMap (ids (fN N3) h))∧∀ j∈Z,N3[j]? = some (.inr zN)
 elems:K.flatMap (Dx (fN N3) h)=Dx (fN N2) h k1++Dx (fN N2) h k2
def IJ (N2:NL)(h:Nat)(k1 k2:Int)(s:Span)(n5 n6:DNode)(x:DSpot):Prop :=
 ∃ z22,KN n5 n6 x=some z22 ∧
  ((((n5.elems++n6.elems).length:Int)+((n5.kids++n6.kids).length:Int)≤8∧PairPost N2 (put2 N2 k1 k2 ⟨n5.kind,n5.elems++n6.elems,n5.kids++n6.kids,z22,n5.tids++n6.tids⟩ zN) h k1 k2 s [k1] []) ∨
   (8<((n5.elems++n6.elems).length:Int)+((n5.kids++n6.kids).length:Int)∧∃(y:DSpot) (r1:List Int) (r2:List DSpot) (r3:List Int) (r4 l1:List DElem) (l2:List Int) (l3:List DSpot) (l4:List Int) (kd:Int),
    F2 n5.kind (n5.elems++n6.elems) (n5.kids++n6.kids) z22 (n5.tids++n6.tids)=some (r1,r2,r3,r4,l1,l2,l3,l4,y.key.pfs,y.key.obj,y.key.off,y.made,kd) ∧
    PairPost N2 (put2 N2 k1 k2 ⟨n5.kind,l1,l2,l3,l4⟩ ⟨kd,r4,r3,r2,r1⟩) h k1 k2 s [k1,k2] [y]))
omit [Big F] in
theorem Jw {n5 n6:DNode}(x:DSpot)(h5:DS n5=0)(h6:DS n6=0):KN n5 n6 x=some (bif n5.kind == 2 then n5.seps++x::n6.seps else n5.seps):=by
 obtain⟨a1,a2⟩:=ES h5
 obtain⟨b1,b2⟩:=ES h6
 have sm : ∀ {n:DNode},DS n=0→n.seps.length≤8∧n.tids.length≤8:=fun {n} h=>by
  have:=ES h
  rcases DV.1 h with h | h | h
  · rw [h.2.2.2.1,h.2.2.2.2];simp
  · rw [h.2.seps,h.2.tids];simp
  · have:=h.2.seps;have:=h.2.tids;omega
 obtain⟨a3,a4⟩:=sm h5
 obtain⟨b3,b4⟩:=sm h6
 unfold KN
 rw [DN (by omega) (by omega),obs,DN (l:=n5.kids) (by omega) (by omega),DN (l:=n5.tids) (by omega) (by omega)]
 cases n5.kind == 2 with
 | true =>
  rw [cond_true,cond_true,DN (by simp;omega) (by simp;omega),obs,DN (by simp;omega) (by simp;omega),obs,obs,obs,obs,append_assoc];rfl
 | false=>rw [cond_false,cond_false,obs,obs,obs]
omit [Big F] in
theorem Ld {N2:NL}(hc:Em N2){k1 k2:Int}{s:Span}{x:DSpot}(hx:inS s x=true)(hne:k1.toNat≠k2.toNat)(c1:DJ (fN N2) 0 k1 3 (hiS s x))(c2:DJ (fN N2) 0 k2 3 (loS s x))(hfew:(nd (fN N2) k1).elems.length+(nd (fN N2) k2).elems.length≤12) :
 IJ N2 0 k1 k2 s (nd (fN N2) k1) (nd (fN N2) k2) x:=by
 have L1:=c1.leaf hc
 have L2:=c2.leaf hc
 have r1:=c1.range
 have r2:=c2.range
 have g1:=FG hc r1
 have g2:=FG hc r2
 rw [DD] at r1 r2
 have hz:=Jw x g1 g2
 obtain⟨_,hk1,hm1,hin1⟩:=c1
 obtain⟨_,hk2,hm2,hin2⟩:=c2
 have e1:Dx (fN N2) 0 k1=(nd (fN N2) k1).elems:=rfl
 have e2:Dx (fN N2) 0 k2=(nd (fN N2) k2).elems:=rfl
 generalize nd (fN N2) k1=n5 at *
 generalize nd (fN N2) k2=n6 at *
 rw [hk1,show ((1:Int) == 2)=false from rfl,cond_false,L1.seps] at hz
 have h8:=L1.len
 have h8':=L2.len
 obtain⟨l,hl⟩ : ∃ l,l=n5.elems++n6.elems:=⟨_,rfl⟩
 have so:l.Pairwise SpO:=by
  rw [hl]
  refine pairwise_append.2 ⟨L1.ord,L2.ord,fun a ha b hb=>?_⟩
  have q1:=(Et.1 (hin1 a ha)).2
  have q2:=(Fm.1 (hin2 b hb)).1
  exact EE q1 q2
 have hin : ∀ y∈l,inS s (Dy y)=true:=fun y hy=>by
  rw [hl] at hy
  rcases mem_append.1 hy with hy | hy
  · exact EF hx (hin1 y hy)
  · exact E8 hx (hin2 y hy)
 have hok : ∀ y∈l,DG y=0:=fun y hy=>by
  rw [hl] at hy
  rcases mem_append.1 hy with hy | hy
  · exact L1.ok y hy
  · exact L2.ok y hy
 have hlen:l.length=n5.elems.length+n6.elems.length:=by rw [hl,length_append]
 refine⟨_,hz,?_⟩
 rw [L1.kids,L2.kids,L1.tids,L2.tids,← hl,hk1]
 by_cases ht:l.length≤8
 · refine .inl ⟨by simp;omega,?_⟩
   have hck:=Fg (n:=⟨1,l,[],[],[]⟩) rfl ⟨rfl,rfl,rfl,ht,hok,so⟩
   have hnd:=F3 (Hb (N:=N2) (k1:=k1) (k2:=k2) ⟨1,l,[],[],[]⟩ zN hne (by omega))
   refine⟨D8 _ _ _ _ _,fun j h1 h2=>Gl N2 _ _ h1 h2,hc.put2 hck KD,⟨k1,_,rfl,rfl,⟨?_,by rw [append_nil,hnd],by rw [append_nil,hnd];show 4≤l.length;omega,by rw [append_nil,hnd];exact hin⟩,rfl⟩,by simp,⟨[k2.toNat],?_,fun j hj=>?_⟩,?_⟩
   · rw [DD,D8];exact r1
   · simp only [ids,flatMap_singleton,List.singleton_append]
     exact List.Perm.swap _ _ _
   · rw [mem_singleton.1 hj,append_nil];exact Gm _ _ (by omega)
   · rw [flatMap_singleton,e1,e2,← hl]
     show (nd _ _).elems=_
     rw [append_nil,hnd]
 · refine .inr ⟨by have : 8 < l.length := by omega
                   simp;omega,?_⟩
   obtain⟨y,hy,hh⟩:=Jt (l:=l) (by omega) (by omega) ([]++[]) [] ([]++[])
   refine⟨Dy y,_,_,_,_,_,_,_,_,_,hh,?_⟩
   have e48:l=l.take 4++l.drop 4:=(take_append_drop 4 l).symm
   have hso:=so
   rw [e48] at hso
   obtain⟨o1,o2,o3⟩:=pairwise_append.1 hso
   have hl1:(l.take 4).length=4:=by rw [length_take];omega
   have hl2:(l.drop 4).length=l.length-4:=by rw [length_drop]
   have hxd : ∃ r,l.drop 4=y::r:=by
    have h4:4<l.length:=by omega
    rw [gge h4] at hy
    obtain rfl:=Option.some.inj hy
    exact⟨_,drop_eq_getElem_cons h4⟩
   obtain⟨rr,hrr⟩:=hxd
   have hyl:y∈l:=mem_of_mem_drop (by rw [hrr];exact mem_cons_self)
   have hck1:=Fg (n:=⟨1,l.take 4,[],[],[]⟩) rfl ⟨rfl,rfl,rfl,by show (l.take 4).length≤8;omega,fun y hy=>hok y (mem_of_mem_take hy),o1⟩
   have hck2:=Fg (n:=⟨1,l.drop 4,[],[],[]⟩) rfl ⟨rfl,rfl,rfl,by show (l.drop 4).length≤8;omega,fun y hy=>hok y (mem_of_mem_drop hy),o2⟩
   have hnd1:=F3 (Hb (N:=N2) (k1:=k1) (k2:=k2) ⟨1,l.take 4,[],[],[]⟩ ⟨1,l.drop 4,[],[],[]⟩ hne (by omega))
   have hnd2:=F3 (Gm (N:=N2) (k1:=k1) (k2:=k2) ⟨1,l.take 4,[],[],[]⟩ ⟨1,l.drop 4,[],[],[]⟩ (by omega))
   rw [append_nil]
   refine⟨D8 _ _ _ _ _,fun j h1 h2=>Gl N2 _ _ h1 h2,hc.put2 hck1 hck2,⟨k1,[k2],_,_,rfl,rfl,hin y hyl,⟨⟨?_,by rw [hnd1],by rw [hnd1];show 4≤(l.take 4).length;omega,?_⟩,rfl⟩,k2,_,rfl,rfl,⟨?_,by rw [hnd2],by rw [hnd2];show 4≤(l.drop 4).length;omega,?_⟩,rfl⟩,?_,⟨[],?_,by simp⟩,?_⟩
   · rw [DD,D8];exact r1
   · rw [hnd1]
     intro z hz
     exact Et.2 ⟨(DX.1 (hin z (mem_of_mem_take hz))).1,o3 z hz y (by rw [hrr];exact mem_cons_self)⟩
   · rw [DD,D8];exact r2
   · rw [hnd2]
     intro z hz
     refine Fm.2 ⟨?_,(DX.1 (hin z (mem_of_mem_drop hz))).2⟩
     have hz' : z∈y::rr:=by rw [← hrr];exact hz
     rw [hrr] at o2
     rcases mem_cons.1 hz' with rfl | hz'
     · rw [DC.refl];decide
     · have:cmpS (Dy y) (Dy z)<0:=(pairwise_cons.1 o2).1 z hz'
       omega
   · intro z hz
     rw [mem_singleton.1 hz];exact Jb (hok y hyl)
   · simp [ids]
   · rw [flatMap_cons,flatMap_singleton,e1,e2,← hl]
     show (nd _ _).elems++(nd _ _).elems=_
     rw [hnd1,hnd2];exact e48.symm
omit [Big F] in
theorem JQ {N:NL}(hc:Em N){h:Nat}{X:List DSpot}{s:Span}{Ks Ts:List Int}{x:DSpot}(hx:inS s x=true)(c:Ch (GW (fN N) h) X (loS s x) Ks Ts)(ho:X.Pairwise SpotO):∀ y∈X,SpotO x y:=by
 cases X with
 | nil=>intro y hy;cases hy
 | cons z X =>
  obtain⟨k,ks,t,ts,e1,e2,i1,i2,c'⟩:=c
  obtain⟨e,he⟩:=i2.1.some_elem hc
  have hs:=Et.1 ((i2.1.elems hc).2 e he).1
  have hz:cmpS x z<0:=GI (hs.1 rfl) hs.2
  intro y hy
  rcases mem_cons.1 hy with rfl | hy
  · exact hz
  · exact DC.lt_trans hz ((pairwise_cons.1 ho).1 y hy)
omit [Big F] in
theorem Kr {N2:NL}(hc:Em N2)(hl:N2.length≤400){h:Nat}{k1 k2:Int}{s:Span}{x:DSpot}(hx:inS s x=true)(hxo:DG (zE x)=0)(c1:DJ (fN N2) (h+1) k1 3 (hiS s x))(c2:DJ (fN N2) (h+1) k2 3 (loS s x))(hn:(ids (fN N2) (h+1) k1++ids (fN N2) (h+1) k2).Nodup)
 (hfew:((nd (fN N2) k1).kids.length+(nd (fN N2) k2).kids.length)≤12) :
 IJ N2 (h+1) k1 k2 s (nd (fN N2) k1) (nd (fN N2) k2) x:=by
 have L1:=c1.inner hc
 have L2:=c2.inner hc
 have r1:=c1.range
 have r2:=c2.range
 have hz:=Jw x (FG hc r1) (FG hc r2)
 rw [DD] at r1 r2
 obtain⟨_,hk1,hm1,ch1⟩:=c1
 obtain⟨_,hk2,hm2,ch2⟩:=c2
 have i1:ids (fN N2) (h+1) k1=k1.toNat::(nd (fN N2) k1).kids.flatMap (ids (fN N2) h):=rfl
 have i2:ids (fN N2) (h+1) k2=k2.toNat::(nd (fN N2) k2).kids.flatMap (ids (fN N2) h):=rfl
 have e1:Dx (fN N2) (h+1) k1=(nd (fN N2) k1).kids.flatMap (Dx (fN N2) h):=rfl
 have e2:Dx (fN N2) (h+1) k2=(nd (fN N2) k2).kids.flatMap (Dx (fN N2) h):=rfl
 generalize nd (fN N2) k1=n5 at *
 generalize nd (fN N2) k2=n6 at *
 rw [hk1,show ((2:Int) == 2)=true from rfl,cond_true] at hz
 have cc:=Ch.join hx ch1 ch2
 have hlens:=cc.lens
 have hord:(n5.seps++x::n6.seps).Pairwise SpotO:=by
  have q2:=JQ hc hx ch2 L2.ord
  refine pairwise_append.2 ⟨L1.ord,pairwise_cons.2 ⟨q2,L2.ord⟩,fun a ha b hb=>?_⟩
  have q1:cmpS a x<0:=(Et.1 (ch1.seps a ha)).2
  rcases mem_cons.1 hb with rfl | hb
  · exact q1
  · exact DC.lt_trans q1 (q2 b hb)
 have hxs : ∀ y∈n5.seps++x::n6.seps,DG (zE y)=0:=fun y hy=>by
  rcases mem_append.1 hy with hy | hy
  · exact L1.ok y hy
  · rcases mem_cons.1 hy with rfl | hy
    · exact hxo
    · exact L2.ok y hy
 have hin : ∀ y∈n5.seps++x::n6.seps,inS s y=true:=cc.seps
 have hK:(n5.kids++n6.kids).length=n5.kids.length+n6.kids.length:=length_append
 have t1:=L1.two
 have t2:=L2.two
 have hfl:(n5.kids++n6.kids).flatMap (ids (fN N2) h)=n5.kids.flatMap (ids (fN N2) h)++n6.kids.flatMap (ids (fN N2) h):=flatMap_append
 have hfe:(n5.kids++n6.kids).flatMap (Dx (fN N2) h)=n5.kids.flatMap (Dx (fN N2) h)++n6.kids.flatMap (Dx (fN N2) h):=flatMap_append
 rw [i1,i2] at hn
 have hn' : (k1.toNat::k2.toNat::(n5.kids++n6.kids).flatMap (ids (fN N2) h)).Nodup:=by
  refine(List.Perm.nodup_iff ?_).1 hn
  rw [hfl,cons_append]
  exact List.Perm.cons _ perm_middle
 obtain⟨n1,n2⟩:=nodup_cons.1 hn'
 obtain⟨n3,n4⟩:=nodup_cons.1 n2
 have hne:k1.toNat≠k2.toNat:=fun e=>n1 (by rw [e];exact mem_cons_self)
 refine⟨_,hz,?_⟩
 rw [L1.elems,L2.elems,hk1]
 generalize hKs:n5.kids++n6.kids=Ks at *
 generalize hXs:n5.seps++x::n6.seps=Xs at *
 generalize hTs:n5.tids++n6.tids=Ts at *
 have agree : ∀(a b:DNode),∀ q∈Ks.flatMap (ids (fN N2) h),(put2 N2 k1 k2 a b)[q]? = N2[q]?:=fun a b q hq=>Gl N2 a b (fun e=>n1 (by rw [← e];exact mem_cons_of_mem _ hq)) (fun e=>n3 (by rw [← e];exact hq))
 have hperm:(k1.toNat::n5.kids.flatMap (ids (fN N2) h)++k2.toNat::n6.kids.flatMap (ids (fN N2) h)).Perm (k2.toNat::k1.toNat::Ks.flatMap (ids (fN N2) h)):=by
  rw [hfl,cons_append]
  exact(List.Perm.cons _ perm_middle).trans (List.Perm.swap _ _ _)
 by_cases ht:Ks.length≤8
 · refine .inl ⟨by simp;omega,?_⟩
   have hck:=D1 (n:=⟨2,[],Ks,Xs,Ts⟩) rfl (EP hc hl cc (by omega) ht hord hxs)
   have hnd:=F3 (Hb (N:=N2) (k1:=k1) (k2:=k2) ⟨2,[],Ks,Xs,Ts⟩ zN hne (by omega))
   obtain⟨a1,a2,a3⟩:=En (N':=put2 N2 k1 k2 ⟨2,[],Ks,Xs,Ts⟩ zN) (by rw [D8];exact Nat.le_refl _) cc fun j hj=>agree _ _ j hj
   rw [append_nil]
   refine⟨D8 _ _ _ _ _,fun j h1 h2=>Gl N2 _ _ h1 h2,hc.put2 hck KD,⟨k1,_,rfl,rfl,⟨?_,by rw [hnd],by rw [hnd];show 4≤Ks.length;omega,by rw [hnd];exact a1⟩,rfl⟩,by simp,⟨[k2.toNat],?_,fun j hj=>?_⟩,?_⟩
   · rw [DD,D8];exact r1
   · rw [flatMap_singleton,i1,i2,ids,hnd]
     show List.Perm _ (k2.toNat::k1.toNat::Ks.flatMap _)
     rw [a2]
     exact hperm
   · rw [mem_singleton.1 hj];exact Gm _ _ (by omega)
   · rw [flatMap_singleton,e1,e2,Dx,hnd,← hfe]
     exact a3
 · refine .inr ⟨by simp;omega,?_⟩
   obtain⟨y,hy,hh⟩:=IW (ks:=Ks) (xs:=Xs) (ts:=Ts) (by omega) (by omega) hlens.1 hlens.2 []
   rw [append_nil]
   refine⟨y,_,_,_,_,_,_,_,_,_,hh,?_⟩
   have h3:3<Xs.length:=by omega
   have hspx:Xs[3]=y:=by rw [gge h3] at hy;exact Option.some.inj hy
   have eX:Xs=Xs.take 3++y::Xs.drop 4:=by rw [← hspx];exact FT Xs h3
   have eK:Ks=Ks.take 4++Ks.drop 4:=(take_append_drop 4 Ks).symm
   have eT:Ts=Ts.take 4++Ts.drop 4:=(take_append_drop 4 Ts).symm
   have l1:(Ks.take 4).length=4:=by rw [length_take];omega
   have l2:(Xs.take 3).length=3:=by rw [length_take];omega
   have l3:(Ts.take 4).length=4:=by rw [length_take];omega
   have l4:(Ks.drop 4).length=Ks.length-4:=by rw [length_drop]
   have c':=cc
   rw [eX,eK,eT] at c'
   have ho':=hord
   rw [eX] at ho'
   obtain⟨s1,s2,s3⟩:=Ch.split (by omega) (by omega) ho' c'
   obtain⟨o1,o2,o3⟩:=pairwise_append.1 ho'
   have hck1:=D1 (n:=⟨2,[],Ks.take 4,Xs.take 3,Ts.take 4⟩) rfl (EP hc hl s2 (by omega) (by omega) o1 fun x h=>hxs x (mem_of_mem_take h))
   have hck2:=D1 (n:=⟨2,[],Ks.drop 4,Xs.drop 4,Ts.drop 4⟩) rfl (EP hc hl s3 (by omega) (by omega) (pairwise_cons.1 o2).2 fun x h=>hxs x (mem_of_mem_drop h))
   have hnd1:=F3 (Hb (N:=N2) (k1:=k1) (k2:=k2) ⟨2,[],Ks.take 4,Xs.take 3,Ts.take 4⟩ ⟨2,[],Ks.drop 4,Xs.drop 4,Ts.drop 4⟩ hne (by omega))
   have hnd2:=F3 (Gm (N:=N2) (k1:=k1) (k2:=k2) ⟨2,[],Ks.take 4,Xs.take 3,Ts.take 4⟩ ⟨2,[],Ks.drop 4,Xs.drop 4,Ts.drop 4⟩ (by omega))
   have ag:=agree ⟨2,[],Ks.take 4,Xs.take 3,Ts.take 4⟩ ⟨2,[],Ks.drop 4,Xs.drop 4,Ts.drop 4⟩
   have hlen:=D8 N2 k1 k2 ⟨2,[],Ks.take 4,Xs.take 3,Ts.take 4⟩ ⟨2,[],Ks.drop 4,Xs.drop 4,Ts.drop 4⟩
   have hckL:Em (put2 N2 k1 k2 ⟨2,[],Ks.take 4,Xs.take 3,Ts.take 4⟩ ⟨2,[],Ks.drop 4,Xs.drop 4,Ts.drop 4⟩):=hc.put2 hck1 hck2
   have hget : ∀ j:Nat,j≠k1.toNat→j≠k2.toNat→(put2 N2 k1 k2 ⟨2,[],Ks.take 4,Xs.take 3,Ts.take 4⟩ ⟨2,[],Ks.drop 4,Xs.drop 4,Ts.drop 4⟩)[j]? = N2[j]?:=fun j h1 h2=>Gl N2 _ _ h1 h2
   generalize put2 N2 k1 k2 ⟨2,[],Ks.take 4,Xs.take 3,Ts.take 4⟩ ⟨2,[],Ks.drop 4,Xs.drop 4,Ts.drop 4⟩=N3 at *
   have sub1 : ∀ q∈(Ks.take 4).flatMap (ids (fN N2) h),q∈Ks.flatMap (ids (fN N2) h):=fun q hq=>by
    rw [eK,flatMap_append];exact mem_append_left _ hq
   have sub2 : ∀ q∈(Ks.drop 4).flatMap (ids (fN N2) h),q∈Ks.flatMap (ids (fN N2) h):=fun q hq=>by
    rw [eK,flatMap_append];exact mem_append_right _ hq
   obtain⟨a1,a2,a3⟩:=En (by omega) s2 fun q hq=>ag q (sub1 q hq)
   obtain⟨b1,b2,b3⟩:=En (by omega) s3 fun q hq=>ag q (sub2 q hq)
   refine⟨hlen,hget,hckL,⟨k1,[k2],_,_,rfl,rfl,s1,⟨⟨?_,by rw [hnd1],by rw [hnd1];show 4≤(Ks.take 4).length;omega,by rw [hnd1];exact a1⟩,rfl⟩,k2,_,rfl,rfl,⟨?_,by rw [hnd2],by rw [hnd2];show 4≤(Ks.drop 4).length;omega,by rw [hnd2];exact b1⟩,rfl⟩,?_,⟨[],?_,by simp⟩,?_⟩
   · rw [DD,hlen];exact r1
   · rw [DD,hlen];exact r2
   · intro z hz
     rw [mem_singleton.1 hz];exact hxs y (by rw [eX];simp)
   · rw [flatMap_cons,flatMap_singleton,i1,i2,ids,ids,hnd1,hnd2,List.nil_append]
     show List.Perm _ (k1.toNat::(Ks.take 4).flatMap _++k2.toNat::(Ks.drop 4).flatMap _)
     rw [a2,b2]
     refine hperm.trans ((List.Perm.swap _ _ _).trans ?_)
     rw [cons_append]
     refine List.Perm.cons _ ?_
     conv=>lhs;rw [eK,flatMap_append]
     exact perm_middle.symm
   · rw [flatMap_cons,flatMap_singleton,e1,e2,Dx,Dx,hnd1,hnd2,← hfe]
     show (Ks.take 4).flatMap _++(Ks.drop 4).flatMap _=_
     rw [a3,b3,← flatMap_append,← eK]
def KW (ns:List DNode)(h:Nat)(k:Int):Int→Int→Span→Prop:=fun a t s=>DJ ns h a 3 s∧(a≠k→GW ns h a t s)
structure EvenPost (N2 N3:NL) (h:Nat) (s:Span) (n:DNode) (K:List Int) (X:List DSpot) (T:List Int):Prop where
 len:N3.length=N2.length
 out : ∀ j:Nat,j ∉ n.kids.flatMap (ids (fN N2) h)→N3[j]? = N2[j]?
 chk:Em N3
 ch:Ch (GW (fN N3) h) X s K T
 more:n.kids.length≤K.length+1
 few:K.length≤n.kids.length
 ord:X.Pairwise SpotO
 ok : ∀ x∈X,DG (zE x)=0
 perm : ∃ Z,(n.kids.flatMap (ids (fN N2) h)).Perm (Z++K.flatMap (ids (fN N3) h))∧∀ j∈Z,N3[j]? = some (.inr zN)
 elems:K.flatMap (Dx (fN N3) h)=n.kids.flatMap (Dx (fN N2) h)
omit [Big F] in
theorem JA {α:Type}(l:List α){z:Nat}(h:z+1<l.length):∃ a b,l[z]? = some a∧l[z+1]? = some b∧l=l.take z++a::b::l.drop (z+2):=by
 refine⟨l[z],l[z+1],gge _,gge _,?_⟩
 have:=FT l (w:=z) (by omega)
 rw [drop_eq_getElem_cons h] at this
 exact this
omit [Big F] in
theorem Ly {N2 N3:NL}{h:Nat}{n:DNode}{s s' : Span}{k k1 k2:Int}{A B:List Int}{XA XB:List DSpot}{TA TB K:List Int}{X:List DSpot}{x:DSpot}
 (hkids:n.kids=A++k1::k2::B) (hseps:n.seps=XA++x::XB) (hk:k=k1∨k=k2) (hnd:(n.kids.flatMap (ids (fN N2) h)).Nodup) (ho:n.seps.Pairwise SpotO) (hxok : ∀ x∈n.seps,DG (zE x)=0)
 (loX : ∀ x∈XA,∀ y,inS s' y=true→cmpS x y≤0) (hiX : ∀ x∈XB,∀ y,inS s' y=true→cmpS y x<0)
 (wc : ∀ a,a∈A∨a∈B→∃ t s'',KW (fN N2) h k a t s'')
 (turn : ∀ Q:Int→Int→Span→Prop,(∀ a t s',a∈A∨a∈B→KW (fN N2) h k a t s'→Q a t s')→∀ M' XM' TM',Ch Q XM' s' M' TM'→Ch Q (XA++(XM'++XB)) s (A++(M'++B)) (TA++(TM'++TB)))
 (P:PairPost N2 N3 h k1 k2 s' K X) (hsh:(K=[k1]∧X=[])∨(K=[k1,k2]∧∃ y,X=[y])) :
 EvenPost N2 N3 h s n (A++(K++B)) (XA++(X++XB)) (TA++(K.map (fun k=>DE (nd (fN N3) k))++TB)):=by
 have hfl:n.kids.flatMap (ids (fN N2) h)=A.flatMap (ids (fN N2) h)++((ids (fN N2) h k1++ids (fN N2) h k2)++B.flatMap (ids (fN N2) h)):=by
  rw [hkids,flatMap_append,flatMap_cons,flatMap_cons,append_assoc]
 rw [hfl] at hnd
 obtain⟨n1,n2,n3⟩:=nodup_append.1 hnd
 obtain⟨n4,n5,n6⟩:=nodup_append.1 n2
 have dis : ∀ a,a∈A∨a∈B→∀ j∈ids (fN N2) h a,j ∉ ids (fN N2) h k1∧j ∉ ids (fN N2) h k2:=fun a ha j hj=>by
  rcases ha with ha | ha
  · have hjA:j∈A.flatMap (ids (fN N2) h):=mem_flatMap.2 ⟨a,ha,hj⟩
    exact⟨fun h=>n3 j hjA j (by simp [h]) rfl,fun h=>n3 j hjA j (by simp [h]) rfl⟩
  · have hjB:j∈B.flatMap (ids (fN N2) h):=mem_flatMap.2 ⟨a,ha,hj⟩
    exact⟨fun h=>n6 j (by simp [h]) j hjB rfl,fun h=>n6 j (by simp [h]) j hjB rfl⟩
 have hak : ∀ a,a∈A∨a∈B→a≠k:=fun a ha e=>by
  obtain⟨d1,d2⟩:=dis a ha a.toNat (DJ.head h a)
  rcases hk with rfl | rfl
  · exact d1 (by rw [← e];exact DJ.head h a)
  · exact d2 (by rw [← e];exact DJ.head h a)
 have agr : ∀ a,a∈A∨a∈B→∀ j∈ids (fN N2) h a,N3[j]? = N2[j]?:=fun a ha j hj=>by
  obtain⟨d1,d2⟩:=dis a ha j hj
  exact P.out j (fun e=>d1 (by rw [e];exact DJ.head h k1)) (fun e=>d2 (by rw [e];exact DJ.head h k2))
 have other : ∀ a,a∈A∨a∈B→∀ {m:Nat} {s:Span},DJ (fN N2) h a m s→_:=fun a ha m s c=>DJ.agree (N:=N2) (N':=N3) (by rw [P.len];exact Nat.le_refl _) c (agr a ha)
 have flat : ∀(l:List Int),(∀ a∈l,a∈A∨a∈B)→l.flatMap (ids (fN N3) h)=l.flatMap (ids (fN N2) h)∧l.flatMap (Dx (fN N3) h)=l.flatMap (Dx (fN N2) h):=fun l hl=>by
  constructor
  · exact EY fun a ha=>by obtain ⟨t',s'',x1⟩:=wc a (hl a ha);exact(other a (hl a ha) x1.1).2.1
  · exact DT fun a ha=>by obtain ⟨t',s'',x1⟩:=wc a (hl a ha);exact(other a (hl a ha) x1.1).2.2.1
 have hch:=turn (GW (fN N3) h) (fun a t s'' ha q=>by
  have c:=q.2 (hak a ha)
  exact⟨(other a ha c.1).1,by rw [(other a ha c.1).2.2.2];exact c.2⟩) K X _ P.ch
 have hKl:n.kids.length=A.length+2+B.length:=by rw [hkids];simp;omega
 rw [hseps] at ho
 obtain⟨p1,p2,p3⟩:=pairwise_append.1 ho
 obtain⟨p4,p5⟩:=pairwise_cons.1 p2
 refine⟨P.len,fun j hj=>?_,P.chk,hch,?_,?_,?_,fun y hy=>?_,?_,?_⟩
 · rw [hfl] at hj
   simp only [mem_append,not_or] at hj
   exact P.out j (fun e=>hj.2.1.1 (by rw [e];exact DJ.head h k1)) (fun e=>hj.2.1.2 (by rw [e];exact DJ.head h k2))
 · rcases hsh with ⟨rfl,_⟩ | ⟨rfl,_⟩ <;> simp <;> omega
 · rcases hsh with ⟨rfl,_⟩ | ⟨rfl,_⟩ <;> simp <;> omega
 · rcases hsh with ⟨_,rfl⟩ | ⟨rfl,y,rfl⟩
   · exact pairwise_append.2 ⟨p1,p5,fun a ha b hb=>p3 a ha b (mem_cons_of_mem _ hb)⟩
   · obtain⟨a1,al,t1,ts,e1,e2,i1,i2,c'⟩:=P.ch
     obtain⟨e,he⟩:=i2.1.some_elem P.chk
     have hs1:=((i2.1.elems P.chk).2 e he).1
     have hs2:=Et.1 hs1
     have hs3:=EF i1 hs1
     refine pairwise_append.2 ⟨p1,pairwise_cons.2 ⟨fun b hb=>hiX b hb y i1,p5⟩,fun a ha b hb=>?_⟩
     rcases mem_cons.1 hb with rfl | hb
     · exact GI (loX a ha _ hs3) hs2.2
     · exact p3 a ha b (mem_cons_of_mem _ hb)
 · rcases mem_append.1 hy with hy | hy
   · exact hxok y (by rw [hseps];exact mem_append_left _ hy)
   · rcases mem_append.1 hy with hy | hy
     · exact P.ok y hy
     · exact hxok y (by rw [hseps];simp [hy])
 · obtain⟨Z,hZ,hz⟩:=P.perm
   refine⟨Z,?_,hz⟩
   rw [hfl,flatMap_append,flatMap_append,(flat A fun a ha=>.inl ha).1,(flat B fun a ha=>.inr ha).1]
   refine((hZ.append_right _).append_left _).trans ?_
   rw [append_assoc]
   exact List.perm_append_comm_assoc _ _ _
 · rw [flatMap_append,flatMap_append,(flat A fun a ha=>.inl ha).2,(flat B fun a ha=>.inr ha).2,P.elems,hkids,flatMap_append,flatMap_cons,flatMap_cons,append_assoc]
omit [Big F] in
theorem Mb {α:Type}(A:List α)(x y:α)(B:List α):idx (A++x::y::B) ((A.length:Int)+1)=some y:=by
 rw [show ((A.length:Int)+1)=((A.length+1:Nat):Int) by omega,DA,List.getElem?_append_right (by omega)];simp
omit [Big F] in
theorem IP {α:Type}{l:List α}{i j:Nat}(h1:i<j)(h2:j≤l.length):CG l (i:Int) (j:Int)=some (xf l i j):=by
 unfold CG
 rw [if_pos ⟨by omega,by omega,by omega⟩,Int.toNat_natCast,Int.toNat_natCast]
omit [Big F] in
theorem KI {α:Type}(A:List α)(x y:α)(B:List α):xf (A++x::y::B) (A.length+1) (A.length+2)=A++x::B:=by
 unfold xf
 rw [show A++x::y::B=(A++[x])++y::B by simp,take_left' (by simp),show (A++[x])++y::B=(A++[x,y])++B by simp,drop_left' (by simp)]
 simp
omit [Big F] in
theorem L8 {α:Type}(A:List α)(x:α)(B:List α):xf (A++x::B) A.length (A.length+1)=A++B:=by
 unfold xf
 rw [take_left' rfl,show A++x::B=(A++[x])++B by simp,drop_left' (by simp)]
omit [Big F] in
theorem Mr {α:Type}(A:List α)(x y z:α)(B:List α):(A++x::y::B).set (A.length+1) z=A++x::z::B:=by
 rw [List.set_append_right _ _ (by omega)];simp
theorem L9 {N2:NL}(hc:Em N2)(hl:N2.length≤400){h:Nat}{n:DNode}{r10 r11:Int}{s:Span}{k:Int}{z:Nat}{tids' : List Int}
 (ht:n.tids.set r10.toNat r11=tids') (hz:z+1<n.kids.length) (h8:n.kids.length≤8) (hs:n.seps.length+1=n.kids.length) (htl:tids'.length=n.kids.length)
 (hk:n.kids[z]? = some k∨n.kids[z+1]? = some k) (hzz:(bif (r10 == (i64.wrap ((n.kids.length:Int)-1))) then some (i64.wrap (r10-1)) else some r10:Option Int)=some (z:Int))
 (ho:n.seps.Pairwise SpotO) (hxok : ∀ x∈n.seps,DG (zE x)=0) (wc:Ch (KW (fN N2) h k) n.seps s n.kids tids') (hnd:(n.kids.flatMap (ids (fN N2) h)).Nodup)
 (hlow:(nd (fN N2) k).elems.length+(nd (fN N2) k).kids.length<4) :
 ∃ K X T N3,Jr F n r10 r11 N2=some (K,X,T,N3)∧EvenPost N2 N3 h s n K X T:=by
 obtain⟨k1,k2,hk1,hk2,eK⟩:=JA n.kids hz
 obtain⟨t1,t2,ht1,ht2,eT⟩:=JA tids' (z:=z) (by omega)
 obtain⟨x,eX⟩ : ∃ x,n.seps=n.seps.take z++x::n.seps.drop (z+1):=⟨_,FT n.seps (w:=z) (by omega)⟩
 have lA:(n.kids.take z).length=z:=by rw [length_take];omega
 have lX:(n.seps.take z).length=z:=by rw [length_take];omega
 have lT:(tids'.take z).length=z:=by rw [length_take];omega
 have lB:(n.kids.drop (z+2)).length=n.kids.length-(z+2):=length_drop
 have lXB:(n.seps.drop (z+1)).length=n.seps.length-(z+1):=length_drop
 have lTB:(tids'.drop (z+2)).length=tids'.length-(z+2):=length_drop
 generalize n.kids.take z=A at *
 generalize n.kids.drop (z+2)=B at *
 generalize n.seps.take z=XA at *
 generalize n.seps.drop (z+1)=XB at *
 generalize tids'.take z=TA at *
 generalize tids'.drop (z+2)=TB at *
 have hkk:k=k1∨k=k2:=by
  rcases hk with h | h
  · rw [hk1] at h;exact .inl (Option.some.inj h).symm
  · rw [hk2] at h;exact .inr (Option.some.inj h).symm
 have wc':=wc
 rw [eK,eX,eT] at wc'
 have ho':=ho
 rw [eX] at ho'
 obtain⟨s',i1,i2,i3,i4,i5,i6⟩:=Ch.focus (XA:=XA) (XM:=[x]) (XB:=XB) (A:=A) (M:=[k1,k2]) (B:=B) (TA:=TA) (TM:=[t1,t2]) (TB:=TB) (by omega) (by omega) rfl rfl (by omega) (by omega) ho' wc'
 obtain⟨k1',ks',t1',ts',e1,e2,hx,p1,k2',t2',e3,e4,p2⟩:=i1
 obtain⟨rfl,rfl⟩ : k1=k1'∧[k2]=ks':=by simpa using e1
 obtain rfl:k2=k2':=by simpa using e3
 have hfl:n.kids.flatMap (ids (fN N2) h)=A.flatMap (ids (fN N2) h)++((ids (fN N2) h k1++ids (fN N2) h k2)++B.flatMap (ids (fN N2) h)):=by
  rw [eK,flatMap_append,flatMap_cons,flatMap_cons,append_assoc]
 have hn12:(ids (fN N2) h k1++ids (fN N2) h k2).Nodup:=by
  rw [hfl] at hnd
  exact(nodup_append.1 (nodup_append.1 hnd).2.1).1
 have hne:k1.toNat≠k2.toNat:=fun e=>(nodup_append.1 hn12).2.2 _ (DJ.head h k1) _ (DJ.head h k2) e
 have b1:=ES (FG hc p1.1.range)
 have b2:=ES (FG hc p2.1.range)
 have b3:(nd (fN N2) k1).elems.length+(nd (fN N2) k2).elems.length≤12∧(nd (fN N2) k1).kids.length+(nd (fN N2) k2).kids.length≤12:=by
  rcases hkk with rfl | rfl <;> omega
 have hpo:IJ N2 h k1 k2 s' (nd (fN N2) k1) (nd (fN N2) k2) x:=by
  cases h with
  | zero=>exact Ld hc hx hne p1.1 p2.1 b3.1
  | succ h=>exact Kr hc hl hx (hxok x (by rw [eX];simp)) p1.1 p2.1 hn12 b3.2
 obtain⟨z22,hz22,hpair⟩:=hpo
 have r1:=p1.1.range
 have r2:=p2.1.range
 rw [DD] at r1 r2
 have wcm : ∀ a,a∈A∨a∈B→∃ t s'',KW (fN N2) h k a t s'':=fun a ha=>by
  obtain⟨t,s'',q,_⟩:=wc.mem a (by
   rw [eK]
   rcases ha with ha | ha
   · exact mem_append_left _ ha
   · simp [ha])
  exact⟨t,s'',q⟩
 have fin:=fun {N3:NL} {K:List Int} {X:List DSpot} (P:PairPost N2 N3 h k1 k2 s' K X) hsh=>Ly (TA:=TA) (TB:=TB) eK eX hkk hnd ho hxok i3 i4 wcm i6 P hsh
 have hi1:idx n.kids (z:Int)=some k1:=by rw [DA];exact hk1
 have hi2:idx n.kids ((z:Int)+1)=some k2:=by rw [show ((z:Int)+1)=((z+1:Nat):Int) by omega,DA];exact hk2
 have hi3:idx n.seps (z:Int)=some x:=by
  have:=EC XA x XB
  rwa [lX,← eX] at this
 have hd1:CG n.kids ((z:Int)+1) ((z:Int)+2)=some (A++k1::B):=by
  have:=IP (l:=n.kids) (i:=z+1) (j:=z+2) (by omega) (by omega)
  rw [show ((z+1:Nat):Int)=(z:Int)+1 by omega,show ((z+2:Nat):Int)=(z:Int)+2 by omega] at this
  rw [this,eK]
  have:=KI A k1 k2 B
  rw [lA] at this;rw [this]
 have hd2:CG n.seps (z:Int) ((z:Int)+1)=some (XA++XB):=by
  have:=IP (l:=n.seps) (i:=z) (j:=z+1) (by omega) (by omega)
  rw [show ((z+1:Nat):Int)=(z:Int)+1 by omega] at this
  rw [this,eX]
  have:=L8 XA x XB
  rw [lX] at this;rw [this]
 have hd3:CG tids' ((z:Int)+1) ((z:Int)+2)=some (TA++t1::TB):=by
  have:=IP (l:=tids') (i:=z+1) (j:=z+2) (by omega) (by omega)
  rw [show ((z+1:Nat):Int)=(z:Int)+1 by omega,show ((z+2:Nat):Int)=(z:Int)+2 by omega] at this
  rw [this,eT]
  have:=KI TA t1 t2 TB
  rw [lT] at this;rw [this]
 obtain⟨_,_,_,_,j1⟩:=Ac hd1
 obtain⟨_,_,_,_,j2⟩:=Ac hd2
 obtain⟨_,_,_,_,j3⟩:=Ac hd3
 have hset : ∀(l:List Int) (a b:Int),(TA++a::l).set z b=TA++b::l:=fun l a b=>by
  have:=FC TA a b l
  rwa [lT] at this
 unfold Jr
 rw [hzz,obs,hi1,obs,w64 (n:=(z:Int)+1) (by omega) (by omega),hi2,obs,p1.1.node.1,obs,Kk (Ne.symm hne),p2.1.node.1,obs,hi3,obs,hz22,obs]
 unfold Mv
 rw [ht]
 generalize nd (fN N2) k1=n5 at *
 generalize nd (fN N2) k2=n6 at *
 rw [w64 (n:=((n5.elems++n6.elems).length:Int)+((n5.kids++n6.kids).length:Int)) (by omega) (by simp only [length_append];omega),w64 (n:=(z:Int)+1) (by omega) (by omega)]
 rcases hpair with ⟨hle,P⟩ | ⟨hgt,y,q1,q2,q3,q4,l1,l2,l3,l4,kd,hh,P⟩
 · obtain⟨a1,u1,e5,e6,c1⟩:=P.ch
   obtain rfl:k1=a1:=by simpa using e5
   have hnode:=c1.1.node.1
   have hgr:=D9 (F:=F) P.chk c1.1.range
   have hE:=fin P (.inl ⟨rfl,rfl⟩)
   refine⟨_,_,_,_,?_,hE⟩
   rw [decide_eq_false (by omega),cond_false,FE (by rw [Dz];exact r1),obs,FE (by rw [DB,Dz];exact r2),obs,w64 (n:=(z:Int)+2) (by omega) (by omega),hd1,obs,hd2,obs,hd3,obs,obs]
   dsimp only
   rw [j1,j2,j3]
   refine Eq.trans (congrArg (fun q=>Option.bind q _) hnode) ?_
   rw [obs,hgr,obs]
   have hm:=EC TA t1 TB
   rw [lT] at hm
   rw [hm,obs,Int.toNat_natCast,hset]
   rfl
 · obtain⟨a1,al,u1,us,e5,e6,i7,c1,a2,u2,e7,e8,c2⟩:=P.ch
   obtain⟨rfl,rfl⟩ : k1=a1∧[k2]=al:=by simpa using e5
   obtain rfl:k2=a2:=by simpa using e7
   have hnode:=c1.1.node.1
   have hgr:=D9 (F:=F) P.chk c1.1.range
   have hgr2:=D9 (F:=F) P.chk c2.1.range
   have hnd2:=F3 (Gm (N:=N2) (k1:=k1) (k2:=k2) ⟨n5.kind,l1,l2,l3,l4⟩ ⟨kd,q4,q3,q2,q1⟩ (by omega))
   have hgr3:wy F ⟨kd,q4,q3,q2,q1⟩=some (DE (nd (fN (put2 N2 k1 k2 ⟨n5.kind,l1,l2,l3,l4⟩ ⟨kd,q4,q3,q2,q1⟩)) k2)):=by
    rw [← hgr2,hnd2]
   have hE:=fin P (.inr ⟨rfl,y,rfl⟩)
   refine⟨_,_,_,_,?_,hE⟩
   rw [decide_eq_true (by omega),cond_true,hh,obs]
   dsimp only
   rw [FE (by rw [Dz];exact r1),obs,FE (by rw [DB,Dz];exact r2),obs,hi3,obs,hgr3,obs]
   have hm:=Mb TA t1 t2 TB
   rw [lT,← eT] at hm
   rw [hm,obs,obs]
   dsimp only
   refine Eq.trans (congrArg (fun q=>Option.bind q _) hnode) ?_
   rw [obs,hgr,obs]
   have hst:=Mr TA t1 t2 (DE (nd (fN (put2 N2 k1 k2 ⟨n5.kind,l1,l2,l3,l4⟩ ⟨kd,q4,q3,q2,q1⟩)) k2)) TB
   rw [lT,← eT] at hst
   have hm2:=EC TA t1 (DE (nd (fN (put2 N2 k1 k2 ⟨n5.kind,l1,l2,l3,l4⟩ ⟨kd,q4,q3,q2,q1⟩)) k2)::TB)
   rw [lT] at hm2
   have hsx:n.seps.set z y=XA++y::XB:=by
    have:=FC XA x y XB
    rw [lX,← eX] at this;exact this
   rw [show ((z:Int)+1).toNat=z+1 by omega,hst,hm2,obs,Int.toNat_natCast,hset,Ja,hsx,eK]
   rfl
structure RemPost (sp:DSpot) (N N' : NL) (h:Nat) (i:Int) (s:Span) (m:Nat):Prop where
 len:N'.length=N.length
 out : ∀ j:Nat,j ∉ ids (fN N) h i→N'[j]? = N[j]?
 chk:Em N'
 sub:DJ (fN N') h i (m-1) s
 perm : ∃ Z,(ids (fN N) h i).Perm (Z++ids (fN N') h i)∧∀ j∈Z,N'[j]? = some (.inr zN)
 elems:Dx (fN N') h i=(Dx (fN N) h i).filter (Fj sp)
structure RemMid (sp:DSpot) (N N3:NL) (h:Nat) (i:Int) (s:Span) (n:DNode) (K:List Int) (X:List DSpot) (T:List Int):Prop where
 len:N3.length=N.length
 hole:N3[i.toNat]? = (wt N i)[i.toNat]?
 out : ∀ j:Nat,j ∉ ids (fN N) (h+1) i→N3[j]? = N[j]?
 chk:Em N3
 ch:Ch (GW (fN N3) h) X s K T
 more:n.kids.length≤K.length+1
 few:K.length≤n.kids.length
 ord:X.Pairwise SpotO
 ok : ∀ x∈X,DG (zE x)=0
 perm : ∃ Z,(n.kids.flatMap (ids (fN N) h)).Perm (Z++K.flatMap (ids (fN N3) h))∧∀ j∈Z,N3[j]? = some (.inr zN)
 elems:K.flatMap (Dx (fN N3) h)=(n.kids.flatMap (Dx (fN N) h)).filter (Fj sp)
def Ln (F:Nat)(sp:DSpot)(h:Nat):Prop:=∀(mf:Nat) (N:NL) (i:Int) (m:Nat) (s:Span),h<mf→Em N→N.length≤400→(h=0∨3≤m)→DJ (fN N) h i m s→(ids (fN N) h i).Nodup→inS s sp=true →
 ∃ N',Ae (Id F sp) mf (N,i)=some N'∧RemPost sp N N' h i s m
omit [Big F] in
theorem G8 {sp:DSpot}{l:List DElem}(h : ∀ x∈l,Dy x≠sp):l.filter (Fj sp)=l:=List.filter_eq_self.2 fun x hx=>by unfold Fj;simpa using h x hx
theorem LT (sp:DSpot):Ln F sp 0:=by
 intro mf N i m s hm hc hl _ c hn hs
 obtain⟨mf,rfl⟩ : ∃ q,mf=q+1:=⟨mf-1,by omega⟩
 have L:=c.leaf hc
 have hr:=c.range
 rw [DD] at hr
 obtain⟨hnode,hat⟩:=c.node
 obtain⟨_,hk1,hmk,hin⟩:=c
 have hel:Dx (fN N) 0 i=(nd (fN N) i).elems:=rfl
 generalize nd (fN N) i=n at *
 have hlen:n.elems.length≤(n.elems.filter (Fj sp)).length+1:=by
  have key : ∀ l:List DElem,l.Pairwise SpO→l.length≤(l.filter (Fj sp)).length+1:=by
   intro l
   induction l with
   | nil=>intro _;simp
   | cons a l ih =>
    intro ho
    rw [pairwise_cons] at ho
    by_cases h:Dy a=sp
    · have : l.filter (Fj sp) = l := G8 fun x hx e => by
       have:=ho.1 x hx
       unfold SpO at this
       rw [h,e,DC.refl] at this
       omega
      rw [List.filter_cons]
      split <;> rw [this] <;> simp
    · have:=ih ho.2
      rw [List.filter_cons,if_pos (by unfold Fj;simpa using h)]
      simpa using this
  exact key _ L.ord
 obtain⟨n',hn'⟩ : ∃ n' : DNode,n' = ⟨1,n.elems.filter (Fj sp),[],[],[]⟩:=⟨_,rfl⟩
 have hck:DS n' = 0:=by
  rw [hn']
  exact Fg rfl ⟨rfl,rfl,rfl,by have:=List.length_filter_le (Fj sp) n.elems;have:=L.len;show (n.elems.filter (Fj sp)).length≤8;omega,fun x hx=>L.ok x ((List.mem_filter.1 hx).1),L.ord.filter _⟩
 have hnd:nd (fN (v0 (wt N i) i n')) i=n':=Hk (by rw [Dz];exact hr)
 refine⟨v0 (wt N i) i n',?_,⟨by rw [DB,Dz],fun j hj=>?_,(hc.out i).put hck,⟨?_,by rw [hnd,hn'],?_,?_⟩,⟨[],?_,by simp⟩,?_⟩⟩
 · show Id F sp (Ae (Id F sp) mf) (N,i)=_
   unfold Id
   dsimp only
   rw [hnode,obs,hk1,show ((1:Int) == 1)=true from rfl,cond_true,L7 _ _ (by have:=L.len;omega),obs,FE (by rw [Dz];exact hr),obs,L.kids,L.seps,L.tids,hn']
 · have hji:j≠i.toNat:=by simpa [ids] using hj
   rw [DI _ hji,DQ _ hji]
 · rw [DD,DB,Dz];exact hr
 · rw [hnd,hn'];show m-1≤(n.elems.filter (Fj sp)).length;omega
 · rw [hnd,hn']
   intro x hx
   exact hin x ((List.mem_filter.1 hx).1)
 · simp [ids]
 · rw [hel]
   show (nd _ i).elems=_
   rw [hnd,hn']
omit [Big F] in
theorem DJ.count {ns:List DNode}(hns : ∀ n∈ns,DS n=0){h:Nat}{i:Int}{m m' : Nat}{s:Span}(c:DJ ns h i m s)(hm:m'≤(nd ns i).elems.length+(nd ns i).kids.length):DJ ns h i m' s:=by
 cases h with
 | zero =>
  have L:=c.leaf hns
  rw [L.kids] at hm
  exact⟨c.1,c.2.1,by simpa using hm,c.2.2.2⟩
 | succ h =>
  have L:=c.inner hns
  rw [L.elems] at hm
  exact⟨c.1,c.2.1,by simpa using hm,c.2.2.2⟩
theorem KS {sp:DSpot}{h:Nat}(ih:Ln F sp h){mf:Nat}{N:NL}{i:Int}{m:Nat}{s:Span}(hm:h<mf)(hc:Em N)(hl:N.length≤400)(c:DJ (fN N) (h+1) i m s)(hn:(ids (fN N) (h+1) i).Nodup)(hs:inS s sp=true) :
 ∃ N3 K X T,Ae (Id F sp) (mf+1) (N,i)=some (v0 N3 i ⟨2,[],K,X,T⟩)∧RemMid sp N N3 h i s (nd (fN N) i) K X T:=by
 have L:=c.inner hc
 have hr:=c.range
 rw [DD] at hr
 obtain⟨hnode,hat⟩:=c.node
 have hus:=c.used
 obtain⟨_,hk2,hmk,hch⟩:=c
 obtain⟨A,k,B,XA,XB,TA,t,TB,s',f⟩:=J8 L.seps L.tids L.ord hch hs
 have hids:ids (fN N) (h+1) i=i.toNat::(nd (fN N) i).kids.flatMap (ids (fN N) h):=rfl
 generalize hnn:nd (fN N) i=n at *
 have hflN:n.kids.flatMap (ids (fN N) h)=A.flatMap (ids (fN N) h)++(ids (fN N) h k++B.flatMap (ids (fN N) h)):=by rw [f.kids,flatMap_append,flatMap_cons]
 have hn0:=hn
 rw [hids] at hn0
 rw [ids,hnn,f.kids] at hn
 obtain⟨d1,d2,d3⟩:=Gi hn
 have hN1 : ∀ j∈ids (fN N) h k,(wt N i)[j]? = N[j]?:=fun j hj=>DQ N (fun e=>d1 (e▸hj))
 obtain⟨q1,q2,q3,q4⟩:=DJ.agree (N':=wt N i) (by rw [Dz];exact Nat.le_refl _) f.here.1 hN1
 obtain⟨N2,hrun,P2⟩:=ih mf (wt N i) k 4 s' hm (hc.out i) (by rw [Dz];exact hl) (.inr (by omega)) q1 (by rw [q2];exact d2) f.in_
 have hlen2:N2.length=N.length:=by rw [P2.len,Dz]
 obtain⟨Z2,hZ2,hz2⟩:=P2.perm
 rw [q2] at hZ2
 have hout2 : ∀ j:Nat,j≠i.toNat→j ∉ ids (fN N) h k→N2[j]? = N[j]?:=fun j h1 h2=>by rw [P2.out j (by rw [q2];exact h2),DQ N h1]
 have other : ∀ a,a∈A∨a∈B→∀ {m:Nat} {s:Span},DJ (fN N) h a m s→_:=fun a ha m s c=>DJ.agree (N:=N) (N':=N2) (by rw [hlen2];exact Nat.le_refl _) c fun j hj=>by
  obtain⟨x1,x2⟩:=d3 a ha
  exact hout2 j (fun e=>x1 (e▸hj)) (x2 j hj)
 have hkids : ∀ a,a∈A∨a∈B→∃ t' s'',DJ (fN N) h a 4 s''∧(∀ x∈Dx (fN N) h a,Dy x≠sp):=fun a ha=>by
  rcases ha with ha | ha
  · obtain⟨t',s'',x1,x2⟩:=f.lo a ha
    exact⟨t',s'',x1.1,fun x hx e=>by have:=x2 _ ((x1.1.elems hc).2 x hx).1;rw [e,DC.refl] at this;omega⟩
  · obtain⟨t',s'',x1,x2⟩:=f.hi a ha
    exact⟨t',s'',x1.1,fun x hx e=>by have:=x2 _ ((x1.1.elems hc).2 x hx).1;rw [e,DC.refl] at this;omega⟩
 have flat : ∀(l:List Int),(∀ a∈l,a∈A∨a∈B)→l.flatMap (ids (fN N2) h)=l.flatMap (ids (fN N) h) ∧
  l.flatMap (Dx (fN N2) h)=(l.flatMap (Dx (fN N) h)).filter (Fj sp):=fun l hl=>by
  constructor
  · exact EY fun a ha=>by obtain ⟨t',s'',x1,_⟩:=hkids a (hl a ha);exact(other a (hl a ha) x1).2.1
  · rw [List.filter_flatMap]
    exact DT fun a ha=>by obtain ⟨t',s'',x1,x2⟩:=hkids a (hl a ha);rw [(other a (hl a ha) x1).2.2.1];exact(G8 x2).symm
 have hfl2:n.kids.flatMap (ids (fN N2) h)=A.flatMap (ids (fN N) h)++(ids (fN N2) h k++B.flatMap (ids (fN N) h)):=by
  rw [f.kids,flatMap_append,flatMap_cons,(flat A fun a ha=>.inl ha).1,(flat B fun a ha=>.inr ha).1]
 have hperm:(n.kids.flatMap (ids (fN N) h)).Perm (Z2++n.kids.flatMap (ids (fN N2) h)):=by
  rw [hflN,hfl2]
  refine((hZ2.append_right _).append_left _).trans ?_
  rw [append_assoc]
  exact List.perm_append_comm_assoc _ _ _
 obtain⟨n1,n2⟩:=nodup_cons.1 hn0
 have hnp:=hperm.nodup_iff.1 n2
 obtain⟨m1,m2,m3⟩:=nodup_append.1 hnp
 have hsub : ∀ j∈n.kids.flatMap (ids (fN N2) h),j∈n.kids.flatMap (ids (fN N) h):=fun j hj=>hperm.mem_iff.2 (mem_append_right _ hj)
 have hi2:i.toNat ∉ n.kids.flatMap (ids (fN N2) h):=fun hj=>n1 (hsub _ hj)
 have hw:ET n.seps sp=A.length:=f.way
 have hta:=f.ta
 have hxa:=f.xa
 have htb:=f.tb
 have hxb:=f.xb
 have hkl:n.kids.length=A.length+B.length+1:=by rw [f.kids];simp;omega
 have h8:=L.eight
 have h2:=L.two
 have hsl:=L.seps
 have htl:=L.tids
 obtain⟨g,hg⟩ : ∃ g,g=DE (nd (fN N2) k):=⟨_,rfl⟩
 have htids:n.tids.set A.length g=TA++g::TB:=by rw [f.tids,← hta,FC]
 have hgr:=D9 (F:=F) P2.chk P2.sub.range
 have hE : ∃ K X T N3,ML F n (nd (fN N2) k) (A.length:Int) g N2=some (K,X,T,N3)∧EvenPost N2 N3 h s n K X T:=by
  obtain⟨b1,b2⟩:=ES (FG P2.chk P2.sub.range)
  unfold ML
  rw [w64 (by omega) (by omega),Int.toNat_natCast,htids]
  by_cases hlow:(nd (fN N2) k).elems.length+(nd (fN N2) k).kids.length<4
  · have wc:=f.turn (KW (fN N2) h k) (fun a t' s'' ha x=>⟨((other a ha x.1).1).weak (by omega),fun _=>⟨(other a ha x.1).1,by rw [(other a ha x.1).2.2.2];exact x.2⟩⟩) [k] [] [g] ⟨k,_,rfl,rfl,⟨P2.sub,fun hne=>absurd rfl hne⟩⟩
    have wc' : Ch (KW (fN N2) h k) n.seps s n.kids (TA++g::TB):=by rw [f.seps,f.kids];simpa using wc
    have hev : ∀ z:Nat,z+1<n.kids.length→(n.kids[z]? = some k∨n.kids[z+1]? = some k)→(bif ((A.length:Int) == (i64.wrap ((n.kids.length:Int)-1))) then some (i64.wrap ((A.length:Int)-1)) else some (A.length:Int):Option Int)=some (z:Int) →
     ∃ K X T N3,Jr F n (A.length:Int) g N2=some (K,X,T,N3)∧EvenPost N2 N3 h s n K X T:=fun z z1 z2 z3 =>
     L9 P2.chk (by omega) (by rw [Int.toNat_natCast];exact htids) z1 h8 hsl (by simp;omega) z2 z3 L.ord L.ok wc' m2 hlow
    have hAk:n.kids[A.length]? = some k:=by rw [f.kids,List.getElem?_append_right (Nat.le_refl _)];simp
    obtain⟨K,X,T,N3,e1,e2⟩ : ∃ K X T N3,Jr F n (A.length:Int) g N2=some (K,X,T,N3)∧EvenPost N2 N3 h s n K X T:=by
     by_cases hB:B.length=0
     · refine hev (A.length-1) (by omega) (.inr (by rw [show A.length-1+1=A.length by omega];exact hAk)) ?_
       rw [w64 (by omega) (by omega),show ((A.length:Int) == (n.kids.length:Int)-1)=true by rw [beq_iff_eq];omega,cond_true,w64 (by omega) (by omega)]
       congr 1;omega
     · refine hev A.length (by omega) (.inl hAk) ?_
       rw [w64 (by omega) (by omega),show ((A.length:Int) == (n.kids.length:Int)-1)=false by rw [beq_eq_false_iff_ne];omega,cond_false]
    refine⟨K,X,T,N3,?_,e2⟩
    rw [decide_eq_true (by omega),cond_true,e1,obs]
  · have hsub4:DJ (fN N2) h k 4 s':=P2.sub.count P2.chk (by omega)
    have cc:=f.turn (GW (fN N2) h) (fun a t' s'' ha x=>⟨(other a ha x.1).1,by rw [(other a ha x.1).2.2.2];exact x.2⟩) [k] [] [g] ⟨k,_,rfl,rfl,⟨hsub4,hg.symm⟩⟩
    refine⟨n.kids,n.seps,TA++g::TB,N2,?_,⟨rfl,fun _ _=>rfl,P2.chk,by rw [f.seps,f.kids];simpa using cc,by omega,Nat.le_refl _,L.ord,L.ok,⟨[],by simp,by simp⟩,rfl⟩⟩
    rw [decide_eq_false (by omega),cond_false]
 obtain⟨K,X,T,N3,hM,E⟩:=hE
 have hlen3:N3.length=N.length:=by rw [E.len,hlen2]
 refine⟨N3,K,X,T,?_,⟨hlen3,?_,fun j hj=>?_,E.chk,E.ch,E.more,E.few,E.ord,E.ok,?_,?_⟩⟩
 · show Id F sp (Ae (Id F sp) mf) (N,i)=_
   generalize Ae (Id F sp) mf=rf at hrun
   have hix:idx n.kids (A.length:Int)=some k:=by rw [f.kids];exact EC _ _ _
   have hit:idx n.tids (A.length:Int)=some t:=by rw [f.tids,← hta];exact EC _ _ _
   unfold Id
   dsimp only
   rw [hnode,obs,hk2,show ((2:Int) == 1)=false from rfl,cond_false,EL n _ (Ex (D1 hk2 L)),obs,hw,hix,obs,hrun,obs,obs,P2.sub.node.1,obs,hgr,obs,hit,obs,← hg,hM,obs]
   dsimp only
   rw [FE (by rw [hlen3];exact hr),obs,L.elems]
 · rw [E.out _ hi2,P2.out _ (by rw [q2];exact d1)]
 · rw [hids,mem_cons,not_or] at hj
   rw [E.out j (fun hh=>hj.2 (hsub j hh)),hout2 j hj.1 (fun hh=>hj.2 (by rw [hflN];simp [hh]))]
 · obtain⟨Z3,hZ3,hz3⟩:=E.perm
   refine⟨Z2++Z3,?_,fun j hj=>?_⟩
   · rw [append_assoc]
     exact hperm.trans (hZ3.append_left _)
   · rcases mem_append.1 hj with hj | hj
     · rw [E.out j (fun hh=>m3 j hj j hh rfl)];exact hz2 j hj
     · exact hz3 j hj
 · rw [E.elems,f.kids,flatMap_append,flatMap_cons,flatMap_append,flatMap_cons,List.filter_append,List.filter_append,(flat A fun a ha=>.inl ha).2,(flat B fun a ha=>.inr ha).2,P2.elems,q3]
theorem KT {sp:DSpot}{N N3:NL}{h:Nat}{i:Int}{s:Span}{m:Nat}{K:List Int}{X:List DSpot}{T:List Int}(hl:N.length≤400)(c:DJ (fN N) (h+1) i m s)(hc:Em N)(hn:(ids (fN N) (h+1) i).Nodup)(M:RemMid sp N N3 h i s (nd (fN N) i) K X T)(h2:2≤K.length) :
 RemPost sp N (v0 N3 i ⟨2,[],K,X,T⟩) (h+1) i s m:=by
 have L:=c.inner hc
 have hr:=c.range
 rw [DD] at hr
 have hmk:=c.2.2.1
 have hids:ids (fN N) (h+1) i=i.toNat::(nd (fN N) i).kids.flatMap (ids (fN N) h):=rfl
 have hels:Dx (fN N) (h+1) i=(nd (fN N) i).kids.flatMap (Dx (fN N) h):=rfl
 obtain⟨Z,hZ,hz⟩:=M.perm
 have hmore:=M.more
 have hfew:=M.few
 rw [hids] at hn
 obtain⟨n1,n2⟩:=nodup_cons.1 hn
 have hik:i.toNat ∉ K.flatMap (ids (fN N3) h):=fun hh=>n1 (hZ.mem_iff.2 (mem_append_right _ hh))
 have hck:=D1 (n:=⟨2,[],K,X,T⟩) rfl (EP M.chk (by rw [M.len];exact hl) M.ch h2 (by have:=L.eight;omega) M.ord M.ok)
 have hnd:nd (fN (v0 N3 i ⟨2,[],K,X,T⟩)) i=⟨2,[],K,X,T⟩:=Hk (by rw [M.len];exact hr)
 obtain⟨a1,a2,a3⟩:=En (N':=v0 N3 i ⟨2,[],K,X,T⟩) (by rw [DB];exact Nat.le_refl _) M.ch fun j hj=>DI N3 (show j≠i.toNat from fun h=>hik (by rw [← h];exact hj))
 refine⟨by rw [DB,M.len],fun j hj=>?_,M.chk.put hck,⟨?_,by rw [hnd],by rw [hnd];show m-1≤K.length;omega,by rw [hnd];exact a1⟩,⟨Z,?_,fun j hj=>?_⟩,?_⟩
 · have:=M.out j hj
   rw [hids,mem_cons,not_or] at hj
   rw [DI N3 hj.1,this]
 · rw [DD,DB,M.len];exact hr
 · rw [hids,ids,hnd]
   show List.Perm _ (Z++i.toNat::K.flatMap _)
   rw [a2]
   exact(List.Perm.cons _ hZ).trans perm_middle.symm
 · rw [DI N3 (show j≠i.toNat from fun e=>n1 (hZ.mem_iff.2 (mem_append_left _ (by rw [← e];exact hj))))]
   exact hz j hj
 · rw [hels,Dx,hnd,← M.elems]
   exact a3
theorem JO (sp:DSpot):∀ h,Ln F sp h:=by
 intro h
 induction h with
 | zero=>exact LT sp
 | succ h ih =>
  intro mf N i m s hm hc hl h3 c hn hs
  obtain⟨mf,rfl⟩ : ∃ q,mf=q+1:=⟨mf-1,by omega⟩
  obtain⟨N3,K,X,T,h1,M⟩:=KS (mf:=mf) ih (by omega) hc hl c hn hs
  have h4:m≤(nd (fN N) i).kids.length:=c.2.2.1
  have h5:=M.more
  exact⟨_,h1,KT hl c hc hn M (by omega)⟩
end
end Go.Proofs.Ytcmkdoahkncakaa
