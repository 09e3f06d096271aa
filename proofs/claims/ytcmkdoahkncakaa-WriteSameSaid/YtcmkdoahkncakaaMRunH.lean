/- Plain Lean: right runs, as lists of records by key. Its conditions: none. -/
import Derived.Test.YtcmkdoahkncakaaPKeyH
namespace Go.Proofs.Ytcmkdoahkncakaa
set_option linter.unusedVariables false
set_option linter.unusedSimpArgs false
theorem My {a b:Int}:ord a b<0↔a<b:=by unfold ord;(repeat' split) <;> omega
theorem Cmp.refl {α:Type}{f:α→α→Int}(h:Cmp f)(a:α):f a a=0:=(h.zero a a).2 rfl
theorem Cmp.lt_trans {α:Type}{f:α→α→Int}(h:Cmp f){a b c:α}(h1:f a b<0)(h2:f b c<0):f a c<0:=by
 have h3:=h.trans a b c (by omega) (by omega)
 rcases Int.lt_or_eq_of_le h3 with h4 | h4
 · exact h4
 · have:=(h.zero _ _).1 h4
   subst this
   have:=h.neg a b
   omega
theorem Cmp.lt_le {α:Type}{f:α→α→Int}(h:Cmp f){a b c:α}(h1:f a b<0)(h2:f b c≤0):f a c<0:=by
 rcases Int.lt_or_eq_of_le h2 with h3 | h3
 · exact h.lt_trans h1 h3
 · have:=(h.zero _ _).1 h3;subst this;exact h1
theorem Cmp.pos {α:Type}{f:α→α→Int}(h:Cmp f){a b:α}:0<f a b↔f b a<0:=by
 have:=h.neg a b;omega
theorem Cmp.tri {α:Type}{f:α→α→Int}(h:Cmp f)(a b:α):f a b<0∨a=b∨f b a<0:=by
 have h1:=h.neg a b
 rcases h.one a b with h2 | h2 | h2
 · left;omega
 · right;left;exact(h.zero _ _).1 h2
 · right;right;omega
def Dy (e:DElem):DSpot:=⟨e.key,e.made⟩
theorem Fc {a b:DSpot}:cmpS a b<0↔cmpK a.key b.key<0∨(a.key=b.key∧a.made<b.made):=by
 rw [Je]
 by_cases h:cmpK a.key b.key=0
 · rw [if_neg (by simpa using h),My]
   have:=(DJ.zero _ _).1 h
   simp [this,DJ.refl]
 · rw [if_pos h]
   have:a.key≠b.key:=fun e=>h ((DJ.zero _ _).2 e)
   simp [this]
def Bef (p e:DElem):Prop:=cmpS (Dy p) (Dy e)<0∧(p.key=e.key→p.gone≠0∧p.gone≤e.made)
theorem Bef.key {p e:DElem}(h:Bef p e):cmpK p.key e.key<0∨p.key=e.key∧p.made<e.made∧p.gone≠0∧p.gone≤e.made:=by
 rcases Fc.1 h.1 with h1 | h1
 · exact .inl h1
 · exact .inr ⟨h1.1,h1.2,h.2 h1.1⟩
theorem Hz {p e:DElem}:Bef p e↔cmpK p.key e.key<0∨p.key=e.key∧p.made<e.made∧p.gone≠0∧p.gone≤e.made:=by
 refine⟨Bef.key,fun h=>⟨?_,?_⟩⟩
 · rw [Fc]
   rcases h with h | h
   · exact .inl h
   · exact .inr ⟨h.1,h.2.1⟩
 · intro hk
   rcases h with h | h
   · rw [hk,DJ.refl] at h;omega
   · exact h.2.2
theorem Bef.trans {p q e:DElem}(hq:DG q=0)(h1:Bef p q)(h2:Bef q e):Bef p e:=by
 obtain⟨_,_,_,h3,_⟩:=Fb hq
 rw [Hz] at *
 rcases h1 with h1 | ⟨k1,h1⟩ <;> rcases h2 with h2 | ⟨k2,h2⟩
 · exact .inl (DJ.lt_trans h1 h2)
 · rw [← k2];exact .inl h1
 · rw [k1];exact .inl h2
 · refine .inr ⟨k1.trans k2,?_⟩;omega
structure Run (l:List DElem):Prop where
 len:l.length≤400
 ok : ∀ e∈l,DG e=0
 ord:l.Pairwise Bef
theorem Run.nil:Run []:=⟨by simp,by simp,List.Pairwise.nil⟩
theorem Run.sub {l m:List DElem}(h:Run l)(hs:m.Sublist l):Run m :=
 ⟨Nat.le_trans hs.length_le h.len,fun e he=>h.ok e (hs.subset he),h.ord.sublist hs⟩
theorem Bef.irrefl {e:DElem}(h:Bef e e):False:=by
 have:=h.1;rw [DC.refl] at this;omega
theorem Bef.asymm {a b:DElem}(h:Bef a b)(k:Bef b a):False:=by
 have h1:=h.1;have h2:=k.1;have:=DC.neg (Dy a) (Dy b);omega
def hist (l:List DElem)(k:DKey):List DElem:=l.filter fun e=>e.key == k
theorem Ef {l:List DElem}{k:DKey}{e:DElem}:e∈hist l k↔e∈l∧e.key=k:=by simp [hist]
theorem Run.hist {l:List DElem}(hl:Run l)(k:DKey):Run (hist l k):=hl.sub List.filter_sublist
def lo (l:List DElem)(k:DKey):List DElem:=l.filter fun e=>decide (cmpK e.key k<0)
def hi (l:List DElem)(k:DKey):List DElem:=l.filter fun e=>decide (0<cmpK e.key k)
theorem J5 {l:List DElem}{k:DKey}{e:DElem}:e∈lo l k↔e∈l∧cmpK e.key k<0:=by simp [lo]
theorem IQ {l:List DElem}{k:DKey}{e:DElem}:e∈hi l k↔e∈l∧0<cmpK e.key k:=by simp [hi]
theorem Bef.le {a b:DElem}(h:Bef a b):cmpK a.key b.key≤0:=by
 rcases h.key with h | h
 · omega
 · rw [h.1,DJ.refl];omega
theorem Gi : ∀ {l:List DElem} (k:DKey),l.Pairwise Bef→l=lo l k++(hist l k++hi l k)
 | [],k,_=>rfl
 | a::l,k,h=>by
  rw [List.pairwise_cons] at h
  have ih:=Gi k h.2
  have low:0≤cmpK a.key k→lo l k=[]:=fun h0=>by
   unfold lo
   rw [List.filter_eq_nil_iff]
   intro e he
   have h1:=(h.1 e he).le
   have h2:=DJ.trans k a.key e.key (by have:=DJ.neg k a.key;omega) h1
   have:=DJ.neg k e.key
   simp;omega
  have mid:0<cmpK a.key k→hist l k=[]:=fun h0=>by
   unfold hist
   rw [List.filter_eq_nil_iff]
   intro e he
   have h1:=(h.1 e he).le
   have h2:=DJ.lt_le (a:=k) (b:=a.key) (c:=e.key) (by have:=DJ.neg k a.key;omega) h1
   simp
   intro e'
   rw [e',DJ.refl] at h2
   omega
  rcases DJ.tri a.key k with h1 | h1 | h1
  · have e1:lo (a::l) k=a::lo l k:=by unfold lo;rw [List.filter_cons_of_pos (by simpa using h1)]
    have e2:hist (a::l) k=hist l k:=by
     unfold hist;rw [List.filter_cons_of_neg];simp
     intro e;rw [e,DJ.refl] at h1;omega
    have e3:hi (a::l) k=hi l k:=by unfold hi;rw [List.filter_cons_of_neg];simp;omega
    rw [e1,e2,e3,List.cons_append,← ih]
  · have e0:cmpK a.key k=0:=by rw [h1,DJ.refl]
    have e1:lo (a::l) k=[]:=by
     have:=low (by omega);unfold lo at *;rw [List.filter_cons_of_neg (by simp;omega)];exact this
    have e2:hist (a::l) k=a::hist l k:=by unfold hist;rw [List.filter_cons_of_pos (by simpa using h1)]
    have e3:hi (a::l) k=hi l k:=by unfold hi;rw [List.filter_cons_of_neg];simp;omega
    rw [e1,e2,e3]
    rw [low (by omega),List.nil_append] at ih
    rw [List.nil_append,List.cons_append,← ih]
  · have e0:0<cmpK a.key k:=DJ.pos.2 h1
    have e1:lo (a::l) k=[]:=by
     have:=low (by omega);unfold lo at *;rw [List.filter_cons_of_neg (by simp;omega)];exact this
    have e2:hist (a::l) k=[]:=by
     have:=mid e0;unfold hist at *;rw [List.filter_cons_of_neg];exact this
     simp;intro e;rw [e,DJ.refl] at h1;omega
    have e3:hi (a::l) k=a::hi l k:=by unfold hi;rw [List.filter_cons_of_pos (by simpa using e0)]
    rw [e1,e2,e3]
    rw [low (by omega),mid e0,List.nil_append,List.nil_append] at ih
    rw [List.nil_append,List.nil_append,← ih]
def upd (l:List DElem)(k:DKey)(h:List DElem):List DElem:=lo l k++(h++hi l k)
theorem H3 {l:List DElem}{k:DKey}{h:List DElem}(hl:l.Pairwise Bef):(upd l k h).length+(hist l k).length=l.length+h.length:=by
 have:=congrArg List.length (Gi k hl)
 unfold upd
 simp only [List.length_append] at *
 omega
theorem LO {l:List DElem}(k:DKey)(hl:l.Pairwise Bef):upd l k (hist l k)=l:=(Gi k hl).symm
theorem Gq {l:List DElem}{k:DKey}{h:List DElem}{e:DElem}(hl:l.Pairwise Bef):e∈upd l k h↔e∈h∨e∈l∧e.key≠k:=by
 unfold upd
 rw [List.mem_append,List.mem_append,J5,IQ]
 constructor
 · rintro(⟨h1,h2⟩ | h1 | ⟨h1,h2⟩)
   · exact .inr ⟨h1,fun e=>by rw [e,DJ.refl] at h2;omega⟩
   · exact .inl h1
   · exact .inr ⟨h1,fun e=>by rw [e,DJ.refl] at h2;omega⟩
 · rintro(h1 | ⟨h1,h2⟩)
   · exact .inr (.inl h1)
   · rcases DJ.tri e.key k with h3 | h3 | h3
     · exact .inl ⟨h1,h3⟩
     · exact absurd h3 h2
     · exact .inr (.inr ⟨h1,DJ.pos.2 h3⟩)
theorem Run.upd {l:List DElem}{k:DKey}{h:List DElem}(hl:Run l)(hk : ∀ e∈h,e.key=k)(ho : ∀ e∈h,DG e=0)(hp:h.Pairwise Bef)(hn:(upd l k h).length≤400):Run (upd l k h):=by
 refine⟨hn,fun e he=>?_,?_⟩
 · rcases (Gq hl.ord).1 he with h1 | h1
   · exact ho e h1
   · exact hl.ok e h1.1
 · unfold Go.Proofs.Ytcmkdoahkncakaa.upd
   rw [List.pairwise_append,List.pairwise_append]
   refine⟨hl.ord.sublist List.filter_sublist,⟨hp,hl.ord.sublist List.filter_sublist,fun a ha b hb=>?_⟩,fun a ha b hb=>?_⟩
   · rw [Hz];left
     have:=(IQ.1 hb).2
     rw [hk a ha];exact DJ.pos.1 this
   · rw [Hz];left
     have h1:=(J5.1 ha).2
     rcases List.mem_append.1 hb with hb | hb
     · rw [hk b hb];exact h1
     · exact DJ.lt_trans h1 (DJ.pos.1 (IQ.1 hb).2)
def Ed (l:List DElem):Int:=l.foldl (fun t e=>if t<D5 e then D5 e else t) 0
theorem J0 (l:List DElem):∀ t0 t:Int,l.foldl (fun t e=>if t<D5 e then D5 e else t) t0≤t↔t0≤t∧∀ e∈l,D5 e≤t:=by
 induction l with
 | nil=>intro t0 t;simp
 | cons a l ih =>
  intro t0 t
  rw [List.foldl_cons,ih,List.forall_mem_cons]
  split <;> constructor <;> rintro ⟨h1,h2⟩
  · exact⟨by omega,by omega,h2⟩
  · exact⟨h2.1,h2.2⟩
  · exact⟨by omega,by omega,h2⟩
  · exact⟨h1,h2.2⟩
theorem FG {l:List DElem}{t:Int}:Ed l≤t↔0≤t∧∀ e∈l,D5 e≤t:=J0 l 0 t
theorem GT (l:List DElem):0≤Ed l:=((FG (l:=l) (t:=Ed l)).1 (Int.le_refl _)).1
theorem FH {l:List DElem}{e:DElem}(h:e∈l):D5 e≤Ed l:=((FG (l:=l) (t:=Ed l)).1 (Int.le_refl _)).2 e h
theorem F9 {e:DElem}{t:Int}:D5 e≤t↔e.made≤t∧e.gone≤t:=by unfold D5;split <;> omega
theorem Run.last_le {l:List DElem}(h:Run l):Ed l≤2147483647:=by
 rw [FG]
 refine⟨by omega,fun e he=>?_⟩
 obtain⟨_,_,_,_,_⟩:=Fb (h.ok e he)
 rw [F9];omega
theorem HV {α:Type}{R:α→α→Prop}:∀ {l:List α},l.Pairwise R→∀ {a b:α},a∈l→b∈l→a=b∨R a b∨R b a
 | [],_,_,_,h,_=>by simp at h
 | c::l,h,a,b,ha,hb=>by
  rw [List.pairwise_cons] at h
  rcases List.mem_cons.1 ha with ha | ha <;> rcases List.mem_cons.1 hb with hb | hb
  · left;rw [ha,hb]
  · right;left;rw [ha];exact h.1 b hb
  · right;right;rw [hb];exact h.1 a ha
  · exact HV h.2 ha hb
theorem GU {e:DElem}{t:Int}:F0 e t=true↔e.made≤t∧(e.gone=0∨t<e.gone):=by unfold F0;simp
theorem Run.live_one {l:List DElem}(h:l.Pairwise Bef){a b:DElem}(ha:a∈l)(hb:b∈l)(hk:a.key=b.key){t:Int}(la:F0 a t=true)(lb:F0 b t=true):a=b:=by
 rw [GU] at la lb
 have bad : ∀ {x y:DElem},Bef x y→x.key=y.key→(x.made≤t∧(x.gone=0∨t<x.gone))→(y.made≤t∧(y.gone=0∨t<y.gone))→False:=fun hb hk h1 h2=>by
  have:=hb.2 hk;omega
 rcases HV h ha hb with h1 | h1 | h1
 · exact h1
 · exact(bad h1 hk la lb).elim
 · exact(bad h1 hk.symm lb la).elim
def atR (l:List DElem)(k:DKey)(t:Int):Option DElem:=l.find? fun e=>e.key == k&&F0 e t
theorem Ld (l:List DElem)(k:DKey)(t:Int):atR l k t=(hist l k).find? fun e=>F0 e t:=by
 unfold atR hist;rw [List.find?_filter];congr 1;funext e;cases e.key == k <;> simp
theorem Iv {e:DElem}{t:Int}(h:D5 e≤t):F0 e t=(e.gone == 0):=by
 rw [F9] at h
 rw [Bool.eq_iff_iff,GU];simp;omega
def cl (t:Int)(e:DElem):Option DElem:=if e.gone=0 then if e.made=t then none else some { e with gone:=t } else some e
def clo (h:List DElem)(t:Int):List DElem:=h.filterMap (cl t)
def Ek (k:DKey)(v:ByteArray)(t:Int):DElem:=⟨k,t,0,v⟩
def cutR (l:List DElem)(k:DKey)(t:Int):List DElem:=upd l k (clo (hist l k) t)
def putR (l:List DElem)(k:DKey)(v:ByteArray)(t:Int):List DElem:=upd l k (clo (hist l k) t++[Ek k v t])
theorem Gm {t:Int}{e x:DElem}:cl t e=some x↔(e.gone≠0∧x=e)∨(e.gone=0∧e.made≠t∧x = { e with gone:=t }):=by
 unfold cl
 split
 · split
   · simp_all
   · rename_i h1 h2
     simp only [Option.some.injEq]
     constructor
     · rintro rfl;exact .inr ⟨h1,h2,rfl⟩
     · rintro(h | h)
       · exact absurd h1 h.1
       · exact h.2.2.symm
 · rename_i h1
   simp only [Option.some.injEq]
   constructor
   · rintro rfl;exact .inl ⟨h1,rfl⟩
   · rintro(h | h)
     · exact h.2.symm
     · exact absurd h.1 h1
theorem HF {h:List DElem}{t:Int}{x:DElem}:x∈clo h t↔(x∈h∧x.gone≠0)∨∃ e∈h,e.gone=0∧e.made≠t∧x = { e with gone:=t }:=by
 unfold clo
 rw [List.mem_filterMap]
 constructor
 · rintro⟨e,he,h1⟩
   rcases Gm.1 h1 with ⟨h2,rfl⟩ | h2
   · exact .inl ⟨he,h2⟩
   · exact .inr ⟨e,he,h2⟩
 · rintro(⟨h1,h2⟩ | ⟨e,he,h2⟩)
   · exact⟨x,h1,Gm.2 (.inl ⟨h2,rfl⟩)⟩
   · exact⟨e,he,Gm.2 (.inr h2)⟩
theorem JQ (a b:List DElem)(t:Int):clo (a++b) t=clo a t++clo b t:=List.filterMap_append ..
theorem Jd {h:List DElem}{t:Int}(hg : ∀ e∈h,e.gone≠0):clo h t=h:=by
 unfold clo
 induction h with
 | nil=>rfl
 | cons a h ih =>
  rw [List.filterMap_cons_some (b:=a) (Gm.2 (.inl ⟨hg a (by simp),rfl⟩)),ih fun e he=>hg e (by simp [he])]
theorem Ls {h:List DElem}{t:Int}(ht:t≠0):∀ e∈clo h t,e.gone≠0:=fun e he=>by
 rcases HF.1 he with h1 | ⟨e',_,_,_,rfl⟩
 · exact h1.2
 · exact ht
theorem JR (h:List DElem)(t:Int):(clo h t).length≤h.length:=List.length_filterMap_le ..
theorem F7 {h:List DElem}{k:DKey}{t:Int}(hk : ∀ e∈h,e.key=k):∀ e∈clo h t,e.key=k:=fun e he=>by
 rcases HF.1 he with h1 | ⟨e',he',_,_,rfl⟩
 · exact hk e h1.1
 · exact hk e' he'
theorem Io {h:List DElem}{k:DKey}(hp:h.Pairwise Bef)(hk : ∀ e∈h,e.key=k){a b:List DElem}{e:DElem}(he:h=a++e::b)(hg:e.gone=0):b=[]:=by
 subst he
 cases b with
 | nil=>rfl
 | cons x b =>
  rw [List.pairwise_append,List.pairwise_cons] at hp
  have:=(hp.2.1.1 x (by simp)).2 (by rw [hk e (by simp),hk x (by simp)])
  exact absurd hg this.1
theorem Ml {h:List DElem}{k:DKey}{t:Int}(hk : ∀ e∈h,e.key=k)(ho : ∀ e∈h,DG e=0)(hp:h.Pairwise Bef)(ht : ∀ e∈h,D5 e≤t)(h0:1≤t)(h1:t≤2147483647) :
 (∀ e∈clo h t,DG e=0)∧(clo h t).Pairwise Bef∧(∀ e∈clo h t,e.gone≤t∧e.made<t):=by
 refine⟨fun e he=>?_,?_,fun e he=>?_⟩
 · rcases HF.1 he with h2 | ⟨e',he',hg,hm,rfl⟩
   · exact ho e h2.1
   · have h3:=ho e' he'
     have h4:=F9.1 (ht e' he')
     obtain⟨c1,c2,c3,c4,c5⟩:=Fb h3
     unfold DG
     dsimp only
     rw [if_neg (by simpa using c1),if_neg (by omega),if_neg (by omega)]
 · unfold clo
   rw [List.pairwise_filterMap]
   refine hp.imp_of_mem ?_
   intro a b ha hb hab x hx y hy
   have g:=hab.2 (by rw [hk a ha,hk b hb])
   rcases Gm.1 (show cl t a=some x from hx) with ⟨_,rfl⟩ | ⟨h2,_⟩
   · rcases Gm.1 (show cl t b=some y from hy) with ⟨_,rfl⟩ | ⟨_,_,rfl⟩
     · exact hab
     · exact hab
   · exact absurd h2 g.1
 · rcases HF.1 he with ⟨h2,h3⟩ | ⟨e',he',hg,hm,rfl⟩
   · have h4:=F9.1 (ht e h2)
     obtain⟨_,c2,c3,c4,_⟩:=Fb (ho e h2)
     omega
   · have h4:=F9.1 (ht e' he')
     dsimp only
     omega
theorem Gr {k:DKey}{v:ByteArray}{t:Int}(hc:DG (Ek k v t)=0):GB k=0∧1≤t∧t≤2147483647∧v.size≤40:=by
 obtain⟨h1,h2,h3,h4,h5⟩:=Fb hc
 exact⟨h1,h2,h3,h5⟩
section
variable {l:List DElem} {k:DKey} {t:Int} {v:ByteArray}
theorem EI (l:List DElem)(k:DKey):∀ e∈hist l k,e.key=k:=fun e he=>(Ef.1 he).2
theorem Run.clo (h:Run l)(ht:Ed l≤t)(h0:1≤t)(h1:t≤2147483647)(k:DKey) :
 (∀ e∈clo (Go.Proofs.Ytcmkdoahkncakaa.hist l k) t,DG e=0)∧(Go.Proofs.Ytcmkdoahkncakaa.clo (Go.Proofs.Ytcmkdoahkncakaa.hist l k) t).Pairwise Bef∧(∀ e∈Go.Proofs.Ytcmkdoahkncakaa.clo (Go.Proofs.Ytcmkdoahkncakaa.hist l k) t,e.gone≤t∧e.made<t) :=
 Ml (EI l k) (h.hist k).ok (h.hist k).ord (fun e he=>by have:=FH (Ef.1 he).1;omega) h0 h1
theorem Run.cutR (h:Run l)(ht:Ed l≤t)(h0:1≤t)(h1:t≤2147483647)(k:DKey):Run (cutR l k t):=by
 obtain⟨c1,c2,c3⟩:=h.clo ht h0 h1 k
 refine h.upd (F7 (EI l k)) c1 c2 ?_
 have h2:=H3 (k:=k) (h:=Go.Proofs.Ytcmkdoahkncakaa.clo (Go.Proofs.Ytcmkdoahkncakaa.hist l k) t) h.ord
 have h3:=JR (Go.Proofs.Ytcmkdoahkncakaa.hist l k) t
 have:=h.len
 omega
theorem LE (h:Run l)(ht:Ed l≤t)(hc:DG (Ek k v t)=0) :
 (∀ e∈clo (hist l k) t++[Ek k v t],e.key=k)∧(∀ e∈clo (hist l k) t++[Ek k v t],DG e=0)∧(clo (hist l k) t++[Ek k v t]).Pairwise Bef:=by
 obtain⟨_,h0,h1,_⟩:=Gr hc
 obtain⟨c1,c2,c3⟩:=h.clo ht h0 h1 k
 refine⟨fun e he=>?_,fun e he=>?_,?_⟩
 · rcases List.mem_append.1 he with he | he
   · exact F7 (EI l k) e he
   · simp at he;subst he;rfl
 · rcases List.mem_append.1 he with he | he
   · exact c1 e he
   · simp at he;subst he;exact hc
 · rw [List.pairwise_append]
   refine⟨c2,by simp,fun a ha b hb=>?_⟩
   simp at hb;subst hb
   have h2:=c3 a ha
   rw [Hz]
   right
   refine⟨F7 (EI l k) a ha,h2.2,Ls (by omega) a ha,h2.1⟩
theorem Run.putR (h:Run l)(ht:Ed l≤t)(hc:DG (Ek k v t)=0)(hn:(putR l k v t).length≤400):Run (putR l k v t):=by
 obtain⟨h1,h2,h3⟩:=LE h ht hc
 exact h.upd h1 h2 h3 hn
def Eh (l:List DElem)(k:DKey):Option DElem:=(hist l k).find? fun e=>e.gone == 0
theorem L5 (h:Run l){u:Int}(hu:Ed l≤u)(k:DKey):atR l k u=Eh l k:=by
 rw [Ld]
 unfold Eh
 have key : ∀ h:List DElem,(∀ e∈h,D5 e≤u)→h.find? (fun e=>F0 e u)=h.find? fun e=>e.gone == 0:=by
  intro h
  induction h with
  | nil=>intro _;rfl
  | cons a h ih =>
   intro hh
   rw [List.find?_cons,List.find?_cons,Iv (hh a (by simp)),ih fun e he=>hh e (by simp [he])]
 exact key _ fun e he=>by have:=FH (Ef.1 he).1;omega
theorem EM (h:l.Pairwise Bef){e:DElem}:Eh l k=some e↔e∈l∧e.key=k∧e.gone=0:=by
 unfold Eh
 constructor
 · intro hf
   have h1:=List.mem_of_find?_eq_some hf
   have h2:=List.find?_some hf
   rw [Ef] at h1
   exact⟨h1.1,h1.2,by simpa using h2⟩
 · rintro⟨h1,h2,h3⟩
   cases hf:(hist l k).find? (fun e=>e.gone == 0) with
   | none =>
    rw [List.find?_eq_none] at hf
    have:=hf e (Ef.2 ⟨h1,h2⟩)
    simp [h3] at this
   | some a =>
    have g1:=Ef.1 (List.mem_of_find?_eq_some hf)
    have g2:=List.find?_some hf
    simp only [beq_iff_eq] at g2
    have la:F0 a (max a.made e.made)=true:=by rw [GU];omega
    have le:F0 e (max a.made e.made)=true:=by rw [GU];omega
    rw [Run.live_one h g1.1 h1 (g1.2.trans h2.symm) la le]
theorem Iw:Eh l k=none↔∀ e∈l,e.key=k→e.gone≠0:=by
 unfold Eh
 rw [List.find?_eq_none]
 constructor
 · intro h e he hk;have:=h e (Ef.2 ⟨he,hk⟩);simpa using this
 · intro h e he;have:=h e (Ef.1 he).1 (Ef.1 he).2;simpa using this
theorem Fd (h:Eh l k=none):clo (hist l k) t=hist l k:=Jd fun e he=>Iw.1 h e (Ef.1 he).1 (Ef.1 he).2
theorem Gw (h:l.Pairwise Bef){e:DElem}(hn:Eh l k=some e):∃ a,hist l k=a++[e]∧∀ x∈a,x.gone≠0:=by
 obtain⟨h1,h2,h3⟩:=(EM h).1 hn
 obtain⟨a,b,hab⟩:=List.append_of_mem (Ef.2 ⟨h1,h2⟩)
 have hp:=h.sublist (List.filter_sublist (p:=fun e=>e.key == k))
 have hb:=Io (show (hist l k).Pairwise Bef from hp) (EI l k) hab h3
 subst hb
 refine⟨a,hab,fun x hx hg=>?_⟩
 obtain⟨c,d,rfl⟩:=List.append_of_mem hx
 have hab' : hist l k=c++x::(d++[e]):=by rw [hab];simp
 have:=Io (show (hist l k).Pairwise Bef from hp) (EI l k) hab' hg
 simp at this
theorem HA (h:l.Pairwise Bef){e:DElem}(hn:Eh l k=some e):∃ a,hist l k=a++[e]∧clo (hist l k) t=a++(if e.made=t then [] else [{ e with gone:=t }]):=by
 obtain⟨a,ha,hg⟩:=Gw h hn
 refine⟨a,ha,?_⟩
 have h3:=((EM h).1 hn).2.2
 rw [ha,JQ,Jd hg]
 congr 1
 unfold clo
 by_cases hm:e.made=t
 · rw [if_pos hm,List.filterMap_cons_none (by unfold cl;rw [if_pos h3,if_pos hm])];rfl
 · rw [if_neg hm,List.filterMap_cons_some (b:={ e with gone:=t }) (by unfold cl;rw [if_pos h3,if_neg hm])];rfl
theorem FR (h:Run l):(putR l k v t).length=match Eh l k with
 | some e=>if e.made=t then l.length else l.length+1
 | none=>l.length+1:=by
 have h1:=H3 (k:=k) (h:=clo (hist l k) t++[Ek k v t]) h.ord
 unfold putR
 rw [List.length_append,List.length_singleton] at h1
 generalize (upd l k (clo (hist l k) t++[Ek k v t])).length=n at h1 ⊢
 cases hn:Eh l k with
 | none=>rw [Fd hn] at h1;show n=l.length+1;omega
 | some e =>
  obtain⟨a,ha,hc⟩:=HA (t:=t) h.ord hn
  rw [hc,ha] at h1
  dsimp only
  by_cases hm:e.made=t
  · rw [if_pos hm] at *;simp at h1 ⊢;omega
  · rw [if_neg hm] at *;simp at h1 ⊢;omega
theorem Ll (h:Run l)(hn:Eh l k=none):cutR l k t=l:=by
 unfold cutR
 rw [Fd hn,LO k h.ord]
end
end Go.Proofs.Ytcmkdoahkncakaa
