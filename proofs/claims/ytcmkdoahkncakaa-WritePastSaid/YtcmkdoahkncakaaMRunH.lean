/- Plain Lean: right runs, as lists of records by key. Its conditions: none. -/
import Derived.Test.YtcmkdoahkncakaaPKeyH
namespace Go.Proofs.Ytcmkdoahkncakaa
set_option linter.unusedVariables false
set_option linter.unusedSimpArgs false
theorem MI {a b:Int}:ord a b<0↔a<b:=by unfold ord;(repeat' split) <;> omega
theorem Cmp.refl {α:Type}{f:α→α→Int}(h:Cmp f)(a:α):f a a=0:=(h.zero a a).2 rfl
theorem Cmp.lt_trans {α:Type}{f:α→α→Int}(h:Cmp f){a b c:α}(h1:f a b<0)(h2:f b c<0):f a c<0:=by
 have h3:=h.trans a b c (by omega) (by omega)
 rcases Int.lt_or_eq_of_le h3 with h4 | h4
 · exact h4
 · have:=(h.zero _ _).1 h4
   subst this
   have:=h.neg a b
   omega
theorem Cmp.lt_le {α:Type}{f:α→α→Int}(h:Cmp f){a b c:α}(h1:f a b<0)(h2:f b c≤0):f a c<0:=by
 rcases Int.lt_or_eq_of_le h2 with h3 | h3
 · exact h.lt_trans h1 h3
 · have:=(h.zero _ _).1 h3;subst this;exact h1
theorem Cmp.pos {α:Type}{f:α→α→Int}(h:Cmp f){a b:α}:0<f a b↔f b a<0:=by
 have:=h.neg a b;omega
theorem Cmp.tri {α:Type}{f:α→α→Int}(h:Cmp f)(a b:α):f a b<0∨a=b∨f b a<0:=by
 have h1:=h.neg a b
 rcases h.one a b with h2 | h2 | h2
 · left;omega
 · right;left;exact(h.zero _ _).1 h2
 · right;right;omega
def Dy (e:DElem):DSpot:=⟨e.key,e.made⟩
theorem GX {a b:DSpot}:cmpS a b<0↔cmpK a.key b.key<0∨(a.key=b.key∧a.made<b.made):=by
 rw [Jo]
 by_cases h:cmpK a.key b.key=0
 · rw [if_neg (by simpa using h),MI]
   have:=(DH.zero _ _).1 h
   simp [this,DH.refl]
 · rw [if_pos h]
   have:a.key≠b.key:=fun e=>h ((DH.zero _ _).2 e)
   simp [this]
def Bef (p e:DElem):Prop:=cmpS (Dy p) (Dy e)<0∧(p.key=e.key→p.gone≠0∧p.gone≤e.made)
theorem Bef.key {p e:DElem}(h:Bef p e):cmpK p.key e.key<0∨p.key=e.key∧p.made<e.made∧p.gone≠0∧p.gone≤e.made:=by
 rcases GX.1 h.1 with h1 | h1
 · exact .inl h1
 · exact .inr ⟨h1.1,h1.2,h.2 h1.1⟩
theorem Hy {p e:DElem}:Bef p e↔cmpK p.key e.key<0∨p.key=e.key∧p.made<e.made∧p.gone≠0∧p.gone≤e.made:=by
 refine⟨Bef.key,fun h=>⟨?_,?_⟩⟩
 · rw [GX]
   rcases h with h | h
   · exact .inl h
   · exact .inr ⟨h.1,h.2.1⟩
 · intro hk
   rcases h with h | h
   · rw [hk,DH.refl] at h;omega
   · exact h.2.2
theorem Bef.trans {p q e:DElem}(hq:DG q=0)(h1:Bef p q)(h2:Bef q e):Bef p e:=by
 obtain⟨_,_,_,h3,_⟩:=Fd hq
 rw [Hy] at *
 rcases h1 with h1 | ⟨k1,h1⟩ <;> rcases h2 with h2 | ⟨k2,h2⟩
 · exact .inl (DH.lt_trans h1 h2)
 · rw [← k2];exact .inl h1
 · rw [k1];exact .inl h2
 · refine .inr ⟨k1.trans k2,?_⟩;omega
structure Run (l:List DElem):Prop where
 len:l.length≤400
 ok : ∀ e∈l,DG e=0
 ord:l.Pairwise Bef
theorem Run.nil:Run []:=⟨by simp,by simp,List.Pairwise.nil⟩
theorem Run.sub {l m:List DElem}(h:Run l)(hs:m.Sublist l):Run m :=
 ⟨Nat.le_trans hs.length_le h.len,fun e he=>h.ok e (hs.subset he),h.ord.sublist hs⟩
theorem Bef.irrefl {e:DElem}(h:Bef e e):False:=by
 have:=h.1;rw [DC.refl] at this;omega
theorem Bef.asymm {a b:DElem}(h:Bef a b)(k:Bef b a):False:=by
 have h1:=h.1;have h2:=k.1;have:=DC.neg (Dy a) (Dy b);omega
def hist (l:List DElem)(k:DKey):List DElem:=l.filter fun e=>e.key == k
theorem Ee {l:List DElem}{k:DKey}{e:DElem}:e∈hist l k↔e∈l∧e.key=k:=by simp [hist]
theorem Run.hist {l:List DElem}(hl:Run l)(k:DKey):Run (hist l k):=hl.sub List.filter_sublist
def lo (l:List DElem)(k:DKey):List DElem:=l.filter fun e=>decide (cmpK e.key k<0)
def hi (l:List DElem)(k:DKey):List DElem:=l.filter fun e=>decide (0<cmpK e.key k)
theorem Kj {l:List DElem}{k:DKey}{e:DElem}:e∈lo l k↔e∈l∧cmpK e.key k<0:=by simp [lo]
theorem IZ {l:List DElem}{k:DKey}{e:DElem}:e∈hi l k↔e∈l∧0<cmpK e.key k:=by simp [hi]
theorem Bef.le {a b:DElem}(h:Bef a b):cmpK a.key b.key≤0:=by
 rcases h.key with h | h
 · omega
 · rw [h.1,DH.refl];omega
theorem HW : ∀ {l:List DElem} (k:DKey),l.Pairwise Bef→l=lo l k++(hist l k++hi l k)
 | [],k,_=>rfl
 | a::l,k,h=>by
  rw [List.pairwise_cons] at h
  have ih:=HW k h.2
  have low:0≤cmpK a.key k→lo l k=[]:=fun h0=>by
   unfold lo
   rw [List.filter_eq_nil_iff]
   intro e he
   have h1:=(h.1 e he).le
   have h2:=DH.trans k a.key e.key (by have:=DH.neg k a.key;omega) h1
   have:=DH.neg k e.key
   simp;omega
  have mid:0<cmpK a.key k→hist l k=[]:=fun h0=>by
   unfold hist
   rw [List.filter_eq_nil_iff]
   intro e he
   have h1:=(h.1 e he).le
   have h2:=DH.lt_le (a:=k) (b:=a.key) (c:=e.key) (by have:=DH.neg k a.key;omega) h1
   simp
   intro e'
   rw [e',DH.refl] at h2
   omega
  rcases DH.tri a.key k with h1 | h1 | h1
  · have e1:lo (a::l) k=a::lo l k:=by unfold lo;rw [List.filter_cons_of_pos (by simpa using h1)]
    have e2:hist (a::l) k=hist l k:=by
     unfold hist;rw [List.filter_cons_of_neg];simp
     intro e;rw [e,DH.refl] at h1;omega
    have e3:hi (a::l) k=hi l k:=by unfold hi;rw [List.filter_cons_of_neg];simp;omega
    rw [e1,e2,e3,List.cons_append,← ih]
  · have e0:cmpK a.key k=0:=by rw [h1,DH.refl]
    have e1:lo (a::l) k=[]:=by
     have:=low (by omega);unfold lo at *;rw [List.filter_cons_of_neg (by simp;omega)];exact this
    have e2:hist (a::l) k=a::hist l k:=by unfold hist;rw [List.filter_cons_of_pos (by simpa using h1)]
    have e3:hi (a::l) k=hi l k:=by unfold hi;rw [List.filter_cons_of_neg];simp;omega
    rw [e1,e2,e3]
    rw [low (by omega),List.nil_append] at ih
    rw [List.nil_append,List.cons_append,← ih]
  · have e0:0<cmpK a.key k:=DH.pos.2 h1
    have e1:lo (a::l) k=[]:=by
     have:=low (by omega);unfold lo at *;rw [List.filter_cons_of_neg (by simp;omega)];exact this
    have e2:hist (a::l) k=[]:=by
     have:=mid e0;unfold hist at *;rw [List.filter_cons_of_neg];exact this
     simp;intro e;rw [e,DH.refl] at h1;omega
    have e3:hi (a::l) k=a::hi l k:=by unfold hi;rw [List.filter_cons_of_pos (by simpa using e0)]
    rw [e1,e2,e3]
    rw [low (by omega),mid e0,List.nil_append,List.nil_append] at ih
    rw [List.nil_append,List.nil_append,← ih]
def upd (l:List DElem)(k:DKey)(h:List DElem):List DElem:=lo l k++(h++hi l k)
theorem EJ (a b:List DElem)(k:DKey):hist (a++b) k=hist a k++hist b k:=List.filter_append ..
theorem K4 {h:List DElem}{k:DKey}(hk : ∀ e∈h,e.key=k):hist h k=h:=by
 unfold hist;rw [List.filter_eq_self];intro e he;simpa using hk e he
theorem QQ {h:List DElem}{k' : DKey}(hk : ∀ e∈h,e.key≠k'):hist h k' = []:=by
 unfold hist;rw [List.filter_eq_nil_iff];intro e he;simpa using hk e he
theorem GE {l:List DElem}{k:DKey}{h:List DElem}(hk : ∀ e∈h,e.key=k):hist (upd l k h) k=h:=by
 unfold upd
 rw [EJ,EJ,K4 hk,QQ (h:=lo l k) (k':=k),QQ (h:=hi l k) (k':=k),List.append_nil,List.nil_append]
 · intro e he e';have:=(IZ.1 he).2;rw [e',DH.refl] at this;omega
 · intro e he e';have:=(Kj.1 he).2;rw [e',DH.refl] at this;omega
theorem Gd {l:List DElem}{k k' : DKey}{h:List DElem}(hl:l.Pairwise Bef)(hk : ∀ e∈h,e.key=k)(hne:k'≠k):hist (upd l k h) k' = hist l k':=by
 conv=>rhs;rw [HW k hl]
 unfold upd
 rw [EJ,EJ,EJ,EJ,QQ (h:=h) (k':=k'),QQ (h:=hist l k) (k':=k')]
 · intro e he;rw [(Ee.1 he).2];exact fun e=>hne e.symm
 · intro e he;rw [hk e he];exact fun e=>hne e.symm
theorem H1 {l:List DElem}{k:DKey}{h:List DElem}(hl:l.Pairwise Bef):(upd l k h).length+(hist l k).length=l.length+h.length:=by
 have:=congrArg List.length (HW k hl)
 unfold upd
 simp only [List.length_append] at *
 omega
theorem L3 {l:List DElem}(k:DKey)(hl:l.Pairwise Bef):upd l k (hist l k)=l:=(HW k hl).symm
theorem Gw {l:List DElem}{k:DKey}{h:List DElem}{e:DElem}(hl:l.Pairwise Bef):e∈upd l k h↔e∈h∨e∈l∧e.key≠k:=by
 unfold upd
 rw [List.mem_append,List.mem_append,Kj,IZ]
 constructor
 · rintro(⟨h1,h2⟩ | h1 | ⟨h1,h2⟩)
   · exact .inr ⟨h1,fun e=>by rw [e,DH.refl] at h2;omega⟩
   · exact .inl h1
   · exact .inr ⟨h1,fun e=>by rw [e,DH.refl] at h2;omega⟩
 · rintro(h1 | ⟨h1,h2⟩)
   · exact .inr (.inl h1)
   · rcases DH.tri e.key k with h3 | h3 | h3
     · exact .inl ⟨h1,h3⟩
     · exact absurd h3 h2
     · exact .inr (.inr ⟨h1,DH.pos.2 h3⟩)
theorem Run.upd {l:List DElem}{k:DKey}{h:List DElem}(hl:Run l)(hk : ∀ e∈h,e.key=k)(ho : ∀ e∈h,DG e=0)(hp:h.Pairwise Bef)(hn:(upd l k h).length≤400):Run (upd l k h):=by
 refine⟨hn,fun e he=>?_,?_⟩
 · rcases (Gw hl.ord).1 he with h1 | h1
   · exact ho e h1
   · exact hl.ok e h1.1
 · unfold Go.Proofs.Ytcmkdoahkncakaa.upd
   rw [List.pairwise_append,List.pairwise_append]
   refine⟨hl.ord.sublist List.filter_sublist,⟨hp,hl.ord.sublist List.filter_sublist,fun a ha b hb=>?_⟩,fun a ha b hb=>?_⟩
   · rw [Hy];left
     have:=(IZ.1 hb).2
     rw [hk a ha];exact DH.pos.1 this
   · rw [Hy];left
     have h1:=(Kj.1 ha).2
     rcases List.mem_append.1 hb with hb | hb
     · rw [hk b hb];exact h1
     · exact DH.lt_trans h1 (DH.pos.1 (IZ.1 hb).2)
def EA (l:List DElem):Int:=l.foldl (fun t e=>if t<Ea e then Ea e else t) 0
theorem Ke (l:List DElem):∀ t0 t:Int,l.foldl (fun t e=>if t<Ea e then Ea e else t) t0≤t↔t0≤t∧∀ e∈l,Ea e≤t:=by
 induction l with
 | nil=>intro t0 t;simp
 | cons a l ih =>
  intro t0 t
  rw [List.foldl_cons,ih,List.forall_mem_cons]
  split <;> constructor <;> rintro ⟨h1,h2⟩
  · exact⟨by omega,by omega,h2⟩
  · exact⟨h2.1,h2.2⟩
  · exact⟨by omega,by omega,h2⟩
  · exact⟨h1,h2.2⟩
theorem FL {l:List DElem}{t:Int}:EA l≤t↔0≤t∧∀ e∈l,Ea e≤t:=Ke l 0 t
theorem G3 (l:List DElem):0≤EA l:=((FL (l:=l) (t:=EA l)).1 (Int.le_refl _)).1
theorem FM {l:List DElem}{e:DElem}(h:e∈l):Ea e≤EA l:=((FL (l:=l) (t:=EA l)).1 (Int.le_refl _)).2 e h
theorem Gf {e:DElem}{t:Int}:Ea e≤t↔e.made≤t∧e.gone≤t:=by unfold Ea;split <;> omega
theorem Run.last_le {l:List DElem}(h:Run l):EA l≤2147483647:=by
 rw [FL]
 refine⟨by omega,fun e he=>?_⟩
 obtain⟨_,_,_,_,_⟩:=Fd (h.ok e he)
 rw [Gf];omega
theorem HT {α:Type}{R:α→α→Prop}:∀ {l:List α},l.Pairwise R→∀ {a b:α},a∈l→b∈l→a=b∨R a b∨R b a
 | [],_,_,_,h,_=>by simp at h
 | c::l,h,a,b,ha,hb=>by
  rw [List.pairwise_cons] at h
  rcases List.mem_cons.1 ha with ha | ha <;> rcases List.mem_cons.1 hb with hb | hb
  · left;rw [ha,hb]
  · right;left;rw [ha];exact h.1 b hb
  · right;right;rw [hb];exact h.1 a ha
  · exact HT h.2 ha hb
theorem Fh {e:DElem}{t:Int}:Eu e t=true↔e.made≤t∧(e.gone=0∨t<e.gone):=by unfold Eu;simp
theorem Run.live_one {l:List DElem}(h:l.Pairwise Bef){a b:DElem}(ha:a∈l)(hb:b∈l)(hk:a.key=b.key){t:Int}(la:Eu a t=true)(lb:Eu b t=true):a=b:=by
 rw [Fh] at la lb
 have bad : ∀ {x y:DElem},Bef x y→x.key=y.key→(x.made≤t∧(x.gone=0∨t<x.gone))→(y.made≤t∧(y.gone=0∨t<y.gone))→False:=fun hb hk h1 h2=>by
  have:=hb.2 hk;omega
 rcases HT h ha hb with h1 | h1 | h1
 · exact h1
 · exact(bad h1 hk la lb).elim
 · exact(bad h1 hk.symm lb la).elim
def atR (l:List DElem)(k:DKey)(t:Int):Option DElem:=l.find? fun e=>e.key == k&&Eu e t
theorem EO (l:List DElem)(k:DKey)(t:Int):atR l k t=(hist l k).find? fun e=>Eu e t:=by
 unfold atR hist;rw [List.find?_filter];congr 1;funext e;cases e.key == k <;> simp
theorem IB {e:DElem}{t:Int}(h:Ea e≤t):Eu e t=(e.gone == 0):=by
 rw [Gf] at h
 rw [Bool.eq_iff_iff,Fh];simp;omega
def cl (t:Int)(e:DElem):Option DElem:=if e.gone=0 then if e.made=t then none else some { e with gone:=t } else some e
def clo (h:List DElem)(t:Int):List DElem:=h.filterMap (cl t)
def Ev (k:DKey)(v:ByteArray)(t:Int):DElem:=⟨k,t,0,v⟩
def cutR (l:List DElem)(k:DKey)(t:Int):List DElem:=upd l k (clo (hist l k) t)
def putR (l:List DElem)(k:DKey)(v:ByteArray)(t:Int):List DElem:=upd l k (clo (hist l k) t++[Ev k v t])
theorem FR {t:Int}{e x:DElem}:cl t e=some x↔(e.gone≠0∧x=e)∨(e.gone=0∧e.made≠t∧x = { e with gone:=t }):=by
 unfold cl
 split
 · split
   · simp_all
   · rename_i h1 h2
     simp only [Option.some.injEq]
     constructor
     · rintro rfl;exact .inr ⟨h1,h2,rfl⟩
     · rintro(h | h)
       · exact absurd h1 h.1
       · exact h.2.2.symm
 · rename_i h1
   simp only [Option.some.injEq]
   constructor
   · rintro rfl;exact .inl ⟨h1,rfl⟩
   · rintro(h | h)
     · exact h.2.symm
     · exact absurd h.1 h1
theorem HC {h:List DElem}{t:Int}{x:DElem}:x∈clo h t↔(x∈h∧x.gone≠0)∨∃ e∈h,e.gone=0∧e.made≠t∧x = { e with gone:=t }:=by
 unfold clo
 rw [List.mem_filterMap]
 constructor
 · rintro⟨e,he,h1⟩
   rcases FR.1 h1 with ⟨h2,rfl⟩ | h2
   · exact .inl ⟨he,h2⟩
   · exact .inr ⟨e,he,h2⟩
 · rintro(⟨h1,h2⟩ | ⟨e,he,h2⟩)
   · exact⟨x,h1,FR.2 (.inl ⟨h2,rfl⟩)⟩
   · exact⟨e,he,FR.2 (.inr h2)⟩
theorem J4 (a b:List DElem)(t:Int):clo (a++b) t=clo a t++clo b t:=List.filterMap_append ..
theorem Jn {h:List DElem}{t:Int}(hg : ∀ e∈h,e.gone≠0):clo h t=h:=by
 unfold clo
 induction h with
 | nil=>rfl
 | cons a h ih =>
  rw [List.filterMap_cons_some (b:=a) (FR.2 (.inl ⟨hg a (by simp),rfl⟩)),ih fun e he=>hg e (by simp [he])]
theorem LD {h:List DElem}{t:Int}(ht:t≠0):∀ e∈clo h t,e.gone≠0:=fun e he=>by
 rcases HC.1 he with h1 | ⟨e',_,_,_,rfl⟩
 · exact h1.2
 · exact ht
theorem J5 (h:List DElem)(t:Int):(clo h t).length≤h.length:=List.length_filterMap_le ..
theorem FK {h:List DElem}{k:DKey}{t:Int}(hk : ∀ e∈h,e.key=k):∀ e∈clo h t,e.key=k:=fun e he=>by
 rcases HC.1 he with h1 | ⟨e',he',_,_,rfl⟩
 · exact hk e h1.1
 · exact hk e' he'
theorem Ix {h:List DElem}{k:DKey}(hp:h.Pairwise Bef)(hk : ∀ e∈h,e.key=k){a b:List DElem}{e:DElem}(he:h=a++e::b)(hg:e.gone=0):b=[]:=by
 subst he
 cases b with
 | nil=>rfl
 | cons x b =>
  rw [List.pairwise_append,List.pairwise_cons] at hp
  have:=(hp.2.1.1 x (by simp)).2 (by rw [hk e (by simp),hk x (by simp)])
  exact absurd hg this.1
theorem Mz {h:List DElem}{k:DKey}{t:Int}(hk : ∀ e∈h,e.key=k)(ho : ∀ e∈h,DG e=0)(hp:h.Pairwise Bef)(ht : ∀ e∈h,Ea e≤t)(h0:1≤t)(h1:t≤2147483647) :
 (∀ e∈clo h t,DG e=0)∧(clo h t).Pairwise Bef∧(∀ e∈clo h t,e.gone≤t∧e.made<t):=by
 refine⟨fun e he=>?_,?_,fun e he=>?_⟩
 · rcases HC.1 he with h2 | ⟨e',he',hg,hm,rfl⟩
   · exact ho e h2.1
   · have h3:=ho e' he'
     have h4:=Gf.1 (ht e' he')
     obtain⟨c1,c2,c3,c4,c5⟩:=Fd h3
     unfold DG
     dsimp only
     rw [if_neg (by simpa using c1),if_neg (by omega),if_neg (by omega)]
 · unfold clo
   rw [List.pairwise_filterMap]
   refine hp.imp_of_mem ?_
   intro a b ha hb hab x hx y hy
   have g:=hab.2 (by rw [hk a ha,hk b hb])
   rcases FR.1 (show cl t a=some x from hx) with ⟨_,rfl⟩ | ⟨h2,_⟩
   · rcases FR.1 (show cl t b=some y from hy) with ⟨_,rfl⟩ | ⟨_,_,rfl⟩
     · exact hab
     · exact hab
   · exact absurd h2 g.1
 · rcases HC.1 he with ⟨h2,h3⟩ | ⟨e',he',hg,hm,rfl⟩
   · have h4:=Gf.1 (ht e h2)
     obtain⟨_,c2,c3,c4,_⟩:=Fd (ho e h2)
     omega
   · have h4:=Gf.1 (ht e' he')
     dsimp only
     omega
theorem Gx {k:DKey}{v:ByteArray}{t:Int}(hc:DG (Ev k v t)=0):Fs k=0∧1≤t∧t≤2147483647∧v.size≤40:=by
 obtain⟨h1,h2,h3,h4,h5⟩:=Fd hc
 exact⟨h1,h2,h3,h5⟩
section
variable {l:List DElem} {k:DKey} {t:Int} {v:ByteArray}
theorem Ej (l:List DElem)(k:DKey):∀ e∈hist l k,e.key=k:=fun e he=>(Ee.1 he).2
theorem Run.clo (h:Run l)(ht:EA l≤t)(h0:1≤t)(h1:t≤2147483647)(k:DKey) :
 (∀ e∈clo (Go.Proofs.Ytcmkdoahkncakaa.hist l k) t,DG e=0)∧(Go.Proofs.Ytcmkdoahkncakaa.clo (Go.Proofs.Ytcmkdoahkncakaa.hist l k) t).Pairwise Bef∧(∀ e∈Go.Proofs.Ytcmkdoahkncakaa.clo (Go.Proofs.Ytcmkdoahkncakaa.hist l k) t,e.gone≤t∧e.made<t) :=
 Mz (Ej l k) (h.hist k).ok (h.hist k).ord (fun e he=>by have:=FM (Ee.1 he).1;omega) h0 h1
theorem Run.cutR (h:Run l)(ht:EA l≤t)(h0:1≤t)(h1:t≤2147483647)(k:DKey):Run (cutR l k t):=by
 obtain⟨c1,c2,c3⟩:=h.clo ht h0 h1 k
 refine h.upd (FK (Ej l k)) c1 c2 ?_
 have h2:=H1 (k:=k) (h:=Go.Proofs.Ytcmkdoahkncakaa.clo (Go.Proofs.Ytcmkdoahkncakaa.hist l k) t) h.ord
 have h3:=J5 (Go.Proofs.Ytcmkdoahkncakaa.hist l k) t
 have:=h.len
 omega
theorem LS (h:Run l)(ht:EA l≤t)(hc:DG (Ev k v t)=0) :
 (∀ e∈clo (hist l k) t++[Ev k v t],e.key=k)∧(∀ e∈clo (hist l k) t++[Ev k v t],DG e=0)∧(clo (hist l k) t++[Ev k v t]).Pairwise Bef:=by
 obtain⟨_,h0,h1,_⟩:=Gx hc
 obtain⟨c1,c2,c3⟩:=h.clo ht h0 h1 k
 refine⟨fun e he=>?_,fun e he=>?_,?_⟩
 · rcases List.mem_append.1 he with he | he
   · exact FK (Ej l k) e he
   · simp at he;subst he;rfl
 · rcases List.mem_append.1 he with he | he
   · exact c1 e he
   · simp at he;subst he;exact hc
 · rw [List.pairwise_append]
   refine⟨c2,by simp,fun a ha b hb=>?_⟩
   simp at hb;subst hb
   have h2:=c3 a ha
   rw [Hy]
   right
   refine⟨FK (Ej l k) a ha,h2.2,LD (by omega) a ha,h2.1⟩
theorem Run.putR (h:Run l)(ht:EA l≤t)(hc:DG (Ev k v t)=0)(hn:(putR l k v t).length≤400):Run (putR l k v t):=by
 obtain⟨h1,h2,h3⟩:=LS h ht hc
 exact h.upd h1 h2 h3 hn
theorem LF (h:Run l):hist (cutR l k t) k=clo (hist l k) t:=GE (FK (Ej l k))
theorem HK (h:Run l){k' : DKey}(hne:k'≠k):hist (cutR l k t) k' = hist l k':=Gd h.ord (FK (Ej l k)) hne
theorem JD {h:List DElem}(hk : ∀ e∈h,e.key=k):∀ e∈clo h t++[Ev k v t],e.key=k:=fun e he=>by
 rcases List.mem_append.1 he with he | he
 · exact FK hk e he
 · simp at he;subst he;rfl
theorem LG:hist (putR l k v t) k=clo (hist l k) t++[Ev k v t]:=GE (JD (Ej l k))
theorem HL (h:Run l){k' : DKey}(hne:k'≠k):hist (putR l k v t) k' = hist l k':=Gd h.ord (JD (Ej l k)) hne
def H8 (t:Int)(e:DElem):DElem:=if e.gone=0 then { e with gone:=t } else e
theorem GC (h:List DElem){t u:Int}(hu:u<t):(clo h t).find? (fun e=>Eu e u)=(h.find? fun e=>Eu e u).map (H8 t):=by
 induction h with
 | nil=>rfl
 | cons a h ih =>
  have hl : ∀ x,cl t a=some x→(Eu x u=Eu a u∧x=H8 t a):=fun x hx=>by
   unfold H8
   rcases FR.1 hx with ⟨h1,rfl⟩ | ⟨h1,h2,rfl⟩
   · rw [if_neg h1];exact⟨rfl,rfl⟩
   · rw [if_pos h1]
     refine⟨?_,rfl⟩
     rw [Bool.eq_iff_iff,Fh,Fh];dsimp only;omega
  unfold clo at ih ⊢
  cases hc:cl t a with
  | none =>
   rw [List.filterMap_cons_none hc,ih,List.find?_cons_of_neg]
   unfold cl at hc
   split at hc
   · split at hc
     · rw [Fh];omega
     · cases hc
   · cases hc
  | some x =>
   obtain⟨h1,rfl⟩:=hl x hc
   rw [List.filterMap_cons_some hc,List.find?_cons,List.find?_cons,h1]
   cases Eu a u
   · exact ih
   · rfl
theorem IL (h:Run l){k' : DKey}(hne:k'≠k)(u:Int):atR (putR l k v t) k' u=atR l k' u:=by
 rw [EO,EO,HL h hne]
theorem IK (h:Run l){k' : DKey}(hne:k'≠k)(u:Int):atR (cutR l k t) k' u=atR l k' u:=by
 rw [EO,EO,HK h hne]
theorem Jj {u:Int}(hu:u<t):atR (putR l k v t) k u=(atR l k u).map (H8 t):=by
 rw [EO,EO,LG,List.find?_append,GC _ hu]
 cases (hist l k).find? (fun e=>Eu e u) with
 | some e=>rfl
 | none =>
  rw [Option.map_none,Option.none_or,List.find?_cons_of_neg]
  · rfl
  · rw [Fh];unfold Ev;dsimp only;omega
theorem Ji (h:Run l){u:Int}(hu:u<t):atR (cutR l k t) k u=(atR l k u).map (H8 t):=by
 rw [EO,EO,LF h,GC _ hu]
def Ep (l:List DElem)(k:DKey):Option DElem:=(hist l k).find? fun e=>e.gone == 0
theorem Mh (h:Run l){u:Int}(hu:EA l≤u)(k:DKey):atR l k u=Ep l k:=by
 rw [EO]
 unfold Ep
 have key : ∀ h:List DElem,(∀ e∈h,Ea e≤u)→h.find? (fun e=>Eu e u)=h.find? fun e=>e.gone == 0:=by
  intro h
  induction h with
  | nil=>intro _;rfl
  | cons a h ih =>
   intro hh
   rw [List.find?_cons,List.find?_cons,IB (hh a (by simp)),ih fun e he=>hh e (by simp [he])]
 exact key _ fun e he=>by have:=FM (Ee.1 he).1;omega
theorem FO (h:l.Pairwise Bef){e:DElem}:Ep l k=some e↔e∈l∧e.key=k∧e.gone=0:=by
 unfold Ep
 constructor
 · intro hf
   have h1:=List.mem_of_find?_eq_some hf
   have h2:=List.find?_some hf
   rw [Ee] at h1
   exact⟨h1.1,h1.2,by simpa using h2⟩
 · rintro⟨h1,h2,h3⟩
   cases hf:(hist l k).find? (fun e=>e.gone == 0) with
   | none =>
    rw [List.find?_eq_none] at hf
    have:=hf e (Ee.2 ⟨h1,h2⟩)
    simp [h3] at this
   | some a =>
    have g1:=Ee.1 (List.mem_of_find?_eq_some hf)
    have g2:=List.find?_some hf
    simp only [beq_iff_eq] at g2
    have la:Eu a (max a.made e.made)=true:=by rw [Fh];omega
    have le:Eu e (max a.made e.made)=true:=by rw [Fh];omega
    rw [Run.live_one h g1.1 h1 (g1.2.trans h2.symm) la le]
theorem K9:Ep l k=none↔∀ e∈l,e.key=k→e.gone≠0:=by
 unfold Ep
 rw [List.find?_eq_none]
 constructor
 · intro h e he hk;have:=h e (Ee.2 ⟨he,hk⟩);simpa using this
 · intro h e he;have:=h e (Ee.1 he).1 (Ee.1 he).2;simpa using this
theorem GD (h:Ep l k=none):clo (hist l k) t=hist l k:=Jn fun e he=>K9.1 h e (Ee.1 he).1 (Ee.1 he).2
theorem H9 (h:l.Pairwise Bef){e:DElem}(hn:Ep l k=some e):∃ a,hist l k=a++[e]∧∀ x∈a,x.gone≠0:=by
 obtain⟨h1,h2,h3⟩:=(FO h).1 hn
 obtain⟨a,b,hab⟩:=List.append_of_mem (Ee.2 ⟨h1,h2⟩)
 have hp:=h.sublist (List.filter_sublist (p:=fun e=>e.key == k))
 have hb:=Ix (show (hist l k).Pairwise Bef from hp) (Ej l k) hab h3
 subst hb
 refine⟨a,hab,fun x hx hg=>?_⟩
 obtain⟨c,d,rfl⟩:=List.append_of_mem hx
 have hab' : hist l k=c++x::(d++[e]):=by rw [hab];simp
 have:=Ix (show (hist l k).Pairwise Bef from hp) (Ej l k) hab' hg
 simp at this
theorem KH (h:l.Pairwise Bef){e:DElem}(hn:Ep l k=some e):∃ a,hist l k=a++[e]∧clo (hist l k) t=a++(if e.made=t then [] else [{ e with gone:=t }]):=by
 obtain⟨a,ha,hg⟩:=H9 h hn
 refine⟨a,ha,?_⟩
 have h3:=((FO h).1 hn).2.2
 rw [ha,J4,Jn hg]
 congr 1
 unfold clo
 by_cases hm:e.made=t
 · rw [if_pos hm,List.filterMap_cons_none (by unfold cl;rw [if_pos h3,if_pos hm])];rfl
 · rw [if_neg hm,List.filterMap_cons_some (b:={ e with gone:=t }) (by unfold cl;rw [if_pos h3,if_neg hm])];rfl
theorem GS (h:Run l):(putR l k v t).length=match Ep l k with
 | some e=>if e.made=t then l.length else l.length+1
 | none=>l.length+1:=by
 have h1:=H1 (k:=k) (h:=clo (hist l k) t++[Ev k v t]) h.ord
 unfold putR
 rw [List.length_append,List.length_singleton] at h1
 generalize (upd l k (clo (hist l k) t++[Ev k v t])).length=n at h1 ⊢
 cases hn:Ep l k with
 | none=>rw [GD hn] at h1;show n=l.length+1;omega
 | some e =>
  obtain⟨a,ha,hc⟩:=KH (t:=t) h.ord hn
  rw [hc,ha] at h1
  dsimp only
  by_cases hm:e.made=t
  · rw [if_pos hm] at *;simp at h1 ⊢;omega
  · rw [if_neg hm] at *;simp at h1 ⊢;omega
theorem Lw (h:Run l)(hn:Ep l k=none):cutR l k t=l:=by
 unfold cutR
 rw [GD hn,L3 k h.ord]
end
end Go.Proofs.Ytcmkdoahkncakaa
