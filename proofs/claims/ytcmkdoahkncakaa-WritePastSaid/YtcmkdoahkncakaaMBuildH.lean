/- Plain Lean: trees that are made at once. Its conditions: none. -/
import Derived.Test.YtcmkdoahkncakaaPTreeH
import Derived.Test.YtcmkdoahkncakaaLocalH
namespace Go.Proofs.Ytcmkdoahkncakaa
set_option linter.unusedVariables false
set_option linter.unusedSimpArgs false
def kOf (n:Nat):Nat:=if 8<n then (n+7) / 8 else 1
theorem Ek (n:Nat):0<kOf n:=by unfold kOf;split <;> omega
theorem ME (n:Nat):n≤8*kOf n:=by unfold kOf;split <;> omega
theorem HP {n:Nat}(h:1<kOf n):4*kOf n≤n∧8<n:=by
 unfold kOf at *
 by_cases h8:8<n
 · rw [if_pos h8] at h ⊢;omega
 · rw [if_neg h8] at h;omega
theorem Iz {n k:Nat}(h:n≤8*k)(hk:0<k):kOf n≤k:=by unfold kOf;split <;> omega
theorem GZ {n:Nat}(h:1<n):2*kOf n≤n:=by unfold kOf;split <;> omega
theorem KO {n:Nat}(h:n≤8):kOf n=1:=by unfold kOf;rw [if_neg (by omega)]
def off (n k i:Nat):Nat:=n*i / k
theorem Ha {n k i j:Nat}(h:i≤j):off n k i≤off n k j:=Nat.div_le_div_right (Nat.mul_le_mul_left _ h)
theorem Gk (n k:Nat):off n k 0=0:=by unfold off;simp
theorem G9 {n k:Nat}(h:0<k):off n k k=n:=Nat.mul_div_cancel _ h
theorem Kl {n k i:Nat}(h:0<k)(hi:i≤k):off n k i≤n:=Nat.le_trans (Ha hi) (Nat.le_of_eq (G9 h))
theorem JF {n k:Nat}(h:0<k)(hn:n≤8*k)(i:Nat):off n k (i+1)≤off n k i+8:=by
 unfold off
 rw [Nat.mul_succ,← Nat.add_mul_div_right _ _ h]
 exact Nat.div_le_div_right (by omega)
theorem Gj {n k:Nat}(h:0<k)(hn:4*k≤n)(i:Nat):off n k i+4≤off n k (i+1):=by
 unfold off
 rw [Nat.mul_succ,← Nat.add_mul_div_right _ _ h]
 exact Nat.div_le_div_right (by omega)
section groups
variable {α β γ:Type}
def EW (l:List α)(k i:Nat):List α:=(l.drop (off l.length k i)).take (off l.length k (i+1)-off l.length k i)
def groups (l:List α):List (List α):=(List.range (kOf l.length)).map (EW l (kOf l.length))
theorem DR (l:List α):(groups l).length=kOf l.length:=by unfold groups;simp
theorem GL {l:List α}{i:Nat}(h:i<kOf l.length):(groups l)[i]? = some (EW l (kOf l.length) i):=by
 unfold groups;rw [List.getElem?_map,List.getElem?_range h];rfl
theorem Kt (l:List α){k:Nat}(hk:0<k)(j:Nat):(List.range j).flatMap (EW l k)=l.take (off l.length k j):=by
 induction j with
 | zero=>rw [Gk];rfl
 | succ j ih =>
  rw [List.range_succ,List.flatMap_append,ih,List.flatMap_singleton]
  have h:=Ha (n:=l.length) (k:=k) (Nat.le_succ j)
  unfold EW
  rw [← List.take_add]
  congr 1
  exact Nat.add_sub_cancel' h
theorem Ft (l:List α):(groups l).flatten=l:=by
 unfold groups
 rw [← List.flatMap_def,Kt l (Ek _),G9 (Ek _),List.take_length]
theorem I6 (l:List α){i:Nat}(h:i<kOf l.length):(EW l (kOf l.length) i).length=off l.length (kOf l.length) (i+1)-off l.length (kOf l.length) i:=by
 unfold EW
 have h1:=Kl (n:=l.length) (Ek l.length) (show i+1≤kOf l.length by omega)
 rw [List.length_take,List.length_drop];omega
theorem D6 {l g:List α}(h:g∈groups l):g.length≤8∧(1<kOf l.length→4≤g.length)∧(l≠[]→g≠[])∧(1<l.length→1<g.length):=by
 obtain⟨i,hi⟩:=List.mem_iff_getElem?.1 h
 have hlt:=(ggs.1 hi).1
 rw [DR] at hlt
 rw [GL hlt] at hi
 obtain rfl:=Option.some.inj hi
 have h1:=JF (Ek l.length) (ME l.length) i
 have hl:=I6 l hlt
 refine⟨by omega,fun hk=>?_,fun hne=>?_,fun hl1=>?_⟩
 · have:=Gj (Ek l.length) (HP hk).1 i;omega
 · by_cases hk:1<kOf l.length
   · have:=Gj (Ek l.length) (HP hk).1 i
     intro e;rw [e] at hl;simp at hl;omega
   · have hk1:kOf l.length=1:=by have:=Ek l.length;omega
     obtain rfl:i=0:=by omega
     rw [hk1,Gk,G9 (by decide)] at hl
     intro e;rw [hk1] at e;rw [e] at hl;exact hne (List.eq_nil_of_length_eq_zero (by simpa using hl.symm))
 · by_cases hk:1<kOf l.length
   · have:=Gj (Ek l.length) (HP hk).1 i;omega
   · have hk1:kOf l.length=1:=by have:=Ek l.length;omega
     obtain rfl:i=0:=by omega
     rw [hk1,Gk,G9 (by decide)] at hl
     rw [hk1];omega
theorem FY {φ:List α × Nat→β}{ψ:β→List γ}{χ:List α→List γ}:∀(G:List (List α)) (n:Nat),(∀ j g,G[j]? = some g→ψ (φ (g,n+j))=χ g)→((G.zipIdx n).map φ).flatMap ψ=G.flatMap χ
 | [],_,_=>rfl
 | g::G,n,h=>by
  have h0:=h 0 g rfl
  rw [Nat.add_zero] at h0
  rw [List.zipIdx_cons,List.map_cons,List.flatMap_cons,List.flatMap_cons,h0,FY G (n+1) fun j g' hg=>by rw [show n+1+j=n+(j+1) by omega];exact h (j+1) g' (by simpa using hg)]
theorem Eh {φ:List α × Nat→β}{G:List (List α)}{x:β}(h:x∈G.zipIdx.map φ):∃ j g,G[j]? = some g∧x=φ (g,j):=by
 obtain⟨⟨g,j⟩,hp,rfl⟩:=List.mem_map.1 h
 rw [List.mem_zipIdx_iff_getElem?] at hp
 exact⟨j,g,hp,rfl⟩
theorem H7 {φ:List α × Nat→β}{ψ:β→List Nat}{χ:List α→List Nat}:∀(G:List (List α)) (n a:Nat),(∀ j g,G[j]? = some g→ψ (φ (g,n+j))=(a+j)::χ g)→(((G.zipIdx n).map φ).flatMap ψ).Perm (List.range' a G.length++G.flatMap χ)
 | [],_,_,_=>List.Perm.refl _
 | g::G,n,a,h=>by
  have ih:=H7 G (n+1) (a+1) fun j g' hg=>by
   have:=h (j+1) g' (by simpa using hg)
   rw [show n+1+j=n+(j+1) by omega,show a+1+j=a+(j+1) by omega];exact this
  rw [List.zipIdx_cons,List.map_cons,List.flatMap_cons,List.flatMap_cons]
  have h0:=h 0 g rfl
  rw [Nat.add_zero,Nat.add_zero] at h0
  rw [h0,List.length_cons,List.range'_succ,List.cons_append,List.cons_append]
  refine List.Perm.cons _ ?_
  refine(List.Perm.append_left _ ih).trans ?_
  rw [← List.append_assoc,← List.append_assoc]
  exact List.Perm.append_right _ List.perm_append_comm
end groups
def Mw:DSpot:=⟨⟨0,0,0⟩,0⟩
def G4 (es:List DElem):DSpot:=match es.head? with
 | some e=>Dy e
 | none=>Mw
def KL (g:List Dbuild_low):DSpot:=match g.head? with
 | some k=>k.s
 | none=>Mw
def LL (es:List DElem):DNode:=⟨1,es,[],[],[]⟩
def FF (ns:List DNode)(g:List Dbuild_low):DNode:=⟨2,[],g.map (·.i),g.tail.map (·.s),g.map fun k=>DE (nd ns k.i)⟩
def D2 (l:List DElem):List DNode:=(groups l).map LL
def Fy (l:List DElem):List Dbuild_low:=(groups l).zipIdx.map fun p=>⟨(p.2:Int),G4 p.1⟩
def D4 (x:List DNode × List Dbuild_low):List DNode × List Dbuild_low :=
 (x.1++(groups x.2).map (FF x.1),(groups x.2).zipIdx.map fun p=>⟨((x.1.length+p.2:Nat):Int),KL p.1⟩)
def up:Nat→List DNode × List Dbuild_low→List DNode × List Dbuild_low
 | 0,x=>x
 | m+1,x=>if 1<x.2.length then up m (D4 x) else x
def EX (l:List DElem):DTree :=
 let x:=up 400 (D2 l,Fy l)
 ⟨match x.2.head? with | some y=>y.i | none=>0,x.1⟩
def cN (n:Nat):Nat→Nat
 | 0=>kOf n
 | h+1=>kOf (cN n h)
def sNk (n:Nat):Nat→Nat
 | 0=>cN n 0
 | h+1=>sNk n h+cN n (h+1)
def okB (ns:List DNode):Nat→Int→Prop
 | 0,i=>(0≤i∧i<(ns.length:Int))∧(nd ns i).kind=1
 | h+1,i=>(0≤i∧i<(ns.length:Int))∧(nd ns i).kind=2∧(nd ns i).seps=(nd ns i).kids.tail.map (fun k=>G4 (Dx ns h k))∧(nd ns i).tids=(nd ns i).kids.map (fun k=>DE (nd ns k)) ∧
  ∀ k∈(nd ns i).kids,okB ns h k∧4≤(nd ns k).elems.length+(nd ns k).kids.length∧Dx ns h k≠[]
theorem okB.range {ns:List DNode}{h:Nat}{i:Int}(k:okB ns h i):0≤i∧i<(ns.length:Int):=by cases h <;> exact k.1
theorem GQ (ns more:List DNode){i:Int}(h:0≤i∧i<(ns.length:Int)):nd (ns++more) i=nd ns i:=by
 unfold nd
 rw [List.getElem?_append_left (by omega)]
theorem DT {α β:Type}{f g:α→List β}:∀ {l:List α},(∀ a∈l,f a=g a)→l.flatMap f=l.flatMap g
 | [],_=>rfl
 | a::l,h=>by rw [List.flatMap_cons,List.flatMap_cons,h a List.mem_cons_self,DT fun b hb=>h b (List.mem_cons_of_mem _ hb)]
theorem okB.old {ns:List DNode}(more:List DNode):∀ {h:Nat} {i:Int},okB ns h i→okB (ns++more) h i∧Dx (ns++more) h i=Dx ns h i∧ids (ns++more) h i=ids ns h i:=by
 intro h
 induction h with
 | zero =>
  intro i k
  have e:=GQ ns more k.1
  refine⟨⟨⟨k.1.1,by rw [List.length_append];have:=k.1.2;omega⟩,by rw [e];exact k.2⟩,by rw [Dx,Dx,e],rfl⟩
 | succ h ih =>
  intro i k
  have e:=GQ ns more k.1
  obtain⟨k1,k2,k3,k4,k5⟩:=k
  have hk : ∀ x∈(nd ns i).kids,Dx (ns++more) h x=Dx ns h x:=fun x hx=>(ih (k5 x hx).1).2.1
  refine⟨⟨⟨k1.1,by rw [List.length_append];have:=k1.2;omega⟩,by rw [e];exact k2,?_,?_,?_⟩,?_,?_⟩
  · rw [e,k3]
    exact List.map_congr_left fun x hx=>by rw [hk x (List.mem_of_mem_tail hx)]
  · rw [e,k4]
    exact List.map_congr_left fun x hx=>by rw [GQ ns more (k5 x hx).1.range]
  · rw [e]
    intro x hx
    obtain⟨q1,q2,q3⟩:=k5 x hx
    exact⟨(ih q1).1,by rw [GQ ns more q1.range];exact q2,by rw [hk x hx];exact q3⟩
  · rw [Dx,Dx,e];exact DT hk
  · rw [ids,ids,e,DT fun x hx=>(ih (k5 x hx).1).2.2]
theorem Mc {n:DNode}{s:Span}{k:Nat}{x:DSpot}(h:inS s x=true)(h1 : ∀ j y,k=j+1→n.seps[j]? = some y→cmpS y x≤0)(h2 : ∀ y,n.seps[k]? = some y→cmpS x y<0):inS (DM n s k) x=true:=by
 rw [DX] at h ⊢
 have hl:((E9 n s k).hasLo=true→cmpS (E9 n s k).lo x≤0)∧(E9 n s k).hi=s.hi∧(E9 n s k).hasHi=s.hasHi:=by
  cases k with
  | zero=>exact ⟨h.1,rfl,rfl⟩
  | succ j =>
   have e:E9 n s (j+1)=(match n.seps[j]? with | some x=>{ s with lo:=x,hasLo:=true } | none=>s):=rfl
   rw [e]
   cases hj:n.seps[j]? with
   | none=>exact ⟨h.1,rfl,rfl⟩
   | some y=>exact ⟨fun _=>h1 j y rfl hj,rfl,rfl⟩
 unfold DM Hw
 cases hk:n.seps[k]? with
 | none=>exact ⟨hl.1,fun hh=>by rw [hl.2.2] at hh;rw [hl.2.1];exact h.2 hh⟩
 | some y=>exact ⟨hl.1,fun _=>h2 y hk⟩
theorem FN {l:List DElem}(h:l≠[]):∃ e∈l,G4 l=Dy e∧(l.Pairwise SpO→∀ x∈l,cmpS (G4 l) (Dy x)≤0):=by
 cases l with
 | nil=>exact absurd rfl h
 | cons e l =>
  refine⟨e,List.mem_cons_self,rfl,fun hp x hx=>?_⟩
  show cmpS (Dy e) (Dy x)≤0
  rcases List.mem_cons.1 hx with rfl | hx
  · rw [DC.refl];exact Int.le_refl _
  · have:=(List.pairwise_cons.1 hp).1 x hx
    unfold SpO at this;omega
theorem KZ {α β:Type}{R:β→β→Prop}{f:α→List β}{l:List α}(h:(l.flatMap f).Pairwise R){i j:Nat}{a b:α}(hij:i<j)(ha:l[i]? = some a)(hb:l[j]? = some b){x y:β}(hx:x∈f a)(hy:y∈f b):R x y :=
 Eg (List.pairwise_flatMap.1 h).2 hij ha hb x hx y hy
theorem okB.right {ns:List DNode}:∀ {h:Nat} {i d:Int} {s:Span},okB ns h i→0≤d→(0<d→4≤(nd ns i).elems.length+(nd ns i).kids.length)→(Dx ns h i).Pairwise SpO→(∀ e∈Dx ns h i,inS s (Dy e)=true)→okN ns h i d s:=by
 intro h
 induction h with
 | zero=>exact fun k hd hf hp hs=>⟨k.1,k.2,hf,hs⟩
 | succ h ih =>
  intro i d s k hd hf hp hs
  obtain⟨k1,k2,k3,k4,k5⟩:=k
  refine⟨k1,by rw [k2];decide,hf,?_⟩
  rintro⟨x,q⟩ hx
  rw [List.mem_zipIdx_iff_getElem?] at hx
  dsimp only at hx ⊢
  have hmem:=List.mem_of_getElem? hx
  obtain⟨c1,c2,c3⟩:=k5 x hmem
  have hsub : ∀ e∈Dx ns h x,e∈Dx ns (h+1) i:=fun e he=>List.mem_flatMap.2 ⟨x,hmem,he⟩
  have hpx : ∀ y∈(nd ns i).kids,(Dx ns h y).Pairwise SpO:=fun y hy=>(List.pairwise_flatMap.1 hp).1 y hy
  have hsep : ∀ j y,(nd ns i).seps[j]? = some y→∃ c,(nd ns i).kids[j+1]? = some c∧y=G4 (Dx ns h c):=fun j y hy=>by
   rw [k3,List.getElem?_map,List.getElem?_tail,Option.map_eq_some_iff] at hy
   obtain⟨c,hc,rfl⟩:=hy
   exact⟨c,hc,rfl⟩
  refine⟨ih c1 (by omega) (fun _=>c2) (hpx x hmem) fun e he=>?_,?_,?_⟩
  · refine Mc (hs e (hsub e he)) (fun j y hj hy=>?_) (fun y hy=>?_)
    · obtain⟨c,hc,rfl⟩:=hsep j y hy
      rw [← hj,hx] at hc
      obtain rfl:=Option.some.inj hc
      obtain⟨_,_,_,hle⟩:=FN c3
      exact hle (hpx _ hmem) e he
    · obtain⟨c,hc,rfl⟩:=hsep q y hy
      obtain⟨e2,he2,hlow,_⟩:=FN (k5 c (List.mem_of_getElem? hc)).2.2
      rw [hlow]
      exact KZ (f:=Dx ns h) hp (Nat.lt_succ_self q) hx hc he he2
  · cases q with
    | zero=>rfl
    | succ j =>
     show (match (nd ns i).seps[j]? with | some y=>!inS s y | none=>false)=false
     cases hj:(nd ns i).seps[j]? with
     | none=>rfl
     | some y =>
      obtain⟨c,hc,rfl⟩:=hsep j y hj
      rw [hx] at hc
      obtain rfl:=Option.some.inj hc
      obtain⟨e2,he2,hlow,_⟩:=FN c3
      rw [hlow]
      show (!inS s (Dy e2))=false
      rw [hs e2 (hsub e2 he2)];rfl
  · rw [k4,List.getElem?_map,hx];rfl
theorem LK {e:DElem}(h:DG e=0):0≤Ea e∧Ea e≤2147483647:=by
 obtain⟨_,h1,h2,h3,_⟩:=Fd h
 unfold Ea
 split <;> omega
theorem Jb {e:DElem}(h:DG e=0):DG (zE (Dy e))=0:=by
 obtain⟨h0,h1,h2,h3,_⟩:=Fd h
 unfold DG zE Dy
 dsimp only
 rw [if_neg (by simpa using h0),if_neg (by omega),if_neg (by show ¬ (40<0);omega)]
theorem Gc {n:DNode}(h:DS n=0):0≤DE n∧DE n≤2147483647:=by
 obtain⟨_,_,h3⟩:=GK n
 rcases h3 with h3 | ⟨e,he,h3⟩ | ⟨t,ht,h3⟩
 · omega
 · rcases DV.1 h with q | q | q
   · rw [q.2.1] at he;cases he
   · have:=LK (q.2.ok e he);omega
   · rw [q.2.elems] at he;cases he
 · rcases DV.1 h with q | q | q
   · rw [q.2.2.2.2] at ht;cases ht
   · rw [q.2.tids] at ht;cases ht
   · have:=q.2.tid t ht;omega
structure Lev (ns:List DNode) (lv:List Dbuild_low) (l:List DElem) (h:Nat):Prop where
 count:lv.length=cN l.length h
 total:ns.length=sNk l.length h
 many : ∀ j,j<h→1<cN l.length j
 chk : ∀ n∈ns,DS n=0
 fit : ∀ x∈lv,okB ns h x.i
 low : ∀ x∈lv,x.s=G4 (Dx ns h x.i)
 cat:lv.flatMap (fun x=>Dx ns h x.i)=l
 perm:(lv.flatMap fun x=>ids ns h x.i).Perm (List.range ns.length)
 full:1<lv.length→∀ x∈lv,4≤(nd ns x.i).elems.length+(nd ns x.i).kids.length
 full2:1<lv.length→∀ x∈lv,Dx ns h x.i≠[]
 size:ns.length+lv.length≤100
theorem J2 (n h:Nat):0<cN n h:=by cases h <;> exact Ek _
theorem LO {ns:List DNode}{j:Nat}{n:DNode}(h:ns[j]? = some n):nd ns ((j:Nat):Int)=n:=G7 h
theorem Gy {α:Type}{l g:List α}(h:g∈groups l):g.Sublist l:=by
 unfold groups at h
 obtain⟨i,_,rfl⟩:=List.mem_map.1 h
 exact(List.take_sublist _ _).trans (List.drop_sublist _ _)
theorem Lev.zero {l:List DElem}(hl:l.length≤400)(ho : ∀ e∈l,DG e=0)(hp:l.Pairwise SpO):Lev (D2 l) (Fy l) l 0:=by
 have hlen:(D2 l).length=kOf l.length:=by unfold D2;rw [List.length_map,DR]
 have hlv:(Fy l).length=kOf l.length:=by unfold Fy;rw [List.length_map,List.length_zipIdx,DR]
 have hnd : ∀ j g,(groups l)[j]? = some g→nd (D2 l) ((j:Nat):Int)=LL g:=fun j g hg=>LO (by unfold D2;rw [List.getElem?_map,hg];rfl)
 have hk:kOf l.length≤50:=Iz (by omega) (by decide)
 refine⟨hlv,hlen,fun j hj=>by omega,fun n hn=>?_,fun x hx=>?_,fun x hx=>?_,?_,?_,fun h1 x hx=>?_,fun h1 x hx=>?_,by omega⟩
 · unfold D2 at hn
   obtain⟨g,hg,rfl⟩:=List.mem_map.1 hn
   have hs:=Gy hg
   exact DV.2 (.inr (.inl ⟨rfl,⟨rfl,rfl,rfl,(D6 hg).1,fun e he=>ho e (hs.subset he),hp.sublist hs⟩⟩))
 · obtain⟨j,g,hg,rfl⟩:=Eh hx
   have hj:=(ggs.1 hg).1
   rw [DR] at hj
   exact⟨⟨by dsimp only;omega,by dsimp only;omega⟩,by dsimp only;rw [hnd j g hg];rfl⟩
 · obtain⟨j,g,hg,rfl⟩:=Eh hx
   dsimp only
   rw [Dx,hnd j g hg];rfl
 · have := FY (φ := fun p : List DElem × Nat => (⟨(p.2 : Int), G4 p.1⟩ : Dbuild_low)) (ψ := fun x => Dx (D2 l) 0 x.i) (χ := fun g => g) (groups l) 0 fun j g hg => by
    dsimp only
    rw [Nat.zero_add,Dx,hnd j g hg];rfl
   unfold Fy
   rw [this,List.flatMap_id']
   exact Ft l
 · have := H7 (φ := fun p : List DElem × Nat => (⟨(p.2 : Int), G4 p.1⟩ : Dbuild_low)) (ψ := fun x => ids (D2 l) 0 x.i) (χ := fun g => []) (groups l) 0 0 fun j g hg => by
    dsimp only
    rw [ids,Int.toNat_natCast]
   rw [show (groups l).flatMap (fun _=>([]:List Nat))=[] by rw [List.flatMap_eq_nil_iff];exact fun _ _=>rfl,List.append_nil,DR,← List.range_eq_range',← hlen] at this
   exact this
 · rw [hlv] at h1
   obtain⟨j,g,hg,rfl⟩:=Eh hx
   dsimp only
   rw [hnd j g hg]
   have:=(D6 (List.mem_of_getElem? hg)).2.1 h1
   show 4≤g.length+0
   omega
 · rw [hlv] at h1
   obtain⟨j,g,hg,rfl⟩:=Eh hx
   dsimp only
   rw [Dx,hnd j g hg]
   have:=(D6 (List.mem_of_getElem? hg)).2.1 h1
   intro e
   have e2:g=[]:=e
   rw [e2] at this
   exact absurd this (by decide)
theorem Lev.next {ns:List DNode}{lv:List Dbuild_low}{l:List DElem}{h:Nat}(L:Lev ns lv l h)(hp:l.Pairwise SpO)(ho : ∀ e∈l,DG e=0)(h1:1<lv.length):Lev (D4 (ns,lv)).1 (D4 (ns,lv)).2 l (h+1):=by
 have hG:(groups lv).length=kOf lv.length:=DR lv
 have hcount:(D4 (ns,lv)).2.length=kOf lv.length:=by unfold D4;dsimp only;rw [List.length_map,List.length_zipIdx,hG]
 have hlen:(D4 (ns,lv)).1.length=ns.length+kOf lv.length:=by unfold D4;dsimp only;rw [List.length_append,List.length_map,hG]
 have hhalf:=GZ h1
 have hsize:=L.size
 have hmem : ∀ g∈groups lv,∀ x∈g,x∈lv:=fun g hg x hx=>(Gy hg).subset hx
 have hnew : ∀ j g,(groups lv)[j]? = .some g→nd (D4 (ns,lv)).1 ((ns.length+j:Nat):Int)=FF ns g:=fun j g hg=>LO (by
  unfold D4;dsimp only
  rw [List.getElem?_append_right (by omega),Nat.add_sub_cancel_left,List.getElem?_map,hg];rfl)
 have hold : ∀ x∈lv,okB (D4 (ns,lv)).1 h x.i∧Dx (D4 (ns,lv)).1 h x.i=Dx ns h x.i∧ids (D4 (ns,lv)).1 h x.i=ids ns h x.i:=fun x hx=>(L.fit x hx).old _
 have hkids : ∀ g∈groups lv,(FF ns g).kids.flatMap (Dx (D4 (ns,lv)).1 h)=g.flatMap fun x=>Dx ns h x.i:=fun g hg=>by
  show (g.map (·.i)).flatMap _=_
  rw [List.flatMap_map]
  exact DT fun x hx=>(hold x (hmem g hg x hx)).2.1
 have hel : ∀ j g,(groups lv)[j]? = .some g→Dx (D4 (ns,lv)).1 (h+1) ((ns.length+j:Nat):Int)=g.flatMap fun x=>Dx ns h x.i:=fun j g hg=>by
  rw [Dx,hnew j g hg]
  exact hkids g (List.mem_of_getElem? hg)
 have hne : ∀ g∈groups lv,g≠[]:=fun g hg=>(D6 hg).2.2.1 (fun e=>by rw [e] at h1;simp at h1)
 have hcat:(groups lv).flatMap (fun g=>g.flatMap fun x=>Dx ns h x.i)=l:=by
  have e:=L.cat
  rw [← Ft lv] at e
  rw [← e,List.flatten_eq_flatMap,List.flatMap_assoc]
  rfl
 have hok : ∀ x∈lv,∀ e∈Dx ns h x.i,DG e=0:=fun x hx e he=>ho e (by rw [← L.cat];exact List.mem_flatMap.2 ⟨x,hx,he⟩)
 have hlvS:lv.Pairwise fun x y=>SpotO x.s y.s:=by
  have e:=L.cat
  rw [← e] at hp
  have:=(List.pairwise_flatMap.1 hp).2
  refine List.Pairwise.imp_of_mem (fun {x y} hx hy hxy=>?_) this
  obtain⟨a,ha,hla,_⟩:=FN (L.full2 h1 x hx)
  obtain⟨b,hb,hlb,_⟩:=FN (L.full2 h1 y hy)
  unfold SpotO
  rw [L.low x hx,L.low y hy,hla,hlb]
  exact hxy a ha b hb
 refine⟨by rw [hcount,cN,L.count],by rw [hlen,sNk,L.total,cN,L.count],fun j hj=>?_,fun n hn=>?_,fun x hx=>?_,fun x hx=>?_,?_,?_,fun h2 x hx=>?_,fun h2 x hx=>?_,by omega⟩
 · by_cases e:j=h
   · rw [e,← L.count];exact h1
   · exact L.many j (by omega)
 · have hn' : n∈ns++(groups lv).map (FF ns):=hn
   rcases List.mem_append.1 hn' with hn | hn
   · exact L.chk n hn
   · obtain⟨g,hg,rfl⟩:=List.mem_map.1 hn
     obtain⟨s1,s2,s3,s4⟩:=D6 hg
     have s4:=s4 h1
     refine DV.2 (.inr (.inr ⟨rfl,⟨rfl,?_,?_,?_,?_,fun k hk=>?_,fun t ht=>?_,fun s hs=>?_,?_⟩⟩))
     · show 2≤(g.map _).length;rw [List.length_map];omega
     · show (g.map _).length≤8;rw [List.length_map];exact s1
     · show (g.tail.map _).length+1=(g.map _).length;rw [List.length_map,List.length_map,List.length_tail];omega
     · show (g.map _).length=(g.map _).length;rw [List.length_map,List.length_map]
     · obtain⟨x,hx,rfl⟩:=List.mem_map.1 hk
       have:=(L.fit x (hmem g hg x hx)).range
       omega
     · obtain⟨x,hx,rfl⟩:=List.mem_map.1 ht
       have:=(L.fit x (hmem g hg x hx)).range
       exact Gc (L.chk _ (Ez this.1 this.2))
     · obtain⟨x,hx,rfl⟩:=List.mem_map.1 hs
       have hxl:=hmem g hg x (List.mem_of_mem_tail hx)
       obtain⟨a,ha,hla,_⟩:=FN (L.full2 h1 x hxl)
       rw [L.low x hxl,hla]
       exact Jb (hok x hxl a ha)
     · have:=hlvS.sublist ((List.tail_sublist g).trans (Gy hg))
       exact List.pairwise_map.2 this
 · obtain⟨j,g,hg,rfl⟩:=Eh hx
   have hgm:=List.mem_of_getElem? hg
   have hj:=(ggs.1 hg).1
   rw [hG] at hj
   dsimp only
   refine⟨⟨by omega,by rw [hlen];omega⟩,?_⟩
   rw [hnew j g hg]
   refine⟨rfl,?_,?_,?_⟩
   · show g.tail.map _=(g.map _).tail.map _
     rw [← List.map_tail,List.map_map]
     exact List.map_congr_left fun x hx=>by
      have hxl:=hmem g hgm x (List.mem_of_mem_tail hx)
      show x.s=G4 (Dx (D4 (ns,lv)).1 h x.i)
      rw [(hold x hxl).2.1];exact L.low x hxl
   · show g.map _=(g.map _).map _
     rw [List.map_map]
     exact List.map_congr_left fun x hx=>by
      show DE (nd ns x.i)=DE (nd (D4 (ns,lv)).1 x.i)
      rw [show nd (D4 (ns,lv)).1 x.i=nd ns x.i from GQ ns _ (L.fit x (hmem g hgm x hx)).range]
   · intro k hk
     obtain⟨x,hx,rfl⟩:=List.mem_map.1 hk
     have hxl:=hmem g hgm x hx
     refine⟨(hold x hxl).1,?_,?_⟩
     · rw [show nd (D4 (ns,lv)).1 x.i=nd ns x.i from GQ ns _ (L.fit x hxl).range];exact L.full h1 x hxl
     · rw [(hold x hxl).2.1];exact L.full2 h1 x hxl
 · obtain⟨j,g,hg,rfl⟩:=Eh hx
   have hgm:=List.mem_of_getElem? hg
   dsimp only
   rw [hel j g hg]
   cases g with
   | nil=>exact absurd rfl (hne _ hgm)
   | cons x g =>
    have hxl:=hmem _ hgm x List.mem_cons_self
    show x.s=_
    rw [L.low x hxl,List.flatMap_cons]
    cases hx:Dx ns h x.i with
    | nil=>exact absurd hx (L.full2 h1 x hxl)
    | cons a q=>rfl
 · have := FY (φ := fun p : List Dbuild_low × Nat => (⟨((ns.length + p.2 : Nat) : Int), KL p.1⟩ : Dbuild_low)) (ψ := fun x => Dx (D4 (ns, lv)).1 (h + 1) x.i) (χ := fun g => g.flatMap fun x => Dx ns h x.i) (groups lv) 0 fun j g hg => by
    dsimp only
    rw [Nat.zero_add];exact hel j g hg
   exact this.trans hcat
 · have := H7 (φ := fun p : List Dbuild_low × Nat => (⟨((ns.length + p.2 : Nat) : Int), KL p.1⟩ : Dbuild_low)) (ψ := fun x => ids (D4 (ns, lv)).1 (h + 1) x.i) (χ := fun g => g.flatMap fun x => ids ns h x.i) (groups lv) 0 ns.length fun j g hg => by
    dsimp only
    rw [Nat.zero_add,ids,hnew j g hg,Int.toNat_natCast]
    congr 1
    show (g.map (·.i)).flatMap _=_
    rw [List.flatMap_map]
    exact DT fun x hx=>(hold x (hmem g (List.mem_of_getElem? hg) x hx)).2.2
   refine List.Perm.trans this ?_
   have e:(groups lv).flatMap (fun g=>g.flatMap fun x=>ids ns h x.i)=lv.flatMap fun x=>ids ns h x.i:=by
    conv=>rhs;rw [← Ft lv,List.flatten_eq_flatMap,List.flatMap_assoc]
    rfl
   rw [e,hlen,hG,List.range_eq_range',← List.range'_append_1 (s:=0) (m:=ns.length) (n:=kOf lv.length),Nat.zero_add,← List.range_eq_range']
   exact(List.Perm.append_left _ L.perm).trans List.perm_append_comm
 · rw [hcount] at h2
   obtain⟨j,g,hg,rfl⟩:=Eh hx
   dsimp only
   rw [hnew j g hg]
   have:=(D6 (List.mem_of_getElem? hg)).2.1 h2
   show 4≤0+(g.map _).length
   rw [List.length_map];omega
 · obtain⟨j,g,hg,rfl⟩:=Eh hx
   have hgm:=List.mem_of_getElem? hg
   dsimp only
   rw [hel j g hg]
   cases g with
   | nil=>exact absurd rfl (hne _ hgm)
   | cons x g =>
    have hxl:=hmem _ hgm x List.mem_cons_self
    rw [List.flatMap_cons]
    intro e
    exact L.full2 h1 x hxl (List.append_eq_nil_iff.1 e).1
theorem Lev.up {l:List DElem}(hp:l.Pairwise SpO)(ho : ∀ e∈l,DG e=0):∀(m:Nat) {ns:List DNode} {lv:List Dbuild_low} {h:Nat},Lev ns lv l h→lv.length≤m→∃ h',Lev (up m (ns,lv)).1 (up m (ns,lv)).2 l h'∧(up m (ns,lv)).2.length=1:=by
 intro m
 induction m with
 | zero =>
  intro ns lv h L hm
  have:=L.count
  have:=J2 l.length h
  omega
 | succ m ih =>
  intro ns lv h L hm
  rw [Go.Proofs.Ytcmkdoahkncakaa.up]
  by_cases h1:1<lv.length
  · rw [if_pos h1]
    have L':=L.next hp ho h1
    have hc:(D4 (ns,lv)).2.length=kOf lv.length:=by unfold D4;dsimp only;rw [List.length_map,List.length_zipIdx,DR]
    have:=GZ h1
    exact ih L' (Nat.le_trans (Nat.le_of_eq hc) (by omega))
  · rw [if_neg h1]
    have:=L.count
    have:=J2 l.length h
    exact⟨h,L,by dsimp only;omega⟩
theorem Md (x:DSpot):inS topS x=true:=rfl
theorem Jl {l:List DElem}(hl:l.length≤400)(ho : ∀ e∈l,DG e=0)(hp:l.Pairwise SpO):∃ h,Good (EX l) h∧Dx (EX l).nodes h (EX l).root=l∧(EX l).nodes.length=sNk l.length h∧cN l.length h=1∧∀ j,j<h→1<cN l.length j:=by
 have L0:=Lev.zero hl ho hp
 have hlv:(Fy l).length≤400:=by have:=L0.size;omega
 obtain⟨h,L,h1⟩:=Lev.up hp ho 400 L0 hlv
 unfold EX
 dsimp only
 generalize Go.Proofs.Ytcmkdoahkncakaa.up 400 (D2 l,Fy l)=x at L h1
 obtain⟨ns,lv⟩:=x
 dsimp only at L h1 ⊢
 obtain⟨y,rfl⟩:=List.length_eq_one_iff.1 h1
 dsimp only [List.head?]
 have hcat:Dx ns h y.i=l:=by have:=L.cat;simpa using this
 have hperm:(ids ns h y.i).Perm (List.range ns.length):=by have:=L.perm;simpa using this
 refine⟨h,⟨by have:=L.size;dsimp only;omega,L.chk,?_,?_,fun i hi _=>?_⟩,hcat,L.total,by rw [← L.count];exact h1,L.many⟩
 · exact(L.fit y (by simp)).right (Int.le_refl _) (fun h=>absurd h (by decide)) (by rw [hcat];exact hp) (fun e _=>Md _)
 · exact hperm.nodup_iff.2 List.nodup_range
 · exact hperm.mem_iff.2 (List.mem_range.2 hi)
end Go.Proofs.Ytcmkdoahkncakaa
