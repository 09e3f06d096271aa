/- Plain Lean: what the functions on nodes compute. Its conditions: none. -/
import Derived.Test.YtcmkdoahkncakaaNodeFH
import Derived.Test.YtcmkdoahkncakaaMStreamH
import Derived.Test.YtcmkdoahkncakaaPLoopH
import Derived.Test.YtcmkdoahkncakaaPKeyH
import Derived.Test.YtcmkdoahkncakaaPRunH
namespace Go.Proofs.Ytcmkdoahkncakaa
set_option linter.unusedVariables false
set_option linter.unusedSimpArgs false
variable {F:Nat} [Big F]
def SpotO (a b:DSpot):Prop:=cmpS a b<0
def zE (s:DSpot):DElem:=⟨s.key,s.made,0,ByteArray.mk #[]⟩
def Eo (l:List DElem)(k:Nat)(e:DElem):Option Int :=
 if DG e≠0 then some (DG e) else match k with
  | 0=>none
  | j+1=>match l[j]? with
   | some p=>if 0≤cmpS (Dy p) (Dy e) then some 3 else none
   | none=>none
def Jz (n:DNode):Int :=
 if 0<n.kids.length∨0<n.seps.length∨0<n.tids.length then 3 else if 8<n.elems.length then 2 else (n.elems.zipIdx.findSome? fun p=>Eo n.elems p.2 p.1).getD 0
def Ge (ts:List Int)(k:Nat)(e:Int):Option Int :=
 if e<0∨400≤e then some 1 else if (ts[k]?).getD 0<0∨2147483647<(ts[k]?).getD 0 then some 9 else none
def Hc (l:List DSpot)(k:Nat)(s:DSpot):Option Int :=
 if DG (zE s)≠0 then some (DG (zE s)) else match k with
  | 0=>none
  | j+1=>match l[j]? with
   | some p=>if 0≤cmpS p s then some 3 else none
   | none=>none
def HM (n:DNode):Int :=
 if 0<n.elems.length∨n.kids.length<2∨n.seps.length+1≠n.kids.length∨n.tids.length≠n.kids.length then 3
 else if 8<n.kids.length then 2
 else match n.kids.zipIdx.findSome? fun p=>Ge n.tids p.2 p.1 with
  | some e=>e
  | none=>(n.seps.zipIdx.findSome? fun p=>Hc n.seps p.2 p.1).getD 0
def DS (n:DNode):Int :=
 if n.kind=0 then if 0<n.elems.length∨0<n.kids.length∨0<n.seps.length∨0<n.tids.length then 3 else 0
 else if n.kind=1 then Jz n else if n.kind=2 then HM n else 3
theorem I4 (n:DNode):Ah F n=some (Jz n):=by
 unfold Ah Jz
 simp only [Bool.cond_eq_ite,Bool.or_eq_true,decide_eq_true_eq]
 by_cases h:0<n.kids.length∨0<n.seps.length∨0<n.tids.length
 · rw [if_pos h,if_pos (by omega)]
 rw [if_neg h,if_neg (by omega)]
 by_cases h8:8<n.elems.length
 · rw [if_pos h8,if_pos (by omega)]
 rw [if_neg h8,if_neg (by omega)]
 rw [Fa n.elems (fun k e=>(Eo n.elems k e).map Sum.inr) (.inl ()) (by omega) rfl (fun k e hk hb=>?_) (by simp)]
 · rw [Es,obs]
   cases (n.elems.zipIdx.findSome? fun p=>Eo n.elems p.2 p.1) <;> rfl
 · have hkl:=(ggs.1 hk).1
   rw [if_pos (by omega),DA,hk,obs,Ei,obs]
   unfold Eo
   by_cases hc:DG e=0
   · rw [if_neg (show ¬ ((DG e != 0)=true) by simpa using hc),if_neg (show ¬ (DG e≠0) by simpa using hc)]
     cases k with
     | zero =>
      rw [if_neg (show ¬ ((0:Int)<((0:Nat):Int)) by omega),w64 (by omega) (by omega)];rfl
     | succ j =>
      obtain⟨p,hp⟩ : ∃ p,n.elems[j]? = some p:=⟨_,gge (by omega)⟩
      have e1:IntKind.i64.wrap (((j+1:Nat):Int)-1)=(j:Int):=by rw [w64 (by omega) (by omega)];omega
      rw [if_pos (show (0:Int)<((j+1:Nat):Int) by omega),e1,DA,hp]
      simp only [obs,DF,DL,decide_eq_true_eq,hp]
      by_cases hs:0≤cmpS (Dy p) (Dy e)
      · rw [if_pos hs,if_pos hs];rfl
      · rw [if_neg hs,if_neg hs,w64 (by omega) (by omega)];rfl
   · rw [if_pos (show ((DG e != 0)=true) by simpa using hc),if_pos (show (DG e≠0) by simpa using hc)];rfl
theorem Ib (n:DNode)(hn:n.kids.length≤9000000000000000000)(hs:n.seps.length≤9000000000000000000):zC F n=some (HM n):=by
 unfold zC HM
 simp only [Bool.cond_eq_ite,Bool.or_eq_true,decide_eq_true_eq,bne_iff_ne,ne_eq]
 rw [w64 (n:=(n.kids.length:Int)-1) (by omega) (by omega)]
 by_cases h:0<n.elems.length∨n.kids.length<2∨n.seps.length+1≠n.kids.length∨n.tids.length≠n.kids.length
 · rw [if_pos h,if_pos (by omega)]
 rw [if_neg h,if_neg (by omega)]
 by_cases h8:8<n.kids.length
 · rw [if_pos h8,if_pos (by omega)]
 rw [if_neg h8,if_neg (by omega)]
 rw [Fa n.kids (fun k e=>(Ge n.tids k e).map Sum.inr) (.inl ()) (by omega) rfl (fun k e hk hb=>?_) (by simp)]
 · rw [Es,obs]
   cases (n.kids.zipIdx.findSome? fun p=>Ge n.tids p.2 p.1) with
   | some e=>rfl
   | none =>
    show (iter _ F (0:Int)).bind _=_
    rw [Fa n.seps (fun k e=>(Hc n.seps k e).map Sum.inr) (.inl ()) (by omega) rfl (fun k e hk hb=>?_) (by simp)]
    · rw [Es,obs]
      cases (n.seps.zipIdx.findSome? fun p=>Hc n.seps p.2 p.1) <;> rfl
    · have hkl:=(ggs.1 hk).1
      rw [if_pos (by omega),DA,hk,obs,Ei,obs]
      unfold Hc
      show (if ¬ DG (zE e)=0 then _ else _)=_
      by_cases hc:DG (zE e)=0
      · rw [if_neg (show ¬ ¬ (DG (zE e)=0) by simpa using hc),if_neg (show ¬ (DG (zE e)≠0) by simpa using hc)]
        cases k with
        | zero =>
         rw [if_neg (show ¬ ((0:Int)<((0:Nat):Int)) by omega),w64 (by omega) (by omega)];rfl
        | succ j =>
         obtain⟨p,hp⟩ : ∃ p,n.seps[j]? = some p:=⟨_,gge (by omega)⟩
         have e1:IntKind.i64.wrap (((j+1:Nat):Int)-1)=(j:Int):=by rw [w64 (by omega) (by omega)];omega
         rw [if_pos (show (0:Int)<((j+1:Nat):Int) by omega),e1,DA,hp]
         simp only [obs,DL,decide_eq_true_eq,hp]
         by_cases hs:0≤cmpS p e
         · rw [if_pos hs,if_pos hs];rfl
         · rw [if_neg hs,if_neg hs,w64 (by omega) (by omega)];rfl
      · rw [if_pos (show ¬ (DG (zE e)=0) from hc),if_pos (show (DG (zE e)≠0) from hc)];rfl
 · have hkl:=(ggs.1 hk).1
   rw [if_pos (by omega),DA,hk,obs]
   unfold Ge
   by_cases h1:e<0∨400≤e
   · rw [if_pos h1,if_pos h1];rfl
   · obtain⟨t,ht⟩ : ∃ t,n.tids[k]? = some t:=⟨_,gge (by omega)⟩
     rw [if_neg h1,if_neg h1,DA,ht,obs,Option.getD_some]
     by_cases h2:t<0∨2147483647<t
     · rw [if_pos h2,if_pos h2];rfl
     · rw [if_neg h2,if_neg h2,w64 (by omega) (by omega)];rfl
structure Small (n:DNode):Prop where
 elems:n.elems.length≤9000000000000000000
 kids:n.kids.length≤9000000000000000000
 seps:n.seps.length≤9000000000000000000
 tids:n.tids.length≤9000000000000000000
theorem Ia (n:DNode)(h:Small n):zA F n=some (DS n):=by
 unfold zA DS
 simp only [Bool.cond_eq_ite,Bool.or_eq_true,decide_eq_true_eq,beq_iff_eq]
 by_cases h0:n.kind=0
 · rw [if_pos h0,if_pos h0]
   by_cases h1:0<n.elems.length∨0<n.kids.length∨0<n.seps.length∨0<n.tids.length
   · rw [if_pos h1,if_pos (by omega)]
   · rw [if_neg h1,if_neg (by omega)]
 rw [if_neg h0,if_neg h0]
 by_cases h1:n.kind=1
 · rw [if_pos h1,if_pos h1,I4];rfl
 rw [if_neg h1,if_neg h1]
 by_cases h2:n.kind=2
 · rw [if_pos h2,if_pos h2,Ib n h.kids h.seps];rfl
 · rw [if_neg h2,if_neg h2]
structure Leaf (n:DNode):Prop where
 kids:n.kids=[]
 seps:n.seps=[]
 tids:n.tids=[]
 len:n.elems.length≤8
 ok : ∀ e∈n.elems,DG e=0
 ord:n.elems.Pairwise SpO
structure Inner (n:DNode):Prop where
 elems:n.elems=[]
 two:2≤n.kids.length
 eight:n.kids.length≤8
 seps:n.seps.length+1=n.kids.length
 tids:n.tids.length=n.kids.length
 kid : ∀ k∈n.kids,0≤k∧k<400
 tid : ∀ t∈n.tids,0≤t∧t≤2147483647
 ok : ∀ s∈n.seps,DG (zE s)=0
 ord:n.seps.Pairwise SpotO
theorem Fe {α:Type}{R:α→α→Prop}(ht : ∀ a b c,R a b→R b c→R a c):∀ {l:List α},(∀ j p e,l[j]? = some p→l[j+1]? = some e→R p e)→l.Pairwise R
 | [],_=>List.Pairwise.nil
 | [a],_=>List.pairwise_singleton _ _
 | a::b::l,h=>by
  have ih:=Fe ht (l:=b::l) fun j p e h1 h2=>h (j+1) p e h1 h2
  have hab:=h 0 a b rfl rfl
  rw [List.pairwise_cons]
  refine⟨fun x hx=>?_,ih⟩
  rcases List.mem_cons.1 hx with rfl | hx
  · exact hab
  · rw [List.pairwise_cons] at ih
    exact ht _ _ _ hab (ih.1 x hx)
theorem Eg {α:Type}{R:α→α→Prop}{l:List α}(h:l.Pairwise R){i j:Nat}{a b:α}(hij:i<j)(ha:l[i]? = some a)(hb:l[j]? = some b):R a b:=by
 obtain⟨h1,rfl⟩:=ggs.1 ha
 obtain⟨h2,rfl⟩:=ggs.1 hb
 exact List.pairwise_iff_getElem.1 h i j h1 h2 hij
theorem EK {l:List DElem}{k:Nat}{e:DElem}:Eo l k e=none↔DG e=0∧∀ j p,k=j+1→l[j]? = some p→SpO p e:=by
 unfold Eo
 by_cases hc:DG e=0
 · rw [if_neg (by simpa using hc)]
   cases k with
   | zero=>exact ⟨fun _=>⟨hc,fun j p h=>by omega⟩,fun _=>rfl⟩
   | succ j =>
    dsimp only
    constructor
    · intro h
      refine⟨hc,fun j' p hj hp=>?_⟩
      obtain rfl:j=j':=by omega
      rw [hp] at h
      dsimp only at h
      split at h
      · cases h
      · unfold SpO;omega
    · rintro⟨_,h⟩
      cases hp:l[j]? with
      | none=>rfl
      | some p =>
       have:=h j p rfl hp
       unfold SpO at this
       dsimp only
       rw [if_neg (by omega)]
 · rw [if_pos (by simpa using hc)]
   constructor
   · intro h;cases h
   · exact fun h=>absurd h.1 hc
theorem GT {l:List DSpot}{k:Nat}{e:DSpot}:Hc l k e=none↔DG (zE e)=0∧∀ j p,k=j+1→l[j]? = some p→SpotO p e:=by
 unfold Hc
 by_cases hc:DG (zE e)=0
 · rw [if_neg (by simpa using hc)]
   cases k with
   | zero=>exact ⟨fun _=>⟨hc,fun j p h=>by omega⟩,fun _=>rfl⟩
   | succ j =>
    dsimp only
    constructor
    · intro h
      refine⟨hc,fun j' p hj hp=>?_⟩
      obtain rfl:j=j':=by omega
      rw [hp] at h
      dsimp only at h
      split at h
      · cases h
      · unfold SpotO;omega
    · rintro⟨_,h⟩
      cases hp:l[j]? with
      | none=>rfl
      | some p =>
       have:=h j p rfl hp
       unfold SpotO at this
       dsimp only
       rw [if_neg (by omega)]
 · rw [if_pos (by simpa using hc)]
   constructor
   · intro h;cases h
   · exact fun h=>absurd h.1 hc
theorem I8 {l:List DElem}{k:Nat}{e:DElem}:Eo l k e≠some 0:=by
 unfold Eo
 by_cases hc:DG e=0
 · rw [if_neg (by simpa using hc)]
   cases k with
   | zero=>simp
   | succ j=>dsimp only;split <;> (try split) <;> simp
 · rw [if_pos (by simpa using hc)];simpa using hc
theorem JP {l:List DSpot}{k:Nat}{e:DSpot}:Hc l k e≠some 0:=by
 unfold Hc
 by_cases hc:DG (zE e)=0
 · rw [if_neg (by simpa using hc)]
   cases k with
   | zero=>simp
   | succ j=>dsimp only;split <;> (try split) <;> simp
 · rw [if_pos (by simpa using hc)];simpa using hc
theorem Jy {l:List Int}{k:Nat}{e:Int}:Ge l k e≠some 0:=by
 unfold Ge;split
 · simp
 · split <;> simp
theorem Iw {α:Type}{l:List α}{w:Nat→α→Option Int}(hw : ∀ k e,w k e≠some 0):((l.zipIdx.findSome? fun p=>w p.2 p.1).getD 0=0)↔∀ k e,l[k]? = some e→w k e=none:=by
 rw [← FH]
 cases hf:(l.zipIdx.findSome? fun p=>w p.2 p.1) with
 | none=>simp
 | some r =>
  obtain⟨k,e,_,h⟩:=Gs hf
  constructor
  · intro h0
    simp at h0
    subst h0
    exact absurd h (hw k e)
  · intro h0;cases h0
theorem Kg {n:DNode}:Jz n=0↔Leaf n:=by
 unfold Jz
 by_cases h:0<n.kids.length∨0<n.seps.length∨0<n.tids.length
 · rw [if_pos h]
   constructor
   · intro h0;cases h0
   · rintro⟨h1,h2,h3,_⟩;rw [h1,h2,h3] at h;simp at h
 rw [if_neg h]
 have e1:n.kids=[]:=List.length_eq_zero_iff.1 (by omega)
 have e2:n.seps=[]:=List.length_eq_zero_iff.1 (by omega)
 have e3:n.tids=[]:=List.length_eq_zero_iff.1 (by omega)
 by_cases h8:8<n.elems.length
 · rw [if_pos h8]
   constructor
   · intro h0;cases h0
   · intro h0;have:=h0.len;omega
 rw [if_neg h8,Iw (w:=Eo n.elems) (fun k e=>I8)]
 constructor
 · intro hn
   refine⟨e1,e2,e3,by omega,fun e he=>?_,Fe (R:=SpO) (l:=n.elems) (fun a b c h1 h2=>SpO.trans h1 h2) (fun j p e hp he=>?_)⟩
   · obtain⟨k,hk⟩:=List.mem_iff_getElem?.1 he
     exact(EK.1 (hn k e hk)).1
   · exact(EK.1 (hn (j+1) e he)).2 j p rfl hp
 · intro hl k e hk
   refine EK.2 ⟨hl.ok e (List.mem_of_getElem? hk),fun j p hj hp=>Eg hl.ord (i:=j) (j:=k) (by omega) hp hk⟩
theorem SpotO.trans {a b c:DSpot}(h:SpotO a b)(k:SpotO b c):SpotO a c:=DC.lt_trans h k
theorem Jv {n:DNode}:HM n=0↔Inner n:=by
 unfold HM
 by_cases h:0<n.elems.length∨n.kids.length<2∨n.seps.length+1≠n.kids.length∨n.tids.length≠n.kids.length
 · rw [if_pos h]
   constructor
   · intro h0;cases h0
   · rintro⟨h1,h2,h3,h4,h5,_⟩;rw [h1] at h;simp at h;omega
 rw [if_neg h]
 have e1:n.elems=[]:=List.length_eq_zero_iff.1 (by omega)
 by_cases h8:8<n.kids.length
 · rw [if_pos h8]
   constructor
   · intro h0;cases h0
   · intro h0;have:=h0.eight;omega
 rw [if_neg h8]
 have hkids:(∀ k e,n.kids[k]? = some e→Ge n.tids k e=none)↔(∀ k∈n.kids,0≤k∧k<400)∧∀ t∈n.tids,0≤t∧t≤2147483647:=by
  constructor
  · intro hn
    refine⟨fun e he=>?_,fun t ht=>?_⟩
    · obtain⟨k,hk⟩:=List.mem_iff_getElem?.1 he
      have:=hn k e hk
      unfold Ge at this
      split at this
      · cases this
      · omega
    · obtain⟨k,hk⟩:=List.mem_iff_getElem?.1 ht
      have hkl:=(ggs.1 hk).1
      have:=hn k _ (gge (show k<n.kids.length by omega))
      unfold Ge at this
      rw [hk] at this
      split at this
      · cases this
      · split at this
        · cases this
        · rename_i h2 h3
          simp only [Option.getD_some] at h3
          omega
  · rintro⟨h1,h2⟩ k e hk
    have hkl:=(ggs.1 hk).1
    have g1:=h1 e (List.mem_of_getElem? hk)
    have hlt:k<n.tids.length:=by omega
    have g2:=h2 _ (List.getElem_mem hlt)
    unfold Ge
    rw [if_neg (by omega),gge hlt,Option.getD_some,if_neg (by omega)]
 cases hf:(n.kids.zipIdx.findSome? fun p=>Ge n.tids p.2 p.1) with
 | some r =>
  obtain⟨k,e,hk,hr⟩:=Gs hf
  dsimp only
  constructor
  · intro h0;subst h0;exact absurd hr Jy
  · intro hi
    have:=hkids.2 ⟨hi.kid,hi.tid⟩ k e hk
    rw [this] at hr;cases hr
 | none =>
  have hk:=hkids.1 (FH.1 hf)
  dsimp only
  rw [Iw (w:=Hc n.seps) (fun k e=>JP)]
  constructor
  · intro hn
    refine⟨e1,by omega,by omega,by omega,by omega,hk.1,hk.2,fun e he=>?_,Fe (R:=SpotO) (l:=n.seps) (fun a b c h1 h2=>SpotO.trans h1 h2) (fun j p e hp he=>?_)⟩
    · obtain⟨k,hk⟩:=List.mem_iff_getElem?.1 he
      exact(GT.1 (hn k e hk)).1
    · exact(GT.1 (hn (j+1) e he)).2 j p rfl hp
  · intro hl k e hk
    refine GT.2 ⟨hl.ok e (List.mem_of_getElem? hk),fun j p hj hp=>Eg hl.ord (i:=j) (j:=k) (by omega) hp hk⟩
def MN (n:DNode):Prop:=n.elems=[]∧n.kids=[]∧n.seps=[]∧n.tids=[]
theorem DV {n:DNode}:DS n=0↔(n.kind=0∧MN n)∨(n.kind=1∧Leaf n)∨(n.kind=2∧Inner n):=by
 unfold DS MN
 by_cases h0:n.kind=0
 · rw [if_pos h0]
   have:(n.elems=[]∧n.kids=[]∧n.seps=[]∧n.tids=[])↔¬ (0<n.elems.length∨0<n.kids.length∨0<n.seps.length∨0<n.tids.length):=by
    rw [← List.length_eq_zero_iff,← List.length_eq_zero_iff,← List.length_eq_zero_iff,← List.length_eq_zero_iff];omega
   rw [this]
   split
   · rename_i h;simp [h0,h]
   · rename_i h;simp [h0,h]
 rw [if_neg h0]
 by_cases h1:n.kind=1
 · rw [if_pos h1,Kg];simp [h1]
 rw [if_neg h1]
 by_cases h2:n.kind=2
 · rw [if_pos h2,Jv];simp [h2]
 · rw [if_neg h2];simp [h0,h1,h2]
def maxI (a b:Int):Int:=if a<b then b else a
def DE (n:DNode):Int:=n.tids.foldl maxI (n.elems.foldl (fun t e=>maxI t (Ea e)) 0)
theorem Ef (n:DNode)(h:Small n):wy F n=some (DE n):=by
 unfold wy DE
 have h1:=h.elems
 have h2:=h.tids
 rw [Fb n.elems (fun t e=>maxI t (Ea e)) 0 (r:=n.elems.foldl (fun t e=>maxI t (Ea e)) 0) (by omega) rfl (fun k e hk=>?_) (by simp),obs]
 · rw [Fb n.tids maxI (n.elems.foldl (fun t e=>maxI t (Ea e)) 0) (r:=n.tids.foldl maxI (n.elems.foldl (fun t e=>maxI t (Ea e)) 0)) (by omega) rfl (fun k e hk=>?_) (by simp),obs]
   have hkl:=(ggs.1 hk).1
   dsimp only
   rw [decide_eq_true (by omega),cond_true,DA,hk,obs,w64 (by omega) (by omega)];rfl
 · have hkl:=(ggs.1 hk).1
   dsimp only
   rw [decide_eq_true (by omega),cond_true,DA,hk,obs,IQ,obs,w64 (by omega) (by omega)];rfl
theorem Hh {α:Type}(g:α→Int):∀(l:List α) (a:Int),a≤l.foldl (fun t e=>maxI t (g e)) a∧(∀ e∈l,g e≤l.foldl (fun t e=>maxI t (g e)) a)∧(l.foldl (fun t e=>maxI t (g e)) a=a∨∃ e∈l,g e=l.foldl (fun t e=>maxI t (g e)) a)
 | [],a=>⟨Int.le_refl _,fun e he=>by simp at he,.inl rfl⟩
 | x::l,a=>by
  obtain⟨h1,h2,h3⟩:=Hh g l (maxI a (g x))
  rw [List.foldl_cons]
  have hm:a≤maxI a (g x)∧g x≤maxI a (g x)∧(maxI a (g x)=a∨maxI a (g x)=g x):=by unfold maxI;split <;> omega
  refine⟨by omega,fun e he=>?_,?_⟩
  · rcases List.mem_cons.1 he with rfl | he
    · omega
    · exact h2 e he
  · rcases h3 with h3 | ⟨e,he,h3⟩
    · rcases hm.2.2 with h4 | h4
      · left;omega
      · right;exact⟨x,by simp,by omega⟩
    · right;exact⟨e,List.mem_cons_of_mem _ he,h3⟩
theorem GK (n:DNode):(∀ e∈n.elems,Ea e≤DE n)∧(∀ t∈n.tids,t≤DE n)∧(DE n=0∨(∃ e∈n.elems,Ea e=DE n)∨∃ t∈n.tids,t=DE n):=by
 unfold DE
 obtain⟨h1,h2,h3⟩:=Hh Ea n.elems 0
 obtain⟨g1,g2,g3⟩:=Hh (fun t=>t) n.tids (n.elems.foldl (fun t e=>maxI t (Ea e)) 0)
 have ee:(fun t e=>maxI t ((fun t=>t) e))=maxI:=rfl
 rw [ee] at g1 g2 g3
 refine⟨fun e he=>Int.le_trans (h2 e he) g1,g2,?_⟩
 rcases g3 with g3 | ⟨t,ht,g3⟩
 · rw [g3]
   rcases h3 with h3 | ⟨e,he,h3⟩
   · exact .inl h3
   · exact .inr (.inl ⟨e,he,h3⟩)
 · exact .inr (.inr ⟨t,ht,g3⟩)
def ET (l:List DSpot)(s:DSpot):Nat:=(l.takeWhile fun x=>decide (cmpS x s≤0)).length
theorem HF (l:List DSpot)(s:DSpot):ET l s≤l.length:=(List.takeWhile_sublist _).length_le
theorem Je (l:List DSpot)(s:DSpot):(∀ j x,j<ET l s→l[j]? = some x→cmpS x s≤0)∧∀ x,l[ET l s]? = some x→¬ cmpS x s≤0:=by
 unfold ET
 induction l with
 | nil=>exact ⟨fun j x _ h=>by simp at h,fun x h=>by simp at h⟩
 | cons a l ih =>
  by_cases ha:cmpS a s≤0
  · rw [List.takeWhile_cons_of_pos (by simpa using ha),List.length_cons]
    refine⟨fun j x hj hx=>?_,fun x hx=>ih.2 x hx⟩
    cases j with
    | zero=>cases hx;exact ha
    | succ j=>exact ih.1 j x (by omega) hx
  · rw [List.takeWhile_cons_of_neg (by simpa using ha)]
    exact⟨fun j x hj _=>by simp at hj,fun x hx=>by cases hx;exact ha⟩
theorem EL (n:DNode)(s:DSpot)(h:Small n):yd F n s=some (ET n.seps s:Int):=by
 unfold yd
 have h1:=h.seps
 have hle:=HF n.seps s
 obtain⟨w1,w2⟩:=Je n.seps s
 rw [D7 (s:=0) (fun k=>(k:Int)) (ET n.seps s) (r:=(ET n.seps s:Int)) rfl (by omega) (fun k hk=>?_) ?_,obs]
 · by_cases hl:ET n.seps s<n.seps.length
   · have hx:=gge hl
     rw [decide_eq_true (by omega),cond_true,DA,hx,obs,DL,obs,obs,decide_eq_false (w2 _ hx),cond_false]
   · rw [decide_eq_false (by omega),cond_false,obs,cond_false]
 · have hx:=gge (show k<n.seps.length by omega)
   rw [decide_eq_true (by omega),cond_true,DA,hx,obs,DL,obs,obs,decide_eq_true (w1 k _ hk hx),cond_true,w64 (by omega) (by omega)];rfl
theorem LV {n:DNode}(h:okNode n):Small n:=by
 obtain⟨_,h1,h2,h3,h4⟩:=h
 have:=h1.1;have:=h2.1;have:=h3.1;have:=h4.1
 unfold reachBytes at *
 constructor <;> omega
end Go.Proofs.Ytcmkdoahkncakaa
