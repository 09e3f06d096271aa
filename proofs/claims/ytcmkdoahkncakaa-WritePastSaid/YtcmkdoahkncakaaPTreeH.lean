/- Plain Lean: what the functions on trees compute. Its conditions: none. -/
import Derived.Test.YtcmkdoahkncakaaTreeFH
import Derived.Test.YtcmkdoahkncakaaMTreeH
namespace Go.Proofs.Ytcmkdoahkncakaa
set_option linter.unusedVariables false
set_option linter.unusedSimpArgs false
variable {F:Nat} [Big F]
theorem FJ {σ ρ:Type}{f:(σ→Option ρ)→σ→Option ρ}(Pre:Nat→σ→Prop)(spec:Nat→σ→ρ)(h0 : ∀ s,¬ Pre 0 s)
 (h : ∀(m:Nat) (self:σ→Option ρ),(∀ s,Pre m s→self s=some (spec m s))→∀ s,Pre (m+1) s→f self s=some (spec (m+1) s)):∀(m:Nat) (s:σ),Pre m s→Ae f m s=some (spec m s)
 | 0,s,hs=>absurd hs (h0 s)
 | m+1,s,hs=>h m (Ae f m) (fun s hs=>FJ Pre spec h0 h m s hs) s hs
theorem GY (e:Int):(bif (e == 0) then some 3 else some e:Option Int)=some (fl e):=by
 unfold fl
 by_cases h:e=0
 · subst h;rfl
 · have:(e == 0)=false:=by simpa using h
   rw [this,if_neg h];rfl
theorem Ju (lo hi x:DSpot)(a b:Bool) :
 (bif (!a) then (bif (!b) then some true else (wF x hi).bind fun r6=>some (decide (r6<0)))
  else (wF lo x).bind fun r4=>bif decide (r4≤0) then (bif (!b) then some true else (wF x hi).bind fun r5=>some (decide (r5<0))) else some false:Option Bool)=some (inS ⟨lo,hi,a,b⟩ x):=by
 simp only [DL,obs]
 unfold inS
 cases a <;> cases b <;> by_cases h1:cmpS lo x≤0 <;> simp [h1]
abbrev SV:=List Bool × Int × Int × Int × Int × Int × Int × Int × Int × Int × Int × Int × Int × Bool × Bool
def JT (ns:List DNode)(m:Nat):SV→List Bool × Int × Int × Int
 | (x2,x3,x4,x5,x6,x7,x8,x9,x10,x11,x12,x13,x14,x15,x16) =>
  let r:=vis ns m (x2,x3,x4) x5 x6 ⟨⟨⟨x7,x8,x9⟩,x10⟩,⟨⟨x11,x12,x13⟩,x14⟩,x15,x16⟩
  (r.1.1,r.1.2.1,r.1.2.2,r.2)
def MQ (ns:List DNode)(m:Nat):SV→Prop
 | (x2,x3,x4,x5,x6,x7,x8,x9,x10,x11,x12,x13,x14,x15,x16)=>x2.length=ns.length∧unseen x2<m∧0≤x6∧x6+(unseen x2:Int)≤1000
theorem K7 {l:List DNode}(h:l.length≤400):CH 1 (l.length:Int)=some ():=by
 unfold CH;rw [if_pos ⟨by omega,by omega,by unfold maxLen;omega⟩]
theorem Ka {α:Type}(l:List α){i:Int}(h:0≤i):idx l i=l[i.toNat]?:=by unfold idx;rw [if_neg (by omega)]
theorem Gh {ns:List DNode}{i:Int}(h0:0≤i)(h1:i<(ns.length:Int)):idx ns i=some (nd ns i):=by
 unfold nd
 rw [Ka _ h0,gge (show i.toNat<ns.length by omega)];rfl
theorem Lq (ns:List DNode)(seen:List Bool)(i:Int)(hl:seen.length=ns.length) :
 (bif decide (i<0) then some true else bif decide ((ns.length:Int)≤i) then some true else (idx seen i).bind fun e2=>bif e2 then some true else (idx ns i).bind fun e3=>some (e3.kind == 0):Option Bool) =
  some (decide (i<0∨(ns.length:Int)≤i∨(seen[i.toNat]?).getD true=true∨(nd ns i).kind=0)):=by
 by_cases h0:i<0
 · simp [h0]
 by_cases h1:(ns.length:Int)≤i
 · simp [h1,h0]
 have hg:seen[i.toNat]? = some seen[i.toNat]:=gge (by omega)
 rw [Ka _ (by omega),Gh (by omega) (by omega),hg]
 cases hb:seen[i.toNat] with
 | true=>simp [h0,h1]
 | false=>by_cases hk:(nd ns i).kind=0 <;> simp [h0,h1,hk]
theorem ES {n:DNode}(h:DS n=0):n.elems.length≤8∧n.kids.length≤8:=by
 rcases DV.1 h with h | h | h
 · rw [h.2.1,h.2.2.1];simp
 · have:=h.2.len;rw [h.2.kids];simpa using this
 · have:=h.2.eight;rw [h.2.elems];simpa using this
theorem KY (n:DNode)(d:Int)(h:DS n=0) :
 (bif (decide ((0:Int)<d)&&decide (IntKind.i64.wrap ((n.elems.length:Int)+(n.kids.length:Int))<4)) then ((bif ((0:Int) == 0) then some 3 else some 0:Option Int).bind fun z8=>some z8) else some 0:Option Int) =
  some (if 0<d∧n.elems.length+n.kids.length<4 then 3 else 0):=by
 obtain⟨h1,h2⟩:=ES h
 rw [w64 (by omega) (by omega)]
 by_cases hd:0<d <;> by_cases hf:(n.elems.length:Int)+(n.kids.length:Int)<4
 · rw [if_pos ⟨hd,by omega⟩];simp [hd,hf]
 · rw [if_neg (by omega)];simp [hf]
 · rw [if_neg (by omega)];simp [hd]
 · rw [if_neg (by omega)];simp [hd]
theorem KC (ns:List DNode)(hns : ∀ n∈ns,DS n=0)(hs' : ∀ n∈ns,Small n)(m:Nat)(self:SV→Option (List Bool × Int × Int × Int))(ih : ∀ s,MQ ns m s→self s=some (JT ns m s))
 (x2:List Bool) (x3 x4 x5 x6:Int) (s:Span) (hlen:x2.length=ns.length) (hun:unseen x2<m+1) (hd0:0≤x6) (hd1:x6+(unseen x2:Int)≤1000) :
 (
  bif (x4 != 0) then
   some (x2,x3,x4,0)
   else
    (
     bif decide (x5<0) then
      some true
      else
       bif decide ((ns.length:Int)≤x5) then
        some true
       else
        (idx x2 x5).bind fun e2 =>
        bif e2 then
         some true
        else
         (idx ns x5).bind fun e3 =>
         some (e3.kind == 0):Option (Bool)).bind fun z5 =>
    bif z5 then
     (
      bif (x4 == 0) then
       some 3
       else
        some x4:Option (Int)).bind fun z6 =>
     some (x2,x3,z6,0)
    else
     (idx x2 x5).bind fun e4 =>
     (idx ns x5).bind fun e5 =>
     (
      bif ((decide ((0:Int)<x6))&&(decide ((IntKind.i64.wrap ((e5.elems.length:Int)+(e5.kids.length:Int)))<4))) then
       (
        bif (x4 == 0) then
         some 3
         else
          some x4:Option (Int)).bind fun z8 =>
       some z8
       else
        some x4:Option (Int)).bind fun z7 =>
     bif (e5.kind == 1) then
      (
       bif decide (x3<0) then
        some x6
        else
         some x3:Option (Int)).bind fun z9 =>
      (
       bif (z9 != x6) then
        (
         bif (z7 == 0) then
          some 3
          else
           some z7:Option (Int)).bind fun z11 =>
        some z11
        else
         some z7:Option (Int)).bind fun z10 =>
      (iter (σ:=Int × Int) (ρ:=Int) (fun x=>match x with
       | (x17,x18) =>
        bif decide (x18<(e5.elems.length:Int)) then
         (
          (idx e5.elems x18).bind fun e6 =>
           (wj e6).bind fun r3 =>
           (
            (
             bif (!s.hasLo) then
              bif (!s.hasHi) then
               some true
              else
               (wF r3 (DSpot.mk (DKey.mk s.hi.key.pfs s.hi.key.obj s.hi.key.off) s.hi.made)).bind fun r6 =>
               some (decide (r6<0))
              else
               (wF (DSpot.mk (DKey.mk s.lo.key.pfs s.lo.key.obj s.lo.key.off) s.lo.made) r3).bind fun r4 =>
               bif decide (r4≤0) then
                bif (!s.hasHi) then
                 some true
                else
                 (wF r3 (DSpot.mk (DKey.mk s.hi.key.pfs s.hi.key.obj s.hi.key.off) s.hi.made)).bind fun r5 =>
                 some (decide (r5<0))
               else
                some false:Option (Bool)).bind fun z15 =>
             some z15:Option (Bool)).bind fun z14 =>
           bif (!z14) then
            (
             bif (x17 == 0) then
              some 3
              else
               some x17:Option (Int)).bind fun z16 =>
            some z16
           else
            some x17:Option (Int)).bind fun z13 =>
         some (.inl (z13,IntKind.i64.wrap (x18+1)))
         else
          some (.inr x17)) F (z10,0)).bind fun z12 =>
      (wy F e5).bind fun r7 =>
      some ((x2.set x5.toNat true),z9,z12,r7)
     else
      (iter (σ:=(List Bool) × Int × Int × Int) (ρ:=(List Bool) × Int × Int) (fun x=>match x with
       | (x19,x20,x21,x22) =>
        bif decide (x22<(e5.kids.length:Int)) then
         (
          (idx e5.kids x22).bind fun e7 =>
           (
            bif decide ((0:Int)<x22) then
             (idx e5.seps (IntKind.i64.wrap (x22-1))).bind fun e8 =>
             (
              (
               bif (!s.hasLo) then
                bif (!s.hasHi) then
                 some true
                else
                 (wF e8 (DSpot.mk (DKey.mk s.hi.key.pfs s.hi.key.obj s.hi.key.off) s.hi.made)).bind fun r10 =>
                 some (decide (r10<0))
                else
                 (wF (DSpot.mk (DKey.mk s.lo.key.pfs s.lo.key.obj s.lo.key.off) s.lo.made) e8).bind fun r8 =>
                 bif decide (r8≤0) then
                  bif (!s.hasHi) then
                   some true
                  else
                   (wF e8 (DSpot.mk (DKey.mk s.hi.key.pfs s.hi.key.obj s.hi.key.off) s.hi.made)).bind fun r9 =>
                   some (decide (r9<0))
                 else
                  some false:Option (Bool)).bind fun z30 =>
               some z30:Option (Bool)).bind fun z29 =>
             bif (!z29) then
              (
               bif (x21 == 0) then
                some 3
                else
                 some x21:Option (Int)).bind fun z31 =>
              some (e8.key.pfs,e8.key.obj,e8.key.off,e8.made,true,z31)
             else
              some (e8.key.pfs,e8.key.obj,e8.key.off,e8.made,true,x21)
             else
              some (s.lo.key.pfs,s.lo.key.obj,s.lo.key.off,s.lo.made,s.hasLo,x21):Option (Int × Int × Int × Int × Bool × Int)).bind fun z=>match z with
            | (z23,z24,z25,z26,z27,z28) =>
             (
              bif decide (x22<(e5.seps.length:Int)) then
               (idx e5.seps x22).bind fun e9 =>
               some (e9.key.pfs,e9.key.obj,e9.key.off,e9.made,true)
               else
                some (s.hi.key.pfs,s.hi.key.obj,s.hi.key.off,s.hi.made,s.hasHi):Option (Int × Int × Int × Int × Bool)).bind fun z=>match z with
              | (z32,z33,z34,z35,z36) =>
               (idx e5.tids x22).bind fun e10 =>
               (self (x19,x20,z28,e7,IntKind.i64.wrap (x6+1),z23,z24,z25,z26,z32,z33,z34,z35,z27,z36)).bind fun z=>match z with
                | (z37,z38,z39,z40) =>
                 bif (z40 != e10) then
                  (
                   bif (z39 == 0) then
                    some 3
                    else
                     some z39:Option (Int)).bind fun z41 =>
                  some (z37,z38,z41)
                 else
                  some (z37,z38,z39):Option ((List Bool) × Int × Int)).bind fun z=>match z with
          | (z20,z21,z22) =>
           some (.inl (z20,z21,z22,IntKind.i64.wrap (x22+1)))
         else
          some (.inr (x19,x20,x21))) F ((x2.set x5.toNat true),x3,z7,0)).bind fun z=>match z with
       | (z17,z18,z19) =>
        (wy F e5).bind fun r11 =>
        some (z17,z18,z19,r11):Option (List Bool × Int × Int × Int))=some (let r:=vis ns (m+1) (x2,x3,x4) x5 x6 s;(r.1.1,r.1.2.1,r.1.2.2,r.2)):=by
 rw [vis]
 dsimp only
 by_cases h4:x4=0
 rotate_left
 · rw [DU h4,cond_true,if_pos h4]
 subst h4
 rw [show ((0:Int) != 0)=false from rfl,cond_false,if_neg (by simp),Lq ns x2 x5 hlen,obs]
 by_cases hbad:x5<0∨(ns.length:Int)≤x5∨(x2[x5.toNat]?).getD true=true∨(nd ns x5).kind=0
 · rw [decide_eq_true hbad,cond_true,if_pos hbad];rfl
 rw [decide_eq_false hbad,cond_false,if_neg hbad]
 have h0:0≤x5:=by omega
 have h1:x5<(ns.length:Int):=by omega
 have hx:x2[x5.toNat]? = some false:=by
  have hg:x2[x5.toNat]? = some x2[x5.toNat]:=gge (by omega)
  cases hb:x2[x5.toNat] with
  | false=>rw [hg,hb]
  | true=>rw [hg,hb] at hbad;simp at hbad
 have hn0:=hns _ (Ez h0 h1)
 have hsm:=hs' _ (Ez h0 h1)
 rw [Ka _ h0,hx,obs,Gh h0 h1,obs,KY _ x6 hn0,obs]
 generalize (if 0<x6∧(nd ns x5).elems.length+(nd ns x5).kids.length<4 then (3:Int) else 0)=e1
 by_cases hk:(nd ns x5).kind=1
 · rw [show ((nd ns x5).kind == 1)=true by simpa using hk,cond_true,if_pos hk]
   have hd:(bif decide (x3<0) then some x6 else some x3:Option Int)=some (if x3<0 then x6 else x3):=by
    by_cases h:x3<0 <;> simp [h]
   rw [hd,obs]
   generalize (if x3<0 then x6 else x3)=dp
   have he2:(bif (dp != x6) then ((bif (e1 == 0) then some 3 else some e1:Option Int).bind fun z11=>some z11) else some e1:Option Int)=some (if dp≠x6 then fl e1 else e1):=by
    rw [GY]
    by_cases h:dp=x6
    · simp [h]
    · rw [show (dp != x6)=true by simpa using h,if_pos h];rfl
   rw [he2,obs]
   generalize (if dp≠x6 then fl e1 else e1)=e2
   have h8:=(ES hn0).1
   rw [Fb (nd ns x5).elems (fun e x=>if inS s (Dy x) then e else fl e) e2 (r:=(nd ns x5).elems.foldl (fun e x=>if inS s (Dy x) then e else fl e) e2) (by omega) rfl ?hs ?he]
   case hs =>
    intro k e hk
    have hkl:=(ggs.1 hk).1
    dsimp only
    generalize List.foldl _ e2 (List.take k (nd ns x5).elems)=acc
    rw [show decide ((k:Int)<((nd ns x5).elems.length:Int))=true from decide_eq_true (by omega),cond_true,DA,hk,obs,DF,obs,Ju,obs,obs,w64 (by omega) (by omega)]
    cases hb:inS ⟨s.lo,s.hi,s.hasLo,s.hasHi⟩ (Dy e) with
    | true=>rfl
    | false=>rw [GY];rfl
   case he =>
    dsimp only
    rw [show decide (((nd ns x5).elems.length:Int)<((nd ns x5).elems.length:Int))=false from decide_eq_false (by omega)];rfl
   rw [obs,Ef _ hsm]
   rfl
 · rw [show ((nd ns x5).kind == 1)=false by simpa using hk,cond_false,if_neg hk]
   have hin:=(EQ hns ⟨h0,h1⟩ ⟨fun h=>hbad (.inr (.inr (.inr h))),hk⟩).2
   have h8:=hin.eight
   have hu:unseen (x2.set x5.toNat true)+1=unseen x2:=HZ hx
   have hkeep : ∀ k,Ey (x2.set x5.toNat true) (((nd ns x5).kids.zipIdx.take k).foldl (EB (nd ns x5) (vis ns m) s x6) (x2.set x5.toNat true,x3,e1)).1:=fun k =>
    Hs (n:=nd ns x5) (Hq ns m) s x6 ((nd ns x5).kids.zipIdx.take k) (x2.set x5.toNat true,x3,e1)
   rw [D7 (fun k=>((((nd ns x5).kids.zipIdx.take k).foldl (EB (nd ns x5) (vis ns m) s x6) (x2.set x5.toNat true,x3,e1)).1,(((nd ns x5).kids.zipIdx.take k).foldl (EB (nd ns x5) (vis ns m) s x6) (x2.set x5.toNat true,x3,e1)).2.1,(((nd ns x5).kids.zipIdx.take k).foldl (EB (nd ns x5) (vis ns m) s x6) (x2.set x5.toNat true,x3,e1)).2.2,(k:Int)))
    (nd ns x5).kids.length (r:=(nd ns x5).kids.zipIdx.foldl (EB (nd ns x5) (vis ns m) s x6) (x2.set x5.toNat true,x3,e1)) (s:=(x2.set x5.toNat true,x3,e1,(0:Int))) rfl (by omega) ?hs ?he]
   case hs =>
    intro k hkl
    have hkk:(nd ns x5).kids[k]? = some (nd ns x5).kids[k]:=gge hkl
    have htk:(nd ns x5).kids.zipIdx.take (k+1)=(nd ns x5).kids.zipIdx.take k++[((nd ns x5).kids[k],k)]:=by
     rw [List.take_add_one,List.getElem?_zipIdx,hkk];simp
    have hK:=hkeep k
    dsimp only
    rw [htk,List.foldl_append,List.foldl_cons,List.foldl_nil]
    revert hK
    generalize List.foldl (EB (nd ns x5) (vis ns m) s x6) (x2.set x5.toNat true,x3,e1) (List.take k (nd ns x5).kids.zipIdx)=st
    intro hK
    obtain⟨y1,y2,y3⟩:=st
    dsimp only at hK ⊢
    have hul:=hK.unseen
    have hll:=hK.1
    rw [List.length_set] at hll
    rw [show decide ((k:Int)<((nd ns x5).kids.length:Int))=true from decide_eq_true (by omega),cond_true,DA,hkk,obs]
    have hlo:(bif decide ((0:Int)<(k:Int)) then
     (idx (nd ns x5).seps (IntKind.i64.wrap ((k:Int)-1))).bind fun e8 =>
     (
      (
       bif (!s.hasLo) then
        bif (!s.hasHi) then
         some true
        else
         (wF e8 (DSpot.mk (DKey.mk s.hi.key.pfs s.hi.key.obj s.hi.key.off) s.hi.made)).bind fun r10 =>
         some (decide (r10<0))
        else
         (wF (DSpot.mk (DKey.mk s.lo.key.pfs s.lo.key.obj s.lo.key.off) s.lo.made) e8).bind fun r8 =>
         bif decide (r8≤0) then
          bif (!s.hasHi) then
           some true
          else
           (wF e8 (DSpot.mk (DKey.mk s.hi.key.pfs s.hi.key.obj s.hi.key.off) s.hi.made)).bind fun r9 =>
           some (decide (r9<0))
         else
          some false:Option (Bool)).bind fun z30 =>
       some z30:Option (Bool)).bind fun z29 =>
     bif (!z29) then
      (
       bif (y3 == 0) then
        some 3
        else
         some y3:Option (Int)).bind fun z31 =>
      some (e8.key.pfs,e8.key.obj,e8.key.off,e8.made,true,z31)
     else
      some (e8.key.pfs,e8.key.obj,e8.key.off,e8.made,true,y3)
     else
      some (s.lo.key.pfs,s.lo.key.obj,s.lo.key.off,s.lo.made,s.hasLo,y3):Option (Int × Int × Int × Int × Bool × Int)) =
     some ((E9 (nd ns x5) s k).lo.key.pfs,(E9 (nd ns x5) s k).lo.key.obj,(E9 (nd ns x5) s k).lo.key.off,(E9 (nd ns x5) s k).lo.made,(E9 (nd ns x5) s k).hasLo,if D5 (nd ns x5) s k then fl y3 else y3):=by
     cases k with
     | zero=>rfl
     | succ j =>
      have hsep:=hin.seps
      have hj:(nd ns x5).seps[j]? = some (nd ns x5).seps[j]:=gge (by omega)
      rw [show decide ((0:Int)<((j+1:Nat):Int))=true from decide_eq_true (by omega),cond_true,w64 (by omega) (by omega),show (((j+1:Nat):Int)-1)=(j:Int) by omega,DA,hj,obs,Ju,obs,obs]
      have e1:E9 (nd ns x5) s (j+1) = { s with lo:=(nd ns x5).seps[j],hasLo:=true }:=by
       show (match (nd ns x5).seps[j]? with | some x=>_ | none=>s)=_
       rw [hj]
      have e2:D5 (nd ns x5) s (j+1) = !inS s (nd ns x5).seps[j]:=by
       show (match (nd ns x5).seps[j]? with | some x=>_ | none=>false)=_
       rw [hj]
      rw [e1,e2]
      show ((bif !inS s (nd ns x5).seps[j] then _ else _:Option _))=_
      cases hb:inS s (nd ns x5).seps[j] with
      | true=>rfl
      | false=>rw [GY];rfl
    rw [hlo,obs]
    dsimp only
    have hhi:(bif decide ((k:Int)<((nd ns x5).seps.length:Int)) then (idx (nd ns x5).seps (k:Int)).bind fun e9=>some (e9.key.pfs,e9.key.obj,e9.key.off,e9.made,true)
     else some (s.hi.key.pfs,s.hi.key.obj,s.hi.key.off,s.hi.made,s.hasHi):Option (Int × Int × Int × Int × Bool)) =
     some ((DM (nd ns x5) s k).hi.key.pfs,(DM (nd ns x5) s k).hi.key.obj,(DM (nd ns x5) s k).hi.key.off,(DM (nd ns x5) s k).hi.made,(DM (nd ns x5) s k).hasHi):=by
     have hl1:(E9 (nd ns x5) s k).hi=s.hi∧(E9 (nd ns x5) s k).hasHi=s.hasHi:=by
      unfold E9;split
      · exact⟨rfl,rfl⟩
      · split <;> exact ⟨rfl,rfl⟩
     unfold DM Hw
     by_cases hks:k<(nd ns x5).seps.length
     · have hj:(nd ns x5).seps[k]? = some (nd ns x5).seps[k]:=gge hks
       rw [show decide ((k:Int)<((nd ns x5).seps.length:Int))=true from decide_eq_true (by omega),cond_true,DA,hj];rfl
     · have hj:(nd ns x5).seps[k]? = none:=List.getElem?_eq_none (by omega)
       rw [show decide ((k:Int)<((nd ns x5).seps.length:Int))=false from decide_eq_false (by omega),cond_false,hj,hl1.1,hl1.2]
    rw [hhi,obs]
    dsimp only
    obtain⟨tk,htid⟩ : ∃ tk,(nd ns x5).tids[k]? = some tk:=⟨_,gge (by have:=hin.tids;omega)⟩
    have hlow:(DM (nd ns x5) s k).lo=(E9 (nd ns x5) s k).lo∧(DM (nd ns x5) s k).hasLo=(E9 (nd ns x5) s k).hasLo:=by
     unfold DM Hw;split <;> exact ⟨rfl,rfl⟩
    rw [DA,htid,obs,← hlow.1,← hlow.2,w64 (n:=x6+1) (by omega) (by omega),ih _ ⟨show y1.length=ns.length by omega,show unseen y1<m by omega,show 0≤x6+1 by omega,show x6+1+(unseen y1:Int)≤1000 by omega⟩,obs,w64 (n:=(k:Int)+1) (by omega) (by omega)]
    unfold JT EB
    dsimp only
    rw [htid]
    show ((bif ((vis ns m (y1,y2,_) _ (x6+1) (DM (nd ns x5) s k)).2 != _) then _ else _:Option _).bind _)=_
    generalize vis ns m (y1,y2,if D5 (nd ns x5) s k=true then fl y3 else y3) (nd ns x5).kids[k] (x6+1) (DM (nd ns x5) s k)=r
    rw [Option.getD_some]
    by_cases hr:r.2=tk
    · rw [show (r.2 != tk)=false by simpa using hr,cond_false,if_neg (by simpa using hr)];rfl
    · rw [show (r.2 != tk)=true by simpa using hr,cond_true,if_pos (by simpa using hr),GY];rfl
   case he =>
    dsimp only
    rw [show decide (((nd ns x5).kids.length:Int)<((nd ns x5).kids.length:Int))=false from decide_eq_false (by omega),List.take_of_length_le (by simp)];rfl
   rw [obs]
   dsimp only
   rw [Ef _ hsm]
   rfl
theorem GF (t:DTree)(hs' : ∀ n∈t.nodes,Small n):zH F t=some (F8 F t):=by
 unfold zH F8
 by_cases hl:400<t.nodes.length
 · rw [show decide ((400:Int)<(t.nodes.length:Int))=true from decide_eq_true (by omega),cond_true,if_pos hl]
 rw [show decide ((400:Int)<(t.nodes.length:Int))=false from decide_eq_false (by omega),cond_false,if_neg hl]
 rw [Kh t.nodes (fun n=>(if DS n≠0 then some (DS n) else none).map Sum.inr) (.inl ()) (by omega) rfl (fun k e hk=>?_) (by simp)]
 rotate_left
 · have hkl:=(ggs.1 hk).1
   rw [show decide ((k:Int)<(t.nodes.length:Int))=true from decide_eq_true (by omega),cond_true,DA,hk,obs,Ia e (hs' e (List.mem_of_getElem? hk)),obs]
   by_cases hc:DS e=0
   · rw [DO hc,cond_false,if_neg (show ¬ (DS e≠0) by simpa using hc),w64 (by omega) (by omega)];rfl
   · rw [DU hc,cond_true,if_pos (show (DS e≠0) by simpa using hc)];rfl
 rw [Es,obs]
 cases hf:t.nodes.findSome? fun n=>if DS n≠0 then some (DS n) else none with
 | some e=>rfl
 | none =>
  rw [List.findSome?_eq_none_iff] at hf
  have hns : ∀ n∈t.nodes,DS n=0:=fun n hn=>by
   have:=hf n hn
   split at this
   · cases this
   · rename_i h;simpa using h
  show (CH 1 (t.nodes.length:Int)).bind _=_
  rw [K7 (by omega),obs]
  rw [FJ (MQ t.nodes) (JT t.nodes) ?h0 ?hstep F _ ?hpre]
  case h0 =>
   rintro⟨x2,x3,x4,x5,x6,x7,x8,x9,x10,x11,x12,x13,x14,x15,x16⟩ ⟨_,h,_⟩
   exact absurd h (Nat.not_lt_zero _)
  case hpre =>
   have:=Ig (List.replicate (t.nodes.length:Int).toNat false)
   rw [List.length_replicate] at this
   exact⟨by simp,HR (by omega),Int.le_refl _,by show (0:Int)+_≤_;omega⟩
  case hstep =>
   rintro m self ih ⟨x2,x3,x4,x5,x6,x7,x8,x9,x10,x11,x12,x13,x14,x15,x16⟩ ⟨hlen,hun,hd0,hd1⟩
   exact KC t.nodes hns hs' m self ih x2 x3 x4 x5 x6 ⟨⟨⟨x7,x8,x9⟩,x10⟩,⟨⟨x11,x12,x13⟩,x14⟩,x15,x16⟩ hlen hun hd0 hd1
  have hv:JT t.nodes F (List.replicate (t.nodes.length:Int).toNat false,-1,0,t.root,0,0,0,0,0,0,0,0,0,false,false)=((FQ F t).1.1,(FQ F t).1.2.1,(FQ F t).1.2.2,(FQ F t).2):=by
   unfold JT FQ topS;rw [Int.toNat_natCast]
  rw [hv,obs]
  dsimp only
  have hvl:(FQ F t).1.1.length=t.nodes.length:=by
   have:=(Hq t.nodes F (List.replicate t.nodes.length false,-1,0) t.root 0 topS).1
   unfold FQ;rw [this];simp
  rw [Fb t.nodes.zipIdx (fun e p=>if p.1.kind≠0∧((FQ F t).1.1[p.2]?).getD true=false then fl e else e) (FQ F t).1.2.2 (r:=t.nodes.zipIdx.foldl (fun e p=>if p.1.kind≠0∧((FQ F t).1.1[p.2]?).getD true=false then fl e else e) (FQ F t).1.2.2) (by rw [List.length_zipIdx];omega) rfl ?hs ?he]
  case hs =>
   intro k e hk
   have hk':=hk
   rw [List.getElem?_zipIdx] at hk'
   obtain⟨n,hn,rfl⟩ : ∃ n,t.nodes[k]? = some n∧(n,k)=e:=by
    cases hn:t.nodes[k]? with
    | none=>rw [hn] at hk';cases hk'
    | some n=>rw [hn] at hk';exact⟨n,rfl,by simpa using hk'⟩
   have hkl:=(ggs.1 hn).1
   have hg:(FQ F t).1.1[k]? = some (FQ F t).1.1[k]:=gge (by omega)
   dsimp only
   generalize List.foldl _ (FQ F t).1.2.2 (List.take k t.nodes.zipIdx)=acc
   rw [show decide ((k:Int)<(t.nodes.length:Int))=true from decide_eq_true (by omega),cond_true,DA,hn,obs,DA,hg,w64 (by omega) (by omega)]
   by_cases h0:n.kind=0
   · rw [DO h0,cond_false,obs,cond_false,obs,if_neg (fun h=>h.1 h0)]
   · rw [DU h0,cond_true,obs,obs]
     cases hb:(FQ F t).1.1[k] with
     | true=>rw [if_neg (by simp)];rfl
     | false=>rw [if_pos ⟨h0,rfl⟩,GY];rfl
  case he =>
   dsimp only
   rw [List.length_zipIdx,show decide ((t.nodes.length:Int)<(t.nodes.length:Int))=false from decide_eq_false (by omega)];rfl
  rfl
def DK (ns:List DNode):Nat→Int→List DElem
 | 0,_=>[]
 | m+1,i=>(nd ns i).elems++(nd ns i).kids.flatMap (DK ns m)
theorem Hf {ns:List DNode}(hns : ∀ n∈ns,DS n=0):∀(h m:Nat) (i d:Int) (s:Span),okN ns h i d s→h<m→DK ns m i=Dx ns h i:=by
 intro h
 induction h with
 | zero =>
  intro m i d s hok hm
  obtain⟨m,rfl⟩ : ∃ q,m=q+1:=⟨m-1,by omega⟩
  rw [DK,Dx,(FA hns hok.1 hok.2.1).kids];simp
 | succ h ih =>
  intro m i d s hok hm
  obtain⟨m,rfl⟩ : ∃ q,m=q+1:=⟨m-1,by omega⟩
  rw [DK,Dx,(EQ hns hok.1 hok.2.1).2.elems,List.nil_append]
  have : ∀ l:List Int,(∀ k∈l,DK ns m k=Dx ns h k)→l.flatMap (DK ns m)=l.flatMap (Dx ns h):=by
   intro l
   induction l with
   | nil=>intro _;rfl
   | cons a l ihl=>intro hl;rw [List.flatMap_cons,List.flatMap_cons,hl a List.mem_cons_self,ihl fun k hk=>hl k (List.mem_cons_of_mem _ hk)]
  exact this _ fun k hk=>by
   obtain⟨q,hq⟩:=List.mem_iff_getElem?.1 hk
   exact ih m k _ _ (hok.2.2.2 (k,q) (by rw [List.mem_zipIdx_iff_getElem?];exact hq)).1 (by omega)
def IA (ns:List DNode)(m:Nat)(i:Int):Prop:=∃(h:Nat) (d:Int) (s:Span),h<m∧okN ns h i d s
theorem IA.kids {ns:List DNode}(hns : ∀ n∈ns,DS n=0){m:Nat}{i:Int}(h:IA ns (m+1) i):(0≤i∧i<(ns.length:Int))∧∀ k∈(nd ns i).kids,IA ns m k:=by
 obtain⟨h,d,s,hm,hok⟩:=h
 cases h with
 | zero =>
  refine⟨hok.1,fun k hk=>?_⟩
  rw [(FA hns hok.1 hok.2.1).kids] at hk
  cases hk
 | succ h =>
  refine⟨hok.1,fun k hk=>?_⟩
  obtain⟨q,hq⟩:=List.mem_iff_getElem?.1 hk
  exact⟨h,_,_,by omega,(hok.2.2.2 (k,q) (by rw [List.mem_zipIdx_iff_getElem?];exact hq)).1⟩
theorem Ir {α:Type}(l:List α):∀ a:List α,l.foldl (fun l e=>l++[e]) a=a++l:=by
 induction l with
 | nil=>intro a;simp
 | cons x l ih=>intro a;rw [List.foldl_cons,ih,List.append_assoc];rfl
def MK (ns:List DNode)(m:Nat)(x:List DElem × Int):Prop:=IA ns m x.2∧x.1.length+(DK ns m x.2).length≤100000
theorem Lp (ns:List DNode)(hns : ∀ n∈ns,DS n=0)(m:Nat)(self:List DElem × Int→Option (List DElem))(ih : ∀ x,MK ns m x→self x=some (x.1++DK ns m x.2))(x1:List DElem)(x2:Int)
 (hpre:MK ns (m+1) (x1,x2)):(
  (idx ns x2).bind fun e1 =>
   (iter (σ:=(List DElem) × Int) (ρ:=(List DElem)) (fun x=>match x with
    | (x3,x4) =>
     bif decide (x4<(e1.elems.length:Int)) then
      (idx e1.elems x4).bind fun e2 =>
      (
       (xT 56 x3 [e2]).bind fun _ =>
        some ():Option (Unit)).bind fun _ =>
      some (.inl ((x3++[e2]),IntKind.i64.wrap (x4+1)))
      else
       some (.inr x3)) F (x1,0)).bind fun z3 =>
   (iter (σ:=(List DElem) × Int) (ρ:=(List DElem)) (fun x=>match x with
    | (x5,x6) =>
     bif decide (x6<(e1.kids.length:Int)) then
      (idx e1.kids x6).bind fun e3 =>
      (self (x5,e3)).bind fun z5 =>
      some (.inl (z5,IntKind.i64.wrap (x6+1)))
      else
       some (.inr x5)) F (z3,0)).bind fun z4 =>
   some z4:Option (List DElem))=some (x1++DK ns (m+1) x2):=by
 obtain⟨hok,hlen⟩:=hpre
 obtain⟨⟨h0,h1⟩,hkids⟩:=hok.kids hns
 dsimp only at hlen h0 h1 hkids
 obtain⟨h8,h8'⟩:=ES (hns _ (Ez h0 h1))
 rw [DK] at hlen ⊢
 rw [List.length_append] at hlen
 rw [Gh h0 h1,obs]
 rw [Fb (nd ns x2).elems (fun l e=>l++[e]) x1 (r:=x1++(nd ns x2).elems) (by omega) rfl ?hs ?he]
 case hs =>
  intro k e hk
  have hkl:=(ggs.1 hk).1
  dsimp only
  rw [Ir]
  rw [show decide ((k:Int)<((nd ns x2).elems.length:Int))=true from decide_eq_true (by omega),cond_true,DA,hk,obs,DN (by rw [List.length_append,List.length_take,List.length_singleton];omega) (by rw [List.length_append,List.length_take,List.length_singleton];omega),w64 (by omega) (by omega)]
  rfl
 case he =>
  dsimp only
  rw [show decide (((nd ns x2).elems.length:Int)<((nd ns x2).elems.length:Int))=false from decide_eq_false (by omega),Ir];rfl
 rw [obs]
 rw [Fb (nd ns x2).kids (fun l k=>l++DK ns m k) (x1++(nd ns x2).elems) (r:=x1++(nd ns x2).elems++(nd ns x2).kids.flatMap (DK ns m)) (by omega) rfl ?hs ?he]
 case hs =>
  intro k e hk
  have hkl:=(ggs.1 hk).1
  have hfl : ∀(l:List Int) (a:List DElem),l.foldl (fun l k=>l++DK ns m k) a=a++l.flatMap (DK ns m):=by
   intro l
   induction l with
   | nil=>intro a;simp
   | cons y l ihl=>intro a;rw [List.foldl_cons,ihl,List.flatMap_cons,List.append_assoc]
  dsimp only
  rw [hfl]
  have hsub:((nd ns x2).kids.take k).flatMap (DK ns m)++DK ns m e <+: (nd ns x2).kids.flatMap (DK ns m):=by
   refine⟨((nd ns x2).kids.drop (k+1)).flatMap (DK ns m),?_⟩
   rw [← List.flatMap_singleton (DK ns m) e,← List.flatMap_append,← List.flatMap_append,List.append_assoc]
   congr 1
   rw [List.singleton_append]
   have e2:e=(nd ns x2).kids[k]:=by rw [gge hkl] at hk;exact(Option.some.inj hk).symm
   rw [e2,← List.drop_eq_getElem_cons hkl,List.take_append_drop]
  have hle:=hsub.length_le
  rw [List.length_append] at hle
  rw [show decide ((k:Int)<((nd ns x2).kids.length:Int))=true from decide_eq_true (by omega),cond_true,DA,hk,obs,ih _ ⟨hkids e (List.mem_of_getElem? hk),by dsimp only;rw [List.length_append,List.length_append];omega⟩,obs,w64 (by omega) (by omega)]
 case he =>
  have hfl : ∀(l:List Int) (a:List DElem),l.foldl (fun l k=>l++DK ns m k) a=a++l.flatMap (DK ns m):=by
   intro l
   induction l with
   | nil=>intro a;simp
   | cons y l ihl=>intro a;rw [List.foldl_cons,ihl,List.flatMap_cons,List.append_assoc]
  dsimp only
  rw [show decide (((nd ns x2).kids.length:Int)<((nd ns x2).kids.length:Int))=false from decide_eq_false (by omega),hfl];rfl
 rw [obs,List.append_assoc]
theorem EZ {t:DTree}{h:Nat}(hg:Good t h):h<400:=by
 have h1:=GM hg.chk h t.root 0 topS hg.ok
 have h2:=GN hg.ok hg.nodup
 have:=hg.len
 omega
theorem GJ {t:DTree}{h:Nat}(hg:Good t h):(Dx t.nodes h t.root).length≤3200:=by
 have h1:=IU hg.chk h t.root 0 topS hg.ok
 have h2:=GN hg.ok hg.nodup
 have:=hg.len
 omega
theorem Ie {t:DTree}(hs : ∀ n∈t.nodes,Small n){h:Nat}(hg:Good t h):yD F t=some (Dx t.nodes h t.root,0):=by
 have hF:=(inferInstance:Big F).le
 have h4:=EZ hg
 have hz:F8 F t=0:=Il.2 ⟨h,hg⟩
 have he:=Hf hg.chk h F t.root 0 topS hg.ok (by omega)
 unfold yD
 rw [GF t hs,obs,DO hz,cond_false]
 rw [FJ (MK t.nodes) (fun m x=>x.1++DK t.nodes m x.2) ?h0 ?hstep F _ ?hpre]
 case h0 =>
  rintro⟨x1,x2⟩ ⟨⟨h,d,s,hm,_⟩,_⟩
  omega
 case hpre=>exact ⟨⟨h,0,topS,by omega,hg.ok⟩,by dsimp only;rw [he];have:=GJ hg;simp;omega⟩
 case hstep =>
  rintro m self ih ⟨x1,x2⟩ hpre
  exact Lp t.nodes hg.chk m self ih x1 x2 hpre
 rw [obs]
 dsimp only
 rw [he];rfl
theorem Jc {t:DTree}(hs : ∀ n∈t.nodes,Small n)(hc:F8 F t≠0):yD F t=some ([],F8 F t):=by
 unfold yD
 rw [GF t hs,obs,DU hc,cond_true]
theorem Kw {t:DTree}(h:okTree t):∀ n∈t.nodes,Small n:=fun n hn=>LV (h.2.2 n hn)
end Go.Proofs.Ytcmkdoahkncakaa
