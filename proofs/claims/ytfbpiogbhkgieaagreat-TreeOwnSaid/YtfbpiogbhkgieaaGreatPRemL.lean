/- Plain Lean: what the functions on trees compute. Its conditions: none. -/
import Derived.Test.YtfbpiogbhkgieaaGreatTreeFL
import Derived.Test.YtfbpiogbhkgieaaGreatMTreeL
import Derived.Test.YtfbpiogbhkgieaaGreatRecL
import Derived.Test.YtfbpiogbhkgieaaGreatTreeOL
import Derived.Test.YtfbpiogbhkgieaaGreatBuildFL
import Derived.Test.YtfbpiogbhkgieaaGreatInsL
import Derived.Test.YtfbpiogbhkgieaaGreatEqLL
namespace Go.Proofs.YtfbpiogbhkgieaaGreat
set_option linter.unusedSimpArgs false
set_option linter.unusedVariables false
section
variable {F:Nat} [Big F]
theorem wa {σ ρ:Type}{f:(σ→Option ρ)→σ→Option ρ}(Pre:Nat→σ→Prop)(spec:Nat→σ→ρ)(h0 : ∀ s,¬ Pre 0 s)
 (h : ∀(m:Nat) (self:σ→Option ρ),(∀ s,Pre m s→self s=some (spec m s))→∀ s,Pre (m+1) s→f self s=some (spec (m+1) s)):∀(m:Nat) (s:σ),Pre m s→nS f m s=some (spec m s)
 | 0,s,hs=>absurd hs (h0 s)
 | m+1,s,hs=>h m (nS f m) (fun s hs=>wa Pre spec h0 h m s hs) s hs
theorem ym (e:Int):(bif (e == 0) then some 3 else some e:Option Int)=some (fl e):=by
 unfold fl
 by_cases h:e=0
 · subst h;rfl
 · have:(e == 0)=false:=by simpa using h
   rw [this,if_neg h];rfl
theorem Bu (lo hi x:DSpot)(a b:Bool) :
 (bif (!a) then (bif (!b) then some true else (jt x hi).bind fun r6=>some (decide (r6<0)))
  else (jt lo x).bind fun r4=>bif decide (r4≤0) then (bif (!b) then some true else (jt x hi).bind fun r5=>some (decide (r5<0))) else some false:Option Bool)=some (inS ⟨lo,hi,a,b⟩ x):=by
 simp only [uo,obs]
 unfold inS
 cases a <;> cases b <;> by_cases h1:cmpS lo x≤0 <;> simp [h1]
abbrev SV:=List Bool × Int × Int × Int × Int × Int × Int × Int × Int × Int × Int × Int × Int × Bool × Bool
def BU (ns:List DNode)(m:Nat):SV→List Bool × Int × Int × Int
 | (x2,x3,x4,x5,x6,x7,x8,x9,x10,x11,x12,x13,x14,x15,x16) =>
  let r:=vis ns m (x2,x3,x4) x5 x6 ⟨⟨⟨x7,x8,x9⟩,x10⟩,⟨⟨x11,x12,x13⟩,x14⟩,x15,x16⟩
  (r.1.1,r.1.2.1,r.1.2.2,r.2)
def Fz (ns:List DNode)(m:Nat):SV→Prop
 | (x2,x3,x4,x5,x6,x7,x8,x9,x10,x11,x12,x13,x14,x15,x16)=>x2.length=ns.length∧unseen x2<m∧0≤x6∧x6+(unseen x2:Int)≤1000
theorem Dl {l:List DNode}(h:l.length≤400):rR 1 (l.length:Int)=some ():=by
 unfold rR;rw [if_pos ⟨by omega,by omega,by unfold maxLen;omega⟩]
theorem Cj {α:Type}(l:List α){i:Int}(h:0≤i):idx l i=l[i.toNat]?:=by unfold idx;rw [if_neg (by omega)]
theorem wG {ns:List DNode}{i:Int}(h0:0≤i)(h1:i<(ns.length:Int)):idx ns i=some (nd ns i):=by
 unfold nd
 rw [Cj _ h0,gge (show i.toNat<ns.length by omega)];rfl
theorem DO (ns:List DNode)(seen:List Bool)(i:Int)(hl:seen.length=ns.length) :
 (bif decide (i<0) then some true else bif decide ((ns.length:Int)≤i) then some true else (idx seen i).bind fun e2=>bif e2 then some true else (idx ns i).bind fun e3=>some (e3.kind == 0):Option Bool) =
  some (decide (i<0∨(ns.length:Int)≤i∨(seen[i.toNat]?).getD true=true∨(nd ns i).kind=0)):=by
 by_cases h0:i<0
 · simp [h0]
 by_cases h1:(ns.length:Int)≤i
 · simp [h1,h0]
 have hg:seen[i.toNat]? = some seen[i.toNat]:=gge (by omega)
 rw [Cj _ (by omega),wG (by omega) (by omega),hg]
 cases hb:seen[i.toNat] with
 | true=>simp [h0,h1]
 | false=>by_cases hk:(nd ns i).kind=0 <;> simp [h0,h1,hk]
theorem vh {n:DNode}(h:uv n=0):n.elems.length≤8∧n.kids.length≤8:=by
 rcases uy.1 h with h | h | h
 · rw [h.2.1,h.2.2.1];simp
 · have:=h.2.len;rw [h.2.kids];simpa using this
 · have:=h.2.eight;rw [h.2.elems];simpa using this
theorem Dc (n:DNode)(d:Int)(h:uv n=0) :
 (bif (decide ((0:Int)<d)&&decide (IntKind.i64.wrap ((n.elems.length:Int)+(n.kids.length:Int))<4)) then ((bif ((0:Int) == 0) then some 3 else some 0:Option Int).bind fun z8=>some z8) else some 0:Option Int) =
  some (if 0<d∧n.elems.length+n.kids.length<4 then 3 else 0):=by
 obtain⟨h1,h2⟩:=vh h
 rw [w64 (by omega) (by omega)]
 by_cases hd:0<d <;> by_cases hf:(n.elems.length:Int)+(n.kids.length:Int)<4
 · rw [if_pos ⟨hd,by omega⟩];simp [hd,hf]
 · rw [if_neg (by omega)];simp [hf]
 · rw [if_neg (by omega)];simp [hd]
 · rw [if_neg (by omega)];simp [hd]
theorem CK (ns:List DNode)(hns : ∀ n∈ns,uv n=0)(hs' : ∀ n∈ns,Small n)(m:Nat)(self:SV→Option (List Bool × Int × Int × Int))(ih : ∀ s,Fz ns m s→self s=some (BU ns m s))
 (x2:List Bool) (x3 x4 x5 x6:Int) (s:Span) (hlen:x2.length=ns.length) (hun:unseen x2<m+1) (hd0:0≤x6) (hd1:x6+(unseen x2:Int)≤1000) :
 (
  bif (x4 != 0) then
   some (x2,x3,x4,0)
   else
    (
     bif decide (x5<0) then
      some true
      else
       bif decide ((ns.length:Int)≤x5) then
        some true
       else
        (idx x2 x5).bind fun e2 =>
        bif e2 then
         some true
        else
         (idx ns x5).bind fun e3 =>
         some (e3.kind == 0):Option (Bool)).bind fun z5 =>
    bif z5 then
     (
      bif (x4 == 0) then
       some 3
       else
        some x4:Option (Int)).bind fun z6 =>
     some (x2,x3,z6,0)
    else
     (idx x2 x5).bind fun e4 =>
     (idx ns x5).bind fun e5 =>
     (
      bif ((decide ((0:Int)<x6))&&(decide ((IntKind.i64.wrap ((e5.elems.length:Int)+(e5.kids.length:Int)))<4))) then
       (
        bif (x4 == 0) then
         some 3
         else
          some x4:Option (Int)).bind fun z8 =>
       some z8
       else
        some x4:Option (Int)).bind fun z7 =>
     bif (e5.kind == 1) then
      (
       bif decide (x3<0) then
        some x6
        else
         some x3:Option (Int)).bind fun z9 =>
      (
       bif (z9 != x6) then
        (
         bif (z7 == 0) then
          some 3
          else
           some z7:Option (Int)).bind fun z11 =>
        some z11
        else
         some z7:Option (Int)).bind fun z10 =>
      (iter (σ:=Int × Int) (ρ:=Int) (fun x=>match x with
       | (x17,x18) =>
        bif decide (x18<(e5.elems.length:Int)) then
         (
          (idx e5.elems x18).bind fun e6 =>
           (jb e6).bind fun r3 =>
           (
            (
             bif (!s.hasLo) then
              bif (!s.hasHi) then
               some true
              else
               (jt r3 (DSpot.mk (DKey.mk s.hi.key.pfs s.hi.key.obj s.hi.key.off) s.hi.made)).bind fun r6 =>
               some (decide (r6<0))
              else
               (jt (DSpot.mk (DKey.mk s.lo.key.pfs s.lo.key.obj s.lo.key.off) s.lo.made) r3).bind fun r4 =>
               bif decide (r4≤0) then
                bif (!s.hasHi) then
                 some true
                else
                 (jt r3 (DSpot.mk (DKey.mk s.hi.key.pfs s.hi.key.obj s.hi.key.off) s.hi.made)).bind fun r5 =>
                 some (decide (r5<0))
               else
                some false:Option (Bool)).bind fun z15 =>
             some z15:Option (Bool)).bind fun z14 =>
           bif (!z14) then
            (
             bif (x17 == 0) then
              some 3
              else
               some x17:Option (Int)).bind fun z16 =>
            some z16
           else
            some x17:Option (Int)).bind fun z13 =>
         some (.inl (z13,IntKind.i64.wrap (x18+1)))
         else
          some (.inr x17)) F (z10,0)).bind fun z12 =>
      (jm F e5).bind fun r7 =>
      some ((x2.set x5.toNat true),z9,z12,r7)
     else
      (iter (σ:=(List Bool) × Int × Int × Int) (ρ:=(List Bool) × Int × Int) (fun x=>match x with
       | (x19,x20,x21,x22) =>
        bif decide (x22<(e5.kids.length:Int)) then
         (
          (idx e5.kids x22).bind fun e7 =>
           (
            bif decide ((0:Int)<x22) then
             (idx e5.seps (IntKind.i64.wrap (x22-1))).bind fun e8 =>
             (
              (
               bif (!s.hasLo) then
                bif (!s.hasHi) then
                 some true
                else
                 (jt e8 (DSpot.mk (DKey.mk s.hi.key.pfs s.hi.key.obj s.hi.key.off) s.hi.made)).bind fun r10 =>
                 some (decide (r10<0))
                else
                 (jt (DSpot.mk (DKey.mk s.lo.key.pfs s.lo.key.obj s.lo.key.off) s.lo.made) e8).bind fun r8 =>
                 bif decide (r8≤0) then
                  bif (!s.hasHi) then
                   some true
                  else
                   (jt e8 (DSpot.mk (DKey.mk s.hi.key.pfs s.hi.key.obj s.hi.key.off) s.hi.made)).bind fun r9 =>
                   some (decide (r9<0))
                 else
                  some false:Option (Bool)).bind fun z30 =>
               some z30:Option (Bool)).bind fun z29 =>
             bif (!z29) then
              (
               bif (x21 == 0) then
                some 3
                else
                 some x21:Option (Int)).bind fun z31 =>
              some (e8.key.pfs,e8.key.obj,e8.key.off,e8.made,true,z31)
             else
              some (e8.key.pfs,e8.key.obj,e8.key.off,e8.made,true,x21)
             else
              some (s.lo.key.pfs,s.lo.key.obj,s.lo.key.off,s.lo.made,s.hasLo,x21):Option (Int × Int × Int × Int × Bool × Int)).bind fun z=>match z with
            | (z23,z24,z25,z26,z27,z28) =>
             (
              bif decide (x22<(e5.seps.length:Int)) then
               (idx e5.seps x22).bind fun e9 =>
               some (e9.key.pfs,e9.key.obj,e9.key.off,e9.made,true)
               else
                some (s.hi.key.pfs,s.hi.key.obj,s.hi.key.off,s.hi.made,s.hasHi):Option (Int × Int × Int × Int × Bool)).bind fun z=>match z with
              | (z32,z33,z34,z35,z36) =>
               (idx e5.tids x22).bind fun e10 =>
               (self (x19,x20,z28,e7,IntKind.i64.wrap (x6+1),z23,z24,z25,z26,z32,z33,z34,z35,z27,z36)).bind fun z=>match z with
                | (z37,z38,z39,z40) =>
                 bif (z40 != e10) then
                  (
                   bif (z39 == 0) then
                    some 3
                    else
                     some z39:Option (Int)).bind fun z41 =>
                  some (z37,z38,z41)
                 else
                  some (z37,z38,z39):Option ((List Bool) × Int × Int)).bind fun z=>match z with
          | (z20,z21,z22) =>
           some (.inl (z20,z21,z22,IntKind.i64.wrap (x22+1)))
         else
          some (.inr (x19,x20,x21))) F ((x2.set x5.toNat true),x3,z7,0)).bind fun z=>match z with
       | (z17,z18,z19) =>
        (jm F e5).bind fun r11 =>
        some (z17,z18,z19,r11):Option (List Bool × Int × Int × Int))=some (let r:=vis ns (m+1) (x2,x3,x4) x5 x6 s;(r.1.1,r.1.2.1,r.1.2.2,r.2)):=by
 rw [vis]
 dsimp only
 by_cases h4:x4=0
 rotate_left
 · rw [s9 h4,cond_true,if_pos h4]
 subst h4
 rw [show ((0:Int) != 0)=false from rfl,cond_false,if_neg (by simp),DO ns x2 x5 hlen,obs]
 by_cases hbad:x5<0∨(ns.length:Int)≤x5∨(x2[x5.toNat]?).getD true=true∨(nd ns x5).kind=0
 · rw [decide_eq_true hbad,cond_true,if_pos hbad];rfl
 rw [decide_eq_false hbad,cond_false,if_neg hbad]
 have h0:0≤x5:=by omega
 have h1:x5<(ns.length:Int):=by omega
 have hx:x2[x5.toNat]? = some false:=by
  have hg:x2[x5.toNat]? = some x2[x5.toNat]:=gge (by omega)
  cases hb:x2[x5.toNat] with
  | false=>rw [hg,hb]
  | true=>rw [hg,hb] at hbad;simp at hbad
 have hn0:=hns _ (uZ h0 h1)
 have hsm:=hs' _ (uZ h0 h1)
 rw [Cj _ h0,hx,obs,wG h0 h1,obs,Dc _ x6 hn0,obs]
 generalize (if 0<x6∧(nd ns x5).elems.length+(nd ns x5).kids.length<4 then (3:Int) else 0)=e1
 by_cases hk:(nd ns x5).kind=1
 · rw [show ((nd ns x5).kind == 1)=true by simpa using hk,cond_true,if_pos hk]
   have hd:(bif decide (x3<0) then some x6 else some x3:Option Int)=some (if x3<0 then x6 else x3):=by
    by_cases h:x3<0 <;> simp [h]
   rw [hd,obs]
   generalize (if x3<0 then x6 else x3)=dp
   have he2:(bif (dp != x6) then ((bif (e1 == 0) then some 3 else some e1:Option Int).bind fun z11=>some z11) else some e1:Option Int)=some (if dp≠x6 then fl e1 else e1):=by
    rw [ym]
    by_cases h:dp=x6
    · simp [h]
    · rw [show (dp != x6)=true by simpa using h,if_pos h];rfl
   rw [he2,obs]
   generalize (if dp≠x6 then fl e1 else e1)=e2
   have h8:=(vh hn0).1
   rw [tj (nd ns x5).elems (fun e x=>if inS s (tY x) then e else fl e) e2 (r:=(nd ns x5).elems.foldl (fun e x=>if inS s (tY x) then e else fl e) e2) (by omega) rfl ?hs ?he]
   case hs =>
    intro k e hk
    have hkl:=(ggs.1 hk).1
    dsimp only
    generalize List.foldl _ e2 (List.take k (nd ns x5).elems)=acc
    rw [show decide ((k:Int)<((nd ns x5).elems.length:Int))=true from decide_eq_true (by omega),cond_true,tz,hk,obs,ud,obs,Bu,obs,obs,w64 (by omega) (by omega)]
    cases hb:inS ⟨s.lo,s.hi,s.hasLo,s.hasHi⟩ (tY e) with
    | true=>rfl
    | false=>rw [ym];rfl
   case he =>
    dsimp only
    rw [show decide (((nd ns x5).elems.length:Int)<((nd ns x5).elems.length:Int))=false from decide_eq_false (by omega)];rfl
   rw [obs,uU _ hsm]
   rfl
 · rw [show ((nd ns x5).kind == 1)=false by simpa using hk,cond_false,if_neg hk]
   have hin:=(vH hns ⟨h0,h1⟩ ⟨fun h=>hbad (.inr (.inr (.inr h))),hk⟩).2
   have h8:=hin.eight
   have hu:unseen (x2.set x5.toNat true)+1=unseen x2:=zW hx
   have hkeep : ∀ k,vo (x2.set x5.toNat true) (((nd ns x5).kids.zipIdx.take k).foldl (vv (nd ns x5) (vis ns m) s x6) (x2.set x5.toNat true,x3,e1)).1:=fun k =>
    zd (n:=nd ns x5) (za ns m) s x6 ((nd ns x5).kids.zipIdx.take k) (x2.set x5.toNat true,x3,e1)
   rw [rQ (fun k=>((((nd ns x5).kids.zipIdx.take k).foldl (vv (nd ns x5) (vis ns m) s x6) (x2.set x5.toNat true,x3,e1)).1,(((nd ns x5).kids.zipIdx.take k).foldl (vv (nd ns x5) (vis ns m) s x6) (x2.set x5.toNat true,x3,e1)).2.1,(((nd ns x5).kids.zipIdx.take k).foldl (vv (nd ns x5) (vis ns m) s x6) (x2.set x5.toNat true,x3,e1)).2.2,(k:Int)))
    (nd ns x5).kids.length (r:=(nd ns x5).kids.zipIdx.foldl (vv (nd ns x5) (vis ns m) s x6) (x2.set x5.toNat true,x3,e1)) (s:=(x2.set x5.toNat true,x3,e1,(0:Int))) rfl (by omega) ?hs ?he]
   case hs =>
    intro k hkl
    have hkk:(nd ns x5).kids[k]? = some (nd ns x5).kids[k]:=gge hkl
    have htk:(nd ns x5).kids.zipIdx.take (k+1)=(nd ns x5).kids.zipIdx.take k++[((nd ns x5).kids[k],k)]:=by
     rw [List.take_add_one,List.getElem?_zipIdx,hkk];simp
    have hK:=hkeep k
    dsimp only
    rw [htk,List.foldl_append,List.foldl_cons,List.foldl_nil]
    revert hK
    generalize List.foldl (vv (nd ns x5) (vis ns m) s x6) (x2.set x5.toNat true,x3,e1) (List.take k (nd ns x5).kids.zipIdx)=st
    intro hK
    obtain⟨y1,y2,y3⟩:=st
    dsimp only at hK ⊢
    have hul:=hK.unseen
    have hll:=hK.1
    rw [List.length_set] at hll
    rw [show decide ((k:Int)<((nd ns x5).kids.length:Int))=true from decide_eq_true (by omega),cond_true,tz,hkk,obs]
    have hlo:(bif decide ((0:Int)<(k:Int)) then
     (idx (nd ns x5).seps (IntKind.i64.wrap ((k:Int)-1))).bind fun e8 =>
     (
      (
       bif (!s.hasLo) then
        bif (!s.hasHi) then
         some true
        else
         (jt e8 (DSpot.mk (DKey.mk s.hi.key.pfs s.hi.key.obj s.hi.key.off) s.hi.made)).bind fun r10 =>
         some (decide (r10<0))
        else
         (jt (DSpot.mk (DKey.mk s.lo.key.pfs s.lo.key.obj s.lo.key.off) s.lo.made) e8).bind fun r8 =>
         bif decide (r8≤0) then
          bif (!s.hasHi) then
           some true
          else
           (jt e8 (DSpot.mk (DKey.mk s.hi.key.pfs s.hi.key.obj s.hi.key.off) s.hi.made)).bind fun r9 =>
           some (decide (r9<0))
         else
          some false:Option (Bool)).bind fun z30 =>
       some z30:Option (Bool)).bind fun z29 =>
     bif (!z29) then
      (
       bif (y3 == 0) then
        some 3
        else
         some y3:Option (Int)).bind fun z31 =>
      some (e8.key.pfs,e8.key.obj,e8.key.off,e8.made,true,z31)
     else
      some (e8.key.pfs,e8.key.obj,e8.key.off,e8.made,true,y3)
     else
      some (s.lo.key.pfs,s.lo.key.obj,s.lo.key.off,s.lo.made,s.hasLo,y3):Option (Int × Int × Int × Int × Bool × Int)) =
     some ((vU (nd ns x5) s k).lo.key.pfs,(vU (nd ns x5) s k).lo.key.obj,(vU (nd ns x5) s k).lo.key.off,(vU (nd ns x5) s k).lo.made,(vU (nd ns x5) s k).hasLo,if uJ (nd ns x5) s k then fl y3 else y3):=by
     cases k with
     | zero=>rfl
     | succ j =>
      have hsep:=hin.seps
      have hj:(nd ns x5).seps[j]? = some (nd ns x5).seps[j]:=gge (by omega)
      rw [show decide ((0:Int)<((j+1:Nat):Int))=true from decide_eq_true (by omega),cond_true,w64 (by omega) (by omega),show (((j+1:Nat):Int)-1)=(j:Int) by omega,tz,hj,obs,Bu,obs,obs]
      have e1:vU (nd ns x5) s (j+1) = { s with lo:=(nd ns x5).seps[j],hasLo:=true }:=by
       show (match (nd ns x5).seps[j]? with | some x=>_ | none=>s)=_
       rw [hj]
      have e2:uJ (nd ns x5) s (j+1) = !inS s (nd ns x5).seps[j]:=by
       show (match (nd ns x5).seps[j]? with | some x=>_ | none=>false)=_
       rw [hj]
      rw [e1,e2]
      show ((bif !inS s (nd ns x5).seps[j] then _ else _:Option _))=_
      cases hb:inS s (nd ns x5).seps[j] with
      | true=>rfl
      | false=>rw [ym];rfl
    rw [hlo,obs]
    dsimp only
    have hhi:(bif decide ((k:Int)<((nd ns x5).seps.length:Int)) then (idx (nd ns x5).seps (k:Int)).bind fun e9=>some (e9.key.pfs,e9.key.obj,e9.key.off,e9.made,true)
     else some (s.hi.key.pfs,s.hi.key.obj,s.hi.key.off,s.hi.made,s.hasHi):Option (Int × Int × Int × Int × Bool)) =
     some ((ur (nd ns x5) s k).hi.key.pfs,(ur (nd ns x5) s k).hi.key.obj,(ur (nd ns x5) s k).hi.key.off,(ur (nd ns x5) s k).hi.made,(ur (nd ns x5) s k).hasHi):=by
     have hl1:(vU (nd ns x5) s k).hi=s.hi∧(vU (nd ns x5) s k).hasHi=s.hasHi:=by
      unfold vU;split
      · exact⟨rfl,rfl⟩
      · split <;> exact ⟨rfl,rfl⟩
     unfold ur zj
     by_cases hks:k<(nd ns x5).seps.length
     · have hj:(nd ns x5).seps[k]? = some (nd ns x5).seps[k]:=gge hks
       rw [show decide ((k:Int)<((nd ns x5).seps.length:Int))=true from decide_eq_true (by omega),cond_true,tz,hj];rfl
     · have hj:(nd ns x5).seps[k]? = none:=List.getElem?_eq_none (by omega)
       rw [show decide ((k:Int)<((nd ns x5).seps.length:Int))=false from decide_eq_false (by omega),cond_false,hj,hl1.1,hl1.2]
    rw [hhi,obs]
    dsimp only
    obtain⟨tk,htid⟩ : ∃ tk,(nd ns x5).tids[k]? = some tk:=⟨_,gge (by have:=hin.tids;omega)⟩
    have hlow:(ur (nd ns x5) s k).lo=(vU (nd ns x5) s k).lo∧(ur (nd ns x5) s k).hasLo=(vU (nd ns x5) s k).hasLo:=by
     unfold ur zj;split <;> exact ⟨rfl,rfl⟩
    rw [tz,htid,obs,← hlow.1,← hlow.2,w64 (n:=x6+1) (by omega) (by omega),ih _ ⟨show y1.length=ns.length by omega,show unseen y1<m by omega,show 0≤x6+1 by omega,show x6+1+(unseen y1:Int)≤1000 by omega⟩,obs,w64 (n:=(k:Int)+1) (by omega) (by omega)]
    unfold BU vv
    dsimp only
    rw [htid]
    show ((bif ((vis ns m (y1,y2,_) _ (x6+1) (ur (nd ns x5) s k)).2 != _) then _ else _:Option _).bind _)=_
    generalize vis ns m (y1,y2,if uJ (nd ns x5) s k=true then fl y3 else y3) (nd ns x5).kids[k] (x6+1) (ur (nd ns x5) s k)=r
    rw [Option.getD_some]
    by_cases hr:r.2=tk
    · rw [show (r.2 != tk)=false by simpa using hr,cond_false,if_neg (by simpa using hr)];rfl
    · rw [show (r.2 != tk)=true by simpa using hr,cond_true,if_pos (by simpa using hr),ym];rfl
   case he =>
    dsimp only
    rw [show decide (((nd ns x5).kids.length:Int)<((nd ns x5).kids.length:Int))=false from decide_eq_false (by omega),List.take_of_length_le (by simp)];rfl
   rw [obs]
   dsimp only
   rw [uU _ hsm]
   rfl
theorem uQ (t:DTree)(hs' : ∀ n∈t.nodes,Small n):lK F t=some (vz F t):=by
 unfold lK vz
 by_cases hl:400<t.nodes.length
 · rw [show decide ((400:Int)<(t.nodes.length:Int))=true from decide_eq_true (by omega),cond_true,if_pos hl]
 rw [show decide ((400:Int)<(t.nodes.length:Int))=false from decide_eq_false (by omega),cond_false,if_neg hl]
 rw [sX t.nodes (fun n=>(if uv n≠0 then some (uv n) else none).map Sum.inr) (.inl ()) (by omega) rfl (fun k e hk=>?_) (by simp)]
 rotate_left
 · have hkl:=(ggs.1 hk).1
   rw [show decide ((k:Int)<(t.nodes.length:Int))=true from decide_eq_true (by omega),cond_true,tz,hk,obs,Ag e (hs' e (List.mem_of_getElem? hk)),obs]
   by_cases hc:uv e=0
   · rw [sV hc,cond_false,if_neg (show ¬ (uv e≠0) by simpa using hc),w64 (by omega) (by omega)];rfl
   · rw [s9 hc,cond_true,if_pos (show (uv e≠0) by simpa using hc)];rfl
 rw [vj,obs]
 cases hf:t.nodes.findSome? fun n=>if uv n≠0 then some (uv n) else none with
 | some e=>rfl
 | none =>
  rw [List.findSome?_eq_none_iff] at hf
  have hns : ∀ n∈t.nodes,uv n=0:=fun n hn=>by
   have:=hf n hn
   split at this
   · cases this
   · rename_i h;simpa using h
  show (rR 1 (t.nodes.length:Int)).bind _=_
  rw [Dl (by omega),obs]
  rw [wa (Fz t.nodes) (BU t.nodes) ?h0 ?hstep F _ ?hpre]
  case h0 =>
   rintro⟨x2,x3,x4,x5,x6,x7,x8,x9,x10,x11,x12,x13,x14,x15,x16⟩ ⟨_,h,_⟩
   exact absurd h (Nat.not_lt_zero _)
  case hpre =>
   have:=Ak (List.replicate (t.nodes.length:Int).toNat false)
   rw [List.length_replicate] at this
   exact⟨by simp,qJ (by omega),Int.le_refl _,by show (0:Int)+_≤_;omega⟩
  case hstep =>
   rintro m self ih ⟨x2,x3,x4,x5,x6,x7,x8,x9,x10,x11,x12,x13,x14,x15,x16⟩ ⟨hlen,hun,hd0,hd1⟩
   exact CK t.nodes hns hs' m self ih x2 x3 x4 x5 x6 ⟨⟨⟨x7,x8,x9⟩,x10⟩,⟨⟨x11,x12,x13⟩,x14⟩,x15,x16⟩ hlen hun hd0 hd1
  have hv:BU t.nodes F (List.replicate (t.nodes.length:Int).toNat false,-1,0,t.root,0,0,0,0,0,0,0,0,0,false,false)=((wP F t).1.1,(wP F t).1.2.1,(wP F t).1.2.2,(wP F t).2):=by
   unfold BU wP topS;rw [Int.toNat_natCast]
  rw [hv,obs]
  dsimp only
  have hvl:(wP F t).1.1.length=t.nodes.length:=by
   have:=(za t.nodes F (List.replicate t.nodes.length false,-1,0) t.root 0 topS).1
   unfold wP;rw [this];simp
  rw [tj t.nodes.zipIdx (fun e p=>if p.1.kind≠0∧((wP F t).1.1[p.2]?).getD true=false then fl e else e) (wP F t).1.2.2 (r:=t.nodes.zipIdx.foldl (fun e p=>if p.1.kind≠0∧((wP F t).1.1[p.2]?).getD true=false then fl e else e) (wP F t).1.2.2) (by rw [List.length_zipIdx];omega) rfl ?hs ?he]
  case hs =>
   intro k e hk
   have hk':=hk
   rw [List.getElem?_zipIdx] at hk'
   obtain⟨n,hn,rfl⟩ : ∃ n,t.nodes[k]? = some n∧(n,k)=e:=by
    cases hn:t.nodes[k]? with
    | none=>rw [hn] at hk';cases hk'
    | some n=>rw [hn] at hk';exact⟨n,rfl,by simpa using hk'⟩
   have hkl:=(ggs.1 hn).1
   have hg:(wP F t).1.1[k]? = some (wP F t).1.1[k]:=gge (by omega)
   dsimp only
   generalize List.foldl _ (wP F t).1.2.2 (List.take k t.nodes.zipIdx)=acc
   rw [show decide ((k:Int)<(t.nodes.length:Int))=true from decide_eq_true (by omega),cond_true,tz,hn,obs,tz,hg,w64 (by omega) (by omega)]
   by_cases h0:n.kind=0
   · rw [sV h0,cond_false,obs,cond_false,obs,if_neg (fun h=>h.1 h0)]
   · rw [s9 h0,cond_true,obs,obs]
     cases hb:(wP F t).1.1[k] with
     | true=>rw [if_neg (by simp)];rfl
     | false=>rw [if_pos ⟨h0,rfl⟩,ym];rfl
  case he =>
   dsimp only
   rw [List.length_zipIdx,show decide ((t.nodes.length:Int)<(t.nodes.length:Int))=false from decide_eq_false (by omega)];rfl
  rfl
def ug (ns:List DNode):Nat→Int→List DElem
 | 0,_=>[]
 | m+1,i=>(nd ns i).elems++(nd ns i).kids.flatMap (ug ns m)
theorem wI {ns:List DNode}(hns : ∀ n∈ns,uv n=0):∀(h m:Nat) (i d:Int) (s:Span),okN ns h i d s→h<m→ug ns m i=tX ns h i:=by
 intro h
 induction h with
 | zero =>
  intro m i d s hok hm
  obtain⟨m,rfl⟩ : ∃ q,m=q+1:=⟨m-1,by omega⟩
  rw [ug,tX,(wy hns hok.1 hok.2.1).kids];simp
 | succ h ih =>
  intro m i d s hok hm
  obtain⟨m,rfl⟩ : ∃ q,m=q+1:=⟨m-1,by omega⟩
  rw [ug,tX,(vH hns hok.1 hok.2.1).2.elems,List.nil_append]
  have : ∀ l:List Int,(∀ k∈l,ug ns m k=tX ns h k)→l.flatMap (ug ns m)=l.flatMap (tX ns h):=by
   intro l
   induction l with
   | nil=>intro _;rfl
   | cons a l ihl=>intro hl;rw [List.flatMap_cons,List.flatMap_cons,hl a List.mem_cons_self,ihl fun k hk=>hl k (List.mem_cons_of_mem _ hk)]
  exact this _ fun k hk=>by
   obtain⟨q,hq⟩:=List.mem_iff_getElem?.1 hk
   exact ih m k _ _ (hok.2.2.2 (k,q) (by rw [List.mem_zipIdx_iff_getElem?];exact hq)).1 (by omega)
def zf (ns:List DNode)(m:Nat)(i:Int):Prop:=∃(h:Nat) (d:Int) (s:Span),h<m∧okN ns h i d s
theorem zf.kids {ns:List DNode}(hns : ∀ n∈ns,uv n=0){m:Nat}{i:Int}(h:zf ns (m+1) i):(0≤i∧i<(ns.length:Int))∧∀ k∈(nd ns i).kids,zf ns m k:=by
 obtain⟨h,d,s,hm,hok⟩:=h
 cases h with
 | zero =>
  refine⟨hok.1,fun k hk=>?_⟩
  rw [(wy hns hok.1 hok.2.1).kids] at hk
  cases hk
 | succ h =>
  refine⟨hok.1,fun k hk=>?_⟩
  obtain⟨q,hq⟩:=List.mem_iff_getElem?.1 hk
  exact⟨h,_,_,by omega,(hok.2.2.2 (k,q) (by rw [List.mem_zipIdx_iff_getElem?];exact hq)).1⟩
theorem As {α:Type}(l:List α):∀ a:List α,l.foldl (fun l e=>l++[e]) a=a++l:=by
 induction l with
 | nil=>intro a;simp
 | cons x l ih=>intro a;rw [List.foldl_cons,ih,List.append_assoc];rfl
def Fs (ns:List DNode)(m:Nat)(x:List DElem × Int):Prop:=zf ns m x.2∧x.1.length+(ug ns m x.2).length≤100000
theorem DK (ns:List DNode)(hns : ∀ n∈ns,uv n=0)(m:Nat)(self:List DElem × Int→Option (List DElem))(ih : ∀ x,Fs ns m x→self x=some (x.1++ug ns m x.2))(x1:List DElem)(x2:Int)
 (hpre:Fs ns (m+1) (x1,x2)):(
  (idx ns x2).bind fun e1 =>
   (iter (σ:=(List DElem) × Int) (ρ:=(List DElem)) (fun x=>match x with
    | (x3,x4) =>
     bif decide (x4<(e1.elems.length:Int)) then
      (idx e1.elems x4).bind fun e2 =>
      (
       (lf 56 x3 [e2]).bind fun _ =>
        some ():Option (Unit)).bind fun _ =>
      some (.inl ((x3++[e2]),IntKind.i64.wrap (x4+1)))
      else
       some (.inr x3)) F (x1,0)).bind fun z3 =>
   (iter (σ:=(List DElem) × Int) (ρ:=(List DElem)) (fun x=>match x with
    | (x5,x6) =>
     bif decide (x6<(e1.kids.length:Int)) then
      (idx e1.kids x6).bind fun e3 =>
      (self (x5,e3)).bind fun z5 =>
      some (.inl (z5,IntKind.i64.wrap (x6+1)))
      else
       some (.inr x5)) F (z3,0)).bind fun z4 =>
   some z4:Option (List DElem))=some (x1++ug ns (m+1) x2):=by
 obtain⟨hok,hlen⟩:=hpre
 obtain⟨⟨h0,h1⟩,hkids⟩:=hok.kids hns
 dsimp only at hlen h0 h1 hkids
 obtain⟨h8,h8'⟩:=vh (hns _ (uZ h0 h1))
 rw [ug] at hlen ⊢
 rw [List.length_append] at hlen
 rw [wG h0 h1,obs]
 rw [tj (nd ns x2).elems (fun l e=>l++[e]) x1 (r:=x1++(nd ns x2).elems) (by omega) rfl ?hs ?he]
 case hs =>
  intro k e hk
  have hkl:=(ggs.1 hk).1
  dsimp only
  rw [As]
  rw [show decide ((k:Int)<((nd ns x2).elems.length:Int))=true from decide_eq_true (by omega),cond_true,tz,hk,obs,tJ (by rw [List.length_append,List.length_take,List.length_singleton];omega) (by rw [List.length_append,List.length_take,List.length_singleton];omega),w64 (by omega) (by omega)]
  rfl
 case he =>
  dsimp only
  rw [show decide (((nd ns x2).elems.length:Int)<((nd ns x2).elems.length:Int))=false from decide_eq_false (by omega),As];rfl
 rw [obs]
 rw [tj (nd ns x2).kids (fun l k=>l++ug ns m k) (x1++(nd ns x2).elems) (r:=x1++(nd ns x2).elems++(nd ns x2).kids.flatMap (ug ns m)) (by omega) rfl ?hs ?he]
 case hs =>
  intro k e hk
  have hkl:=(ggs.1 hk).1
  have hfl : ∀(l:List Int) (a:List DElem),l.foldl (fun l k=>l++ug ns m k) a=a++l.flatMap (ug ns m):=by
   intro l
   induction l with
   | nil=>intro a;simp
   | cons y l ihl=>intro a;rw [List.foldl_cons,ihl,List.flatMap_cons,List.append_assoc]
  dsimp only
  rw [hfl]
  have hsub:((nd ns x2).kids.take k).flatMap (ug ns m)++ug ns m e <+: (nd ns x2).kids.flatMap (ug ns m):=by
   refine⟨((nd ns x2).kids.drop (k+1)).flatMap (ug ns m),?_⟩
   rw [← List.flatMap_singleton (ug ns m) e,← List.flatMap_append,← List.flatMap_append,List.append_assoc]
   congr 1
   rw [List.singleton_append]
   have e2:e=(nd ns x2).kids[k]:=by rw [gge hkl] at hk;exact(Option.some.inj hk).symm
   rw [e2,← List.drop_eq_getElem_cons hkl,List.take_append_drop]
  have hle:=hsub.length_le
  rw [List.length_append] at hle
  rw [show decide ((k:Int)<((nd ns x2).kids.length:Int))=true from decide_eq_true (by omega),cond_true,tz,hk,obs,ih _ ⟨hkids e (List.mem_of_getElem? hk),by dsimp only;rw [List.length_append,List.length_append];omega⟩,obs,w64 (by omega) (by omega)]
 case he =>
  have hfl : ∀(l:List Int) (a:List DElem),l.foldl (fun l k=>l++ug ns m k) a=a++l.flatMap (ug ns m):=by
   intro l
   induction l with
   | nil=>intro a;simp
   | cons y l ihl=>intro a;rw [List.foldl_cons,ihl,List.flatMap_cons,List.append_assoc]
  dsimp only
  rw [show decide (((nd ns x2).kids.length:Int)<((nd ns x2).kids.length:Int))=false from decide_eq_false (by omega),hfl];rfl
 rw [obs,List.append_assoc]
theorem vk {t:DTree}{h:Nat}(hg:Good t h):h<400:=by
 have h1:=xU hg.chk h t.root 0 topS hg.ok
 have h2:=xV hg.ok hg.nodup
 have:=hg.len
 omega
theorem vS {t:DTree}{h:Nat}(hg:Good t h):(tX t.nodes h t.root).length≤3200:=by
 have h1:=AN hg.chk h t.root 0 topS hg.ok
 have h2:=xV hg.ok hg.nodup
 have:=hg.len
 omega
theorem v9 {t:DTree}(hs : ∀ n∈t.nodes,Small n){h:Nat}(hg:Good t h):mL F t=some (tX t.nodes h t.root,0):=by
 have hF:=(inferInstance:Big F).le
 have h4:=vk hg
 have hz:vz F t=0:=uS.2 ⟨h,hg⟩
 have he:=wI hg.chk h F t.root 0 topS hg.ok (by omega)
 unfold mL
 rw [uQ t hs,obs,sV hz,cond_false]
 rw [wa (Fs t.nodes) (fun m x=>x.1++ug t.nodes m x.2) ?h0 ?hstep F _ ?hpre]
 case h0 =>
  rintro⟨x1,x2⟩ ⟨⟨h,d,s,hm,_⟩,_⟩
  omega
 case hpre=>exact ⟨⟨h,0,topS,by omega,hg.ok⟩,by dsimp only;rw [he];have:=vS hg;simp;omega⟩
 case hstep =>
  rintro m self ih ⟨x1,x2⟩ hpre
  exact DK t.nodes hg.chk m self ih x1 x2 hpre
 rw [obs]
 dsimp only
 rw [he];rfl
theorem yF {t:DTree}(hs : ∀ n∈t.nodes,Small n)(hc:vz F t≠0):mL F t=some ([],vz F t):=by
 unfold mL
 rw [uQ t hs,obs,s9 hc,cond_true]
theorem zQ {t:DTree}(h:okTree t):∀ n∈t.nodes,Small n:=fun n hn=>Er (h.2.2 n hn)
end
end Go.Proofs.YtfbpiogbhkgieaaGreat
namespace Go.Proofs.YtfbpiogbhkgieaaGreat
set_option linter.unusedVariables false
set_option linter.unusedSimpArgs false
def kOf (n:Nat):Nat:=if 8<n then (n+7) / 8 else 1
theorem u9 (n:Nat):0<kOf n:=by unfold kOf;split <;> omega
theorem Fh (n:Nat):n≤8*kOf n:=by unfold kOf;split <;> omega
theorem zG {n:Nat}(h:1<kOf n):4*kOf n≤n∧8<n:=by
 unfold kOf at *
 by_cases h8:8<n
 · rw [if_pos h8] at h ⊢;omega
 · rw [if_neg h8] at h;omega
theorem Ay {n k:Nat}(h:n≤8*k)(hk:0<k):kOf n≤k:=by unfold kOf;split <;> omega
theorem yp {n:Nat}(h:1<n):2*kOf n≤n:=by unfold kOf;split <;> omega
theorem CV {n:Nat}(h:n≤8):kOf n=1:=by unfold kOf;rw [if_neg (by omega)]
def off (n k i:Nat):Nat:=n*i / k
theorem yA {n k i j:Nat}(h:i≤j):off n k i≤off n k j:=Nat.div_le_div_right (Nat.mul_le_mul_left _ h)
theorem xu (n k:Nat):off n k 0=0:=by unfold off;simp
theorem yz {n k:Nat}(h:0<k):off n k k=n:=Nat.mul_div_cancel _ h
theorem Cu {n k i:Nat}(h:0<k)(hi:i≤k):off n k i≤n:=Nat.le_trans (yA hi) (Nat.le_of_eq (yz h))
theorem BH {n k:Nat}(h:0<k)(hn:n≤8*k)(i:Nat):off n k (i+1)≤off n k i+8:=by
 unfold off
 rw [Nat.mul_succ,← Nat.add_mul_div_right _ _ h]
 exact Nat.div_le_div_right (by omega)
theorem xr {n k:Nat}(h:0<k)(hn:4*k≤n)(i:Nat):off n k i+4≤off n k (i+1):=by
 unfold off
 rw [Nat.mul_succ,← Nat.add_mul_div_right _ _ h]
 exact Nat.div_le_div_right (by omega)
section groups
variable {α β γ:Type}
def vO (l:List α)(k i:Nat):List α:=(l.drop (off l.length k i)).take (off l.length k (i+1)-off l.length k i)
def groups (l:List α):List (List α):=(List.range (kOf l.length)).map (vO l (kOf l.length))
theorem uw (l:List α):(groups l).length=kOf l.length:=by unfold groups;simp
theorem xT {l:List α}{i:Nat}(h:i<kOf l.length):(groups l)[i]? = some (vO l (kOf l.length) i):=by
 unfold groups;rw [List.getElem?_map,List.getElem?_range h];rfl
theorem CC (l:List α){k:Nat}(hk:0<k)(j:Nat):(List.range j).flatMap (vO l k)=l.take (off l.length k j):=by
 induction j with
 | zero=>rw [xu];rfl
 | succ j ih =>
  rw [List.range_succ,List.flatMap_append,ih,List.flatMap_singleton]
  have h:=yA (n:=l.length) (k:=k) (Nat.le_succ j)
  unfold vO
  rw [← List.take_add]
  congr 1
  exact Nat.add_sub_cancel' h
theorem wt (l:List α):(groups l).flatten=l:=by
 unfold groups
 rw [← List.flatMap_def,CC l (u9 _),yz (u9 _),List.take_length]
theorem AY (l:List α){i:Nat}(h:i<kOf l.length):(vO l (kOf l.length) i).length=off l.length (kOf l.length) (i+1)-off l.length (kOf l.length) i:=by
 unfold vO
 have h1:=Cu (n:=l.length) (u9 l.length) (show i+1≤kOf l.length by omega)
 rw [List.length_take,List.length_drop];omega
theorem uM {l g:List α}(h:g∈groups l):g.length≤8∧(1<kOf l.length→4≤g.length)∧(l≠[]→g≠[])∧(1<l.length→1<g.length):=by
 obtain⟨i,hi⟩:=List.mem_iff_getElem?.1 h
 have hlt:=(ggs.1 hi).1
 rw [uw] at hlt
 rw [xT hlt] at hi
 obtain rfl:=Option.some.inj hi
 have h1:=BH (u9 l.length) (Fh l.length) i
 have hl:=AY l hlt
 refine⟨by omega,fun hk=>?_,fun hne=>?_,fun hl1=>?_⟩
 · have:=xr (u9 l.length) (zG hk).1 i;omega
 · by_cases hk:1<kOf l.length
   · have:=xr (u9 l.length) (zG hk).1 i
     intro e;rw [e] at hl;simp at hl;omega
   · have hk1:kOf l.length=1:=by have:=u9 l.length;omega
     obtain rfl:i=0:=by omega
     rw [hk1,xu,yz (by decide)] at hl
     intro e;rw [hk1] at e;rw [e] at hl;exact hne (List.eq_nil_of_length_eq_zero (by simpa using hl.symm))
 · by_cases hk:1<kOf l.length
   · have:=xr (u9 l.length) (zG hk).1 i;omega
   · have hk1:kOf l.length=1:=by have:=u9 l.length;omega
     obtain rfl:i=0:=by omega
     rw [hk1,xu,yz (by decide)] at hl
     rw [hk1];omega
theorem wX {φ:List α × Nat→β}{ψ:β→List γ}{χ:List α→List γ}:∀(G:List (List α)) (n:Nat),(∀ j g,G[j]? = some g→ψ (φ (g,n+j))=χ g)→((G.zipIdx n).map φ).flatMap ψ=G.flatMap χ
 | [],_,_=>rfl
 | g::G,n,h=>by
  have h0:=h 0 g rfl
  rw [Nat.add_zero] at h0
  rw [List.zipIdx_cons,List.map_cons,List.flatMap_cons,List.flatMap_cons,h0,wX G (n+1) fun j g' hg=>by rw [show n+1+j=n+(j+1) by omega];exact h (j+1) g' (by simpa using hg)]
theorem uW {φ:List α × Nat→β}{G:List (List α)}{x:β}(h:x∈G.zipIdx.map φ):∃ j g,G[j]? = some g∧x=φ (g,j):=by
 obtain⟨⟨g,j⟩,hp,rfl⟩:=List.mem_map.1 h
 rw [List.mem_zipIdx_iff_getElem?] at hp
 exact⟨j,g,hp,rfl⟩
theorem Ac {φ:List α × Nat→β}{ψ:β→List Nat}{χ:List α→List Nat}:∀(G:List (List α)) (n a:Nat),(∀ j g,G[j]? = some g→ψ (φ (g,n+j))=(a+j)::χ g)→(((G.zipIdx n).map φ).flatMap ψ).Perm (List.range' a G.length++G.flatMap χ)
 | [],_,_,_=>List.Perm.refl _
 | g::G,n,a,h=>by
  have ih:=Ac G (n+1) (a+1) fun j g' hg=>by
   have:=h (j+1) g' (by simpa using hg)
   rw [show n+1+j=n+(j+1) by omega,show a+1+j=a+(j+1) by omega];exact this
  rw [List.zipIdx_cons,List.map_cons,List.flatMap_cons,List.flatMap_cons]
  have h0:=h 0 g rfl
  rw [Nat.add_zero,Nat.add_zero] at h0
  rw [h0,List.length_cons,List.range'_succ,List.cons_append,List.cons_append]
  refine List.Perm.cons _ ?_
  refine(List.Perm.append_left _ ih).trans ?_
  rw [← List.append_assoc,← List.append_assoc]
  exact List.Perm.append_right _ List.perm_append_comm
end groups
def E9:DSpot:=⟨⟨0,0,0⟩,0⟩
def yu (es:List DElem):DSpot:=match es.head? with
 | some e=>tY e
 | none=>E9
def CU (g:List Dbuild_low):DSpot:=match g.head? with
 | some k=>k.s
 | none=>E9
def D9 (es:List DElem):DNode:=⟨1,es,[],[],[]⟩
def wE (ns:List DNode)(g:List Dbuild_low):DNode:=⟨2,[],g.map (·.i),g.tail.map (·.s),g.map fun k=>uh (nd ns k.i)⟩
def uA (l:List DElem):List DNode:=(groups l).map D9
def wh (l:List DElem):List Dbuild_low:=(groups l).zipIdx.map fun p=>⟨(p.2:Int),yu p.1⟩
def uC (x:List DNode × List Dbuild_low):List DNode × List Dbuild_low :=
 (x.1++(groups x.2).map (wE x.1),(groups x.2).zipIdx.map fun p=>⟨((x.1.length+p.2:Nat):Int),CU p.1⟩)
def up:Nat→List DNode × List Dbuild_low→List DNode × List Dbuild_low
 | 0,x=>x
 | m+1,x=>if 1<x.2.length then up m (uC x) else x
def vP (l:List DElem):DTree :=
 let x:=up 400 (uA l,wh l)
 ⟨match x.2.head? with | some y=>y.i | none=>0,x.1⟩
def cN (n:Nat):Nat→Nat
 | 0=>kOf n
 | h+1=>kOf (cN n h)
def sNk (n:Nat):Nat→Nat
 | 0=>cN n 0
 | h+1=>sNk n h+cN n (h+1)
def okB (ns:List DNode):Nat→Int→Prop
 | 0,i=>(0≤i∧i<(ns.length:Int))∧(nd ns i).kind=1
 | h+1,i=>(0≤i∧i<(ns.length:Int))∧(nd ns i).kind=2∧(nd ns i).seps=(nd ns i).kids.tail.map (fun k=>yu (tX ns h k))∧(nd ns i).tids=(nd ns i).kids.map (fun k=>uh (nd ns k)) ∧
  ∀ k∈(nd ns i).kids,okB ns h k∧4≤(nd ns k).elems.length+(nd ns k).kids.length∧tX ns h k≠[]
theorem okB.range {ns:List DNode}{h:Nat}{i:Int}(k:okB ns h i):0≤i∧i<(ns.length:Int):=by cases h <;> exact k.1
theorem xZ (ns more:List DNode){i:Int}(h:0≤i∧i<(ns.length:Int)):nd (ns++more) i=nd ns i:=by
 unfold nd
 rw [List.getElem?_append_left (by omega)]
theorem uz {α β:Type}{f g:α→List β}:∀ {l:List α},(∀ a∈l,f a=g a)→l.flatMap f=l.flatMap g
 | [],_=>rfl
 | a::l,h=>by rw [List.flatMap_cons,List.flatMap_cons,h a List.mem_cons_self,uz fun b hb=>h b (List.mem_cons_of_mem _ hb)]
theorem okB.old {ns:List DNode}(more:List DNode):∀ {h:Nat} {i:Int},okB ns h i→okB (ns++more) h i∧tX (ns++more) h i=tX ns h i∧ids (ns++more) h i=ids ns h i:=by
 intro h
 induction h with
 | zero =>
  intro i k
  have e:=xZ ns more k.1
  refine⟨⟨⟨k.1.1,by rw [List.length_append];have:=k.1.2;omega⟩,by rw [e];exact k.2⟩,by rw [tX,tX,e],rfl⟩
 | succ h ih =>
  intro i k
  have e:=xZ ns more k.1
  obtain⟨k1,k2,k3,k4,k5⟩:=k
  have hk : ∀ x∈(nd ns i).kids,tX (ns++more) h x=tX ns h x:=fun x hx=>(ih (k5 x hx).1).2.1
  refine⟨⟨⟨k1.1,by rw [List.length_append];have:=k1.2;omega⟩,by rw [e];exact k2,?_,?_,?_⟩,?_,?_⟩
  · rw [e,k3]
    exact List.map_congr_left fun x hx=>by rw [hk x (List.mem_of_mem_tail hx)]
  · rw [e,k4]
    exact List.map_congr_left fun x hx=>by rw [xZ ns more (k5 x hx).1.range]
  · rw [e]
    intro x hx
    obtain⟨q1,q2,q3⟩:=k5 x hx
    exact⟨(ih q1).1,by rw [xZ ns more q1.range];exact q2,by rw [hk x hx];exact q3⟩
  · rw [tX,tX,e];exact uz hk
  · rw [ids,ids,e,uz fun x hx=>(ih (k5 x hx).1).2.2]
theorem EI {n:DNode}{s:Span}{k:Nat}{x:DSpot}(h:inS s x=true)(h1 : ∀ j y,k=j+1→n.seps[j]? = some y→cmpS y x≤0)(h2 : ∀ y,n.seps[k]? = some y→cmpS x y<0):inS (ur n s k) x=true:=by
 rw [uB] at h ⊢
 have hl:((vU n s k).hasLo=true→cmpS (vU n s k).lo x≤0)∧(vU n s k).hi=s.hi∧(vU n s k).hasHi=s.hasHi:=by
  cases k with
  | zero=>exact ⟨h.1,rfl,rfl⟩
  | succ j =>
   have e:vU n s (j+1)=(match n.seps[j]? with | some x=>{ s with lo:=x,hasLo:=true } | none=>s):=rfl
   rw [e]
   cases hj:n.seps[j]? with
   | none=>exact ⟨h.1,rfl,rfl⟩
   | some y=>exact ⟨fun _=>h1 j y rfl hj,rfl,rfl⟩
 unfold ur zj
 cases hk:n.seps[k]? with
 | none=>exact ⟨hl.1,fun hh=>by rw [hl.2.2] at hh;rw [hl.2.1];exact h.2 hh⟩
 | some y=>exact ⟨hl.1,fun _=>h2 y hk⟩
theorem wL {l:List DElem}(h:l≠[]):∃ e∈l,yu l=tY e∧(l.Pairwise SpO→∀ x∈l,cmpS (yu l) (tY x)≤0):=by
 cases l with
 | nil=>exact absurd rfl h
 | cons e l =>
  refine⟨e,List.mem_cons_self,rfl,fun hp x hx=>?_⟩
  show cmpS (tY e) (tY x)≤0
  rcases List.mem_cons.1 hx with rfl | hx
  · rw [ue.refl];exact Int.le_refl _
  · have:=(List.pairwise_cons.1 hp).1 x hx
    unfold SpO at this;omega
theorem Dd {α β:Type}{R:β→β→Prop}{f:α→List β}{l:List α}(h:(l.flatMap f).Pairwise R){i j:Nat}{a b:α}(hij:i<j)(ha:l[i]? = some a)(hb:l[j]? = some b){x y:β}(hx:x∈f a)(hy:y∈f b):R x y :=
 uV (List.pairwise_flatMap.1 h).2 hij ha hb x hx y hy
theorem okB.right {ns:List DNode}:∀ {h:Nat} {i d:Int} {s:Span},okB ns h i→0≤d→(0<d→4≤(nd ns i).elems.length+(nd ns i).kids.length)→(tX ns h i).Pairwise SpO→(∀ e∈tX ns h i,inS s (tY e)=true)→okN ns h i d s:=by
 intro h
 induction h with
 | zero=>exact fun k hd hf hp hs=>⟨k.1,k.2,hf,hs⟩
 | succ h ih =>
  intro i d s k hd hf hp hs
  obtain⟨k1,k2,k3,k4,k5⟩:=k
  refine⟨k1,by rw [k2];decide,hf,?_⟩
  rintro⟨x,q⟩ hx
  rw [List.mem_zipIdx_iff_getElem?] at hx
  dsimp only at hx ⊢
  have hmem:=List.mem_of_getElem? hx
  obtain⟨c1,c2,c3⟩:=k5 x hmem
  have hsub : ∀ e∈tX ns h x,e∈tX ns (h+1) i:=fun e he=>List.mem_flatMap.2 ⟨x,hmem,he⟩
  have hpx : ∀ y∈(nd ns i).kids,(tX ns h y).Pairwise SpO:=fun y hy=>(List.pairwise_flatMap.1 hp).1 y hy
  have hsep : ∀ j y,(nd ns i).seps[j]? = some y→∃ c,(nd ns i).kids[j+1]? = some c∧y=yu (tX ns h c):=fun j y hy=>by
   rw [k3,List.getElem?_map,List.getElem?_tail,Option.map_eq_some_iff] at hy
   obtain⟨c,hc,rfl⟩:=hy
   exact⟨c,hc,rfl⟩
  refine⟨ih c1 (by omega) (fun _=>c2) (hpx x hmem) fun e he=>?_,?_,?_⟩
  · refine EI (hs e (hsub e he)) (fun j y hj hy=>?_) (fun y hy=>?_)
    · obtain⟨c,hc,rfl⟩:=hsep j y hy
      rw [← hj,hx] at hc
      obtain rfl:=Option.some.inj hc
      obtain⟨_,_,_,hle⟩:=wL c3
      exact hle (hpx _ hmem) e he
    · obtain⟨c,hc,rfl⟩:=hsep q y hy
      obtain⟨e2,he2,hlow,_⟩:=wL (k5 c (List.mem_of_getElem? hc)).2.2
      rw [hlow]
      exact Dd (f:=tX ns h) hp (Nat.lt_succ_self q) hx hc he he2
  · cases q with
    | zero=>rfl
    | succ j =>
     show (match (nd ns i).seps[j]? with | some y=>!inS s y | none=>false)=false
     cases hj:(nd ns i).seps[j]? with
     | none=>rfl
     | some y =>
      obtain⟨c,hc,rfl⟩:=hsep j y hj
      rw [hx] at hc
      obtain rfl:=Option.some.inj hc
      obtain⟨e2,he2,hlow,_⟩:=wL c3
      rw [hlow]
      show (!inS s (tY e2))=false
      rw [hs e2 (hsub e2 he2)];rfl
  · rw [k4,List.getElem?_map,hx];rfl
theorem D8 {e:DElem}(h:ui e=0):0≤uR e∧uR e≤2147483647:=by
 obtain⟨_,h1,h2,h3,_⟩:=vX h
 unfold uR
 split <;> omega
theorem Be {e:DElem}(h:ui e=0):ui (zE (tY e))=0:=by
 obtain⟨h0,h1,h2,h3,_⟩:=vX h
 unfold ui zE tY
 dsimp only
 rw [if_neg (by simpa using h0),if_neg (by omega),if_neg (by show ¬ (40<0);omega)]
theorem xm {n:DNode}(h:uv n=0):0≤uh n∧uh n≤2147483647:=by
 obtain⟨_,_,h3⟩:=xS n
 rcases h3 with h3 | ⟨e,he,h3⟩ | ⟨t,ht,h3⟩
 · omega
 · rcases uy.1 h with q | q | q
   · rw [q.2.1] at he;cases he
   · have:=D8 (q.2.ok e he);omega
   · rw [q.2.elems] at he;cases he
 · rcases uy.1 h with q | q | q
   · rw [q.2.2.2.2] at ht;cases ht
   · rw [q.2.tids] at ht;cases ht
   · have:=q.2.tid t ht;omega
structure Lev (ns:List DNode) (lv:List Dbuild_low) (l:List DElem) (h:Nat):Prop where
 count:lv.length=cN l.length h
 total:ns.length=sNk l.length h
 many : ∀ j,j<h→1<cN l.length j
 chk : ∀ n∈ns,uv n=0
 fit : ∀ x∈lv,okB ns h x.i
 low : ∀ x∈lv,x.s=yu (tX ns h x.i)
 cat:lv.flatMap (fun x=>tX ns h x.i)=l
 perm:(lv.flatMap fun x=>ids ns h x.i).Perm (List.range ns.length)
 full:1<lv.length→∀ x∈lv,4≤(nd ns x.i).elems.length+(nd ns x.i).kids.length
 full2:1<lv.length→∀ x∈lv,tX ns h x.i≠[]
 size:ns.length+lv.length≤100
theorem B8 (n h:Nat):0<cN n h:=by cases h <;> exact u9 _
theorem Ec {ns:List DNode}{j:Nat}{n:DNode}(h:ns[j]? = some n):nd ns ((j:Nat):Int)=n:=yw h
theorem xI {α:Type}{l g:List α}(h:g∈groups l):g.Sublist l:=by
 unfold groups at h
 obtain⟨i,_,rfl⟩:=List.mem_map.1 h
 exact(List.take_sublist _ _).trans (List.drop_sublist _ _)
theorem Lev.zero {l:List DElem}(hl:l.length≤400)(ho : ∀ e∈l,ui e=0)(hp:l.Pairwise SpO):Lev (uA l) (wh l) l 0:=by
 have hlen:(uA l).length=kOf l.length:=by unfold uA;rw [List.length_map,uw]
 have hlv:(wh l).length=kOf l.length:=by unfold wh;rw [List.length_map,List.length_zipIdx,uw]
 have hnd : ∀ j g,(groups l)[j]? = some g→nd (uA l) ((j:Nat):Int)=D9 g:=fun j g hg=>Ec (by unfold uA;rw [List.getElem?_map,hg];rfl)
 have hk:kOf l.length≤50:=Ay (by omega) (by decide)
 refine⟨hlv,hlen,fun j hj=>by omega,fun n hn=>?_,fun x hx=>?_,fun x hx=>?_,?_,?_,fun h1 x hx=>?_,fun h1 x hx=>?_,by omega⟩
 · unfold uA at hn
   obtain⟨g,hg,rfl⟩:=List.mem_map.1 hn
   have hs:=xI hg
   exact uy.2 (.inr (.inl ⟨rfl,⟨rfl,rfl,rfl,(uM hg).1,fun e he=>ho e (hs.subset he),hp.sublist hs⟩⟩))
 · obtain⟨j,g,hg,rfl⟩:=uW hx
   have hj:=(ggs.1 hg).1
   rw [uw] at hj
   exact⟨⟨by dsimp only;omega,by dsimp only;omega⟩,by dsimp only;rw [hnd j g hg];rfl⟩
 · obtain⟨j,g,hg,rfl⟩:=uW hx
   dsimp only
   rw [tX,hnd j g hg];rfl
 · have := wX (φ := fun p : List DElem × Nat => (⟨(p.2 : Int), yu p.1⟩ : Dbuild_low)) (ψ := fun x => tX (uA l) 0 x.i) (χ := fun g => g) (groups l) 0 fun j g hg => by
    dsimp only
    rw [Nat.zero_add,tX,hnd j g hg];rfl
   unfold wh
   rw [this,List.flatMap_id']
   exact wt l
 · have := Ac (φ := fun p : List DElem × Nat => (⟨(p.2 : Int), yu p.1⟩ : Dbuild_low)) (ψ := fun x => ids (uA l) 0 x.i) (χ := fun g => []) (groups l) 0 0 fun j g hg => by
    dsimp only
    rw [ids,Int.toNat_natCast]
   rw [show (groups l).flatMap (fun _=>([]:List Nat))=[] by rw [List.flatMap_eq_nil_iff];exact fun _ _=>rfl,List.append_nil,uw,← List.range_eq_range',← hlen] at this
   exact this
 · rw [hlv] at h1
   obtain⟨j,g,hg,rfl⟩:=uW hx
   dsimp only
   rw [hnd j g hg]
   have:=(uM (List.mem_of_getElem? hg)).2.1 h1
   show 4≤g.length+0
   omega
 · rw [hlv] at h1
   obtain⟨j,g,hg,rfl⟩:=uW hx
   dsimp only
   rw [tX,hnd j g hg]
   have:=(uM (List.mem_of_getElem? hg)).2.1 h1
   intro e
   have e2:g=[]:=e
   rw [e2] at this
   exact absurd this (by decide)
theorem Lev.next {ns:List DNode}{lv:List Dbuild_low}{l:List DElem}{h:Nat}(L:Lev ns lv l h)(hp:l.Pairwise SpO)(ho : ∀ e∈l,ui e=0)(h1:1<lv.length):Lev (uC (ns,lv)).1 (uC (ns,lv)).2 l (h+1):=by
 have hG:(groups lv).length=kOf lv.length:=uw lv
 have hcount:(uC (ns,lv)).2.length=kOf lv.length:=by unfold uC;dsimp only;rw [List.length_map,List.length_zipIdx,hG]
 have hlen:(uC (ns,lv)).1.length=ns.length+kOf lv.length:=by unfold uC;dsimp only;rw [List.length_append,List.length_map,hG]
 have hhalf:=yp h1
 have hsize:=L.size
 have hmem : ∀ g∈groups lv,∀ x∈g,x∈lv:=fun g hg x hx=>(xI hg).subset hx
 have hnew : ∀ j g,(groups lv)[j]? = .some g→nd (uC (ns,lv)).1 ((ns.length+j:Nat):Int)=wE ns g:=fun j g hg=>Ec (by
  unfold uC;dsimp only
  rw [List.getElem?_append_right (by omega),Nat.add_sub_cancel_left,List.getElem?_map,hg];rfl)
 have hold : ∀ x∈lv,okB (uC (ns,lv)).1 h x.i∧tX (uC (ns,lv)).1 h x.i=tX ns h x.i∧ids (uC (ns,lv)).1 h x.i=ids ns h x.i:=fun x hx=>(L.fit x hx).old _
 have hkids : ∀ g∈groups lv,(wE ns g).kids.flatMap (tX (uC (ns,lv)).1 h)=g.flatMap fun x=>tX ns h x.i:=fun g hg=>by
  show (g.map (·.i)).flatMap _=_
  rw [List.flatMap_map]
  exact uz fun x hx=>(hold x (hmem g hg x hx)).2.1
 have hel : ∀ j g,(groups lv)[j]? = .some g→tX (uC (ns,lv)).1 (h+1) ((ns.length+j:Nat):Int)=g.flatMap fun x=>tX ns h x.i:=fun j g hg=>by
  rw [tX,hnew j g hg]
  exact hkids g (List.mem_of_getElem? hg)
 have hne : ∀ g∈groups lv,g≠[]:=fun g hg=>(uM hg).2.2.1 (fun e=>by rw [e] at h1;simp at h1)
 have hcat:(groups lv).flatMap (fun g=>g.flatMap fun x=>tX ns h x.i)=l:=by
  have e:=L.cat
  rw [← wt lv] at e
  rw [← e,List.flatten_eq_flatMap,List.flatMap_assoc]
  rfl
 have hok : ∀ x∈lv,∀ e∈tX ns h x.i,ui e=0:=fun x hx e he=>ho e (by rw [← L.cat];exact List.mem_flatMap.2 ⟨x,hx,he⟩)
 have hlvS:lv.Pairwise fun x y=>SpotO x.s y.s:=by
  have e:=L.cat
  rw [← e] at hp
  have:=(List.pairwise_flatMap.1 hp).2
  refine List.Pairwise.imp_of_mem (fun {x y} hx hy hxy=>?_) this
  obtain⟨a,ha,hla,_⟩:=wL (L.full2 h1 x hx)
  obtain⟨b,hb,hlb,_⟩:=wL (L.full2 h1 y hy)
  unfold SpotO
  rw [L.low x hx,L.low y hy,hla,hlb]
  exact hxy a ha b hb
 refine⟨by rw [hcount,cN,L.count],by rw [hlen,sNk,L.total,cN,L.count],fun j hj=>?_,fun n hn=>?_,fun x hx=>?_,fun x hx=>?_,?_,?_,fun h2 x hx=>?_,fun h2 x hx=>?_,by omega⟩
 · by_cases e:j=h
   · rw [e,← L.count];exact h1
   · exact L.many j (by omega)
 · have hn' : n∈ns++(groups lv).map (wE ns):=hn
   rcases List.mem_append.1 hn' with hn | hn
   · exact L.chk n hn
   · obtain⟨g,hg,rfl⟩:=List.mem_map.1 hn
     obtain⟨s1,s2,s3,s4⟩:=uM hg
     have s4:=s4 h1
     refine uy.2 (.inr (.inr ⟨rfl,⟨rfl,?_,?_,?_,?_,fun k hk=>?_,fun t ht=>?_,fun s hs=>?_,?_⟩⟩))
     · show 2≤(g.map _).length;rw [List.length_map];omega
     · show (g.map _).length≤8;rw [List.length_map];exact s1
     · show (g.tail.map _).length+1=(g.map _).length;rw [List.length_map,List.length_map,List.length_tail];omega
     · show (g.map _).length=(g.map _).length;rw [List.length_map,List.length_map]
     · obtain⟨x,hx,rfl⟩:=List.mem_map.1 hk
       have:=(L.fit x (hmem g hg x hx)).range
       omega
     · obtain⟨x,hx,rfl⟩:=List.mem_map.1 ht
       have:=(L.fit x (hmem g hg x hx)).range
       exact xm (L.chk _ (uZ this.1 this.2))
     · obtain⟨x,hx,rfl⟩:=List.mem_map.1 hs
       have hxl:=hmem g hg x (List.mem_of_mem_tail hx)
       obtain⟨a,ha,hla,_⟩:=wL (L.full2 h1 x hxl)
       rw [L.low x hxl,hla]
       exact Be (hok x hxl a ha)
     · have:=hlvS.sublist ((List.tail_sublist g).trans (xI hg))
       exact List.pairwise_map.2 this
 · obtain⟨j,g,hg,rfl⟩:=uW hx
   have hgm:=List.mem_of_getElem? hg
   have hj:=(ggs.1 hg).1
   rw [hG] at hj
   dsimp only
   refine⟨⟨by omega,by rw [hlen];omega⟩,?_⟩
   rw [hnew j g hg]
   refine⟨rfl,?_,?_,?_⟩
   · show g.tail.map _=(g.map _).tail.map _
     rw [← List.map_tail,List.map_map]
     exact List.map_congr_left fun x hx=>by
      have hxl:=hmem g hgm x (List.mem_of_mem_tail hx)
      show x.s=yu (tX (uC (ns,lv)).1 h x.i)
      rw [(hold x hxl).2.1];exact L.low x hxl
   · show g.map _=(g.map _).map _
     rw [List.map_map]
     exact List.map_congr_left fun x hx=>by
      show uh (nd ns x.i)=uh (nd (uC (ns,lv)).1 x.i)
      rw [show nd (uC (ns,lv)).1 x.i=nd ns x.i from xZ ns _ (L.fit x (hmem g hgm x hx)).range]
   · intro k hk
     obtain⟨x,hx,rfl⟩:=List.mem_map.1 hk
     have hxl:=hmem g hgm x hx
     refine⟨(hold x hxl).1,?_,?_⟩
     · rw [show nd (uC (ns,lv)).1 x.i=nd ns x.i from xZ ns _ (L.fit x hxl).range];exact L.full h1 x hxl
     · rw [(hold x hxl).2.1];exact L.full2 h1 x hxl
 · obtain⟨j,g,hg,rfl⟩:=uW hx
   have hgm:=List.mem_of_getElem? hg
   dsimp only
   rw [hel j g hg]
   cases g with
   | nil=>exact absurd rfl (hne _ hgm)
   | cons x g =>
    have hxl:=hmem _ hgm x List.mem_cons_self
    show x.s=_
    rw [L.low x hxl,List.flatMap_cons]
    cases hx:tX ns h x.i with
    | nil=>exact absurd hx (L.full2 h1 x hxl)
    | cons a q=>rfl
 · have := wX (φ := fun p : List Dbuild_low × Nat => (⟨((ns.length + p.2 : Nat) : Int), CU p.1⟩ : Dbuild_low)) (ψ := fun x => tX (uC (ns, lv)).1 (h + 1) x.i) (χ := fun g => g.flatMap fun x => tX ns h x.i) (groups lv) 0 fun j g hg => by
    dsimp only
    rw [Nat.zero_add];exact hel j g hg
   exact this.trans hcat
 · have := Ac (φ := fun p : List Dbuild_low × Nat => (⟨((ns.length + p.2 : Nat) : Int), CU p.1⟩ : Dbuild_low)) (ψ := fun x => ids (uC (ns, lv)).1 (h + 1) x.i) (χ := fun g => g.flatMap fun x => ids ns h x.i) (groups lv) 0 ns.length fun j g hg => by
    dsimp only
    rw [Nat.zero_add,ids,hnew j g hg,Int.toNat_natCast]
    congr 1
    show (g.map (·.i)).flatMap _=_
    rw [List.flatMap_map]
    exact uz fun x hx=>(hold x (hmem g (List.mem_of_getElem? hg) x hx)).2.2
   refine List.Perm.trans this ?_
   have e:(groups lv).flatMap (fun g=>g.flatMap fun x=>ids ns h x.i)=lv.flatMap fun x=>ids ns h x.i:=by
    conv=>rhs;rw [← wt lv,List.flatten_eq_flatMap,List.flatMap_assoc]
    rfl
   rw [e,hlen,hG,List.range_eq_range',← List.range'_append_1 (s:=0) (m:=ns.length) (n:=kOf lv.length),Nat.zero_add,← List.range_eq_range']
   exact(List.Perm.append_left _ L.perm).trans List.perm_append_comm
 · rw [hcount] at h2
   obtain⟨j,g,hg,rfl⟩:=uW hx
   dsimp only
   rw [hnew j g hg]
   have:=(uM (List.mem_of_getElem? hg)).2.1 h2
   show 4≤0+(g.map _).length
   rw [List.length_map];omega
 · obtain⟨j,g,hg,rfl⟩:=uW hx
   have hgm:=List.mem_of_getElem? hg
   dsimp only
   rw [hel j g hg]
   cases g with
   | nil=>exact absurd rfl (hne _ hgm)
   | cons x g =>
    have hxl:=hmem _ hgm x List.mem_cons_self
    rw [List.flatMap_cons]
    intro e
    exact L.full2 h1 x hxl (List.append_eq_nil_iff.1 e).1
theorem Lev.up {l:List DElem}(hp:l.Pairwise SpO)(ho : ∀ e∈l,ui e=0):∀(m:Nat) {ns:List DNode} {lv:List Dbuild_low} {h:Nat},Lev ns lv l h→lv.length≤m→∃ h',Lev (up m (ns,lv)).1 (up m (ns,lv)).2 l h'∧(up m (ns,lv)).2.length=1:=by
 intro m
 induction m with
 | zero =>
  intro ns lv h L hm
  have:=L.count
  have:=B8 l.length h
  omega
 | succ m ih =>
  intro ns lv h L hm
  rw [Go.Proofs.YtfbpiogbhkgieaaGreat.up]
  by_cases h1:1<lv.length
  · rw [if_pos h1]
    have L':=L.next hp ho h1
    have hc:(uC (ns,lv)).2.length=kOf lv.length:=by unfold uC;dsimp only;rw [List.length_map,List.length_zipIdx,uw]
    have:=yp h1
    exact ih L' (Nat.le_trans (Nat.le_of_eq hc) (by omega))
  · rw [if_neg h1]
    have:=L.count
    have:=B8 l.length h
    exact⟨h,L,by dsimp only;omega⟩
theorem EJ (x:DSpot):inS topS x=true:=rfl
theorem zb {l:List DElem}(hl:l.length≤400)(ho : ∀ e∈l,ui e=0)(hp:l.Pairwise SpO):∃ h,Good (vP l) h∧tX (vP l).nodes h (vP l).root=l∧(vP l).nodes.length=sNk l.length h∧cN l.length h=1∧∀ j,j<h→1<cN l.length j:=by
 have L0:=Lev.zero hl ho hp
 have hlv:(wh l).length≤400:=by have:=L0.size;omega
 obtain⟨h,L,h1⟩:=Lev.up hp ho 400 L0 hlv
 unfold vP
 dsimp only
 generalize Go.Proofs.YtfbpiogbhkgieaaGreat.up 400 (uA l,wh l)=x at L h1
 obtain⟨ns,lv⟩:=x
 dsimp only at L h1 ⊢
 obtain⟨y,rfl⟩:=List.length_eq_one_iff.1 h1
 dsimp only [List.head?]
 have hcat:tX ns h y.i=l:=by have:=L.cat;simpa using this
 have hperm:(ids ns h y.i).Perm (List.range ns.length):=by have:=L.perm;simpa using this
 refine⟨h,⟨by have:=L.size;dsimp only;omega,L.chk,?_,?_,fun i hi _=>?_⟩,hcat,L.total,by rw [← L.count];exact h1,L.many⟩
 · exact(L.fit y (by simp)).right (Int.le_refl _) (fun h=>absurd h (by decide)) (by rw [hcat];exact hp) (fun e _=>EJ _)
 · exact hperm.nodup_iff.2 List.nodup_range
 · exact hperm.mem_iff.2 (List.mem_range.2 hi)
end Go.Proofs.YtfbpiogbhkgieaaGreat
namespace Go.Proofs.YtfbpiogbhkgieaaGreat
set_option linter.unusedSimpArgs false
set_option linter.unusedVariables false
section
def hiS (s:Span)(x:DSpot):Span:={ s with hi:=x,hasHi:=true }
def loS (s:Span)(x:DSpot):Span:={ s with lo:=x,hasLo:=true }
theorem vl {s:Span}{x y:DSpot}:inS (hiS s x) y=true↔(s.hasLo=true→cmpS s.lo y≤0)∧cmpS y x<0:=by
 rw [uB];unfold hiS;simp
theorem wn {s:Span}{x y:DSpot}:inS (loS s x) y=true↔cmpS x y≤0∧(s.hasHi=true→cmpS y s.hi<0):=by
 rw [uB];unfold loS;simp
theorem vB {s:Span}{x y:DSpot}(hx:inS s x=true)(h:inS (hiS s x) y=true):inS s y=true:=by
 rw [vl] at h
 rw [uB] at hx ⊢
 exact⟨h.1,fun hh=>ue.lt_trans h.2 (hx.2 hh)⟩
theorem vT {s:Span}{x y:DSpot}(hx:inS s x=true)(h:inS (loS s x) y=true):inS s y=true:=by
 rw [wn] at h
 rw [uB] at hx ⊢
 exact⟨fun hh=>Bo (hx.1 hh) h.1,h.2⟩
def Ch (P:Int→Int→Span→Prop):List DSpot→Span→List Int→List Int→Prop
 | [],s,ks,ts=>∃ k t,ks=[k]∧ts=[t]∧P k t s
 | x::xs,s,ks,ts=>∃ k ks' t ts',ks=k::ks'∧ts=t::ts'∧inS s x=true∧P k t (hiS s x)∧Ch P xs (loS s x) ks' ts'
section
variable {P Q:Int→Int→Span→Prop}
theorem Ch.lens : ∀ {xs:List DSpot} {s:Span} {ks ts:List Int},Ch P xs s ks ts→xs.length+1=ks.length∧ts.length=ks.length
 | [],s,ks,ts,⟨k,t,h1,h2,_⟩=>by subst h1 h2;exact⟨rfl,rfl⟩
 | x::xs,s,ks,ts,⟨k,ks',t,ts',h1,h2,_,_,c⟩=>by
  subst h1 h2
  have:=c.lens
  simp only [List.length_cons];omega
theorem Ch.mono : ∀ {xs:List DSpot} {s:Span} {ks ts:List Int},(∀ k t s',k∈ks→P k t s'→Q k t s')→Ch P xs s ks ts→Ch Q xs s ks ts
 | [],s,ks,ts,h,⟨k,t,h1,h2,c⟩=>⟨k,t,h1,h2,h _ _ _ (by rw [h1];exact List.mem_cons_self) c⟩
 | x::xs,s,ks,ts,h,⟨k,ks',t,ts',h1,h2,h3,h4,c⟩=>⟨k,ks',t,ts',h1,h2,h3,h _ _ _ (by rw [h1];exact List.mem_cons_self) h4,c.mono fun k t s' hk=>h k t s' (by rw [h1];exact List.mem_cons_of_mem _ hk)⟩
theorem Ch.mem : ∀ {xs:List DSpot} {s:Span} {ks ts:List Int},Ch P xs s ks ts→∀ k∈ks,∃ t s',P k t s'∧∀ y,inS s' y=true→inS s y=true
 | [],s,ks,ts,⟨k,t,h1,h2,c⟩,q,hq=>by
  subst h1
  rw [List.mem_singleton.1 hq];exact⟨t,s,c,fun _ h=>h⟩
 | x::xs,s,ks,ts,⟨k,ks',t,ts',h1,h2,h3,h4,c⟩,q,hq=>by
  subst h1
  rcases List.mem_cons.1 hq with rfl | hq
  · exact⟨t,_,h4,fun y h=>vB h3 h⟩
  · obtain⟨t',s',i1,i2⟩:=c.mem q hq
    exact⟨t',s',i1,fun y h=>vT h3 (i2 y h)⟩
theorem Ch.seps : ∀ {xs:List DSpot} {s:Span} {ks ts:List Int},Ch P xs s ks ts→∀ x∈xs,inS s x=true
 | [],s,ks,ts,c,y,hy=>by cases hy
 | x::xs,s,ks,ts,⟨k,ks',t,ts',h1,h2,h3,h4,c⟩,y,hy=>by
  rcases List.mem_cons.1 hy with rfl | hy
  · exact h3
  · exact vT h3 (c.seps y hy)
theorem Ch.at_ : ∀ {xs:List DSpot} {s:Span} {ks ts:List Int},Ch P xs s ks ts→∀(q:Nat) (k:Int),ks[q]? = some k→∃ t s',ts[q]? = some t∧P k t s'∧∀ y,inS s' y=true→inS s y=true
 | [],s,ks,ts,⟨k,t,h1,h2,c⟩,q,k',hq=>by
  subst h1 h2
  cases q with
  | zero => obtain rfl : k = k' := by simpa using hq
            exact⟨t,s,rfl,c,fun _ h=>h⟩
  | succ q=>simp at hq
 | x::xs,s,ks,ts,⟨k,ks',t,ts',h1,h2,h3,h4,c⟩,q,k',hq=>by
  subst h1 h2
  cases q with
  | zero => obtain rfl : k = k' := by simpa using hq
            exact⟨t,_,rfl,h4,fun y h=>vB h3 h⟩
  | succ q =>
   obtain⟨t',s',i1,i2,i3⟩:=c.at_ q k' (by simpa using hq)
   exact⟨t',s',by simpa using i1,i2,fun y h=>vT h3 (i3 y h)⟩
theorem Ch.join : ∀ {xs:List DSpot} {s:Span} {ks ts ks' ts' : List Int} {xs' : List DSpot} {x:DSpot},inS s x=true→Ch P xs (hiS s x) ks ts→Ch P xs' (loS s x) ks' ts'→Ch P (xs++x::xs') s (ks++ks') (ts++ts')
 | [],s,ks,ts,ks',ts',xs',x,hx,⟨k,t,h1,h2,c⟩,c'=>⟨k,ks',t,ts',by rw [h1];rfl,by rw [h2];rfl,hx,c,c'⟩
 | y::xs,s,ks,ts,ks',ts',xs',x,hx,⟨k,ks1,t,ts1,h1,h2,h3,h4,c⟩,c'=>by
  subst h1 h2
  have hy:=vl.1 h3
  have e1:loS (hiS s x) y=hiS (loS s y) x:=rfl
  have e2:loS s x=loS (loS s y) x:=rfl
  exact⟨k,ks1++ks',t,ts1++ts',rfl,rfl,vB hx h3,h4,Ch.join (s:=loS s y) (wn.2 ⟨by omega,fun hh=>(uB.1 hx).2 hh⟩) (e1▸c) (e2▸c')⟩
theorem Ch.split : ∀ {xs:List DSpot} {s:Span} {ks ts ks' ts' : List Int} {xs' : List DSpot} {x:DSpot},xs.length+1=ks.length→ts.length=ks.length→(xs++x::xs').Pairwise SpotO→Ch P (xs++x::xs') s (ks++ks') (ts++ts') →
 inS s x=true∧Ch P xs (hiS s x) ks ts∧Ch P xs' (loS s x) ks' ts'
 | [],s,ks,ts,ks',ts',xs',x,h1,h2,ho,⟨k,ks1,t,ts1,e1,e2,i1,i2,c⟩=>by
  obtain⟨a,rfl⟩:=List.length_eq_one_iff.1 h1.symm
  obtain⟨b,rfl⟩:=List.length_eq_one_iff.1 h2
  obtain⟨rfl,rfl⟩ : a=k∧ks' = ks1:=by simpa using e1
  obtain⟨rfl,rfl⟩ : b=t∧ts' = ts1:=by simpa using e2
  exact⟨i1,⟨a,b,rfl,rfl,i2⟩,c⟩
 | y::xs,s,ks,ts,ks',ts',xs',x,h1,h2,ho,⟨k,ks1,t,ts1,e1,e2,i1,i2,c⟩=>by
  rw [List.cons_append,List.pairwise_cons] at ho
  have hyx:cmpS y x<0:=ho.1 x (by simp)
  cases ks with
  | nil=>simp at h1
  | cons a ks =>
  cases ts with
  | nil=>simp at h2
  | cons b ts =>
  obtain⟨rfl,rfl⟩ : a=k∧ks++ks' = ks1:=by simpa using e1
  obtain⟨rfl,rfl⟩ : b=t∧ts++ts' = ts1:=by simpa using e2
  obtain⟨j1,j2,j3⟩:=Ch.split (s:=loS s y) (by simpa using h1) (by simpa using h2) ho.2 c
  exact⟨vT i1 j1,⟨a,ks,b,ts,rfl,rfl,vl.2 ⟨(uB.1 i1).1,hyx⟩,i2,j2⟩,j3⟩
theorem Ch.focus : ∀ {XA XM XB:List DSpot} {A M B TA TM TB:List Int} {s:Span},XA.length=A.length→TA.length=A.length→XM.length+1=M.length→TM.length=M.length→XB.length=B.length→TB.length=B.length →
 (XA++(XM++XB)).Pairwise SpotO→Ch P (XA++(XM++XB)) s (A++(M++B)) (TA++(TM++TB)) →
 ∃ s',Ch P XM s' M TM∧(∀ y,inS s' y=true→inS s y=true)∧(∀ x∈XA,∀ y,inS s' y=true→cmpS x y≤0)∧(∀ x∈XB,∀ y,inS s' y=true→cmpS y x<0) ∧
  (∀ y,inS s y=true→(∀ x∈XA,cmpS x y≤0)→(∀ x∈XB,cmpS y x<0)→inS s' y=true) ∧
  ∀ Q:Int→Int→Span→Prop,(∀ k t s',k∈A∨k∈B→P k t s'→Q k t s')→∀ M' XM' TM',Ch Q XM' s' M' TM'→Ch Q (XA++(XM'++XB)) s (A++(M'++B)) (TA++(TM'++TB))
 | [],XM,[],A,M,B,TA,TM,TB,s,h1,h2,_,_,h5,h6,_,c=>by
  obtain rfl:=List.eq_nil_of_length_eq_zero h1.symm
  obtain rfl:=List.eq_nil_of_length_eq_zero h2
  obtain rfl:=List.eq_nil_of_length_eq_zero h5.symm
  obtain rfl:=List.eq_nil_of_length_eq_zero h6
  exact⟨s,by simpa using c,fun _ h=>h,by simp,by simp,fun _ h _ _=>h,fun Q _ M' XM' TM' c'=>by simpa using c'⟩
 | [],XM,x::XB,A,M,B,TA,TM,TB,s,h1,h2,h3,h4,h5,h6,ho,c=>by
  obtain rfl:=List.eq_nil_of_length_eq_zero h1.symm
  obtain rfl:=List.eq_nil_of_length_eq_zero h2
  obtain⟨i1,i2,i3⟩:=Ch.split (s:=s) h3 h4 ho c
  refine⟨hiS s x,i2,fun y h=>vB i1 h,by simp,fun z hz y hy=>?_,fun y hy _ hb=>?_,fun Q hPQ M' XM' TM' c'=>?_⟩
  · have hyx:=(vl.1 hy).2
    rcases List.mem_cons.1 hz with rfl | hz
    · exact hyx
    · have:cmpS x z<0:=(List.pairwise_cons.1 (List.pairwise_append.1 (show (XM++x::XB).Pairwise SpotO from ho)).2.1).1 z hz
      exact ue.lt_trans hyx this
  · exact vl.2 ⟨(uB.1 hy).1,hb x List.mem_cons_self⟩
  · show Ch Q (XM'++x::XB) s (M'++B) (TM'++TB)
    exact Ch.join i1 c' (i3.mono fun k t s' hk=>hPQ k t s' (.inr hk))
 | x::XA,XM,XB,A,M,B,TA,TM,TB,s,h1,h2,h3,h4,h5,h6,ho,⟨k,ks1,t,ts1,e1,e2,c1,c2,c⟩=>by
  rw [List.cons_append,List.pairwise_cons] at ho
  cases A with
  | nil=>simp at h1
  | cons a A =>
  cases TA with
  | nil=>simp at h2
  | cons b TA =>
  obtain⟨rfl,rfl⟩ : a=k∧A++(M++B)=ks1:=by simpa using e1
  obtain⟨rfl,rfl⟩ : b=t∧TA++(TM++TB)=ts1:=by simpa using e2
  obtain⟨s',i1,i2,i3,i4,i5,i6⟩:=Ch.focus (s:=loS s x) (by simpa using h1) (by simpa using h2) h3 h4 h5 h6 ho.2 c
  refine⟨s',i1,fun y h=>vT c1 (i2 y h),fun z hz y hy=>?_,i4,fun y hy ha hb=>?_,fun Q hPQ M' XM' TM' c'=>⟨a,A++(M'++B),b,TA++(TM'++TB),rfl,rfl,c1,hPQ a b _ (.inl List.mem_cons_self) c2,i6 Q (fun k t s' hk=>hPQ k t s' (hk.elim (fun h=>.inl (List.mem_cons_of_mem _ h)) .inr)) M' XM' TM' c'⟩⟩
  · rcases List.mem_cons.1 hz with rfl | hz
    · exact(wn.1 (i2 y hy)).1
    · exact i3 z hz y hy
  · exact i5 y (wn.2 ⟨ha x List.mem_cons_self,(uB.1 hy).2⟩) (fun z hz=>ha z (List.mem_cons_of_mem _ hz)) hb
end
def uk (ns:List DNode):Nat→Int→Nat→Span→Prop
 | 0,i,m,s=>(0≤i∧i<(ns.length:Int))∧(nd ns i).kind=1∧m≤(nd ns i).elems.length∧∀ x∈(nd ns i).elems,inS s (tY x)=true
 | h+1,i,m,s=>(0≤i∧i<(ns.length:Int))∧(nd ns i).kind=2∧m≤(nd ns i).kids.length∧Ch (fun k t s'=>uk ns h k 4 s'∧uh (nd ns k)=t) (nd ns i).seps s (nd ns i).kids (nd ns i).tids
abbrev yj (ns:List DNode)(h:Nat):Int→Int→Span→Prop:=fun k t s'=>uk ns h k 4 s'∧uh (nd ns k)=t
theorem uk.range {ns:List DNode}{h:Nat}{i:Int}{m:Nat}{s:Span}(c:uk ns h i m s):0≤i∧i<(ns.length:Int):=by cases h <;> exact c.1
def kS (xs:List DSpot)(s:Span)(q:Nat):Span:=ur ⟨2,[],[],xs,[]⟩ s q
theorem CX (x:DSpot)(xs:List DSpot)(s:Span):kS (x::xs) s 0=hiS s x:=rfl
theorem CW (x:DSpot)(xs:List DSpot)(s:Span){q:Nat}(hq:q≤xs.length):kS (x::xs) s (q+1)=kS xs (loS s x) q:=by
 have key:vU ⟨2,[],[],x::xs,[]⟩ s (q+1)=vU ⟨2,[],[],xs,[]⟩ (loS s x) q:=by
  cases q with
  | zero=>rfl
  | succ r =>
   have hr:xs[r]? = some xs[r]:=gge (by omega)
   show (match (x::xs)[r+1]? with | some y=>({ s with lo:=y,hasLo:=true }:Span) | none=>s)=(match xs[r]? with | some y=>({ loS s x with lo:=y,hasLo:=true }:Span) | none=>loS s x)
   rw [List.getElem?_cons_succ,hr];rfl
 unfold kS ur
 rw [key]
 show zj ⟨2,[],[],x::xs,[]⟩ (vU ⟨2,[],[],xs,[]⟩ (loS s x) q) (q+1)=zj ⟨2,[],[],xs,[]⟩ (vU ⟨2,[],[],xs,[]⟩ (loS s x) q) q
 unfold zj
 show (match (x::xs)[q+1]? with | some y=>_ | none=>_)=_
 rw [List.getElem?_cons_succ]
 rfl
theorem B9 {P:Int→Int→Span→Prop}:∀ {xs:List DSpot} {s:Span} {ks ts:List Int},xs.length+1=ks.length→ts.length=ks.length→xs.Pairwise SpotO→(∀ x∈xs,inS s x=true) →
 (Ch P xs s ks ts↔∀(q:Nat) (k t:Int),ks[q]? = some k→ts[q]? = some t→P k t (kS xs s q))
 | [],s,ks,ts,h1,h2,_,_=>by
  obtain⟨a,rfl⟩:=List.length_eq_one_iff.1 h1.symm
  obtain⟨b,rfl⟩:=List.length_eq_one_iff.1 h2
  constructor
  · rintro⟨k,t,e1,e2,c⟩ q k' t' hk ht
    obtain rfl:a=k:=by simpa using e1
    obtain rfl:b=t:=by simpa using e2
    cases q with
    | zero =>
     obtain rfl:a=k':=by simpa using hk
     obtain rfl:b=t':=by simpa using ht
     exact c
    | succ q=>simp at hk
  · intro h
    exact⟨a,b,rfl,rfl,h 0 a b rfl rfl⟩
 | x::xs,s,ks,ts,h1,h2,ho,hs=>by
  cases ks with
  | nil=>simp at h1
  | cons a ks =>
  cases ts with
  | nil=>simp at h2
  | cons b ts =>
  rw [List.pairwise_cons] at ho
  have hx:=uB.1 (hs x List.mem_cons_self)
  have ih:=B9 (P:=P) (xs:=xs) (s:=loS s x) (ks:=ks) (ts:=ts) (by simpa using h1) (by simpa using h2) ho.2 (fun y hy=>by
   have hxy:cmpS x y<0:=ho.1 y hy
   have:=uB.1 (hs y (List.mem_cons_of_mem _ hy))
   exact wn.2 ⟨by omega,this.2⟩)
  have hlen:xs.length+1=ks.length:=by simpa using h1
  constructor
  · rintro⟨k,ks1,t,ts1,e1,e2,c1,c2,c⟩ q k' t' hk ht
    obtain⟨rfl,rfl⟩ : a=k∧ks=ks1:=by simpa using e1
    obtain⟨rfl,rfl⟩ : b=t∧ts=ts1:=by simpa using e2
    cases q with
    | zero =>
     obtain rfl:a=k':=by simpa using hk
     obtain rfl:b=t':=by simpa using ht
     rw [CX];exact c2
    | succ q =>
     rw [List.getElem?_cons_succ] at hk ht
     rw [CW x xs s (by have:=(ggs.1 hk).1;omega)]
     exact ih.1 c q k' t' hk ht
  · intro h
    refine⟨a,ks,b,ts,rfl,rfl,hs x List.mem_cons_self,by have:=h 0 a b rfl rfl;rwa [CX] at this,ih.2 fun q k t hk ht=>?_⟩
    have:=h (q+1) k t (by simpa using hk) (by simpa using ht)
    rwa [CW x xs s (by have:=(ggs.1 hk).1;omega)] at this
theorem E8 (n:DNode)(s:Span)(q:Nat):ur n s q=kS n.seps s q:=by
 unfold kS ur zj
 have:vU n s q=vU ⟨2,[],[],n.seps,[]⟩ s q:=by cases q <;> rfl
 rw [this]
theorem zO {n:DNode}{s:Span}:(∀ q,q≤n.seps.length→uJ n s q=false)↔∀ x∈n.seps,inS s x=true:=by
 have key : ∀ q x,n.seps[q]? = some x→(uJ n s (q+1)=false↔inS s x=true):=fun q x hx=>by
  have e:uJ n s (q+1) = !inS s x:=by
   show (match n.seps[q]? with | some x=>!inS s x | none=>false)=_
   rw [hx]
  rw [e];simp
 constructor
 · intro h x hx
   obtain⟨q,hq⟩:=List.mem_iff_getElem?.1 hx
   have:=(ggs.1 hq).1
   exact(key q x hq).1 (h (q+1) (by omega))
 · intro h q hq
   cases q with
   | zero=>rfl
   | succ q =>
    have hx:n.seps[q]? = some n.seps[q]:=gge (by omega)
    exact(key q _ hx).2 (h _ (List.getElem_mem _))
def mOf (d:Int)(h:Nat):Nat:=if 0<d then 4 else if h=0 then 0 else 2
theorem zv {ns:List DNode}(hns : ∀ n∈ns,uv n=0):∀(h:Nat) (i d:Int) (s:Span),0≤d→(okN ns h i d s↔uk ns h i (mOf d h) s):=by
 intro h
 induction h with
 | zero =>
  intro i d s hd
  have hm : ∀ L:Leaf (nd ns i),((0<d→4≤(nd ns i).elems.length+(nd ns i).kids.length)↔mOf d 0≤(nd ns i).elems.length):=fun L=>by
   rw [L.kids];unfold mOf
   by_cases h:0<d
   · rw [if_pos h];simp [h]
   · rw [if_neg h];simp [h]
  constructor
  · rintro⟨h1,h2,h3,h4⟩
    exact⟨h1,h2,(hm (wy hns h1 h2)).1 h3,h4⟩
  · rintro⟨h1,h2,h3,h4⟩
    exact⟨h1,h2,(hm (wy hns h1 h2)).2 h3,h4⟩
 | succ h ih =>
  intro i d s hd
  have hm : ∀ L:Inner (nd ns i),((0<d→4≤(nd ns i).elems.length+(nd ns i).kids.length)↔mOf d (h+1)≤(nd ns i).kids.length):=fun L=>by
   rw [L.elems];unfold mOf
   have:=L.two
   by_cases h:0<d
   · rw [if_pos h];simp [h]
   · rw [if_neg h];simp [h];omega
  have h4:mOf (d+1) h=4:=by unfold mOf;rw [if_pos (by omega)]
  constructor
  · rintro⟨h1,h2,h3,h5⟩
    obtain⟨hk,L⟩:=vH hns h1 h2
    refine⟨h1,hk,(hm L).1 h3,?_⟩
    refine(B9 L.seps L.tids L.ord (zO.1 fun q hq=>?_)).2 fun q k t hk' ht=>?_
    · have hlen:=L.seps
      have hkk:(nd ns i).kids[q]? = some (nd ns i).kids[q]:=gge (by omega)
      exact(h5 (_,q) (wY hkk)).2.1
    · obtain⟨c1,_,c3⟩:=h5 (k,q) (wY hk')
      dsimp only at c1 c3
      rw [E8] at c1
      have:=(ih k (d+1) _ (by omega)).1 c1
      rw [h4] at this
      exact⟨this,by rw [c3,ht];rfl⟩
  · rintro⟨h1,h2,h3,h5⟩
    obtain⟨hk,L⟩:=vH hns h1 ⟨by rw [h2];decide,by rw [h2];decide⟩
    have hseps:=h5.seps
    refine⟨h1,⟨by rw [h2];decide,by rw [h2];decide⟩,(hm L).2 h3,fun p hp=>?_⟩
    rw [List.mem_zipIdx_iff_getElem?] at hp
    have hpl:=(ggs.1 hp).1
    have htl:=L.tids
    have ht:(nd ns i).tids[p.2]? = some (nd ns i).tids[p.2]:=gge (by omega)
    obtain⟨c1,c2⟩:=(B9 L.seps L.tids L.ord hseps).1 h5 p.2 p.1 _ hp ht
    refine⟨?_,zO.2 hseps p.2 (by have:=L.seps;omega),by rw [c2,ht];rfl⟩
    rw [E8]
    rw [← h4] at c1
    exact(ih p.1 (d+1) _ (by omega)).2 c1
theorem vR {f g:Int→List Nat}:∀ {l:List Int},(∀ a∈l,f a=g a)→l.flatMap f=l.flatMap g
 | [],_=>rfl
 | a::l,h=>by rw [List.flatMap_cons,List.flatMap_cons,h a List.mem_cons_self,vR fun b hb=>h b (List.mem_cons_of_mem _ hb)]
theorem uk.same {ns ns' : List DNode}(hl:ns.length≤ns'.length):∀ {h:Nat} {i:Int} {m:Nat} {s:Span},uk ns h i m s→(∀ j∈ids ns h i,ns'[j]? = ns[j]?) →
 uk ns' h i m s∧ids ns' h i=ids ns h i∧tX ns' h i=tX ns h i∧nd ns' i=nd ns i:=by
 intro h
 induction h with
 | zero =>
  intro i m s c hj
  have e:nd ns' i=nd ns i:=by unfold nd;rw [hj i.toNat (by simp [ids])]
  refine⟨?_,rfl,by unfold tX;rw [e],e⟩
  obtain⟨h1,h2,h3,h4⟩:=c
  exact⟨⟨h1.1,by omega⟩,by rw [e];exact h2,by rw [e];exact h3,by rw [e];exact h4⟩
 | succ h ih =>
  intro i m s c hj
  have e:nd ns' i=nd ns i:=by unfold nd;rw [hj i.toNat (by simp [ids])]
  obtain⟨h1,h2,h3,h4⟩:=c
  have hkid : ∀ k∈(nd ns i).kids,∀ {m:Nat} {s:Span},uk ns h k m s→uk ns' h k m s∧ids ns' h k=ids ns h k∧tX ns' h k=tX ns h k∧nd ns' k=nd ns k:=fun k hk {m s} c =>
   ih c fun j hjk=>hj j (by rw [ids];exact List.mem_cons_of_mem _ (List.mem_flatMap.2 ⟨k,hk,hjk⟩))
  refine⟨⟨⟨h1.1,by omega⟩,by rw [e];exact h2,by rw [e];exact h3,?_⟩,?_,?_,e⟩
  · rw [e]
    exact h4.mono fun k t s' hk c=>⟨(hkid k hk c.1).1,by rw [(hkid k hk c.1).2.2.2];exact c.2⟩
  · rw [ids,ids,e]
    congr 1
    exact vR fun k hk=>by obtain ⟨t,s',c,_⟩:=h4.mem k hk;exact(hkid k hk c.1).2.1
  · rw [tX,tX,e]
    exact uz fun k hk=>by obtain ⟨t,s',c,_⟩:=h4.mem k hk;exact(hkid k hk c.1).2.2.1
end
section
abbrev NL:=List (Int ⊕ DNode)
def zN:DNode:=⟨0,[],[],[],[]⟩
def fN1:Int ⊕ DNode→DNode
 | .inl _=>zN
 | .inr n=>n
def fN (N:NL):List DNode:=N.map fN1
theorem uf (N:NL):(fN N).length=N.length:=List.length_map ..
theorem xi (N:NL)(j:Nat):(fN N)[j]? = (N[j]?).map fN1:=List.getElem?_map ..
theorem DY {N N' : NL}{j:Nat}(h:N'[j]? = N[j]?):(fN N')[j]? = (fN N)[j]?:=by rw [xi,xi,h]
theorem Fe (l:List DNode):fN (l.map Sum.inr)=l:=by
 unfold fN
 rw [List.map_map]
 exact List.map_id'' (fun _=>rfl) l
theorem uu (N:NL){i:Int}{j:Nat}(h:j≠i.toNat):(iZ N i)[j]? = N[j]?:=by unfold iZ;rw [List.getElem?_set_ne (by omega)]
theorem uj (N:NL){i:Int}{n:DNode}{j:Nat}(h:j≠i.toNat):(jq N i n)[j]? = N[j]?:=by unfold jq;rw [List.getElem?_set_ne (by omega)]
theorem uE (N:NL){i:Int}{n:DNode}(h:i.toNat<N.length):(jq N i n)[i.toNat]? = some (.inr n):=by unfold jq;rw [List.getElem?_set_self h]
theorem tZ (N:NL)(i:Int):(iZ N i).length=N.length:=by unfold iZ;rw [List.length_set]
theorem t8 (N:NL)(i:Int)(n:DNode):(jq N i n).length=N.length:=by unfold jq;rw [List.length_set]
def kd (N:NL)(j:Nat):Option Int:=(N[j]?).map qZ
theorem wu (N:NL)(i:Int)(j:Nat):kd (iZ N i) j=kd N j:=by
 unfold kd iZ
 rw [List.getElem?_set]
 split
 · rename_i e;subst e
   split
   · rename_i h;rw [gge h];rfl
   · rename_i h;rw [List.getElem?_eq_none (by omega)]
 · rfl
def va (N:NL):Prop:=∀ n∈fN N,uv n=0
theorem va.out {N:NL}(h:va N)(i:Int):va (iZ N i):=fun n hn=>by
 obtain⟨x,hx,rfl⟩:=List.mem_map.1 hn
 rcases List.mem_or_eq_of_mem_set hx with hx | rfl
 · exact h _ (List.mem_map.2 ⟨x,hx,rfl⟩)
 · show uv zN=0;decide
theorem va.put {N:NL}(h:va N){i:Int}{n:DNode}(hn:uv n=0):va (jq N i n):=fun m hm=>by
 obtain⟨x,hx,rfl⟩:=List.mem_map.1 hm
 rcases List.mem_or_eq_of_mem_set hx with hx | rfl
 · exact h _ (List.mem_map.2 ⟨x,hx,rfl⟩)
 · exact hn
theorem va.push {N:NL}(h:va N){n:DNode}(hn:uv n=0):va (N++[.inr n]):=fun m hm=>by
 obtain⟨x,hx,rfl⟩:=List.mem_map.1 hm
 rcases List.mem_append.1 hx with hx | hx
 · exact h _ (List.mem_map.2 ⟨x,hx,rfl⟩)
 · rw [List.mem_singleton.1 hx];exact hn
theorem EN {N:NL}{i:Int}(h:0≤i∧i<((fN N).length:Int))(hk:(nd (fN N) i).kind≠0):j6 N i=some (nd (fN N) i)∧N[i.toNat]? = some (.inr (nd (fN N) i)):=by
 rw [uf] at h
 have hg:N[i.toNat]? = some N[i.toNat]:=gge (by omega)
 have hn:nd (fN N) i=fN1 N[i.toNat]:=by
  unfold nd;rw [xi,hg];rfl
 cases hx:N[i.toNat] with
 | inl k =>
  rw [hn,hx] at hk
  exact absurd rfl hk
 | inr n =>
  rw [hn,hx]
  unfold j6
  rw [if_neg (by omega),hg,hx]
  exact⟨rfl,rfl⟩
theorem uk.kind {ns:List DNode}{h:Nat}{i:Int}{m:Nat}{s:Span}(c:uk ns h i m s):(nd ns i).kind≠0:=by
 cases h with
 | zero=>rw [c.2.1];decide
 | succ h=>rw [c.2.1];decide
theorem uk.node {N:NL}{h:Nat}{i:Int}{m:Nat}{s:Span}(c:uk (fN N) h i m s):j6 N i=some (nd (fN N) i)∧N[i.toNat]? = some (.inr (nd (fN N) i)):=EN c.range c.kind
theorem wC {N:NL}{i:Int}(h:0≤i∧i<(N.length:Int)):kH N i=some ():=by unfold kH;rw [if_pos h]
theorem yT {N:NL}{i:Int}{n:DNode}(h:0≤i∧i<(N.length:Int)):nd (fN (jq N i n)) i=n:=by
 unfold nd
 rw [xi,uE N (by omega)];rfl
theorem uk.agree {N N' : NL}(hl:N.length≤N'.length){h:Nat}{i:Int}{m:Nat}{s:Span}(c:uk (fN N) h i m s)(hj : ∀ j∈ids (fN N) h i,N'[j]? = N[j]?) :
 uk (fN N') h i m s∧ids (fN N') h i=ids (fN N) h i∧tX (fN N') h i=tX (fN N) h i∧nd (fN N') i=nd (fN N) i :=
 uk.same (by rw [uf,uf];exact hl) c fun j hjm=>DY (hj j hjm)
theorem uk.head {ns:List DNode}(h:Nat)(i:Int):i.toNat∈ids ns h i:=by cases h <;> simp [ids]
theorem Ch.before {P:Int→Int→Span→Prop}:∀ {XA X:List DSpot} {s:Span} {A K TA T:List Int},XA.length=A.length→TA.length=A.length→Ch P (XA++X) s (A++K) (TA++T)→∀ k∈A,∃ t s',P k t s'∧∀ y,inS s' y=true→∃ x∈XA,cmpS y x<0
 | [],X,s,A,K,TA,T,h1,_,_,k,hk=>by
  obtain rfl:=List.eq_nil_of_length_eq_zero h1.symm
  cases hk
 | x::XA,X,s,A,K,TA,T,h1,h2,⟨a,ks,t,ts,e1,e2,c1,c2,c⟩,k,hk=>by
  cases A with
  | nil=>simp at h1
  | cons b A =>
  cases TA with
  | nil=>simp at h2
  | cons u TA =>
  obtain⟨rfl,rfl⟩ : b=a∧A++K=ks:=by simpa using e1
  obtain⟨rfl,rfl⟩ : u=t∧TA++T=ts:=by simpa using e2
  rcases List.mem_cons.1 hk with rfl | hk
  · exact⟨u,_,c2,fun y hy=>⟨x,List.mem_cons_self,(vl.1 hy).2⟩⟩
  · obtain⟨t',s',i1,i2⟩:=Ch.before (by simpa using h1) (by simpa using h2) c k hk
    exact⟨t',s',i1,fun y hy=>by obtain ⟨z,hz,hzy⟩:=i2 y hy;exact⟨z,List.mem_cons_of_mem _ hz,hzy⟩⟩
theorem Ch.behind {P:Int→Int→Span→Prop}:∀ {XA XB:List DSpot} {x:DSpot} {s:Span} {A B TA TB:List Int},XA.length+1=A.length→TA.length=A.length→Ch P (XA++x::XB) s (A++B) (TA++TB)→∀ k∈B,∃ t s',P k t s'∧∀ y,inS s' y=true→cmpS x y≤0
 | [],XB,x,s,A,B,TA,TB,h1,h2,⟨a,ks,t,ts,e1,e2,c1,c2,c⟩,k,hk=>by
  obtain⟨b,rfl⟩:=List.length_eq_one_iff.1 h1.symm
  obtain⟨u,rfl⟩:=List.length_eq_one_iff.1 h2
  obtain⟨rfl,rfl⟩ : b=a∧B=ks:=by simpa using e1
  obtain⟨rfl,rfl⟩ : u=t∧TB=ts:=by simpa using e2
  obtain⟨t',s',i1,i2⟩:=c.mem k hk
  exact⟨t',s',i1,fun y hy=>(wn.1 (i2 y hy)).1⟩
 | z::XA,XB,x,s,A,B,TA,TB,h1,h2,⟨a,ks,t,ts,e1,e2,c1,c2,c⟩,k,hk=>by
  cases A with
  | nil=>simp at h1
  | cons b A =>
  cases TA with
  | nil=>simp at h2
  | cons u TA =>
  obtain⟨rfl,rfl⟩ : b=a∧A++B=ks:=by simpa using e1
  obtain⟨rfl,rfl⟩ : u=t∧TA++TB=ts:=by simpa using e2
  exact Ch.behind (by simpa using h1) (by simpa using h2) c k hk
theorem wT {α:Type}(l:List α){w:Nat}(h:w<l.length):l=l.take w++l[w]::l.drop (w+1):=by
 rw [← List.drop_eq_getElem_cons h,List.take_append_drop]
structure Foc (P:Int→Int→Span→Prop) (n:DNode) (s:Span) (sp:DSpot) (A:List Int) (k:Int) (B:List Int) (XA XB:List DSpot) (TA:List Int) (t:Int) (TB:List Int) (s' : Span):Prop where
 kids:n.kids=A++k::B
 seps:n.seps=XA++XB
 tids:n.tids=TA++t::TB
 xa:XA.length=A.length
 ta:TA.length=A.length
 xb:XB.length=B.length
 tb:TB.length=B.length
 way:vJ n.seps sp=A.length
 here:P k t s'
 in_:inS s' sp=true
 sub : ∀ y,inS s' y=true→inS s y=true
 lo : ∀ k'∈A,∃ t' s'',P k' t' s''∧∀ y,inS s'' y=true→cmpS y sp<0
 hi : ∀ k'∈B,∃ t' s'',P k' t' s''∧∀ y,inS s'' y=true→cmpS sp y<0
 loX : ∀ x∈XA,∀ y,inS s' y=true→cmpS x y≤0
 hiX : ∀ x∈XB,∀ y,inS s' y=true→cmpS y x<0
 turn : ∀ Q:Int→Int→Span→Prop,(∀ k t s',k∈A∨k∈B→P k t s'→Q k t s')→∀ M' XM' TM',Ch Q XM' s' M' TM'→Ch Q (XA++(XM'++XB)) s (A++(M'++B)) (TA++(TM'++TB))
theorem Cg {P:Int→Int→Span→Prop}{n:DNode}{s:Span}{sp:DSpot}(h1:n.seps.length+1=n.kids.length)(h2:n.tids.length=n.kids.length)(ho:n.seps.Pairwise SpotO)(c:Ch P n.seps s n.kids n.tids)(hs:inS s sp=true) :
 ∃ A k B XA XB TA t TB s',Foc P n s sp A k B XA XB TA t TB s':=by
 have hw:=zw n.seps sp
 obtain⟨w1,w2⟩:=Bh n.seps sp
 generalize hwe:vJ n.seps sp=w at *
 have e1:=wT n.kids (w:=w) (by omega)
 have e2:=wT n.tids (w:=w) (by omega)
 have e3:n.seps=n.seps.take w++n.seps.drop w:=(List.take_append_drop _ _).symm
 have l1:(n.kids.take w).length=w:=by rw [List.length_take];omega
 have l2:(n.tids.take w).length=w:=by rw [List.length_take];omega
 have l3:(n.seps.take w).length=w:=by rw [List.length_take];omega
 have l4:(n.kids.drop (w+1)).length=n.kids.length-(w+1):=List.length_drop
 have l5:(n.tids.drop (w+1)).length=n.tids.length-(w+1):=List.length_drop
 have l6:(n.seps.drop w).length=n.seps.length-w:=List.length_drop
 have xa : ∀ x∈n.seps.take w,cmpS x sp≤0:=fun x hx=>by
  obtain⟨q,hq⟩:=List.mem_iff_getElem?.1 hx
  have hql:=(ggs.1 hq).1
  rw [List.getElem?_take_of_lt (by omega)] at hq
  exact w1 q x (by omega) hq
 have xb : ∀ x∈n.seps.drop w,cmpS sp x<0:=fun x hx=>by
  have hlt:w<n.seps.length:=by
   obtain⟨q,hq⟩:=List.mem_iff_getElem?.1 hx
   have:=(ggs.1 hq).1;omega
  have h0:n.seps[w]? = some n.seps[w]:=gge hlt
  have h3:=w2 _ h0
  have h4:cmpS sp n.seps[w]<0:=by
   have:=ue.neg n.seps[w] sp
   omega
  rw [List.drop_eq_getElem_cons hlt] at hx
  rcases List.mem_cons.1 hx with rfl | hx
  · exact h4
  · obtain⟨q,hq⟩:=List.mem_iff_getElem?.1 hx
    rw [List.getElem?_drop] at hq
    exact ue.lt_trans h4 (uV ho (by omega) h0 hq)
 have c':=c
 rw [e1,e2,e3] at c'
 have ho':=ho
 rw [e3] at ho'
 obtain⟨s',i1,i2,i3,i4,i5,i6⟩:=Ch.focus (XM:=[]) (M:=[n.kids[w]]) (TM:=[n.tids[w]]) (by omega) (by omega) rfl rfl (by omega) (by omega) ho' c'
 obtain⟨k,t,hk,ht,hP⟩:=i1
 obtain rfl:n.kids[w]=k:=by simpa using hk
 obtain rfl:n.tids[w]=t:=by simpa using ht
 refine⟨_,_,_,n.seps.take w,n.seps.drop w,_,_,_,s',e1,e3,e2,by omega,by omega,by omega,by omega,by rw [hwe,l1],hP,?_,i2,fun k' hk'=>?_,fun k' hk'=>?_,i3,i4,i6⟩
 · exact i5 sp hs (fun x hx=>xa x hx) (fun x hx=>xb x hx)
 · obtain⟨t',s'',j1,j2⟩:=Ch.before (by omega) (by omega) c' k' hk'
   exact⟨t',s'',j1,fun y hy=>by obtain ⟨x,hx,hxy⟩:=j2 y hy;exact vA hxy (xa x hx)⟩
 · have hne : n.seps.drop w ≠ [] := fun e => by
    have:(n.kids.drop (w+1)).length=0:=by rw [e] at l6;simp at l6;omega
    rw [List.eq_nil_of_length_eq_zero this] at hk';cases hk'
   obtain⟨x,XB,hX⟩:=List.exists_cons_of_ne_nil hne
   have c2:=c'
   rw [hX,show n.kids.take w++n.kids[w]::n.kids.drop (w+1)=(n.kids.take w++[n.kids[w]])++n.kids.drop (w+1) by simp,show n.tids.take w++n.tids[w]::n.tids.drop (w+1)=(n.tids.take w++[n.tids[w]])++n.tids.drop (w+1) by simp] at c2
   obtain⟨t',s'',j1,j2⟩:=Ch.behind (by simp;omega) (by simp;omega) c2 k' hk'
   exact⟨t',s'',j1,fun y hy=>vA (xb x (by rw [hX];exact List.mem_cons_self)) (j2 y hy)⟩
theorem uk.weak {ns:List DNode}{h:Nat}{i:Int}{m m' : Nat}{s:Span}(hm:m'≤m)(c:uk ns h i m s):uk ns h i m' s:=by
 cases h with
 | zero=>exact ⟨c.1,c.2.1,Nat.le_trans hm c.2.2.1,c.2.2.2⟩
 | succ h=>exact ⟨c.1,c.2.1,Nat.le_trans hm c.2.2.1,c.2.2.2⟩
theorem uk.leaf {ns:List DNode}(hns : ∀ n∈ns,uv n=0){i:Int}{m:Nat}{s:Span}(c:uk ns 0 i m s):Leaf (nd ns i):=wy hns c.1 c.2.1
theorem uk.inner {ns:List DNode}(hns : ∀ n∈ns,uv n=0){h:Nat}{i:Int}{m:Nat}{s:Span}(c:uk ns (h+1) i m s):Inner (nd ns i):=(vH hns c.1 ⟨by rw [c.2.1];decide,by rw [c.2.1];decide⟩).2
theorem uk.elems {ns:List DNode}(hns : ∀ n∈ns,uv n=0){h:Nat}{i:Int}{m:Nat}{s:Span}(c:uk ns h i m s):(tX ns h i).Pairwise SpO∧∀ e∈tX ns h i,inS s (tY e)=true∧ui e=0:=by
 have h0:uk ns h i (mOf 0 h) s:=by
  cases h with
  | zero=>exact c.weak (Nat.zero_le _)
  | succ h=>exact ⟨c.1,c.2.1,(c.inner hns).two,c.2.2.2⟩
 exact uX hns h i 0 s ((zv hns h i 0 s (Int.le_refl _)).2 h0)
theorem xq {f:Int→List Nat}{i:Nat}{A B:List Int}{k:Int}(h:(i::(A++k::B).flatMap f).Nodup) :
 i ∉ f k∧(f k).Nodup∧(∀ a,a∈A∨a∈B→i ∉ f a∧∀ j∈f a,j ∉ f k):=by
 rw [List.flatMap_append,List.flatMap_cons,List.nodup_cons] at h
 obtain⟨h1,h2⟩:=h
 rw [List.nodup_append] at h2
 obtain⟨h3,h4,h5⟩:=h2
 rw [List.nodup_append] at h4
 obtain⟨h6,h7,h8⟩:=h4
 simp only [List.mem_append,not_or] at h1
 refine⟨h1.2.1,h6,fun a ha=>⟨fun hi=>?_,fun j hj hk=>?_⟩⟩
 · rcases ha with ha | ha
   · exact h1.1 (List.mem_flatMap.2 ⟨a,ha,hi⟩)
   · exact h1.2.2 (List.mem_flatMap.2 ⟨a,ha,hi⟩)
 · rcases ha with ha | ha
   · exact h5 j (List.mem_flatMap.2 ⟨a,ha,hj⟩) j (List.mem_append_left _ hk) rfl
   · exact h8 j hk j (List.mem_flatMap.2 ⟨a,ha,hj⟩) rfl
theorem vx {α:Type}(A:List α)(x:α)(B:List α):idx (A++x::B) (A.length:Int)=some x:=by
 rw [tz,List.getElem?_append_right (Nat.le_refl _)];simp
theorem wB {α:Type}(A:List α)(x y:α)(B:List α):(A++x::B).set A.length y=A++y::B:=by
 rw [List.set_append_right _ _ (Nat.le_refl _)];simp
end
section
variable {F:Nat} [Big F]
def vE (n i:Nat):Nat:=off n (kOf n) (i+1)-off n (kOf n) i
def xJ (n:Nat):List Int:=(List.range (kOf n)).map fun i=>((vE n i:Nat):Int)
theorem vI (n:Nat):(xJ n).length=kOf n:=by unfold xJ;simp
theorem zg {n i:Nat}(h:i<kOf n):(xJ n)[i]? = some ((vE n i:Nat):Int):=by
 unfold xJ;rw [List.getElem?_map,List.getElem?_range h];rfl
theorem Fg (n:Nat):kOf n≤n+1:=by unfold kOf;split <;> omega
theorem wO {α:Type}{l:List α}{i:Nat}{x:α}(h:l[i]? = some x):l.take (i+1)=l.take i++[x]:=by
 rw [List.take_add_one,h];rfl
theorem wZ {n:Nat}(hn:n≤100000):lq F (n:Int)=some (xJ n):=by
 unfold lq
 have hE:(if (1:Int)<(IntKind.i64.wrap ((IntKind.i64.wrap ((IntKind.i64.wrap ((n:Int)+8))-1):Int).tdiv 8)) then IntKind.i64.wrap ((IntKind.i64.wrap ((IntKind.i64.wrap ((n:Int)+8))-1):Int).tdiv 8) else 1)=(kOf n:Int):=by
  rw [w64 (n:=(n:Int)+8) (by omega) (by omega),w64 (n:=(n:Int)+8-1) (by omega) (by omega),show (n:Int)+8-1=((n+7:Nat):Int) by omega]
  have e:(((n+7:Nat):Int)).tdiv 8=(((n+7) / 8:Nat):Int):=rfl
  rw [e,w64 (by omega) (by omega)]
  unfold kOf
  by_cases h:8<n
  · rw [if_pos h,if_pos (by omega)]
  · rw [if_neg h,if_neg (by omega)];rfl
 rw [hE]
 have hk:=u9 n
 have hk1:=Fg n
 rw [tj (List.range (kOf n)) (fun acc i=>acc++[((vE n i:Nat):Int)]) [] (r:=xJ n) (by rw [List.length_range];omega) rfl ?hs ?he]
 · rfl
 case hs =>
  intro i e hi
  have hi':=hi
  have hlt:=(ggs.1 hi).1
  rw [List.length_range] at hlt
  rw [List.getElem?_range hlt] at hi
  obtain rfl:=Option.some.inj hi
  dsimp only
  rw [sW]
  rw [show decide ((i:Int)<(kOf n:Int))=true from decide_eq_true (by omega),cond_true]
  have ht:qw (kOf n:Int)=some (kOf n:Int):=by unfold qw;rw [if_neg (by omega)]
  rw [ht,obs,obs]
  have hb1:n*(i+1)≤100000*100002:=Nat.mul_le_mul hn (by omega)
  have hb0:n*i≤100000*100002:=Nat.mul_le_mul hn (by omega)
  have e1:(n:Int)*((i:Int)+1)=((n*(i+1):Nat):Int):=by push_cast;rfl
  have e0:(n:Int)*(i:Int)=((n*i:Nat):Int):=by push_cast;rfl
  have d1:(((n*(i+1):Nat):Int)).tdiv (kOf n:Int)=((off n (kOf n) (i+1):Nat):Int):=rfl
  have d0:(((n*i:Nat):Int)).tdiv (kOf n:Int)=((off n (kOf n) i:Nat):Int):=rfl
  have hm:=yA (n:=n) (k:=kOf n) (show i≤i+1 by omega)
  have hl:=Cu (n:=n) hk (show i+1≤kOf n by omega)
  have es:((off n (kOf n) (i+1):Nat):Int)-((off n (kOf n) i:Nat):Int)=((vE n i:Nat):Int):=by unfold vE;omega
  have hsh:vE n i≤n:=by unfold vE;omega
  rw [w64 (n:=(i:Int)+1) (by omega) (by omega),e1,e0,w64 (n:=((n*(i+1):Nat):Int)) (by omega) (by omega),w64 (n:=((n*i:Nat):Int)) (by omega) (by omega),d1,d0,w64 (n:=((off n (kOf n) (i+1):Nat):Int)) (by omega) (by omega),w64 (n:=((off n (kOf n) i:Nat):Int)) (by omega) (by omega),es,w64 (by omega) (by omega)]
  rw [tJ (by simp;omega) (by simp;omega)]
  rfl
 case he =>
  dsimp only
  rw [sW,List.length_range,decide_eq_false (by omega),cond_false];rfl
theorem vF {n:DNode}(h:uv n=0):Small n:=by
 obtain⟨h1,h2⟩:=vh h
 rcases uy.1 h with q | q | q
 · refine⟨by omega,by omega,?_,?_⟩
   · rw [q.2.2.2.1];simp
   · rw [q.2.2.2.2];simp
 · refine⟨by omega,by omega,?_,?_⟩
   · rw [q.2.seps];simp
   · rw [q.2.tids];simp
 · exact⟨by omega,by omega,by have:=q.2.seps;omega,by have:=q.2.tids;omega⟩
def B6 (l:List DElem):Option Int:=l.zipIdx.findSome? fun p=>vd l p.2 p.1
def ofR (l:List DElem):DTree × Int:=if 400<l.length then (⟨0,[]⟩,2) else match B6 l with
 | some e=>(⟨0,[]⟩,e)
 | none=>(vP l,0)
theorem yJ {l:List DElem}:B6 l=none↔(∀ e∈l,ui e=0)∧l.Pairwise SpO:=by
 unfold B6
 rw [tf]
 constructor
 · intro h
   refine⟨fun e he=>?_,vY (R:=SpO) (fun a b c h1 h2=>SpO.trans h1 h2) fun j p e hp he=>?_⟩
   · obtain⟨k,hk⟩:=List.mem_iff_getElem?.1 he
     exact(vC.1 (h k e hk)).1
   · exact(vC.1 (h (j+1) e he)).2 j p rfl hp
 · rintro⟨h1,h2⟩ k e hk
   exact vC.2 ⟨h1 e (List.mem_of_getElem? hk),fun j p hj hp=>uV h2 (by omega) hp hk⟩
theorem BE {α:Type}{G:List (List α)}{β:Type}{φ:List α × Nat→β}{i:Nat}{g:List α}(h:G[i]? = some g):(G.zipIdx.map φ)[i]? = some (φ (g,i)):=by
 rw [List.getElem?_map,List.getElem?_zipIdx,h];simp
theorem AE {α:Type}(l:List α)(i:Nat):(l.drop (off l.length (kOf l.length) i)).drop (vE l.length i)=l.drop (off l.length (kOf l.length) (i+1)):=by
 rw [List.drop_drop]
 congr 1
 have:=yA (n:=l.length) (k:=kOf l.length) (show i≤i+1 by omega)
 unfold vE;omega
theorem AC {α:Type}(l:List α){i:Nat}(h:i<kOf l.length):vE l.length i≤(l.drop (off l.length (kOf l.length) i)).length:=by
 have h1:=Cu (n:=l.length) (u9 l.length) (show i+1≤kOf l.length by omega)
 rw [List.length_drop];unfold vE;omega
theorem BQ {b n:Nat}(h:n*b≤140737488355328)(hm:n≤9223372036854775807):pG b n=some ():=by
 unfold pG;rw [if_pos ⟨h,by unfold maxLen;omega⟩]
theorem Cs (l:List DNode)(i:Int):j6 (l.map Sum.inr) i=idx l i:=by
 unfold j6 idx
 split
 · rfl
 · rw [List.getElem?_map];cases l[i.toNat]? <;> rfl
theorem zc (l:List DElem):nC F l=some (ofR l):=by
 unfold nC ofR
 by_cases hl:400<l.length
 · rw [show decide ((400:Int)<(l.length:Int))=true from decide_eq_true (by omega),cond_true,if_pos hl]
 rw [show decide ((400:Int)<(l.length:Int))=false from decide_eq_false (by omega),cond_false,if_neg hl]
 rw [rp l (fun k e=>(vd l k e).map fun x=>Sum.inr ((⟨0,[]⟩ : DTree),x)) (.inl ()) (by omega) rfl (fun k e hk hb=>?_) (by simp)]
 rotate_left
 · have hkl:=(ggs.1 hk).1
   rw [decide_eq_true (by omega),cond_true,tz,hk,obs,uK,obs]
   unfold vd
   by_cases hc:ui e=0
   · rw [sV hc,cond_false,if_neg (show ¬ (ui e≠0) by simpa using hc)]
     cases k with
     | zero =>
      rw [show decide ((0:Int)<((0:Nat):Int))=false from rfl,cond_false,obs,cond_false,w64 (by omega) (by omega)];rfl
     | succ j =>
      obtain⟨p,hp⟩ : ∃ p,l[j]? = some p:=⟨_,gge (by omega)⟩
      have e1:IntKind.i64.wrap (((j+1:Nat):Int)-1)=(j:Int):=by rw [w64 (by omega) (by omega)];omega
      rw [decide_eq_true (show (0:Int)<((j+1:Nat):Int) by omega),cond_true,e1,tz,hp]
      simp only [obs,ud,uo,hp]
      by_cases hs:0≤cmpS (tY p) (tY e)
      · rw [decide_eq_true hs,if_pos hs];rfl
      · rw [decide_eq_false hs,if_neg hs,cond_false,w64 (by omega) (by omega)];rfl
   · rw [s9 hc,cond_true,if_pos (show (ui e≠0) by simpa using hc)];rfl
 have hbad:((l.zipIdx.findSome? fun p=>(vd l p.2 p.1).map fun x=>(Sum.inr ((⟨0,[]⟩ : DTree),x):Unit ⊕ (DTree × Int))).getD (.inl ()))=match B6 l with
  | some e=>.inr (⟨0,[]⟩,e)
  | none=>.inl ():=by
  have : ∀ q:List (DElem × Nat),(q.findSome? fun p=>(vd l p.2 p.1).map fun x=>(Sum.inr ((⟨0,[]⟩ : DTree),x):Unit ⊕ (DTree × Int)))=(q.findSome? fun p=>vd l p.2 p.1).map fun x=>Sum.inr (⟨0,[]⟩,x):=by
   intro q
   induction q with
   | nil=>rfl
   | cons a q ih=>rw [List.findSome?_cons,List.findSome?_cons];cases vd l a.2 a.1 with
    | none=>exact ih
    | some x=>rfl
  rw [this]
  unfold B6
  cases (l.zipIdx.findSome? fun p=>vd l p.2 p.1) <;> rfl
 rw [hbad,obs]
 cases hb:B6 l with
 | some e=>rfl
 | none =>
  obtain⟨ho,hp⟩:=yJ.1 hb
  dsimp only
  have hk:=u9 l.length
  have hk50:kOf l.length≤50:=Ay (by omega) (by decide)
  have hglen:=uw l
  rw [wZ (by omega),obs]
  rw [rQ (fun i=>((((uA l).take i).map Sum.inr,(wh l).take i,l.drop (off l.length (kOf l.length) i),(i:Int)):List (Int ⊕ DNode) × List Dbuild_low × List DElem × Int)) (kOf l.length) (r:=((uA l).map Sum.inr,wh l)) (by rw [xu];rfl) (by omega) ?hs ?he]
  case he =>
   dsimp only
   rw [vI,decide_eq_false (by omega),cond_false,List.take_of_length_le (by unfold uA;rw [List.length_map];omega),List.take_of_length_le (by unfold wh;rw [List.length_map,List.length_zipIdx];omega)]
  case hs =>
   intro i hi
   dsimp only
   have hg:=xT hi
   have hn0:(uA l)[i]? = some (D9 (vO l (kOf l.length) i)):=by unfold uA;rw [List.getElem?_map,hg];rfl
   have hl0:(wh l)[i]? = some ⟨(i:Int),yu (vO l (kOf l.length) i)⟩:=BE hg
   have hrl:=AC l hi
   have hrn:=AE l i
   have hpc:vO l (kOf l.length) i=(l.drop (off l.length (kOf l.length) i)).take (vE l.length i):=rfl
   have hpl:(vO l (kOf l.length) i).length≤8:=(uM (List.mem_of_getElem? hg)).1
   generalize hrest:l.drop (off l.length (kOf l.length) i)=rest at *
   have htl:((uA l).take i).length=i:=by rw [List.length_take];unfold uA;rw [List.length_map];omega
   have htl2:((wh l).take i).length=i:=by rw [List.length_take];unfold wh;rw [List.length_map,List.length_zipIdx];omega
   rw [vI,decide_eq_true (by omega),cond_true,tz,zg hi,obs]
   have hspot:(bif decide ((0:Int)<((vE l.length i:Nat):Int)) then (idx rest 0).bind fun e4=>(jb e4).bind fun r8=>some (r8.key.pfs,r8.key.obj,r8.key.off,r8.made) else some (0,0,0,0):Option (Int × Int × Int × Int)) =
    some ((yu (vO l (kOf l.length) i)).key.pfs,(yu (vO l (kOf l.length) i)).key.obj,(yu (vO l (kOf l.length) i)).key.off,(yu (vO l (kOf l.length) i)).made):=by
    by_cases h0:0<vE l.length i
    · rw [decide_eq_true (show (0:Int)<((vE l.length i:Nat):Int) by omega),cond_true]
      cases rest with
      | nil=>simp at hrl;omega
      | cons e r =>
       obtain⟨q,hq⟩ : ∃ q,vE l.length i=q+1:=⟨vE l.length i-1,by omega⟩
       rw [hpc,hq,show idx (e::r) 0=some e from rfl,obs,ud];rfl
    · have h00:vE l.length i=0:=by omega
      rw [h00,List.take_zero] at hpc
      rw [hpc,h00];rfl
   rw [hspot,obs]
   dsimp only
   rw [tm hrl,obs,← hpc,tJ (by simp;omega) (by simp;omega),obs,BQ (by rw [List.length_map,htl];omega) (by rw [List.length_map,htl];omega),obs,tJ (by simp;omega) (by simp;omega),obs,sO hrl,obs,hrn,w64 (by omega) (by omega),List.length_map,htl,wO hn0,wO hl0,List.map_append]
   rfl
  rw [obs]
  dsimp only
  have L0:=Lev.zero (by omega) ho hp
  have hlv0:(wh l).length≤400:=by have:=L0.size;omega
  have hout : ∀ {K:List (Int ⊕ DNode) × List Dbuild_low→Option (DTree × Int)} {f:List (Int ⊕ DNode) × List Dbuild_low→Option ((List (Int ⊕ DNode) × List Dbuild_low) ⊕ (List (Int ⊕ DNode) × List Dbuild_low))},
   (∀ ns lv h,Lev ns lv l h→f (ns.map Sum.inr,lv)=some (if 1<lv.length then .inl ((uC (ns,lv)).1.map Sum.inr,(uC (ns,lv)).2) else .inr (ns.map Sum.inr,lv)))→(iter f F ((uA l).map Sum.inr,wh l)).bind K=K ((up 400 (uA l,wh l)).1.map Sum.inr,(up 400 (uA l,wh l)).2):=by
   intro K f hf
   have hit:iter f F ((uA l).map Sum.inr,wh l)=some ((up 400 (uA l,wh l)).1.map Sum.inr,(up 400 (uA l,wh l)).2):=by
    have:=tB (F:=F) (f:=f) (K:=some) (fun m s q=>∃(ns:List DNode) (lv:List Dbuild_low),s=(ns.map Sum.inr,lv)∧q=((up m (ns,lv)).1.map Sum.inr,(up m (ns,lv)).2)∧lv.length≤m∧∃ h,Lev ns lv l h) ?_ (m:=400) (s:=((uA l).map Sum.inr,wh l)) (q:=((up 400 (uA l,wh l)).1.map Sum.inr,(up 400 (uA l,wh l)).2)) (by omega) ⟨uA l,wh l,rfl,rfl,hlv0,0,L0⟩
    · simpa using this
    · rintro m s q ⟨ns,lv,rfl,rfl,hm,h,L⟩
      have hpos:0<lv.length:=by rw [L.count];exact B8 _ _
      by_cases h1:1<lv.length
      · right
        obtain⟨m,rfl⟩ : ∃ k,m=k+1:=⟨m-1,by omega⟩
        have L':=L.next hp ho h1
        have hc:(uC (ns,lv)).2.length=kOf lv.length:=by unfold uC;dsimp only;rw [List.length_map,List.length_zipIdx,uw]
        have hh:=yp h1
        refine⟨m,((uC (ns,lv)).1.map Sum.inr,(uC (ns,lv)).2),by omega,by rw [hf ns lv h L,if_pos h1],(uC (ns,lv)).1,(uC (ns,lv)).2,rfl,?_,Nat.le_trans (Nat.le_of_eq hc) (by omega),h+1,L'⟩
        rw [up,if_pos h1]
      · left
        refine⟨(ns.map Sum.inr,lv),by rw [hf ns lv h L,if_neg h1],?_⟩
        cases m with
        | zero=>rfl
        | succ m=>rw [up,if_neg h1]
   rw [hit,obs]
  rw [hout ?hstep]
  case hstep =>
   intro ns lv h L
   dsimp only
   have hsize:=L.size
   by_cases h1:1<lv.length
   rotate_left
   · rw [if_neg h1,show decide ((1:Int)<(lv.length:Int))=false from decide_eq_false (by omega),cond_false]
   rw [if_pos h1,show decide ((1:Int)<(lv.length:Int))=true from decide_eq_true (by omega),cond_true]
   rw [wZ (by omega),obs]
   have hkl:=yp h1
   have hkp:=u9 lv.length
   have hgl:=uw lv
   have hgm:((groups lv).map (wE ns)).length=kOf lv.length:=by rw [List.length_map];exact hgl
   have hlm:(uC (ns,lv)).2.length=kOf lv.length:=by unfold uC;dsimp only;rw [List.length_map,List.length_zipIdx,uw]
   rw [rQ (fun i=>(((uC (ns,lv)).2.take i,(ns++((groups lv).map (wE ns)).take i).map Sum.inr,lv.drop (off lv.length (kOf lv.length) i),(i:Int)):List Dbuild_low × List (Int ⊕ DNode) × List Dbuild_low × Int)) (kOf lv.length) (r:=((uC (ns,lv)).2,(uC (ns,lv)).1.map Sum.inr)) (by rw [xu];simp) (by omega) ?hs2 ?he2]
   · rfl
   case he2 =>
    dsimp only
    rw [vI,decide_eq_false (by omega),cond_false,List.take_of_length_le (by omega),List.take_of_length_le (by omega)];rfl
   case hs2 =>
    intro i hi
    dsimp only
    have hg:=xT hi
    have hn0:((groups lv).map (wE ns))[i]? = some (wE ns (vO lv (kOf lv.length) i)):=by rw [List.getElem?_map,hg];rfl
    have hl0:(uC (ns,lv)).2[i]? = some ⟨((ns.length+i:Nat):Int),CU (vO lv (kOf lv.length) i)⟩:=BE hg
    have hrl:=AC lv hi
    have hrn:=AE lv i
    have hpc:vO lv (kOf lv.length) i=(lv.drop (off lv.length (kOf lv.length) i)).take (vE lv.length i):=rfl
    obtain⟨hp8,_,_,hp1⟩:=uM (List.mem_of_getElem? hg)
    have hp1:=hp1 h1
    have hsub:=(xI (List.mem_of_getElem? hg)).subset
    generalize vO lv (kOf lv.length) i=g at *
    generalize lv.drop (off lv.length (kOf lv.length) i)=rest at *
    have htl:(((groups lv).map (wE ns)).take i).length=i:=by rw [List.length_take];omega
    have htl2:((uC (ns,lv)).2.take i).length=i:=by rw [List.length_take];omega
    rw [vI,decide_eq_true (by omega),cond_true,tz,zg hi,obs,tm hrl,obs,← hpc]
    rw [rQ (s:=(([]:List DSpot),([]:List Int),([]:List Int),(0:Int))) (fun j=>(((g.take j).tail.map (·.s),(g.take j).map (fun k=>uh (nd ns k.i)),(g.take j).map (·.i),(j:Int)):List DSpot × List Int × List Int × Int)) g.length (r:=(g.tail.map (·.s),g.map (fun k=>uh (nd ns k.i)),g.map (·.i))) rfl (by omega) ?hs3 ?he3]
    case he3 =>
     dsimp only
     rw [decide_eq_false (by omega),cond_false,List.take_length]
    case hs3 =>
     intro j hj
     dsimp only
     have hgj:g[j]? = some g[j]:=gge hj
     have hin:=hsub (List.mem_of_getElem? hgj)
     have hrange:=(L.fit _ hin).range
     generalize g[j]=e at *
     have hnd:j6 ((ns++((groups lv).map (wE ns)).take i).map Sum.inr) e.i=some (nd ns e.i):=by
      rw [Cs,wG hrange.1 (by rw [List.length_append];have:=hrange.2;omega),xZ ns _ hrange]
     have htk:(g.take j).length=j:=by rw [List.length_take];omega
     rw [decide_eq_true (by omega),cond_true,tz,hgj,obs,tJ (by rw [List.length_map,htk,List.length_singleton];omega) (by rw [List.length_map,htk,List.length_singleton];omega),obs,hnd,obs,uU _ (vF (L.chk _ (uZ hrange.1 hrange.2))),obs,tJ (by rw [List.length_map,htk,List.length_singleton];omega) (by rw [List.length_map,htk,List.length_singleton];omega),obs,w64 (by omega) (by omega),wO hgj,List.map_append,List.map_append]
     cases j with
     | zero=>rfl
     | succ j =>
      have hne:g.take (j+1)≠[]:=fun h=>by rw [h] at htk;simp at htk
      rw [decide_eq_true (show (0:Int)<((j+1:Nat):Int) by omega),cond_true,tJ (by rw [List.length_map,List.length_tail,htk,List.length_singleton];omega) (by rw [List.length_map,List.length_tail,htk,List.length_singleton];omega),List.tail_append_of_ne_nil hne,List.map_append]
      rfl
    rw [obs]
    dsimp only
    obtain⟨y,g',rfl⟩ : ∃ y g',g=y::g':=by
     cases g with
     | nil=>simp at hp1
     | cons y g'=>exact ⟨y,g',rfl⟩
    have hy:idx rest 0=some y:=by
     cases rest with
     | nil=>simp at hpc
     | cons z r =>
      cases hsh:vE lv.length i with
      | zero=>rw [hsh] at hpc;simp at hpc
      | succ q=>rw [hsh,List.take_succ_cons] at hpc;rw [(List.cons.inj hpc).1];rfl
    rw [hy,obs,tJ (by rw [htl2,List.length_singleton];omega) (by rw [htl2,List.length_singleton];omega),obs,BQ (by rw [List.length_map,List.length_append,htl];omega) (by rw [List.length_map,List.length_append,htl];omega),obs,sO hrl,obs,hrn,w64 (by omega) (by omega),List.length_map,List.length_append,htl,wO hn0,wO hl0,← List.append_assoc,List.map_append (l₂:=[_])]
    rfl
  obtain⟨h,L,h1⟩:=Lev.up hp ho 400 L0 hlv0
  unfold vP
  dsimp only
  generalize up 400 (uA l,wh l)=x at L h1
  obtain⟨ns,lv⟩:=x
  dsimp only at L h1 ⊢
  obtain⟨y,rfl⟩:=List.length_eq_one_iff.1 h1
  rw [tx];rfl
end
section
def vu (e x:DElem):DElem:=if tY x=tY e then e else x
theorem yX (e x:DElem):tY (vu e x)=tY x:=by
 unfold vu
 split
 · rename_i h;exact h.symm
 · rfl
theorem EX {e x:DElem}(he:ui e=0)(hx:ui x=0):ui (vu e x)=0:=by
 unfold vu;split <;> assumption
theorem BT {e:DElem}{l:List DElem}(h:l.Pairwise SpO):(l.map (vu e)).Pairwise SpO:=by
 rw [List.pairwise_map]
 exact h.imp fun {a b} hab=>by unfold SpO at hab ⊢;rw [yX,yX];exact hab
theorem yf {e:DElem}{l:List DElem}(h : ∀ x∈l,tY x≠tY e):l.map (vu e)=l:=by
 conv=>rhs;rw [← List.map_id l]
 exact List.map_congr_left fun x hx=>by unfold vu;rw [if_neg (h x hx)];rfl
structure ChgPost (e:DElem) (N N' : NL) (h:Nat) (i:Int) (m:Nat) (s:Span):Prop where
 len:N'.length=N.length
 out : ∀ j,j ∉ ids (fN N) h i→N'[j]? = N[j]?
 kinds : ∀ j,kd N' j=kd N j
 chk:va N'
 sub:uk (fN N') h i m s
 ids:ids (fN N') h i=ids (fN N) h i
 elems:tX (fN N') h i=(tX (fN N) h i).map (vu e)
def xf (F:Nat)(e:DElem)(rf1:NL × Int→Option NL)(x:NL × Int):Option NL :=
 match x with
  | (x1,x2) =>
   (j6 x1 x2).bind fun n1 =>
    bif (n1.kind == 1) then
     (iter (σ:=(List DElem) × Int) (ρ:=(List DElem)) (fun x=>match x with
      | (x3,x4) =>
       bif decide (x4<(n1.elems.length:Int)) then
        (
         (idx x3 x4).bind fun e1 =>
          (jb e1).bind fun r8 =>
          (jb e).bind fun r9 =>
          bif (r8 == r9) then
           (idx x3 x4).bind fun e2 =>
           some (x3.set x4.toNat e)
          else
           some x3:Option ((List DElem))).bind fun z3 =>
        some (.inl (z3,IntKind.i64.wrap (x4+1)))
        else
         some (.inr x3)) F (n1.elems,0)).bind fun z2 =>
     (sA n1 (DNode.mk n1.kind z2 n1.kids n1.seps n1.tids)).bind fun u1 =>
     some (jq (iZ x1 x2) x2 (DNode.mk n1.kind z2 n1.kids n1.seps n1.tids))
    else
     (jb e).bind fun r10 =>
     (lE F n1 r10).bind fun r11 =>
     (idx n1.kids r11).bind fun e3 =>
     (rf1 ((iZ x1 x2),e3)).bind fun z4 =>
     (idx n1.kids r11).bind fun e4 =>
     (j6 z4 e4).bind fun n2 =>
     (jm F n2).bind fun r12 =>
     (idx n1.tids r11).bind fun e5 =>
     (sA n1 (DNode.mk n1.kind n1.elems n1.kids n1.seps (n1.tids.set r11.toNat r12))).bind fun u2 =>
     some (jq z4 x2 (DNode.mk n1.kind n1.elems n1.kids n1.seps (n1.tids.set r11.toNat r12)))
variable {F:Nat} [Big F]
theorem CS {a b:DNode}(h1:a.elems.length=b.elems.length)(h2:a.kids.length=b.kids.length)(h3:a.seps.length=b.seps.length)(h4:a.tids.length=b.tids.length):sA a b=some ():=by
 unfold sA;rw [if_pos ⟨h1,h2,h3,h4⟩]
theorem wd {n:DNode}(h1:n.kind=1)(h2:Leaf n):uv n=0:=uy.2 (.inr (.inl ⟨h1,h2⟩))
theorem uH {n:DNode}(h1:n.kind=2)(h2:Inner n):uv n=0:=uy.2 (.inr (.inr ⟨h1,h2⟩))
theorem wF {N:NL}(h:va N){i:Int}(hi:0≤i∧i<((fN N).length:Int)):uv (nd (fN N) i)=0:=h _ (uZ hi.1 hi.2)
theorem uP {N:NL}(h:va N){i:Int}(hi:0≤i∧i<((fN N).length:Int)):jm F (nd (fN N) i)=some (uh (nd (fN N) i)):=uU _ (vF (wF h hi))
theorem Ep (l:List DElem)(e:DElem)(hl:l.length≤8) :
 iter (σ:=(List DElem) × Int) (ρ:=(List DElem)) (fun x=>match x with
  | (x3,x4) =>
   bif decide (x4<(l.length:Int)) then
    (
     (idx x3 x4).bind fun e1 =>
      (jb e1).bind fun r8 =>
      (jb e).bind fun r9 =>
      bif (r8 == r9) then
       (idx x3 x4).bind fun e2 =>
       some (x3.set x4.toNat e)
      else
       some x3:Option ((List DElem))).bind fun z3 =>
    some (.inl (z3,IntKind.i64.wrap (x4+1)))
    else
     some (.inr x3)) F (l,0)=some (l.map (vu e)):=by
 refine rQ (fun k=>((l.take k).map (vu e)++l.drop k,(k:Int))) l.length (by simp) (by omega) (fun k hk=>?_) ?_
 · have hs:l.drop k=l[k]::l.drop (k+1):=List.drop_eq_getElem_cons hk
   have hlen:((l.take k).map (vu e)).length=k:=by rw [List.length_map,List.length_take];omega
   have hi:idx ((l.take k).map (vu e)++l.drop k) (k:Int)=some l[k]:=by
    rw [hs]
    have:=vx ((l.take k).map (vu e)) l[k] (l.drop (k+1))
    rwa [hlen] at this
   have ht:l.take (k+1)=l.take k++[l[k]]:=by rw [List.take_add_one,gge hk];rfl
   dsimp only
   rw [decide_eq_true (by omega),cond_true,hi,obs,ud,obs,ud,obs,w64 (by omega) (by omega),ht,List.map_append,List.append_assoc]
   by_cases h:tY l[k]=tY e
   · rw [show (tY l[k] == tY e)=true by simpa using h,cond_true,obs,obs,Int.toNat_natCast,hs]
     have:=wB ((l.take k).map (vu e)) l[k] e (l.drop (k+1))
     rw [hlen] at this
     rw [this]
     show _=some (Sum.inl ((l.take k).map (vu e)++([vu e l[k]]++l.drop (k+1)),_))
     unfold vu
     rw [if_pos h];rfl
   · rw [show (tY l[k] == tY e)=false by simpa using h,cond_false,obs]
     show _=some (Sum.inl ((l.take k).map (vu e)++([vu e l[k]]++l.drop (k+1)),_))
     rw [hs]
     conv=>rhs;unfold vu
     rw [if_neg h];rfl
 · dsimp only
   rw [decide_eq_false (by omega),cond_false,List.drop_length,List.take_length,List.append_nil]
theorem DR {e:DElem}(he:ui e=0):∀(h mf:Nat) (N:NL) (i:Int) (m:Nat) (s:Span),h<mf→va N→uk (fN N) h i m s→(ids (fN N) h i).Nodup→inS s (tY e)=true →
 ∃ N',nS (xf F e) mf (N,i)=some N'∧ChgPost e N N' h i m s:=by
 intro h
 induction h with
 | zero =>
  intro mf N i m s hm hc c hn hs
  obtain⟨mf,rfl⟩ : ∃ q,mf=q+1:=⟨mf-1,by omega⟩
  have L:=c.leaf hc
  have hr:=c.range
  rw [uf] at hr
  obtain⟨hnode,hat⟩:=c.node
  have hk1:=c.2.1
  have L' : Leaf ⟨1,(nd (fN N) i).elems.map (vu e),(nd (fN N) i).kids,(nd (fN N) i).seps,(nd (fN N) i).tids⟩ :=
   ⟨L.kids,L.seps,L.tids,by rw [List.length_map];exact L.len,fun x hx=>by
    obtain⟨y,hy,rfl⟩:=List.mem_map.1 hx
    exact EX he (L.ok y hy),BT L.ord⟩
  have hc':=wd (n:=⟨1,(nd (fN N) i).elems.map (vu e),(nd (fN N) i).kids,(nd (fN N) i).seps,(nd (fN N) i).tids⟩) rfl L'
  have hnd:nd (fN (jq (iZ N i) i ⟨1,(nd (fN N) i).elems.map (vu e),(nd (fN N) i).kids,(nd (fN N) i).seps,(nd (fN N) i).tids⟩)) i=_:=yT (by rw [tZ];exact hr)
  refine⟨jq (iZ N i) i ⟨1,(nd (fN N) i).elems.map (vu e),(nd (fN N) i).kids,(nd (fN N) i).seps,(nd (fN N) i).tids⟩,?_,?_,?_,?_,(hc.out i).put hc',?_,rfl,?_⟩
  · show xf F e (nS (xf F e) mf) (N,i)=_
    have hfit:sA (nd (fN N) i) ⟨1,(nd (fN N) i).elems.map (vu e),(nd (fN N) i).kids,(nd (fN N) i).seps,(nd (fN N) i).tids⟩=some ():=CS (by simp) rfl rfl rfl
    unfold xf
    dsimp only
    rw [hnode,obs,hk1,show ((1:Int) == 1)=true from rfl,cond_true,Ep _ _ L.len,obs,hfit,obs]
  · rw [t8,tZ]
  · intro j hj
    have hji:j≠i.toNat:=by simpa [ids] using hj
    rw [uj _ hji,uu _ hji]
  · intro j
    by_cases hji:j=i.toNat
    · subst hji
      unfold kd
      rw [uE _ (by rw [tZ];omega),hat]
      show some 1=some (nd (fN N) i).kind
      rw [hk1]
    · unfold kd;rw [uj _ hji,uu _ hji]
  · refine⟨?_,by rw [hnd],by rw [hnd,List.length_map];exact c.2.2.1,?_⟩
    · rw [uf,t8,tZ];exact hr
    · rw [hnd]
      intro x hx
      obtain⟨y,hy,rfl⟩:=List.mem_map.1 hx
      rw [yX];exact c.2.2.2 y hy
  · show (nd _ i).elems=_
    rw [hnd];rfl
 | succ h ih =>
  intro mf N i m s hm hc c hn hs
  obtain⟨mf,rfl⟩ : ∃ q,mf=q+1:=⟨mf-1,by omega⟩
  have L:=c.inner hc
  have hr:=c.range
  rw [uf] at hr
  obtain⟨hnode,hat⟩:=c.node
  obtain⟨_,hk2,hmk,hch⟩:=c
  obtain⟨A,k,B,XA,XB,TA,t,TB,s',f⟩:=Cg L.seps L.tids L.ord hch hs
  generalize hnn:nd (fN N) i=n at *
  rw [ids,hnn,f.kids] at hn
  obtain⟨d1,d2,d3⟩:=xq hn
  have hN1 : ∀ j∈ids (fN N) h k,(iZ N i)[j]? = N[j]?:=fun j hj=>uu N (fun e=>d1 (e▸hj))
  obtain⟨q1,q2,q3,q4⟩:=uk.agree (N':=iZ N i) (by rw [tZ];exact Nat.le_refl _) f.here.1 hN1
  obtain⟨N2,hrun,P2⟩:=ih mf (iZ N i) k 4 s' (by omega) (hc.out i) q1 (by rw [q2];exact d2) f.in_
  have hlen2:N2.length=N.length:=by rw [P2.len,tZ]
  obtain⟨hnode2,_⟩:=P2.sub.node
  have hg:=xm (wF P2.chk P2.sub.range)
  have hw:vJ n.seps (tY e)=TA.length:=by rw [f.way,f.ta]
  have htids:(n.tids.set TA.length (uh (nd (fN N2) k)))=TA++uh (nd (fN N2) k)::TB:=by rw [f.tids,wB]
  have L' : Inner ⟨2,n.elems,n.kids,n.seps,TA++uh (nd (fN N2) k)::TB⟩ :=
   ⟨L.elems,L.two,L.eight,L.seps,by have h5:=L.tids;rw [f.tids] at h5;simpa using h5,L.kid,fun x hx=>by
    rcases List.mem_append.1 hx with hx | hx
    · exact L.tid x (by rw [f.tids];exact List.mem_append_left _ hx)
    · rcases List.mem_cons.1 hx with rfl | hx
      · exact hg
      · exact L.tid x (by rw [f.tids];exact List.mem_append_right _ (List.mem_cons_of_mem _ hx)),L.ok,L.ord⟩
  obtain⟨n',hn'⟩ : ∃ n' : DNode,n' = ⟨2,n.elems,n.kids,n.seps,TA++uh (nd (fN N2) k)::TB⟩:=⟨_,rfl⟩
  have e2:n'.kind=2:=by rw [hn']
  have ek:n'.kids=n.kids:=by rw [hn']
  have es:n'.seps=n.seps:=by rw [hn']
  have et:n'.tids=TA++uh (nd (fN N2) k)::TB:=by rw [hn']
  rw [← hn'] at L'
  have hc':=uH e2 L'
  have hnd:nd (fN (jq N2 i n')) i=n':=yT (by rw [hlen2];exact hr)
  have hi2:i.toNat ∉ ids (fN N2) h k:=by rw [P2.ids,q2];exact d1
  obtain⟨r1,r2,r3,r4⟩:=uk.agree (N':=jq N2 i n') (by rw [t8];exact Nat.le_refl _) P2.sub fun j hj=>uj N2 (fun e=>hi2 (e▸hj))
  have other : ∀ a,a∈A∨a∈B→∀ {m:Nat} {s:Span},uk (fN N) h a m s→_:=fun a ha m s c=>uk.agree (N:=N) (N':=jq N2 i n') (by rw [t8,hlen2];exact Nat.le_refl _) c fun j hj=>by
   obtain⟨x1,x2⟩:=d3 a ha
   have hji:j≠i.toNat:=fun e=>x1 (e▸hj)
   rw [uj N2 hji,P2.out j (by rw [q2];exact x2 j hj),uu N hji]
  have hkids : ∀ a,a∈A∨a∈B→∃ t' s'',uk (fN N) h a 4 s''∧(∀ x∈tX (fN N) h a,tY x≠tY e):=fun a ha=>by
   rcases ha with ha | ha
   · obtain⟨t',s'',x1,x2⟩:=f.lo a ha
     exact⟨t',s'',x1.1,fun x hx e=>by have:=x2 _ ((x1.1.elems hc).2 x hx).1;rw [e,ue.refl] at this;omega⟩
   · obtain⟨t',s'',x1,x2⟩:=f.hi a ha
     exact⟨t',s'',x1.1,fun x hx e=>by have:=x2 _ ((x1.1.elems hc).2 x hx).1;rw [e,ue.refl] at this;omega⟩
  have flat : ∀(l:List Int),(∀ a∈l,a∈A∨a∈B)→l.flatMap (ids (fN (jq N2 i n')) h)=l.flatMap (ids (fN N) h) ∧
   l.flatMap (tX (fN (jq N2 i n')) h)=(l.flatMap (tX (fN N) h)).map (vu e):=fun l hl=>by
   constructor
   · exact vR fun a ha=>by obtain ⟨t',s'',x1,_⟩:=hkids a (hl a ha);exact(other a (hl a ha) x1).2.1
   · rw [List.map_flatMap]
     exact uz fun a ha=>by obtain ⟨t',s'',x1,x2⟩:=hkids a (hl a ha);rw [(other a (hl a ha) x1).2.2.1,yf x2]
  refine⟨jq N2 i n',?_,by rw [t8,hlen2],?_,?_,P2.chk.put hc',?_,?_,?_⟩
  · rw [hn']
    show xf F e (nS (xf F e) mf) (N,i)=_
    have hfit:sA n ⟨2,n.elems,n.kids,n.seps,TA++uh (nd (fN N2) k)::TB⟩=some ():=CS rfl rfl rfl (by rw [f.tids];simp)
    generalize nS (xf F e) mf=rf at hrun
    unfold xf
    dsimp only
    rw [hnode,obs,hk2,show ((2:Int) == 1)=false from rfl,cond_false,ud,obs,vD n _ (vF (uH hk2 L)),obs,f.way,f.kids,vx,obs,hrun,obs,obs,hnode2,obs,uP P2.chk P2.sub.range,obs,f.tids,← f.ta,vx,obs,Int.toNat_natCast,wB]
    rw [f.kids] at hfit
    rw [hfit,obs]
  · intro j hj
    rw [ids,hnn,f.kids,List.flatMap_append,List.flatMap_cons] at hj
    simp only [List.mem_cons,List.mem_append,not_or] at hj
    rw [uj N2 hj.1,P2.out j (by rw [q2];exact hj.2.2.1),uu N hj.1]
  · intro j
    by_cases hji:j=i.toNat
    · subst hji
      unfold kd
      rw [uE _ (by rw [hlen2];omega),hat]
      show some n'.kind=some n.kind
      rw [hk2,e2]
    · have:=P2.kinds j
      rw [wu] at this
      rw [← this]
      unfold kd;rw [uj N2 hji]
  · refine⟨?_,by rw [hnd,e2],by rw [hnd,ek];exact hmk,?_⟩
    · rw [uf,t8,hlen2];exact hr
    · rw [hnd,es,ek,et]
      have:=f.turn (yj (fN (jq N2 i n')) h) (fun a t' s'' ha x=>⟨(other a ha x.1).1,by rw [(other a ha x.1).2.2.2];exact x.2⟩) [k] [] [uh (nd (fN N2) k)] ⟨k,_,rfl,rfl,r1,by rw [r4]⟩
      rw [f.kids,f.seps]
      simpa using this
  · rw [ids,hnd,ids,hnn,ek,f.kids,List.flatMap_append,List.flatMap_cons,List.flatMap_append,List.flatMap_cons,(flat A fun a ha=>.inl ha).1,(flat B fun a ha=>.inr ha).1,r2,P2.ids,q2]
  · rw [tX,hnd,tX,hnn,ek,f.kids,List.flatMap_append,List.flatMap_cons,List.flatMap_append,List.flatMap_cons,(flat A fun a ha=>.inl ha).2,(flat B fun a ha=>.inr ha).2,r3,P2.elems,q3,List.map_append,List.map_append]
end
section
def zY (x:Int ⊕ DNode):Bool:=qZ x != 0
def used (N:NL):Nat:=N.countP zY
theorem vW {x:Int ⊕ DNode}:zY x=true↔qZ x≠0:=by unfold zY;simp
theorem zZ {N:NL}{i:Nat}{x:Int ⊕ DNode}(y:Int ⊕ DNode)(h:N[i]? = some x):used (N.set i y)+(if zY x then 1 else 0)=used N+(if zY y then 1 else 0):=by
 unfold used
 induction N generalizing i with
 | nil=>simp at h
 | cons a N ih =>
  cases i with
  | zero =>
   obtain rfl:a=x:=by simpa using h
   rw [List.set_cons_zero,List.countP_cons,List.countP_cons];omega
  | succ i =>
   have:=ih (i:=i) (by simpa using h)
   rw [List.set_cons_succ,List.countP_cons,List.countP_cons];omega
theorem DF {N:NL}{i:Nat}{x y:Int ⊕ DNode}(h:N[i]? = some x)(hx:qZ x≠0)(hy:qZ y≠0):used (N.set i y)=used N:=by
 have:=zZ y h
 rw [if_pos (vW.2 hx),if_pos (vW.2 hy)] at this
 omega
theorem yH (N:NL)(i:Int):used (iZ N i)=used N:=by
 unfold iZ
 rcases Nat.lt_or_ge i.toNat N.length with h | h
 · have hg:=gge h
   have:=zZ (.inl (((N[i.toNat]?).map qZ).getD 0)) hg
   have e:zY (.inl (((N[i.toNat]?).map qZ).getD 0))=zY N[i.toNat]:=by rw [hg];rfl
   rw [e] at this
   omega
 · rw [List.set_eq_of_length_le h]
theorem wx {N:NL}{j:Nat}{x:Int ⊕ DNode}(h:N[j]? = some x):kd N j=some (qZ x):=by unfold kd;rw [h];rfl
theorem CY {N:NL}{j:Nat}{k:Int}(h:kd N j=some k):∃ x,N[j]? = some x∧qZ x=k:=Option.map_eq_some_iff.1 h
theorem Ex {N:NL}(h : ∀(j:Nat) (x:Int ⊕ DNode),N[j]? = some x→qZ x≠0):used N=N.length :=
 List.countP_eq_length.2 fun x hx=>by
  obtain⟨j,hj⟩:=List.mem_iff_getElem?.1 hx
  exact vW.2 (h j x hj)
structure Fr2 (N N' : NL) (I K:List Nat) (c:Nat):Prop where
 len:N.length≤N'.length
 cap:N'.length≤max N.length (used N')
 use:used N'≤used N+c
 out : ∀(j:Nat) (x:Int ⊕ DNode),j ∉ I→N[j]? = some x→qZ x≠0→N'[j]? = some x
 kept : ∀(j:Nat) (x:Int ⊕ DNode),N[j]? = some x→qZ x≠0→∃ y,N'[j]? = some y∧qZ y≠0
 new : ∀ j∈K,j∈I∨∀ x:Int ⊕ DNode,N[j]? = some x→qZ x=0
 all : ∀(j:Nat) (x:Int ⊕ DNode),N'[j]? = some x→qZ x≠0→j∈K∨(j ∉ I∧∃ y,N[j]? = some y∧qZ y≠0)
 nodup:K.Nodup
 chk:va N'
 zero : ∀ j:Nat,N'[j]? = some (.inl 0)→N[j]? = some (.inl 0)
theorem Fr2.perm {N N' : NL}{I K K' : List Nat}{c:Nat}(h:Fr2 N N' I K c)(p:K.Perm K'):Fr2 N N' I K' c :=
 ⟨h.len,h.cap,h.use,h.out,h.kept,fun j hj=>h.new j (p.mem_iff.2 hj),fun j x hx hk=>(h.all j x hx hk).imp (fun q=>p.mem_iff.1 q) id,p.nodup_iff.1 h.nodup,h.chk,h.zero⟩
theorem Fr2.more {N N' : NL}{I K:List Nat}{c c' : Nat}(h:Fr2 N N' I K c)(hc:c≤c'):Fr2 N N' I K c' :=
 ⟨h.len,h.cap,Nat.le_trans h.use (by omega),h.out,h.kept,h.new,h.all,h.nodup,h.chk,h.zero⟩
theorem uk.used {N:NL}:∀ {h:Nat} {i:Int} {m:Nat} {s:Span},uk (fN N) h i m s→∀ j∈ids (fN N) h i,∃ n,N[j]? = some (.inr n)∧n.kind≠0:=by
 intro h
 induction h with
 | zero =>
  intro i m s c j hj
  obtain rfl:j=i.toNat:=by simpa [ids] using hj
  exact⟨_,c.node.2,c.kind⟩
 | succ h ih =>
  intro i m s c j hj
  rw [ids] at hj
  rcases List.mem_cons.1 hj with rfl | hj
  · exact⟨_,c.node.2,c.kind⟩
  · obtain⟨k,hk,hj⟩:=List.mem_flatMap.1 hj
    obtain⟨t,s',x,_⟩:=c.2.2.2.mem k hk
    exact ih x.1 j hj
theorem Fr2.start {N:NL}(hc:va N){i:Int}{n:DNode}(hi:N[i.toNat]? = some (.inr n))(hk:n.kind≠0):Fr2 N (iZ N i) [i.toNat] [i.toNat] 0:=by
 refine⟨by rw [tZ];exact Nat.le_refl _,by rw [tZ];exact Nat.le_max_left _ _,by rw [yH];exact Nat.le_refl _,fun j x hj hx _=>by rw [uu N (by simpa using hj)];exact hx,fun j x hx hk=>?_,fun j hj=>.inl hj,fun j x hx hk=>?_,by simp,hc.out i,fun j hj=>?_⟩
 · have:=wu N i j
   rw [wx hx] at this
   obtain⟨y,hy,hyk⟩:=CY this
   exact⟨y,hy,by rw [hyk];exact hk⟩
 · by_cases hji:j=i.toNat
   · exact .inl (by simp [hji])
   · rw [uu N hji] at hx
     exact .inr ⟨by simpa using hji,x,hx,hk⟩
 · by_cases hji:j=i.toNat
   · subst hji
     have:=wu N i i.toNat
     rw [wx hj,wx hi] at this
     exact absurd (Option.some.inj this).symm hk
   · rw [uu N hji] at hj;exact hj
theorem Fr2.up {N N2:NL}{i:Nat}{I1 I2 I3 K:List Nat}{c:Nat}{i' : Int}(hi:i'.toNat=i)(f:Fr2 (iZ N i') N2 I2 K c)(hn:(i::(I1++(I2++I3))).Nodup)(hu : ∀ j∈i::(I1++(I2++I3)),∃ n:DNode,N[j]? = some (.inr n)∧n.kind≠0) :
 Fr2 N N2 (i::(I1++(I2++I3))) (i::(I1++(K++I3))) c:=by
 have hk : ∀(j:Nat) (x:Int ⊕ DNode),N[j]? = some x→qZ x≠0→∃ y,(iZ N i')[j]? = some y∧qZ y≠0:=fun j x hx hxk=>by
  have:=wu N i' j
  rw [wx hx] at this
  obtain⟨y,hy,hyk⟩:=CY this
  exact⟨y,hy,by rw [hyk];exact hxk⟩
 have hk' : ∀(j:Nat) (x:Int ⊕ DNode),(iZ N i')[j]? = some x→qZ x≠0→∃ y,N[j]? = some y∧qZ y≠0:=fun j x hx hxk=>by
  have:=wu N i' j
  rw [wx hx] at this
  obtain⟨y,hy,hyk⟩:=CY this.symm
  exact⟨y,hy,by rw [hyk];exact hxk⟩
 have hK : ∀ j∈K,j∈I2∨∀ x:Int ⊕ DNode,N[j]? = some x→qZ x=0:=fun j hj=>(f.new j hj).imp id fun h x hx=>by
  by_cases h0:qZ x=0
  · exact h0
  · obtain⟨y,hy,hyk⟩:=hk j x hx h0
    exact absurd (h y hy) hyk
 obtain⟨n1,n2⟩:=List.nodup_cons.1 hn
 obtain⟨n3,n4,n5⟩:=List.nodup_append.1 n2
 obtain⟨n6,n7,n8⟩:=List.nodup_append.1 n4
 have hKu : ∀ j∈K,j ∉ I2→∀ n:DNode,N[j]? = some (.inr n)→n.kind=0:=fun j hj hj2 n hx=>by
  rcases hK j hj with h | h
  · exact absurd h hj2
  · exact h _ hx
 have hne : ∀ j∈K,j∈i::(I1++(I2++I3))→j∈I2:=fun j hj hm=>by
  by_cases h2:j∈I2
  · exact h2
  · obtain⟨n,hx,hnk⟩:=hu j hm
    exact absurd (hKu j hj h2 n hx) hnk
 refine⟨by have:=f.len;rwa [tZ] at this,by have:=f.cap;rwa [tZ] at this,by have:=f.use;rwa [yH] at this,fun j x hj hx hxk=>?_,fun j x hx hxk=>?_,fun j hj=>?_,fun j x hx hxk=>?_,?_,f.chk,fun j hj=>?_⟩
 · simp only [List.mem_cons,List.mem_append,not_or] at hj
   exact f.out j x hj.2.2.1 (by rw [uu N (by omega)];exact hx) hxk
 · obtain⟨y,hy,hyk⟩:=hk j x hx hxk
   exact f.kept j y hy hyk
 · simp only [List.mem_cons,List.mem_append] at hj ⊢
   rcases hj with h | h | h | h
   · exact .inl (.inl h)
   · exact .inl (.inr (.inl h))
   · exact(hK j h).imp (fun h=>.inr (.inr (.inl h))) id
   · exact .inl (.inr (.inr (.inr h)))
 · simp only [List.mem_cons,List.mem_append,not_or]
   rcases f.all j x hx hxk with h | ⟨h,y,hy,hyk⟩
   · exact .inl (.inr (.inr (.inl h)))
   · by_cases h0:j=i
     · exact .inl (.inl h0)
     by_cases h1:j∈I1
     · exact .inl (.inr (.inl h1))
     by_cases h3:j∈I3
     · exact .inl (.inr (.inr (.inr h3)))
     · exact .inr ⟨⟨h0,h1,h,h3⟩,hk' j y hy hyk⟩
 · refine List.nodup_cons.2 ⟨fun hm=>?_,List.nodup_append.2 ⟨n3,List.nodup_append.2 ⟨f.nodup,n7,fun a ha b hb e=>?_⟩,fun a ha b hb e=>?_⟩⟩
   · simp only [List.mem_append,not_or] at hm n1
     rcases hm with h | h | h
     · exact n1.1 h
     · exact n1.2.1 (hne i h List.mem_cons_self)
     · exact n1.2.2 h
   · subst e
     exact n8 a (hne a ha (by simp [hb])) a hb rfl
   · subst e
     rcases List.mem_append.1 hb with h | h
     · exact n5 a ha a (List.mem_append_left _ (hne a h (by simp [ha]))) rfl
     · exact n5 a ha a (List.mem_append_right _ h) rfl
 · have h0:=f.zero j hj
   by_cases hji:j=i'.toNat
   · subst hji
     obtain⟨n,hx,hnk⟩:=hu i List.mem_cons_self
     rw [← hi] at hx
     have:=wu N i' i'.toNat
     rw [wx h0,wx hx] at this
     exact absurd (Option.some.inj this).symm hnk
   · rw [uu N hji] at h0;exact h0
theorem Fr2.put {N N2:NL}{I K:List Nat}{c:Nat}(f:Fr2 N N2 I K c){i:Int}(hI:i.toNat∈I)(hK:i.toNat∈K){x:Int ⊕ DNode}(hx:N2[i.toNat]? = some x)(hxk:qZ x≠0){n:DNode}(hn:n.kind≠0)(hc:uv n=0):Fr2 N (jq N2 i n) I K c:=by
 have hlt:=(ggs.1 hx).1
 have hu:used (jq N2 i n)=used N2:=DF hx hxk hn
 refine⟨by rw [t8];exact f.len,by rw [t8,hu];exact f.cap,by rw [hu];exact f.use,fun j y hj hy hyk=>?_,fun j y hy hyk=>?_,f.new,fun j y hy hyk=>?_,f.nodup,f.chk.put hc,fun j hj=>?_⟩
 · rw [uj N2 (show j≠i.toNat from fun e=>hj (by rw [e];exact hI))];exact f.out j y hj hy hyk
 · by_cases hji:j=i.toNat
   · subst hji;exact⟨_,uE N2 hlt,hn⟩
   · rw [uj N2 hji];exact f.kept j y hy hyk
 · by_cases hji:j=i.toNat
   · subst hji;exact .inl hK
   · rw [uj N2 hji] at hy;exact f.all j y hy hyk
 · by_cases hji:j=i.toNat
   · subst hji;rw [uE N2 hlt] at hj;cases hj
   · rw [uj N2 hji] at hj;exact f.zero j hj
structure TakeP (N:NL) (n:DNode) (N' : NL) (j:Nat):Prop where
 at_:N'[j]? = some (.inr n)
 same : ∀ q,q≠j→N'[q]? = N[q]?
 free : ∀ x:Int ⊕ DNode,N[j]? = some x→qZ x=0
 len:N'.length=N.length∨N'.length=N.length+1∧j=N.length∧∀(q:Nat) (x:Int ⊕ DNode),N[q]? = some x→qZ x≠0
 use:qZ (.inr n)≠0→used N' = used N+1
theorem Fr2.take {N N2 N' : NL}{I K:List Nat}{c:Nat}(f:Fr2 N N2 I K c){n:DNode}{j:Nat}(t:TakeP N2 n N' j)(hn:n.kind≠0)(hc:uv n=0)(hK : ∀ q∈K,∃ x,N2[q]? = some x∧qZ x≠0):Fr2 N N' I (j::K) (c+1):=by
 have hu:=t.use hn
 have hjN : ∀ x:Int ⊕ DNode,N[j]? = some x→qZ x=0:=fun x hx=>by
  by_cases h0:qZ x=0
  · exact h0
  · obtain⟨y,hy,hyk⟩:=f.kept j x hx h0
    exact absurd (t.free y hy) hyk
 have hlen:N2.length≤N'.length:=by rcases t.len with h | ⟨h,_⟩ <;> omega
 refine⟨Nat.le_trans f.len hlen,?_,by rw [hu];have:=f.use;omega,fun q x hq hx hxk=>?_,fun q x hx hxk=>?_,fun q hq=>?_,fun q x hx hxk=>?_,List.nodup_cons.2 ⟨fun hj=>?_,f.nodup⟩,fun m hm=>?_,fun q hq=>?_⟩
 · rcases t.len with h | ⟨h,_,ha⟩
   · rw [h,hu];have:=f.cap;omega
   · have:=Ex ha
     rw [hu,h,this];omega
 · have h1:=f.out q x hq hx hxk
   by_cases hqj:q=j
   · subst hqj;exact absurd (hjN x hx) hxk
   · rw [t.same q hqj];exact h1
 · obtain⟨y,hy,hyk⟩:=f.kept q x hx hxk
   by_cases hqj:q=j
   · subst hqj;exact⟨_,t.at_,hn⟩
   · exact⟨y,by rw [t.same q hqj];exact hy,hyk⟩
 · rcases List.mem_cons.1 hq with rfl | hq
   · exact .inr hjN
   · exact f.new q hq
 · by_cases hqj:q=j
   · subst hqj;exact .inl List.mem_cons_self
   · rw [t.same q hqj] at hx
     exact(f.all q x hx hxk).imp (List.mem_cons_of_mem _) id
 · obtain⟨x,hx,hxk⟩:=hK j hj
   exact hxk (t.free x hx)
 · obtain⟨x,hx,rfl⟩:=List.mem_map.1 hm
   obtain⟨q,hq⟩:=List.mem_iff_getElem?.1 hx
   by_cases hqj:q=j
   · subst hqj
     rw [t.at_] at hq
     obtain rfl:=Option.some.inj hq
     exact hc
   · rw [t.same q hqj] at hq
     exact f.chk _ (List.mem_map.2 ⟨x,List.mem_of_getElem? hq,rfl⟩)
 · by_cases hqj:q=j
   · subst hqj;rw [t.at_] at hq;cases hq
   · rw [t.same q hqj] at hq;exact f.zero q hq
end
section
def C9 (F:Nat)(N:NL)(n:DNode):Option ((List (Int ⊕ DNode)) × Int) :=
 (iter (σ:=Int) (ρ:=(Unit) ⊕ ((List (Int ⊕ DNode)) × Int)) (fun x16 =>
  bif decide (x16<(N.length:Int)) then
   (qI N x16).bind fun kd4 =>
   bif (kd4 == 0) then
    (kH N x16).bind fun u15 =>
    some (.inr (.inr ((jq N x16 n),x16)))
   else
    some (.inl (IntKind.i64.wrap (x16+1)))
   else
    some (.inr (.inl ()))) F 0).bind fun z=>match z with
  | .inl _ =>
   (pG 104 (N.length+1)).bind fun u16 =>
   some ((N++[(Sum.inr n:Int ⊕ DNode)]),IntKind.i64.wrap (((N++[(Sum.inr n:Int ⊕ DNode)]).length:Int)-1))
  | .inr q=>some q
def Fq (F:Nat)(l:List DElem)(e:DElem):Option Int :=
 iter (σ:=Int) (ρ:=Int) (fun x15 =>
  (
   bif decide (x15<(l.length:Int)) then
    (idx l x15).bind fun e28 =>
    (jb e28).bind fun r68 =>
    (jb e).bind fun r69 =>
    (jt r68 r69).bind fun r70 =>
    some (decide (r70<0))
    else
     some false:Option (Bool)).bind fun z131 =>
   bif z131 then
    some (.inl (IntKind.i64.wrap (x15+1)))
   else
    some (.inr x15)) F 0
abbrev InsT:=(List (Int ⊕ DNode)) × Int × Int × Int × Int × Int × Bool
def AS (F:Nat)(e:DElem)(rf4:NL × Int→Option InsT)(x13:NL)(x14:Int)(n31:DNode):Option ((List DElem) × (List Int) × (List DSpot) × (List Int) × (List (Int ⊕ DNode))) :=
 bif (n31.kind == 1) then
  (Fq F n31.elems e).bind fun z130 =>
  (rm 56 n31.elems z130 e).bind fun _ =>
  some ((jn n31.elems z130.toNat e),n31.kids,n31.seps,n31.tids,(iZ x13 x14))
  else
   (jb e).bind fun r71 =>
   (lE F n31 r71).bind fun r72 =>
   (idx n31.kids r72).bind fun e29 =>
   (rf4 ((iZ x13 x14),e29)).bind fun z=>match z with
    | (z132,z133,z134,z135,z136,z137,z138) =>
     (idx n31.kids r72).bind fun e30 =>
     (j6 z132 e30).bind fun n32 =>
     (jm F n32).bind fun r73 =>
     (idx n31.tids r72).bind fun e31 =>
     bif z138 then
      (rm 8 n31.kids (IntKind.i64.wrap (r72+1)) z137).bind fun _ =>
      (rm 32 n31.seps r72 (DSpot.mk (DKey.mk z133 z134 z135) z136)).bind fun _ =>
      (j6 z132 z137).bind fun n33 =>
      (jm F n33).bind fun r74 =>
      (rm 8 (n31.tids.set r72.toNat r73) (IntKind.i64.wrap (r72+1)) r74).bind fun _ =>
      some (n31.elems,(jn n31.kids (IntKind.i64.wrap (r72+1)).toNat z137),(jn n31.seps r72.toNat (DSpot.mk (DKey.mk z133 z134 z135) z136)),(jn (n31.tids.set r72.toNat r73) (IntKind.i64.wrap (r72+1)).toNat r74),z132)
     else
      some (n31.elems,n31.kids,n31.seps,(n31.tids.set r72.toNat r73),z132)
def w9 (k:Int)(z125:List DElem)(z126:List Int)(z127:List DSpot)(z128:List Int):Option ((List Int) × (List DSpot) × (List Int) × (List DElem) × (List DElem) × (List Int) × (List DSpot) × (List Int) × Int × Int × Int × Int × Int) :=
 bif (k == 1) then
  (i9 z125 4 (z125.length:Int)).bind fun s25 =>
  (lf 56 ([]:List DElem) s25).bind fun _ =>
  (i9 z125 0 4).bind fun s26 =>
  (idx s25 0).bind fun e33 =>
  (jb e33).bind fun r76 =>
  some ([],[],[],s25,s26,z126,z127,z128,r76.key.pfs,r76.key.obj,r76.key.off,r76.made,1)
  else
   (i9 z126 4 (z126.length:Int)).bind fun s27 =>
   (i9 z127 4 (z127.length:Int)).bind fun s28 =>
   (i9 z128 4 (z128.length:Int)).bind fun s29 =>
   (lf 8 ([]:List Int) s27).bind fun y37 =>
   (lf 32 ([]:List DSpot) s28).bind fun y38 =>
   (lf 8 ([]:List Int) s29).bind fun y39 =>
   (idx z127 3).bind fun e34 =>
   (i9 z126 0 4).bind fun s30 =>
   (i9 z127 0 3).bind fun s31 =>
   (i9 z128 0 4).bind fun s32 =>
   some (s29,s28,s27,[],z125,s30,s31,s32,e34.key.pfs,e34.key.obj,e34.key.off,e34.made,2)
def xW (F:Nat)(e:DElem)(rf4:NL × Int→Option InsT)(x:NL × Int):Option InsT :=
 match x with
  | (x13,x14) =>
   (j6 x13 x14).bind fun n31 =>
    (AS F e rf4 x13 x14 n31).bind fun z=>match z with
     | (z125,z126,z127,z128,z129) =>
      bif decide ((IntKind.i64.wrap ((z125.length:Int)+(z126.length:Int)))≤8) then
       (kH z129 x14).bind fun u13 =>
       some ((jq z129 x14 (DNode.mk n31.kind z125 z126 z127 z128)),0,0,0,0,0,false)
      else
       (w9 n31.kind z125 z126 z127 z128).bind fun z=>match z with
        | (z139,z140,z141,z142,z143,z144,z145,z146,z147,z148,z149,z150,z151) =>
         (kH z129 x14).bind fun u14 =>
         (C9 F (jq z129 x14 (DNode.mk n31.kind z143 z144 z145 z146)) (DNode.mk z151 z142 z141 z140 z139)).bind fun z=>match z with
          | (z152,z153) =>
           some (z152,z147,z148,z149,z150,z153,true)
def Bk (F:Nat)(e:DElem)(N:NL)(root:Int):Option (Int × NL) :=
 (nS (σ:=(List (Int ⊕ DNode)) × Int) (ρ:=InsT) (xW F e) F (N,root)).bind fun z=>match z with
  | (z39,z40,z41,z42,z43,z44,z45) =>
   bif (!z45) then
    some (root,z39)
   else
    (j6 z39 root).bind fun n41 =>
    (j6 z39 z44).bind fun n42 =>
    (jm F n41).bind fun r84 =>
    (jm F n42).bind fun r85 =>
    (C9 F z39 (DNode.mk 2 [] [root,z44] [(DSpot.mk (DKey.mk z40 z41 z42) z43)] [r84,r85])).bind fun z=>match z with
     | (z154,z155) =>
      some (z155,z154)
variable {F:Nat} [Big F]
theorem Cl {N:NL}{k:Nat}{x:Int ⊕ DNode}(h:N[k]? = some x):qI N (k:Int)=some (qZ x):=by
 unfold qI;rw [if_neg (by omega),Int.toNat_natCast,h];rfl
theorem BW {N:NL}(n:DNode)(hl:N.length≤1000):∃ N' j,C9 F N n=some (N',((j:Nat):Int))∧TakeP N n N' j:=by
 unfold C9
 rw [rp (ρ:=Unit ⊕ (List (Int ⊕ DNode) × Int)) N (fun k x=>if qZ x=0 then some (.inr (jq N (k:Int) n,(k:Int))) else none) (.inl ()) (by omega) rfl ?hs ?he]
 case hs =>
  intro k x hk _
  have hkl:=(ggs.1 hk).1
  rw [decide_eq_true (by omega),cond_true,Cl hk,obs]
  by_cases h:qZ x=0
  · rw [show (qZ x == 0)=true by simpa using h,cond_true,wC ⟨by omega,by omega⟩,obs,if_pos h]
  · rw [show (qZ x == 0)=false by simpa using h,cond_false,if_neg h,w64 (by omega) (by omega)]
 case he=>rw [decide_eq_false (by omega),cond_false]
 rw [obs]
 cases hf:N.zipIdx.findSome? (fun p=>if qZ p.1=0 then some (Sum.inr (jq N (p.2:Int) n,(p.2:Int)):Unit ⊕ (List (Int ⊕ DNode) × Int)) else none) with
 | some r =>
  obtain⟨k,x,hk,hr⟩:=tg (w:=fun k x=>if qZ x=0 then some (Sum.inr (jq N (k:Int) n,(k:Int)):Unit ⊕ (List (Int ⊕ DNode) × Int)) else none) hf
  have hkl:=(ggs.1 hk).1
  split at hr
  · rename_i h0
    obtain rfl:=Option.some.inj hr
    refine⟨jq N (k:Int) n,k,rfl,⟨?_,fun q hq=>?_,fun y hy=>?_,.inl (t8 _ _ _),fun hn=>?_⟩⟩
    · have:=uE N (i:=(k:Int)) (n:=n) (by rw [Int.toNat_natCast];exact hkl)
      rwa [Int.toNat_natCast] at this
    · exact uj N (by rw [Int.toNat_natCast];exact hq)
    · rw [hk] at hy
      obtain rfl:=Option.some.inj hy
      exact h0
    · unfold jq
      rw [Int.toNat_natCast]
      have:=zZ (.inr n) hk
      rw [if_neg (fun h=>vW.1 h h0),if_pos (vW.2 hn)] at this
      omega
  · cases hr
 | none =>
  have hn:=(tf (w:=fun k x=>if qZ x=0 then some (Sum.inr (jq N (k:Int) n,(k:Int)):Unit ⊕ (List (Int ⊕ DNode) × Int)) else none)).1 hf
  have hall : ∀(q:Nat) (x:Int ⊕ DNode),N[q]? = some x→qZ x≠0:=fun q x hx h0=>by
   have:=hn q x hx
   rw [if_pos h0] at this;cases this
  refine⟨N++[.inr n],N.length,?_,⟨by rw [List.getElem?_append_right (Nat.le_refl _)];simp,fun q hq=>?_,fun x hx=>?_,.inr ⟨by simp,rfl,hall⟩,fun hk=>?_⟩⟩
  · have hr:pG 104 (N.length+1)=some ():=by unfold pG;rw [if_pos ⟨by omega,by unfold maxLen;omega⟩]
    dsimp only [Option.getD_none]
    rw [hr,obs,List.length_append,List.length_singleton,w64 (by omega) (by omega)]
    congr 2;omega
  · rcases Nat.lt_or_ge q N.length with h | h
    · rw [List.getElem?_append_left h]
    · rw [List.getElem?_eq_none (by rw [List.length_append,List.length_singleton];omega),List.getElem?_eq_none h]
  · have:=(ggs.1 hx).1;omega
  · unfold used
    rw [List.countP_append,List.countP_singleton,if_pos (vW.2 hk)]
theorem Ev {α:Type}{p:α→Bool}{x:α}:∀ {l:List α},x∈l.takeWhile p→p x=true
 | [],h=>by simp at h
 | a::l,h=>by
  cases ha:p a with
  | true =>
   rw [List.takeWhile_cons_of_pos ha] at h
   rcases List.mem_cons.1 h with rfl | h
   · exact ha
   · exact Ev h
  | false=>rw [List.takeWhile_cons_of_neg (by simp [ha])] at h;cases h
theorem EQ (l:List DElem)(e:DElem)(hl:l.length≤1000):∃ w:Nat,Fq F l e=some (w:Int)∧w≤l.length∧(∀ x∈l.take w,cmpS (tY x) (tY e)<0)∧∀ x,l[w]? = some x→¬ cmpS (tY x) (tY e)<0:=by
 obtain⟨w1,w2⟩ : (∀ x∈l.takeWhile (fun x=>decide (cmpS (tY x) (tY e)<0)),cmpS (tY x) (tY e)<0)∧∀ x,l[(l.takeWhile (fun x=>decide (cmpS (tY x) (tY e)<0))).length]? = some x→¬ cmpS (tY x) (tY e)<0:=by
  refine⟨fun x hx=>by simpa using Ev hx,?_⟩
  clear hl
  induction l with
  | nil=>intro x hx;simp at hx
  | cons a l ih =>
   intro x hx
   by_cases h:cmpS (tY a) (tY e)<0
   · rw [List.takeWhile_cons_of_pos (by simpa using h),List.length_cons,List.getElem?_cons_succ] at hx
     exact ih x hx
   · rw [List.takeWhile_cons_of_neg (by simpa using h)] at hx
     obtain rfl:a=x:=by simpa using hx
     exact h
 have hpre:l.takeWhile (fun x=>decide (cmpS (tY x) (tY e)<0)) <+: l:=List.takeWhile_prefix _
 have hle:=hpre.length_le
 have ht:l.take (l.takeWhile (fun x=>decide (cmpS (tY x) (tY e)<0))).length=l.takeWhile (fun x=>decide (cmpS (tY x) (tY e)<0)):=(List.prefix_iff_eq_take.1 hpre).symm
 generalize hw:(l.takeWhile (fun x=>decide (cmpS (tY x) (tY e)<0))).length=w at *
 refine⟨w,?_,hle,by rw [ht];exact w1,w2⟩
 unfold Fq
 refine rQ (fun k=>(k:Int)) w rfl (by omega) (fun k hk=>?_) ?_
 · have hkl:k<l.length:=by omega
   have hg:l[k]? = some l[k]:=gge hkl
   have hmem:l[k]∈l.take w:=List.mem_of_getElem? (by rw [List.getElem?_take_of_lt hk];exact hg)
   rw [decide_eq_true (by omega),cond_true,tz,hg,obs,ud,obs,ud,obs,uo,obs,decide_eq_true (w1 _ (by rw [← ht];exact hmem)),obs,cond_true,w64 (by omega) (by omega)]
   rfl
 · by_cases h:w<l.length
   · have hg:l[w]? = some l[w]:=gge h
     rw [decide_eq_true (by omega),cond_true,tz,hg,obs,ud,obs,ud,obs,uo,obs,decide_eq_false (w2 _ hg),obs,cond_false]
   · rw [decide_eq_false (by omega),cond_false,obs,cond_false]
theorem AR {l:List DElem}{e:DElem}{w:Nat}(ho:l.Pairwise SpO)(hw:w≤l.length)(h1 : ∀ x∈l.take w,cmpS (tY x) (tY e)<0)(h2 : ∀ x,l[w]? = some x→¬ cmpS (tY x) (tY e)<0)(hne : ∀ x∈l,tY x≠tY e) :
 (jn l w e).Pairwise SpO∧∀ x,x∈jn l w e↔x=e∨x∈l:=by
 have ho':=ho
 rw [← List.take_append_drop w l] at ho'
 obtain⟨o1,o2,o3⟩:=List.pairwise_append.1 ho'
 have hd : ∀ x∈l.drop w,SpO e x:=fun x hx=>by
  have h0 : ∀ y,l[w]? = some y→SpO e y:=fun y hy=>by
   have h3:=h2 y hy
   have h4:=hne y (List.mem_of_getElem? hy)
   have h5:cmpS (tY y) (tY e)≠0:=fun h=>h4 ((ue.zero _ _).1 h)
   have h6:=ue.neg (tY y) (tY e)
   show cmpS (tY e) (tY y)<0
   omega
  obtain⟨q,hq⟩:=List.mem_iff_getElem?.1 hx
  rw [List.getElem?_drop] at hq
  cases q with
  | zero=>exact h0 x (by simpa using hq)
  | succ q =>
   have hlt:=(ggs.1 hq).1
   have hg:l[w]? = some l[w]:=gge (by omega)
   exact(h0 _ hg).trans (uV ho (by omega) hg hq)
 unfold jn
 refine⟨List.pairwise_append.2 ⟨o1,List.pairwise_cons.2 ⟨hd,o2⟩,fun a ha b hb=>?_⟩,fun x=>?_⟩
 · rcases List.mem_cons.1 hb with rfl | hb
   · exact h1 a ha
   · exact o3 a ha b hb
 · conv=>rhs;rw [← List.take_append_drop w l]
   rw [List.mem_append,List.mem_cons,List.mem_append]
   constructor
   · rintro(h | h | h)
     · exact .inr (.inl h)
     · exact .inl h
     · exact .inr (.inr h)
   · rintro(h | h | h)
     · exact .inr (.inl h)
     · exact .inl h
     · exact .inr (.inr h)
structure InsPost (e:DElem) (N N' : NL) (h:Nat) (i:Int) (s:Span) (m:Nat) (R:List Int) (X:List DSpot):Prop where
 fr:Fr2 N N' (ids (fN N) h i) (R.flatMap (ids (fN N') h)) (h+1)
 ch:Ch (fun k t s'=>uk (fN N') h k m s'∧uh (nd (fN N') k)=t) X s R (R.map fun k=>uh (nd (fN N') k))
 elems : ∀ x,x∈R.flatMap (tX (fN N') h)↔x=e∨x∈tX (fN N) h i
theorem vc {N N' : NL}{h:Nat}{X:List DSpot}{s:Span}{Ks Ts:List Int}(hl:N.length≤N'.length)(c:Ch (yj (fN N) h) X s Ks Ts)(hj : ∀ j∈Ks.flatMap (ids (fN N) h),N'[j]? = N[j]?) :
 Ch (yj (fN N') h) X s Ks Ts∧Ks.flatMap (ids (fN N') h)=Ks.flatMap (ids (fN N) h)∧Ks.flatMap (tX (fN N') h)=Ks.flatMap (tX (fN N) h):=by
 have key : ∀ k∈Ks,∀ {m:Nat} {s:Span},uk (fN N) h k m s→uk (fN N') h k m s∧ids (fN N') h k=ids (fN N) h k∧tX (fN N') h k=tX (fN N) h k∧nd (fN N') k=nd (fN N) k:=fun k hk {m s} x =>
  x.agree hl fun j hjk=>hj j (List.mem_flatMap.2 ⟨k,hk,hjk⟩)
 refine⟨c.mono fun k t s' hk x=>⟨(key k hk x.1).1,by rw [(key k hk x.1).2.2.2];exact x.2⟩,vR fun k hk=>?_,uz fun k hk=>?_⟩
 · obtain⟨t,s',x,_⟩:=c.mem k hk;exact(key k hk x.1).2.1
 · obtain⟨t,s',x,_⟩:=c.mem k hk;exact(key k hk x.1).2.2.1
theorem Ch.tmem {P:Int→Int→Span→Prop}:∀ {xs:List DSpot} {s:Span} {ks ts:List Int},Ch P xs s ks ts→∀ t∈ts,∃ k s',k∈ks∧P k t s'
 | [],s,ks,ts,⟨k,t,h1,h2,c⟩,q,hq=>by
  subst h1 h2
  rw [List.mem_singleton.1 hq];exact⟨k,s,List.mem_cons_self,c⟩
 | x::xs,s,ks,ts,⟨k,ks',t,ts',h1,h2,h3,h4,c⟩,q,hq=>by
  subst h1 h2
  rcases List.mem_cons.1 hq with rfl | hq
  · exact⟨k,_,List.mem_cons_self,h4⟩
  · obtain⟨k',s',i1,i2⟩:=c.tmem q hq
    exact⟨k',s',List.mem_cons_of_mem _ i1,i2⟩
theorem vG {N:NL}(hc:va N)(hl:N.length≤400){h:Nat}{X:List DSpot}{s:Span}{Ks Ts:List Int}(c:Ch (yj (fN N) h) X s Ks Ts)(h2:2≤Ks.length)(h8:Ks.length≤8)(ho:X.Pairwise SpotO)(hx : ∀ x∈X,ui (zE x)=0) :
 Inner ⟨2,[],Ks,X,Ts⟩:=by
 have hlen:=c.lens
 refine⟨rfl,h2,h8,hlen.1,hlen.2,fun k hk=>?_,fun t ht=>?_,hx,ho⟩
 · obtain⟨t,s',x,_⟩:=c.mem k hk
   have:=x.1.range
   rw [uf] at this
   omega
 · obtain⟨k,s',_,x⟩:=c.tmem t ht
   rw [← x.2]
   exact xm (wF hc x.1.range)
theorem uk.some_elem {ns:List DNode}(hns : ∀ n∈ns,uv n=0){h:Nat}{i:Int}{s:Span}(c:uk ns h i 4 s):∃ e,e∈tX ns h i:=by
 have h0:=(zv hns h i 1 s (by decide)).2 (by unfold mOf;rw [if_pos (by decide)];exact c)
 have:=Ce hns h i 1 s h0 (by decide)
 have h1:0<4 ^ (h+1):=Nat.pow_pos (by decide)
 exact List.exists_mem_of_length_pos (by omega)
theorem Ci {l:List DElem}(hl:l.length=9)(ks:List Int)(xs:List DSpot)(ts:List Int):∃ x,l[4]? = some x∧w9 1 l ks xs ts=some ([],[],[],l.drop 4,l.take 4,ks,xs,ts,(tY x).key.pfs,(tY x).key.obj,(tY x).key.off,(tY x).made,1):=by
 have hg:l[4]? = some l[4]:=gge (by omega)
 refine⟨_,hg,?_⟩
 unfold w9
 have h1:i9 l 4 (l.length:Int)=some (l.drop 4):=sO (k:=4) (by omega)
 have h2:i9 l 0 4=some (l.take 4):=tm (k:=4) (by omega)
 have h3:idx (l.drop 4) 0=some l[4]:=by rw [show (0:Int)=((0:Nat):Int) from rfl,tz,List.getElem?_drop];exact hg
 rw [show ((1:Int) == 1)=true from rfl,cond_true,h1,obs,tJ (by simp [hl]) (by simp [hl]),obs,h2,obs,h3,obs,ud,obs]
theorem Bs {ks:List Int}{xs:List DSpot}{ts:List Int}(hk:ks.length=9)(hx:xs.length=8)(ht:ts.length=9)(l:List DElem):∃ x,xs[3]? = some x∧w9 2 l ks xs ts=some (ts.drop 4,xs.drop 4,ks.drop 4,[],l,ks.take 4,xs.take 3,ts.take 4,x.key.pfs,x.key.obj,x.key.off,x.made,2):=by
 have hg:xs[3]? = some xs[3]:=gge (by omega)
 refine⟨_,hg,?_⟩
 unfold w9
 have h1:i9 ks 4 (ks.length:Int)=some (ks.drop 4):=sO (k:=4) (by omega)
 have h2:i9 xs 4 (xs.length:Int)=some (xs.drop 4):=sO (k:=4) (by omega)
 have h3:i9 ts 4 (ts.length:Int)=some (ts.drop 4):=sO (k:=4) (by omega)
 have h4:i9 ks 0 4=some (ks.take 4):=tm (k:=4) (by omega)
 have h5:i9 xs 0 3=some (xs.take 3):=tm (k:=3) (by omega)
 have h6:i9 ts 0 4=some (ts.take 4):=tm (k:=4) (by omega)
 have h7:idx xs 3=some xs[3]:=by rw [show (3:Int)=((3:Nat):Int) from rfl,tz];exact hg
 rw [show ((2:Int) == 1)=false from rfl,cond_false,h1,obs,h2,obs,h3,obs,tJ (by simp [hk]) (by simp [hk]),obs,tJ (by simp [hx]) (by simp [hx]),obs,tJ (by simp [ht]) (by simp [ht]),obs,h7,obs,h4,obs,h5,obs,h6,obs]
end
section
variable {F:Nat} [Big F]
theorem Fr2.cong {N N' : NL}{I I' K K' : List Nat}{c:Nat}(f:Fr2 N N' I K c)(h1:I=I')(h2:K=K'):Fr2 N N' I' K' c:=by subst h1 h2;exact f
theorem xc {N:NL}{i:Int}{n:DNode}(h:N[i.toNat]? = some (.inr n)):nd (fN N) i=n:=by unfold nd;rw [xi,h];rfl
def B0 (F:Nat)(e:DElem)(N:NL)(h mf:Nat)(i:Int)(s:Span)(m:Nat):Prop :=
 ∃(N' : NL) (sp:DSpot) (r:Int) (b:Bool),nS (xW F e) mf (N,i)=some (N',sp.key.pfs,sp.key.obj,sp.key.off,sp.made,r,b) ∧
  ((b=false∧InsPost e N N' h i s m [i] [])∨(b=true∧ui (zE sp)=0∧InsPost e N N' h i s 4 [i,r] [sp]))
def z0:DSpot:=⟨⟨0,0,0⟩,0⟩
omit [Big F] in
theorem zF {e:DElem}{rf:NL × Int→Option InsT}{N N2:NL}{i:Int}{n:DNode}{l:List DElem}{ks:List Int}{xs:List DSpot}{ts:List Int}(hn:j6 N i=some n)(hm:AS F e rf N i n=some (l,ks,xs,ts,N2))(h8:l.length+ks.length≤8)(hi:0≤i∧i<(N2.length:Int)) :
 xW F e rf (N,i)=some (jq N2 i ⟨n.kind,l,ks,xs,ts⟩,0,0,0,0,0,false):=by
 unfold xW
 dsimp only
 rw [hn,obs,hm,obs]
 dsimp only
 rw [w64 (by omega) (by omega),decide_eq_true (by omega),cond_true,wC hi,obs]
theorem zD {e:DElem}{rf:NL × Int→Option InsT}{N N2:NL}{i:Int}{n:DNode}{l:List DElem}{ks:List Int}{xs:List DSpot}{ts:List Int}(hn:j6 N i=some n)(hm:AS F e rf N i n=some (l,ks,xs,ts,N2))(h8:l.length+ks.length=9)(hi:0≤i∧i<(N2.length:Int))(hl:N2.length≤1000)
 {r1:List Int} {r2:List DSpot} {r3:List Int} {r4 l1:List DElem} {l2:List Int} {l3:List DSpot} {l4:List Int} {sp:DSpot} {k:Int} (hh:w9 n.kind l ks xs ts=some (r1,r2,r3,r4,l1,l2,l3,l4,sp.key.pfs,sp.key.obj,sp.key.off,sp.made,k)) :
 ∃ N' j,xW F e rf (N,i)=some (N',sp.key.pfs,sp.key.obj,sp.key.off,sp.made,((j:Nat):Int),true)∧TakeP (jq N2 i ⟨n.kind,l1,l2,l3,l4⟩) ⟨k,r4,r3,r2,r1⟩ N' j:=by
 obtain⟨N',j,h1,h2⟩:=BW (F:=F) (N:=jq N2 i ⟨n.kind,l1,l2,l3,l4⟩) ⟨k,r4,r3,r2,r1⟩ (by rw [t8];exact hl)
 refine⟨N',j,?_,h2⟩
 unfold xW
 dsimp only
 rw [hn,obs,hm,obs]
 dsimp only
 rw [w64 (by omega) (by omega),decide_eq_false (by omega),cond_false,hh,obs]
 dsimp only
 rw [wC hi,obs,h1,obs]
theorem D7 {e:DElem}(he:ui e=0){mf:Nat}{N:NL}{i:Int}{m:Nat}{s:Span}(hm:0<mf)(hc:va N)(hl:N.length≤400)(c:uk (fN N) 0 i m s)(hs:inS s (tY e)=true)(hne : ∀ x∈tX (fN N) 0 i,tY x≠tY e):B0 F e N 0 mf i s m:=by
 obtain⟨mf,rfl⟩ : ∃ q,mf=q+1:=⟨mf-1,by omega⟩
 have L:=c.leaf hc
 have hr:=c.range
 rw [uf] at hr
 obtain⟨hnode,hat⟩:=c.node
 have hk0:=c.kind
 obtain⟨_,hk1,hmk,hin⟩:=c
 have hne' : ∀ x∈(nd (fN N) i).elems,tY x≠tY e:=hne
 have hel : ∀ x,x∈tX (fN N) 0 i↔x∈(nd (fN N) i).elems:=fun x=>Iff.rfl
 generalize hnn:nd (fN N) i=n at *
 obtain⟨w,hw,hwl,hw1,hw2⟩:=EQ (F:=F) n.elems e (by have:=L.len;omega)
 obtain⟨so,sm⟩:=AR L.ord hwl hw1 hw2 hne'
 have hlen:=kD e hwl
 have h8:=L.len
 generalize hl' : jn n.elems w e=l' at *
 have hok : ∀ x∈l',ui x=0:=fun x hx=>by
  rcases (sm x).1 hx with rfl | hx
  · exact he
  · exact L.ok x hx
 have hin' : ∀ x∈l',inS s (tY x)=true:=fun x hx=>by
  rcases (sm x).1 hx with rfl | hx
  · exact hs
  · exact hin x hx
 have hM : ∀ rf,AS F e rf N i n=some (l',[],[],[],iZ N i):=fun rf=>by
  unfold AS
  rw [hk1,show ((1:Int) == 1)=true from rfl,cond_true,hw,obs]
  unfold rm
  rw [if_pos ⟨by omega,by omega,by omega,by unfold maxLen;omega⟩,obs,Int.toNat_natCast,hl',L.kids,L.seps,L.tids]
 have fr0:=Fr2.start hc hat hk0
 have hat1 : ∃ x,(iZ N i)[i.toNat]? = some x∧qZ x≠0:=by
  have:=wu N i i.toNat
  rw [wx hat] at this
  obtain⟨x,hx,hxk⟩:=CY this
  exact⟨x,hx,by rw [hxk];exact hk0⟩
 obtain⟨x1,hx1,hxk1⟩:=hat1
 have hI:ids (fN N) 0 i=[i.toNat]:=rfl
 by_cases hs8:l'.length≤8
 · have Lf:Leaf ⟨1,l',[],[],[]⟩:=⟨rfl,rfl,rfl,hs8,hok,so⟩
   have hck:=wd (n:=⟨1,l',[],[],[]⟩) rfl Lf
   have hnd:nd (fN (jq (iZ N i) i ⟨1,l',[],[],[]⟩)) i=⟨1,l',[],[],[]⟩:=yT (by rw [tZ];exact hr)
   refine⟨jq (iZ N i) i ⟨1,l',[],[],[]⟩,z0,0,false,?_,.inl ⟨rfl,⟨?_,?_,?_⟩⟩⟩
   · show xW F e (nS (xW F e) mf) (N,i)=_
     rw [zF hnode (hM _) (by simpa using hs8) (by rw [tZ];exact hr),hk1];rfl
   · exact((fr0.put List.mem_cons_self List.mem_cons_self hx1 hxk1 (show (1:Int)≠0 by decide) hck).more (Nat.zero_le _)).cong rfl (by simp [ids])
   · refine⟨i,_,rfl,rfl,⟨?_,by rw [hnd],by rw [hnd];show m≤l'.length;omega,by rw [hnd];exact hin'⟩,rfl⟩
     rw [uf,t8,tZ];exact hr
   · intro x
     rw [hel,← sm x,List.flatMap_singleton]
     show x∈(nd _ i).elems↔_
     rw [hnd]
 · have h9:l'.length=9:=by omega
   obtain⟨x,hx,hh⟩:=Ci h9 [] [] []
   rw [← hk1] at hh
   obtain⟨N',j,hB,tk⟩:=zD (sp:=tY x) hnode (hM (nS (xW F e) mf)) (by simpa using h9) (by rw [tZ];exact hr) (by rw [tZ];omega) hh
   rw [hk1] at tk
   have e48:l' = l'.take 4++l'.drop 4:=(List.take_append_drop 4 l').symm
   have hso:=so
   rw [e48] at hso
   obtain⟨o1,o2,o3⟩:=List.pairwise_append.1 hso
   have hl1:(l'.take 4).length=4:=by rw [List.length_take];omega
   have hl2:(l'.drop 4).length=5:=by rw [List.length_drop];omega
   have hxd : ∃ r,l'.drop 4=x::r:=by
    have h4:4<l'.length:=by omega
    rw [gge h4] at hx
    obtain rfl:=Option.some.inj hx
    exact⟨_,List.drop_eq_getElem_cons h4⟩
   obtain⟨rr,hrr⟩:=hxd
   have Lf1:Leaf ⟨1,l'.take 4,[],[],[]⟩:=⟨rfl,rfl,rfl,by show (l'.take 4).length≤8;omega,fun y hy=>hok y (List.mem_of_mem_take hy),o1⟩
   have Lf2:Leaf ⟨1,l'.drop 4,[],[],[]⟩:=⟨rfl,rfl,rfl,by show (l'.drop 4).length≤8;omega,fun y hy=>hok y (List.mem_of_mem_drop hy),o2⟩
   have hck1:=wd (n:=⟨1,l'.take 4,[],[],[]⟩) rfl Lf1
   have hck2:=wd (n:=⟨1,l'.drop 4,[],[],[]⟩) rfl Lf2
   have fr1:=fr0.put List.mem_cons_self List.mem_cons_self hx1 hxk1 (n:=⟨1,l'.take 4,[],[],[]⟩) (show (1:Int)≠0 by decide) hck1
   have hat2:(jq (iZ N i) i ⟨1,l'.take 4,[],[],[]⟩)[i.toNat]? = some (.inr ⟨1,l'.take 4,[],[],[]⟩):=uE _ (by rw [tZ];omega)
   have fr2:=fr1.take tk (show (1:Int)≠0 by decide) hck2 fun q hq=>by
    obtain rfl:q=i.toNat:=by simpa using hq
    exact⟨_,hat2,show (1:Int)≠0 by decide⟩
   have hij:i.toNat≠j:=fun h=>by
    subst h
    exact absurd (tk.free _ hat2) (show (1:Int)≠0 by decide)
   have hNi:N'[i.toNat]? = some (.inr ⟨1,l'.take 4,[],[],[]⟩):=by rw [tk.same _ hij];exact hat2
   have hnd1:nd (fN N') i=⟨1,l'.take 4,[],[],[]⟩:=xc hNi
   have hnd2:nd (fN N') (j:Int)=⟨1,l'.drop 4,[],[],[]⟩:=yw (by rw [xi,tk.at_];rfl)
   have hjl:j<N'.length:=(ggs.1 tk.at_).1
   have hil:i.toNat<N'.length:=(ggs.1 hNi).1
   have hxs:inS s (tY x)=true:=hin' x (List.mem_of_mem_drop (by rw [hrr];exact List.mem_cons_self))
   refine⟨N',tY x,(j:Int),true,hB,.inr ⟨rfl,Be (hok x (List.mem_of_mem_drop (by rw [hrr];exact List.mem_cons_self))),⟨?_,?_,?_⟩⟩⟩
   · refine((fr2.more (by omega)).perm (K':=[i.toNat,j]) (List.Perm.swap _ _ _)).cong rfl ?_
     simp [ids]
   · refine⟨i,[(j:Int)],_,_,rfl,rfl,hxs,⟨⟨?_,by rw [hnd1],by rw [hnd1];show 4≤(l'.take 4).length;omega,?_⟩,rfl⟩,(j:Int),_,rfl,rfl,⟨?_,by rw [hnd2],by rw [hnd2];show 4≤(l'.drop 4).length;omega,?_⟩,rfl⟩
     · rw [uf];omega
     · rw [hnd1]
       intro y hy
       exact vl.2 ⟨(uB.1 (hin' y (List.mem_of_mem_take hy))).1,o3 y hy x (by rw [hrr];exact List.mem_cons_self)⟩
     · rw [uf];omega
     · rw [hnd2]
       intro y hy
       refine wn.2 ⟨?_,(uB.1 (hin' y (List.mem_of_mem_drop hy))).2⟩
       have hy' : y∈x::rr:=by rw [← hrr];exact hy
       rw [hrr] at o2
       rcases List.mem_cons.1 hy' with rfl | hy'
       · rw [ue.refl];decide
       · have:cmpS (tY x) (tY y)<0:=(List.pairwise_cons.1 o2).1 y hy'
         omega
   · intro y
     rw [hel,← sm y,List.flatMap_cons,List.flatMap_singleton]
     show y∈(nd _ i).elems++(nd _ (j:Int)).elems↔_
     rw [hnd1,hnd2]
     show y∈l'.take 4++l'.drop 4↔_
     rw [← e48]
theorem yZ (l:List DElem)(a:List Int)(b:List DSpot)(c:List Int):(DNode.mk 2 l a b c).kind≠0:=show (2:Int)≠0 by decide
theorem EK {e:DElem}{N N2:NL}{h mf:Nat}{i:Int}{m:Nat}{s:Span}{n:DNode}{Ks:List Int}{Xs:List DSpot}{Ts:List Int}(hnode:j6 N i=some n)(hk2:n.kind=2)(hM:AS F e (nS (xW F e) mf) N i n=some ([],Ks,Xs,Ts,N2))(hi:0≤i∧i<(N2.length:Int))(hl2:N2.length≤400)
 (fr:Fr2 N N2 (ids (fN N) (h+1) i) (i.toNat::Ks.flatMap (ids (fN N2) h)) (h+1)) (hole : ∃ x,N2[i.toNat]? = some x∧qZ x≠0) (c:Ch (yj (fN N2) h) Xs s Ks Ts) (h2:2≤Ks.length) (h9:Ks.length≤9) (hm:m≤Ks.length) (ho:Xs.Pairwise SpotO) (hx : ∀ x∈Xs,ui (zE x)=0)
 (el : ∀ x,x∈Ks.flatMap (tX (fN N2) h)↔x=e∨x∈tX (fN N) (h+1) i):B0 F e N (h+1) (mf+1) i s m:=by
 have hI:i.toNat∈ids (fN N) (h+1) i:=uk.head _ _
 have hc2:=fr.chk
 obtain⟨x1,hx1,hxk1⟩:=hole
 have hiK:i.toNat ∉ Ks.flatMap (ids (fN N2) h):=(List.nodup_cons.1 fr.nodup).1
 have hlens:=c.lens
 by_cases h8:Ks.length≤8
 · have hck:=uH (n:=⟨2,[],Ks,Xs,Ts⟩) rfl (vG hc2 hl2 c h2 h8 ho hx)
   have hnd:nd (fN (jq N2 i ⟨2,[],Ks,Xs,Ts⟩)) i=⟨2,[],Ks,Xs,Ts⟩:=yT hi
   obtain⟨a1,a2,a3⟩:=vc (N':=jq N2 i ⟨2,[],Ks,Xs,Ts⟩) (by rw [t8];exact Nat.le_refl _) c fun j hj=>uj N2 (show j≠i.toNat from fun h=>hiK (by rw [← h];exact hj))
   refine⟨jq N2 i ⟨2,[],Ks,Xs,Ts⟩,z0,0,false,?_,.inl ⟨rfl,⟨?_,?_,?_⟩⟩⟩
   · show xW F e (nS (xW F e) mf) (N,i)=_
     rw [zF hnode hM (by simpa using h8) hi,hk2];rfl
   · refine((fr.put hI List.mem_cons_self hx1 hxk1 (yZ _ _ _ _) hck).more (by omega)).cong rfl ?_
     rw [List.flatMap_singleton,ids,hnd,a2]
   · refine⟨i,_,rfl,rfl,⟨?_,by rw [hnd],by rw [hnd];exact hm,by rw [hnd];exact a1⟩,rfl⟩
     rw [uf,t8];exact hi
   · intro x
     rw [List.flatMap_singleton,tX,hnd,a3]
     exact el x
 · have hk9:Ks.length=9:=by omega
   obtain⟨sp,hsp,hh⟩:=Bs hk9 (show Xs.length=8 by omega) (show Ts.length=9 by omega) []
   rw [← hk2] at hh
   obtain⟨N',j,hB,tk⟩:=zD hnode hM (by simpa using hk9) hi (by omega) hh
   rw [hk2] at tk
   have h3:3<Xs.length:=by omega
   have hspx:Xs[3]=sp:=by rw [gge h3] at hsp;exact Option.some.inj hsp
   have eX:Xs=Xs.take 3++sp::Xs.drop 4:=by rw [← hspx];exact wT Xs h3
   have eK:Ks=Ks.take 4++Ks.drop 4:=(List.take_append_drop 4 Ks).symm
   have eT:Ts=Ts.take 4++Ts.drop 4:=(List.take_append_drop 4 Ts).symm
   have l1:(Ks.take 4).length=4:=by rw [List.length_take];omega
   have l2:(Xs.take 3).length=3:=by rw [List.length_take];omega
   have l3:(Ts.take 4).length=4:=by rw [List.length_take];omega
   have l4:(Ks.drop 4).length=5:=by rw [List.length_drop];omega
   have c':=c
   rw [eX,eK,eT] at c'
   have ho':=ho
   rw [eX] at ho'
   obtain⟨s1,s2,s3⟩:=Ch.split (by omega) (by omega) ho' c'
   obtain⟨o1,o2,o3⟩:=List.pairwise_append.1 ho'
   have hck1:=uH (n:=⟨2,[],Ks.take 4,Xs.take 3,Ts.take 4⟩) rfl (vG hc2 hl2 s2 (by omega) (by omega) o1 fun x h=>hx x (List.mem_of_mem_take h))
   have hck2:=uH (n:=⟨2,[],Ks.drop 4,Xs.drop 4,Ts.drop 4⟩) rfl (vG hc2 hl2 s3 (by omega) (by omega) (List.pairwise_cons.1 o2).2 fun x h=>hx x (List.mem_of_mem_drop h))
   have fr1:=fr.put hI List.mem_cons_self hx1 hxk1 (yZ [] (Ks.take 4) (Xs.take 3) (Ts.take 4)) hck1
   have hat2:(jq N2 i ⟨2,[],Ks.take 4,Xs.take 3,Ts.take 4⟩)[i.toNat]? = some (.inr ⟨2,[],Ks.take 4,Xs.take 3,Ts.take 4⟩):=uE _ (by omega)
   have hKu : ∀ q∈Ks.flatMap (ids (fN N2) h),∃ n:DNode,N2[q]? = some (.inr n)∧n.kind≠0:=fun q hq=>by
    obtain⟨k,hk,hq⟩:=List.mem_flatMap.1 hq
    obtain⟨t,s',x,_⟩:=c.mem k hk
    exact x.1.used q hq
   have hne : ∀ q∈Ks.flatMap (ids (fN N2) h),q≠i.toNat:=fun q hq h=>hiK (by rw [← h];exact hq)
   have fr2:=fr1.take tk (yZ _ _ _ _) hck2 fun q hq=>by
    rcases List.mem_cons.1 hq with rfl | hq
    · exact⟨_,hat2,yZ _ _ _ _⟩
    · obtain⟨y,hy,hyk⟩:=hKu q hq
      exact⟨.inr y,by rw [uj N2 (hne q hq)];exact hy,hyk⟩
   have hij:i.toNat≠j:=fun h=>by
    subst h
    exact absurd (tk.free _ hat2) (yZ _ _ _ _)
   have hNi:N'[i.toNat]? = some (.inr ⟨2,[],Ks.take 4,Xs.take 3,Ts.take 4⟩):=by rw [tk.same _ hij];exact hat2
   have hnd1:nd (fN N') i=⟨2,[],Ks.take 4,Xs.take 3,Ts.take 4⟩:=xc hNi
   have hnd2:nd (fN N') (j:Int)=⟨2,[],Ks.drop 4,Xs.drop 4,Ts.drop 4⟩:=xc (by rw [Int.toNat_natCast];exact tk.at_)
   have hjl:j<N'.length:=(ggs.1 tk.at_).1
   have hil:i.toNat<N'.length:=(ggs.1 hNi).1
   have hlen:N2.length≤N'.length:=by rcases tk.len with h | ⟨h,_⟩ <;> rw [t8] at h <;> omega
   have hag : ∀ q∈Ks.flatMap (ids (fN N2) h),N'[q]? = N2[q]?:=fun q hq=>by
    have hqj:q≠j:=fun h=>by
     subst h
     obtain⟨y,hy,hyk⟩:=hKu q hq
     exact absurd (tk.free (.inr y) (by rw [uj N2 (hne q hq)];exact hy)) hyk
    rw [tk.same q hqj,uj N2 (hne q hq)]
   have sub1 : ∀ q∈(Ks.take 4).flatMap (ids (fN N2) h),q∈Ks.flatMap (ids (fN N2) h):=fun q hq=>by
    rw [eK,List.flatMap_append];exact List.mem_append_left _ hq
   have sub2 : ∀ q∈(Ks.drop 4).flatMap (ids (fN N2) h),q∈Ks.flatMap (ids (fN N2) h):=fun q hq=>by
    rw [eK,List.flatMap_append];exact List.mem_append_right _ hq
   obtain⟨a1,a2,a3⟩:=vc hlen s2 fun q hq=>hag q (sub1 q hq)
   obtain⟨b1,b2,b3⟩:=vc hlen s3 fun q hq=>hag q (sub2 q hq)
   refine⟨N',sp,(j:Int),true,hB,.inr ⟨rfl,hx sp (by rw [eX];simp),⟨?_,?_,?_⟩⟩⟩
   · refine(fr2.perm (K':=i.toNat::((Ks.take 4).flatMap (ids (fN N2) h)++j::(Ks.drop 4).flatMap (ids (fN N2) h))) ?_).cong rfl ?_
     · rw [show Ks.flatMap (ids (fN N2) h)=(Ks.take 4).flatMap (ids (fN N2) h)++(Ks.drop 4).flatMap (ids (fN N2) h) by rw [← List.flatMap_append,← eK]]
       exact(List.Perm.swap _ _ _).trans (List.Perm.cons _ List.perm_middle.symm)
     · rw [List.flatMap_cons,List.flatMap_singleton,ids,ids,hnd1,hnd2,a2,b2,Int.toNat_natCast];rfl
   · refine⟨i,[(j:Int)],_,_,rfl,rfl,s1,⟨⟨?_,by rw [hnd1],by rw [hnd1];show 4≤(Ks.take 4).length;omega,by rw [hnd1];exact a1⟩,rfl⟩,(j:Int),_,rfl,rfl,⟨?_,by rw [hnd2],by rw [hnd2];show 4≤(Ks.drop 4).length;omega,by rw [hnd2];exact b1⟩,rfl⟩
     · rw [uf];omega
     · rw [uf];omega
   · intro x
     rw [← el x,List.flatMap_cons,List.flatMap_singleton,tX,tX,hnd1,hnd2]
     show x∈(Ks.take 4).flatMap _++(Ks.drop 4).flatMap _↔_
     rw [a3,b3,← List.flatMap_append,← eK]
theorem Bd (sp:DSpot):DSpot.mk (DKey.mk sp.key.pfs sp.key.obj sp.key.off) sp.made=sp:=rfl
theorem D6 {e:DElem}(he:ui e=0):∀(h mf:Nat) (N:NL) (i:Int) (m:Nat) (s:Span),h<mf→va N→N.length≤400→used N+(h+1)≤400→uk (fN N) h i m s→(ids (fN N) h i).Nodup→inS s (tY e)=true→(∀ x∈tX (fN N) h i,tY x≠tY e) →
 B0 F e N h mf i s m:=by
 intro h
 induction h with
 | zero=>exact fun mf N i m s hm hc hl _ c _ hs hne=>D7 he hm hc hl c hs hne
 | succ h ih =>
  intro mf N i m s hm hc hl hu c hn hs hne
  obtain⟨mf,rfl⟩ : ∃ q,mf=q+1:=⟨mf-1,by omega⟩
  have L:=c.inner hc
  have hr:=c.range
  rw [uf] at hr
  have hus:=c.used
  obtain⟨hnode,hat⟩:=c.node
  have hk0:=c.kind
  obtain⟨_,hk2,hmk,hch⟩:=c
  obtain⟨A,k,B,XA,XB,TA,t,TB,s',f⟩:=Cg L.seps L.tids L.ord hch hs
  have hids:ids (fN N) (h+1) i=i.toNat::(A.flatMap (ids (fN N) h)++(ids (fN N) h k++B.flatMap (ids (fN N) h))):=by
   rw [ids,f.kids,List.flatMap_append,List.flatMap_cons]
  have hels:tX (fN N) (h+1) i=A.flatMap (tX (fN N) h)++(tX (fN N) h k++B.flatMap (tX (fN N) h)):=by
   rw [tX,f.kids,List.flatMap_append,List.flatMap_cons]
  generalize hnn:nd (fN N) i=n at *
  have hn0:=hn
  rw [ids,hnn,f.kids] at hn
  obtain⟨d1,d2,d3⟩:=xq hn
  have hN1 : ∀ j∈ids (fN N) h k,(iZ N i)[j]? = N[j]?:=fun j hj=>uu N (fun e=>d1 (e▸hj))
  obtain⟨q1,q2,q3,q4⟩:=uk.agree (N':=iZ N i) (by rw [tZ];exact Nat.le_refl _) f.here.1 hN1
  obtain⟨N2,sp,r,b,hrun,hpost⟩:=ih mf (iZ N i) k 4 s' (by omega) (hc.out i) (by rw [tZ];exact hl) (by rw [yH];omega) q1 (by rw [q2];exact d2) f.in_ (fun x hx=>hne x (by rw [hels,← q3];simp [hx]))
  have hw:vJ n.seps (tY e)=A.length:=f.way
  have hkl:n.kids.length=A.length+B.length+1:=by rw [f.kids];simp;omega
  have h8:=L.eight
  have hta:=f.ta
  have hxa:=f.xa
  obtain⟨R,X,P,hXp,hXc,hRl,hXo,hM⟩ : ∃ R X,InsPost e (iZ N i) N2 h k s' 4 R X∧(∀ x∈X,ui (zE x)=0)∧X.length+1=R.length∧R.length≤2∧(XA++(X++XB)).Pairwise SpotO ∧
   AS F e (nS (xW F e) mf) N i n=some ([],A++(R++B),XA++(X++XB),TA++(R.map (fun k=>uh (nd (fN N2) k))++TB),N2):=by
   have hord:=L.ord
   rw [f.seps] at hord
   have hcall : ∀(K:InsT→Option ((List DElem) × (List Int) × (List DSpot) × (List Int) × (List (Int ⊕ DNode)))),True:=fun _=>trivial
   rcases hpost with ⟨rfl,P⟩ | ⟨rfl,hsp,P⟩
   · refine⟨[k],[],P,by simp,rfl,by simp,by simpa using hord,?_⟩
     obtain⟨k',t',e1,e2,x⟩:=P.ch
     obtain rfl:k=k':=by simpa using e1
     unfold AS
     rw [hk2,show ((2:Int) == 1)=false from rfl,cond_false,ud,obs,vD n _ (vF (uH hk2 L)),obs,hw,f.kids,vx,obs,hrun,obs]
     dsimp only
     rw [obs,x.1.node.1,obs,uP P.fr.chk x.1.range,obs,f.tids,← hta,vx,obs,cond_false,Int.toNat_natCast,wB,L.elems,f.seps]
     simp
   · obtain⟨k',ks',t',ts',e1,e2,i1,x,k2,t2,e3,e4,y⟩:=P.ch
     obtain⟨rfl,rfl⟩ : k=k'∧[r]=ks':=by simpa using e1
     obtain rfl:r=k2:=by simpa using e3
     refine⟨[k,r],[sp],P,by simpa using hsp,rfl,by simp,?_,?_⟩
     · obtain⟨p1,p2,p3⟩:=List.pairwise_append.1 hord
       obtain⟨y0,hy0⟩:=x.1.some_elem P.fr.chk
       have hy1:=(vl.1 ((x.1.elems P.fr.chk).2 y0 hy0).1)
       have hy2:=vB i1 ((x.1.elems P.fr.chk).2 y0 hy0).1
       have hlo : ∀ z∈XA,SpotO z sp:=fun z hz=>xR (f.loX z hz _ hy2) hy1.2
       have hhi : ∀ z∈XB,SpotO sp z:=fun z hz=>f.hiX z hz sp i1
       refine List.pairwise_append.2 ⟨p1,List.pairwise_cons.2 ⟨hhi,p2⟩,fun a ha b hb=>?_⟩
       rcases List.mem_cons.1 hb with rfl | hb
       · exact hlo a ha
       · exact p3 a ha b hb
     · have hXl:n.seps.length=A.length+B.length:=by have:=L.seps;omega
       have htl:(TA++uh (nd (fN N2) k)::TB).length=A.length+B.length+1:=by have:=f.tb;simp;omega
       unfold AS
       rw [hk2,show ((2:Int) == 1)=false from rfl,cond_false,ud,obs,vD n _ (vF (uH hk2 L)),obs,hw,f.kids,vx,obs,hrun,obs]
       dsimp only
       rw [obs,x.1.node.1,obs,uP P.fr.chk x.1.range,obs,f.tids,show idx (TA++t::TB) (A.length:Int)=some t by rw [← hta];exact vx _ _ _,obs,cond_true,w64 (by omega) (by omega),Int.toNat_natCast,show (TA++t::TB).set A.length (uh (nd (fN N2) k))=TA++uh (nd (fN N2) k)::TB by rw [← hta];exact wB _ _ _ _,Bd]
       have hi1:rm 8 (A++k::B) ((A.length:Int)+1) r=some (A++(k::r::B)):=by
        unfold rm
        rw [if_pos ⟨by omega,by simp;omega,by simp;omega,by unfold maxLen;simp;omega⟩,show ((A.length:Int)+1).toNat=A.length+1 by omega]
        unfold jn
        rw [show A++k::B=(A++[k])++B by simp,List.take_left' (by simp),List.drop_left' (by simp)];simp
       have hi2:rm 32 n.seps (A.length:Int) sp=some (XA++sp::XB):=by
        unfold rm
        rw [if_pos ⟨by omega,by omega,by omega,by unfold maxLen;omega⟩,Int.toNat_natCast]
        unfold jn
        rw [f.seps,List.take_left' hxa,List.drop_left' hxa]
       have hi3:rm 8 (TA++uh (nd (fN N2) k)::TB) ((A.length:Int)+1) (uh (nd (fN N2) r))=some (TA++(uh (nd (fN N2) k)::uh (nd (fN N2) r)::TB)):=by
        unfold rm
        rw [if_pos ⟨by omega,by omega,by omega,by unfold maxLen;omega⟩,show ((A.length:Int)+1).toNat=A.length+1 by omega]
        unfold jn
        rw [show TA++uh (nd (fN N2) k)::TB=(TA++[uh (nd (fN N2) k)])++TB by simp,List.take_left' (by simp;omega),List.drop_left' (by simp;omega)];simp
       obtain⟨_,_,_,_,j1⟩:=mR hi1
       obtain⟨_,_,_,_,j2⟩:=mR hi2
       obtain⟨_,_,_,_,j3⟩:=mR hi3
       rw [Int.toNat_natCast] at j2
       rw [hi1,obs,hi2,obs,y.1.node.1,obs,uP P.fr.chk y.1.range,obs,hi3,obs,j1,j2,j3,L.elems]
       simp
  have hl2:N2.length≤400:=by
   have h1:=P.fr.cap
   have h2:=P.fr.use
   rw [tZ] at h1
   rw [yH] at h2
   omega
  have hr2:0≤i∧i<(N2.length:Int):=by
   have:=P.fr.len
   rw [tZ] at this
   omega
  have hab : ∀ a,a∈A∨a∈B→∀ j∈ids (fN N) h a,N2[j]? = N[j]?:=fun a ha j hj=>by
   obtain⟨x1,x2⟩:=d3 a ha
   obtain⟨y,hy,hyk⟩:=hus j (by
    rw [hids]
    rcases ha with ha | ha
    · simp only [List.mem_cons,List.mem_append,List.mem_flatMap];exact .inr (.inl ⟨a,ha,hj⟩)
    · simp only [List.mem_cons,List.mem_append,List.mem_flatMap];exact .inr (.inr (.inr ⟨a,ha,hj⟩)))
   have hji:j≠i.toNat:=fun e=>x1 (e▸hj)
   rw [P.fr.out j (.inr y) (by rw [q2];exact x2 j hj) (by rw [uu N hji];exact hy) hyk,hy]
  have hlen2:N.length≤N2.length:=by have:=P.fr.len;rwa [tZ] at this
  have other : ∀ a,a∈A∨a∈B→∀ {m:Nat} {s:Span},uk (fN N) h a m s→_:=fun a ha m s c=>uk.agree (N:=N) (N':=N2) hlen2 c (hab a ha)
  have c2:=f.turn (yj (fN N2) h) (fun a t' s'' ha x=>⟨(other a ha x.1).1,by rw [(other a ha x.1).2.2.2];exact x.2⟩) R X _ P.ch
  have hkids : ∀ a,a∈A∨a∈B→∃ t' s'',uk (fN N) h a 4 s'':=fun a ha=>by
   rcases ha with ha | ha
   · obtain⟨t',s'',x1,_⟩:=f.lo a ha;exact⟨t',s'',x1.1⟩
   · obtain⟨t',s'',x1,_⟩:=f.hi a ha;exact⟨t',s'',x1.1⟩
  have flat : ∀(l:List Int),(∀ a∈l,a∈A∨a∈B)→l.flatMap (ids (fN N2) h)=l.flatMap (ids (fN N) h)∧l.flatMap (tX (fN N2) h)=l.flatMap (tX (fN N) h):=fun l hl=>by
   constructor
   · exact vR fun a ha=>by obtain ⟨t',s'',x1⟩:=hkids a (hl a ha);exact(other a (hl a ha) x1).2.1
   · exact uz fun a ha=>by obtain ⟨t',s'',x1⟩:=hkids a (hl a ha);exact(other a (hl a ha) x1).2.2.1
  have fr:=P.fr.up (i:=i.toNat) (I1:=A.flatMap (ids (fN N) h)) (I3:=B.flatMap (ids (fN N) h)) rfl (by rw [q2,← hids];exact hn0) (fun j hj=>hus j (by rw [hids,← q2];exact hj))
  rw [q2,← hids] at fr
  have hK:(A++(R++B)).flatMap (ids (fN N2) h)=A.flatMap (ids (fN N) h)++(R.flatMap (ids (fN N2) h)++B.flatMap (ids (fN N) h)):=by
   rw [List.flatMap_append,List.flatMap_append,(flat A fun a ha=>.inl ha).1,(flat B fun a ha=>.inr ha).1]
  refine EK hnode hk2 hM hr2 hl2 (fr.cong rfl (by rw [hK])) (fr.kept _ _ hat hk0) c2 ?_ ?_ ?_ hXo ?_ ?_
  · have:=L.two;simp;omega
  · simp;omega
  · simp;omega
  · intro x hx
    rcases List.mem_append.1 hx with hx | hx
    · exact L.ok x (by rw [f.seps];exact List.mem_append_left _ hx)
    · rcases List.mem_append.1 hx with hx | hx
      · exact hXp x hx
      · exact L.ok x (by rw [f.seps];exact List.mem_append_right _ hx)
  · intro x
    have hp:=P.elems x
    rw [q3] at hp
    rw [List.flatMap_append,List.flatMap_append,(flat A fun a ha=>.inl ha).2,(flat B fun a ha=>.inr ha).2,hels,List.mem_append,List.mem_append,hp,List.mem_append,List.mem_append]
    constructor
    · rintro(h | (h | h) | h)
      · exact .inr (.inl h)
      · exact .inl h
      · exact .inr (.inr (.inl h))
      · exact .inr (.inr (.inr h))
    · rintro(h | h | h | h)
      · exact .inr (.inl (.inl h))
      · exact .inl h
      · exact .inr (.inl (.inr h))
      · exact .inr (.inr h)
end
section
variable {F:Nat} [Big F] {α:Type}
theorem Cq {f:Int→Option (Int ⊕ (Unit ⊕ Int))}(l:List α)(p:α→Bool)(hn:l.length≤9223372036854775807)
 (hs : ∀(k:Nat) (x:α),l[k]? = some x→f (k:Int)=some (if p x then .inr (.inr (k:Int)) else .inl ((k:Int)+1)))
 (he:f (l.length:Int)=some (.inr (.inl ()))):iter f F 0=some (match l.findIdx? p with | some i=>.inr (i:Int) | none=>.inl ()):=by
 cases h:l.findIdx? p with
 | none =>
  rw [List.findIdx?_eq_none_iff] at h
  refine rQ (fun k=>(k:Int)) l.length (show (0:Int)=_ from rfl) hn (fun k hk=>?_) he
  rw [hs k _ (gge hk),h _ (List.getElem_mem hk)];rfl
 | some i =>
  rw [List.findIdx?_eq_some_iff_getElem] at h
  obtain⟨hi,h1,h2⟩:=h
  refine rQ (fun k=>(k:Int)) i (show (0:Int)=_ from rfl) (by omega) (fun k hk=>?_) ?_
  · rw [hs k _ (gge (by omega)),if_neg (h2 k hk)];rfl
  · show f (i:Int)=_
    rw [hs i _ (gge hi),if_pos h1]
def dst (q:α→Bool)(l:List α)(i0:Nat):Nat→List α × Nat
 | 0=>(l,i0)
 | k+1=>match l[i0+1+k]? with
  | some x=>if q x then ((dst q l i0 k).1.set (dst q l i0 k).2 x,(dst q l i0 k).2+1) else dst q l i0 k
  | none=>dst q l i0 k
theorem CR (q:α→Bool)(l:List α)(i0:Nat)(h0:(l.take (i0+1)).filter q=l.take i0)(hi:i0<l.length):∀ k,i0+1+k≤l.length →
 (dst q l i0 k).1.length=l.length∧(dst q l i0 k).2<i0+1+k∧(dst q l i0 k).1.take (dst q l i0 k).2=(l.take (i0+1+k)).filter q∧(dst q l i0 k).1.drop (i0+1+k)=l.drop (i0+1+k)
 | 0,_=>⟨rfl,by show i0<_;omega,by show l.take i0=_;exact h0.symm,rfl⟩
 | k+1,hk=>by
  obtain⟨h1,h2,h3,h4⟩:=CR q l i0 h0 hi k (by omega)
  have hlt:i0+1+k<l.length:=by omega
  have hx:=gge hlt
  have ht:l.take (i0+1+(k+1))=l.take (i0+1+k)++[l[i0+1+k]]:=by rw [show i0+1+(k+1)=(i0+1+k)+1 by omega,List.take_add_one,hx];rfl
  have h5:(dst q l i0 k).1.drop (i0+1+(k+1))=l.drop (i0+1+(k+1)):=by
   rw [show i0+1+(k+1)=(i0+1+k)+1 by omega,← List.drop_drop,h4,List.drop_drop]
  rw [dst,hx]
  dsimp only
  rw [ht,List.filter_append]
  by_cases hq:q l[i0+1+k]=true
  · rw [if_pos hq]
    dsimp only
    refine⟨by rw [List.length_set,h1],by omega,?_,?_⟩
    · rw [List.take_add_one,List.take_set_of_le (Nat.le_refl _),h3,List.getElem?_set,if_pos rfl,if_pos (by omega)]
      simp [hq]
    · rw [List.drop_set_of_lt (by omega),h5]
  · rw [if_neg hq]
    refine⟨h1,by omega,?_,h5⟩
    rw [h3];simp [hq]
theorem Dk {f:List α × Int × Int→Option ((List α × Int × Int) ⊕ (List α × Int))}(l:List α)(q:α→Bool)(i0:Nat)(hi:i0<l.length)(hn:l.length≤9223372036854775806)(h0:(l.take (i0+1)).filter q=l.take i0)
 (hs : ∀(A:List α) (i j:Nat) (x:α),A.length=l.length→i<j→A[j]? = some x→f (A,(i:Int),(j:Int))=some (.inl (if q x then A.set i x else A,if q x then (i:Int)+1 else (i:Int),(j:Int)+1)))
 (he : ∀(A:List α) (i:Nat),A.length=l.length→f (A,(i:Int),(l.length:Int))=some (.inr (A,(i:Int)))) :
 ∃(A:List α) (i:Nat),iter f F (l,(i0:Int),(i0:Int)+1)=some (A,(i:Int))∧A.length=l.length∧i≤l.length∧A.take i=l.filter q:=by
 have inv:=CR q l i0 h0 hi
 obtain⟨e1,e2,e3,e4⟩:=inv (l.length-(i0+1)) (by omega)
 refine⟨_,_,rQ (fun k=>((dst q l i0 k).1,((dst q l i0 k).2:Int),((i0+1+k:Nat):Int))) (l.length-(i0+1)) (r:=((dst q l i0 (l.length-(i0+1))).1,((dst q l i0 (l.length-(i0+1))).2:Int))) rfl (by omega) (fun k hk=>?_) ?_,e1,by omega,?_⟩
 · obtain⟨h1,h2,h3,h4⟩:=inv k (by omega)
   have hlt:i0+1+k<l.length:=by omega
   have hx:(dst q l i0 k).1[i0+1+k]? = some l[i0+1+k]:=by
    have:=congrArg (fun m=>m[0]?) h4
    simp only [List.getElem?_drop,Nat.add_zero] at this
    rw [this,gge hlt]
   rw [hs _ _ _ _ h1 h2 hx]
   have hd:dst q l i0 (k+1)=if q l[i0+1+k] then ((dst q l i0 k).1.set (dst q l i0 k).2 l[i0+1+k],(dst q l i0 k).2+1) else dst q l i0 k:=by
    conv=>lhs;rw [dst,gge hlt]
   rw [hd]
   by_cases hq:q l[i0+1+k]=true
   · simp only [hq,if_true];rfl
   · simp only [hq,if_false];rfl
 · rw [show i0+1+(l.length-(i0+1))=l.length by omega]
   exact he _ _ e1
 · rw [e3,show i0+1+(l.length-(i0+1))=l.length by omega,List.take_length]
theorem AO {l:List α}{q:α→Bool}{i:Nat}(h:l.findIdx? (fun x=>!q x)=some i):i<l.length∧(l.take (i+1)).filter q=l.take i:=by
 rw [List.findIdx?_eq_some_iff_getElem] at h
 obtain⟨hi,h1,h2⟩:=h
 refine⟨hi,?_⟩
 rw [List.take_add_one,gge hi,List.filter_append]
 have hq:q l[i]=false:=by simpa using h1
 have:(l.take i).filter q=l.take i:=by
  rw [List.filter_eq_self]
  intro x hx
  obtain⟨j,hj,rfl⟩:=List.getElem_of_mem hx
  rw [List.length_take] at hj
  rw [List.getElem_take]
  simpa using h2 j (by omega)
 rw [this];simp [hq]
theorem DB (A m:List α)(i:Nat)(h:i≤A.length):(over A i m).take i=A.take i:=by
 unfold over
 rw [List.append_assoc,List.take_append_of_le_length (by rw [List.length_take];omega),List.take_take,Nat.min_self]
end
section
abbrev RemT:=(List Int) × (List DSpot) × (List Int) × (List (Int ⊕ DNode))
def EB (F:Nat)(l:List DElem)(p1:DSpot):Option (List DElem) :=
 (
  (
   (iter (σ:=Int) (ρ:=(Unit) ⊕ Int) (fun x3 =>
    bif decide (x3<(l.length:Int)) then
     (idx l x3).bind fun e1 =>
     (
      (jb e1).bind fun r8 =>
       some (r8 == p1):Option (Bool)).bind fun z6 =>
     bif z6 then
      some (.inr (.inr x3))
     else
      some (.inl (IntKind.i64.wrap (x3+1)))
     else
      some (.inr (.inl ()))) F 0).bind fun z=>match z with
    | .inl _ =>
     some (-1)
    | .inr q=>some q:Option (Int)).bind fun z5 =>
   bif (z5 == (-1)) then
    some l
   else
    (iter (σ:=(List DElem) × Int × Int) (ρ:=(List DElem) × Int) (fun x=>match x with
     | (x4,x5,x6) =>
      bif decide (x6<(x4.length:Int)) then
       (
        (idx x4 x6).bind fun e2 =>
         (
          (jb e2).bind fun r9 =>
           some (r9 == p1):Option (Bool)).bind fun z11 =>
         bif (!z11) then
          (idx x4 x5).bind fun e3 =>
          some ((x4.set x5.toNat e2),IntKind.i64.wrap (x5+1))
         else
          some (x4,x5):Option ((List DElem) × Int)).bind fun z=>match z with
        | (z9,z10) =>
         some (.inl (z9,z10,IntKind.i64.wrap (x6+1)))
       else
        some (.inr (x4,x5))) F (l,z5,IntKind.i64.wrap (z5+1))).bind fun z=>match z with
     | (z7,z8) =>
      (i9 z7 z8 (z7.length:Int)).bind fun s2 =>
      (i9 (over z7 z8.toNat (List.replicate s2.length ((DElem.mk (DKey.mk 0 0 0) 0 0 (ByteArray.mk #[])):DElem))) 0 z8).bind fun s3 =>
      some s3:Option ((List DElem)))
def Bx (n5 n6:DNode)(e10:DSpot):Option (List DSpot) :=
 (
  (lf 56 n5.elems n6.elems).bind fun _ =>
   (
    bif (n5.kind == 2) then
     (lf 32 n5.seps [e10]).bind fun y4 =>
     (lf 32 (n5.seps++[e10]) n6.seps).bind fun y5 =>
     some ((n5.seps++[e10])++n6.seps)
     else
      some n5.seps:Option ((List DSpot))).bind fun z23 =>
   (lf 8 n5.kids n6.kids).bind fun _ =>
   (lf 8 n5.tids n6.tids).bind fun _ =>
   some z23:Option ((List DSpot)))
def Eg (F:Nat)(n1:DNode)(r10 r11:Int)(z12:NL)(z21 e8 e9:Int)(n5 n6:DNode)(z22:List DSpot):Option RemT :=
 bif decide ((8:Int)<(IntKind.i64.wrap (((n5.elems++n6.elems).length:Int)+((n5.kids++n6.kids).length:Int)))) then
  (w9 n5.kind (n5.elems++n6.elems) (n5.kids++n6.kids) z22 (n5.tids++n6.tids)).bind fun z=>match z with
   | (z28,z29,z30,z31,z32,z33,z34,z35,z36,z37,z38,z39,z40) =>
    (kH (iZ z12 e8) e8).bind fun u2 =>
    (kH (jq (iZ z12 e8) e8 (DNode.mk n5.kind z32 z33 z34 z35)) e9).bind fun u3 =>
    (idx n1.seps z21).bind fun e15 =>
    (jm F (DNode.mk z40 z31 z30 z29 z28)).bind fun r25 =>
    (idx (n1.tids.set r10.toNat r11) (IntKind.i64.wrap (z21+1))).bind fun e16 =>
    some (n1.kids,(n1.seps.set z21.toNat (DSpot.mk (DKey.mk z36 z37 z38) z39)),((n1.tids.set r10.toNat r11).set ((IntKind.i64.wrap (z21+1)).toNat) r25),(jq (jq (iZ z12 e8) e8 (DNode.mk n5.kind z32 z33 z34 z35)) e9 (DNode.mk z40 z31 z30 z29 z28)))
  else
   (kH (iZ z12 e8) e8).bind fun u4 =>
   (kH (jq (iZ z12 e8) e8 (DNode.mk n5.kind (n5.elems++n6.elems) (n5.kids++n6.kids) z22 (n5.tids++n6.tids))) e9).bind fun u5 =>
   (rK n1.kids (IntKind.i64.wrap (z21+1)) (IntKind.i64.wrap (z21+2))).bind fun _ =>
   (rK n1.seps z21 (IntKind.i64.wrap (z21+1))).bind fun _ =>
   (rK (n1.tids.set r10.toNat r11) (IntKind.i64.wrap (z21+1)) (IntKind.i64.wrap (z21+2))).bind fun _ =>
   some ((jM n1.kids (IntKind.i64.wrap (z21+1)).toNat (IntKind.i64.wrap (z21+2)).toNat),(jM n1.seps z21.toNat (IntKind.i64.wrap (z21+1)).toNat),(jM (n1.tids.set r10.toNat r11) (IntKind.i64.wrap (z21+1)).toNat (IntKind.i64.wrap (z21+2)).toNat),(jq (jq (iZ z12 e8) e8 (DNode.mk n5.kind (n5.elems++n6.elems) (n5.kids++n6.kids) z22 (n5.tids++n6.tids))) e9 (DNode.mk 0 [] [] [] [])))
def zy (F:Nat)(n1:DNode)(r10 r11:Int)(z12:NL):Option RemT :=
 (
  (
   bif (r10 == (IntKind.i64.wrap ((n1.kids.length:Int)-1))) then
    some (IntKind.i64.wrap (r10-1))
    else
     some r10:Option (Int)).bind fun z21 =>
   (idx n1.kids z21).bind fun e8 =>
   (idx n1.kids (IntKind.i64.wrap (z21+1))).bind fun e9 =>
   (j6 z12 e8).bind fun n5 =>
   (j6 (iZ z12 e8) e9).bind fun n6 =>
   (idx n1.seps z21).bind fun e10 =>
   (Bx n5 n6 e10).bind fun z22 =>
   (Eg F n1 r10 r11 z12 z21 e8 e9 n5 n6 z22).bind fun z=>match z with
    | (z24,z25,z26,z27) =>
     (j6 z27 e8).bind fun n13 =>
     (jm F n13).bind fun r30 =>
     (idx z26 z21).bind fun e19 =>
     some (z24,z25,(z26.set z21.toNat r30),z27):Option RemT)
def EU (F:Nat)(n1 n4:DNode)(r10 r11:Int)(z12:NL):Option RemT :=
 bif decide ((IntKind.i64.wrap ((n4.elems.length:Int)+(n4.kids.length:Int)))<4) then
  (zy F n1 r10 r11 z12).bind fun z=>match z with
   | (z17,z18,z19,z20) =>
    some (z17,z18,z19,z20)
  else
   some (n1.kids,n1.seps,(n1.tids.set r10.toNat r11),z12)
def zn (F:Nat)(p1:DSpot)(rf1:NL × Int→Option NL)(x:NL × Int):Option NL :=
 match x with
  | (x1,x2) =>
   (j6 x1 x2).bind fun n1 =>
    bif (n1.kind == 1) then
     (EB F n1.elems p1).bind fun z4 =>
     (kH (iZ x1 x2) x2).bind fun u1 =>
     some (jq (iZ x1 x2) x2 (DNode.mk n1.kind z4 n1.kids n1.seps n1.tids))
    else
     (lE F n1 p1).bind fun r10 =>
     (idx n1.kids r10).bind fun e5 =>
     (rf1 ((iZ x1 x2),e5)).bind fun z12 =>
     (idx n1.kids r10).bind fun e6 =>
     (j6 z12 e6).bind fun n4 =>
     (jm F n4).bind fun r11 =>
     (idx n1.tids r10).bind fun e7 =>
     (EU F n1 n4 r10 r11 z12).bind fun z=>match z with
      | (z13,z14,z15,z16) =>
       (kH z16 x2).bind fun u6 =>
       some (jq z16 x2 (DNode.mk n1.kind n1.elems z13 z14 z15))
def AX (F:Nat)(p1:DSpot)(N:NL)(root:Int):Option (NL × Int) :=
 (nS (σ:=(List (Int ⊕ DNode)) × Int) (ρ:=(List (Int ⊕ DNode))) (zn F p1) F (N,root)).bind fun q2 =>
  (
   (j6 q2 root).bind fun n15 =>
    bif ((n15.kids.length:Int) == 1) then
     (kH (iZ q2 root) root).bind fun u7 =>
     (idx n15.kids 0).bind fun e22 =>
     some (e22,(jq (iZ q2 root) root (DNode.mk 0 [] [] [] [])))
    else
     some (root,(jq (iZ q2 root) root n15)):Option (Int × (List (Int ⊕ DNode)))).bind fun z=>match z with
   | (z41,z42) =>
    some (z42,z41)
variable {F:Nat} [Big F]
def vM (sp:DSpot)(e:DElem):Bool:=!(tY e == sp)
theorem EC (l:List DElem)(sp:DSpot)(hl:l.length≤1000):EB F l sp=some (l.filter (vM sp)):=by
 unfold EB
 rw [Cq l (fun x=>tY x == sp) (by omega) (fun n x hx=>?_) (by simp)]
 · rw [obs]
   have hq:(fun x:DElem=>tY x == sp)=fun x=>!(vM sp x):=by funext x;simp [vM]
   cases hf:l.findIdx? (fun x=>tY x == sp) with
   | none =>
    dsimp only
    rw [obs,show ((-1:Int) == -1)=true from rfl,cond_true,List.filter_eq_self.2 fun x hx=>?_]
    rw [List.findIdx?_eq_none_iff] at hf
    simpa [vM] using hf x hx
   | some n =>
    dsimp only
    rw [obs,show ((n:Int) == -1)=false by rw [beq_eq_false_iff_ne];omega,cond_false]
    rw [hq] at hf
    obtain⟨hn,h0⟩:=AO hf
    rw [w64 (n:=(n:Int)+1) (by omega) (by omega)]
    obtain⟨A,m,e1,e2,e3,e4⟩:=Dk (F:=F) (f:=fun x=>match x with
     | (x4,x5,x6) =>
      bif decide (x6<(x4.length:Int)) then
       (
        (idx x4 x6).bind fun e2 =>
         (
          (jb e2).bind fun r9 =>
           some (r9 == sp):Option (Bool)).bind fun z11 =>
         bif (!z11) then
          (idx x4 x5).bind fun e3 =>
          some ((x4.set x5.toNat e2),IntKind.i64.wrap (x5+1))
         else
          some (x4,x5):Option ((List DElem) × Int)).bind fun z=>match z with
        | (z9,z10) =>
         some (.inl (z9,z10,IntKind.i64.wrap (x6+1)))
       else
        some (.inr (x4,x5))) l (vM sp) n hn (by omega) h0 (fun A i j x hA hij hx=>by
     have hjl:=(ggs.1 hx).1
     dsimp only
     rw [decide_eq_true (by omega),cond_true,tz,tz,hx,obs,ud,obs,obs,gge (show i<A.length by omega),obs,w64 (by omega) (by omega),w64 (by omega) (by omega),Int.toNat_natCast]
     unfold vM
     cases tY x == sp <;> rfl) (fun A i hA=>by
     dsimp only
     rw [decide_eq_false (by omega)];rfl)
    refine Eq.trans (congrArg (fun z=>Option.bind z _) e1) ?_
    rw [obs]
    dsimp only
    rw [pD (by omega) (by omega) (by omega),obs,Int.toNat_natCast,tm (by rw [j5 _ _ _ (by simp;omega)];omega),obs,DB _ _ _ (by omega),e4]
 · have hnl:=(ggs.1 hx).1
   rw [decide_eq_true (by omega),cond_true,tz,hx,obs,ud,obs,obs,w64 (by omega) (by omega)]
   cases tY x == sp <;> rfl
theorem Bt {l:List DElem}(hl:5≤l.length)(hl' : l.length≤100)(ks:List Int)(xs:List DSpot)(ts:List Int):∃ x,l[4]? = some x∧w9 1 l ks xs ts=some ([],[],[],l.drop 4,l.take 4,ks,xs,ts,(tY x).key.pfs,(tY x).key.obj,(tY x).key.off,(tY x).made,1):=by
 have hg:l[4]? = some l[4]:=gge (by omega)
 refine⟨_,hg,?_⟩
 unfold w9
 have h1:i9 l 4 (l.length:Int)=some (l.drop 4):=sO (k:=4) (by omega)
 have h2:i9 l 0 4=some (l.take 4):=tm (k:=4) (by omega)
 have h3:idx (l.drop 4) 0=some l[4]:=by rw [show (0:Int)=((0:Nat):Int) from rfl,tz,List.getElem?_drop];exact hg
 rw [show ((1:Int) == 1)=true from rfl,cond_true,h1,obs,tJ (by simp;omega) (by simp;omega),obs,h2,obs,h3,obs,ud,obs]
theorem AP {ks:List Int}{xs:List DSpot}{ts:List Int}(hk:5≤ks.length)(hk' : ks.length≤100)(hx:xs.length+1=ks.length)(ht:ts.length=ks.length)(l:List DElem):∃ x,xs[3]? = some x∧w9 2 l ks xs ts=some (ts.drop 4,xs.drop 4,ks.drop 4,[],l,ks.take 4,xs.take 3,ts.take 4,x.key.pfs,x.key.obj,x.key.off,x.made,2):=by
 have hg:xs[3]? = some xs[3]:=gge (by omega)
 refine⟨_,hg,?_⟩
 unfold w9
 have h1:i9 ks 4 (ks.length:Int)=some (ks.drop 4):=sO (k:=4) (by omega)
 have h2:i9 xs 4 (xs.length:Int)=some (xs.drop 4):=sO (k:=4) (by omega)
 have h3:i9 ts 4 (ts.length:Int)=some (ts.drop 4):=sO (k:=4) (by omega)
 have h4:i9 ks 0 4=some (ks.take 4):=tm (k:=4) (by omega)
 have h5:i9 xs 0 3=some (xs.take 3):=tm (k:=3) (by omega)
 have h6:i9 ts 0 4=some (ts.take 4):=tm (k:=4) (by omega)
 have h7:idx xs 3=some xs[3]:=by rw [show (3:Int)=((3:Nat):Int) from rfl,tz];exact hg
 rw [show ((2:Int) == 1)=false from rfl,cond_false,h1,obs,h2,obs,h3,obs,tJ (by simp;omega) (by simp;omega),obs,tJ (by simp;omega) (by simp;omega),obs,tJ (by simp;omega) (by simp;omega),obs,h7,obs,h4,obs,h5,obs,h6,obs]
def put2 (N:NL)(k1 k2:Int)(a b:DNode):NL:=jq (jq (iZ N k1) k1 a) k2 b
omit [Big F] in
theorem uN (N:NL)(k1 k2:Int)(a b:DNode):(put2 N k1 k2 a b).length=N.length:=by unfold put2;rw [t8,t8,tZ]
theorem xx (N:NL){k1 k2:Int}(a b:DNode){j:Nat}(h1:j≠k1.toNat)(h2:j≠k2.toNat):(put2 N k1 k2 a b)[j]? = N[j]?:=by unfold put2;rw [uj _ h2,uj _ h1,uu _ h1]
theorem yB {N:NL}{k1 k2:Int}(a b:DNode)(hne:k1.toNat≠k2.toNat)(h:k1.toNat<N.length):(put2 N k1 k2 a b)[k1.toNat]? = some (.inr a):=by unfold put2;rw [uj _ hne,uE _ (by rw [tZ];exact h)]
theorem xy {N:NL}{k1 k2:Int}(a b:DNode)(h:k2.toNat<N.length):(put2 N k1 k2 a b)[k2.toNat]? = some (.inr b):=by unfold put2;rw [uE _ (by rw [t8,tZ];exact h)]
theorem va.put2 {N:NL}(h:va N){k1 k2:Int}{a b:DNode}(ha:uv a=0)(hb:uv b=0):va (put2 N k1 k2 a b):=((h.out k1).put ha).put hb
theorem CL:uv zN=0:=by decide
theorem Ct {N:NL}{k1 k2:Int}(hne:k2.toNat≠k1.toNat):j6 (iZ N k1) k2=j6 N k2:=by unfold j6;rw [uu N hne]
structure PairPost (N2 N3:NL) (h:Nat) (k1 k2:Int) (s:Span) (K:List Int) (X:List DSpot):Prop where
 len:N3.length=N2.length
 out : ∀ j:Nat,j≠k1.toNat→j≠k2.toNat→N3[j]? = N2[j]?
 chk:va N3
 ch:Ch (yj (fN N3) h) X s K (K.map fun k=>uh (nd (fN N3) k))
 ok : ∀ x∈X,ui (zE x)=0
 perm : ∃ Z,(ids (fN N2) h k1++ids (fN N2) h k2).Perm (Z++K.flatMap (ids (fN N3) h))∧∀ j∈Z,N3[j]? = some (.inr zN)
 elems:K.flatMap (tX (fN N3) h)=tX (fN N2) h k1++tX (fN N2) h k2
def AG (N2:NL)(h:Nat)(k1 k2:Int)(s:Span)(n5 n6:DNode)(x:DSpot):Prop :=
 ∃ z22,Bx n5 n6 x=some z22 ∧
  ((((n5.elems++n6.elems).length:Int)+((n5.kids++n6.kids).length:Int)≤8∧PairPost N2 (put2 N2 k1 k2 ⟨n5.kind,n5.elems++n6.elems,n5.kids++n6.kids,z22,n5.tids++n6.tids⟩ zN) h k1 k2 s [k1] []) ∨
   (8<((n5.elems++n6.elems).length:Int)+((n5.kids++n6.kids).length:Int)∧∃(y:DSpot) (r1:List Int) (r2:List DSpot) (r3:List Int) (r4 l1:List DElem) (l2:List Int) (l3:List DSpot) (l4:List Int) (kd:Int),
    w9 n5.kind (n5.elems++n6.elems) (n5.kids++n6.kids) z22 (n5.tids++n6.tids)=some (r1,r2,r3,r4,l1,l2,l3,l4,y.key.pfs,y.key.obj,y.key.off,y.made,kd) ∧
    PairPost N2 (put2 N2 k1 k2 ⟨n5.kind,l1,l2,l3,l4⟩ ⟨kd,r4,r3,r2,r1⟩) h k1 k2 s [k1,k2] [y]))
omit [Big F] in
theorem Bz {n5 n6:DNode}(x:DSpot)(h5:uv n5=0)(h6:uv n6=0):Bx n5 n6 x=some (bif n5.kind == 2 then n5.seps++x::n6.seps else n5.seps):=by
 obtain⟨a1,a2⟩:=vh h5
 obtain⟨b1,b2⟩:=vh h6
 have sm : ∀ {n:DNode},uv n=0→n.seps.length≤8∧n.tids.length≤8:=fun {n} h=>by
  have:=vh h
  rcases uy.1 h with h | h | h
  · rw [h.2.2.2.1,h.2.2.2.2];simp
  · rw [h.2.seps,h.2.tids];simp
  · have:=h.2.seps;have:=h.2.tids;omega
 obtain⟨a3,a4⟩:=sm h5
 obtain⟨b3,b4⟩:=sm h6
 unfold Bx
 rw [tJ (by omega) (by omega),obs,tJ (l:=n5.kids) (by omega) (by omega),tJ (l:=n5.tids) (by omega) (by omega)]
 cases n5.kind == 2 with
 | true =>
  rw [cond_true,cond_true,tJ (by simp;omega) (by simp;omega),obs,tJ (by simp;omega) (by simp;omega),obs,obs,obs,obs,List.append_assoc];rfl
 | false=>rw [cond_false,cond_false,obs,obs,obs]
omit [Big F] in
theorem Ds {N2:NL}(hc:va N2){k1 k2:Int}{s:Span}{x:DSpot}(hx:inS s x=true)(hne:k1.toNat≠k2.toNat)(c1:uk (fN N2) 0 k1 3 (hiS s x))(c2:uk (fN N2) 0 k2 3 (loS s x))(hfew:(nd (fN N2) k1).elems.length+(nd (fN N2) k2).elems.length≤12) :
 AG N2 0 k1 k2 s (nd (fN N2) k1) (nd (fN N2) k2) x:=by
 have L1:=c1.leaf hc
 have L2:=c2.leaf hc
 have r1:=c1.range
 have r2:=c2.range
 have g1:=wF hc r1
 have g2:=wF hc r2
 rw [uf] at r1 r2
 have hz:=Bz x g1 g2
 obtain⟨_,hk1,hm1,hin1⟩:=c1
 obtain⟨_,hk2,hm2,hin2⟩:=c2
 have e1:tX (fN N2) 0 k1=(nd (fN N2) k1).elems:=rfl
 have e2:tX (fN N2) 0 k2=(nd (fN N2) k2).elems:=rfl
 generalize nd (fN N2) k1=n5 at *
 generalize nd (fN N2) k2=n6 at *
 rw [hk1,show ((1:Int) == 2)=false from rfl,cond_false,L1.seps] at hz
 have h8:=L1.len
 have h8':=L2.len
 obtain⟨l,hl⟩ : ∃ l,l=n5.elems++n6.elems:=⟨_,rfl⟩
 have so:l.Pairwise SpO:=by
  rw [hl]
  refine List.pairwise_append.2 ⟨L1.ord,L2.ord,fun a ha b hb=>?_⟩
  have q1:=(vl.1 (hin1 a ha)).2
  have q2:=(wn.1 (hin2 b hb)).1
  exact vA q1 q2
 have hin : ∀ y∈l,inS s (tY y)=true:=fun y hy=>by
  rw [hl] at hy
  rcases List.mem_append.1 hy with hy | hy
  · exact vB hx (hin1 y hy)
  · exact vT hx (hin2 y hy)
 have hok : ∀ y∈l,ui y=0:=fun y hy=>by
  rw [hl] at hy
  rcases List.mem_append.1 hy with hy | hy
  · exact L1.ok y hy
  · exact L2.ok y hy
 have hlen:l.length=n5.elems.length+n6.elems.length:=by rw [hl,List.length_append]
 refine⟨_,hz,?_⟩
 rw [L1.kids,L2.kids,L1.tids,L2.tids,← hl,hk1]
 by_cases ht:l.length≤8
 · refine .inl ⟨by simp;omega,?_⟩
   have hck:=wd (n:=⟨1,l,[],[],[]⟩) rfl ⟨rfl,rfl,rfl,ht,hok,so⟩
   have hnd:=xc (yB (N:=N2) (k1:=k1) (k2:=k2) ⟨1,l,[],[],[]⟩ zN hne (by omega))
   refine⟨uN _ _ _ _ _,fun j h1 h2=>xx N2 _ _ h1 h2,hc.put2 hck CL,⟨k1,_,rfl,rfl,⟨?_,by rw [List.append_nil,hnd],by rw [List.append_nil,hnd];show 4≤l.length;omega,by rw [List.append_nil,hnd];exact hin⟩,rfl⟩,by simp,⟨[k2.toNat],?_,fun j hj=>?_⟩,?_⟩
   · rw [uf,uN];exact r1
   · simp only [ids,List.flatMap_singleton,List.singleton_append]
     exact List.Perm.swap _ _ _
   · rw [List.mem_singleton.1 hj,List.append_nil];exact xy _ _ (by omega)
   · rw [List.flatMap_singleton,e1,e2,← hl]
     show (nd _ _).elems=_
     rw [List.append_nil,hnd]
 · refine .inr ⟨by have : 8 < l.length := by omega
                   simp;omega,?_⟩
   obtain⟨y,hy,hh⟩:=Bt (l:=l) (by omega) (by omega) ([]++[]) [] ([]++[])
   refine⟨tY y,_,_,_,_,_,_,_,_,_,hh,?_⟩
   have e48:l=l.take 4++l.drop 4:=(List.take_append_drop 4 l).symm
   have hso:=so
   rw [e48] at hso
   obtain⟨o1,o2,o3⟩:=List.pairwise_append.1 hso
   have hl1:(l.take 4).length=4:=by rw [List.length_take];omega
   have hl2:(l.drop 4).length=l.length-4:=by rw [List.length_drop]
   have hxd : ∃ r,l.drop 4=y::r:=by
    have h4:4<l.length:=by omega
    rw [gge h4] at hy
    obtain rfl:=Option.some.inj hy
    exact⟨_,List.drop_eq_getElem_cons h4⟩
   obtain⟨rr,hrr⟩:=hxd
   have hyl:y∈l:=List.mem_of_mem_drop (by rw [hrr];exact List.mem_cons_self)
   have hck1:=wd (n:=⟨1,l.take 4,[],[],[]⟩) rfl ⟨rfl,rfl,rfl,by show (l.take 4).length≤8;omega,fun y hy=>hok y (List.mem_of_mem_take hy),o1⟩
   have hck2:=wd (n:=⟨1,l.drop 4,[],[],[]⟩) rfl ⟨rfl,rfl,rfl,by show (l.drop 4).length≤8;omega,fun y hy=>hok y (List.mem_of_mem_drop hy),o2⟩
   have hnd1:=xc (yB (N:=N2) (k1:=k1) (k2:=k2) ⟨1,l.take 4,[],[],[]⟩ ⟨1,l.drop 4,[],[],[]⟩ hne (by omega))
   have hnd2:=xc (xy (N:=N2) (k1:=k1) (k2:=k2) ⟨1,l.take 4,[],[],[]⟩ ⟨1,l.drop 4,[],[],[]⟩ (by omega))
   rw [List.append_nil]
   refine⟨uN _ _ _ _ _,fun j h1 h2=>xx N2 _ _ h1 h2,hc.put2 hck1 hck2,⟨k1,[k2],_,_,rfl,rfl,hin y hyl,⟨⟨?_,by rw [hnd1],by rw [hnd1];show 4≤(l.take 4).length;omega,?_⟩,rfl⟩,k2,_,rfl,rfl,⟨?_,by rw [hnd2],by rw [hnd2];show 4≤(l.drop 4).length;omega,?_⟩,rfl⟩,?_,⟨[],?_,by simp⟩,?_⟩
   · rw [uf,uN];exact r1
   · rw [hnd1]
     intro z hz
     exact vl.2 ⟨(uB.1 (hin z (List.mem_of_mem_take hz))).1,o3 z hz y (by rw [hrr];exact List.mem_cons_self)⟩
   · rw [uf,uN];exact r2
   · rw [hnd2]
     intro z hz
     refine wn.2 ⟨?_,(uB.1 (hin z (List.mem_of_mem_drop hz))).2⟩
     have hz' : z∈y::rr:=by rw [← hrr];exact hz
     rw [hrr] at o2
     rcases List.mem_cons.1 hz' with rfl | hz'
     · rw [ue.refl];decide
     · have:cmpS (tY y) (tY z)<0:=(List.pairwise_cons.1 o2).1 z hz'
       omega
   · intro z hz
     rw [List.mem_singleton.1 hz];exact Be (hok y hyl)
   · simp [ids]
   · rw [List.flatMap_cons,List.flatMap_singleton,e1,e2,← hl]
     show (nd _ _).elems++(nd _ _).elems=_
     rw [hnd1,hnd2];exact e48.symm
omit [Big F] in
theorem BS {N:NL}(hc:va N){h:Nat}{X:List DSpot}{s:Span}{Ks Ts:List Int}{x:DSpot}(hx:inS s x=true)(c:Ch (yj (fN N) h) X (loS s x) Ks Ts)(ho:X.Pairwise SpotO):∀ y∈X,SpotO x y:=by
 cases X with
 | nil=>intro y hy;cases hy
 | cons z X =>
  obtain⟨k,ks,t,ts,e1,e2,i1,i2,c'⟩:=c
  obtain⟨e,he⟩:=i2.1.some_elem hc
  have hs:=vl.1 ((i2.1.elems hc).2 e he).1
  have hz:cmpS x z<0:=xR (hs.1 rfl) hs.2
  intro y hy
  rcases List.mem_cons.1 hy with rfl | hy
  · exact hz
  · exact ue.lt_trans hz ((List.pairwise_cons.1 ho).1 y hy)
omit [Big F] in
theorem CB {N2:NL}(hc:va N2)(hl:N2.length≤400){h:Nat}{k1 k2:Int}{s:Span}{x:DSpot}(hx:inS s x=true)(hxo:ui (zE x)=0)(c1:uk (fN N2) (h+1) k1 3 (hiS s x))(c2:uk (fN N2) (h+1) k2 3 (loS s x))(hn:(ids (fN N2) (h+1) k1++ids (fN N2) (h+1) k2).Nodup)
 (hfew:((nd (fN N2) k1).kids.length+(nd (fN N2) k2).kids.length)≤12) :
 AG N2 (h+1) k1 k2 s (nd (fN N2) k1) (nd (fN N2) k2) x:=by
 have L1:=c1.inner hc
 have L2:=c2.inner hc
 have r1:=c1.range
 have r2:=c2.range
 have hz:=Bz x (wF hc r1) (wF hc r2)
 rw [uf] at r1 r2
 obtain⟨_,hk1,hm1,ch1⟩:=c1
 obtain⟨_,hk2,hm2,ch2⟩:=c2
 have i1:ids (fN N2) (h+1) k1=k1.toNat::(nd (fN N2) k1).kids.flatMap (ids (fN N2) h):=rfl
 have i2:ids (fN N2) (h+1) k2=k2.toNat::(nd (fN N2) k2).kids.flatMap (ids (fN N2) h):=rfl
 have e1:tX (fN N2) (h+1) k1=(nd (fN N2) k1).kids.flatMap (tX (fN N2) h):=rfl
 have e2:tX (fN N2) (h+1) k2=(nd (fN N2) k2).kids.flatMap (tX (fN N2) h):=rfl
 generalize nd (fN N2) k1=n5 at *
 generalize nd (fN N2) k2=n6 at *
 rw [hk1,show ((2:Int) == 2)=true from rfl,cond_true] at hz
 have cc:=Ch.join hx ch1 ch2
 have hlens:=cc.lens
 have hord:(n5.seps++x::n6.seps).Pairwise SpotO:=by
  have q2:=BS hc hx ch2 L2.ord
  refine List.pairwise_append.2 ⟨L1.ord,List.pairwise_cons.2 ⟨q2,L2.ord⟩,fun a ha b hb=>?_⟩
  have q1:cmpS a x<0:=(vl.1 (ch1.seps a ha)).2
  rcases List.mem_cons.1 hb with rfl | hb
  · exact q1
  · exact ue.lt_trans q1 (q2 b hb)
 have hxs : ∀ y∈n5.seps++x::n6.seps,ui (zE y)=0:=fun y hy=>by
  rcases List.mem_append.1 hy with hy | hy
  · exact L1.ok y hy
  · rcases List.mem_cons.1 hy with rfl | hy
    · exact hxo
    · exact L2.ok y hy
 have hin : ∀ y∈n5.seps++x::n6.seps,inS s y=true:=cc.seps
 have hK:(n5.kids++n6.kids).length=n5.kids.length+n6.kids.length:=List.length_append
 have t1:=L1.two
 have t2:=L2.two
 have hfl:(n5.kids++n6.kids).flatMap (ids (fN N2) h)=n5.kids.flatMap (ids (fN N2) h)++n6.kids.flatMap (ids (fN N2) h):=List.flatMap_append
 have hfe:(n5.kids++n6.kids).flatMap (tX (fN N2) h)=n5.kids.flatMap (tX (fN N2) h)++n6.kids.flatMap (tX (fN N2) h):=List.flatMap_append
 rw [i1,i2] at hn
 have hn' : (k1.toNat::k2.toNat::(n5.kids++n6.kids).flatMap (ids (fN N2) h)).Nodup:=by
  refine(List.Perm.nodup_iff ?_).1 hn
  rw [hfl,List.cons_append]
  exact List.Perm.cons _ List.perm_middle
 obtain⟨n1,n2⟩:=List.nodup_cons.1 hn'
 obtain⟨n3,n4⟩:=List.nodup_cons.1 n2
 have hne:k1.toNat≠k2.toNat:=fun e=>n1 (by rw [e];exact List.mem_cons_self)
 refine⟨_,hz,?_⟩
 rw [L1.elems,L2.elems,hk1]
 generalize hKs:n5.kids++n6.kids=Ks at *
 generalize hXs:n5.seps++x::n6.seps=Xs at *
 generalize hTs:n5.tids++n6.tids=Ts at *
 have agree : ∀(a b:DNode),∀ q∈Ks.flatMap (ids (fN N2) h),(put2 N2 k1 k2 a b)[q]? = N2[q]?:=fun a b q hq=>xx N2 a b (fun e=>n1 (by rw [← e];exact List.mem_cons_of_mem _ hq)) (fun e=>n3 (by rw [← e];exact hq))
 have hperm:(k1.toNat::n5.kids.flatMap (ids (fN N2) h)++k2.toNat::n6.kids.flatMap (ids (fN N2) h)).Perm (k2.toNat::k1.toNat::Ks.flatMap (ids (fN N2) h)):=by
  rw [hfl,List.cons_append]
  exact(List.Perm.cons _ List.perm_middle).trans (List.Perm.swap _ _ _)
 by_cases ht:Ks.length≤8
 · refine .inl ⟨by simp;omega,?_⟩
   have hck:=uH (n:=⟨2,[],Ks,Xs,Ts⟩) rfl (vG hc hl cc (by omega) ht hord hxs)
   have hnd:=xc (yB (N:=N2) (k1:=k1) (k2:=k2) ⟨2,[],Ks,Xs,Ts⟩ zN hne (by omega))
   obtain⟨a1,a2,a3⟩:=vc (N':=put2 N2 k1 k2 ⟨2,[],Ks,Xs,Ts⟩ zN) (by rw [uN];exact Nat.le_refl _) cc fun j hj=>agree _ _ j hj
   rw [List.append_nil]
   refine⟨uN _ _ _ _ _,fun j h1 h2=>xx N2 _ _ h1 h2,hc.put2 hck CL,⟨k1,_,rfl,rfl,⟨?_,by rw [hnd],by rw [hnd];show 4≤Ks.length;omega,by rw [hnd];exact a1⟩,rfl⟩,by simp,⟨[k2.toNat],?_,fun j hj=>?_⟩,?_⟩
   · rw [uf,uN];exact r1
   · rw [List.flatMap_singleton,i1,i2,ids,hnd]
     show List.Perm _ (k2.toNat::k1.toNat::Ks.flatMap _)
     rw [a2]
     exact hperm
   · rw [List.mem_singleton.1 hj];exact xy _ _ (by omega)
   · rw [List.flatMap_singleton,e1,e2,tX,hnd,← hfe]
     exact a3
 · refine .inr ⟨by simp;omega,?_⟩
   obtain⟨y,hy,hh⟩:=AP (ks:=Ks) (xs:=Xs) (ts:=Ts) (by omega) (by omega) hlens.1 hlens.2 []
   rw [List.append_nil]
   refine⟨y,_,_,_,_,_,_,_,_,_,hh,?_⟩
   have h3:3<Xs.length:=by omega
   have hspx:Xs[3]=y:=by rw [gge h3] at hy;exact Option.some.inj hy
   have eX:Xs=Xs.take 3++y::Xs.drop 4:=by rw [← hspx];exact wT Xs h3
   have eK:Ks=Ks.take 4++Ks.drop 4:=(List.take_append_drop 4 Ks).symm
   have eT:Ts=Ts.take 4++Ts.drop 4:=(List.take_append_drop 4 Ts).symm
   have l1:(Ks.take 4).length=4:=by rw [List.length_take];omega
   have l2:(Xs.take 3).length=3:=by rw [List.length_take];omega
   have l3:(Ts.take 4).length=4:=by rw [List.length_take];omega
   have l4:(Ks.drop 4).length=Ks.length-4:=by rw [List.length_drop]
   have c':=cc
   rw [eX,eK,eT] at c'
   have ho':=hord
   rw [eX] at ho'
   obtain⟨s1,s2,s3⟩:=Ch.split (by omega) (by omega) ho' c'
   obtain⟨o1,o2,o3⟩:=List.pairwise_append.1 ho'
   have hck1:=uH (n:=⟨2,[],Ks.take 4,Xs.take 3,Ts.take 4⟩) rfl (vG hc hl s2 (by omega) (by omega) o1 fun x h=>hxs x (List.mem_of_mem_take h))
   have hck2:=uH (n:=⟨2,[],Ks.drop 4,Xs.drop 4,Ts.drop 4⟩) rfl (vG hc hl s3 (by omega) (by omega) (List.pairwise_cons.1 o2).2 fun x h=>hxs x (List.mem_of_mem_drop h))
   have hnd1:=xc (yB (N:=N2) (k1:=k1) (k2:=k2) ⟨2,[],Ks.take 4,Xs.take 3,Ts.take 4⟩ ⟨2,[],Ks.drop 4,Xs.drop 4,Ts.drop 4⟩ hne (by omega))
   have hnd2:=xc (xy (N:=N2) (k1:=k1) (k2:=k2) ⟨2,[],Ks.take 4,Xs.take 3,Ts.take 4⟩ ⟨2,[],Ks.drop 4,Xs.drop 4,Ts.drop 4⟩ (by omega))
   have ag:=agree ⟨2,[],Ks.take 4,Xs.take 3,Ts.take 4⟩ ⟨2,[],Ks.drop 4,Xs.drop 4,Ts.drop 4⟩
   have hlen:=uN N2 k1 k2 ⟨2,[],Ks.take 4,Xs.take 3,Ts.take 4⟩ ⟨2,[],Ks.drop 4,Xs.drop 4,Ts.drop 4⟩
   have hckL:va (put2 N2 k1 k2 ⟨2,[],Ks.take 4,Xs.take 3,Ts.take 4⟩ ⟨2,[],Ks.drop 4,Xs.drop 4,Ts.drop 4⟩):=hc.put2 hck1 hck2
   have hget : ∀ j:Nat,j≠k1.toNat→j≠k2.toNat→(put2 N2 k1 k2 ⟨2,[],Ks.take 4,Xs.take 3,Ts.take 4⟩ ⟨2,[],Ks.drop 4,Xs.drop 4,Ts.drop 4⟩)[j]? = N2[j]?:=fun j h1 h2=>xx N2 _ _ h1 h2
   generalize put2 N2 k1 k2 ⟨2,[],Ks.take 4,Xs.take 3,Ts.take 4⟩ ⟨2,[],Ks.drop 4,Xs.drop 4,Ts.drop 4⟩=N3 at *
   have sub1 : ∀ q∈(Ks.take 4).flatMap (ids (fN N2) h),q∈Ks.flatMap (ids (fN N2) h):=fun q hq=>by
    rw [eK,List.flatMap_append];exact List.mem_append_left _ hq
   have sub2 : ∀ q∈(Ks.drop 4).flatMap (ids (fN N2) h),q∈Ks.flatMap (ids (fN N2) h):=fun q hq=>by
    rw [eK,List.flatMap_append];exact List.mem_append_right _ hq
   obtain⟨a1,a2,a3⟩:=vc (by omega) s2 fun q hq=>ag q (sub1 q hq)
   obtain⟨b1,b2,b3⟩:=vc (by omega) s3 fun q hq=>ag q (sub2 q hq)
   refine⟨hlen,hget,hckL,⟨k1,[k2],_,_,rfl,rfl,s1,⟨⟨?_,by rw [hnd1],by rw [hnd1];show 4≤(Ks.take 4).length;omega,by rw [hnd1];exact a1⟩,rfl⟩,k2,_,rfl,rfl,⟨?_,by rw [hnd2],by rw [hnd2];show 4≤(Ks.drop 4).length;omega,by rw [hnd2];exact b1⟩,rfl⟩,?_,⟨[],?_,by simp⟩,?_⟩
   · rw [uf,hlen];exact r1
   · rw [uf,hlen];exact r2
   · intro z hz
     rw [List.mem_singleton.1 hz];exact hxs y (by rw [eX];simp)
   · rw [List.flatMap_cons,List.flatMap_singleton,i1,i2,ids,ids,hnd1,hnd2,List.nil_append]
     show List.Perm _ (k1.toNat::(Ks.take 4).flatMap _++k2.toNat::(Ks.drop 4).flatMap _)
     rw [a2,b2]
     refine hperm.trans ((List.Perm.swap _ _ _).trans ?_)
     rw [List.cons_append]
     refine List.Perm.cons _ ?_
     conv=>lhs;rw [eK,List.flatMap_append]
     exact List.perm_middle.symm
   · rw [List.flatMap_cons,List.flatMap_singleton,e1,e2,tX,tX,hnd1,hnd2,← hfe]
     show (Ks.take 4).flatMap _++(Ks.drop 4).flatMap _=_
     rw [a3,b3,← List.flatMap_append,← eK]
def Da (ns:List DNode)(h:Nat)(k:Int):Int→Int→Span→Prop:=fun a t s=>uk ns h a 3 s∧(a≠k→yj ns h a t s)
structure EvenPost (N2 N3:NL) (h:Nat) (s:Span) (n:DNode) (K:List Int) (X:List DSpot) (T:List Int):Prop where
 len:N3.length=N2.length
 out : ∀ j:Nat,j ∉ n.kids.flatMap (ids (fN N2) h)→N3[j]? = N2[j]?
 chk:va N3
 ch:Ch (yj (fN N3) h) X s K T
 more:n.kids.length≤K.length+1
 few:K.length≤n.kids.length
 ord:X.Pairwise SpotO
 ok : ∀ x∈X,ui (zE x)=0
 perm : ∃ Z,(n.kids.flatMap (ids (fN N2) h)).Perm (Z++K.flatMap (ids (fN N3) h))∧∀ j∈Z,N3[j]? = some (.inr zN)
 elems:K.flatMap (tX (fN N3) h)=n.kids.flatMap (tX (fN N2) h)
omit [Big F] in
theorem BD {α:Type}(l:List α){z:Nat}(h:z+1<l.length):∃ a b,l[z]? = some a∧l[z+1]? = some b∧l=l.take z++a::b::l.drop (z+2):=by
 refine⟨l[z],l[z+1],gge _,gge _,?_⟩
 have:=wT l (w:=z) (by omega)
 rw [List.drop_eq_getElem_cons h] at this
 exact this
omit [Big F] in
theorem DX {N2 N3:NL}{h:Nat}{n:DNode}{s s' : Span}{k k1 k2:Int}{A B:List Int}{XA XB:List DSpot}{TA TB K:List Int}{X:List DSpot}{x:DSpot}
 (hkids:n.kids=A++k1::k2::B) (hseps:n.seps=XA++x::XB) (hk:k=k1∨k=k2) (hnd:(n.kids.flatMap (ids (fN N2) h)).Nodup) (ho:n.seps.Pairwise SpotO) (hxok : ∀ x∈n.seps,ui (zE x)=0)
 (loX : ∀ x∈XA,∀ y,inS s' y=true→cmpS x y≤0) (hiX : ∀ x∈XB,∀ y,inS s' y=true→cmpS y x<0)
 (wc : ∀ a,a∈A∨a∈B→∃ t s'',Da (fN N2) h k a t s'')
 (turn : ∀ Q:Int→Int→Span→Prop,(∀ a t s',a∈A∨a∈B→Da (fN N2) h k a t s'→Q a t s')→∀ M' XM' TM',Ch Q XM' s' M' TM'→Ch Q (XA++(XM'++XB)) s (A++(M'++B)) (TA++(TM'++TB)))
 (P:PairPost N2 N3 h k1 k2 s' K X) (hsh:(K=[k1]∧X=[])∨(K=[k1,k2]∧∃ y,X=[y])) :
 EvenPost N2 N3 h s n (A++(K++B)) (XA++(X++XB)) (TA++(K.map (fun k=>uh (nd (fN N3) k))++TB)):=by
 have hfl:n.kids.flatMap (ids (fN N2) h)=A.flatMap (ids (fN N2) h)++((ids (fN N2) h k1++ids (fN N2) h k2)++B.flatMap (ids (fN N2) h)):=by
  rw [hkids,List.flatMap_append,List.flatMap_cons,List.flatMap_cons,List.append_assoc]
 rw [hfl] at hnd
 obtain⟨n1,n2,n3⟩:=List.nodup_append.1 hnd
 obtain⟨n4,n5,n6⟩:=List.nodup_append.1 n2
 have dis : ∀ a,a∈A∨a∈B→∀ j∈ids (fN N2) h a,j ∉ ids (fN N2) h k1∧j ∉ ids (fN N2) h k2:=fun a ha j hj=>by
  rcases ha with ha | ha
  · have hjA:j∈A.flatMap (ids (fN N2) h):=List.mem_flatMap.2 ⟨a,ha,hj⟩
    exact⟨fun h=>n3 j hjA j (by simp [h]) rfl,fun h=>n3 j hjA j (by simp [h]) rfl⟩
  · have hjB:j∈B.flatMap (ids (fN N2) h):=List.mem_flatMap.2 ⟨a,ha,hj⟩
    exact⟨fun h=>n6 j (by simp [h]) j hjB rfl,fun h=>n6 j (by simp [h]) j hjB rfl⟩
 have hak : ∀ a,a∈A∨a∈B→a≠k:=fun a ha e=>by
  obtain⟨d1,d2⟩:=dis a ha a.toNat (uk.head h a)
  rcases hk with rfl | rfl
  · exact d1 (by rw [← e];exact uk.head h a)
  · exact d2 (by rw [← e];exact uk.head h a)
 have agr : ∀ a,a∈A∨a∈B→∀ j∈ids (fN N2) h a,N3[j]? = N2[j]?:=fun a ha j hj=>by
  obtain⟨d1,d2⟩:=dis a ha j hj
  exact P.out j (fun e=>d1 (by rw [e];exact uk.head h k1)) (fun e=>d2 (by rw [e];exact uk.head h k2))
 have other : ∀ a,a∈A∨a∈B→∀ {m:Nat} {s:Span},uk (fN N2) h a m s→_:=fun a ha m s c=>uk.agree (N:=N2) (N':=N3) (by rw [P.len];exact Nat.le_refl _) c (agr a ha)
 have flat : ∀(l:List Int),(∀ a∈l,a∈A∨a∈B)→l.flatMap (ids (fN N3) h)=l.flatMap (ids (fN N2) h)∧l.flatMap (tX (fN N3) h)=l.flatMap (tX (fN N2) h):=fun l hl=>by
  constructor
  · exact vR fun a ha=>by obtain ⟨t',s'',x1⟩:=wc a (hl a ha);exact(other a (hl a ha) x1.1).2.1
  · exact uz fun a ha=>by obtain ⟨t',s'',x1⟩:=wc a (hl a ha);exact(other a (hl a ha) x1.1).2.2.1
 have hch:=turn (yj (fN N3) h) (fun a t s'' ha q=>by
  have c:=q.2 (hak a ha)
  exact⟨(other a ha c.1).1,by rw [(other a ha c.1).2.2.2];exact c.2⟩) K X _ P.ch
 have hKl:n.kids.length=A.length+2+B.length:=by rw [hkids];simp;omega
 rw [hseps] at ho
 obtain⟨p1,p2,p3⟩:=List.pairwise_append.1 ho
 obtain⟨p4,p5⟩:=List.pairwise_cons.1 p2
 refine⟨P.len,fun j hj=>?_,P.chk,hch,?_,?_,?_,fun y hy=>?_,?_,?_⟩
 · rw [hfl] at hj
   simp only [List.mem_append,not_or] at hj
   exact P.out j (fun e=>hj.2.1.1 (by rw [e];exact uk.head h k1)) (fun e=>hj.2.1.2 (by rw [e];exact uk.head h k2))
 · rcases hsh with ⟨rfl,_⟩ | ⟨rfl,_⟩ <;> simp <;> omega
 · rcases hsh with ⟨rfl,_⟩ | ⟨rfl,_⟩ <;> simp <;> omega
 · rcases hsh with ⟨_,rfl⟩ | ⟨rfl,y,rfl⟩
   · exact List.pairwise_append.2 ⟨p1,p5,fun a ha b hb=>p3 a ha b (List.mem_cons_of_mem _ hb)⟩
   · obtain⟨a1,al,t1,ts,e1,e2,i1,i2,c'⟩:=P.ch
     obtain⟨e,he⟩:=i2.1.some_elem P.chk
     have hs1:=((i2.1.elems P.chk).2 e he).1
     have hs2:=vl.1 hs1
     have hs3:=vB i1 hs1
     refine List.pairwise_append.2 ⟨p1,List.pairwise_cons.2 ⟨fun b hb=>hiX b hb y i1,p5⟩,fun a ha b hb=>?_⟩
     rcases List.mem_cons.1 hb with rfl | hb
     · exact xR (loX a ha _ hs3) hs2.2
     · exact p3 a ha b (List.mem_cons_of_mem _ hb)
 · rcases List.mem_append.1 hy with hy | hy
   · exact hxok y (by rw [hseps];exact List.mem_append_left _ hy)
   · rcases List.mem_append.1 hy with hy | hy
     · exact P.ok y hy
     · exact hxok y (by rw [hseps];simp [hy])
 · obtain⟨Z,hZ,hz⟩:=P.perm
   refine⟨Z,?_,hz⟩
   rw [hfl,List.flatMap_append,List.flatMap_append,(flat A fun a ha=>.inl ha).1,(flat B fun a ha=>.inr ha).1]
   refine((hZ.append_right _).append_left _).trans ?_
   rw [List.append_assoc]
   exact List.perm_append_comm_assoc _ _ _
 · rw [List.flatMap_append,List.flatMap_append,(flat A fun a ha=>.inl ha).2,(flat B fun a ha=>.inr ha).2,P.elems,hkids,List.flatMap_append,List.flatMap_cons,List.flatMap_cons,List.append_assoc]
omit [Big F] in
theorem EH {α:Type}(A:List α)(x y:α)(B:List α):idx (A++x::y::B) ((A.length:Int)+1)=some y:=by
 rw [show ((A.length:Int)+1)=((A.length+1:Nat):Int) by omega,tz,List.getElem?_append_right (by omega)];simp
omit [Big F] in
theorem AK {α:Type}{l:List α}{i j:Nat}(h1:i<j)(h2:j≤l.length):rK l (i:Int) (j:Int)=some (jM l i j):=by
 unfold rK
 rw [if_pos ⟨by omega,by omega,by omega⟩,Int.toNat_natCast,Int.toNat_natCast]
omit [Big F] in
theorem CQ {α:Type}(A:List α)(x y:α)(B:List α):jM (A++x::y::B) (A.length+1) (A.length+2)=A++x::B:=by
 unfold jM
 rw [show A++x::y::B=(A++[x])++y::B by simp,List.take_left' (by simp),show (A++[x])++y::B=(A++[x,y])++B by simp,List.drop_left' (by simp)]
 simp
omit [Big F] in
theorem ED {α:Type}(A:List α)(x:α)(B:List α):jM (A++x::B) A.length (A.length+1)=A++B:=by
 unfold jM
 rw [List.take_left' rfl,show A++x::B=(A++[x])++B by simp,List.drop_left' (by simp)]
omit [Big F] in
theorem EY {α:Type}(A:List α)(x y z:α)(B:List α):(A++x::y::B).set (A.length+1) z=A++x::z::B:=by
 rw [List.set_append_right _ _ (by omega)];simp
theorem EF {N2:NL}(hc:va N2)(hl:N2.length≤400){h:Nat}{n:DNode}{r10 r11:Int}{s:Span}{k:Int}{z:Nat}{tids' : List Int}
 (ht:n.tids.set r10.toNat r11=tids') (hz:z+1<n.kids.length) (h8:n.kids.length≤8) (hs:n.seps.length+1=n.kids.length) (htl:tids'.length=n.kids.length)
 (hk:n.kids[z]? = some k∨n.kids[z+1]? = some k) (hzz:(bif (r10 == (IntKind.i64.wrap ((n.kids.length:Int)-1))) then some (IntKind.i64.wrap (r10-1)) else some r10:Option Int)=some (z:Int))
 (ho:n.seps.Pairwise SpotO) (hxok : ∀ x∈n.seps,ui (zE x)=0) (wc:Ch (Da (fN N2) h k) n.seps s n.kids tids') (hnd:(n.kids.flatMap (ids (fN N2) h)).Nodup)
 (hlow:(nd (fN N2) k).elems.length+(nd (fN N2) k).kids.length<4) :
 ∃ K X T N3,zy F n r10 r11 N2=some (K,X,T,N3)∧EvenPost N2 N3 h s n K X T:=by
 obtain⟨k1,k2,hk1,hk2,eK⟩:=BD n.kids hz
 obtain⟨t1,t2,ht1,ht2,eT⟩:=BD tids' (z:=z) (by omega)
 obtain⟨x,eX⟩ : ∃ x,n.seps=n.seps.take z++x::n.seps.drop (z+1):=⟨_,wT n.seps (w:=z) (by omega)⟩
 have lA:(n.kids.take z).length=z:=by rw [List.length_take];omega
 have lX:(n.seps.take z).length=z:=by rw [List.length_take];omega
 have lT:(tids'.take z).length=z:=by rw [List.length_take];omega
 have lB:(n.kids.drop (z+2)).length=n.kids.length-(z+2):=List.length_drop
 have lXB:(n.seps.drop (z+1)).length=n.seps.length-(z+1):=List.length_drop
 have lTB:(tids'.drop (z+2)).length=tids'.length-(z+2):=List.length_drop
 generalize n.kids.take z=A at *
 generalize n.kids.drop (z+2)=B at *
 generalize n.seps.take z=XA at *
 generalize n.seps.drop (z+1)=XB at *
 generalize tids'.take z=TA at *
 generalize tids'.drop (z+2)=TB at *
 have hkk:k=k1∨k=k2:=by
  rcases hk with h | h
  · rw [hk1] at h;exact .inl (Option.some.inj h).symm
  · rw [hk2] at h;exact .inr (Option.some.inj h).symm
 have wc':=wc
 rw [eK,eX,eT] at wc'
 have ho':=ho
 rw [eX] at ho'
 obtain⟨s',i1,i2,i3,i4,i5,i6⟩:=Ch.focus (XA:=XA) (XM:=[x]) (XB:=XB) (A:=A) (M:=[k1,k2]) (B:=B) (TA:=TA) (TM:=[t1,t2]) (TB:=TB) (by omega) (by omega) rfl rfl (by omega) (by omega) ho' wc'
 obtain⟨k1',ks',t1',ts',e1,e2,hx,p1,k2',t2',e3,e4,p2⟩:=i1
 obtain⟨rfl,rfl⟩ : k1=k1'∧[k2]=ks':=by simpa using e1
 obtain rfl:k2=k2':=by simpa using e3
 have hfl:n.kids.flatMap (ids (fN N2) h)=A.flatMap (ids (fN N2) h)++((ids (fN N2) h k1++ids (fN N2) h k2)++B.flatMap (ids (fN N2) h)):=by
  rw [eK,List.flatMap_append,List.flatMap_cons,List.flatMap_cons,List.append_assoc]
 have hn12:(ids (fN N2) h k1++ids (fN N2) h k2).Nodup:=by
  rw [hfl] at hnd
  exact(List.nodup_append.1 (List.nodup_append.1 hnd).2.1).1
 have hne:k1.toNat≠k2.toNat:=fun e=>(List.nodup_append.1 hn12).2.2 _ (uk.head h k1) _ (uk.head h k2) e
 have b1:=vh (wF hc p1.1.range)
 have b2:=vh (wF hc p2.1.range)
 have b3:(nd (fN N2) k1).elems.length+(nd (fN N2) k2).elems.length≤12∧(nd (fN N2) k1).kids.length+(nd (fN N2) k2).kids.length≤12:=by
  rcases hkk with rfl | rfl <;> omega
 have hpo:AG N2 h k1 k2 s' (nd (fN N2) k1) (nd (fN N2) k2) x:=by
  cases h with
  | zero=>exact Ds hc hx hne p1.1 p2.1 b3.1
  | succ h=>exact CB hc hl hx (hxok x (by rw [eX];simp)) p1.1 p2.1 hn12 b3.2
 obtain⟨z22,hz22,hpair⟩:=hpo
 have r1:=p1.1.range
 have r2:=p2.1.range
 rw [uf] at r1 r2
 have wcm : ∀ a,a∈A∨a∈B→∃ t s'',Da (fN N2) h k a t s'':=fun a ha=>by
  obtain⟨t,s'',q,_⟩:=wc.mem a (by
   rw [eK]
   rcases ha with ha | ha
   · exact List.mem_append_left _ ha
   · simp [ha])
  exact⟨t,s'',q⟩
 have fin:=fun {N3:NL} {K:List Int} {X:List DSpot} (P:PairPost N2 N3 h k1 k2 s' K X) hsh=>DX (TA:=TA) (TB:=TB) eK eX hkk hnd ho hxok i3 i4 wcm i6 P hsh
 have hi1:idx n.kids (z:Int)=some k1:=by rw [tz];exact hk1
 have hi2:idx n.kids ((z:Int)+1)=some k2:=by rw [show ((z:Int)+1)=((z+1:Nat):Int) by omega,tz];exact hk2
 have hi3:idx n.seps (z:Int)=some x:=by
  have:=vx XA x XB
  rwa [lX,← eX] at this
 have hd1:rK n.kids ((z:Int)+1) ((z:Int)+2)=some (A++k1::B):=by
  have:=AK (l:=n.kids) (i:=z+1) (j:=z+2) (by omega) (by omega)
  rw [show ((z+1:Nat):Int)=(z:Int)+1 by omega,show ((z+2:Nat):Int)=(z:Int)+2 by omega] at this
  rw [this,eK]
  have:=CQ A k1 k2 B
  rw [lA] at this;rw [this]
 have hd2:rK n.seps (z:Int) ((z:Int)+1)=some (XA++XB):=by
  have:=AK (l:=n.seps) (i:=z) (j:=z+1) (by omega) (by omega)
  rw [show ((z+1:Nat):Int)=(z:Int)+1 by omega] at this
  rw [this,eX]
  have:=ED XA x XB
  rw [lX] at this;rw [this]
 have hd3:rK tids' ((z:Int)+1) ((z:Int)+2)=some (TA++t1::TB):=by
  have:=AK (l:=tids') (i:=z+1) (j:=z+2) (by omega) (by omega)
  rw [show ((z+1:Nat):Int)=(z:Int)+1 by omega,show ((z+2:Nat):Int)=(z:Int)+2 by omega] at this
  rw [this,eT]
  have:=CQ TA t1 t2 TB
  rw [lT] at this;rw [this]
 obtain⟨_,_,_,_,j1⟩:=nO hd1
 obtain⟨_,_,_,_,j2⟩:=nO hd2
 obtain⟨_,_,_,_,j3⟩:=nO hd3
 have hset : ∀(l:List Int) (a b:Int),(TA++a::l).set z b=TA++b::l:=fun l a b=>by
  have:=wB TA a b l
  rwa [lT] at this
 unfold zy
 rw [hzz,obs,hi1,obs,w64 (n:=(z:Int)+1) (by omega) (by omega),hi2,obs,p1.1.node.1,obs,Ct (Ne.symm hne),p2.1.node.1,obs,hi3,obs,hz22,obs]
 unfold Eg
 rw [ht]
 generalize nd (fN N2) k1=n5 at *
 generalize nd (fN N2) k2=n6 at *
 rw [w64 (n:=((n5.elems++n6.elems).length:Int)+((n5.kids++n6.kids).length:Int)) (by omega) (by simp only [List.length_append];omega),w64 (n:=(z:Int)+1) (by omega) (by omega)]
 rcases hpair with ⟨hle,P⟩ | ⟨hgt,y,q1,q2,q3,q4,l1,l2,l3,l4,kd,hh,P⟩
 · obtain⟨a1,u1,e5,e6,c1⟩:=P.ch
   obtain rfl:k1=a1:=by simpa using e5
   have hnode:=c1.1.node.1
   have hgr:=uP (F:=F) P.chk c1.1.range
   have hE:=fin P (.inl ⟨rfl,rfl⟩)
   refine⟨_,_,_,_,?_,hE⟩
   rw [decide_eq_false (by omega),cond_false,wC (by rw [tZ];exact r1),obs,wC (by rw [t8,tZ];exact r2),obs,w64 (n:=(z:Int)+2) (by omega) (by omega),hd1,obs,hd2,obs,hd3,obs,obs]
   dsimp only
   rw [j1,j2,j3]
   refine Eq.trans (congrArg (fun q=>Option.bind q _) hnode) ?_
   rw [obs,hgr,obs]
   have hm:=vx TA t1 TB
   rw [lT] at hm
   rw [hm,obs,Int.toNat_natCast,hset]
   rfl
 · obtain⟨a1,al,u1,us,e5,e6,i7,c1,a2,u2,e7,e8,c2⟩:=P.ch
   obtain⟨rfl,rfl⟩ : k1=a1∧[k2]=al:=by simpa using e5
   obtain rfl:k2=a2:=by simpa using e7
   have hnode:=c1.1.node.1
   have hgr:=uP (F:=F) P.chk c1.1.range
   have hgr2:=uP (F:=F) P.chk c2.1.range
   have hnd2:=xc (xy (N:=N2) (k1:=k1) (k2:=k2) ⟨n5.kind,l1,l2,l3,l4⟩ ⟨kd,q4,q3,q2,q1⟩ (by omega))
   have hgr3:jm F ⟨kd,q4,q3,q2,q1⟩=some (uh (nd (fN (put2 N2 k1 k2 ⟨n5.kind,l1,l2,l3,l4⟩ ⟨kd,q4,q3,q2,q1⟩)) k2)):=by
    rw [← hgr2,hnd2]
   have hE:=fin P (.inr ⟨rfl,y,rfl⟩)
   refine⟨_,_,_,_,?_,hE⟩
   rw [decide_eq_true (by omega),cond_true,hh,obs]
   dsimp only
   rw [wC (by rw [tZ];exact r1),obs,wC (by rw [t8,tZ];exact r2),obs,hi3,obs,hgr3,obs]
   have hm:=EH TA t1 t2 TB
   rw [lT,← eT] at hm
   rw [hm,obs,obs]
   dsimp only
   refine Eq.trans (congrArg (fun q=>Option.bind q _) hnode) ?_
   rw [obs,hgr,obs]
   have hst:=EY TA t1 t2 (uh (nd (fN (put2 N2 k1 k2 ⟨n5.kind,l1,l2,l3,l4⟩ ⟨kd,q4,q3,q2,q1⟩)) k2)) TB
   rw [lT,← eT] at hst
   have hm2:=vx TA t1 (uh (nd (fN (put2 N2 k1 k2 ⟨n5.kind,l1,l2,l3,l4⟩ ⟨kd,q4,q3,q2,q1⟩)) k2)::TB)
   rw [lT] at hm2
   have hsx:n.seps.set z y=XA++y::XB:=by
    have:=wB XA x y XB
    rw [lX,← eX] at this;exact this
   rw [show ((z:Int)+1).toNat=z+1 by omega,hst,hm2,obs,Int.toNat_natCast,hset,Bd,hsx,eK]
   rfl
structure RemPost (sp:DSpot) (N N' : NL) (h:Nat) (i:Int) (s:Span) (m:Nat):Prop where
 len:N'.length=N.length
 out : ∀ j:Nat,j ∉ ids (fN N) h i→N'[j]? = N[j]?
 chk:va N'
 sub:uk (fN N') h i (m-1) s
 perm : ∃ Z,(ids (fN N) h i).Perm (Z++ids (fN N') h i)∧∀ j∈Z,N'[j]? = some (.inr zN)
 elems:tX (fN N') h i=(tX (fN N) h i).filter (vM sp)
structure RemMid (sp:DSpot) (N N3:NL) (h:Nat) (i:Int) (s:Span) (n:DNode) (K:List Int) (X:List DSpot) (T:List Int):Prop where
 len:N3.length=N.length
 hole:N3[i.toNat]? = (iZ N i)[i.toNat]?
 out : ∀ j:Nat,j ∉ ids (fN N) (h+1) i→N3[j]? = N[j]?
 chk:va N3
 ch:Ch (yj (fN N3) h) X s K T
 more:n.kids.length≤K.length+1
 few:K.length≤n.kids.length
 ord:X.Pairwise SpotO
 ok : ∀ x∈X,ui (zE x)=0
 perm : ∃ Z,(n.kids.flatMap (ids (fN N) h)).Perm (Z++K.flatMap (ids (fN N3) h))∧∀ j∈Z,N3[j]? = some (.inr zN)
 elems:K.flatMap (tX (fN N3) h)=(n.kids.flatMap (tX (fN N) h)).filter (vM sp)
def DJ (F:Nat)(sp:DSpot)(h:Nat):Prop:=∀(mf:Nat) (N:NL) (i:Int) (m:Nat) (s:Span),h<mf→va N→N.length≤400→(h=0∨3≤m)→uk (fN N) h i m s→(ids (fN N) h i).Nodup→inS s sp=true →
 ∃ N',nS (zn F sp) mf (N,i)=some N'∧RemPost sp N N' h i s m
omit [Big F] in
theorem yy {sp:DSpot}{l:List DElem}(h : ∀ x∈l,tY x≠sp):l.filter (vM sp)=l:=List.filter_eq_self.2 fun x hx=>by unfold vM;simpa using h x hx
theorem En (sp:DSpot):DJ F sp 0:=by
 intro mf N i m s hm hc hl _ c hn hs
 obtain⟨mf,rfl⟩ : ∃ q,mf=q+1:=⟨mf-1,by omega⟩
 have L:=c.leaf hc
 have hr:=c.range
 rw [uf] at hr
 obtain⟨hnode,hat⟩:=c.node
 obtain⟨_,hk1,hmk,hin⟩:=c
 have hel:tX (fN N) 0 i=(nd (fN N) i).elems:=rfl
 generalize nd (fN N) i=n at *
 have hlen:n.elems.length≤(n.elems.filter (vM sp)).length+1:=by
  have key : ∀ l:List DElem,l.Pairwise SpO→l.length≤(l.filter (vM sp)).length+1:=by
   intro l
   induction l with
   | nil=>intro _;simp
   | cons a l ih =>
    intro ho
    rw [List.pairwise_cons] at ho
    by_cases h:tY a=sp
    · have : l.filter (vM sp) = l := yy fun x hx e => by
       have:=ho.1 x hx
       unfold SpO at this
       rw [h,e,ue.refl] at this
       omega
      rw [List.filter_cons]
      split <;> rw [this] <;> simp
    · have:=ih ho.2
      rw [List.filter_cons,if_pos (by unfold vM;simpa using h)]
      simpa using this
  exact key _ L.ord
 obtain⟨n',hn'⟩ : ∃ n' : DNode,n' = ⟨1,n.elems.filter (vM sp),[],[],[]⟩:=⟨_,rfl⟩
 have hck:uv n' = 0:=by
  rw [hn']
  exact wd rfl ⟨rfl,rfl,rfl,by have:=List.length_filter_le (vM sp) n.elems;have:=L.len;show (n.elems.filter (vM sp)).length≤8;omega,fun x hx=>L.ok x ((List.mem_filter.1 hx).1),L.ord.filter _⟩
 have hnd:nd (fN (jq (iZ N i) i n')) i=n':=yT (by rw [tZ];exact hr)
 refine⟨jq (iZ N i) i n',?_,⟨by rw [t8,tZ],fun j hj=>?_,(hc.out i).put hck,⟨?_,by rw [hnd,hn'],?_,?_⟩,⟨[],?_,by simp⟩,?_⟩⟩
 · show zn F sp (nS (zn F sp) mf) (N,i)=_
   unfold zn
   dsimp only
   rw [hnode,obs,hk1,show ((1:Int) == 1)=true from rfl,cond_true,EC _ _ (by have:=L.len;omega),obs,wC (by rw [tZ];exact hr),obs,L.kids,L.seps,L.tids,hn']
 · have hji:j≠i.toNat:=by simpa [ids] using hj
   rw [uj _ hji,uu _ hji]
 · rw [uf,t8,tZ];exact hr
 · rw [hnd,hn'];show m-1≤(n.elems.filter (vM sp)).length;omega
 · rw [hnd,hn']
   intro x hx
   exact hin x ((List.mem_filter.1 hx).1)
 · simp [ids]
 · rw [hel]
   show (nd _ i).elems=_
   rw [hnd,hn']
omit [Big F] in
theorem uk.count {ns:List DNode}(hns : ∀ n∈ns,uv n=0){h:Nat}{i:Int}{m m' : Nat}{s:Span}(c:uk ns h i m s)(hm:m'≤(nd ns i).elems.length+(nd ns i).kids.length):uk ns h i m' s:=by
 cases h with
 | zero =>
  have L:=c.leaf hns
  rw [L.kids] at hm
  exact⟨c.1,c.2.1,by simpa using hm,c.2.2.2⟩
 | succ h =>
  have L:=c.inner hns
  rw [L.elems] at hm
  exact⟨c.1,c.2.1,by simpa using hm,c.2.2.2⟩
theorem CZ {sp:DSpot}{h:Nat}(ih:DJ F sp h){mf:Nat}{N:NL}{i:Int}{m:Nat}{s:Span}(hm:h<mf)(hc:va N)(hl:N.length≤400)(c:uk (fN N) (h+1) i m s)(hn:(ids (fN N) (h+1) i).Nodup)(hs:inS s sp=true) :
 ∃ N3 K X T,nS (zn F sp) (mf+1) (N,i)=some (jq N3 i ⟨2,[],K,X,T⟩)∧RemMid sp N N3 h i s (nd (fN N) i) K X T:=by
 have L:=c.inner hc
 have hr:=c.range
 rw [uf] at hr
 obtain⟨hnode,hat⟩:=c.node
 have hus:=c.used
 obtain⟨_,hk2,hmk,hch⟩:=c
 obtain⟨A,k,B,XA,XB,TA,t,TB,s',f⟩:=Cg L.seps L.tids L.ord hch hs
 have hids:ids (fN N) (h+1) i=i.toNat::(nd (fN N) i).kids.flatMap (ids (fN N) h):=rfl
 generalize hnn:nd (fN N) i=n at *
 have hflN:n.kids.flatMap (ids (fN N) h)=A.flatMap (ids (fN N) h)++(ids (fN N) h k++B.flatMap (ids (fN N) h)):=by rw [f.kids,List.flatMap_append,List.flatMap_cons]
 have hn0:=hn
 rw [hids] at hn0
 rw [ids,hnn,f.kids] at hn
 obtain⟨d1,d2,d3⟩:=xq hn
 have hN1 : ∀ j∈ids (fN N) h k,(iZ N i)[j]? = N[j]?:=fun j hj=>uu N (fun e=>d1 (e▸hj))
 obtain⟨q1,q2,q3,q4⟩:=uk.agree (N':=iZ N i) (by rw [tZ];exact Nat.le_refl _) f.here.1 hN1
 obtain⟨N2,hrun,P2⟩:=ih mf (iZ N i) k 4 s' hm (hc.out i) (by rw [tZ];exact hl) (.inr (by omega)) q1 (by rw [q2];exact d2) f.in_
 have hlen2:N2.length=N.length:=by rw [P2.len,tZ]
 obtain⟨Z2,hZ2,hz2⟩:=P2.perm
 rw [q2] at hZ2
 have hout2 : ∀ j:Nat,j≠i.toNat→j ∉ ids (fN N) h k→N2[j]? = N[j]?:=fun j h1 h2=>by rw [P2.out j (by rw [q2];exact h2),uu N h1]
 have other : ∀ a,a∈A∨a∈B→∀ {m:Nat} {s:Span},uk (fN N) h a m s→_:=fun a ha m s c=>uk.agree (N:=N) (N':=N2) (by rw [hlen2];exact Nat.le_refl _) c fun j hj=>by
  obtain⟨x1,x2⟩:=d3 a ha
  exact hout2 j (fun e=>x1 (e▸hj)) (x2 j hj)
 have hkids : ∀ a,a∈A∨a∈B→∃ t' s'',uk (fN N) h a 4 s''∧(∀ x∈tX (fN N) h a,tY x≠sp):=fun a ha=>by
  rcases ha with ha | ha
  · obtain⟨t',s'',x1,x2⟩:=f.lo a ha
    exact⟨t',s'',x1.1,fun x hx e=>by have:=x2 _ ((x1.1.elems hc).2 x hx).1;rw [e,ue.refl] at this;omega⟩
  · obtain⟨t',s'',x1,x2⟩:=f.hi a ha
    exact⟨t',s'',x1.1,fun x hx e=>by have:=x2 _ ((x1.1.elems hc).2 x hx).1;rw [e,ue.refl] at this;omega⟩
 have flat : ∀(l:List Int),(∀ a∈l,a∈A∨a∈B)→l.flatMap (ids (fN N2) h)=l.flatMap (ids (fN N) h) ∧
  l.flatMap (tX (fN N2) h)=(l.flatMap (tX (fN N) h)).filter (vM sp):=fun l hl=>by
  constructor
  · exact vR fun a ha=>by obtain ⟨t',s'',x1,_⟩:=hkids a (hl a ha);exact(other a (hl a ha) x1).2.1
  · rw [List.filter_flatMap]
    exact uz fun a ha=>by obtain ⟨t',s'',x1,x2⟩:=hkids a (hl a ha);rw [(other a (hl a ha) x1).2.2.1];exact(yy x2).symm
 have hfl2:n.kids.flatMap (ids (fN N2) h)=A.flatMap (ids (fN N) h)++(ids (fN N2) h k++B.flatMap (ids (fN N) h)):=by
  rw [f.kids,List.flatMap_append,List.flatMap_cons,(flat A fun a ha=>.inl ha).1,(flat B fun a ha=>.inr ha).1]
 have hperm:(n.kids.flatMap (ids (fN N) h)).Perm (Z2++n.kids.flatMap (ids (fN N2) h)):=by
  rw [hflN,hfl2]
  refine((hZ2.append_right _).append_left _).trans ?_
  rw [List.append_assoc]
  exact List.perm_append_comm_assoc _ _ _
 obtain⟨n1,n2⟩:=List.nodup_cons.1 hn0
 have hnp:=hperm.nodup_iff.1 n2
 obtain⟨m1,m2,m3⟩:=List.nodup_append.1 hnp
 have hsub : ∀ j∈n.kids.flatMap (ids (fN N2) h),j∈n.kids.flatMap (ids (fN N) h):=fun j hj=>hperm.mem_iff.2 (List.mem_append_right _ hj)
 have hi2:i.toNat ∉ n.kids.flatMap (ids (fN N2) h):=fun hj=>n1 (hsub _ hj)
 have hw:vJ n.seps sp=A.length:=f.way
 have hta:=f.ta
 have hxa:=f.xa
 have htb:=f.tb
 have hxb:=f.xb
 have hkl:n.kids.length=A.length+B.length+1:=by rw [f.kids];simp;omega
 have h8:=L.eight
 have h2:=L.two
 have hsl:=L.seps
 have htl:=L.tids
 obtain⟨g,hg⟩ : ∃ g,g=uh (nd (fN N2) k):=⟨_,rfl⟩
 have htids:n.tids.set A.length g=TA++g::TB:=by rw [f.tids,← hta,wB]
 have hgr:=uP (F:=F) P2.chk P2.sub.range
 have hE : ∃ K X T N3,EU F n (nd (fN N2) k) (A.length:Int) g N2=some (K,X,T,N3)∧EvenPost N2 N3 h s n K X T:=by
  obtain⟨b1,b2⟩:=vh (wF P2.chk P2.sub.range)
  unfold EU
  rw [w64 (by omega) (by omega),Int.toNat_natCast,htids]
  by_cases hlow:(nd (fN N2) k).elems.length+(nd (fN N2) k).kids.length<4
  · have wc:=f.turn (Da (fN N2) h k) (fun a t' s'' ha x=>⟨((other a ha x.1).1).weak (by omega),fun _=>⟨(other a ha x.1).1,by rw [(other a ha x.1).2.2.2];exact x.2⟩⟩) [k] [] [g] ⟨k,_,rfl,rfl,⟨P2.sub,fun hne=>absurd rfl hne⟩⟩
    have wc' : Ch (Da (fN N2) h k) n.seps s n.kids (TA++g::TB):=by rw [f.seps,f.kids];simpa using wc
    have hev : ∀ z:Nat,z+1<n.kids.length→(n.kids[z]? = some k∨n.kids[z+1]? = some k)→(bif ((A.length:Int) == (IntKind.i64.wrap ((n.kids.length:Int)-1))) then some (IntKind.i64.wrap ((A.length:Int)-1)) else some (A.length:Int):Option Int)=some (z:Int) →
     ∃ K X T N3,zy F n (A.length:Int) g N2=some (K,X,T,N3)∧EvenPost N2 N3 h s n K X T:=fun z z1 z2 z3 =>
     EF P2.chk (by omega) (by rw [Int.toNat_natCast];exact htids) z1 h8 hsl (by simp;omega) z2 z3 L.ord L.ok wc' m2 hlow
    have hAk:n.kids[A.length]? = some k:=by rw [f.kids,List.getElem?_append_right (Nat.le_refl _)];simp
    obtain⟨K,X,T,N3,e1,e2⟩ : ∃ K X T N3,zy F n (A.length:Int) g N2=some (K,X,T,N3)∧EvenPost N2 N3 h s n K X T:=by
     by_cases hB:B.length=0
     · refine hev (A.length-1) (by omega) (.inr (by rw [show A.length-1+1=A.length by omega];exact hAk)) ?_
       rw [w64 (by omega) (by omega),show ((A.length:Int) == (n.kids.length:Int)-1)=true by rw [beq_iff_eq];omega,cond_true,w64 (by omega) (by omega)]
       congr 1;omega
     · refine hev A.length (by omega) (.inl hAk) ?_
       rw [w64 (by omega) (by omega),show ((A.length:Int) == (n.kids.length:Int)-1)=false by rw [beq_eq_false_iff_ne];omega,cond_false]
    refine⟨K,X,T,N3,?_,e2⟩
    rw [decide_eq_true (by omega),cond_true,e1,obs]
  · have hsub4:uk (fN N2) h k 4 s':=P2.sub.count P2.chk (by omega)
    have cc:=f.turn (yj (fN N2) h) (fun a t' s'' ha x=>⟨(other a ha x.1).1,by rw [(other a ha x.1).2.2.2];exact x.2⟩) [k] [] [g] ⟨k,_,rfl,rfl,⟨hsub4,hg.symm⟩⟩
    refine⟨n.kids,n.seps,TA++g::TB,N2,?_,⟨rfl,fun _ _=>rfl,P2.chk,by rw [f.seps,f.kids];simpa using cc,by omega,Nat.le_refl _,L.ord,L.ok,⟨[],by simp,by simp⟩,rfl⟩⟩
    rw [decide_eq_false (by omega),cond_false]
 obtain⟨K,X,T,N3,hM,E⟩:=hE
 have hlen3:N3.length=N.length:=by rw [E.len,hlen2]
 refine⟨N3,K,X,T,?_,⟨hlen3,?_,fun j hj=>?_,E.chk,E.ch,E.more,E.few,E.ord,E.ok,?_,?_⟩⟩
 · show zn F sp (nS (zn F sp) mf) (N,i)=_
   generalize nS (zn F sp) mf=rf at hrun
   have hix:idx n.kids (A.length:Int)=some k:=by rw [f.kids];exact vx _ _ _
   have hit:idx n.tids (A.length:Int)=some t:=by rw [f.tids,← hta];exact vx _ _ _
   unfold zn
   dsimp only
   rw [hnode,obs,hk2,show ((2:Int) == 1)=false from rfl,cond_false,vD n _ (vF (uH hk2 L)),obs,hw,hix,obs,hrun,obs,obs,P2.sub.node.1,obs,hgr,obs,hit,obs,← hg,hM,obs]
   dsimp only
   rw [wC (by rw [hlen3];exact hr),obs,L.elems]
 · rw [E.out _ hi2,P2.out _ (by rw [q2];exact d1)]
 · rw [hids,List.mem_cons,not_or] at hj
   rw [E.out j (fun hh=>hj.2 (hsub j hh)),hout2 j hj.1 (fun hh=>hj.2 (by rw [hflN];simp [hh]))]
 · obtain⟨Z3,hZ3,hz3⟩:=E.perm
   refine⟨Z2++Z3,?_,fun j hj=>?_⟩
   · rw [List.append_assoc]
     exact hperm.trans (hZ3.append_left _)
   · rcases List.mem_append.1 hj with hj | hj
     · rw [E.out j (fun hh=>m3 j hj j hh rfl)];exact hz2 j hj
     · exact hz3 j hj
 · rw [E.elems,f.kids,List.flatMap_append,List.flatMap_cons,List.flatMap_append,List.flatMap_cons,List.filter_append,List.filter_append,(flat A fun a ha=>.inl ha).2,(flat B fun a ha=>.inr ha).2,P2.elems,q3]
theorem C0 {sp:DSpot}{N N3:NL}{h:Nat}{i:Int}{s:Span}{m:Nat}{K:List Int}{X:List DSpot}{T:List Int}(hl:N.length≤400)(c:uk (fN N) (h+1) i m s)(hc:va N)(hn:(ids (fN N) (h+1) i).Nodup)(M:RemMid sp N N3 h i s (nd (fN N) i) K X T)(h2:2≤K.length) :
 RemPost sp N (jq N3 i ⟨2,[],K,X,T⟩) (h+1) i s m:=by
 have L:=c.inner hc
 have hr:=c.range
 rw [uf] at hr
 have hmk:=c.2.2.1
 have hids:ids (fN N) (h+1) i=i.toNat::(nd (fN N) i).kids.flatMap (ids (fN N) h):=rfl
 have hels:tX (fN N) (h+1) i=(nd (fN N) i).kids.flatMap (tX (fN N) h):=rfl
 obtain⟨Z,hZ,hz⟩:=M.perm
 have hmore:=M.more
 have hfew:=M.few
 rw [hids] at hn
 obtain⟨n1,n2⟩:=List.nodup_cons.1 hn
 have hik:i.toNat ∉ K.flatMap (ids (fN N3) h):=fun hh=>n1 (hZ.mem_iff.2 (List.mem_append_right _ hh))
 have hck:=uH (n:=⟨2,[],K,X,T⟩) rfl (vG M.chk (by rw [M.len];exact hl) M.ch h2 (by have:=L.eight;omega) M.ord M.ok)
 have hnd:nd (fN (jq N3 i ⟨2,[],K,X,T⟩)) i=⟨2,[],K,X,T⟩:=yT (by rw [M.len];exact hr)
 obtain⟨a1,a2,a3⟩:=vc (N':=jq N3 i ⟨2,[],K,X,T⟩) (by rw [t8];exact Nat.le_refl _) M.ch fun j hj=>uj N3 (show j≠i.toNat from fun h=>hik (by rw [← h];exact hj))
 refine⟨by rw [t8,M.len],fun j hj=>?_,M.chk.put hck,⟨?_,by rw [hnd],by rw [hnd];show m-1≤K.length;omega,by rw [hnd];exact a1⟩,⟨Z,?_,fun j hj=>?_⟩,?_⟩
 · have:=M.out j hj
   rw [hids,List.mem_cons,not_or] at hj
   rw [uj N3 hj.1,this]
 · rw [uf,t8,M.len];exact hr
 · rw [hids,ids,hnd]
   show List.Perm _ (Z++i.toNat::K.flatMap _)
   rw [a2]
   exact(List.Perm.cons _ hZ).trans List.perm_middle.symm
 · rw [uj N3 (show j≠i.toNat from fun e=>n1 (hZ.mem_iff.2 (List.mem_append_left _ (by rw [← e];exact hj))))]
   exact hz j hj
 · rw [hels,tX,hnd,← M.elems]
   exact a3
theorem BO (sp:DSpot):∀ h,DJ F sp h:=by
 intro h
 induction h with
 | zero=>exact En sp
 | succ h ih =>
  intro mf N i m s hm hc hl h3 c hn hs
  obtain⟨mf,rfl⟩ : ∃ q,mf=q+1:=⟨mf-1,by omega⟩
  obtain⟨N3,K,X,T,h1,M⟩:=CZ (mf:=mf) ih (by omega) hc hl c hn hs
  have h4:m≤(nd (fN N) i).kids.length:=c.2.2.1
  have h5:=M.more
  exact⟨_,h1,C0 hl c hc hn M (by omega)⟩
end
end Go.Proofs.YtfbpiogbhkgieaaGreat
