/- Plain Lean: what the laws of runs share. Its conditions: none. -/
import Derived.Test.YtaoocidchclpnaaGreatPRunY
import Derived.Test.YtaoocidchclpnaaGreatUndoFY
import Derived.Test.YtaoocidchclpnaaGreatStepFY
import Derived.Test.YtaoocidchclpnaaGreatNodeFY
import Derived.Test.YtaoocidchclpnaaGreatPageFY
import Derived.Test.YtaoocidchclpnaaGreatTreeFY
import Derived.Test.YtaoocidchclpnaaGreatRecY
import Derived.Test.YtaoocidchclpnaaGreatTreeOY
open List renaming length_append→a_, mem_cons_self→d_, mem_cons_of_mem→f_, mem_cons→g_, mem_of_getElem?→i_, flatMap_cons→o_, mem_iff_getElem?→p_, replicate→q_, length_take→t_, mem_map→u_, length_drop→v_, getElem_mem→x_, length_set→y_, length_map→z_, append_assoc→C_, getD_eq_getElem?_getD→D_, foldl_cons→E_, take_length→F_, range→H_, mem_zipIdx_iff_getElem?→I_, pairwise_cons→J_, length_cons→K_, eq_nil_of_length_eq_zero→L_, mem_flatMap→M_, length_singleton→Q_, getElem?_set→S_, take_add_one→T_, mem_of_mem_take→U_, length_eq_zero_iff→W_, drop_left'→X_, mem_append→Y_, length_eq_one_iff→Z_, getElem?_replicate→g6, take_left'→g9, cons_append→l7, getElem?_eq_none→l9, map_cons→m0, getElem?_map→m4, mem_or_eq_of_mem_set→m9, foldl→o6, length_zipIdx→o7, foldl_append→o8, length_replicate→p6, getElem_of_mem→p7, pairwise_iff_getElem→p8, take_of_length_le→t5, append_nil→t6, mem_singleton→t7, filter_sublist→t9, take→v4, take_append_drop→v5, drop_eq_getElem_cons→v6, count_cons→v7, nodup_append→v8, nodup_cons→w6, length_flatMap→w7, sum_cons→B1, flatMap_append→B2, map_congr_left→B3, getElem?_cons_succ→C2, range'→C4, nil_append→C5, foldl_nil→C6, findSome?_eq_none_iff→C7, range_succ→E0, getElem?_append_right→E1, pairwise_append→E2, zipIdx_cons→K0, mem_of_mem_tail→K4, pairwise_flatMap→K5, range_eq_range'→K6, map_map→K7, mem_append_left→K8, getElem?_zipIdx→L3, flatMap_singleton→L4, perm_append_comm→L6, flatten_eq_flatMap→L7, getElem?_set_ne→L8
open Int renaming toNat_natCast→j_, le_refl→P_, toNat_of_nonneg→G0
open Option renaming some→l_, getD_none→R_, getD_some→n9
open Nat renaming zero_le→B_, le_of_eq→G_, le_trans→O_, mod_eq_of_lt→V_, le_refl→g8, zero_add→C1, add_sub_cancel_left→E5, mul_succ→K1, div_le_div_right→K2, add_zero→K3, mul_le_mul_left→K9, add_mul_div_right→L5
open ByteArray renaming mk→N_
open Sum renaming inr→o5
open Bool renaming cond_eq_ite→E3, or_eq_true→E4, not_true→E6, not_false→E7
namespace Go.Proofs.YtaoocidchclpnaaGreat
set_option linter.unusedSimpArgs false
set_option linter.unusedVariables false
section
variable {F:Nat} [Big F]
end
section
variable {F:Nat} [Big F]
def bl (s:ByteArray):List UInt8:=s.data.toList
theorem BD (s:ByteArray):ofL (bl s)=s:=rfl
def yL (s:ByteArray):Option (Nat × Nat × ByteArray) :=
 if (vW (bl s)).2.2=0∧(vW (bl s)).1.kind=9∧8≤(vW (bl s)).1.body.size then
  some (vu ((bl (vW (bl s)).1.body).take 4),vu (((bl (vW (bl s)).1.body).drop 4).take 4),ofL ((bl (vW (bl s)).1.body).drop 8))
 else none
def BQ (s:ByteArray):Option (Nat × ByteArray) :=
 if (vW (bl s)).2.2=0∧(vW (bl s)).1.kind=8∧4≤(vW (bl s)).1.body.size∧vu ((bl (vW (bl s)).1.body).take 4)≤2147483647 then
  some (vu ((bl (vW (bl s)).1.body).take 4),ofL ((bl (vW (bl s)).1.body).drop 4))
 else none
theorem BC (l:List UInt8)(h:4≤l.length):kC F (ofL l)=some ((vu (l.take 4):Nat):Int):=by
 unfold kC
 rw [vY (by decide) (by decide) (by omega),uT,wU _ (by simp;omega),uT]
 simp
theorem D3 (n:Nat):mK F (n:Int)=some (ofL (vg n 4)):=by
 unfold mK
 have:=xw (F:=F) n 4 (by decide)
 rw [show ((4:Nat):Int)=4 by rfl] at this
 rw [this,uT]
theorem Cn {d:DDisk}(g:GoodD d):kR F d=some 0:=by
 obtain⟨c,hc,hg⟩:=wL (F:=F) d
 rw [hc,hg.2 g]
theorem HR {d:DDisk}(g:GoodD d)(i:Nat):(vG d i).size≤3500:=by
 have key : ∀ ws:List DWrite,(∀ w∈ws,w.text.size≤3500)→∀ t,vZ ws (i:Int)=some t→t.size≤3500:=by
  intro ws
  induction ws with
  | nil=>intro _ t h;cases h
  | cons w ws ih =>
   intro hw t h
   rw [vZ] at h
   cases hl:vZ ws (i:Int) with
   | some u =>
    rw [hl] at h
    obtain rfl:=l_.inj h
    exact ih (fun v hv=>hw v (f_ _ hv)) _ hl
   | none =>
    rw [hl] at h
    dsimp only at h
    split at h
    · obtain rfl:=l_.inj h
      exact hw w (d_)
    · cases h
 unfold vG
 cases hl:vZ d.writes (i:Int) with
 | some t=>exact key _ (fun w hw=>(g.writes w hw).2.2) t hl
 | none =>
  rw [R_,D_]
  cases hp:d.pages[i]? with
  | none=>decide
  | some s=>exact g.pages s (i_ hp)
structure SeqOk (d:DDisk) (q:Nat) (t:ByteArray):Prop where
 good:GoodD d
 len:d.pages.length=201
 head:BQ (vG d 0)=some (q,t)
theorem F8 {s:ByteArray}{q:Nat}{t:ByteArray}(h:BQ s=some (q,t)):(vW (bl s)).2.2=0∧(vW (bl s)).1.kind=8∧4≤(vW (bl s)).1.body.size∧q≤2147483647 ∧
 q=vu ((bl (vW (bl s)).1.body).take 4)∧t=ofL ((bl (vW (bl s)).1.body).drop 4):=by
 unfold BQ at h
 split at h
 · rename_i hc
   obtain⟨h1,h2,h3,h4⟩:=hc
   obtain⟨rfl,rfl⟩:=Prod.mk.inj (l_.inj h)
   exact⟨h1,h2,h3,h4,rfl,rfl⟩
 · cases h
theorem I5 (s:ByteArray)(hs:s.size≤3500)(z:Int × ByteArray × Int) :
 ((mC F s).bind fun r3 =>
  (
   bif (r3.2.2 != 0) then
    some true
    else
     bif (r3.1.kind != 8) then
      some true
     else
      bif decide ((r3.1.body.size:Int)<4) then
       some true
      else
       (kC F r3.1.body).bind fun r4 =>
       some (decide ((2147483647:Int)<r4)):Option (Bool)).bind fun z1 =>
  bif z1 then
   some z
  else
   (kC F r3.1.body).bind fun r5 =>
   (jN r3.1.body 4 (r3.1.body.size:Int)).bind fun s1 =>
   some (r5,s1,0))=some (match BQ s with | some (q,t)=>((q:Int),t,0) | none=>z):=by
 have hg:=yT (F:=F) (bl s) (by have:(bl s).length=s.size:=rfl;omega)
 rw [BD] at hg
 rw [hg,uT]
 unfold BQ
 generalize vW (bl s)=f
 obtain⟨⟨k,b⟩,n,e⟩:=f
 dsimp only
 by_cases h1:e=0
 · rw [show (e != 0)=false by simpa using h1,uY]
   by_cases h2:k=8
   · rw [show (k != 8)=false by simpa using h2,uY]
     by_cases h3:4≤b.size
     · have hn:=BC (F:=F) (bl b) h3
       rw [BD] at hn
       rw [decide_eq_false (by omega),uY,hn,uT,uT]
       by_cases h4:vu ((bl b).take 4)≤2147483647
       · have hsl:=vY (l:=bl b) (lo:=4) (hi:=((bl b).length:Int)) (by decide) (by have:b.size=(bl b).length:=rfl;omega) (by omega)
         rw [j_,F_,show Int.toNat 4=4 from rfl] at hsl
         rw [decide_eq_false (by omega),uY,uT,show jN b 4 (b.size:Int)=jN (ofL (bl b)) 4 ((bl b).length:Int) from rfl,hsl,uT,if_pos ⟨h1,h2,h3,h4⟩]
       · rw [decide_eq_true (by omega),vh,if_neg (fun h=>h4 h.2.2.2)]
     · rw [decide_eq_true (by omega),vh,uT,vh,if_neg (fun h=>h3 h.2.2.1)]
   · rw [show (k != 8)=true by simpa using h2,vh,uT,vh,if_neg (fun h=>h2 h.2.1)]
 · rw [show (e != 0)=true by simpa using h1,vh,uT,vh,if_neg (fun h=>h1 h.1)]
theorem CN {d:DDisk}{q:Nat}{t:ByteArray}(h:SeqOk d q t):mJ F d=some ((q:Int),t,0):=by
 unfold mJ
 have hs:=yR (F:=F) d 0 (by rw [h.len];decide) (by have:=h.good.nw;omega)
 rw [show ((0:Nat):Int)=0 by rfl] at hs
 rw [Cn h.good,uT,show ((0:Int) != 0)=false by decide,uY,h.len,show (((201:Nat):Int) != 201)=false by decide,uY,hs,uT,I5 (vG d 0) (HR h.good 0),h.head]
theorem SeqOk.le {d:DDisk}{q:Nat}{t:ByteArray}(h:SeqOk d q t):q≤2147483647:=(F8 h.head).2.2.2.1
def pg (ps:List ByteArray)(i:Nat):ByteArray:=ps.getD i (ofL [])
theorem yX (ps:List ByteArray)(i k:Nat)(s:ByteArray)(h:i<ps.length):pg (ps.set i s) k=if i=k then s else pg ps k:=by
 unfold pg
 rw [D_,D_,S_]
 by_cases e:i=k
 · rw [if_pos e,if_pos e,if_pos h];rfl
 · rw [if_neg e,if_neg e]
def wF (q:Nat)(ps:List ByteArray)(i:Nat):List ByteArray :=
 match yL (pg ps i) with
 | none=>ps
 | some (n,p,t)=>if n≤q then ps else (if n=q+1∧1≤p∧p<101 then ps.set p t else ps).set i (ofL [])
def yo (q:Nat)(ps:List ByteArray)(k:Nat):List ByteArray:=(C4 101 k).foldl (wF q) ps
theorem CK (q:Nat)(ps:List ByteArray)(i:Nat):(wF q ps i).length=ps.length:=by
 unfold wF
 split
 · rfl
 · split
   · rfl
   · rw [y_];split
     · rw [y_]
     · rfl
theorem xF (q:Nat)(ps:List ByteArray)(k:Nat):yo q ps (k+1)=wF q (yo q ps k) (101+k):=by
 unfold yo
 rw [List.range'_concat,o8]
 simp
theorem w9 (q:Nat)(ps:List ByteArray):∀ k,(yo q ps k).length=ps.length
 | 0=>rfl
 | k+1=>by rw [xF,CK,w9 q ps k]
theorem HA {s:ByteArray}{n p:Nat}{t:ByteArray}(h:yL s=some (n,p,t)):t.size≤3000:=by
 unfold yL at h
 split at h
 · rename_i hc
   obtain⟨k,B,_,_,hB,_,hf,_⟩:=Dr hc.1
   have ht:t=ofL ((bl (vW (bl s)).1.body).drop 8):=(Prod.mk.inj (Prod.mk.inj (l_.inj h)).2).2.symm
   rw [ht,hf]
   show ((bl (ofL B)).drop 8).length≤3000
   rw [v_]
   have:(bl (ofL B)).length=B.length:=rfl
   omega
 · cases h
theorem Gn:yL (ofL [])=none:=by
 unfold yL
 rw [if_neg]
 intro h
 exact absurd h.1 (by decide)
theorem Da (q:Nat){ps:List ByteArray}(i:Nat)(h : ∀ s∈ps,s.size≤3500):∀ s∈wF q ps i,s.size≤3500:=by
 intro s hs
 unfold wF at hs
 split at hs
 · exact h s hs
 · rename_i n p t ho
   split at hs
   · exact h s hs
   · rcases m9 hs with h1 | h1
     · split at h1
       · rcases m9 h1 with h2 | h2
         · exact h s h2
         · rw [h2];have:=HA ho;omega
       · exact h s h1
     · rw [h1];decide
theorem AB (q:Nat){ps:List ByteArray}(h : ∀ s∈ps,s.size≤3500):∀ k,∀ s∈yo q ps k,s.size≤3500
 | 0=>h
 | k+1=>by rw [xF];exact Da q _ (AB q h k)
theorem JF {ps:List ByteArray}(h : ∀ s∈ps,s.size≤3500)(i:Nat):(pg ps i).size≤3500:=by
 unfold pg
 rw [D_]
 cases hp:ps[i]? with
 | none=>decide
 | some s=>exact h s (i_ hp)
theorem Aq {ps:List ByteArray}{i:Int}(h0:0≤i)(h:i<ps.length):idx ps i=some (pg ps i.toNat):=by
 unfold idx pg
 have:i.toNat<ps.length:=by omega
 rw [if_neg (by omega),D_,gge this];rfl
theorem IZ (q:Nat)(hq:q≤2147483647)(ps:List ByteArray)(hl:ps.length=201)(hs : ∀ s∈ps,s.size≤3500)(k:Nat)(hk:k<100) :
 ((idx ps ((101+k:Nat):Int)).bind fun e3 =>
  (mC F e3).bind fun r6 =>
  (
   bif (r6.2.2 != 0) then
    some true
    else
     bif (r6.1.kind != 9) then
      some true
     else
      bif decide ((r6.1.body.size:Int)<8) then
       some true
      else
       (kC F r6.1.body).bind fun r7 =>
       some (decide (r7≤(q:Int))):Option (Bool)).bind fun z7 =>
  bif z7 then
   some ps
  else
   (
    (jN r6.1.body 4 (r6.1.body.size:Int)).bind fun s3 =>
     (kC F s3).bind fun r8 =>
     (
      (kC F r6.1.body).bind fun r9 =>
       bif (r9 == (IntKind.i64.wrap ((q:Int)+1))) then
        bif decide ((1:Int)≤r8) then
         some (decide (r8<101))
        else
         some false
       else
        some false:Option (Bool)).bind fun z9 =>
     bif z9 then
      (jN r6.1.body 8 (r6.1.body.size:Int)).bind fun s4 =>
      (idx ps r8).bind fun e4 =>
      some (ps.set r8.toNat s4)
     else
      some ps:Option ((List ByteArray))).bind fun z8 =>
   (idx z8 ((101+k:Nat):Int)).bind fun e5 =>
   some (z8.set ((101+k:Nat):Int).toNat (N_ #[])))=some (wF q ps (101+k)):=by
 have hsz:=JF hs (101+k)
 unfold wF yL
 rw [Aq (by omega) (by omega),uT,j_]
 generalize pg ps (101+k)=s at hsz ⊢
 have hg:=yT (F:=F) (bl s) (by have:(bl s).length=s.size:=rfl;omega)
 rw [BD] at hg
 rw [hg,uT]
 generalize vW (bl s)=f
 obtain⟨⟨kd,b⟩,n,e⟩:=f
 dsimp only
 by_cases h1:e=0
 · rw [show (e != 0)=false by simpa using h1,uY]
   by_cases h2:kd=9
   · rw [show (kd != 9)=false by simpa using h2,uY]
     by_cases h3:8≤b.size
     · have hbl:b.size=(bl b).length:=rfl
       have hn:=BC (F:=F) (bl b) (by omega)
       rw [BD] at hn
       rw [decide_eq_false (by omega),uY,hn,uT,uT,if_pos ⟨h1,h2,h3⟩]
       dsimp only
       generalize hN:vu ((bl b).take 4)=N
       by_cases h4:N≤q
       · rw [decide_eq_true (by omega),vh,if_pos h4]
       · have hsl:=vY (l:=bl b) (lo:=4) (hi:=((bl b).length:Int)) (by decide) (by omega) (by omega)
         rw [j_,F_,show Int.toNat 4=4 from rfl] at hsl
         have hsl8:=vY (l:=bl b) (lo:=8) (hi:=((bl b).length:Int)) (by decide) (by omega) (by omega)
         rw [j_,F_,show Int.toNat 8=8 from rfl] at hsl8
         rw [decide_eq_false (by omega),uY,if_neg h4,show jN b 4 (b.size:Int)=jN (ofL (bl b)) 4 ((bl b).length:Int) from rfl,hsl,uT,BC ((bl b).drop 4) (by rw [v_];omega),uT,uT,
          show jN b 8 (b.size:Int)=jN (ofL (bl b)) 8 ((bl b).length:Int) from rfl,hsl8,vo (n:=(q:Int)+1) (by omega) (by omega)]
         generalize vu (((bl b).drop 4).take 4)=p
         by_cases h5:N=q+1∧1≤p∧p<101
         · rw [if_pos h5,show ((N:Int) == (q:Int)+1)=true by rw [beq_iff_eq];omega,vh,decide_eq_true (by omega),vh,decide_eq_true (by omega),uT,vh,uT,Aq (by omega) (by omega),uT,uT,j_,Aq (by omega) (by rw [y_];omega),uT]
           rfl
         · have hz : (bif ((N : Int) == (q : Int) + 1) then bif decide ((1 : Int) ≤ (p : Int)) then some (decide ((p : Int) < 101)) else some false else some false) = some false := by
            by_cases g1:N=q+1
            · rw [show ((N:Int) == (q:Int)+1)=true by rw [beq_iff_eq];omega,vh]
              by_cases g2:1≤p
              · rw [decide_eq_true (by omega),vh,decide_eq_false (by omega)]
              · rw [decide_eq_false (by omega),uY]
            · rw [show ((N:Int) == (q:Int)+1)=false by rw [beq_eq_false_iff_ne];omega,uY]
           rw [if_neg h5,hz,uT,uY,uT,Aq (by omega) (by omega),uT]
           rfl
     · rw [decide_eq_true (by omega),vh,uT,vh,if_neg (fun h=>h3 h.2.2)]
   · rw [show (kd != 9)=true by simpa using h2,vh,uT,vh,if_neg (fun h=>h2 h.2.1)]
 · rw [show (e != 0)=true by simpa using h1,vh,uT,vh,if_neg (fun h=>h1 h.1)]
theorem Bi {d:DDisk}{q:Nat}{t:ByteArray}(h:SeqOk d q t):lL F d=some (⟨yo q (apply d.writes d.pages) 100,[]⟩,0):=by
 unfold lL
 have hq:=h.le
 have gp:=h.good.np
 have hal:(apply d.writes d.pages).length=201:=by rw [vC];exact h.len
 have hsz:=(xA h.good).pages
 rw [CN h,uT]
 dsimp only
 rw [show ((0:Int) != 0)=false by decide,uY,Cn h.good,uT,show ((0:Int) != 0)=false by decide,uY,xi (by simp;omega) (by simp;omega),uT,C5,Jb h.good,uT,uT,uT]
 dsimp only
 refine wQ (fun k=>(yo q (apply d.writes d.pages) k,((101+k:Nat):Int))) (r:=yo q (apply d.writes d.pages) 100) 100 (by decide) rfl rfl (fun k hk=>?_) ?_
 · dsimp only
   have:=IZ (F:=F) q hq (yo q (apply d.writes d.pages) k) (by rw [w9];exact hal) (AB q hsz k) k hk
   rw [decide_eq_true (by omega),vh,this,uT,vo (by omega) (by omega),xF]
   rfl
 · dsimp only
   rw [decide_eq_false (by omega),uY]
end
section
variable {F:Nat} [Big F]
def ya (q:Nat)(s:ByteArray):Prop:=∀ n p t,yL s=some (n,p,t)→n≤q
theorem Fz (q:Nat):ya q (ofL []):=fun n p t h=>by rw [Gn] at h;cases h
theorem ya.mono {q q' : Nat}{s:ByteArray}(h:ya q s)(hq:q≤q'):ya q' s:=fun n p t ho=>O_ (h n p t ho) hq
theorem xM {q:Nat}{ps:List ByteArray}{i:Nat}(h:ya q (pg ps i)):wF q ps i=ps:=by
 unfold wF
 cases ho:yL (pg ps i) with
 | none=>rfl
 | some x =>
  obtain⟨n,p,t⟩:=x
  dsimp only
  rw [if_pos (h n p t ho)]
theorem zD {q:Nat}{ps:List ByteArray}{i n p:Nat}{t:ByteArray}(ho:yL (pg ps i)=some (n,p,t))(hn:q<n):wF q ps i=(if n=q+1∧1≤p∧p<101 then ps.set p t else ps).set i (ofL []):=by
 unfold wF
 rw [ho]
 dsimp only
 rw [if_neg (by omega)]
theorem CI (q:Nat)(s:ByteArray):ya q s∨∃ n p t,yL s=some (n,p,t)∧q<n:=by
 cases ho:yL s with
 | none=>exact .inl fun n p t h=>by rw [ho] at h;cases h
 | some x =>
  obtain⟨n,p,t⟩:=x
  by_cases h:n≤q
  · refine .inl fun n' p' t' h'=>?_
    rw [ho] at h'
    obtain⟨rfl,_⟩:=Prod.mk.inj (l_.inj h')
    exact h
  · exact .inr ⟨n,p,t,rfl,by omega⟩
theorem CH {q:Nat}{ps:List ByteArray}{i j:Nat}(hl:ps.length=201)(hi:101≤i)(hi2:i<201)(hj:101≤j∨j=0)(hne:j≠i):pg (wF q ps i) j=pg ps j:=by
 rcases CI q (pg ps i) with h | ⟨n,p,t,ho,hn⟩
 · rw [xM h]
 · rw [zD ho hn]
   split
   · rename_i hc
     rw [yX _ _ _ _ (by rw [y_];omega),if_neg (by omega),yX _ _ _ _ (by omega),if_neg (by omega)]
   · rw [yX _ _ _ _ (by omega),if_neg (by omega)]
theorem Ei {q:Nat}{ps:List ByteArray}(hl:ps.length=201){j:Nat}:∀ k,k≤100→(101+k≤j∨j=0)→pg (yo q ps k) j=pg ps j
 | 0,_,_=>rfl
 | k+1,hk,hj=>by
  rw [xF,CH (by rw [w9];exact hl) (by omega) (by omega) (by omega) (by omega)]
  exact Ei hl k (by omega) (by omega)
theorem DM {q:Nat}{ps:List ByteArray}(hl:ps.length=201):∀ k,k≤100→∀ i,101≤i→i<101+k→ya q (pg (yo q ps k) i)
 | 0,_,i,h1,h2=>by omega
 | k+1,hk,i,h1,h2=>by
  rw [xF]
  have hl' : (yo q ps k).length=201:=by rw [w9];exact hl
  by_cases hi:i=101+k
  · subst hi
    rcases CI q (pg (yo q ps k) (101+k)) with h | ⟨n,p,t,ho,hn⟩
    · rw [xM h];exact h
    · rw [zD ho hn]
      have:pg ((if n=q+1∧1≤p∧p<101 then (yo q ps k).set p t else yo q ps k).set (101+k) (ofL [])) (101+k)=ofL []:=by
       rw [yX _ _ _ _ (by split <;> (try rw [y_]) <;> omega),if_pos rfl]
      rw [this];exact Fz q
  · rw [CH hl' (by omega) (by omega) (by omega) hi]
    exact DM hl k (by omega) i h1 (by omega)
theorem CJ {q:Nat}{ps:List ByteArray}:∀ k,(∀ i,101≤i→i<101+k→ya q (pg ps i))→yo q ps k=ps
 | 0,_=>rfl
 | k+1,h=>by
  rw [xF,CJ k (fun i h1 h2=>h i h1 (by omega)),xM (h _ (by omega) (by omega))]
theorem El {q:Nat}{ps:List ByteArray}(hl:ps.length=201)(T:Nat→ByteArray)(hA : ∀ i,101≤i→i<201→∀ n p t,yL (pg ps i)=some (n,p,t)→q<n→n=q+1∧1≤p∧p<101∧t=T p) :
 ∀ k,k≤100→∀ j,1≤j→j<101→(pg ps j=T j∨∃ i n t,101≤i∧i<101+k∧yL (pg ps i)=some (n,j,t)∧q<n)→pg (yo q ps k) j=T j
 | 0,_,j,_,_,h=>by
  rcases h with h | ⟨i,n,t,h1,h2,_⟩
  · exact h
  · omega
 | k+1,hk,j,h1,h2,h=>by
  rw [xF]
  have hl' : (yo q ps k).length=201:=by rw [w9];exact hl
  have hpg:pg (yo q ps k) (101+k)=pg ps (101+k):=Ei hl k (by omega) (by omega)
  rcases CI q (pg ps (101+k)) with hq | ⟨n,p,t,ho,hn⟩
  · rw [xM (by rw [hpg];exact hq)]
    refine El hl T hA k (by omega) j h1 h2 ?_
    rcases h with h | ⟨i,n,t,g1,g2,g3,g4⟩
    · exact .inl h
    · by_cases hi:i=101+k
      · subst hi;have:=hq _ _ _ g3;omega
      · exact .inr ⟨i,n,t,g1,by omega,g3,g4⟩
  · obtain⟨e1,e2,e3,e4⟩:=hA (101+k) (by omega) (by omega) n p t ho hn
    rw [zD (by rw [hpg];exact ho) hn,if_pos ⟨e1,e2,e3⟩,yX _ _ _ _ (by rw [y_];omega),if_neg (by omega),yX _ _ _ _ (by omega)]
    by_cases hp:p=j
    · rw [if_pos hp,e4,hp]
    · rw [if_neg hp]
      refine El hl T hA k (by omega) j h1 h2 ?_
      rcases h with h | ⟨i,n',t',g1,g2,g3,g4⟩
      · exact .inl h
      · by_cases hi:i=101+k
        · subst hi
          rw [ho] at g3
          exact absurd (Prod.mk.inj (Prod.mk.inj (l_.inj g3)).2).1 hp
        · exact .inr ⟨i,n',t',g1,by omega,g3,g4⟩
theorem wy {ws:List DWrite}{ps:List ByteArray}{j:Nat}(hj:j<ps.length)(h : ∀ w∈ws,0≤w.page):pg (apply ws ps) j=(vZ ws (j:Int)).getD (pg ps j):=Df ps j hj ws ps hj h
theorem Bw : ∀ {ws:List DWrite} {i:Int} {t:ByteArray},vZ ws i=some t→∃ w∈ws,w.page=i∧w.text=t
 | [],_,_,h=>by cases h
 | w::ws,i,t,h=>by
  rw [vZ] at h
  cases hl:vZ ws i with
  | some u =>
   rw [hl] at h
   obtain rfl:=l_.inj h
   obtain⟨v,hv,h1,h2⟩:=Bw hl
   exact⟨v,f_ _ hv,h1,h2⟩
  | none =>
   rw [hl] at h
   dsimp only at h
   split at h
   · rename_i hp
     exact⟨w,d_,hp,l_.inj h⟩
   · cases h
theorem wY {ws:List DWrite}{i:Int}(h : ∀ w∈ws,w.page≠i):vZ ws i=none:=by
 cases hl:vZ ws i with
 | none=>rfl
 | some t =>
  obtain⟨w,hw,hp,_⟩:=Bw hl
  exact absurd hp (h w hw)
theorem GY (d:DDisk)(g:GoodD d)(j:Nat)(hj:j<d.pages.length):pg (apply d.writes d.pages) j=vG d j:=wy hj fun w hw=>(g.writes w hw).1
theorem za (ps:List ByteArray)(j:Nat):vG ⟨ps,[]⟩ j=pg ps j:=rfl
structure Done (d:DDisk) (q:Nat) (t:ByteArray):Prop where
 ok:SeqOk d q t
 clean:d.writes=[]
 quiet : ∀ i,101≤i→i<201→ya q (pg d.pages i)
theorem HO {d:DDisk}{q:Nat}{t:ByteArray}(h:SeqOk d q t):Done ⟨yo q (apply d.writes d.pages) 100,[]⟩ q t:=by
 have hal:(apply d.writes d.pages).length=201:=by rw [vC];exact h.len
 have hsz : ∀ s∈apply d.writes d.pages,s.size≤3500:=(xA h.good).pages
 have h0:=h.head
 rw [← GY d h.good 0 (by rw [h.len];decide),← Ei hal 100 (by decide) (.inr rfl)] at h0
 have hs:=AB q hsz 100
 have hl:=w9 q (apply d.writes d.pages) 100
 have hd:=DM (q:=q) hal 100 (by decide)
 generalize yo q (apply d.writes d.pages) 100=R at h0 hs hl hd ⊢
 rw [hal] at hl
 exact⟨⟨⟨G_ hl,B_ _,hs,fun w hw=>by cases hw⟩,hl,h0⟩,rfl,fun i h1 h2=>hd i h1 (by omega)⟩
theorem G8 (ps:List ByteArray):apply [] ps=ps:=rfl
theorem Bh {d:DDisk}{q:Nat}{t:ByteArray}(h:Done d q t):lL F d=some (d,0):=by
 have e:d=⟨d.pages,[]⟩:=by
  obtain⟨p,w⟩:=d
  have:=h.clean
  dsimp only at this ⊢
  rw [this]
 rw [Bi h.ok,h.clean,G8,CJ 100 (fun i h1 h2=>h.quiet i h1 (by omega)),← e]
def x0:DDisk:=⟨q_ 201 (ofL []),[]⟩
end
section
variable {F:Nat} [Big F]
structure FitOk (h:ByteArray) (l:List DWrite):Prop where
 head:h.size≤2900
 len:l.length≤100
 page : ∀ w∈l,1≤w.page∧w.page<101
 text : ∀ w∈l,w.text.size≤2900
 one:l.Pairwise fun a b=>a.page≠b.page
def As (l:List DWrite):List Bool:=l.foldl (fun s w=>s.set w.page.toNat true) (q_ 201 false)
theorem Gi (l:List DWrite)(w:DWrite):As (l++[w])=(As l).set w.page.toNat true:=by unfold As;rw [o8];rfl
theorem Gh (l:List DWrite):(As l).length=201∧∀ p,p<201→(As l)[p]? = some (l.any fun w=>w.page.toNat == p):=by
 have key : ∀(l:List DWrite) (s:List Bool),s.length=201→(l.foldl (fun s w=>s.set w.page.toNat true) s).length=201∧∀ p,p<201→(l.foldl (fun s w=>s.set w.page.toNat true) s)[p]? = some (s.getD p false||l.any fun w=>w.page.toNat == p):=by
  intro l
  induction l with
  | nil =>
   intro s hs
   refine⟨hs,fun p hp=>?_⟩
   rw [C6,List.any_nil,Bool.or_false,D_,gge (by omega)];rfl
  | cons w l ih =>
   intro s hs
   rw [E_]
   obtain⟨h1,h2⟩:=ih (s.set w.page.toNat true) (by rw [y_];exact hs)
   refine⟨h1,fun p hp=>?_⟩
   rw [h2 p hp,List.any_cons,D_,S_,D_]
   by_cases hw:w.page.toNat=p
   · rw [if_pos hw,if_pos (by omega),show (w.page.toNat == p)=true by simpa using hw]
     simp
   · rw [if_neg hw,show (w.page.toNat == p)=false by simpa using hw,Bool.false_or]
 obtain⟨h1,h2⟩:=key l (q_ 201 false) p6
 refine⟨h1,fun p hp=>?_⟩
 have:=h2 p hp
 rw [D_,g6,if_pos hp] at this
 exact this
theorem Ht (l:List DWrite){p:Int}(h0:0≤p)(h1:p<201):idx (As l) p=some (l.any fun w=>w.page.toNat == p.toNat):=by
 unfold idx
 rw [if_neg (by omega)]
 exact(Gh l).2 p.toNat (by omega)
def H8 (l:List DWrite)(k:Nat):Option (Unit ⊕ Int) :=
 match l[k]? with
 | none=>none
 | some w=>if w.page<1∨101≤w.page then some (.inr 1) else if 2900<w.text.size then some (.inr 2) else if ((l.take k).any fun v=>v.page.toNat == w.page.toNat)=true then some (.inr 5) else none
theorem Ip (h:ByteArray)(l:List DWrite):∃ c:Int,qi F h l=some c∧(c=0↔FitOk h l):=by
 unfold qi
 by_cases hb:2900<h.size∨100<l.length
 · refine⟨2,?_,?_⟩
   · rw [show (decide ((2900:Int)<(h.size:Int))||decide ((100:Int)<(l.length:Int)))=true by simp;omega,vh]
   · constructor
     · intro h;cases h
     · intro g;have:=g.head;have:=g.len;omega
 · rw [show (decide ((2900:Int)<(h.size:Int))||decide ((100:Int)<(l.length:Int)))=false by simp;omega,uY]
   have key:=zO (σ:=(List Bool) × Int) (ρ:=Unit ⊕ Int) (f:=fun x=>match x with
    | (x1,x2) =>
     bif decide (x2<(l.length:Int)) then
      (idx l x2).bind fun e1 =>
      bif ((decide (e1.page<1))||(decide ((101:Int)≤e1.page))) then
       some (.inr (.inr 1))
      else
       bif decide ((2900:Int)<(e1.text.size:Int)) then
        some (.inr (.inr 2))
       else
        (idx x1 e1.page).bind fun e2 =>
        bif e2 then
         some (.inr (.inr 5))
        else
         (idx x1 e1.page).bind fun e3 =>
         some (.inl ((x1.set e1.page.toNat true),IntKind.i64.wrap (x2+1)))
      else
       some (.inr (.inl ()))) (fun k=>(As (l.take k),(k:Int))) (H8 l) l.length (res:=.inl ()) (fun k hk=>by
    dsimp only
    unfold H8
    rw [decide_eq_true (show (k:Int)<(l.length:Int) by omega),vh,wa,gge hk,uT]
    dsimp only
    by_cases h1:(l[k]).page<1∨101≤(l[k]).page
    · rw [if_pos h1,show (decide ((l[k]).page<1)||decide ((101:Int)≤(l[k]).page))=true by simpa using h1,vh]
    · rw [if_neg h1,show (decide ((l[k]).page<1)||decide ((101:Int)≤(l[k]).page))=false by simpa using h1,uY]
      by_cases h2:2900<(l[k]).text.size
      · rw [if_pos h2,decide_eq_true (by omega),vh]
      · rw [if_neg h2,decide_eq_false (by omega),uY,Ht _ (by omega) (by omega),uT]
        cases h3:(l.take k).any fun v=>v.page.toNat == (l[k]).page.toNat with
        | true=>rw [vh,if_pos rfl]
        | false =>
         rw [uY,if_neg (by decide),uT,vo (by omega) (by omega),T_,gge hk,Option.toList_some,Gi]
         rfl) (by
    dsimp only
    rw [decide_eq_false (by omega)];rfl) l.length 0 F (by omega) (yB (by omega))
   rw [show iter _ F ((q_ 201 false:List Bool),(0:Int))=_ from key,uT]
   cases hf:(C4 0 l.length).findSome? (H8 l) with
   | some r =>
    obtain⟨k,hk,hr⟩:=yS hf
    unfold H8 at hr
    rw [gge hk] at hr
    dsimp only at hr
    split at hr
    · rename_i h1
      obtain rfl:=l_.inj hr
      refine⟨1,rfl,?_⟩
      constructor
      · intro h;cases h
      · intro g;have:=g.page _ (x_ hk);omega
    · rename_i h1
      split at hr
      · rename_i h2
        obtain rfl:=l_.inj hr
        refine⟨2,rfl,?_⟩
        constructor
        · intro h;cases h
        · intro g;have:=g.text _ (x_ hk);omega
      · split at hr
        · rename_i h3
          obtain rfl:=l_.inj hr
          refine⟨5,rfl,?_⟩
          constructor
          · intro h;cases h
          · intro g
            rw [List.any_eq_true] at h3
            obtain⟨v,hv,hp⟩:=h3
            obtain⟨i,hi,rfl⟩:=p7 hv
            rw [t_] at hi
            rw [List.getElem_take] at hp
            have:=(p8.1 g.one) i k (by omega) hk (by omega)
            have p1:=g.page _ (x_ (show i<l.length by omega))
            have p2:=g.page _ (x_ hk)
            rw [beq_iff_eq] at hp
            omega
        · cases hr
   | none =>
    rw [yy] at hf
    refine⟨0,rfl,?_⟩
    have part : ∀ k (hk:k<l.length),¬ ((l[k]).page<1∨101≤(l[k]).page)∧¬ 2900<(l[k]).text.size∧¬ ((l.take k).any fun v=>v.page.toNat == (l[k]).page.toNat)=true:=fun k hk=>by
     have:=hf k hk
     unfold H8 at this
     rw [gge hk] at this
     dsimp only at this
     split at this
     · cases this
     · rename_i h1
       split at this
       · cases this
       · rename_i h2
         split at this
         · cases this
         · rename_i h3;exact⟨h1,h2,h3⟩
    constructor
    · intro _
      refine⟨by omega,by omega,fun w hw=>?_,fun w hw=>?_,?_⟩
      · obtain⟨k,hk,rfl⟩:=p7 hw
        have:=(part k hk).1;omega
      · obtain⟨k,hk,rfl⟩:=p7 hw
        have:=(part k hk).2.1;omega
      · rw [p8]
        intro i j hi hj hij he
        refine(part j hj).2.2 ?_
        rw [List.any_eq_true]
        refine⟨l[i],?_,by rw [beq_iff_eq,he]⟩
        rw [p_]
        exact⟨i,by rw [List.getElem?_take,if_pos hij,gge hi]⟩
    · intro _;rfl
def xS (q:Nat)(P:List ByteArray)(p:Nat):List UInt8:=vg (q+1) 4++vg p 4++bl (pg P p)
def frW (q:Nat)(P:List ByteArray)(i:Nat)(w:DWrite):DWrite:=⟨((101+i:Nat):Int),ofL (xp 9 (xS q P w.page.toNat))⟩
def xq (q:Nat)(P:List ByteArray)(l:List DWrite):List DWrite:=l.mapIdx (frW q P)
def hN (n:Nat)(h:ByteArray):ByteArray:=ofL (xp 8 (vg n 4++bl h))
def hB (q:Nat)(h:ByteArray):ByteArray:=hN (q+1) h
def P2 (q:Nat)(P:List ByteArray)(l:List DWrite):List ByteArray:=apply (xq q P l) P
def P3 (q:Nat)(P:List ByteArray)(l:List DWrite):List ByteArray:=apply l (P2 q P l)
def P4 (q:Nat)(P:List ByteArray)(h:ByteArray)(l:List DWrite):List ByteArray:=apply [⟨0,hB q h⟩] (P3 q P l)
def BG (q:Nat)(P:List ByteArray)(h:ByteArray)(l:List DWrite):List DDisk :=
 ⟨P,[]⟩::((H_ l.length).map (fun k=>⟨P,(xq q P l).take (k+1)⟩)++⟨P2 q P l,[]⟩::((H_ l.length).map (fun k=>⟨P2 q P l,l.take (k+1)⟩)++[⟨P3 q P l,[]⟩,⟨P3 q P l,[⟨0,hB q h⟩]⟩]))
def xn (q:Nat)(P:List ByteArray)(h:ByteArray)(l:List DWrite):List DDisk:=BG q P h l++[⟨P4 q P h l,[]⟩]
structure StepsOk (d:DDisk) (h:ByteArray) (l:List DWrite) (q:Nat) (t:ByteArray):Prop where
 seq:SeqOk d q t
 fit:FitOk h l
 small : ∀ w∈l,(vG d w.page.toNat).size≤2900
 more:q<2147483647
theorem wh (q:Nat)(P:List ByteArray)(l:List DWrite):(xq q P l).length=l.length:=by unfold xq;rw [List.length_mapIdx]
theorem zo (q:Nat)(P:List ByteArray)(l:List DWrite)(k:Nat)(hk:k<l.length):(xq q P l)[k]? = some (frW q P k l[k]):=by
 unfold xq;rw [List.getElem?_mapIdx,gge hk];rfl
theorem xQ {q:Nat}{P:List ByteArray}{l:List DWrite}{w:DWrite}:w∈xq q P l↔∃ k,∃ hk:k<l.length,w=frW q P k l[k]:=by
 rw [p_]
 constructor
 · rintro⟨k,hk⟩
   have hkl:=(ggs.1 hk).1
   rw [wh] at hkl
   rw [zo q P l k hkl] at hk
   exact⟨k,hkl,(l_.inj hk).symm⟩
 · rintro⟨k,hk,rfl⟩
   exact⟨k,zo q P l k hk⟩
theorem HT (q:Nat)(P:List ByteArray)(l:List DWrite)(k:Nat)(hk:k<l.length):(xq q P l).take (k+1)=(xq q P l).take k++[frW q P k l[k]]:=by
 rw [T_,zo q P l k hk];rfl
theorem yw (q:Nat)(P:List ByteArray)(p:Nat):(xS q P p).length=8+(pg P p).size:=by
 unfold xS;rw [a_,a_,uV,uV];rfl
theorem GN (n:Nat)(hn:n≤2147483647)(h:ByteArray)(hh:h.size≤2900):nK F (n:Int) h=some (hN n h,0):=by
 unfold nK hN
 have hl:(bl h).length=h.size:=rfl
 rw [show (decide ((n:Int)<0)||decide ((2147483647:Int)<(n:Int)))=false by simp;omega,uY,decide_eq_false (by omega),uY,D3,uT]
 have hs:=wq (a:=vg n 4) (b:=bl h) (by rw [uV];omega)
 rw [BD] at hs
 have hp:=yj (F:=F) 8 (vg n 4++bl h) (by decide) (by decide) (by rw [a_,uV];omega)
 rw [hs,uT,show (DFrame.mk 8 (ofL (vg n 4++bl h)))=⟨((8:Nat):Int),ofL (vg n 4++bl h)⟩ from rfl,hp,uT]
theorem Ek {d:DDisk}{i:Int}{s:ByteArray}(h:Ag d i s):m7 F d i s=some (⟨d.pages,d.writes++[⟨i,s⟩]⟩,0):=by
 rcases EZ (F:=F) d i s with ⟨_,h2⟩ | ⟨h1,_⟩
 · exact h2
 · exact absurd h h1
section
variable {d:DDisk} {h:ByteArray} {l:List DWrite} {q:Nat} {t:ByteArray}
structure Ground (q:Nat) (P:List ByteArray) (h:ByteArray) (l:List DWrite):Prop where
 len:P.length=201
 size : ∀ s∈P,s.size≤3500
 fit:FitOk h l
 small : ∀ w∈l,(pg P w.page.toNat).size≤2900
 more:q<2147483647
theorem StepsOk.ground (g:StepsOk d h l q t):Ground q (apply d.writes d.pages) h l:=by
 refine⟨by rw [vC];exact g.seq.len,(xA g.seq.good).pages,g.fit,fun w hw=>?_,g.more⟩
 have:=g.fit.page w hw
 rw [GY d g.seq.good _ (by rw [g.seq.len];omega)]
 exact g.small w hw
variable {P:List ByteArray}
theorem Ground.frw (g:Ground q P h l):∀ w∈xq q P l,okW 201 w:=fun w hw=>by
 obtain⟨k,hk,rfl⟩:=xQ.1 hw
 have:=g.fit.len
 refine⟨by show (0:Int)≤((101+k:Nat):Int);omega,by show ((101+k:Nat):Int)<((201:Nat):Int);omega,?_⟩
 show (xp 9 (xS q P (l[k]).page.toNat)).length≤3500
 have:=g.small _ (x_ hk)
 rw [xO,yw];omega
theorem Ground.len2 (g:Ground q P h l):(P2 q P l).length=201:=by unfold P2;rw [vC];exact g.len
theorem Ground.len3 (g:Ground q P h l):(P3 q P l).length=201:=by unfold P3;rw [vC];exact g.len2
theorem Ground.good1 (g:Ground q P h l){ws:List DWrite}(hn:ws.length≤400)(hw : ∀ w∈ws,okW 201 w):GoodD ⟨P,ws⟩:=⟨G_ g.len,hn,g.size,fun w h=>by show okW P.length w;rw [g.len];exact hw w h⟩
theorem Ground.goodF (g:Ground q P h l):GoodD ⟨P,xq q P l⟩:=g.good1 (by rw [wh];have:=g.fit.len;omega) g.frw
theorem Ground.size2 (g:Ground q P h l):∀ s∈P2 q P l,s.size≤3500:=(xA g.goodF).pages
theorem Ground.okl (g:Ground q P h l):∀ w∈l,okW 201 w:=fun w hw=>by
 have:=g.fit.page w hw
 have:=g.fit.text w hw
 exact⟨by omega,by show w.page<((201:Nat):Int);omega,by omega⟩
theorem Ground.good2 (g:Ground q P h l){ws:List DWrite}(hn:ws.length≤400)(hw : ∀ w∈ws,okW 201 w):GoodD ⟨P2 q P l,ws⟩:=⟨G_ g.len2,hn,g.size2,fun w h=>by show okW (P2 q P l).length w;rw [g.len2];exact hw w h⟩
theorem Ground.goodL (g:Ground q P h l):GoodD ⟨P2 q P l,l⟩:=g.good2 (by have:=g.fit.len;omega) g.okl
theorem Ground.size3 (g:Ground q P h l):∀ s∈P3 q P l,s.size≤3500:=(xA g.goodL).pages
theorem Ground.hsize (g:Ground q P h l):(hB q h).size≤3500:=by
 show (xp 8 (vg (q+1) 4++bl h)).length≤3500
 have:=g.fit.head
 have e:(bl h).length=h.size:=rfl
 rw [xO,a_,uV];omega
theorem Ground.mayH (g:Ground q P h l):Ag ⟨P3 q P l,[]⟩ 0 (hB q h) :=
 ⟨⟨G_ g.len3,B_ _,g.size3,fun w h=>by cases h⟩,by decide,by show (0:Int)<((P3 q P l).length:Int);rw [g.len3];decide,g.hsize,by show (0:Nat)<400;decide⟩
theorem JO (g:Ground q P h l)(k p:Nat)(hp:p<101):vG ⟨P,(xq q P l).take k⟩ p=pg P p:=by
 unfold vG
 rw [wY]
 · rfl
 · intro w hw
   obtain⟨i,hi,rfl⟩:=xQ.1 (U_ hw)
   show ((101+i:Nat):Int)≠(p:Int)
   omega
theorem GB (s:StepsOk d h l q t):og F d h l=some (xn q (apply d.writes d.pages) h l,0):=by
 have g:=s.ground
 obtain⟨c,hc,hc0⟩:=Ip (F:=F) h l
 have c0:=hc0.2 s.fit
 subst c0
 have hn:=s.fit.len
 have hq:=s.more
 unfold og
 rw [CN s.seq,uT]
 dsimp only
 rw [show ((0:Int) != 0)=false by decide,uY,hc,uT,show ((0:Int) != 0)=false by decide,uY]
 rw [CC l (fun w=>if 2900<(vG d w.page.toNat).size then some (.inr ([],2)) else none) (.inl ()) (by omega) rfl (fun k e hk=>?_) (by rw [decide_eq_false (by omega),uY])]
 · have hnone : l.findSome? (fun w => if 2900 < (vG d w.page.toNat).size then some (.inr ([], 2) : Unit ⊕ ((List DDisk) × Int)) else none) = none := by
    rw [C7]
    intro w hw
    have:=s.small w hw
    rw [if_neg (by omega)]
   rw [hnone,R_,uT]
   dsimp only
   rw [show ((q:Int) == 2147483647)=false by rw [beq_eq_false_iff_ne];omega,uY,xf s.seq.good,uT,xi (by simp) (by simp),uT,uT]
   dsimp only
   generalize apply d.writes d.pages=P at g ⊢
   rw [vE (F:=F) (s:=(([]:List DDisk)++[(⟨P,[]⟩ : DDisk)],P,([]:List DWrite),(0:Int))) (fun k=>((⟨P,[]⟩ : DDisk)::(H_ k).map (fun k=>(⟨P,(xq q P l).take (k+1)⟩ : DDisk)),P,(xq q P l).take k,(k:Int))) l.length
    (r:=((⟨P,[]⟩ : DDisk)::(H_ l.length).map (fun k=>(⟨P,(xq q P l).take (k+1)⟩ : DDisk)),P,(xq q P l).take l.length)) rfl (by omega) (fun k hk=>?_) ?_,uT]
   · dsimp only
     rw [show (xq q P l).take l.length=xq q P l from t5 (by rw [wh];exact g8 _),xf g.goodF,uT]
     dsimp only
     rw [xi (by simp;omega) (by simp;omega),uT,uT]
     dsimp only
     rw [show apply (xq q P l) P=P2 q P l from rfl]
     generalize hA:(⟨P,[]⟩ : DDisk)::(H_ l.length).map (fun k=>(⟨P,(xq q P l).take (k+1)⟩ : DDisk))++[⟨P2 q P l,[]⟩]=A
     have hAl:A.length≤102:=by rw [← hA];simp;omega
     rw [vE (F:=F) (s:=(A,P2 q P l,([]:List DWrite),(0:Int))) (fun k=>(A++(H_ k).map (fun k=>(⟨P2 q P l,l.take (k+1)⟩ : DDisk)),P2 q P l,l.take k,(k:Int))) l.length
      (r:=(A++(H_ l.length).map (fun k=>(⟨P2 q P l,l.take (k+1)⟩ : DDisk)),P2 q P l,l.take l.length)) (by simp) (by omega) (fun k hk=>?_) ?_,uT]
     · dsimp only
       rw [F_,xf g.goodL,uT]
       dsimp only
       rw [xi (by simp;omega) (by simp;omega),uT,uT]
       dsimp only
       rw [vo (n:=(q:Int)+1) (by omega) (by omega),show (q:Int)+1=((q+1:Nat):Int) by omega,GN (q+1) (by omega) h s.fit.head,uT]
       dsimp only
       show ((m7 F ⟨P3 q P l,[]⟩ 0 (hB q h)).bind _).bind _=_
       rw [Ek g.mayH,uT]
       dsimp only
       rw [xi (by simp;omega) (by simp;omega),uT,uT]
       dsimp only
       rw [xf (Cv g.mayH),uT]
       dsimp only
       rw [xi (by simp;omega) (by simp;omega),uT,uT]
       dsimp only
       rw [← hA]
       unfold xn BG
       simp [P3,P4,P2]
     · dsimp only
       rw [decide_eq_false (by omega),uY]
     · dsimp only
       have hlk:(l.take k).length=k:=by rw [t_];omega
       have hw:=g.okl _ (x_ hk)
       have hm:Ag ⟨P2 q P l,l.take k⟩ (l[k]).page (l[k]).text:=by
        refine⟨g.good2 (by omega) (fun w hw=>g.okl w (U_ hw)),hw.1,?_,hw.2.2,by show (l.take k).length<400;omega⟩
        show (l[k]).page<((P2 q P l).length:Int)
        rw [g.len2];exact hw.2.1
       rw [decide_eq_true (by omega),vh,wa,gge hk,uT,Ek hm,uT]
       dsimp only
       rw [xi (by simp;omega) (by simp;omega),uT,uT]
       dsimp only
       have htk:l.take (k+1)=l.take k++[l[k]]:=by rw [T_,gge hk];rfl
       rw [vo (by omega) (by omega),E0,List.map_append,List.map_singleton,htk,← C_]
       rfl
   · dsimp only
     rw [decide_eq_false (by omega),uY]
   · dsimp only
     have hlk:((xq q P l).take k).length=k:=by rw [t_,wh];omega
     have hwk:=g.fit.page _ (x_ hk)
     have hfr:=g.frw _ (xQ.2 ⟨k,hk,rfl⟩)
     have hse:=yR (F:=F) ⟨P,(xq q P l).take k⟩ (l[k]).page.toNat (by show (l[k]).page.toNat<P.length;rw [g.len];omega) (by show ((xq q P l).take k).length≤1000000;omega)
     rw [JO g k _ (by omega),show (((l[k]).page.toNat:Nat):Int)=(l[k]).page by omega] at hse
     have h4:=D3 (F:=F) (l[k]).page.toNat
     rw [show (((l[k]).page.toNat:Nat):Int)=(l[k]).page by omega] at h4
     have hsm:=g.small _ (x_ hk)
     have hbl:(bl (pg P (l[k]).page.toNat)).length=(pg P (l[k]).page.toNat).size:=rfl
     have hs2:=wq (a:=vg (q+1) 4++vg (l[k]).page.toNat 4) (b:=bl (pg P (l[k]).page.toNat)) (by rw [a_,uV,uV];omega)
     rw [BD] at hs2
     have hp:=yj (F:=F) 9 (xS q P (l[k]).page.toNat) (by decide) (by decide) (by rw [yw];omega)
     have hm:Ag ⟨P,(xq q P l).take k⟩ ((101+k:Nat):Int) (ofL (xp 9 (xS q P (l[k]).page.toNat))):=by
      refine⟨g.good1 (by omega) (fun w hw=>g.frw w (U_ hw)),hfr.1,?_,hfr.2.2,by show ((xq q P l).take k).length<400;omega⟩
      show ((101+k:Nat):Int)<(P.length:Int)
      rw [g.len];exact hfr.2.1
     rw [decide_eq_true (by omega),vh,wa,gge hk,uT,vo (n:=(q:Int)+1) (by omega) (by omega),show (q:Int)+1=((q+1:Nat):Int) by omega,D3,uT,h4,uT,
      wq (by rw [uV,uV];decide),uT,hse,uT,hs2,uT,show (DFrame.mk 9 (ofL (vg (q+1) 4++vg (l[k]).page.toNat 4++bl (pg P (l[k]).page.toNat))))=⟨((9:Nat):Int),ofL (xS q P (l[k]).page.toNat)⟩ from rfl,hp,uT]
     dsimp only
     rw [vo (n:=101+(k:Int)) (by omega) (by omega),show (101:Int)+(k:Int)=((101+k:Nat):Int) by omega,Ek hm,uT]
     dsimp only
     rw [xi (by simp;omega) (by simp;omega),uT,uT]
     dsimp only
     rw [vo (by omega) (by omega),E0,List.map_append,List.map_singleton,HT q P l k hk]
     rfl
 · have hkl:=(ggs.1 hk).1
   have hp:=s.fit.page e (i_ hk)
   have hse:=yR (F:=F) d e.page.toNat (by rw [s.seq.len];omega) (by have:=s.seq.good.nw;omega)
   rw [show ((e.page.toNat:Nat):Int)=e.page by omega] at hse
   rw [decide_eq_true (by omega),vh,wa,hk,uT,hse,uT]
   by_cases hb:2900<(vG d e.page.toNat).size
   · rw [if_pos hb,decide_eq_true (by omega),vh]
   · rw [if_neg hb,decide_eq_false (by omega),uY,vo (by omega) (by omega)]
end
end
section
variable {F:Nat} [Big F]
theorem yE (q:Nat)(P:List ByteArray)(h:ByteArray)(l:List DWrite):(BG q P h l).length=2*l.length+4:=by unfold BG;simp;omega
theorem yF (q:Nat)(P:List ByteArray)(h:ByteArray)(l:List DWrite):(xn q P h l).length=2*l.length+5:=by unfold xn;rw [a_,yE];rfl
theorem D4 (q:Nat)(hq:q≤2147483647)(h:ByteArray)(hh:h.size≤2900):BQ (hN q h)=some (q,h):=by
 have hl:(bl h).length=h.size:=rfl
 have hf:=Br 8 (vg q 4++bl h) [] (by decide) (by decide) (by rw [a_,uV];omega)
 rw [t6] at hf
 have hv:vu ((vg q 4++bl h).take 4)=q:=by
  rw [g9 (uV _ _),wA];exact V_ (by omega)
 have hd:(vg q 4++bl h).drop 4=bl h:=X_ (uV _ _)
 unfold BQ
 have e1:vW (bl (hN q h))=(⟨(8:Nat),ofL (vg q 4++bl h)⟩,(((vg q 4++bl h).length+5:Nat):Int),0):=hf
 have e2:bl (ofL (vg q 4++bl h))=vg q 4++bl h:=rfl
 rw [e1]
 dsimp only
 rw [e2,hv,hd,if_pos ⟨rfl,rfl,by rw [CF,a_,uV];omega,by omega⟩]
 rfl
theorem IK (q:Nat)(hq:q<2147483647)(P:List ByteArray)(p:Nat)(hp:p<4294967296)(hs:(pg P p).size≤2900):yL (ofL (xp 9 (xS q P p)))=some (q+1,p,pg P p):=by
 have hl:(bl (pg P p)).length=(pg P p).size:=rfl
 have hf:=Br 9 (xS q P p) [] (by decide) (by decide) (by rw [yw];omega)
 rw [t6] at hf
 have h4:(vg (q+1) 4++vg p 4++bl (pg P p))=vg (q+1) 4++(vg p 4++bl (pg P p)):=C_ ..
 have hv:vu ((xS q P p).take 4)=q+1:=by
  unfold xS
  rw [h4,g9 (uV _ _),wA];exact V_ (by omega)
 have hd:(xS q P p).drop 4=vg p 4++bl (pg P p):=by unfold xS;rw [h4];exact X_ (uV _ _)
 have hv2:vu (((xS q P p).drop 4).take 4)=p:=by
  rw [hd,g9 (uV _ _),wA];exact V_ (by omega)
 have hd8:(xS q P p).drop 8=bl (pg P p):=by
  have:(xS q P p).drop 8=((xS q P p).drop 4).drop 4:=by rw [List.drop_drop]
  rw [this,hd];exact X_ (uV _ _)
 unfold yL
 have e1:vW (bl (ofL (xp 9 (xS q P p))))=(⟨(9:Nat),ofL (xS q P p)⟩,(((xS q P p).length+5:Nat):Int),0):=hf
 have e2:bl (ofL (xS q P p))=xS q P p:=rfl
 rw [e1]
 dsimp only
 rw [e2,hv,hv2,hd8,if_pos ⟨rfl,rfl,by rw [CF,yw];omega⟩]
 rfl
section
variable {q:Nat} {P:List ByteArray} {h:ByteArray} {l:List DWrite}
theorem Ground.len4 (g:Ground q P h l):(P4 q P h l).length=201:=by unfold P4;rw [vC];exact g.len3
theorem IQ (g:Ground q P h l)(j:Nat)(hj:j<101):pg (P2 q P l) j=pg P j:=by
 unfold P2
 rw [wy (by rw [g.len];omega) (fun w hw=>(g.frw w hw).1),wY,R_]
 intro w hw
 obtain⟨k,_,rfl⟩:=xQ.1 hw
 show ((101+k:Nat):Int)≠(j:Int)
 omega
theorem DE {l:List DWrite}(h1:l.Pairwise fun a b=>a.page≠b.page){w:DWrite}(hw:w∈l):vZ l w.page=some w.text:=by
 induction l with
 | nil=>cases hw
 | cons v l ih =>
  rw [J_] at h1
  rw [vZ]
  rcases g_.1 hw with rfl | hw
  · rw [wY fun u hu e=>h1.1 u hu e.symm]
    dsimp only
    rw [if_pos rfl]
  · rw [ih h1.2 hw]
theorem Fu (g:Ground q P h l)(k:Nat)(hk:k<l.length):pg (P2 q P l) (101+k)=ofL (xp 9 (xS q P (l[k]).page.toNat)):=by
 unfold P2
 have:=g.fit.len
 rw [wy (by rw [g.len];omega) (fun w hw=>(g.frw w hw).1)]
 have hone:(xq q P l).Pairwise fun a b=>a.page≠b.page:=by
  rw [p8]
  intro i j hi hj hij
  rw [wh] at hi hj
  have e1:=zo q P l i hi
  have e2:=zo q P l j hj
  rw [gge (by rw [wh];exact hi)] at e1
  rw [gge (by rw [wh];exact hj)] at e2
  rw [l_.inj e1,l_.inj e2]
  show ((101+i:Nat):Int)≠((101+j:Nat):Int)
  omega
 have:=DE hone (xQ.2 ⟨k,hk,rfl⟩)
 rw [show (frW q P k l[k]).page=((101+k:Nat):Int) from rfl] at this
 rw [this];rfl
theorem HI (g:Ground q P h l)(j:Nat)(hj:101+l.length≤j)(hj2:j<201):pg (P2 q P l) j=pg P j:=by
 unfold P2
 rw [wy (by rw [g.len];omega) (fun w hw=>(g.frw w hw).1),wY,R_]
 intro w hw
 obtain⟨k,_,rfl⟩:=xQ.1 hw
 show ((101+k:Nat):Int)≠(j:Int)
 omega
theorem IR (g:Ground q P h l){w:DWrite}(hw:w∈l):pg (P3 q P l) w.page.toNat=w.text:=by
 have hp:=g.fit.page w hw
 unfold P3
 rw [wy (by rw [g.len2];omega) (fun w hw=>(g.okl w hw).1),show ((w.page.toNat:Nat):Int)=w.page by omega,DE g.fit.one hw];rfl
theorem BS (g:Ground q P h l)(j:Nat)(hj:j<201)(hne : ∀ w∈l,w.page≠(j:Int)):pg (P3 q P l) j=pg (P2 q P l) j:=by
 unfold P3
 rw [wy (by rw [g.len2];exact hj) (fun w hw=>(g.okl w hw).1),wY hne];rfl
theorem GT (g:Ground q P h l)(j:Nat)(hj:j<201):pg (P4 q P h l) j=if j=0 then hB q h else pg (P3 q P l) j:=by
 unfold P4
 rw [wy (by rw [g.len3];exact hj) (fun w hw=>by rw [t7.1 hw];exact P_ _)]
 show (vZ [⟨0,hB q h⟩] (j:Int)).getD _=_
 rw [vZ,vZ]
 dsimp only
 by_cases h0:j=0
 · rw [if_pos h0,if_pos (by omega)];rfl
 · rw [if_neg h0,if_neg (by omega)];rfl
theorem IP (g:Ground q P h l){w:DWrite}(hw:w∈l):pg (P4 q P h l) w.page.toNat=w.text:=by
 have hp:=g.fit.page w hw
 rw [GT g _ (by omega),if_neg (by omega),IR g hw]
theorem DJ (g:Ground q P h l)(j:Nat)(h1:1≤j)(hj:j<101)(hne : ∀ w∈l,w.page≠(j:Int)):pg (P4 q P h l) j=pg P j:=by
 rw [GT g j (by omega),if_neg (by omega),BS g j (by omega) hne,IQ g j hj]
theorem Iy (g:Ground q P h l)(n:Nat)(hn:(xn q P h l).length=n){i:Int}(hi:i=(n:Int)-1:=by first | rfl | decide):idx (xn q P h l) i=some ⟨P4 q P h l,[]⟩:=by
 subst hi
 rw [yF] at hn
 have:((n:Int)-1)=((2*l.length+4:Nat):Int):=by omega
 rw [this,wa]
 unfold xn
 rw [E1 (by rw [yE];exact g8 _),yE,Nat.sub_self];rfl
theorem Ground.size4 (g:Ground q P h l):∀ s∈P4 q P h l,s.size≤3500:=(xA (Cv g.mayH)).pages
theorem I4 (g:Ground q P h l):SeqOk ⟨P4 q P h l,[]⟩ (q+1) h:=by
 refine⟨⟨G_ g.len4,B_ _,g.size4,fun w h=>by cases h⟩,g.len4,?_⟩
 rw [za,GT g 0 (by decide),if_pos rfl]
 exact D4 (q+1) g.more h g.fit.head
end
def xH (q:Nat)(h:ByteArray):DDisk:=⟨(q_ 201 (ofL [])).set 0 (hN q h),[]⟩
theorem Ka:idx (q_ ((201:Int).toNat) ((N_ #[]):ByteArray)) 0=some (N_ #[]):=by
 unfold idx
 rw [if_neg (by decide)]
 show (q_ 201 (N_ #[]))[0]? = _
 rw [g6,if_pos (by decide)]
theorem Kv (j:Nat):pg (q_ 201 (ofL [])) j=ofL []:=by
 unfold pg
 rw [D_,g6]
 split <;> rfl
theorem Kq (q:Nat)(h:ByteArray)(hq:q≤2147483647)(hh:h.size≤2900):SeqOk (xH q h) q h:=by
 have hl:(xH q h).pages.length=201:=by show ((q_ 201 (ofL [])).set 0 (hN q h)).length=201;rw [y_,p6]
 refine⟨⟨G_ hl,B_ _,fun s hs=>?_,fun w hw=>by cases hw⟩,hl,?_⟩
 · rcases m9 hs with h1 | h1
   · rw [List.eq_of_mem_replicate h1];decide
   · rw [h1]
     show (xp 8 (vg q 4++bl h)).length≤3500
     have e:(bl h).length=h.size:=rfl
     rw [xO,a_,uV];omega
 · show BQ (pg ((q_ 201 (ofL [])).set 0 (hN q h)) 0)=_
   rw [yX _ _ _ _ (by rw [p6];decide),if_pos rfl]
   exact D4 q hq h hh
end
section
section
variable {F:Nat} [Big F] {q:Nat} {P:List ByteArray} {h t:ByteArray} {l:List DWrite}
structure Mid (q:Nat) (P Q:List ByteArray):Prop where
 len:Q.length=201
 size : ∀ s∈Q,s.size≤3500
 zero:pg Q 0=pg P 0
 olds : ∀ i,101≤i→i<201→∀ n p t,yL (pg Q i)=some (n,p,t)→q<n→n=q+1∧1≤p∧p<101∧t=pg P p
 news : ∀ j,1≤j→j<101→pg Q j=pg P j∨∃ i n t,101≤i∧i<101+100∧yL (pg Q i)=some (n,j,t)∧q<n
theorem Ir (g:Ground q P h l){k:Nat}(hk:k<l.length):yL (ofL (xp 9 (xS q P (l[k]).page.toNat)))=some (q+1,(l[k]).page.toNat,pg P (l[k]).page.toNat) :=
 IK q g.more P _ (by have:=g.fit.page _ (x_ hk);omega) (g.small _ (x_ hk))
theorem CO (g:Ground q P h l){k:Nat}(hk:k<l.length){n p:Nat}{t:ByteArray}(ho:yL (ofL (xp 9 (xS q P (l[k]).page.toNat)))=some (n,p,t)):n=q+1∧1≤p∧p<101∧t=pg P p:=by
 rw [Ir g hk] at ho
 have hp:=g.fit.page _ (x_ hk)
 obtain⟨rfl,h2⟩:=Prod.mk.inj (l_.inj ho)
 obtain⟨rfl,rfl⟩:=Prod.mk.inj h2
 exact⟨rfl,by omega,by omega,rfl⟩
theorem BU {ws:List DWrite}{ps:List ByteArray}(hp : ∀ s∈ps,s.size≤3500)(hl:ps.length=201)(hn:ws.length≤400)(hw : ∀ w∈ws,okW 201 w):∀ s∈apply ws ps,s.size≤3500 :=
 (xA (d:=⟨ps,ws⟩) ⟨G_ hl,hn,hp,fun w h=>by show okW ps.length w;rw [hl];exact hw w h⟩).pages
theorem Dz (ws:List DWrite):∀ bs:List Bool,(vT ws bs).length≤ws.length:=by
 induction ws with
 | nil=>intro bs;exact B_ _
 | cons w ws ih =>
  intro bs
  cases bs with
  | nil=>exact B_ _
  | cons b bs =>
   rw [vT]
   have:=ih bs
   split
   · simp;omega
   · simp;omega
theorem Ku (g:Ground q P h l)(hq : ∀ i,101≤i→i<201→ya q (pg P i)){ws:List DWrite}(hn:ws.length≤400)(hw : ∀ w∈ws,w∈xq q P l):Mid q P (apply ws P):=by
 have h0 : ∀ w∈ws,0≤w.page:=fun w hh=>(g.frw w (hw w hh)).1
 have hlow : ∀ j,j<101→pg (apply ws P) j=pg P j:=fun j hj=>by
  rw [wy (by rw [g.len];omega) h0,wY,R_]
  intro w hh
  obtain⟨k,_,rfl⟩:=xQ.1 (hw w hh)
  show ((101+k:Nat):Int)≠(j:Int)
  omega
 refine⟨by rw [vC];exact g.len,BU g.size g.len hn fun w hh=>g.frw w (hw w hh),hlow 0 (by decide),fun i h1 h2 n p t ho hlt=>?_,fun j h1 h2=>.inl (hlow j h2)⟩
 rw [wy (by rw [g.len];omega) h0] at ho
 cases hl:vZ ws (i:Int) with
 | none =>
  rw [hl,R_] at ho
  have:=hq i h1 h2 n p t ho
  omega
 | some u =>
  rw [hl,n9] at ho
  obtain⟨w,hh,_,rfl⟩:=Bw hl
  obtain⟨k,hk,rfl⟩:=xQ.1 (hw w hh)
  exact CO g hk ho
theorem JY (g:Ground q P h l)(hq : ∀ i,101≤i→i<201→ya q (pg P i))(i:Nat)(h1:101≤i)(h2:i<201):ya q (pg (P2 q P l) i)∨∃ k,∃ hk:k<l.length,i=101+k∧pg (P2 q P l) i=ofL (xp 9 (xS q P (l[k]).page.toNat)):=by
 by_cases hk:i-101<l.length
 · refine .inr ⟨i-101,hk,by omega,?_⟩
   have:=Fu g (i-101) hk
   rw [show 101+(i-101)=i by omega] at this
   exact this
 · left
   rw [HI g i (by omega) h2]
   exact hq i h1 h2
theorem IH (g:Ground q P h l)(hq : ∀ i,101≤i→i<201→ya q (pg P i)){ws:List DWrite}(hn:ws.length≤400)(hw : ∀ w∈ws,w∈l):Mid q P (apply ws (P2 q P l)):=by
 have h0 : ∀ w∈ws,0≤w.page:=fun w hh=>(g.okl w (hw w hh)).1
 have hfar : ∀ i,(i=0∨101≤i)→i<201→pg (apply ws (P2 q P l)) i=pg (P2 q P l) i:=fun i h1 h2=>by
  rw [wy (by rw [g.len2];omega) h0,wY,R_]
  intro w hh
  have:=g.fit.page w (hw w hh)
  omega
 refine⟨by rw [vC];exact g.len2,BU g.size2 g.len2 hn fun w hh=>g.okl w (hw w hh),by rw [hfar 0 (.inl rfl) (by decide),IQ g 0 (by decide)],fun i h1 h2 n p t ho hlt=>?_,fun j h1 h2=>?_⟩
 · rw [hfar i (.inr h1) h2] at ho
   rcases JY g hq i h1 h2 with hqu | ⟨k,hk,_,e⟩
   · have:=hqu n p t ho;omega
   · rw [e] at ho;exact CO g hk ho
 · by_cases hj : ∃ w∈l,w.page=(j:Int)
   · obtain⟨w,hwl,hp⟩:=hj
     obtain⟨k,hk,rfl⟩:=p7 hwl
     have hn:=g.fit.len
     refine .inr ⟨101+k,q+1,pg P (l[k]).page.toNat,by omega,by omega,?_,by omega⟩
     rw [hfar _ (.inr (by omega)) (by omega),Fu g k hk,Ir g hk,hp,j_]
   · left
     rw [wy (by rw [g.len2];omega) h0,wY,R_,IQ g j h2]
     intro w hh e
     exact hj ⟨w,hw w hh,e⟩
theorem JC (hd:Done ⟨P,[]⟩ q t){Q:List ByteArray}(m:Mid q P Q):SeqOk ⟨Q,[]⟩ q t:=by
 refine⟨⟨G_ m.len,B_ _,m.size,fun w hw=>by cases hw⟩,m.len,?_⟩
 have:=hd.ok.head
 rw [za] at this ⊢
 rw [m.zero];exact this
theorem DG {Q:List ByteArray}(m:Mid q P Q)(j:Nat)(h1:1≤j)(h2:j<101):pg (yo q Q 100) j=pg P j :=
 El m.len (pg P) m.olds 100 (g8 _) j h1 h2 (m.news j h1 h2)
theorem Kt (g:Ground q P h l)(hq : ∀ i,101≤i→i<201→ya q (pg P i)):Done ⟨P4 q P h l,[]⟩ (q+1) h:=by
 refine⟨I4 g,rfl,fun i h1 h2=>?_⟩
 show ya (q+1) (pg (P4 q P h l) i)
 rw [GT g i h2,if_neg (by omega),BS g i h2 (fun w hw=>by have:=g.fit.page w hw;omega)]
 rcases JY g hq i h1 h2 with hqu | ⟨k,hk,_,e⟩
 · exact hqu.mono (by omega)
 · rw [e]
   intro n p t ho
   have:=(CO g hk ho).1
   omega
theorem FY (g:Ground q P h l)(hq : ∀ i,101≤i→i<201→ya q (pg P i)){e:DDisk}(he:e∈BG q P h l)(bs:List Bool) :
 GoodD e∧(Mid q P (apply (vT e.writes bs) e.pages)∨apply (vT e.writes bs) e.pages=P4 q P h l):=by
 have hn:=g.fit.len
 unfold BG at he
 rw [g_,Y_,g_,Y_,u_,u_,g_,t7] at he
 rcases he with rfl | ⟨k,_,rfl⟩ | rfl | ⟨k,_,rfl⟩ | rfl | rfl
 · exact⟨g.good1 (B_ _) (fun w hw=>by cases hw),.inl (Ku (ws:=[]) g hq (B_ _) (fun w hw=>by cases hw))⟩
 · have hl:((xq q P l).take (k+1)).length≤400:=by rw [t_,wh];omega
   refine⟨g.good1 hl (fun w hw=>g.frw w (U_ hw)),.inl (Ku g hq ?_ (fun w hw=>U_ (DA _ _ w hw)))⟩
   exact O_ (Dz _ _) hl
 · exact⟨g.good2 (B_ _) (fun w hw=>by cases hw),.inl (IH (ws:=[]) g hq (B_ _) (fun w hw=>by cases hw))⟩
 · have hl:(l.take (k+1)).length≤400:=by rw [t_];omega
   refine⟨g.good2 hl (fun w hw=>g.okl w (U_ hw)),.inl (IH g hq ?_ (fun w hw=>U_ (DA _ _ w hw)))⟩
   exact O_ (Dz _ _) hl
 · exact⟨⟨G_ g.len3,B_ _,g.size3,fun w hw=>by cases hw⟩,.inl (IH (ws:=l) g hq (by omega) (fun w hw=>hw))⟩
 · refine⟨Cv g.mayH,?_⟩
   cases bs with
   | nil=>exact .inl (IH (ws:=l) g hq (by omega) (fun w hw=>hw))
   | cons b bs =>
    cases b with
    | true=>exact .inr rfl
    | false=>exact .inl (IH (ws:=l) g hq (by omega) (fun w hw=>hw))
end
end
section
def SpO (p e:DElem):Prop:=cmpS (uU p) (uU e)<0
theorem SpO.irrefl {e:DElem}(h:SpO e e):False:=by unfold SpO at h;rw [vc.refl] at h;omega
theorem SpO.asymm {a b:DElem}(h:SpO a b)(k:SpO b a):False:=by
 unfold SpO at h k;have:=vc.neg (uU a) (uU b);omega
theorem SpO.trans {a b c:DElem}(h:SpO a b)(k:SpO b c):SpO a c:=vc.lt_trans h k
theorem zJ {l:List DElem}(h:l.Pairwise Bef):l.Pairwise SpO:=h.imp fun hb=>hb.1
theorem Es : ∀ {l m:List DElem},l.Pairwise SpO→m.Pairwise SpO→(∀ e,e∈l↔e∈m)→l=m
 | [],[],_,_,_=>rfl
 | [],b::m,_,_,h=>by have:=(h b).2 (by simp);simp at this
 | a::l,[],_,_,h=>by have:=(h a).1 (by simp);simp at this
 | a::l,b::m,hl,hm,h=>by
  rw [J_] at hl hm
  have hab:a=b:=by
   have h1:=(h a).1 (by simp)
   have h2:=(h b).2 (by simp)
   rcases g_.1 h1 with h1 | h1
   · exact h1
   · rcases g_.1 h2 with h2 | h2
     · exact h2.symm
     · exact(SpO.asymm (hm.1 a h1) (hl.1 b h2)).elim
  subst hab
  congr 1
  refine Es hl.2 hm.2 fun e=>?_
  constructor
  · intro he
    rcases g_.1 ((h e).1 (f_ _ he)) with h1 | h1
    · subst h1;exact(SpO.irrefl (hl.1 _ he)).elim
    · exact h1
  · intro he
    rcases g_.1 ((h e).2 (f_ _ he)) with h1 | h1
    · subst h1;exact(SpO.irrefl (hm.1 _ he)).elim
    · exact h1
def FP (l:List DElem)(s:DSpot):List DElem:=l.filter fun x=>decide (cmpS (uU x) s<0)
def FM (l:List DElem)(s:DSpot):List DElem:=l.filter fun x=>decide (0<cmpS (uU x) s)
def Ga (l:List DElem)(e:DElem):List DElem:=FP l (uU e)++e::FM l (uU e)
theorem CD {l:List DElem}{s:DSpot}{x:DElem}:x∈FP l s↔x∈l∧cmpS (uU x) s<0:=by simp [FP]
theorem Au {l:List DElem}{s:DSpot}{x:DElem}:x∈FM l s↔x∈l∧0<cmpS (uU x) s:=by simp [FM]
theorem Fm {l:List DElem}{e x:DElem}:x∈Ga l e↔x=e∨x∈l∧uU x≠uU e:=by
 unfold Ga
 rw [Y_,g_,CD,Au]
 have h0:=vc.zero (uU x) (uU e)
 constructor
 · rintro(⟨h1,h2⟩ | h1 | ⟨h1,h2⟩)
   · exact .inr ⟨h1,fun h=>by rw [h0.2 h] at h2;omega⟩
   · exact .inl h1
   · exact .inr ⟨h1,fun h=>by rw [h0.2 h] at h2;omega⟩
 · rintro(h1 | ⟨h1,h2⟩)
   · exact .inr (.inl h1)
   · rcases Int.lt_trichotomy (cmpS (uU x) (uU e)) 0 with h | h | h
     · exact .inl ⟨h1,h⟩
     · exact(h2 (h0.1 h)).elim
     · exact .inr (.inr ⟨h1,h⟩)
theorem BR {l:List DElem}(h:l.Pairwise SpO)(e:DElem):(Ga l e).Pairwise SpO:=by
 unfold Ga
 rw [E2,J_]
 refine⟨h.sublist t9,⟨fun x hx=>vc.pos.1 (Au.1 hx).2,h.sublist t9⟩,fun a ha b hb=>?_⟩
 have h1:=(CD.1 ha).2
 rcases g_.1 hb with rfl | hb
 · exact h1
 · exact vc.lt_trans h1 (vc.pos.1 (Au.1 hb).2)
def zh (t:Int)(e:DElem):DElem:=if t<e.gone then { e with gone:=0 } else e
def DS (l:List DElem)(pfs t:Int):List DElem:=(l.filter fun e=>decide (e.made≤t)&&e.key.pfs == pfs).map (zh t)
def J7 (l:List DElem)(pfs from_ to:Int):List DElem:=(DS l pfs to).filter fun e=>decide (from_<vQ e)
theorem zY (t:Int)(e:DElem):(zh t e).key=e.key:=by unfold zh;split <;> rfl
theorem AF (t:Int)(e:DElem):(zh t e).made=e.made:=by unfold zh;split <;> rfl
theorem HV (t:Int)(e:DElem):(zh t e).val=e.val:=by unfold zh;split <;> rfl
theorem CR (t:Int)(e:DElem):uU (zh t e)=uU e:=by unfold uU;rw [zY,AF]
theorem CQ (t:Int)(e:DElem):(zh t e).gone=if t<e.gone then 0 else e.gone:=by unfold zh;split <;> rfl
theorem Jc {t:Int}{e:DElem}(h:vb e=0):vb (zh t e)=0:=by
 obtain⟨h1,h2,h3,h4,h5⟩:=wK h
 unfold vb
 rw [zY,AF,HV,CQ,if_neg (by rw [h1];simp),if_neg,if_neg (by omega)]
 split <;> omega
theorem Hz {l:List DElem}{pfs t:Int}{x:DElem}:x∈DS l pfs t↔∃ e∈l,e.made≤t∧e.key.pfs=pfs∧x=zh t e:=by
 simp only [DS,u_,List.mem_filter,Bool.and_eq_true,decide_eq_true_eq,beq_iff_eq]
 constructor
 · rintro⟨e,⟨h1,h2,h3⟩,rfl⟩;exact⟨e,h1,h2,h3,rfl⟩
 · rintro⟨e,h1,h2,h3,rfl⟩;exact⟨e,⟨h1,h2,h3⟩,rfl⟩
theorem Run.upto {l:List DElem}(h:Run l)(pfs t:Int):Run (DS l pfs t):=by
 refine⟨?_,fun x hx=>?_,?_⟩
 · unfold DS;rw [z_];exact O_ (List.length_filter_le _ _) h.len
 · obtain⟨e,he,_,_,rfl⟩:=Hz.1 hx
   exact Jc (h.ok e he)
 · unfold DS
   rw [List.pairwise_map]
   refine(h.ord.sublist t9).imp_of_mem fun {a b} ha hb hab=>?_
   have hb' : b.made≤t:=by have:=(List.mem_filter.1 hb).2;simp at this;exact this.1
   refine⟨by rw [CR,CR];exact hab.1,fun hk=>?_⟩
   rw [zY,zY] at hk
   have:=hab.2 hk
   rw [CQ,AF,if_neg (by omega)]
   exact this
theorem Run.fresh {l:List DElem}(h:Run l)(pfs a b:Int):Run (J7 l pfs a b):=(h.upto pfs b).sub t9
end
section
variable {F:Nat} [Big F]
def SpotO (a b:DSpot):Prop:=cmpS a b<0
def zE (s:DSpot):DElem:=⟨s.key,s.made,0,N_ #[]⟩
def wx (l:List DElem)(k:Nat)(e:DElem):Option Int :=
 if vb e≠0 then some (vb e) else match k with
  | 0=>none
  | j+1=>match l[j]? with
   | some p=>if 0≤cmpS (uU p) (uU e) then some 3 else none
   | none=>none
def Fh (n:DNode):Int :=
 if 0<n.kids.length∨0<n.seps.length∨0<n.tids.length then 3 else if 8<n.elems.length then 2 else (n.elems.zipIdx.findSome? fun p=>wx n.elems p.2 p.1).getD 0
def zt (ts:List Int)(k:Nat)(e:Int):Option Int :=
 if e<0∨400≤e then some 1 else if (ts[k]?).getD 0<0∨2147483647<(ts[k]?).getD 0 then some 9 else none
def Bl (l:List DSpot)(k:Nat)(s:DSpot):Option Int :=
 if vb (zE s)≠0 then some (vb (zE s)) else match k with
  | 0=>none
  | j+1=>match l[j]? with
   | some p=>if 0≤cmpS p s then some 3 else none
   | none=>none
def Cw (n:DNode):Int :=
 if 0<n.elems.length∨n.kids.length<2∨n.seps.length+1≠n.kids.length∨n.tids.length≠n.kids.length then 3
 else if 8<n.kids.length then 2
 else match n.kids.zipIdx.findSome? fun p=>zt n.tids p.2 p.1 with
  | some e=>e
  | none=>(n.seps.zipIdx.findSome? fun p=>Bl n.seps p.2 p.1).getD 0
def vq (n:DNode):Int :=
 if n.kind=0 then if 0<n.elems.length∨0<n.kids.length∨0<n.seps.length∨0<n.tids.length then 3 else 0
 else if n.kind=1 then Fh n else if n.kind=2 then Cw n else 3
theorem Ed (n:DNode):oO F n=some (Fh n):=by
 unfold oO Fh
 simp only [E3,E4,decide_eq_true_eq]
 by_cases h:0<n.kids.length∨0<n.seps.length∨0<n.tids.length
 · rw [if_pos h,if_pos (by omega)]
 rw [if_neg h,if_neg (by omega)]
 by_cases h8:8<n.elems.length
 · rw [if_pos h8,if_pos (by omega)]
 rw [if_neg h8,if_neg (by omega)]
 rw [w8 n.elems (fun k e=>(wx n.elems k e).map o5) (.inl ()) (by omega) rfl (fun k e hk hb=>?_) (by simp)]
 · rw [wC,obs]
   cases (n.elems.zipIdx.findSome? fun p=>wx n.elems p.2 p.1) <;> rfl
 · have hkl:=(ggs.1 hk).1
   rw [if_pos (by omega),uX,hk,obs,vH,obs]
   unfold wx
   by_cases hc:vb e=0
   · rw [if_neg (show ¬ ((vb e != 0)=true) by simpa using hc),if_neg (show ¬ (vb e≠0) by simpa using hc)]
     cases k with
     | zero =>
      rw [if_neg (show ¬ ((0:Int)<((0:Nat):Int)) by omega),w64 (by omega) (by omega)];rfl
     | succ j =>
      obtain⟨p,hp⟩ : ∃ p,n.elems[j]? = some p:=⟨_,gge (by omega)⟩
      have e1:IntKind.i64.wrap (((j+1:Nat):Int)-1)=(j:Int):=by rw [w64 (by omega) (by omega)];omega
      rw [if_pos (show (0:Int)<((j+1:Nat):Int) by omega),e1,uX,hp]
      simp only [obs,vf,vx,decide_eq_true_eq,hp]
      by_cases hs:0≤cmpS (uU p) (uU e)
      · rw [if_pos hs,if_pos hs];rfl
      · rw [if_neg hs,if_neg hs,w64 (by omega) (by omega)];rfl
   · rw [if_pos (show ((vb e != 0)=true) by simpa using hc),if_pos (show (vb e≠0) by simpa using hc)];rfl
theorem C9 (n:DNode)(hn:n.kids.length≤9000000000000000000)(hs:n.seps.length≤9000000000000000000):nZ F n=some (Cw n):=by
 unfold nZ Cw
 simp only [E3,E4,decide_eq_true_eq,bne_iff_ne,ne_eq]
 rw [w64 (n:=(n.kids.length:Int)-1) (by omega) (by omega)]
 by_cases h:0<n.elems.length∨n.kids.length<2∨n.seps.length+1≠n.kids.length∨n.tids.length≠n.kids.length
 · rw [if_pos h,if_pos (by omega)]
 rw [if_neg h,if_neg (by omega)]
 by_cases h8:8<n.kids.length
 · rw [if_pos h8,if_pos (by omega)]
 rw [if_neg h8,if_neg (by omega)]
 rw [w8 n.kids (fun k e=>(zt n.tids k e).map o5) (.inl ()) (by omega) rfl (fun k e hk hb=>?_) (by simp)]
 · rw [wC,obs]
   cases (n.kids.zipIdx.findSome? fun p=>zt n.tids p.2 p.1) with
   | some e=>rfl
   | none =>
    show (iter _ F (0:Int)).bind _=_
    rw [w8 n.seps (fun k e=>(Bl n.seps k e).map o5) (.inl ()) (by omega) rfl (fun k e hk hb=>?_) (by simp)]
    · rw [wC,obs]
      cases (n.seps.zipIdx.findSome? fun p=>Bl n.seps p.2 p.1) <;> rfl
    · have hkl:=(ggs.1 hk).1
      rw [if_pos (by omega),uX,hk,obs,vH,obs]
      unfold Bl
      show (if ¬ vb (zE e)=0 then _ else _)=_
      by_cases hc:vb (zE e)=0
      · rw [if_neg (show ¬ ¬ (vb (zE e)=0) by simpa using hc),if_neg (show ¬ (vb (zE e)≠0) by simpa using hc)]
        cases k with
        | zero =>
         rw [if_neg (show ¬ ((0:Int)<((0:Nat):Int)) by omega),w64 (by omega) (by omega)];rfl
        | succ j =>
         obtain⟨p,hp⟩ : ∃ p,n.seps[j]? = some p:=⟨_,gge (by omega)⟩
         have e1:IntKind.i64.wrap (((j+1:Nat):Int)-1)=(j:Int):=by rw [w64 (by omega) (by omega)];omega
         rw [if_pos (show (0:Int)<((j+1:Nat):Int) by omega),e1,uX,hp]
         simp only [obs,vx,decide_eq_true_eq,hp]
         by_cases hs:0≤cmpS p e
         · rw [if_pos hs,if_pos hs];rfl
         · rw [if_neg hs,if_neg hs,w64 (by omega) (by omega)];rfl
      · rw [if_pos (show ¬ (vb (zE e)=0) from hc),if_pos (show (vb (zE e)≠0) from hc)];rfl
 · have hkl:=(ggs.1 hk).1
   rw [if_pos (by omega),uX,hk,obs]
   unfold zt
   by_cases h1:e<0∨400≤e
   · rw [if_pos h1,if_pos h1];rfl
   · obtain⟨t,ht⟩ : ∃ t,n.tids[k]? = some t:=⟨_,gge (by omega)⟩
     rw [if_neg h1,if_neg h1,uX,ht,obs,n9]
     by_cases h2:t<0∨2147483647<t
     · rw [if_pos h2,if_pos h2];rfl
     · rw [if_neg h2,if_neg h2,w64 (by omega) (by omega)];rfl
structure Small (n:DNode):Prop where
 elems:n.elems.length≤9000000000000000000
 kids:n.kids.length≤9000000000000000000
 seps:n.seps.length≤9000000000000000000
 tids:n.tids.length≤9000000000000000000
theorem yD (n:DNode)(h:Small n):l8 F n=some (vq n):=by
 unfold l8 vq
 simp only [E3,E4,decide_eq_true_eq,beq_iff_eq]
 by_cases h0:n.kind=0
 · rw [if_pos h0,if_pos h0]
   by_cases h1:0<n.elems.length∨0<n.kids.length∨0<n.seps.length∨0<n.tids.length
   · rw [if_pos h1,if_pos (by omega)]
   · rw [if_neg h1,if_neg (by omega)]
 rw [if_neg h0,if_neg h0]
 by_cases h1:n.kind=1
 · rw [if_pos h1,if_pos h1,Ed];rfl
 rw [if_neg h1,if_neg h1]
 by_cases h2:n.kind=2
 · rw [if_pos h2,if_pos h2,C9 n h.kids h.seps];rfl
 · rw [if_neg h2,if_neg h2]
structure Leaf (n:DNode):Prop where
 kids:n.kids=[]
 seps:n.seps=[]
 tids:n.tids=[]
 len:n.elems.length≤8
 ok : ∀ e∈n.elems,vb e=0
 ord:n.elems.Pairwise SpO
structure Inner (n:DNode):Prop where
 elems:n.elems=[]
 two:2≤n.kids.length
 eight:n.kids.length≤8
 seps:n.seps.length+1=n.kids.length
 tids:n.tids.length=n.kids.length
 kid : ∀ k∈n.kids,0≤k∧k<400
 tid : ∀ t∈n.tids,0≤t∧t≤2147483647
 ok : ∀ s∈n.seps,vb (zE s)=0
 ord:n.seps.Pairwise SpotO
theorem xL {α:Type}{R:α→α→Prop}(ht : ∀ a b c,R a b→R b c→R a c):∀ {l:List α},(∀ j p e,l[j]? = some p→l[j+1]? = some e→R p e)→l.Pairwise R
 | [],_=>List.Pairwise.nil
 | [a],_=>List.pairwise_singleton _ _
 | a::b::l,h=>by
  have ih:=xL ht (l:=b::l) fun j p e h1 h2=>h (j+1) p e h1 h2
  have hab:=h 0 a b rfl rfl
  rw [J_]
  refine⟨fun x hx=>?_,ih⟩
  rcases g_.1 hx with rfl | hx
  · exact hab
  · rw [J_] at ih
    exact ht _ _ _ hab (ih.1 x hx)
theorem wi {α:Type}{R:α→α→Prop}{l:List α}(h:l.Pairwise R){i j:Nat}{a b:α}(hij:i<j)(ha:l[i]? = some a)(hb:l[j]? = some b):R a b:=by
 obtain⟨h1,rfl⟩:=ggs.1 ha
 obtain⟨h2,rfl⟩:=ggs.1 hb
 exact p8.1 h i j h1 h2 hij
theorem wZ {l:List DElem}{k:Nat}{e:DElem}:wx l k e=none↔vb e=0∧∀ j p,k=j+1→l[j]? = some p→SpO p e:=by
 unfold wx
 by_cases hc:vb e=0
 · rw [if_neg (by simpa using hc)]
   cases k with
   | zero=>exact ⟨fun _=>⟨hc,fun j p h=>by omega⟩,fun _=>rfl⟩
   | succ j =>
    dsimp only
    constructor
    · intro h
      refine⟨hc,fun j' p hj hp=>?_⟩
      obtain rfl:j=j':=by omega
      rw [hp] at h
      dsimp only at h
      split at h
      · cases h
      · unfold SpO;omega
    · rintro⟨_,h⟩
      cases hp:l[j]? with
      | none=>rfl
      | some p =>
       have:=h j p rfl hp
       unfold SpO at this
       dsimp only
       rw [if_neg (by omega)]
 · rw [if_pos (by simpa using hc)]
   constructor
   · intro h;cases h
   · exact fun h=>absurd h.1 hc
theorem AC {l:List DSpot}{k:Nat}{e:DSpot}:Bl l k e=none↔vb (zE e)=0∧∀ j p,k=j+1→l[j]? = some p→SpotO p e:=by
 unfold Bl
 by_cases hc:vb (zE e)=0
 · rw [if_neg (by simpa using hc)]
   cases k with
   | zero=>exact ⟨fun _=>⟨hc,fun j p h=>by omega⟩,fun _=>rfl⟩
   | succ j =>
    dsimp only
    constructor
    · intro h
      refine⟨hc,fun j' p hj hp=>?_⟩
      obtain rfl:j=j':=by omega
      rw [hp] at h
      dsimp only at h
      split at h
      · cases h
      · unfold SpotO;omega
    · rintro⟨_,h⟩
      cases hp:l[j]? with
      | none=>rfl
      | some p =>
       have:=h j p rfl hp
       unfold SpotO at this
       dsimp only
       rw [if_neg (by omega)]
 · rw [if_pos (by simpa using hc)]
   constructor
   · intro h;cases h
   · exact fun h=>absurd h.1 hc
theorem Er {l:List DElem}{k:Nat}{e:DElem}:wx l k e≠some 0:=by
 unfold wx
 by_cases hc:vb e=0
 · rw [if_neg (by simpa using hc)]
   cases k with
   | zero=>simp
   | succ j=>dsimp only;split <;> (try split) <;> simp
 · rw [if_pos (by simpa using hc)];simpa using hc
theorem FC {l:List DSpot}{k:Nat}{e:DSpot}:Bl l k e≠some 0:=by
 unfold Bl
 by_cases hc:vb (zE e)=0
 · rw [if_neg (by simpa using hc)]
   cases k with
   | zero=>simp
   | succ j=>dsimp only;split <;> (try split) <;> simp
 · rw [if_pos (by simpa using hc)];simpa using hc
theorem Ff {l:List Int}{k:Nat}{e:Int}:zt l k e≠some 0:=by
 unfold zt;split
 · simp
 · split <;> simp
theorem Ds {α:Type}{l:List α}{w:Nat→α→Option Int}(hw : ∀ k e,w k e≠some 0):((l.zipIdx.findSome? fun p=>w p.2 p.1).getD 0=0)↔∀ k e,l[k]? = some e→w k e=none:=by
 rw [← xx]
 cases hf:(l.zipIdx.findSome? fun p=>w p.2 p.1) with
 | none=>simp
 | some r =>
  obtain⟨k,e,_,h⟩:=yH hf
  constructor
  · intro h0
    simp at h0
    subst h0
    exact absurd h (hw k e)
  · intro h0;cases h0
theorem Gf {n:DNode}:Fh n=0↔Leaf n:=by
 unfold Fh
 by_cases h:0<n.kids.length∨0<n.seps.length∨0<n.tids.length
 · rw [if_pos h]
   constructor
   · intro h0;cases h0
   · rintro⟨h1,h2,h3,_⟩;rw [h1,h2,h3] at h;simp at h
 rw [if_neg h]
 have e1:n.kids=[]:=W_.1 (by omega)
 have e2:n.seps=[]:=W_.1 (by omega)
 have e3:n.tids=[]:=W_.1 (by omega)
 by_cases h8:8<n.elems.length
 · rw [if_pos h8]
   constructor
   · intro h0;cases h0
   · intro h0;have:=h0.len;omega
 rw [if_neg h8,Ds (w:=wx n.elems) (fun k e=>Er)]
 constructor
 · intro hn
   refine⟨e1,e2,e3,by omega,fun e he=>?_,xL (R:=SpO) (l:=n.elems) (fun a b c h1 h2=>SpO.trans h1 h2) (fun j p e hp he=>?_)⟩
   · obtain⟨k,hk⟩:=p_.1 he
     exact(wZ.1 (hn k e hk)).1
   · exact(wZ.1 (hn (j+1) e he)).2 j p rfl hp
 · intro hl k e hk
   refine wZ.2 ⟨hl.ok e (i_ hk),fun j p hj hp=>wi hl.ord (i:=j) (j:=k) (by omega) hp hk⟩
theorem SpotO.trans {a b c:DSpot}(h:SpotO a b)(k:SpotO b c):SpotO a c:=vc.lt_trans h k
theorem Fb {n:DNode}:Cw n=0↔Inner n:=by
 unfold Cw
 by_cases h:0<n.elems.length∨n.kids.length<2∨n.seps.length+1≠n.kids.length∨n.tids.length≠n.kids.length
 · rw [if_pos h]
   constructor
   · intro h0;cases h0
   · rintro⟨h1,h2,h3,h4,h5,_⟩;rw [h1] at h;simp at h;omega
 rw [if_neg h]
 have e1:n.elems=[]:=W_.1 (by omega)
 by_cases h8:8<n.kids.length
 · rw [if_pos h8]
   constructor
   · intro h0;cases h0
   · intro h0;have:=h0.eight;omega
 rw [if_neg h8]
 have hkids:(∀ k e,n.kids[k]? = some e→zt n.tids k e=none)↔(∀ k∈n.kids,0≤k∧k<400)∧∀ t∈n.tids,0≤t∧t≤2147483647:=by
  constructor
  · intro hn
    refine⟨fun e he=>?_,fun t ht=>?_⟩
    · obtain⟨k,hk⟩:=p_.1 he
      have:=hn k e hk
      unfold zt at this
      split at this
      · cases this
      · omega
    · obtain⟨k,hk⟩:=p_.1 ht
      have hkl:=(ggs.1 hk).1
      have:=hn k _ (gge (show k<n.kids.length by omega))
      unfold zt at this
      rw [hk] at this
      split at this
      · cases this
      · split at this
        · cases this
        · rename_i h2 h3
          simp only [n9] at h3
          omega
  · rintro⟨h1,h2⟩ k e hk
    have hkl:=(ggs.1 hk).1
    have g1:=h1 e (i_ hk)
    have hlt:k<n.tids.length:=by omega
    have g2:=h2 _ (x_ hlt)
    unfold zt
    rw [if_neg (by omega),gge hlt,n9,if_neg (by omega)]
 cases hf:(n.kids.zipIdx.findSome? fun p=>zt n.tids p.2 p.1) with
 | some r =>
  obtain⟨k,e,hk,hr⟩:=yH hf
  dsimp only
  constructor
  · intro h0;subst h0;exact absurd hr Ff
  · intro hi
    have:=hkids.2 ⟨hi.kid,hi.tid⟩ k e hk
    rw [this] at hr;cases hr
 | none =>
  have hk:=hkids.1 (xx.1 hf)
  dsimp only
  rw [Ds (w:=Bl n.seps) (fun k e=>FC)]
  constructor
  · intro hn
    refine⟨e1,by omega,by omega,by omega,by omega,hk.1,hk.2,fun e he=>?_,xL (R:=SpotO) (l:=n.seps) (fun a b c h1 h2=>SpotO.trans h1 h2) (fun j p e hp he=>?_)⟩
    · obtain⟨k,hk⟩:=p_.1 he
      exact(AC.1 (hn k e hk)).1
    · exact(AC.1 (hn (j+1) e he)).2 j p rfl hp
  · intro hl k e hk
    refine AC.2 ⟨hl.ok e (i_ hk),fun j p hj hp=>wi hl.ord (i:=j) (j:=k) (by omega) hp hk⟩
def Kr (n:DNode):Prop:=n.elems=[]∧n.kids=[]∧n.seps=[]∧n.tids=[]
theorem vz {n:DNode}:vq n=0↔(n.kind=0∧Kr n)∨(n.kind=1∧Leaf n)∨(n.kind=2∧Inner n):=by
 unfold vq Kr
 by_cases h0:n.kind=0
 · rw [if_pos h0]
   have:(n.elems=[]∧n.kids=[]∧n.seps=[]∧n.tids=[])↔¬ (0<n.elems.length∨0<n.kids.length∨0<n.seps.length∨0<n.tids.length):=by
    rw [← W_,← W_,← W_,← W_];omega
   rw [this]
   split
   · rename_i h;simp [h0,h]
   · rename_i h;simp [h0,h]
 rw [if_neg h0]
 by_cases h1:n.kind=1
 · rw [if_pos h1,Gf];simp [h1]
 rw [if_neg h1]
 by_cases h2:n.kind=2
 · rw [if_pos h2,Fb];simp [h2]
 · rw [if_neg h2];simp [h0,h1,h2]
def maxI (a b:Int):Int:=if a<b then b else a
def ve (n:DNode):Int:=n.tids.foldl maxI (n.elems.foldl (fun t e=>maxI t (vQ e)) 0)
theorem wg (n:DNode)(h:Small n):jl F n=some (ve n):=by
 unfold jl ve
 have h1:=h.elems
 have h2:=h.tids
 rw [wr n.elems (fun t e=>maxI t (vQ e)) 0 (r:=n.elems.foldl (fun t e=>maxI t (vQ e)) 0) (by omega) rfl (fun k e hk=>?_) (by simp),obs]
 · rw [wr n.tids maxI (n.elems.foldl (fun t e=>maxI t (vQ e)) 0) (r:=n.tids.foldl maxI (n.elems.foldl (fun t e=>maxI t (vQ e)) 0)) (by omega) rfl (fun k e hk=>?_) (by simp),obs]
   have hkl:=(ggs.1 hk).1
   dsimp only
   rw [decide_eq_true (by omega),cond_true,uX,hk,obs,w64 (by omega) (by omega)];rfl
 · have hkl:=(ggs.1 hk).1
   dsimp only
   rw [decide_eq_true (by omega),cond_true,uX,hk,obs,AO,obs,w64 (by omega) (by omega)];rfl
theorem Bt {α:Type}(g:α→Int):∀(l:List α) (a:Int),a≤l.foldl (fun t e=>maxI t (g e)) a∧(∀ e∈l,g e≤l.foldl (fun t e=>maxI t (g e)) a)∧(l.foldl (fun t e=>maxI t (g e)) a=a∨∃ e∈l,g e=l.foldl (fun t e=>maxI t (g e)) a)
 | [],a=>⟨P_ _,fun e he=>by simp at he,.inl rfl⟩
 | x::l,a=>by
  obtain⟨h1,h2,h3⟩:=Bt g l (maxI a (g x))
  rw [E_]
  have hm:a≤maxI a (g x)∧g x≤maxI a (g x)∧(maxI a (g x)=a∨maxI a (g x)=g x):=by unfold maxI;split <;> omega
  refine⟨by omega,fun e he=>?_,?_⟩
  · rcases g_.1 he with rfl | he
    · omega
    · exact h2 e he
  · rcases h3 with h3 | ⟨e,he,h3⟩
    · rcases hm.2.2 with h4 | h4
      · left;omega
      · right;exact⟨x,by simp,by omega⟩
    · right;exact⟨e,f_ _ he,h3⟩
theorem Al (n:DNode):(∀ e∈n.elems,vQ e≤ve n)∧(∀ t∈n.tids,t≤ve n)∧(ve n=0∨(∃ e∈n.elems,vQ e=ve n)∨∃ t∈n.tids,t=ve n):=by
 unfold ve
 obtain⟨h1,h2,h3⟩:=Bt vQ n.elems 0
 obtain⟨g1,g2,g3⟩:=Bt (fun t=>t) n.tids (n.elems.foldl (fun t e=>maxI t (vQ e)) 0)
 have ee:(fun t e=>maxI t ((fun t=>t) e))=maxI:=rfl
 rw [ee] at g1 g2 g3
 refine⟨fun e he=>Int.le_trans (h2 e he) g1,g2,?_⟩
 rcases g3 with g3 | ⟨t,ht,g3⟩
 · rw [g3]
   rcases h3 with h3 | ⟨e,he,h3⟩
   · exact .inl h3
   · exact .inr (.inl ⟨e,he,h3⟩)
 · exact .inr (.inr ⟨t,ht,g3⟩)
def xV (l:List DSpot)(s:DSpot):Nat:=(l.takeWhile fun x=>decide (cmpS x s≤0)).length
theorem Cj (l:List DSpot)(s:DSpot):xV l s≤l.length:=(List.takeWhile_sublist _).length_le
theorem EB (l:List DSpot)(s:DSpot):(∀ j x,j<xV l s→l[j]? = some x→cmpS x s≤0)∧∀ x,l[xV l s]? = some x→¬ cmpS x s≤0:=by
 unfold xV
 induction l with
 | nil=>exact ⟨fun j x _ h=>by simp at h,fun x h=>by simp at h⟩
 | cons a l ih =>
  by_cases ha:cmpS a s≤0
  · rw [List.takeWhile_cons_of_pos (by simpa using ha),K_]
    refine⟨fun j x hj hx=>?_,fun x hx=>ih.2 x hx⟩
    cases j with
    | zero=>cases hx;exact ha
    | succ j=>exact ih.1 j x (by omega) hx
  · rw [List.takeWhile_cons_of_neg (by simpa using ha)]
    exact⟨fun j x hj _=>by simp at hj,fun x hx=>by cases hx;exact ha⟩
theorem xR (n:DNode)(s:DSpot)(h:Small n):mE F n s=some (xV n.seps s:Int):=by
 unfold mE
 have h1:=h.seps
 have hle:=Cj n.seps s
 obtain⟨w1,w2⟩:=EB n.seps s
 rw [vE (s:=0) (fun k=>(k:Int)) (xV n.seps s) (r:=(xV n.seps s:Int)) rfl (by omega) (fun k hk=>?_) ?_,obs]
 · by_cases hl:xV n.seps s<n.seps.length
   · have hx:=gge hl
     rw [decide_eq_true (by omega),cond_true,uX,hx,obs,vx,obs,obs,decide_eq_false (w2 _ hx),cond_false]
   · rw [decide_eq_false (by omega),cond_false,obs,cond_false]
 · have hx:=gge (show k<n.seps.length by omega)
   rw [decide_eq_true (by omega),cond_true,uX,hx,obs,vx,obs,obs,decide_eq_true (w1 k _ hk hx),cond_true,w64 (by omega) (by omega)];rfl
end
section
open Go.ChangeShapes
variable {F:Nat} [Big F]
def eb (a b c d g:Nat)(v:List UInt8):List UInt8:=vg a 1++(vg b 4++(vg c 4++(vg d 4++(vg g 4++(vg v.length 1++v)))))
def mkE (a b c d g:Nat)(v:List UInt8):DElem:=⟨⟨a,b,c⟩,d,g,ofL v⟩
def Fit (a b c d g:Nat)(v:List UInt8):Prop:=a≤15∧b≤1048576∧c≤1073741824∧1≤d∧d≤2147483647∧(g=0∨d<g∧g≤2147483647)∧v.length≤40
theorem Dl (a b c d g:Nat)(v:List UInt8):(eb a b c d g v).length=18+v.length:=by
 simp [eb,uV];omega
theorem F4 {e:DElem}(h:vb e=0):∃ a b c d g v,e=mkE a b c d g v∧Fit a b c d g v:=by
 obtain⟨⟨pfs,obj,off⟩,made,gone,val⟩:=e
 obtain⟨v,rfl⟩:=F2 val
 obtain⟨h1,h2,h3,h4,h5⟩:=wK h
 unfold AN at h1
 dsimp only at h1 h2 h3 h4 h5
 split at h1
 · cases h1
 · rename_i h1'
   refine⟨pfs.toNat,obj.toNat,off.toNat,made.toNat,gone.toNat,v,?_,by omega,by omega,by omega,by omega,by omega,by omega,h5⟩
   unfold mkE
   congr 1
   · congr 1 <;> omega
   · omega
   · omega
theorem DY {a b c d g:Nat}{v:List UInt8}(h:Fit a b c d g v):vb (mkE a b c d g v)=0:=by
 obtain⟨h1,h2,h3,h4,h5,h6,h7⟩:=h
 unfold vb AN mkE
 dsimp only
 rw [if_neg (by rw [if_neg (by omega)];simp),if_neg (by omega),if_neg (show ¬ 40<(ofL v).size from (by omega : ¬ 40<v.length))]
theorem Cp {e:DElem}(h:vb e≠0):mN F e=some (ofL [],vb e):=by
 have hbig:Big F:=inferInstance
 unfold mN
 rw [vH,uT,show (vb e != 0)=true by simpa using h,vh];rfl
theorem BW {a b c d g:Nat}{v:List UInt8}(h:Fit a b c d g v):mN F (mkE a b c d g v)=some (ofL (eb a b c d g v),0):=by
 unfold mN
 have hv:=h.2.2.2.2.2.2
 have p : ∀ n m:Nat,m≤100→ko F (n:Int) (m:Int)=some (ofL (vg n m)):=xw
 rw [vH,uT,DY h,show ((0:Int) != 0)=false by decide,uY]
 dsimp only [mkE]
 have q1:ko F (a:Int) 1=some (ofL (vg a 1)):=p a 1 (by decide)
 have q2:ko F (b:Int) 4=some (ofL (vg b 4)):=p b 4 (by decide)
 have q3:ko F (c:Int) 4=some (ofL (vg c 4)):=p c 4 (by decide)
 have q4:ko F (d:Int) 4=some (ofL (vg d 4)):=p d 4 (by decide)
 have q5:ko F (g:Int) 4=some (ofL (vg g 4)):=p g 4 (by decide)
 have q6:ko F ((ofL v).size:Int) 1=some (ofL (vg v.length 1)):=p v.length 1 (by decide)
 have s : ∀ x y:List UInt8,x.length≤100→y.length≤100→mv (ofL x) (ofL y)=some (ofL (x++y)):=fun x y hx hy=>wq (by omega)
 rw [q1,uT,q2,uT,s _ _ (by simp [uV]) (by simp [uV]),uT,q3,uT,s _ _ (by simp [uV]) (by simp [uV]),uT,q4,uT,s _ _ (by simp [uV]) (by simp [uV]),uT,
  q5,uT,s _ _ (by simp [uV]) (by simp [uV]),uT,q6,uT,s _ _ (by simp [uV]) (by simp [uV]),uT,s _ _ (by simp [uV]) (by omega),uT]
 simp only [eb,C_]
def slc (l:List UInt8)(a b:Nat):List UInt8:=(l.take b).drop a
def JZ:DElem:=⟨⟨0,0,0⟩,0,0,ofL []⟩
def C8 (l:List UInt8):DElem:=mkE (l.getD 0 0).toNat (vu (slc l 1 5)) (vu (slc l 5 9)) (vu (slc l 9 13)) (vu (slc l 13 17)) (slc l 18 (18+(l.getD 17 0).toNat))
def vR (l:List UInt8):DElem × Int × Int :=
 if l.length<18∨l.length<18+(l.getD 17 0).toNat then (JZ,0,7)
 else if vb (C8 l)≠0 then (JZ,0,3) else (C8 l,((18+(l.getD 17 0).toNat:Nat):Int),0)
theorem yp {l:List UInt8}{a b:Nat}(h:a≤b)(hb:b≤l.length):jN (ofL l) (a:Int) (b:Int)=some (ofL (slc l a b)):=by
 rw [vY (by omega) (by omega) (by omega),j_,j_];rfl
theorem xd {l:List UInt8}{a b:Nat}(hb:b≤l.length):(slc l a b).length=b-a:=by
 rw [slc,v_,t_];omega
theorem G2 {l:List UInt8}{k:Nat}(h:k<l.length):qc (ofL l) (k:Int)=some (l.getD k 0):=by
 rw [yM,if_pos (by omega),j_,D_,gge h];rfl
theorem BM (l:List UInt8):ou F (ofL l)=some (vR l):=by
 unfold ou vR
 have hb:=(l.getD 17 0).toNat_lt
 have w1:IntKind.i64.wrap ((l.getD 17 0).toNat:Int)=((l.getD 17 0).toNat:Int):=vo (by omega) (by omega)
 have w2:IntKind.i64.wrap (18+((l.getD 17 0).toNat:Int))=((18+(l.getD 17 0).toNat:Nat):Int):=by rw [vo (by omega) (by omega)];omega
 by_cases h18:l.length<18
 · rw [if_pos (.inl h18),decide_eq_true (show ((ofL l).size:Int)<18 from (by omega:(l.length:Int)<18)),vh,uT,vh];rfl
 · have hi17:qc (ofL l) 17=some (l.getD 17 0):=G2 (k:=17) (by omega)
   have hi0:qc (ofL l) 0=some (l.getD 0 0):=G2 (k:=0) (by omega)
   rw [decide_eq_false (show ¬ ((ofL l).size:Int)<18 from (by omega : ¬ (l.length:Int)<18)),uY,hi17,uT,w1,w2,uT]
   by_cases hn:l.length<18+(l.getD 17 0).toNat
   · rw [if_pos (.inr hn),decide_eq_true (show ((ofL l).size:Int)<((18+(l.getD 17 0).toNat:Nat):Int) from (by omega:(l.length:Int)<_)),vh];rfl
   · have g : ∀ x y:Nat,x≤y→y≤17→y-x≤7→kD F (ofL (slc l x y))=some ((vu (slc l x y):Nat):Int):=fun x y h1 h2 h3=>wU _ (by rw [xd (by omega)];exact h3)
     have s1:jN (ofL l) 1 5=some (ofL (slc l 1 5)):=yp (a:=1) (b:=5) (by decide) (by omega)
     have s2:jN (ofL l) 5 9=some (ofL (slc l 5 9)):=yp (a:=5) (b:=9) (by decide) (by omega)
     have s3:jN (ofL l) 9 13=some (ofL (slc l 9 13)):=yp (a:=9) (b:=13) (by decide) (by omega)
     have s4:jN (ofL l) 13 17=some (ofL (slc l 13 17)):=yp (a:=13) (b:=17) (by decide) (by omega)
     have s5:jN (ofL l) 18 ((18+(l.getD 17 0).toNat:Nat):Int)=some (ofL (slc l 18 (18+(l.getD 17 0).toNat))):=yp (a:=18) (by omega) (by omega)
     have hb0:=(l.getD 0 0).toNat_lt
     rw [if_neg (by omega),decide_eq_false (show ¬ ((ofL l).size:Int)<((18+(l.getD 17 0).toNat:Nat):Int) from (by omega : ¬ (l.length:Int)<_)),uY,hi0,uT,w1,w2,uT,s5,uT,s1,uT,g 1 5 (by decide) (by decide) (by decide),uT,uT,
      s2,uT,g 5 9 (by decide) (by decide) (by decide),uT,uT,s3,uT,g 9 13 (by decide) (by decide) (by decide),uT,uT,s4,uT,g 13 17 (by decide) (by decide) (by decide),uT,uT,vH,uT,
      vo (n:=((l.getD 0 0).toNat:Int)) (by omega) (by omega)]
     have hgot:DElem.mk (DKey.mk ((l.getD 0 0).toNat:Int) ((vu (slc l 1 5):Nat):Int) ((vu (slc l 5 9):Nat):Int)) ((vu (slc l 9 13):Nat):Int) ((vu (slc l 13 17):Nat):Int) (ofL (slc l 18 (18+(l.getD 17 0).toNat)))=C8 l:=rfl
     rw [hgot]
     by_cases hc:vb (C8 l)=0
     · rw [hc,show ((0:Int) != 0)=false by decide,uY,if_neg (by simp)]
     · rw [show (vb (C8 l) != 0)=true by simpa using hc,vh,if_pos hc];rfl
theorem Ci {n:Nat}(h:n<4294967296):vu (vg n 4)=n:=by rw [wA];exact V_ h
theorem J8 {a b c d g:Nat}{v:List UInt8}(h:Fit a b c d g v)(more:List UInt8):((eb a b c d g v++more).getD 17 0).toNat=v.length∧C8 (eb a b c d g v++more)=mkE a b c d g v:=by
 obtain⟨h1,h2,h3,h4,h5,h6,h7⟩:=h
 have e17:((eb a b c d g v++more).getD 17 0).toNat=v.length:=by
  show (UInt8.ofNat (v.length / 256 ^ 0)).toNat=_
  rw [Nat.pow_zero,Nat.div_one,UInt8.toNat_ofNat'];exact V_ (by omega)
 refine⟨e17,?_⟩
 unfold C8
 rw [e17]
 have e0:((eb a b c d g v++more).getD 0 0).toNat=a:=by
  show (UInt8.ofNat (a / 256 ^ 0)).toNat=_
  rw [Nat.pow_zero,Nat.div_one,UInt8.toNat_ofNat'];exact V_ (by omega)
 have s1:slc (eb a b c d g v++more) 1 5=vg b 4:=rfl
 have s2:slc (eb a b c d g v++more) 5 9=vg c 4:=rfl
 have s3:slc (eb a b c d g v++more) 9 13=vg d 4:=rfl
 have s4:slc (eb a b c d g v++more) 13 17=vg g 4:=rfl
 have s5:slc (eb a b c d g v++more) 18 (18+v.length)=v:=by
  rw [slc,List.drop_take]
  show v4 (18+v.length-18) (v++more)=v
  rw [E5]
  exact g9 rfl
 rw [e0,s1,s2,s3,s4,s5,Ci (by omega),Ci (by omega),Ci (by omega),Ci (by omega)]
theorem Jl {a b c d g:Nat}{v:List UInt8}(h:Fit a b c d g v)(more:List UInt8):vR (eb a b c d g v++more)=(mkE a b c d g v,((18+v.length:Nat):Int),0):=by
 obtain⟨e1,e2⟩:=J8 h more
 unfold vR
 rw [e1,e2,if_neg (by rw [a_,Dl];omega),DY h,if_neg (by simp)]
theorem Jr {l:List UInt8}(h:(vR l).2.2=0):∃ a b c d g v,Fit a b c d g v∧18+v.length≤l.length∧vR l=(mkE a b c d g v,((18+v.length:Nat):Int),0)∧eb a b c d g v=l.take (18+v.length):=by
 unfold vR at h ⊢
 by_cases h1:l.length<18∨l.length<18+(l.getD 17 0).toNat
 · rw [if_pos h1] at h;cases h
 rw [if_neg h1] at h ⊢
 by_cases h2:vb (C8 l)≠0
 · rw [if_pos h2] at h;cases h
 rw [if_neg h2]
 have h3:vb (C8 l)=0:=Decidable.not_not.1 h2
 have hfit:Fit (l.getD 0 0).toNat (vu (slc l 1 5)) (vu (slc l 5 9)) (vu (slc l 9 13)) (vu (slc l 13 17)) (slc l 18 (18+(l.getD 17 0).toNat)):=by
  obtain⟨a,b,c,d,g,v,he,hf⟩:=F4 h3
  simp only [C8,mkE,DElem.mk.injEq,DKey.mk.injEq,GS] at he
  obtain⟨⟨ea,eb',ec⟩,ed,eg,ev⟩:=he
  rw [ev,show (l.getD 0 0).toNat=a by omega,show vu (slc l 1 5)=b by omega,show vu (slc l 5 9)=c by omega,show vu (slc l 9 13)=d by omega,show vu (slc l 13 17)=g by omega]
  exact hf
 have hn:(slc l 18 (18+(l.getD 17 0).toNat)).length=(l.getD 17 0).toNat:=by rw [xd (by omega)];omega
 refine⟨_,_,_,_,_,_,hfit,by rw [hn];omega,by rw [hn];rfl,?_⟩
 rw [hn,eb,hn]
 have b1 : ∀ x:UInt8,vg x.toNat 1=[x]:=fun x=>by simp [vg]
 have b4 : ∀ x:List UInt8,x.length=4→vg (vu x) 4=x:=fun x hx=>by have:=DU x;rwa [hx] at this
 rw [b1,b1,b4 _ (xd (by omega)),b4 _ (xd (by omega)),b4 _ (xd (by omega)),b4 _ (xd (by omega))]
 have ts : ∀ x y,x≤y→l.take y=l.take x++slc l x y:=fun x y h=>by
  have:=v5 x (l.take y)
  rw [List.take_take,Nat.min_eq_left h] at this
  exact this.symm
 have one : ∀ k,k<l.length→slc l k (k+1)=[l.getD k 0]:=fun k hk=>by
  rw [slc,List.drop_take,E5,v6 hk,D_,gge hk,List.take_succ_cons]
  rfl
 rw [ts 18 (18+(l.getD 17 0).toNat) (by omega),ts 17 18 (by decide),ts 13 17 (by decide),ts 9 13 (by decide),ts 5 9 (by decide),ts 1 5 (by decide),ts 0 1 (by decide),List.take_zero,one 0 (by omega),one 17 (by omega)]
 simp only [C5,C_]
def ebE (e:DElem):List UInt8:=eb e.key.pfs.toNat e.key.obj.toNat e.key.off.toNat e.made.toNat e.gone.toNat e.val.data.toList
theorem yi (e:DElem):(ebE e).length=18+e.val.size:=Dl _ _ _ _ _ _
theorem ER {e:DElem}(h:vb e=0)(more:List UInt8):vR (ebE e++more)=(e,((18+e.val.size:Nat):Int),0):=by
 obtain⟨a,b,c,d,g,v,rfl,hf⟩:=F4 h
 exact Jl hf more
theorem Aa (e:DElem):mN F e=some (if vb e=0 then (ofL (ebE e),0) else (ofL [],vb e)):=by
 by_cases h:vb e=0
 · rw [if_pos h]
   obtain⟨a,b,c,d,g,v,rfl,hf⟩:=F4 h
   exact BW hf
 · rw [if_neg h];exact Cp h
theorem G5 {e:DElem}(h:vb e=0):e.val.size≤40:=(wK h).2.2.2.2
theorem Cs : ∀ es:List DElem,(∀ e∈es,vb e=0)→(es.flatMap ebE).length≤58*es.length
 | [],_=>by simp
 | e::es,h=>by
  have h1:=Cs es (fun x hx=>h x (f_ _ hx))
  have h2:=G5 (h e (d_))
  rw [o_,a_,yi,K_];omega
end
section
open Go.ChangeShapes
variable {F:Nat} [Big F]
def C0:Nat→List DElem→List UInt8→List DElem × Int
 | 0,acc,_=>(acc,0)
 | m+1,acc,l=>if l=[] then (acc,0) else if (vR l).2.2≠0 then ([],(vR l).2.2) else C0 m (acc++[(vR l).1]) (l.drop (vR l).2.1.toNat)
def FO (l:List UInt8):List DElem × Int:=C0 (l.length+1) [] l
theorem Eo {l:List UInt8}:seq (ofL l) (N_ #[])=decide (l=[]):=by
 have:=JP l []
 rw [show (N_ #[])=ofL [] from rfl,this]
 cases l <;> rfl
theorem DX {l:List UInt8}(h:(vR l).2.2=0):∃ n:Nat,(vR l).2.1=(n:Int)∧18≤n∧n≤l.length∧ebE (vR l).1=l.take n∧vb (vR l).1=0:=by
 obtain⟨a,b,c,d,g,v,hf,h1,h2,h3⟩:=Jr h
 refine⟨18+v.length,by rw [h2],by omega,h1,by rw [h2];exact h3,by rw [h2];exact DY hf⟩
theorem EW (l:List UInt8)(hl:l.length≤1000000):pN F (ofL l)=some (FO l):=by
 unfold pN FO
 refine AX (R:=fun m s q=>∃ acc l,s=(acc,ofL l)∧l.length<m∧acc.length+l.length≤1000000∧q=C0 m acc l) (fun m s q h=>?_) (m:=l.length+1) (by omega) ⟨[],l,rfl,by omega,by simpa using hl,rfl⟩
 obtain⟨acc,l,rfl,h1,h2,rfl⟩:=h
 obtain⟨m,rfl⟩ : ∃ k,m=k+1:=⟨m-1,by omega⟩
 dsimp only
 rw [Eo,C0]
 by_cases h0:l=[]
 · rw [if_pos h0,decide_eq_true h0,E6,cond_false]
   exact .inl ⟨_,rfl,rfl⟩
 rw [if_neg h0,decide_eq_false h0,E7,cond_true,BM,obs]
 by_cases hc:(vR l).2.2=0
 · obtain⟨n,e1,e2,e3,e4,e5⟩:=DX hc
   have hsl:jN (ofL l) (vR l).2.1 ((ofL l).size:Int)=some (ofL (l.drop n)):=by
    rw [e1,vY (by omega) (show ((n:Nat):Int)≤((ofL l).size:Int) from by have:(ofL l).size=l.length:=rfl;omega) (P_ _),j_,j_]
    rw [show (ofL l).size=l.length from rfl,F_]
   have hl0:=List.length_pos_iff.2 h0
   rw [if_neg (by simpa using hc),vp hc,cond_false,vn (by simp;omega) (by simp;omega),obs,hsl,obs,e1,j_]
   refine .inr ⟨m,_,by omega,rfl,_,_,rfl,?_,?_,rfl⟩
   · rw [v_];omega
   · rw [a_,v_,Q_];omega
 · rw [if_pos hc,vD hc,cond_true]
   exact .inl ⟨_,rfl,rfl⟩
theorem EI : ∀(m:Nat) (acc:List DElem) (l:List UInt8),(C0 m acc l).1.length≤acc.length+l.length
 | 0,acc,l=>by rw [C0];dsimp only;omega
 | m+1,acc,l=>by
  rw [C0]
  by_cases h0:l=[]
  · rw [if_pos h0];dsimp only;omega
  rw [if_neg h0]
  by_cases hc:(vR l).2.2=0
  · obtain⟨n,e1,e2,e3,_⟩:=DX hc
    rw [if_neg (by simpa using hc)]
    have:=EI m (acc++[(vR l).1]) (l.drop (vR l).2.1.toNat)
    rw [e1,j_,a_,Q_,v_] at this
    rw [e1,j_]
    omega
  · rw [if_pos hc];simp
theorem EH : ∀(m:Nat) (acc es:List DElem),(∀ e∈es,vb e=0)→(es.flatMap ebE).length<m→C0 m acc (es.flatMap ebE)=(acc++es,0)
 | 0,acc,es,_,h=>by omega
 | m+1,acc,[],_,h=>by rw [C0,if_pos (by rfl)];simp
 | m+1,acc,e::es,he,h=>by
  have hc:=ER (he e (by simp)) (es.flatMap ebE)
  have hl:=yi e
  rw [o_] at h ⊢
  rw [C0,if_neg (by intro h0;have:=congrArg List.length h0;rw [a_,hl] at this;simp at this),hc,if_neg (by simp)]
  dsimp only
  rw [j_,X_ hl,EH m _ es (fun x hx=>he x (f_ _ hx)) (by rw [a_] at h;omega)]
  simp
def wz:List Int→List Int→List DSpot→List UInt8
 | k::ks,t::ts,s::ss=>vg k.toNat 2++(vg t.toNat 4++(ebE (zE s)++wz ks ts ss))
 | _,_,_=>[]
def yb:List Int→List Int→List DSpot→List UInt8
 | k::ks,t::ts,ss=>vg k.toNat 2++(vg t.toNat 4++wz ks ts ss)
 | _,_,_=>[]
def wX:Nat→List DSpot→List Int→List Int→List UInt8→Nat→DNode × Bool
 | 0,ss,ts,ks,_,_=>(⟨2,[],ks,ss,ts⟩,true)
 | m+1,ss,ts,ks,l,i =>
  if l=[] then (⟨2,[],ks,ss,ts⟩,true)
  else if l.length<6 then (⟨2,[],ks,ss,ts⟩,false)
  else if i=0 then wX m ss (ts++[(vu (slc l 2 6):Int)]) (ks++[(vu (slc l 0 2):Int)]) (l.drop 6) 1
  else if (vR (l.drop 6)).2.2≠0∨(vR (l.drop 6)).1.gone≠0∨(vR (l.drop 6)).1.val≠ofL [] then (⟨2,[],ks++[(vu (slc l 0 2):Int)],ss,ts++[(vu (slc l 2 6):Int)]⟩,false)
  else wX m (ss++[uU (vR (l.drop 6)).1]) (ts++[(vu (slc l 2 6):Int)]) (ks++[(vu (slc l 0 2):Int)]) ((l.drop 6).drop (vR (l.drop 6)).2.1.toNat) (i+1)
def DD (l:List UInt8):DNode × Bool:=wX (l.length+1) [] [] [] l 0
theorem Eg (l:List UInt8)(hl:l.length≤1000000):oR F (ofL l)=some (DD l):=by
 unfold oR DD
 refine AX (R:=fun m s q=>∃ ss ts ks l i,s=(ss,ts,ks,ofL l,((i:Nat):Int))∧l.length<m∧ss.length+l.length≤1000000∧ts.length+l.length≤1000000∧ks.length+l.length≤1000000∧i+l.length≤1000000∧q=wX m ss ts ks l i) (fun m s q h=>?_) (m:=l.length+1) (by omega)
  ⟨[],[],[],l,0,rfl,by omega,by simpa using hl,by simpa using hl,by simpa using hl,by omega,rfl⟩
 obtain⟨ss,ts,ks,l,i,rfl,h1,h2,h3,h4,h5,rfl⟩:=h
 obtain⟨m,rfl⟩ : ∃ k,m=k+1:=⟨m-1,by omega⟩
 dsimp only
 have hsz:(ofL l).size=l.length:=rfl
 rw [Eo,wX,hsz]
 by_cases h0:l=[]
 · rw [if_pos h0,decide_eq_true h0,E6,cond_false]
   exact .inl ⟨_,rfl,rfl⟩
 rw [if_neg h0,decide_eq_false h0,E7,cond_true]
 by_cases h6:l.length<6
 · rw [if_pos h6,decide_eq_true (by omega),cond_true,obs]
   exact .inl ⟨_,rfl,rfl⟩
 rw [if_neg h6,decide_eq_false (by omega),cond_false]
 have s1:jN (ofL l) 0 2=some (ofL (slc l 0 2)):=yp (a:=0) (b:=2) (by omega) (by omega)
 have s2:jN (ofL l) 2 6=some (ofL (slc l 2 6)):=yp (a:=2) (b:=6) (by omega) (by omega)
 have s3:jN (ofL l) 6 (l.length:Int)=some (ofL (l.drop 6)):=by
  have:=yp (l:=l) (a:=6) (b:=l.length) (by omega) (by omega)
  rw [slc,F_] at this
  exact this
 have b1:kD F (ofL (slc l 0 2))=some ((vu (slc l 0 2):Nat):Int):=wU _ (by rw [xd (by omega)];omega)
 have b2:kD F (ofL (slc l 2 6))=some ((vu (slc l 2 6):Nat):Int):=wU _ (by rw [xd (by omega)];omega)
 rw [s1,obs,b1,obs,vn (by simp;omega) (by simp;omega),obs,s2,obs,b2,obs,vn (by simp;omega) (by simp;omega),obs,s3,obs]
 have hd:(l.drop 6).length=l.length-6:=v_
 by_cases hi:i=0
 · rw [if_pos hi,hi]
   rw [show (((0:Nat):Int) == 0)=true from rfl,cond_true,obs]
   refine .inr ⟨m,_,by omega,rfl,_,_,_,_,1,rfl,?_,?_,?_,?_,?_,rfl⟩
   all_goals (try rw [a_]);(try rw [Q_]);omega
 · rw [if_neg hi,show (((i:Nat):Int) == 0)=false by simp;omega,cond_false,BM,obs]
   have hv:seq (vR (l.drop 6)).1.val (N_ #[])=decide ((vR (l.drop 6)).1.val=ofL []):=by
    rw [Bool.eq_iff_iff,tQ,decide_eq_true_eq];rfl
   rw [hv]
   by_cases hb:(vR (l.drop 6)).2.2≠0∨(vR (l.drop 6)).1.gone≠0∨(vR (l.drop 6)).1.val≠ofL []
   · rw [if_pos hb]
     have:((vR (l.drop 6)).2.2 != 0||((vR (l.drop 6)).1.gone != 0 || !decide ((vR (l.drop 6)).1.val=ofL [])))=true:=by simpa using hb
     rw [this,cond_true,obs]
     exact .inl ⟨_,rfl,rfl⟩
   · rw [if_neg hb]
     have:((vR (l.drop 6)).2.2 != 0||((vR (l.drop 6)).1.gone != 0 || !decide ((vR (l.drop 6)).1.val=ofL [])))=false:=by simpa using hb
     have hc:(vR (l.drop 6)).2.2=0:=by
      rcases Classical.em ((vR (l.drop 6)).2.2=0) with h | h
      · exact h
      · exact absurd (.inl h) hb
     obtain⟨n,e1,e2,e3,e4,e5⟩:=DX hc
     have s5:jN (ofL (l.drop 6)) (vR (l.drop 6)).2.1 ((ofL (l.drop 6)).size:Int)=some (ofL ((l.drop 6).drop n)):=by
      have:=yp (l:=l.drop 6) (a:=n) (b:=(l.drop 6).length) (by omega) (by omega)
      rw [slc,F_] at this
      rw [e1];exact this
     rw [this,cond_false,vf,obs,vn (by simp;omega) (by simp;omega),obs,s5,obs,obs,e1,j_]
     dsimp only
     rw [w64 (by omega) (by omega)]
     refine .inr ⟨m,_,by omega,rfl,_,_,_,_,i+1,rfl,?_,?_,?_,?_,?_,rfl⟩
     all_goals (try rw [a_]);(try rw [Q_]);(try rw [v_]);omega
theorem Bv : ∀(m:Nat) (ss:List DSpot) (ts ks:List Int) (l:List UInt8) (i:Nat),(wX m ss ts ks l i).1.kids.length≤ks.length+l.length∧(wX m ss ts ks l i).1.seps.length≤ss.length+l.length∧(wX m ss ts ks l i).1.tids.length≤ts.length+l.length∧(wX m ss ts ks l i).1.elems=[]∧(wX m ss ts ks l i).1.kind=2
 | 0,ss,ts,ks,l,i=>by rw [wX];exact⟨by simp,by simp,by simp,rfl,rfl⟩
 | m+1,ss,ts,ks,l,i=>by
  rw [wX]
  by_cases h0:l=[]
  · rw [if_pos h0];exact⟨by simp,by simp,by simp,rfl,rfl⟩
  rw [if_neg h0]
  by_cases h6:l.length<6
  · rw [if_pos h6];exact⟨by simp,by simp,by simp,rfl,rfl⟩
  rw [if_neg h6]
  by_cases hi:i=0
  · rw [if_pos hi]
    obtain⟨h1,h2,h3,h4,h5⟩:=Bv m ss (ts++[(vu (slc l 2 6):Int)]) (ks++[(vu (slc l 0 2):Int)]) (l.drop 6) 1
    rw [a_,Q_,v_] at h1 h3
    rw [v_] at h2
    exact⟨by omega,by omega,by omega,h4,h5⟩
  rw [if_neg hi]
  by_cases hb:(vR (l.drop 6)).2.2≠0∨(vR (l.drop 6)).1.gone≠0∨(vR (l.drop 6)).1.val≠ofL []
  · rw [if_pos hb]
    refine⟨?_,by simp,?_,rfl,rfl⟩ <;> (dsimp only;rw [a_,Q_];omega)
  · rw [if_neg hb]
    obtain⟨h1,h2,h3,h4,h5⟩:=Bv m (ss++[uU (vR (l.drop 6)).1]) (ts++[(vu (slc l 2 6):Int)]) (ks++[(vu (slc l 0 2):Int)]) ((l.drop 6).drop (vR (l.drop 6)).2.1.toNat) (i+1)
    rw [a_,Q_,v_,v_] at h1 h2 h3
    exact⟨by omega,by omega,by omega,h4,h5⟩
def H1 (k t:Int):Prop:=0≤k∧k<65536∧0≤t∧t<4294967296
theorem G3 {k t:Int}(h:H1 k t)(r:List UInt8):(vu (slc (vg k.toNat 2++(vg t.toNat 4++r)) 0 2):Int)=k∧(vu (slc (vg k.toNat 2++(vg t.toNat 4++r)) 2 6):Int)=t∧(vg k.toNat 2++(vg t.toNat 4++r)).drop 6=r:=by
 obtain⟨h1,h2,h3,h4⟩:=h
 have l2:=uV k.toNat 2
 have l4:=uV t.toNat 4
 have e1:slc (vg k.toNat 2++(vg t.toNat 4++r)) 0 2=vg k.toNat 2:=by
  rw [slc,g9 l2];rfl
 have e2:slc (vg k.toNat 2++(vg t.toNat 4++r)) 2 6=vg t.toNat 4:=by
  rw [slc,← C_,g9 (by rw [a_,l2,l4]),X_ l2]
 refine⟨?_,?_,?_⟩
 · rw [e1,wA,V_ (by omega)];omega
 · rw [e2,wA,V_ (by omega)];omega
 · rw [← C_,X_ (by rw [a_,l2,l4])]
theorem BK (s:DSpot):(ebE (zE s)).length=18:=by rw [yi];rfl
theorem CB : ∀(m:Nat) (ss:List DSpot) (ts ks:List Int) (i:Nat) (k2 t2:List Int) (s2:List DSpot),k2.length=s2.length→t2.length=s2.length→(∀(j:Nat) (k t:Int),k2[j]? = some k→t2[j]? = some t→H1 k t)→(∀ s∈s2,vb (zE s)=0)→1≤i→(wz k2 t2 s2).length<m →
 wX m ss ts ks (wz k2 t2 s2) i=(⟨2,[],ks++k2,ss++s2,ts++t2⟩,true)
 | 0,ss,ts,ks,i,k2,t2,s2,_,_,_,_,_,h=>by omega
 | m+1,ss,ts,ks,i,[],[],[],_,_,_,_,_,h=>by rw [wX,if_pos (show wz [] [] []=[] from rfl)];simp
 | m+1,ss,ts,ks,i,k::k2,t::t2,s::s2,h1,h2,h3,h4,h5,h=>by
  obtain⟨g1,g2,g3⟩:=G3 (h3 0 k t rfl rfl) (ebE (zE s)++wz k2 t2 s2)
  have hc:=ER (h4 s (by simp)) (wz k2 t2 s2)
  have hz:=BK s
  have hlen:(vg k.toNat 2++(vg t.toNat 4++(ebE (zE s)++wz k2 t2 s2))).length=24+(wz k2 t2 s2).length:=by
   rw [a_,a_,a_,uV,uV,hz];omega
  rw [wz] at h ⊢
  rw [wX,if_neg (by intro h0;rw [h0] at hlen;simp at hlen;omega),if_neg (by omega),if_neg (show ¬ i=0 by omega),g1,g2,g3,hc]
  rw [if_neg (by simp [zE];rfl)]
  dsimp only
  rw [j_,X_ (show (ebE (zE s)).length=18+(zE s).val.size from yi _)]
  rw [CB m _ _ _ (i+1) k2 t2 s2 (by simpa using h1) (by simpa using h2) (fun j=>h3 (j+1)) (fun x hx=>h4 x (f_ _ hx)) (by omega) (by omega)]
  simp [zE,uU]
 | m+1,ss,ts,ks,i,[],_::_,[],_,h2,_,_,_,_=>by simp at h2
 | m+1,ss,ts,ks,i,_::_,_,[],h1,_,_,_,_,_=>by simp at h1
 | m+1,ss,ts,ks,i,[],_,_::_,h1,_,_,_,_,_=>by simp at h1
 | m+1,ss,ts,ks,i,_::_,[],_::_,_,h2,_,_,_,_=>by simp at h2
theorem Hw {k2 t2:List Int}{s2:List DSpot}(h1:s2.length+1=k2.length)(h2:t2.length=k2.length)(h3 : ∀(j:Nat) (k t:Int),k2[j]? = some k→t2[j]? = some t→H1 k t)(h4 : ∀ s∈s2,vb (zE s)=0):DD (yb k2 t2 s2)=(⟨2,[],k2,s2,t2⟩,true):=by
 match k2,t2,h1,h2,h3 with
 | k::k2,t::t2,h1,h2,h3 =>
  obtain⟨g1,g2,g3⟩:=G3 (h3 0 k t rfl rfl) (wz k2 t2 s2)
  have hlen:(vg k.toNat 2++(vg t.toNat 4++wz k2 t2 s2)).length=6+(wz k2 t2 s2).length:=by
   rw [a_,a_,uV,uV];omega
  unfold DD
  rw [yb,wX,if_neg (by intro h0;rw [h0] at hlen;simp at hlen;omega),if_neg (by omega),if_pos rfl,g1,g2,g3]
  simp only [K_] at h1 h2
  rw [CB _ _ _ _ 1 k2 t2 s2 (by omega) (by omega) (fun j=>h3 (j+1)) h4 (by omega) (by omega)]
  simp
 | [],[],h1,_,_=>simp at h1
 | k::k2,[],_,h2,_=>simp at h2
 | [],t::t2,_,h2,_=>simp at h2
theorem DR (k t:Int)(s:DSpot):∀(k2 t2:List Int) (s2:List DSpot),k2.length=s2.length→t2.length=s2.length→wz (k2++[k]) (t2++[t]) (s2++[s])=wz k2 t2 s2++(vg k.toNat 2++(vg t.toNat 4++ebE (zE s)))
 | [],[],[],_,_=>by simp [wz]
 | k'::k2,t'::t2,s'::s2,h1,h2=>by
  simp only [l7,wz]
  rw [DR k t s k2 t2 s2 (by simpa using h1) (by simpa using h2)]
  simp
 | [],_::_,[],_,h2=>by simp at h2
 | _::_,_,[],h1,_=>by simp at h1
 | [],_,_::_,h1,_=>by simp at h1
 | _::_,[],_::_,_,h2=>by simp at h2
theorem Hr (k t:Int)(s:DSpot){k2 t2:List Int}{s2:List DSpot}(h1:s2.length+1=k2.length)(h2:t2.length=k2.length):yb (k2++[k]) (t2++[t]) (s2++[s])=yb k2 t2 s2++(vg k.toNat 2++(vg t.toNat 4++ebE (zE s))):=by
 match k2,t2,h1,h2 with
 | k'::k2,t'::t2,h1,h2 =>
  simp only [K_] at h1 h2
  simp only [l7,yb]
  rw [DR k t s k2 t2 s2 (by omega) (by omega)]
  simp
 | [],_,h1,_=>simp at h1
 | _::_,[],_,h2=>simp at h2
theorem DQ : ∀(k2 t2:List Int) (s2:List DSpot),(wz k2 t2 s2).length≤24*s2.length
 | k::k2,t::t2,s::s2=>by
  have:=DQ k2 t2 s2
  rw [wz,a_,a_,a_,uV,uV,BK,K_];omega
 | [],_,_=>by simp [wz]
 | _::_,[],_=>by simp [wz]
 | _::_,_::_,[]=>by simp [wz]
theorem Du (k2 t2:List Int)(s2:List DSpot):(yb k2 t2 s2).length≤6+24*s2.length:=by
 match k2,t2 with
 | k::k2,t::t2 =>
  have:=DQ k2 t2 s2
  rw [yb,a_,a_,uV,uV];omega
 | [],_=>simp [yb]
 | _::_,[]=>simp [yb]
def yt (n:DNode):List UInt8:=n.elems.flatMap ebE++yb n.kids n.tids n.seps
def v9 (n:DNode):List UInt8:=xp (n.kind+1).toNat (yt n)
structure Parts (n:DNode):Prop where
 kind:0≤n.kind∧n.kind≤2
 elems:n.elems.length≤8
 kids:n.kids.length≤8
 seps:n.seps.length≤7
 ok : ∀ e∈n.elems,vb e=0
 fit : ∀(j:Nat) (k t:Int),n.kids[j]? = some k→n.tids[j]? = some t→H1 k t
 sep : ∀ s∈n.seps,vb (zE s)=0
 tids:n.tids.length=n.kids.length
 form:(n.kids=[]∧n.tids=[]∧n.seps=[])∨(n.elems=[]∧n.seps.length+1=n.kids.length∧n.tids.length=n.kids.length)
theorem parts {n:DNode}(h:vq n=0):Parts n:=by
 rcases vz.1 h with ⟨h0,h1,h2,h3,h4⟩ | ⟨h0,hl⟩ | ⟨h0,hi⟩
 · exact⟨by omega,by simp [h1],by simp [h2],by simp [h3],by simp [h1],by simp [h2],by simp [h3],by simp [h2,h4],.inl ⟨h2,h4,h3⟩⟩
 · exact⟨by omega,hl.len,by simp [hl.kids],by simp [hl.seps],hl.ok,by simp [hl.kids],by simp [hl.seps],by simp [hl.kids,hl.tids],.inl ⟨hl.kids,hl.tids,hl.seps⟩⟩
 · have:=hi.seps;have:=hi.eight
   refine⟨by omega,by simp [hi.elems],by omega,by omega,by simp [hi.elems],fun j k t hk ht=>?_,hi.ok,hi.tids,.inr ⟨hi.elems,hi.seps,hi.tids⟩⟩
   have h1:=hi.kid k (i_ hk)
   have h2:=hi.tid t (i_ ht)
   unfold H1;omega
theorem AM {n:DNode}(h:vq n=0):(yt n).length≤672:=by
 have p:=parts h
 have h1:=Cs n.elems p.ok
 have h2:=Du n.kids n.tids n.seps
 have h3:=p.elems;have h4:=p.seps
 unfold yt
 rw [a_];omega
theorem Ad (n:DNode)(hs:Small n):mQ F n=some (if vq n=0 then (ofL (v9 n),0) else (ofL [],vq n)):=by
 unfold mQ
 rw [yD n hs,obs]
 by_cases h:vq n=0
 · rw [vp h,cond_false,if_pos h]
   have p:=parts h
   have h8:=p.elems
   have hk8:=p.kids
   have hs7:=p.seps
   have hfl : ∀ k,((n.elems.take k).flatMap ebE).length≤58*8:=fun k=>by
    have:=Cs (n.elems.take k) (fun e he=>p.ok e (U_ he))
    have h2:(n.elems.take k).length≤8:=by rw [t_];omega
    omega
   rw [vE (fun k=>(ofL ((n.elems.take k).flatMap ebE),(k:Int))) n.elems.length (r:=ofL (n.elems.flatMap ebE)) (by simp;rfl) (by omega) (fun k hk=>?_) ?_,obs]
   · have hl0:=hfl n.elems.length
     rw [F_] at hl0
     generalize hB:n.elems.flatMap ebE=B at hl0
     have hhl : ∀ j,(yb (n.kids.take j) (n.tids.take j) (n.seps.take (j-1))).length≤200:=fun j=>by
      have h1:=Du (n.kids.take j) (n.tids.take j) (n.seps.take (j-1))
      have h2:(n.seps.take (j-1)).length≤7:=by rw [t_];omega
      omega
     rw [vE (fun j=>(ofL (B++yb (n.kids.take j) (n.tids.take j) (n.seps.take (j-1))),(j:Int))) n.kids.length (r:=ofL (yt n)) (by simp [yb]) (by omega) (fun j hj=>?_) ?_,obs]
     · have hbl:=AM h
       have e1:IntKind.i64.wrap (1+n.kind)=((n.kind+1).toNat:Int):=by rw [w64 (by have:=p.kind;omega) (by have:=p.kind;omega)];have:=p.kind;omega
       rw [e1,yj _ _ (by have:=p.kind;omega) (by have:=p.kind;omega) (by omega),obs]
       rfl
     · dsimp only
       rw [decide_eq_false (by omega),cond_false]
       have e1:n.seps.take (n.kids.length-1)=n.seps:=by
        rcases p.form with ⟨_,_,e⟩ | ⟨_,e,_⟩
        · rw [e];simp
        · rw [t5 (by omega)]
       rw [F_,t5 (show n.tids.length≤n.kids.length by have:=p.tids;omega),e1,← hB];rfl
     · have ht:=p.tids
       have hf:=p.form
       obtain⟨f1,f2,f3⟩ : n.elems=[]∧n.seps.length+1=n.kids.length∧n.tids.length=n.kids.length:=by
        rcases hf with ⟨e,_⟩ | e
        · rw [e] at hj;simp at hj
        · exact e
       have xk:=gge hj
       have xt:=gge (show j<n.tids.length by omega)
       obtain⟨a1,a2,a3,a4⟩:=p.fit j _ _ xk xt
       have hh:=hhl j
       generalize hkk:n.kids[j]=k at a1 a2 xk
       generalize htt:n.tids[j]'(by omega)=t at a3 a4 xt
       have p2:ko F k 2=some (ofL (vg k.toNat 2)):=by
        have:=xw (F:=F) k.toNat 2 (by omega)
        rw [G0 a1] at this;exact this
       have p4:ko F t 4=some (ofL (vg t.toNat 4)):=by
        have:=xw (F:=F) t.toNat 4 (by omega)
        rw [G0 a3] at this;exact this
       have l2:=uV k.toNat 2
       have l4:=uV t.toNat 4
       have tk:n.kids.take (j+1)=n.kids.take j++[k]:=by rw [T_,xk];rfl
       have tt:n.tids.take (j+1)=n.tids.take j++[t]:=by rw [T_,xt];rfl
       dsimp only
       rw [decide_eq_true (by omega),cond_true,uX,xk,obs,p2,obs,uX,xt,obs,p4,obs,wq (by omega),obs,wq (by rw [a_,a_];omega),obs]
       cases j with
       | zero =>
        rw [decide_eq_false (by omega),cond_false,obs,w64 (by omega) (by omega)]
        rw [tk,tt]
        simp [yb,wz]
       | succ i =>
        have xs:=gge (show i<n.seps.length by omega)
        generalize hss:n.seps[i]'(by omega)=s at xs
        have hz:=p.sep s (i_ xs)
        have ts:n.seps.take (i+1)=n.seps.take i++[s]:=by rw [T_,xs];rfl
        have zl:=BK s
        have cw:mN F (DElem.mk s.key s.made 0 (N_ #[]))=some (ofL (ebE (zE s)),0):=by
         have:=Aa (F:=F) (zE s)
         rw [if_pos hz] at this;exact this
        have e1:IntKind.i64.wrap (((i+1:Nat):Int)-1)=(i:Int):=by rw [w64 (by omega) (by omega)];omega
        rw [decide_eq_true (show (0:Int)<((i+1:Nat):Int) by omega),cond_true,e1,uX,xs,obs,obs,cw,obs]
        dsimp only
        rw [wq (by simp only [a_];omega),obs,obs,w64 (by omega) (by omega)]
        rw [tk,tt,show i+1+1-1=i+1 from rfl,ts,show i+1-1=i from rfl,Hr k t s (by rw [t_,t_];omega) (by rw [t_,t_];omega)]
        simp
   · dsimp only
     rw [decide_eq_false (by omega),cond_false,F_]
   · have xe:=gge hk
     have he:=p.ok _ (x_ hk)
     generalize n.elems[k]=e at xe he
     have hl0:=hfl k
     have hle:=yi e
     have hv:=G5 he
     dsimp only
     rw [decide_eq_true (by omega),cond_true,uX,xe,obs,Aa,obs,if_pos he]
     dsimp only
     rw [wq (by omega),obs,w64 (by omega) (by omega),T_,xe]
     simp
 · rw [vD h,cond_true,if_neg h];rfl
def zNd:DNode:=⟨0,[],[],[],[]⟩
def AL (k:Int)(B:List UInt8):DNode × Bool :=
 if k=0 then (⟨k,[],[],[],[]⟩,decide (B=[])) else if k=1 then (⟨k,(FO B).1,[],[],[]⟩,(FO B).2 == 0) else if k=2 then DD B else (⟨k,[],[],[],[]⟩,true)
def GU (l:List UInt8):DNode × Int :=
 if (vW l).2.2≠0 then (zNd,(vW l).2.2) else if (vW l).2.1≠(l.length:Int) then (zNd,3)
 else if (AL ((vW l).1.kind-1) (vW l).1.body.data.toList).2=true∧vq (AL ((vW l).1.kind-1) (vW l).1.body.data.toList).1=0 then ((AL ((vW l).1.kind-1) (vW l).1.body.data.toList).1,0) else (zNd,3)
theorem EM (k:Int){B:List UInt8}(h:B.length≤3000):Small (AL k B).1:=by
 unfold AL
 split
 · exact⟨by simp,by simp,by simp,by simp⟩
 · split
   · have:=EI (B.length+1) [] B
     exact⟨by show (FO B).1.length≤_;unfold FO;simp at this;omega,by simp,by simp,by simp⟩
   · split
     · obtain⟨h1,h2,h3,h4,_⟩:=Bv (B.length+1) [] [] [] B 0
       simp only [List.length_nil] at h1 h2 h3
       exact⟨by show (wX _ _ _ _ _ _).1.elems.length≤_;rw [h4];simp,by show (wX _ _ _ _ _ _).1.kids.length≤_;omega,by show (wX _ _ _ _ _ _).1.seps.length≤_;omega,by show (wX _ _ _ _ _ _).1.tids.length≤_;omega⟩
     · exact⟨by simp,by simp,by simp,by simp⟩
theorem Ef (l:List UInt8)(hl:l.length≤9223372036854775807):nG F (ofL l)=some (GU l):=by
 unfold nG GU
 rw [yT l hl,obs]
 have hsz:(ofL l).size=l.length:=rfl
 by_cases h:(vW l).2.2=0
 · obtain⟨k,B,g0,g1,g2,g3,g4,g5⟩:=Dr h
   rw [if_neg (by simpa using h),vp h,cond_false,hsz]
   by_cases h2:(vW l).2.1=(l.length:Int)
   · rw [if_neg (by simpa using h2),show ((vW l).2.1 != (l.length:Int))=false by simpa using h2,cond_false,g4]
     dsimp only
     have e1:IntKind.i64.wrap ((k:Int)-1)=(k:Int)-1:=w64 (by omega) (by omega)
     have hb:(ofL B).data.toList=B:=rfl
     rw [e1,hb]
     generalize hK:(k:Int)-1=K
     have hsm:=EM K g2
     have step : ∀ n:DNode,∀ b:Bool,Small n→((bif !b then some true else (l8 F n).bind fun r4=>some (r4 != 0):Option Bool).bind fun z7=>bif z7 then some ((DNode.mk 0 [] [] [] []),(3:Int)) else some (n,0))=some (if b=true∧vq n=0 then (n,0) else (zNd,3)):=fun n b hn=>by
      rw [yD n hn]
      cases b
      · rw [E7,cond_true,obs,cond_true,if_neg (by simp)];rfl
      · rw [E6,cond_false,obs,obs]
        by_cases hc:vq n=0
        · rw [vp hc,cond_false,if_pos ⟨rfl,hc⟩]
        · rw [vD hc,cond_true,if_neg (fun hh=>hc hh.2)];rfl
     unfold AL at hsm ⊢
     by_cases k0:K=0
     · rw [if_pos k0] at hsm ⊢
       rw [show (K == 0)=true by simpa using k0,cond_true,obs,Eo]
       exact step _ _ hsm
     rw [if_neg k0] at hsm ⊢
     rw [show (K == 0)=false by simpa using k0,cond_false]
     by_cases k1:K=1
     · rw [if_pos k1] at hsm ⊢
       rw [show (K == 1)=true by simpa using k1,cond_true,EW B (by omega),obs,obs]
       exact step _ _ hsm
     rw [if_neg k1] at hsm ⊢
     rw [show (K == 1)=false by simpa using k1,cond_false]
     by_cases k2:K=2
     · rw [if_pos k2] at hsm ⊢
       rw [show (K == 2)=true by simpa using k2,cond_true,Eg B (by omega),obs,obs]
       exact step (DD B).1 _ hsm
     · rw [if_neg k2] at hsm ⊢
       rw [show (K == 2)=false by simpa using k2,cond_false,obs]
       exact step _ _ hsm
   · rw [if_pos h2,show ((vW l).2.1 != (l.length:Int))=true by simpa using h2,cond_true];rfl
 · rw [if_pos h,vD h,cond_true];rfl
theorem Ha {n:DNode}(h:vq n=0):AL n.kind (yt n)=(n,true):=by
 have p:=parts h
 rcases vz.1 h with ⟨h0,h1,h2,h3,h4⟩ | ⟨h0,hl⟩ | ⟨h0,hi⟩
 · obtain⟨k,a,b,c,d⟩:=n
   simp only at h0 h1 h2 h3 h4
   subst h0 h1 h2 h3 h4
   rfl
 · unfold AL
   have e1:yt n=n.elems.flatMap ebE:=by unfold yt;rw [hl.kids];simp [yb]
   rw [if_neg (by omega),if_pos h0,e1,FO,EH _ _ _ p.ok (by omega)]
   obtain⟨k,a,b,c,d⟩:=n
   have h1:=hl.kids;have h2:=hl.seps;have h3:=hl.tids
   simp only at h0 h1 h2 h3
   subst h0 h1 h2 h3
   rfl
 · unfold AL
   have e1:yt n=yb n.kids n.tids n.seps:=by unfold yt;rw [hi.elems];simp
   rw [if_neg (by omega),if_neg (by omega),if_pos h0,e1,Hw hi.seps hi.tids p.fit p.sep]
   obtain⟨k,a,b,c,d⟩:=n
   have h1:=hi.elems
   simp only at h0 h1
   subst h0 h1
   rfl
theorem zz (n:DNode):(v9 n).length=(yt n).length+5:=xO _ _
theorem IL {n:DNode}(h:vq n=0)(more:List UInt8):vW (v9 n++more)=(⟨n.kind+1,ofL (yt n)⟩,(((yt n).length+5:Nat):Int),0):=by
 have p:=parts h
 have:=AM h
 have:=p.kind
 unfold v9
 rw [Br _ _ _ (by omega) (by omega) (by omega),G0 (by omega)]
theorem HN {n:DNode}(h:vq n=0):GU (v9 n)=(n,0):=by
 have hg:=IL h []
 have hl:=zz n
 rw [t6] at hg
 unfold GU
 rw [hg]
 dsimp only
 rw [if_neg (by simp),if_neg (by rw [hl];simp),show n.kind+1-1=n.kind by omega,show (ofL (yt n)).data.toList=yt n from rfl,Ha h]
 exact if_pos ⟨rfl,h⟩
end
section
structure Span where
 lo:DSpot
 hi:DSpot
 hasLo:Bool
 hasHi:Bool
def inS (s:Span)(x:DSpot):Bool:=(!s.hasLo||decide (cmpS s.lo x≤0))&&(!s.hasHi||decide (cmpS x s.hi<0))
def fl (e:Int):Int:=if e=0 then 3 else e
theorem Dn (e:Int):fl e≠0:=by unfold fl;split <;> omega
def nd (ns:List DNode)(i:Int):DNode:=(ns[i.toNat]?).getD ⟨0,[],[],[],[]⟩
def xD (n:DNode)(s:Span):Nat→Span
 | 0=>s
 | j+1=>match n.seps[j]? with
  | some x=>{ s with lo:=x,hasLo:=true }
  | none=>s
def BZ (n:DNode)(s:Span)(k:Nat):Span:=match n.seps[k]? with
 | some x=>{ s with hi:=x,hasHi:=true }
 | none=>s
def vy (n:DNode)(s:Span)(k:Nat):Span:=BZ n (xD n s k) k
def vP (n:DNode)(s:Span):Nat→Bool
 | 0=>false
 | j+1=>match n.seps[j]? with
  | some x=>!inS s x
  | none=>false
def unseen (l:List Bool):Nat:=l.count false
theorem CS {l:List Bool}{i:Nat}(h:l[i]? = some false):unseen (l.set i true)+1=unseen l:=by
 induction l generalizing i with
 | nil=>simp at h
 | cons a l ih =>
  cases i with
  | zero =>
   obtain rfl:a=false:=by simpa using h
   simp [unseen]
  | succ i =>
   have:=ih (i:=i) (by simpa using h)
   unfold unseen at *
   rw [List.set_cons_succ,v7,v7]
   omega
theorem HW {l l' : List Bool}(hl:l'.length=l.length)(h : ∀ j:Nat,l[j]? = some true→l'[j]? = some true):unseen l'≤unseen l:=by
 induction l generalizing l' with
 | nil =>
  obtain rfl:l' = []:=L_ (by simpa using hl)
  exact g8 _
 | cons a l ih =>
  cases l' with
  | nil=>simp at hl
  | cons b l' =>
   have h0:=h 0
   have:=ih (l':=l') (by simpa using hl) (fun j hj=>by simpa using h (j+1) (by simpa using hj))
   unfold unseen at *
   rw [v7,v7]
   cases a <;> cases b <;> simp at h0 ⊢ <;> omega
theorem Dd (l:List Bool):unseen l≤l.length:=List.count_le_length
def xr (l:List Bool)(is:List Nat):List Bool:=is.foldl (fun l i=>l.set i true) l
theorem AZ (l:List Bool)(a b:List Nat):xr l (a++b)=xr (xr l a) b:=o8
theorem zQ (l:List Bool)(is:List Nat)(j:Nat):(xr l is)[j]? = if j∈is∧j<l.length then some true else l[j]?:=by
 induction is generalizing l with
 | nil=>simp [xr]
 | cons i is ih =>
  show (xr (l.set i true) is)[j]? = _
  rw [ih,y_,S_]
  by_cases h1:j∈is
  · by_cases h2:j<l.length
    · rw [if_pos (show j∈is∧j<l.length from ⟨h1,h2⟩),if_pos (show j∈i::is∧j<l.length from ⟨f_ _ h1,h2⟩)]
    · rw [if_neg (show ¬ (j∈is∧j<l.length) from fun h=>h2 h.2),if_neg (show ¬ (j∈i::is∧j<l.length) from fun h=>h2 h.2)]
      by_cases e:i=j
      · subst e;rw [if_pos rfl,if_neg h2,l9 (by omega)]
      · rw [if_neg e]
  · rw [if_neg (show ¬ (j∈is∧j<l.length) from fun h=>h1 h.1)]
    by_cases e:i=j
    · subst e
      rw [if_pos rfl]
      by_cases h2:i<l.length
      · rw [if_pos h2,if_pos (show i∈i::is∧i<l.length from ⟨d_,h2⟩)]
      · rw [if_neg h2,if_neg (show ¬ (i∈i::is∧i<l.length) from fun h=>h2 h.2),l9 (by omega)]
    · rw [if_neg e,if_neg]
      rintro⟨h,_⟩
      rcases g_.1 h with h | h
      · exact e h.symm
      · exact h1 h
abbrev VS:=List Bool × Int × Int
def wJ (n:DNode)(v:VS→Int→Int→Span→VS × Int)(s:Span)(d:Int)(st:VS)(p:Int × Nat):VS :=
 let r:=v (st.1,st.2.1,if vP n s p.2 then fl st.2.2 else st.2.2) p.1 (d+1) (vy n s p.2)
 if r.2≠(n.tids[p.2]?).getD 0 then (r.1.1,r.1.2.1,fl r.1.2.2) else r.1
def vis (ns:List DNode):Nat→VS→Int→Int→Span→VS × Int
 | 0,st,_,_,_=>((st.1,st.2.1,3),0)
 | m+1,st,i,d,s =>
  if st.2.2≠0 then (st,0)
  else if i<0∨(ns.length:Int)≤i∨(st.1[i.toNat]?).getD true=true∨(nd ns i).kind=0 then ((st.1,st.2.1,3),0)
  else if (nd ns i).kind=1 then
   ((st.1.set i.toNat true,if st.2.1<0 then d else st.2.1,
    (nd ns i).elems.foldl (fun e x=>if inS s (uU x) then e else fl e)
     (if (if st.2.1<0 then d else st.2.1)≠d then fl (if 0<d∧(nd ns i).elems.length+(nd ns i).kids.length<4 then 3 else 0) else if 0<d∧(nd ns i).elems.length+(nd ns i).kids.length<4 then 3 else 0)),ve (nd ns i))
  else
   ((nd ns i).kids.zipIdx.foldl (wJ (nd ns i) (vis ns m) s d) (st.1.set i.toNat true,st.2.1,if 0<d∧(nd ns i).elems.length+(nd ns i).kids.length<4 then 3 else 0),ve (nd ns i))
theorem HZ (ns:List DNode)(m:Nat){st:VS}(i d:Int)(s:Span)(h:st.2.2≠0):(vis ns m st i d s).1.2.2≠0:=by
 cases m with
 | zero=>simp [vis]
 | succ m=>rw [vis,if_pos h];exact h
theorem Gy {n:DNode}{v:VS→Int→Int→Span→VS × Int}(hv : ∀(st:VS) i d s,st.2.2≠0→(v st i d s).1.2.2≠0){s:Span}{d:Int}{st:VS}{p:Int × Nat}(h:(wJ n v s d st p).2.2=0) :
 st.2.2=0∧vP n s p.2=false∧(v (st.1,st.2.1,0) p.1 (d+1) (vy n s p.2)).2=(n.tids[p.2]?).getD 0∧(v (st.1,st.2.1,0) p.1 (d+1) (vy n s p.2)).1.2.2=0 ∧
  wJ n v s d st p=(v (st.1,st.2.1,0) p.1 (d+1) (vy n s p.2)).1:=by
 have hsx:(if vP n s p.2=true then fl st.2.2 else st.2.2)=0:=by
  by_cases hz:(if vP n s p.2=true then fl st.2.2 else st.2.2)=0
  · exact hz
  · exfalso
    have hst:=hv (st.1,st.2.1,if vP n s p.2=true then fl st.2.2 else st.2.2) p.1 (d+1) (vy n s p.2) hz
    unfold wJ at h
    dsimp only at h
    by_cases hr:(v (st.1,st.2.1,if vP n s p.2=true then fl st.2.2 else st.2.2) p.1 (d+1) (vy n s p.2)).2≠(n.tids[p.2]?).getD 0
    · rw [if_pos hr] at h;exact Dn _ h
    · rw [if_neg hr] at h;exact hst h
 have hb:vP n s p.2=false:=by
  cases hb:vP n s p.2 with
  | false=>rfl
  | true=>rw [hb,if_pos rfl] at hsx;exact absurd hsx (Dn _)
 have hst0:st.2.2=0:=by rw [hb] at hsx;simpa using hsx
 unfold wJ at h ⊢
 dsimp only at h ⊢
 rw [hsx] at h ⊢
 by_cases hr:(v (st.1,st.2.1,0) p.1 (d+1) (vy n s p.2)).2≠(n.tids[p.2]?).getD 0
 · rw [if_pos hr] at h;exact absurd h (Dn _)
 · rw [if_neg hr] at h ⊢
   exact⟨hst0,hb,by simpa using hr,h,rfl⟩
def wH (a b:List Bool):Prop:=b.length=a.length∧∀ j:Nat,a[j]? = some true→b[j]? = some true
theorem wH.refl (a:List Bool):wH a a:=⟨rfl,fun _ h=>h⟩
theorem wH.trans {a b c:List Bool}(h:wH a b)(k:wH b c):wH a c:=⟨k.1.trans h.1,fun j hj=>k.2 j (h.2 j hj)⟩
theorem wH.set (a:List Bool)(i:Nat):wH a (a.set i true):=⟨y_,fun j hj=>by
 rw [S_]
 split
 · split
   · rfl
   · rename_i e h;subst e;rw [l9 (by omega)] at hj;exact hj
 · exact hj⟩
theorem wH.unseen {a b:List Bool}(h:wH a b):unseen b≤unseen a:=HW h.1 h.2
theorem BV {n:DNode}{v:VS→Int→Int→Span→VS × Int}(hv : ∀ st i d s,wH st.1 (v st i d s).1.1)(s:Span)(d:Int)(st:VS)(p:Int × Nat):wH st.1 (wJ n v s d st p).1:=by
 have:=hv (st.1,st.2.1,if vP n s p.2 then fl st.2.2 else st.2.2) p.1 (d+1) (vy n s p.2)
 unfold wJ
 dsimp only
 by_cases hr:(v (st.1,st.2.1,if vP n s p.2=true then fl st.2.2 else st.2.2) p.1 (d+1) (vy n s p.2)).2≠(n.tids[p.2]?).getD 0
 · rw [if_pos hr];exact this
 · rw [if_neg hr];exact this
theorem BO {n:DNode}{v:VS→Int→Int→Span→VS × Int}(hv : ∀ st i d s,wH st.1 (v st i d s).1.1)(s:Span)(d:Int)(ps:List (Int × Nat)):∀ st:VS,wH st.1 (ps.foldl (wJ n v s d) st).1:=by
 induction ps with
 | nil=>exact fun st=>wH.refl _
 | cons p ps ih=>exact fun st=>(BV hv s d st p).trans (ih _)
theorem BJ (ns:List DNode):∀(m:Nat) (st:VS) (i d:Int) (s:Span),wH st.1 (vis ns m st i d s).1.1:=by
 intro m
 induction m with
 | zero=>exact fun st i d s=>wH.refl _
 | succ m ih =>
  intro st i d s
  rw [vis]
  split
  · exact wH.refl _
  split
  · exact wH.refl _
  split
  · exact wH.set _ _
  · exact(wH.set st.1 i.toNat).trans (BO (n:=nd ns i) ih s d (nd ns i).kids.zipIdx (st.1.set i.toNat true,st.2.1,if 0<d∧(nd ns i).elems.length+(nd ns i).kids.length<4 then 3 else 0))
def okN (ns:List DNode):Nat→Int→Int→Span→Prop
 | 0,i,d,s=>(0≤i∧i<(ns.length:Int))∧(nd ns i).kind=1∧(0<d→4≤(nd ns i).elems.length+(nd ns i).kids.length)∧∀ x∈(nd ns i).elems,inS s (uU x)=true
 | h+1,i,d,s=>(0≤i∧i<(ns.length:Int))∧((nd ns i).kind≠0∧(nd ns i).kind≠1)∧(0<d→4≤(nd ns i).elems.length+(nd ns i).kids.length) ∧
  ∀ p∈(nd ns i).kids.zipIdx,okN ns h p.1 (d+1) (vy (nd ns i) s p.2)∧vP (nd ns i) s p.2=false∧ve (nd ns p.1)=((nd ns i).tids[p.2]?).getD 0
def ids (ns:List DNode):Nat→Int→List Nat
 | 0,i=>[i.toNat]
 | h+1,i=>i.toNat::(nd ns i).kids.flatMap (ids ns h)
theorem Bs (l:List DElem)(s:Span):∀ e:Int,l.foldl (fun e x=>if inS s (uU x) then e else fl e) e=0↔e=0∧∀ x∈l,inS s (uU x)=true:=by
 induction l with
 | nil=>intro e;simp
 | cons a l ih =>
  intro e
  rw [E_,ih]
  by_cases h:inS s (uU a)=true
  · rw [if_pos h];simp [h]
  · rw [if_neg h];simp [h,Dn]
def xN (ns:List DNode)(h:Nat)(ps:List (Int × Nat)):List Nat:=ps.flatMap fun p=>ids ns h p.1
theorem zM (ns:List DNode)(h:Nat)(l:List Int):xN ns h l.zipIdx=l.flatMap (ids ns h):=by
 unfold xN
 have : ∀(l:List Int) (n:Nat),(l.zipIdx n).flatMap (fun p=>ids ns h p.1)=l.flatMap (ids ns h):=by
  intro l
  induction l with
  | nil=>intro n;rfl
  | cons a l ih=>intro n;rw [K0,o_,o_,ih]
 exact this l 0
theorem wS {ns:List DNode}{i:Int}(h0:0≤i)(h1:i<(ns.length:Int)):nd ns i∈ns:=by
 unfold nd
 rw [gge (show i.toNat<ns.length by omega)]
 exact x_ _
theorem Bb {ns:List DNode}{i:Nat}{n:DNode}(h:ns[i]? = some n):nd ns (i:Int)=n:=by
 unfold nd;rw [j_,h];rfl
theorem HY (ns:List DNode)(hns : ∀ n∈ns,vq n=0):∀(m:Nat) (vG:List Bool) (deep i d:Int) (s:Span),vG.length=ns.length→0≤d→(vis ns m (vG,deep,0) i d s).1.2.2=0 →
 ∃ h:Nat,okN ns h i d s∧(ids ns h i).Nodup∧(∀ j∈ids ns h i,vG[j]? = some false)∧(deep<0∨deep=d+h)∧vis ns m (vG,deep,0) i d s=((xr vG (ids ns h i),d+h,0),ve (nd ns i)):=by
 intro m
 induction m with
 | zero=>intro vG deep i d s _ _ h;simp [vis] at h
 | succ m ih =>
  intro vG deep i d s hsl hd he
  rw [vis] at he ⊢
  dsimp only at he ⊢
  rw [if_neg (by simp)] at he ⊢
  split at he
  · exact absurd he (by simp)
  rename_i hin
  rw [if_neg hin]
  have h0:0≤i:=by omega
  have h1:i<(ns.length:Int):=by omega
  have h2:vG[i.toNat]? = some false:=by
   have hlt:i.toNat<vG.length:=by omega
   rw [gge hlt]
   cases hb:vG[i.toNat] with
   | false=>rfl
   | true=>exact absurd (.inr (.inr (.inl (by rw [gge hlt,hb];rfl)))) hin
  have h3:(nd ns i).kind≠0:=fun h=>hin (.inr (.inr (.inr h)))
  split at he
  · rename_i hk
    rw [if_pos hk]
    dsimp only at he
    rw [Bs] at he
    obtain⟨he1,he2⟩:=he
    have hdeep:(if deep<0 then d else deep)=d:=by
     by_cases hx:(if deep<0 then d else deep)=d
     · exact hx
     · rw [if_pos hx] at he1;exact absurd he1 (Dn _)
    rw [if_neg (by simpa using hdeep)] at he1
    have hfill : ¬ (0<d∧(nd ns i).elems.length+(nd ns i).kids.length<4):=fun h=>by rw [if_pos h] at he1;cases he1
    refine⟨0,⟨⟨h0,h1⟩,hk,fun hd=>by omega,he2⟩,by simp [ids],fun j hj=>?_,?_,?_⟩
    · obtain rfl:j=i.toNat:=by simpa [ids] using hj
      exact h2
    · by_cases hx:deep<0
      · exact .inl hx
      · rw [if_neg hx] at hdeep;exact .inr (by omega)
    · have e1 : o6 (fun e x => if inS s (uU x) = true then e else fl e) (if (if deep < 0 then d else deep) ≠ d then fl (if 0 < d ∧ (nd ns i).elems.length + (nd ns i).kids.length < 4 then 3 else 0) else if 0 < d ∧ (nd ns i).elems.length + (nd ns i).kids.length < 4 then 3 else 0) (nd ns i).elems = 0 := by
       rw [Bs]
       refine⟨?_,he2⟩
       rw [if_neg (by simpa using hdeep),if_neg hfill]
      rw [e1,hdeep]
      simp [xr,ids]
  · rename_i hk
    rw [if_neg hk]
    dsimp only at he
    have key : ∀(ps:List (Int × Nat)) (st:VS),st.1.length=ns.length→(ps.foldl (wJ (nd ns i) (vis ns m) s d) st).2.2=0→st.2.2=0∧(ps≠[]→∃ h:Nat,
     (∀ p∈ps,okN ns h p.1 (d+1) (vy (nd ns i) s p.2)∧vP (nd ns i) s p.2=false∧ve (nd ns p.1)=((nd ns i).tids[p.2]?).getD 0)∧(xN ns h ps).Nodup ∧
     (∀ j∈xN ns h ps,st.1[j]? = some false)∧(st.2.1<0∨st.2.1=d+1+h)∧ps.foldl (wJ (nd ns i) (vis ns m) s d) st=(xr st.1 (xN ns h ps),d+1+h,0)):=by
     intro ps
     induction ps with
     | nil=>exact fun st _ h=>⟨h,fun h=>absurd rfl h⟩
     | cons p ps ihp =>
      intro st hl he
      rw [E_] at he
      obtain⟨k1,k2⟩:=ihp (wJ (nd ns i) (vis ns m) s d st p) (by rw [(BV (BJ ns m) s d st p).1];exact hl) he
      have hs0:=Gy (fun st i d s=>HZ ns m i d s) k1
      obtain⟨hst0,hb,hr,hre,hstep⟩:=hs0
      obtain⟨h,q1,q2,q3,q4,q5⟩:=ih st.1 st.2.1 p.1 (d+1) (vy (nd ns i) s p.2) hl (by omega) hre
      rw [q5] at hr hstep
      dsimp only at hr hstep
      refine⟨hst0,fun _=>?_⟩
      by_cases hps:ps=[]
      · subst hps
        refine⟨h,fun p' hp'=>?_,?_,?_,q4,?_⟩
        · obtain rfl:p' = p:=by simpa using hp'
          exact⟨q1,hb,hr⟩
        · simpa [xN] using q2
        · simpa [xN] using q3
        · rw [E_,C6,hstep];simp [xN]
      · obtain⟨h',w1,w2,w3,w4,w5⟩:=k2 hps
        rw [hstep] at w3 w4 w5
        dsimp only at w3 w4 w5
        obtain rfl:h=h':=by omega
        have hdis : ∀ j∈xN ns h ps,j ∉ ids ns h p.1∧st.1[j]? = some false:=fun j hj=>by
         have:=w3 j hj
         rw [zQ] at this
         split at this
         · cases this
         · rename_i hne
           refine⟨fun hm=>hne ⟨hm,?_⟩,this⟩
           exact(ggs.1 this).1
        refine⟨h,fun p' hp'=>?_,?_,fun j hj=>?_,q4,?_⟩
        · rcases g_.1 hp' with rfl | hp'
          · exact⟨q1,hb,hr⟩
          · exact w1 p' hp'
        · show (ids ns h p.1++xN ns h ps).Nodup
          exact v8.2 ⟨q2,w2,fun a ha b hb' e=>(hdis b hb').1 (e▸ha)⟩
        · rcases Y_.1 (show j∈ids ns h p.1++xN ns h ps from hj) with hj | hj
          · exact q3 j hj
          · exact(hdis j hj).2
        · rw [E_,hstep,w5]
          show _=(xr st.1 (ids ns h p.1++xN ns h ps),_,_)
          rw [AZ]
    obtain⟨k1,k2⟩:=key _ _ (by rw [y_];exact hsl) he
    dsimp only at k1 k2
    have hfill : ¬ (0<d∧(nd ns i).elems.length+(nd ns i).kids.length<4):=fun h=>by rw [if_pos h] at k1;cases k1
    by_cases hnil:(nd ns i).kids.zipIdx=[]
    · have hk0:(nd ns i).kids=[]:=by simpa using hnil
      rcases vz.1 (hns _ (wS h0 h1)) with h | h | h
      · exact absurd h.1 h3
      · exact absurd h.1 hk
      · have:=h.2.two;rw [hk0] at this;simp at this
    · obtain⟨h,w1,w2,w3,w4,w5⟩:=k2 hnil
      rw [zM] at w2 w3 w5
      have hset : ∀ j∈(nd ns i).kids.flatMap (ids ns h),j≠i.toNat∧vG[j]? = some false:=fun j hj=>by
       have:=w3 j hj
       rw [S_] at this
       split at this
       · split at this
         · cases this
         · cases this
       · rename_i hne;exact⟨fun e=>hne e.symm,this⟩
      refine⟨h+1,⟨⟨h0,h1⟩,⟨h3,hk⟩,fun hd=>by omega,w1⟩,?_,fun j hj=>?_,?_,?_⟩
      · rw [ids,w6]
        exact⟨fun hm=>(hset _ hm).1 rfl,w2⟩
      · rw [ids] at hj
        rcases g_.1 hj with rfl | hj
        · exact h2
        · exact(hset j hj).2
      · rcases w4 with w4 | w4
        · exact .inl w4
        · exact .inr (by push_cast;omega)
      · rw [w5,ids]
        show _=((xr (vG.set i.toNat true) _,_,_),_)
        congr 3
        push_cast;omega
theorem I8 {n:DNode}{v:VS→Int→Int→Span→VS × Int}{s:Span}{d:Int}{vG seen' : List Bool}{deep deep' g:Int}{p:Int × Nat}(hb:vP n s p.2=false)
 (hv:v (vG,deep,0) p.1 (d+1) (vy n s p.2)=((seen',deep',0),g)) (hg:g=(n.tids[p.2]?).getD 0):wJ n v s d (vG,deep,0) p=(seen',deep',0):=by
 have e:(if vP n s p.2=true then fl 0 else 0)=(0:Int):=by rw [hb];rfl
 unfold wJ
 dsimp only
 rw [e,hv,if_neg (by simpa using hg)]
theorem EA (ns:List DNode)(hns : ∀ n∈ns,vq n=0):∀(h m:Nat) (vG:List Bool) (deep i d:Int) (s:Span),okN ns h i d s→(ids ns h i).Nodup→(∀ j∈ids ns h i,vG[j]? = some false) →
 (deep<0∨deep=d+h)→0≤d→h<m→vis ns m (vG,deep,0) i d s=((xr vG (ids ns h i),d+h,0),ve (nd ns i)):=by
 intro h
 induction h with
 | zero =>
  intro m vG deep i d s ⟨⟨h0,h1⟩,hk,hf,hi⟩ hnd hse hdeep hd hm
  obtain⟨m,rfl⟩ : ∃ q,m=q+1:=⟨m-1,by omega⟩
  have hsi:vG[i.toNat]? = some false:=hse _ (by simp [ids])
  rw [vis]
  dsimp only
  rw [if_neg (by simp),if_neg (by rw [hsi,hk];simp;omega),if_pos hk]
  have hdd:(if deep<0 then d else deep)=d:=by split <;> omega
  have e1:o6 (fun e x=>if inS s (uU x)=true then e else fl e) (if (if deep<0 then d else deep)≠d then fl (if 0<d∧(nd ns i).elems.length+(nd ns i).kids.length<4 then 3 else 0) else if 0<d∧(nd ns i).elems.length+(nd ns i).kids.length<4 then 3 else 0) (nd ns i).elems=0:=by
   rw [Bs]
   exact⟨by rw [if_neg (by simpa using hdd),if_neg (by omega)],hi⟩
  rw [e1,hdd]
  simp [xr,ids]
 | succ h ih =>
  intro m vG deep i d s ⟨⟨h0,h1⟩,⟨hk0,hk1⟩,hf,hi⟩ hnd hse hdeep hd hm
  obtain⟨m,rfl⟩ : ∃ q,m=q+1:=⟨m-1,by omega⟩
  rw [ids] at hnd hse ⊢
  rw [w6] at hnd
  have hsi:vG[i.toNat]? = some false:=hse _ d_
  rw [vis]
  dsimp only
  rw [if_neg (by simp),if_neg (by rw [hsi];simp;omega),if_neg hk1,if_neg (by omega)]
  have key : ∀(ps:List (Int × Nat)) (vG:List Bool) (deep:Int),(∀ p∈ps,okN ns h p.1 (d+1) (vy (nd ns i) s p.2)∧vP (nd ns i) s p.2=false∧ve (nd ns p.1)=((nd ns i).tids[p.2]?).getD 0) →
   (xN ns h ps).Nodup→(∀ j∈xN ns h ps,vG[j]? = some false)→(deep<0∨deep=d+1+h) →
   ps.foldl (wJ (nd ns i) (vis ns m) s d) (vG,deep,0)=(xr vG (xN ns h ps),if ps=[] then deep else d+1+h,0):=by
   intro ps
   induction ps with
   | nil=>intro vG deep _ _ _ _;rfl
   | cons p ps ihp =>
    intro vG deep hp hn hs hdp
    obtain⟨p1,p2,p3⟩:=hp p d_
    have hfl:xN ns h (p::ps)=ids ns h p.1++xN ns h ps:=rfl
    rw [hfl] at hn hs ⊢
    rw [v8] at hn
    obtain⟨n1,n2,n3⟩:=hn
    have e1:=ih m vG deep p.1 (d+1) (vy (nd ns i) s p.2) p1 n1 (fun j hj=>hs j (K8 _ hj)) hdp (by omega) (by omega)
    rw [E_,I8 p2 e1 p3,ihp _ _ (fun p' hp'=>hp p' (f_ _ hp')) n2 (fun j hj=>?_) (.inr rfl),AZ,if_neg (List.cons_ne_nil _ _)]
    · split <;> rfl
    · rw [zQ,if_neg]
      · exact hs j (List.mem_append_right _ hj)
      · exact fun hx=>n3 _ hx.1 _ hj rfl
  have hne:(nd ns i).kids.zipIdx≠[]:=fun hnil=>by
   have hk0' : (nd ns i).kids=[]:=by simpa using hnil
   rcases vz.1 (hns _ (wS h0 h1)) with h | h | h
   · exact hk0 h.1
   · exact hk1 h.1
   · have:=h.2.two;rw [hk0'] at this;simp at this
  rw [key _ _ _ hi (by rw [zM];exact hnd.2) (fun j hj=>?_) (by push_cast at hdeep;omega),if_neg hne,zM]
  · show ((xr _ _,_,_),_)=((xr (vG.set i.toNat true) _,_,_),_)
    congr 3
    push_cast;omega
  · rw [zM] at hj
    rw [S_,if_neg (fun e=>hnd.1 (by rw [e];exact hj))]
    exact hse j (f_ _ hj)
theorem Bm : ∀(l:List Nat) (vG:List Bool),l.Nodup→(∀ j∈l,vG[j]? = some false)→unseen (xr vG l)+l.length=unseen vG
 | [],vG,_,_=>rfl
 | i::l,vG,hn,hs=>by
  rw [w6] at hn
  have h1:=CS (hs i d_)
  have:=Bm l (vG.set i true) hn.2 fun j hj=>by
   rw [S_,if_neg (fun e=>hn.1 (by rw [e];exact hj))]
   exact hs j (f_ _ hj)
  show unseen (xr (vG.set i true) l)+(l.length+1)=_
  omega
theorem Dw (ns:List DNode):∀(h:Nat) (i d:Int) (s:Span),okN ns h i d s→∀ j∈ids ns h i,j<ns.length:=by
 intro h
 induction h with
 | zero =>
  intro i d s hok j hj
  obtain rfl:j=i.toNat:=by simpa [ids] using hj
  have:=hok.1
  omega
 | succ h ih =>
  intro i d s hok j hj
  rw [ids] at hj
  rcases g_.1 hj with rfl | hj
  · have:=hok.1;omega
  · obtain⟨k,hk,hj⟩:=M_.1 hj
    obtain⟨q,hq⟩:=p_.1 hk
    exact ih k _ _ (hok.2.2.2 (k,q) (by rw [I_];exact hq)).1 j hj
theorem Ap {ns:List DNode}{h:Nat}{i d:Int}{s:Span}(hok:okN ns h i d s)(hn:(ids ns h i).Nodup):(ids ns h i).length≤ns.length:=by
 have h1:=Bm (ids ns h i) (q_ ns.length false) hn fun j hj=>by
  rw [g6,if_pos (Dw ns h i d s hok j hj)]
 have h2:unseen (q_ ns.length false)=ns.length:=by unfold unseen;simp
 omega
theorem xl {ns:List DNode}(hns : ∀ n∈ns,vq n=0){i:Int}(h0:0≤i∧i<(ns.length:Int))(hk:(nd ns i).kind≠0∧(nd ns i).kind≠1):(nd ns i).kind=2∧Inner (nd ns i):=by
 rcases vz.1 (hns _ (wS h0.1 h0.2)) with h | h | h
 · exact absurd h.1 hk.1
 · exact absurd h.1 hk.2
 · exact h
theorem yv {ns:List DNode}(hns : ∀ n∈ns,vq n=0){i:Int}(h0:0≤i∧i<(ns.length:Int))(hk:(nd ns i).kind=1):Leaf (nd ns i):=by
 rcases vz.1 (hns _ (wS h0.1 h0.2)) with h | h | h
 · rw [hk] at h;exact absurd h.1 (by decide)
 · exact h.2
 · rw [hk] at h;exact absurd h.1 (by decide)
theorem Ao {ns:List DNode}(hns : ∀ n∈ns,vq n=0):∀(h:Nat) (i d:Int) (s:Span),okN ns h i d s→h<(ids ns h i).length:=by
 intro h
 induction h with
 | zero=>intro i d s _;simp [ids]
 | succ h ih =>
  intro i d s hok
  have hin:=(xl hns hok.1 hok.2.1).2
  obtain⟨k,hk⟩ : ∃ k,(nd ns i).kids[0]? = some k:=⟨_,gge (by have:=hin.two;omega)⟩
  have h1:=ih k _ _ (hok.2.2.2 (k,0) (by rw [I_];exact hk)).1
  rw [ids,K_,w7]
  have h2:(ids ns h k).length≤((nd ns i).kids.map fun a=>(ids ns h a).length).sum:=by
   have : ∀ l:List Int,k∈l→(ids ns h k).length≤(l.map fun a=>(ids ns h a).length).sum:=by
    intro l
    induction l with
    | nil=>intro h;cases h
    | cons a l ih =>
     intro hm
     rw [m0,B1]
     rcases g_.1 hm with rfl | hm
     · omega
     · have:=ih hm;omega
   exact this _ (i_ hk)
  omega
def uS (ns:List DNode):Nat→Int→List DElem
 | 0,i=>(nd ns i).elems
 | h+1,i=>(nd ns i).kids.flatMap (uS ns h)
theorem D1 {ns:List DNode}(hns : ∀ n∈ns,vq n=0):∀(h:Nat) (i d:Int) (s:Span),okN ns h i d s→(uS ns h i).length≤8*(ids ns h i).length:=by
 intro h
 induction h with
 | zero =>
  intro i d s hok
  have:=(yv hns hok.1 hok.2.1).len
  simp [uS,ids];omega
 | succ h ih =>
  intro i d s hok
  rw [uS,ids,K_,w7,w7]
  have : ∀ l:List Int,(∀ k∈l,(uS ns h k).length≤8*(ids ns h k).length)→(l.map fun a=>(uS ns h a).length).sum≤8*(l.map fun a=>(ids ns h a).length).sum:=by
   intro l
   induction l with
   | nil=>intro _;simp
   | cons a l ihl =>
    intro hm
    have h1:=ihl fun k hk=>hm k (f_ _ hk)
    have h2:=hm a d_
    rw [m0,m0,B1,B1]
    omega
  have:=this (nd ns i).kids fun k hk=>by
   obtain⟨q,hq⟩:=p_.1 hk
   exact ih k _ _ (hok.2.2.2 (k,q) (by rw [I_];exact hq)).1
  omega
def topS:Span:=⟨⟨⟨0,0,0⟩,0⟩,⟨⟨0,0,0⟩,0⟩,false,false⟩
structure Good (t:DTree) (h:Nat):Prop where
 len:t.nodes.length≤400
 chk : ∀ n∈t.nodes,vq n=0
 ok:okN t.nodes h t.root 0 topS
 nodup:(ids t.nodes h t.root).Nodup
 all : ∀ i:Nat,i<t.nodes.length→(nd t.nodes i).kind≠0→i∈ids t.nodes h t.root
def yO (F:Nat)(t:DTree):VS × Int:=vis t.nodes F (q_ t.nodes.length false,-1,0) t.root 0 topS
def Ih (F:Nat)(t:DTree):Int :=
 if 400<t.nodes.length then 2 else match t.nodes.findSome? fun n=>if vq n≠0 then some (vq n) else none with
  | some e=>e
  | none=>t.nodes.zipIdx.foldl (fun e p=>if p.1.kind≠0∧((yO F t).1.1[p.2]?).getD true=false then fl e else e) (yO F t).1.2.2
theorem Iq {α:Type}(q:α→Prop)[DecidablePred q](l:List α):∀ e:Int,l.foldl (fun e x=>if q x then fl e else e) e=0↔e=0∧∀ x∈l,¬ q x:=by
 induction l with
 | nil=>intro e;simp
 | cons a l ih =>
  intro e
  rw [E_,ih]
  by_cases h:q a
  · rw [if_pos h];simp [h,Dn]
  · rw [if_neg h];simp [h]
theorem Hd {F:Nat}[Big F]{t:DTree}:Ih F t=0↔∃ h,Good t h:=by
 unfold Ih
 by_cases hl:400<t.nodes.length
 · rw [if_pos hl]
   exact⟨fun h=>(by cases h),fun ⟨h,hg⟩=>(by have:=hg.len;omega)⟩
 rw [if_neg hl]
 cases hf:t.nodes.findSome? fun n=>if vq n≠0 then some (vq n) else none with
 | some e =>
  obtain⟨n,hn,he⟩:=List.exists_of_findSome?_eq_some hf
  split at he
  · rename_i hne
    obtain rfl:=l_.inj he
    exact⟨fun h=>absurd h hne,fun ⟨h,hg⟩=>absurd (hg.chk n hn) hne⟩
  · cases he
 | none =>
  rw [C7] at hf
  have hns : ∀ n∈t.nodes,vq n=0:=fun n hn=>by
   have:=hf n hn
   split at this
   · cases this
   · rename_i h;simpa using h
  dsimp only
  rw [Iq (fun p:DNode × Nat=>p.1.kind≠0∧((yO F t).1.1[p.2]?).getD true=false)]
  constructor
  · rintro⟨h1,h2⟩
    obtain⟨h,q1,q2,q3,q4,q5⟩:=HY t.nodes hns F (q_ t.nodes.length false) (-1) t.root 0 topS (by simp) (P_ _) h1
    refine⟨h,by omega,hns,q1,q2,fun i hi hk=>?_⟩
    have h3:=h2 (t.nodes[i],i) (by rw [I_];exact gge hi)
    have hnd:nd t.nodes (i:Int)=t.nodes[i]:=Bb (gge hi)
    rw [hnd] at hk
    unfold yO at h3
    rw [q5] at h3
    dsimp only at h3
    rw [zQ] at h3
    by_cases hm:i∈ids t.nodes h t.root
    · exact hm
    · rw [if_neg (fun hx=>hm hx.1),g6,if_pos hi] at h3
      exact absurd ⟨hk,rfl⟩ h3
  · rintro⟨h,hg⟩
    have hr:=Dw t.nodes h t.root 0 topS hg.ok
    have hF:h<F:=by
     have h1:=Ao hg.chk h t.root 0 topS hg.ok
     have h2:=Ap hg.ok hg.nodup
     have h3:=(inferInstance:Big F).le
     omega
    have e:=EA t.nodes hg.chk h F (q_ t.nodes.length false) (-1) t.root 0 topS hg.ok hg.nodup (fun j hj=>by rw [g6,if_pos (hr j hj)]) (.inl (by decide)) (P_ _) hF
    unfold yO
    rw [e]
    refine⟨rfl,fun p hp=>?_⟩
    rw [I_] at hp
    rintro⟨hk,hb⟩
    have hlt:=(ggs.1 hp).1
    have:=hg.all p.2 hlt (by rw [Bb hp];exact hk)
    rw [zQ,if_pos ⟨this,by simpa using hlt⟩] at hb
    cases hb
theorem vJ {s:Span}{x:DSpot}:inS s x=true↔(s.hasLo=true→cmpS s.lo x≤0)∧(s.hasHi=true→cmpS x s.hi<0):=by
 unfold inS
 cases s.hasLo <;> cases s.hasHi <;> simp
theorem Aj {a b c:DSpot}(h:cmpS a b≤0)(k:cmpS b c<0):cmpS a c<0:=by
 by_cases h0:cmpS a b<0
 · exact vc.lt_trans h0 k
 · obtain rfl:a=b:=(vc.zero _ _).1 (by omega)
   exact k
theorem wO {a b c:DSpot}(h:cmpS a b<0)(k:cmpS b c≤0):cmpS a c<0:=by
 by_cases h0:cmpS b c<0
 · exact vc.lt_trans h h0
 · obtain rfl:b=c:=(vc.zero _ _).1 (by omega)
   exact h
theorem FW {a b c:DSpot}(h:cmpS a b≤0)(k:cmpS b c≤0):cmpS a c≤0:=vc.trans _ _ _ h k
theorem EV {a b c:DSpot}(h:cmpS a b≤0)(k:cmpS b c≤0):cmpS a c≤0:=by
 by_cases h0:cmpS a b<0
 · have:=wO h0 k;omega
 · obtain rfl:a=b:=(vc.zero _ _).1 (by omega)
   exact k
theorem Fe {n:DNode}{s:Span}{k:Nat}{x y:DSpot}(hx:n.seps[k]? = some x)(h:inS (vy n s (k+1)) y=true):cmpS x y≤0:=by
 have h1:=(vJ.1 h).1
 have e:xD n s (k+1) = { s with lo:=x,hasLo:=true }:=by
  show (match n.seps[k]? with | some x=>_ | none=>s)=_
  rw [hx]
 have e2:(vy n s (k+1)).lo=x∧(vy n s (k+1)).hasLo=true:=by
  unfold vy BZ
  split
  · rw [e];exact⟨rfl,rfl⟩
  · rw [e];exact⟨rfl,rfl⟩
 rw [e2.1] at h1
 exact h1 e2.2
theorem CA {n:DNode}{s:Span}{k:Nat}{x y:DSpot}(hx:n.seps[k]? = some x)(h:inS (vy n s k) y=true):cmpS y x<0:=by
 have h1:=(vJ.1 h).2
 have e2:(vy n s k).hi=x∧(vy n s k).hasHi=true:=by
  unfold vy BZ
  rw [hx];exact⟨rfl,rfl⟩
 rw [e2.1] at h1
 exact h1 e2.2
theorem Hv {n:DNode}{s:Span}{k:Nat}{y:DSpot}(hk:k≤n.seps.length)(hb : ∀ j,j≤n.seps.length→vP n s j=false)(h:inS (vy n s k) y=true):inS s y=true:=by
 have hsep : ∀ j x,n.seps[j]? = some x→inS s x=true:=fun j x hx=>by
  have hjl:=(ggs.1 hx).1
  have:=hb (j+1) (by omega)
  have e:vP n s (j+1) = !inS s x:=by
   show (match n.seps[j]? with | some x=>_ | none=>false)=_
   rw [hx]
  rw [e] at this
  simpa using this
 rw [vJ]
 constructor
 · intro hl
   cases k with
   | zero =>
    have h1:=(vJ.1 h).1
    have e2:(vy n s 0).lo=s.lo∧(vy n s 0).hasLo=s.hasLo:=by
     unfold vy BZ;split <;> exact ⟨rfl,rfl⟩
    rw [e2.1,e2.2] at h1
    exact h1 hl
   | succ j =>
    have hx:n.seps[j]? = some n.seps[j]:=gge (by omega)
    exact FW ((vJ.1 (hsep _ _ hx)).1 hl) (Fe hx h)
 · intro hh
   by_cases hk' : k<n.seps.length
   · have hx:n.seps[k]? = some n.seps[k]:=gge hk'
     exact vc.lt_trans (CA hx h) ((vJ.1 (hsep _ _ hx)).2 hh)
   · have h1:=(vJ.1 h).2
     have hx:n.seps[k]? = none:=l9 (by omega)
     have e2:(vy n s k).hi=s.hi∧(vy n s k).hasHi=s.hasHi:=by
      have hl1:(xD n s k).hi=s.hi∧(xD n s k).hasHi=s.hasHi:=by
       unfold xD;split
       · exact⟨rfl,rfl⟩
       · split <;> exact ⟨rfl,rfl⟩
      unfold vy BZ
      rw [hx]
      exact hl1
     rw [e2.1,e2.2] at h1
     exact h1 hh
theorem yc {α β:Type}{R:β→β→Prop}{f:α→List β}:∀(l:List α),(∀ a∈l,(f a).Pairwise R)→(∀(i j:Nat) (a b:α),i<j→l[i]? = some a→l[j]? = some b→∀ x∈f a,∀ y∈f b,R x y)→(l.flatMap f).Pairwise R
 | [],_,_=>List.Pairwise.nil
 | a::l,h1,h2=>by
  rw [o_,E2]
  refine⟨h1 a d_,yc l (fun b hb=>h1 b (f_ _ hb)) (fun i j a' b hij ha hb=>h2 (i+1) (j+1) a' b (by omega) (by simpa using ha) (by simpa using hb)),fun x hx y hy=>?_⟩
  obtain⟨b,hb,hy⟩:=M_.1 hy
  obtain⟨q,hq⟩:=p_.1 hb
  exact h2 0 (q+1) a b (by omega) rfl (by simpa using hq) x hx y hy
theorem zc {l:List Int}{q:Nat}{k:Int}(h:l[q]? = some k):(k,q)∈l.zipIdx:=by rw [I_];exact h
theorem wB {ns:List DNode}(hns : ∀ n∈ns,vq n=0):∀(h:Nat) (i d:Int) (s:Span),okN ns h i d s→(uS ns h i).Pairwise SpO∧∀ e∈uS ns h i,inS s (uU e)=true∧vb e=0:=by
 intro h
 induction h with
 | zero =>
  intro i d s hok
  have hl:=yv hns hok.1 hok.2.1
  exact⟨hl.ord,fun e he=>⟨hok.2.2.2 e he,hl.ok e he⟩⟩
 | succ h ih =>
  intro i d s hok
  have hI:=(xl hns hok.1 hok.2.1).2
  have hkids : ∀ q k,(nd ns i).kids[q]? = some k→_:=fun q k hk=>ih k _ _ (hok.2.2.2 (k,q) (zc hk)).1
  have hbad : ∀ j,j≤(nd ns i).seps.length→vP (nd ns i) s j=false:=fun j hj=>by
   have hlen:=hI.seps
   have hk:(nd ns i).kids[j]? = some (nd ns i).kids[j]:=gge (by omega)
   exact(hok.2.2.2 (_,j) (zc hk)).2.1
  rw [uS]
  constructor
  · refine yc _ (fun k hk=>?_) (fun q r a b hqr ha hb x hx y hy=>?_)
    · obtain⟨q,hq⟩:=p_.1 hk
      exact(hkids q k hq).1
    · have hlen:=hI.seps
      have hrl:=(ggs.1 hb).1
      have h1:=((hkids q a ha).2 x hx).1
      have h2:=((hkids r b hb).2 y hy).1
      obtain⟨r,rfl⟩ : ∃ p,r=p+1:=⟨r-1,by omega⟩
      have hxq:(nd ns i).seps[q]? = some (nd ns i).seps[q]:=gge (by omega)
      have hxr:(nd ns i).seps[r]? = some (nd ns i).seps[r]:=gge (by omega)
      have h3:=CA hxq h1
      have h4:=Fe hxr h2
      show cmpS (uU x) (uU y)<0
      rcases Nat.lt_or_ge q r with hlt | hge
      · have:=wi hI.ord hlt hxq hxr
        exact wO (vc.lt_trans h3 this) h4
      · obtain rfl:q=r:=by omega
        exact wO h3 h4
  · intro e he
    obtain⟨k,hk,he⟩:=M_.1 he
    obtain⟨q,hq⟩:=p_.1 hk
    have h1:=(hkids q k hq).2 e he
    have hql:=(ggs.1 hq).1
    have hlen:=hI.seps
    exact⟨Hv (by omega) hbad h1.1,h1.2⟩
theorem Ja {α:Type}{f:α→Nat}{c:Nat}:∀(l:List α),(∀ a∈l,c≤f a)→c*l.length≤(l.map f).sum
 | [],_=>by simp
 | a::l,h=>by
  have:=Ja l fun b hb=>h b (f_ _ hb)
  have:=h a d_
  rw [m0,B1,K_,K1]
  omega
theorem F1 {ns:List DNode}(hns : ∀ n∈ns,vq n=0):∀(h:Nat) (i d:Int) (s:Span),okN ns h i d s→0<d→4 ^ (h+1)≤(uS ns h i).length:=by
 intro h
 induction h with
 | zero =>
  intro i d s hok hd
  have hl:=yv hns hok.1 hok.2.1
  have:=hok.2.2.1 hd
  rw [hl.kids] at this
  simpa [uS] using this
 | succ h ih =>
  intro i d s hok hd
  have hI:=(xl hns hok.1 hok.2.1).2
  have h4:=hok.2.2.1 hd
  rw [hI.elems] at h4
  rw [uS,w7]
  have:=Ja (c:=4 ^ (h+1)) (f:=fun k=>(uS ns h k).length) (nd ns i).kids fun k hk=>by
   obtain⟨q,hq⟩:=p_.1 hk
   have:=hok.1
   exact ih k _ _ (hok.2.2.2 (k,q) (zc hq)).1 (by omega)
  refine O_ ?_ this
  rw [Nat.pow_succ 4 (h+1)]
  exact K9 _ (by simpa using h4)
end
section
variable {F:Nat} [Big F]
theorem zn {σ ρ:Type}{f:(σ→Option ρ)→σ→Option ρ}(Pre:Nat→σ→Prop)(spec:Nat→σ→ρ)(h0 : ∀ s,¬ Pre 0 s)
 (h : ∀(m:Nat) (self:σ→Option ρ),(∀ s,Pre m s→self s=some (spec m s))→∀ s,Pre (m+1) s→f self s=some (spec (m+1) s)):∀(m:Nat) (s:σ),Pre m s→ql f m s=some (spec m s)
 | 0,s,hs=>absurd hs (h0 s)
 | m+1,s,hs=>h m (ql f m) (fun s hs=>zn Pre spec h0 h m s hs) s hs
theorem AP (e:Int):(bif (e == 0) then some 3 else some e:Option Int)=some (fl e):=by
 unfold fl
 by_cases h:e=0
 · subst h;rfl
 · have:(e == 0)=false:=by simpa using h
   rw [this,if_neg h];rfl
theorem Fa (lo hi x:DSpot)(a b:Bool) :
 (bif (!a) then (bif (!b) then some true else (jp x hi).bind fun r6=>some (decide (r6<0)))
  else (jp lo x).bind fun r4=>bif decide (r4≤0) then (bif (!b) then some true else (jp x hi).bind fun r5=>some (decide (r5<0))) else some false:Option Bool)=some (inS ⟨lo,hi,a,b⟩ x):=by
 simp only [vx,obs]
 unfold inS
 cases a <;> cases b <;> by_cases h1:cmpS lo x≤0 <;> simp [h1]
abbrev SV:=List Bool × Int × Int × Int × Int × Int × Int × Int × Int × Int × Int × Int × Int × Bool × Bool
def FG (ns:List DNode)(m:Nat):SV→List Bool × Int × Int × Int
 | (x2,x3,x4,x5,x6,x7,x8,x9,x10,x11,x12,x13,x14,x15,x16) =>
  let r:=vis ns m (x2,x3,x4) x5 x6 ⟨⟨⟨x7,x8,x9⟩,x10⟩,⟨⟨x11,x12,x13⟩,x14⟩,x15,x16⟩
  (r.1.1,r.1.2.1,r.1.2.2,r.2)
def Kw (ns:List DNode)(m:Nat):SV→Prop
 | (x2,x3,x4,x5,x6,x7,x8,x9,x10,x11,x12,x13,x14,x15,x16)=>x2.length=ns.length∧unseen x2<m∧0≤x6∧x6+(unseen x2:Int)≤1000
theorem Hy {l:List DNode}(h:l.length≤400):qV 1 (l.length:Int)=some ():=by
 unfold qV;rw [if_pos ⟨by omega,by omega,by unfold maxLen;omega⟩]
theorem F9 {α:Type}(l:List α){i:Int}(h:0≤i):idx l i=l[i.toNat]?:=by unfold idx;rw [if_neg (by omega)]
theorem Av {ns:List DNode}{i:Int}(h0:0≤i)(h1:i<(ns.length:Int)):idx ns i=some (nd ns i):=by
 unfold nd
 rw [F9 _ h0,gge (show i.toNat<ns.length by omega)];rfl
theorem H9 (ns:List DNode)(vG:List Bool)(i:Int)(hl:vG.length=ns.length) :
 (bif decide (i<0) then some true else bif decide ((ns.length:Int)≤i) then some true else (idx vG i).bind fun e2=>bif e2 then some true else (idx ns i).bind fun e3=>some (e3.kind == 0):Option Bool) =
  some (decide (i<0∨(ns.length:Int)≤i∨(vG[i.toNat]?).getD true=true∨(nd ns i).kind=0)):=by
 by_cases h0:i<0
 · simp [h0]
 by_cases h1:(ns.length:Int)≤i
 · simp [h1,h0]
 have hg:vG[i.toNat]? = some vG[i.toNat]:=gge (by omega)
 rw [F9 _ (by omega),Av (by omega) (by omega),hg]
 cases hb:vG[i.toNat] with
 | true=>simp [h0,h1]
 | false=>by_cases hk:(nd ns i).kind=0 <;> simp [h0,h1,hk]
theorem xG {n:DNode}(h:vq n=0):n.elems.length≤8∧n.kids.length≤8:=by
 rcases vz.1 h with h | h | h
 · rw [h.2.1,h.2.2.1];simp
 · have:=h.2.len;rw [h.2.kids];simpa using this
 · have:=h.2.eight;rw [h.2.elems];simpa using this
theorem Hf (n:DNode)(d:Int)(h:vq n=0) :
 (bif (decide ((0:Int)<d)&&decide (IntKind.i64.wrap ((n.elems.length:Int)+(n.kids.length:Int))<4)) then ((bif ((0:Int) == 0) then some 3 else some 0:Option Int).bind fun z8=>some z8) else some 0:Option Int) =
  some (if 0<d∧n.elems.length+n.kids.length<4 then 3 else 0):=by
 obtain⟨h1,h2⟩:=xG h
 rw [w64 (by omega) (by omega)]
 by_cases hd:0<d <;> by_cases hf:(n.elems.length:Int)+(n.kids.length:Int)<4
 · rw [if_pos ⟨hd,by omega⟩];simp [hd,hf]
 · rw [if_neg (by omega)];simp [hf]
 · rw [if_neg (by omega)];simp [hd]
 · rw [if_neg (by omega)];simp [hd]
theorem GC (ns:List DNode)(hns : ∀ n∈ns,vq n=0)(hs' : ∀ n∈ns,Small n)(m:Nat)(self:SV→Option (List Bool × Int × Int × Int))(ih : ∀ s,Kw ns m s→self s=some (FG ns m s))
 (x2:List Bool) (x3 x4 x5 x6:Int) (s:Span) (hlen:x2.length=ns.length) (hun:unseen x2<m+1) (hd0:0≤x6) (hd1:x6+(unseen x2:Int)≤1000) :
 (
  bif (x4 != 0) then
   some (x2,x3,x4,0)
   else
    (
     bif decide (x5<0) then
      some true
      else
       bif decide ((ns.length:Int)≤x5) then
        some true
       else
        (idx x2 x5).bind fun e2 =>
        bif e2 then
         some true
        else
         (idx ns x5).bind fun e3 =>
         some (e3.kind == 0):Option (Bool)).bind fun z5 =>
    bif z5 then
     (
      bif (x4 == 0) then
       some 3
       else
        some x4:Option (Int)).bind fun z6 =>
     some (x2,x3,z6,0)
    else
     (idx x2 x5).bind fun e4 =>
     (idx ns x5).bind fun e5 =>
     (
      bif ((decide ((0:Int)<x6))&&(decide ((IntKind.i64.wrap ((e5.elems.length:Int)+(e5.kids.length:Int)))<4))) then
       (
        bif (x4 == 0) then
         some 3
         else
          some x4:Option (Int)).bind fun z8 =>
       some z8
       else
        some x4:Option (Int)).bind fun z7 =>
     bif (e5.kind == 1) then
      (
       bif decide (x3<0) then
        some x6
        else
         some x3:Option (Int)).bind fun z9 =>
      (
       bif (z9 != x6) then
        (
         bif (z7 == 0) then
          some 3
          else
           some z7:Option (Int)).bind fun z11 =>
        some z11
        else
         some z7:Option (Int)).bind fun z10 =>
      (iter (σ:=Int × Int) (ρ:=Int) (fun x=>match x with
       | (x17,x18) =>
        bif decide (x18<(e5.elems.length:Int)) then
         (
          (idx e5.elems x18).bind fun e6 =>
           (jf e6).bind fun r3 =>
           (
            (
             bif (!s.hasLo) then
              bif (!s.hasHi) then
               some true
              else
               (jp r3 (DSpot.mk (DKey.mk s.hi.key.pfs s.hi.key.obj s.hi.key.off) s.hi.made)).bind fun r6 =>
               some (decide (r6<0))
              else
               (jp (DSpot.mk (DKey.mk s.lo.key.pfs s.lo.key.obj s.lo.key.off) s.lo.made) r3).bind fun r4 =>
               bif decide (r4≤0) then
                bif (!s.hasHi) then
                 some true
                else
                 (jp r3 (DSpot.mk (DKey.mk s.hi.key.pfs s.hi.key.obj s.hi.key.off) s.hi.made)).bind fun r5 =>
                 some (decide (r5<0))
               else
                some false:Option (Bool)).bind fun z15 =>
             some z15:Option (Bool)).bind fun z14 =>
           bif (!z14) then
            (
             bif (x17 == 0) then
              some 3
              else
               some x17:Option (Int)).bind fun z16 =>
            some z16
           else
            some x17:Option (Int)).bind fun z13 =>
         some (.inl (z13,IntKind.i64.wrap (x18+1)))
         else
          some (.inr x17)) F (z10,0)).bind fun z12 =>
      (jl F e5).bind fun r7 =>
      some ((x2.set x5.toNat true),z9,z12,r7)
     else
      (iter (σ:=(List Bool) × Int × Int × Int) (ρ:=(List Bool) × Int × Int) (fun x=>match x with
       | (x19,x20,x21,x22) =>
        bif decide (x22<(e5.kids.length:Int)) then
         (
          (idx e5.kids x22).bind fun e7 =>
           (
            bif decide ((0:Int)<x22) then
             (idx e5.seps (IntKind.i64.wrap (x22-1))).bind fun e8 =>
             (
              (
               bif (!s.hasLo) then
                bif (!s.hasHi) then
                 some true
                else
                 (jp e8 (DSpot.mk (DKey.mk s.hi.key.pfs s.hi.key.obj s.hi.key.off) s.hi.made)).bind fun r10 =>
                 some (decide (r10<0))
                else
                 (jp (DSpot.mk (DKey.mk s.lo.key.pfs s.lo.key.obj s.lo.key.off) s.lo.made) e8).bind fun r8 =>
                 bif decide (r8≤0) then
                  bif (!s.hasHi) then
                   some true
                  else
                   (jp e8 (DSpot.mk (DKey.mk s.hi.key.pfs s.hi.key.obj s.hi.key.off) s.hi.made)).bind fun r9 =>
                   some (decide (r9<0))
                 else
                  some false:Option (Bool)).bind fun z30 =>
               some z30:Option (Bool)).bind fun z29 =>
             bif (!z29) then
              (
               bif (x21 == 0) then
                some 3
                else
                 some x21:Option (Int)).bind fun z31 =>
              some (e8.key.pfs,e8.key.obj,e8.key.off,e8.made,true,z31)
             else
              some (e8.key.pfs,e8.key.obj,e8.key.off,e8.made,true,x21)
             else
              some (s.lo.key.pfs,s.lo.key.obj,s.lo.key.off,s.lo.made,s.hasLo,x21):Option (Int × Int × Int × Int × Bool × Int)).bind fun z=>match z with
            | (z23,z24,z25,z26,z27,z28) =>
             (
              bif decide (x22<(e5.seps.length:Int)) then
               (idx e5.seps x22).bind fun e9 =>
               some (e9.key.pfs,e9.key.obj,e9.key.off,e9.made,true)
               else
                some (s.hi.key.pfs,s.hi.key.obj,s.hi.key.off,s.hi.made,s.hasHi):Option (Int × Int × Int × Int × Bool)).bind fun z=>match z with
              | (z32,z33,z34,z35,z36) =>
               (idx e5.tids x22).bind fun e10 =>
               (self (x19,x20,z28,e7,IntKind.i64.wrap (x6+1),z23,z24,z25,z26,z32,z33,z34,z35,z27,z36)).bind fun z=>match z with
                | (z37,z38,z39,z40) =>
                 bif (z40 != e10) then
                  (
                   bif (z39 == 0) then
                    some 3
                    else
                     some z39:Option (Int)).bind fun z41 =>
                  some (z37,z38,z41)
                 else
                  some (z37,z38,z39):Option ((List Bool) × Int × Int)).bind fun z=>match z with
          | (z20,z21,z22) =>
           some (.inl (z20,z21,z22,IntKind.i64.wrap (x22+1)))
         else
          some (.inr (x19,x20,x21))) F ((x2.set x5.toNat true),x3,z7,0)).bind fun z=>match z with
       | (z17,z18,z19) =>
        (jl F e5).bind fun r11 =>
        some (z17,z18,z19,r11):Option (List Bool × Int × Int × Int))=some (let r:=vis ns (m+1) (x2,x3,x4) x5 x6 s;(r.1.1,r.1.2.1,r.1.2.2,r.2)):=by
 rw [vis]
 dsimp only
 by_cases h4:x4=0
 rotate_left
 · rw [vD h4,cond_true,if_pos h4]
 subst h4
 rw [show ((0:Int) != 0)=false from rfl,cond_false,if_neg (by simp),H9 ns x2 x5 hlen,obs]
 by_cases hbad:x5<0∨(ns.length:Int)≤x5∨(x2[x5.toNat]?).getD true=true∨(nd ns x5).kind=0
 · rw [decide_eq_true hbad,cond_true,if_pos hbad];rfl
 rw [decide_eq_false hbad,cond_false,if_neg hbad]
 have h0:0≤x5:=by omega
 have h1:x5<(ns.length:Int):=by omega
 have hx:x2[x5.toNat]? = some false:=by
  have hg:x2[x5.toNat]? = some x2[x5.toNat]:=gge (by omega)
  cases hb:x2[x5.toNat] with
  | false=>rw [hg,hb]
  | true=>rw [hg,hb] at hbad;simp at hbad
 have hn0:=hns _ (wS h0 h1)
 have hsm:=hs' _ (wS h0 h1)
 rw [F9 _ h0,hx,obs,Av h0 h1,obs,Hf _ x6 hn0,obs]
 generalize (if 0<x6∧(nd ns x5).elems.length+(nd ns x5).kids.length<4 then (3:Int) else 0)=e1
 by_cases hk:(nd ns x5).kind=1
 · rw [show ((nd ns x5).kind == 1)=true by simpa using hk,cond_true,if_pos hk]
   have hd:(bif decide (x3<0) then some x6 else some x3:Option Int)=some (if x3<0 then x6 else x3):=by
    by_cases h:x3<0 <;> simp [h]
   rw [hd,obs]
   generalize (if x3<0 then x6 else x3)=dp
   have he2:(bif (dp != x6) then ((bif (e1 == 0) then some 3 else some e1:Option Int).bind fun z11=>some z11) else some e1:Option Int)=some (if dp≠x6 then fl e1 else e1):=by
    rw [AP]
    by_cases h:dp=x6
    · simp [h]
    · rw [show (dp != x6)=true by simpa using h,if_pos h];rfl
   rw [he2,obs]
   generalize (if dp≠x6 then fl e1 else e1)=e2
   have h8:=(xG hn0).1
   rw [wr (nd ns x5).elems (fun e x=>if inS s (uU x) then e else fl e) e2 (r:=(nd ns x5).elems.foldl (fun e x=>if inS s (uU x) then e else fl e) e2) (by omega) rfl ?hs ?he]
   case hs =>
    intro k e hk
    have hkl:=(ggs.1 hk).1
    dsimp only
    generalize o6 _ e2 (v4 k (nd ns x5).elems)=acc
    rw [show decide ((k:Int)<((nd ns x5).elems.length:Int))=true from decide_eq_true (by omega),cond_true,uX,hk,obs,vf,obs,Fa,obs,obs,w64 (by omega) (by omega)]
    cases hb:inS ⟨s.lo,s.hi,s.hasLo,s.hasHi⟩ (uU e) with
    | true=>rfl
    | false=>rw [AP];rfl
   case he =>
    dsimp only
    rw [show decide (((nd ns x5).elems.length:Int)<((nd ns x5).elems.length:Int))=false from decide_eq_false (by omega)];rfl
   rw [obs,wg _ hsm]
   rfl
 · rw [show ((nd ns x5).kind == 1)=false by simpa using hk,cond_false,if_neg hk]
   have hin:=(xl hns ⟨h0,h1⟩ ⟨fun h=>hbad (.inr (.inr (.inr h))),hk⟩).2
   have h8:=hin.eight
   have hu:unseen (x2.set x5.toNat true)+1=unseen x2:=CS hx
   have hkeep : ∀ k,wH (x2.set x5.toNat true) (((nd ns x5).kids.zipIdx.take k).foldl (wJ (nd ns x5) (vis ns m) s x6) (x2.set x5.toNat true,x3,e1)).1:=fun k =>
    BO (n:=nd ns x5) (BJ ns m) s x6 ((nd ns x5).kids.zipIdx.take k) (x2.set x5.toNat true,x3,e1)
   rw [vE (fun k=>((((nd ns x5).kids.zipIdx.take k).foldl (wJ (nd ns x5) (vis ns m) s x6) (x2.set x5.toNat true,x3,e1)).1,(((nd ns x5).kids.zipIdx.take k).foldl (wJ (nd ns x5) (vis ns m) s x6) (x2.set x5.toNat true,x3,e1)).2.1,(((nd ns x5).kids.zipIdx.take k).foldl (wJ (nd ns x5) (vis ns m) s x6) (x2.set x5.toNat true,x3,e1)).2.2,(k:Int)))
    (nd ns x5).kids.length (r:=(nd ns x5).kids.zipIdx.foldl (wJ (nd ns x5) (vis ns m) s x6) (x2.set x5.toNat true,x3,e1)) (s:=(x2.set x5.toNat true,x3,e1,(0:Int))) rfl (by omega) ?hs ?he]
   case hs =>
    intro k hkl
    have hkk:(nd ns x5).kids[k]? = some (nd ns x5).kids[k]:=gge hkl
    have htk:(nd ns x5).kids.zipIdx.take (k+1)=(nd ns x5).kids.zipIdx.take k++[((nd ns x5).kids[k],k)]:=by
     rw [T_,L3,hkk];simp
    have hK:=hkeep k
    dsimp only
    rw [htk,o8,E_,C6]
    revert hK
    generalize o6 (wJ (nd ns x5) (vis ns m) s x6) (x2.set x5.toNat true,x3,e1) (v4 k (nd ns x5).kids.zipIdx)=st
    intro hK
    obtain⟨y1,y2,y3⟩:=st
    dsimp only at hK ⊢
    have hul:=hK.unseen
    have hll:=hK.1
    rw [y_] at hll
    rw [show decide ((k:Int)<((nd ns x5).kids.length:Int))=true from decide_eq_true (by omega),cond_true,uX,hkk,obs]
    have hlo:(bif decide ((0:Int)<(k:Int)) then
     (idx (nd ns x5).seps (IntKind.i64.wrap ((k:Int)-1))).bind fun e8 =>
     (
      (
       bif (!s.hasLo) then
        bif (!s.hasHi) then
         some true
        else
         (jp e8 (DSpot.mk (DKey.mk s.hi.key.pfs s.hi.key.obj s.hi.key.off) s.hi.made)).bind fun r10 =>
         some (decide (r10<0))
        else
         (jp (DSpot.mk (DKey.mk s.lo.key.pfs s.lo.key.obj s.lo.key.off) s.lo.made) e8).bind fun r8 =>
         bif decide (r8≤0) then
          bif (!s.hasHi) then
           some true
          else
           (jp e8 (DSpot.mk (DKey.mk s.hi.key.pfs s.hi.key.obj s.hi.key.off) s.hi.made)).bind fun r9 =>
           some (decide (r9<0))
         else
          some false:Option (Bool)).bind fun z30 =>
       some z30:Option (Bool)).bind fun z29 =>
     bif (!z29) then
      (
       bif (y3 == 0) then
        some 3
        else
         some y3:Option (Int)).bind fun z31 =>
      some (e8.key.pfs,e8.key.obj,e8.key.off,e8.made,true,z31)
     else
      some (e8.key.pfs,e8.key.obj,e8.key.off,e8.made,true,y3)
     else
      some (s.lo.key.pfs,s.lo.key.obj,s.lo.key.off,s.lo.made,s.hasLo,y3):Option (Int × Int × Int × Int × Bool × Int)) =
     some ((xD (nd ns x5) s k).lo.key.pfs,(xD (nd ns x5) s k).lo.key.obj,(xD (nd ns x5) s k).lo.key.off,(xD (nd ns x5) s k).lo.made,(xD (nd ns x5) s k).hasLo,if vP (nd ns x5) s k then fl y3 else y3):=by
     cases k with
     | zero=>rfl
     | succ j =>
      have hsep:=hin.seps
      have hj:(nd ns x5).seps[j]? = some (nd ns x5).seps[j]:=gge (by omega)
      rw [show decide ((0:Int)<((j+1:Nat):Int))=true from decide_eq_true (by omega),cond_true,w64 (by omega) (by omega),show (((j+1:Nat):Int)-1)=(j:Int) by omega,uX,hj,obs,Fa,obs,obs]
      have e1:xD (nd ns x5) s (j+1) = { s with lo:=(nd ns x5).seps[j],hasLo:=true }:=by
       show (match (nd ns x5).seps[j]? with | some x=>_ | none=>s)=_
       rw [hj]
      have e2:vP (nd ns x5) s (j+1) = !inS s (nd ns x5).seps[j]:=by
       show (match (nd ns x5).seps[j]? with | some x=>_ | none=>false)=_
       rw [hj]
      rw [e1,e2]
      show ((bif !inS s (nd ns x5).seps[j] then _ else _:Option _))=_
      cases hb:inS s (nd ns x5).seps[j] with
      | true=>rfl
      | false=>rw [AP];rfl
    rw [hlo,obs]
    dsimp only
    have hhi:(bif decide ((k:Int)<((nd ns x5).seps.length:Int)) then (idx (nd ns x5).seps (k:Int)).bind fun e9=>some (e9.key.pfs,e9.key.obj,e9.key.off,e9.made,true)
     else some (s.hi.key.pfs,s.hi.key.obj,s.hi.key.off,s.hi.made,s.hasHi):Option (Int × Int × Int × Int × Bool)) =
     some ((vy (nd ns x5) s k).hi.key.pfs,(vy (nd ns x5) s k).hi.key.obj,(vy (nd ns x5) s k).hi.key.off,(vy (nd ns x5) s k).hi.made,(vy (nd ns x5) s k).hasHi):=by
     have hl1:(xD (nd ns x5) s k).hi=s.hi∧(xD (nd ns x5) s k).hasHi=s.hasHi:=by
      unfold xD;split
      · exact⟨rfl,rfl⟩
      · split <;> exact ⟨rfl,rfl⟩
     unfold vy BZ
     by_cases hks:k<(nd ns x5).seps.length
     · have hj:(nd ns x5).seps[k]? = some (nd ns x5).seps[k]:=gge hks
       rw [show decide ((k:Int)<((nd ns x5).seps.length:Int))=true from decide_eq_true (by omega),cond_true,uX,hj];rfl
     · have hj:(nd ns x5).seps[k]? = none:=l9 (by omega)
       rw [show decide ((k:Int)<((nd ns x5).seps.length:Int))=false from decide_eq_false (by omega),cond_false,hj,hl1.1,hl1.2]
    rw [hhi,obs]
    dsimp only
    obtain⟨tk,htid⟩ : ∃ tk,(nd ns x5).tids[k]? = some tk:=⟨_,gge (by have:=hin.tids;omega)⟩
    have hlow:(vy (nd ns x5) s k).lo=(xD (nd ns x5) s k).lo∧(vy (nd ns x5) s k).hasLo=(xD (nd ns x5) s k).hasLo:=by
     unfold vy BZ;split <;> exact ⟨rfl,rfl⟩
    rw [uX,htid,obs,← hlow.1,← hlow.2,w64 (n:=x6+1) (by omega) (by omega),ih _ ⟨show y1.length=ns.length by omega,show unseen y1<m by omega,show 0≤x6+1 by omega,show x6+1+(unseen y1:Int)≤1000 by omega⟩,obs,w64 (n:=(k:Int)+1) (by omega) (by omega)]
    unfold FG wJ
    dsimp only
    rw [htid]
    show ((bif ((vis ns m (y1,y2,_) _ (x6+1) (vy (nd ns x5) s k)).2 != _) then _ else _:Option _).bind _)=_
    generalize vis ns m (y1,y2,if vP (nd ns x5) s k=true then fl y3 else y3) (nd ns x5).kids[k] (x6+1) (vy (nd ns x5) s k)=r
    rw [n9]
    by_cases hr:r.2=tk
    · rw [show (r.2 != tk)=false by simpa using hr,cond_false,if_neg (by simpa using hr)];rfl
    · rw [show (r.2 != tk)=true by simpa using hr,cond_true,if_pos (by simpa using hr),AP];rfl
   case he =>
    dsimp only
    rw [show decide (((nd ns x5).kids.length:Int)<((nd ns x5).kids.length:Int))=false from decide_eq_false (by omega),t5 (by simp)];rfl
   rw [obs]
   dsimp only
   rw [wg _ hsm]
   rfl
theorem Dc (t:DTree)(hs' : ∀ n∈t.nodes,Small n):oe F t=some (Ih F t):=by
 unfold oe Ih
 by_cases hl:400<t.nodes.length
 · rw [show decide ((400:Int)<(t.nodes.length:Int))=true from decide_eq_true (by omega),cond_true,if_pos hl]
 rw [show decide ((400:Int)<(t.nodes.length:Int))=false from decide_eq_false (by omega),cond_false,if_neg hl]
 rw [CC t.nodes (fun n=>(if vq n≠0 then some (vq n) else none).map o5) (.inl ()) (by omega) rfl (fun k e hk=>?_) (by simp)]
 rotate_left
 · have hkl:=(ggs.1 hk).1
   rw [show decide ((k:Int)<(t.nodes.length:Int))=true from decide_eq_true (by omega),cond_true,uX,hk,obs,yD e (hs' e (i_ hk)),obs]
   by_cases hc:vq e=0
   · rw [vp hc,cond_false,if_neg (show ¬ (vq e≠0) by simpa using hc),w64 (by omega) (by omega)];rfl
   · rw [vD hc,cond_true,if_pos (show (vq e≠0) by simpa using hc)];rfl
 rw [wC,obs]
 cases hf:t.nodes.findSome? fun n=>if vq n≠0 then some (vq n) else none with
 | some e=>rfl
 | none =>
  rw [C7] at hf
  have hns : ∀ n∈t.nodes,vq n=0:=fun n hn=>by
   have:=hf n hn
   split at this
   · cases this
   · rename_i h;simpa using h
  show (qV 1 (t.nodes.length:Int)).bind _=_
  rw [Hy (by omega),obs]
  rw [zn (Kw t.nodes) (FG t.nodes) ?h0 ?hstep F _ ?hpre]
  case h0 =>
   rintro⟨x2,x3,x4,x5,x6,x7,x8,x9,x10,x11,x12,x13,x14,x15,x16⟩ ⟨_,h,_⟩
   exact absurd h (Nat.not_lt_zero _)
  case hpre =>
   have:=Dd (q_ (t.nodes.length:Int).toNat false)
   rw [p6] at this
   exact⟨by simp,yB (by omega),P_ _,by show (0:Int)+_≤_;omega⟩
  case hstep =>
   rintro m self ih ⟨x2,x3,x4,x5,x6,x7,x8,x9,x10,x11,x12,x13,x14,x15,x16⟩ ⟨hlen,hun,hd0,hd1⟩
   exact GC t.nodes hns hs' m self ih x2 x3 x4 x5 x6 ⟨⟨⟨x7,x8,x9⟩,x10⟩,⟨⟨x11,x12,x13⟩,x14⟩,x15,x16⟩ hlen hun hd0 hd1
  have hv:FG t.nodes F (q_ (t.nodes.length:Int).toNat false,-1,0,t.root,0,0,0,0,0,0,0,0,0,false,false)=((yO F t).1.1,(yO F t).1.2.1,(yO F t).1.2.2,(yO F t).2):=by
   unfold FG yO topS;rw [j_]
  rw [hv,obs]
  dsimp only
  have hvl:(yO F t).1.1.length=t.nodes.length:=by
   have:=(BJ t.nodes F (q_ t.nodes.length false,-1,0) t.root 0 topS).1
   unfold yO;rw [this];simp
  rw [wr t.nodes.zipIdx (fun e p=>if p.1.kind≠0∧((yO F t).1.1[p.2]?).getD true=false then fl e else e) (yO F t).1.2.2 (r:=t.nodes.zipIdx.foldl (fun e p=>if p.1.kind≠0∧((yO F t).1.1[p.2]?).getD true=false then fl e else e) (yO F t).1.2.2) (by rw [o7];omega) rfl ?hs ?he]
  case hs =>
   intro k e hk
   have hk':=hk
   rw [L3] at hk'
   obtain⟨n,hn,rfl⟩ : ∃ n,t.nodes[k]? = some n∧(n,k)=e:=by
    cases hn:t.nodes[k]? with
    | none=>rw [hn] at hk';cases hk'
    | some n=>rw [hn] at hk';exact⟨n,rfl,by simpa using hk'⟩
   have hkl:=(ggs.1 hn).1
   have hg:(yO F t).1.1[k]? = some (yO F t).1.1[k]:=gge (by omega)
   dsimp only
   generalize o6 _ (yO F t).1.2.2 (v4 k t.nodes.zipIdx)=acc
   rw [show decide ((k:Int)<(t.nodes.length:Int))=true from decide_eq_true (by omega),cond_true,uX,hn,obs,uX,hg,w64 (by omega) (by omega)]
   by_cases h0:n.kind=0
   · rw [vp h0,cond_false,obs,cond_false,obs,if_neg (fun h=>h.1 h0)]
   · rw [vD h0,cond_true,obs,obs]
     cases hb:(yO F t).1.1[k] with
     | true=>rw [if_neg (by simp)];rfl
     | false=>rw [if_pos ⟨h0,rfl⟩,AP];rfl
  case he =>
   dsimp only
   rw [o7,show decide ((t.nodes.length:Int)<(t.nodes.length:Int))=false from decide_eq_false (by omega)];rfl
  rfl
def vv (ns:List DNode):Nat→Int→List DElem
 | 0,_=>[]
 | m+1,i=>(nd ns i).elems++(nd ns i).kids.flatMap (vv ns m)
theorem Bq {ns:List DNode}(hns : ∀ n∈ns,vq n=0):∀(h m:Nat) (i d:Int) (s:Span),okN ns h i d s→h<m→vv ns m i=uS ns h i:=by
 intro h
 induction h with
 | zero =>
  intro m i d s hok hm
  obtain⟨m,rfl⟩ : ∃ q,m=q+1:=⟨m-1,by omega⟩
  rw [vv,uS,(yv hns hok.1 hok.2.1).kids];simp
 | succ h ih =>
  intro m i d s hok hm
  obtain⟨m,rfl⟩ : ∃ q,m=q+1:=⟨m-1,by omega⟩
  rw [vv,uS,(xl hns hok.1 hok.2.1).2.elems,C5]
  have : ∀ l:List Int,(∀ k∈l,vv ns m k=uS ns h k)→l.flatMap (vv ns m)=l.flatMap (uS ns h):=by
   intro l
   induction l with
   | nil=>intro _;rfl
   | cons a l ihl=>intro hl;rw [o_,o_,hl a d_,ihl fun k hk=>hl k (f_ _ hk)]
  exact this _ fun k hk=>by
   obtain⟨q,hq⟩:=p_.1 hk
   exact ih m k _ _ (hok.2.2.2 (k,q) (by rw [I_];exact hq)).1 (by omega)
def DB (ns:List DNode)(m:Nat)(i:Int):Prop:=∃(h:Nat) (d:Int) (s:Span),h<m∧okN ns h i d s
theorem DB.kids {ns:List DNode}(hns : ∀ n∈ns,vq n=0){m:Nat}{i:Int}(h:DB ns (m+1) i):(0≤i∧i<(ns.length:Int))∧∀ k∈(nd ns i).kids,DB ns m k:=by
 obtain⟨h,d,s,hm,hok⟩:=h
 cases h with
 | zero =>
  refine⟨hok.1,fun k hk=>?_⟩
  rw [(yv hns hok.1 hok.2.1).kids] at hk
  cases hk
 | succ h =>
  refine⟨hok.1,fun k hk=>?_⟩
  obtain⟨q,hq⟩:=p_.1 hk
  exact⟨h,_,_,by omega,(hok.2.2.2 (k,q) (by rw [I_];exact hq)).1⟩
theorem Dq {α:Type}(l:List α):∀ a:List α,l.foldl (fun l e=>l++[e]) a=a++l:=by
 induction l with
 | nil=>intro a;simp
 | cons x l ih=>intro a;rw [E_,ih,C_];rfl
def Kl (ns:List DNode)(m:Nat)(x:List DElem × Int):Prop:=DB ns m x.2∧x.1.length+(vv ns m x.2).length≤100000
theorem H4 (ns:List DNode)(hns : ∀ n∈ns,vq n=0)(m:Nat)(self:List DElem × Int→Option (List DElem))(ih : ∀ x,Kl ns m x→self x=some (x.1++vv ns m x.2))(x1:List DElem)(x2:Int)
 (hpre:Kl ns (m+1) (x1,x2)):(
  (idx ns x2).bind fun e1 =>
   (iter (σ:=(List DElem) × Int) (ρ:=(List DElem)) (fun x=>match x with
    | (x3,x4) =>
     bif decide (x4<(e1.elems.length:Int)) then
      (idx e1.elems x4).bind fun e2 =>
      (
       (jT 56 x3 [e2]).bind fun _ =>
        some ():Option (Unit)).bind fun _ =>
      some (.inl ((x3++[e2]),IntKind.i64.wrap (x4+1)))
      else
       some (.inr x3)) F (x1,0)).bind fun z3 =>
   (iter (σ:=(List DElem) × Int) (ρ:=(List DElem)) (fun x=>match x with
    | (x5,x6) =>
     bif decide (x6<(e1.kids.length:Int)) then
      (idx e1.kids x6).bind fun e3 =>
      (self (x5,e3)).bind fun z5 =>
      some (.inl (z5,IntKind.i64.wrap (x6+1)))
      else
       some (.inr x5)) F (z3,0)).bind fun z4 =>
   some z4:Option (List DElem))=some (x1++vv ns (m+1) x2):=by
 obtain⟨hok,hlen⟩:=hpre
 obtain⟨⟨h0,h1⟩,hkids⟩:=hok.kids hns
 dsimp only at hlen h0 h1 hkids
 obtain⟨h8,h8'⟩:=xG (hns _ (wS h0 h1))
 rw [vv] at hlen ⊢
 rw [a_] at hlen
 rw [Av h0 h1,obs]
 rw [wr (nd ns x2).elems (fun l e=>l++[e]) x1 (r:=x1++(nd ns x2).elems) (by omega) rfl ?hs ?he]
 case hs =>
  intro k e hk
  have hkl:=(ggs.1 hk).1
  dsimp only
  rw [Dq]
  rw [show decide ((k:Int)<((nd ns x2).elems.length:Int))=true from decide_eq_true (by omega),cond_true,uX,hk,obs,vn (by rw [a_,t_,Q_];omega) (by rw [a_,t_,Q_];omega),w64 (by omega) (by omega)]
  rfl
 case he =>
  dsimp only
  rw [show decide (((nd ns x2).elems.length:Int)<((nd ns x2).elems.length:Int))=false from decide_eq_false (by omega),Dq];rfl
 rw [obs]
 rw [wr (nd ns x2).kids (fun l k=>l++vv ns m k) (x1++(nd ns x2).elems) (r:=x1++(nd ns x2).elems++(nd ns x2).kids.flatMap (vv ns m)) (by omega) rfl ?hs ?he]
 case hs =>
  intro k e hk
  have hkl:=(ggs.1 hk).1
  have hfl : ∀(l:List Int) (a:List DElem),l.foldl (fun l k=>l++vv ns m k) a=a++l.flatMap (vv ns m):=by
   intro l
   induction l with
   | nil=>intro a;simp
   | cons y l ihl=>intro a;rw [E_,ihl,o_,C_]
  dsimp only
  rw [hfl]
  have hsub:((nd ns x2).kids.take k).flatMap (vv ns m)++vv ns m e <+: (nd ns x2).kids.flatMap (vv ns m):=by
   refine⟨((nd ns x2).kids.drop (k+1)).flatMap (vv ns m),?_⟩
   rw [← L4 (vv ns m) e,← B2,← B2,C_]
   congr 1
   rw [List.singleton_append]
   have e2:e=(nd ns x2).kids[k]:=by rw [gge hkl] at hk;exact(l_.inj hk).symm
   rw [e2,← v6 hkl,v5]
  have hle:=hsub.length_le
  rw [a_] at hle
  rw [show decide ((k:Int)<((nd ns x2).kids.length:Int))=true from decide_eq_true (by omega),cond_true,uX,hk,obs,ih _ ⟨hkids e (i_ hk),by dsimp only;rw [a_,a_];omega⟩,obs,w64 (by omega) (by omega)]
 case he =>
  have hfl : ∀(l:List Int) (a:List DElem),l.foldl (fun l k=>l++vv ns m k) a=a++l.flatMap (vv ns m):=by
   intro l
   induction l with
   | nil=>intro a;simp
   | cons y l ihl=>intro a;rw [E_,ihl,o_,C_]
  dsimp only
  rw [show decide (((nd ns x2).kids.length:Int)<((nd ns x2).kids.length:Int))=false from decide_eq_false (by omega),hfl];rfl
 rw [obs,C_]
theorem xz {t:DTree}{h:Nat}(hg:Good t h):h<400:=by
 have h1:=Ao hg.chk h t.root 0 topS hg.ok
 have h2:=Ap hg.ok hg.nodup
 have:=hg.len
 omega
theorem Ak {t:DTree}{h:Nat}(hg:Good t h):(uS t.nodes h t.root).length≤3200:=by
 have h1:=D1 hg.chk h t.root 0 topS hg.ok
 have h2:=Ap hg.ok hg.nodup
 have:=hg.len
 omega
theorem yG {t:DTree}(hs : ∀ n∈t.nodes,Small n){h:Nat}(hg:Good t h):me F t=some (uS t.nodes h t.root,0):=by
 have hF:=(inferInstance:Big F).le
 have h4:=xz hg
 have hz:Ih F t=0:=Hd.2 ⟨h,hg⟩
 have he:=Bq hg.chk h F t.root 0 topS hg.ok (by omega)
 unfold me
 rw [Dc t hs,obs,vp hz,cond_false]
 rw [zn (Kl t.nodes) (fun m x=>x.1++vv t.nodes m x.2) ?h0 ?hstep F _ ?hpre]
 case h0 =>
  rintro⟨x1,x2⟩ ⟨⟨h,d,s,hm,_⟩,_⟩
  omega
 case hpre=>exact ⟨⟨h,0,topS,by omega,hg.ok⟩,by dsimp only;rw [he];have:=Ak hg;simp;omega⟩
 case hstep =>
  rintro m self ih ⟨x1,x2⟩ hpre
  exact H4 t.nodes hg.chk m self ih x1 x2 hpre
 rw [obs]
 dsimp only
 rw [he];rfl
end
end Go.Proofs.YtaoocidchclpnaaGreat
namespace Go.Proofs.YtaoocidchclpnaaGreat
set_option linter.unusedVariables false
set_option linter.unusedSimpArgs false
def kOf (n:Nat):Nat:=if 8<n then (n+7) / 8 else 1
theorem wu (n:Nat):0<kOf n:=by unfold kOf;split <;> omega
theorem Kc (n:Nat):n≤8*kOf n:=by unfold kOf;split <;> omega
theorem Cz {n:Nat}(h:1<kOf n):4*kOf n≤n∧8<n:=by
 unfold kOf at *
 by_cases h8:8<n
 · rw [if_pos h8] at h ⊢;omega
 · rw [if_neg h8] at h;omega
theorem Dy {n k:Nat}(h:n≤8*k)(hk:0<k):kOf n≤k:=by unfold kOf;split <;> omega
theorem AR {n:Nat}(h:1<n):2*kOf n≤n:=by unfold kOf;split <;> omega
def off (n k i:Nat):Nat:=n*i / k
theorem Be {n k i j:Nat}(h:i≤j):off n k i≤off n k j:=K2 (K9 _ h)
theorem zy (n k:Nat):off n k 0=0:=by unfold off;simp
theorem Bd {n k:Nat}(h:0<k):off n k k=n:=Nat.mul_div_cancel _ h
theorem Gm {n k i:Nat}(h:0<k)(hi:i≤k):off n k i≤n:=O_ (Be hi) (G_ (Bd h))
theorem Fs {n k:Nat}(h:0<k)(hn:n≤8*k)(i:Nat):off n k (i+1)≤off n k i+8:=by
 unfold off
 rw [K1,← L5 _ _ h]
 exact K2 (by omega)
theorem zx {n k:Nat}(h:0<k)(hn:4*k≤n)(i:Nat):off n k i+4≤off n k (i+1):=by
 unfold off
 rw [K1,← L5 _ _ h]
 exact K2 (by omega)
section groups
variable {α β γ:Type}
def xu (l:List α)(k i:Nat):List α:=(l.drop (off l.length k i)).take (off l.length k (i+1)-off l.length k i)
def groups (l:List α):List (List α):=(H_ (kOf l.length)).map (xu l (kOf l.length))
theorem vB (l:List α):(groups l).length=kOf l.length:=by unfold groups;simp
theorem Am {l:List α}{i:Nat}(h:i<kOf l.length):(groups l)[i]? = some (xu l (kOf l.length) i):=by
 unfold groups;rw [m4,List.getElem?_range h];rfl
theorem Gs (l:List α){k:Nat}(hk:0<k)(j:Nat):(H_ j).flatMap (xu l k)=l.take (off l.length k j):=by
 induction j with
 | zero=>rw [zy];rfl
 | succ j ih =>
  rw [E0,B2,ih,L4]
  have h:=Be (n:=l.length) (k:=k) (Nat.le_succ j)
  unfold xu
  rw [← List.take_add]
  congr 1
  exact Nat.add_sub_cancel' h
theorem yk (l:List α):(groups l).flatten=l:=by
 unfold groups
 rw [← List.flatMap_def,Gs l (wu _),Bd (wu _),F_]
theorem Ej (l:List α){i:Nat}(h:i<kOf l.length):(xu l (kOf l.length) i).length=off l.length (kOf l.length) (i+1)-off l.length (kOf l.length) i:=by
 unfold xu
 have h1:=Gm (n:=l.length) (wu l.length) (show i+1≤kOf l.length by omega)
 rw [t_,v_];omega
theorem vS {l g:List α}(h:g∈groups l):g.length≤8∧(1<kOf l.length→4≤g.length)∧(l≠[]→g≠[])∧(1<l.length→1<g.length):=by
 obtain⟨i,hi⟩:=p_.1 h
 have hlt:=(ggs.1 hi).1
 rw [vB] at hlt
 rw [Am hlt] at hi
 obtain rfl:=l_.inj hi
 have h1:=Fs (wu l.length) (Kc l.length) i
 have hl:=Ej l hlt
 refine⟨by omega,fun hk=>?_,fun hne=>?_,fun hl1=>?_⟩
 · have:=zx (wu l.length) (Cz hk).1 i;omega
 · by_cases hk:1<kOf l.length
   · have:=zx (wu l.length) (Cz hk).1 i
     intro e;rw [e] at hl;simp at hl;omega
   · have hk1:kOf l.length=1:=by have:=wu l.length;omega
     obtain rfl:i=0:=by omega
     rw [hk1,zy,Bd (by decide)] at hl
     intro e;rw [hk1] at e;rw [e] at hl;exact hne (L_ (by simpa using hl.symm))
 · by_cases hk:1<kOf l.length
   · have:=zx (wu l.length) (Cz hk).1 i;omega
   · have hk1:kOf l.length=1:=by have:=wu l.length;omega
     obtain rfl:i=0:=by omega
     rw [hk1,zy,Bd (by decide)] at hl
     rw [hk1];omega
theorem zb {φ:List α × Nat→β}{ψ:β→List γ}{χ:List α→List γ}:∀(G:List (List α)) (n:Nat),(∀ j g,G[j]? = some g→ψ (φ (g,n+j))=χ g)→((G.zipIdx n).map φ).flatMap ψ=G.flatMap χ
 | [],_,_=>rfl
 | g::G,n,h=>by
  have h0:=h 0 g rfl
  rw [K3] at h0
  rw [K0,m0,o_,o_,h0,zb G (n+1) fun j g' hg=>by rw [show n+1+j=n+(j+1) by omega];exact h (j+1) g' (by simpa using hg)]
theorem wj {φ:List α × Nat→β}{G:List (List α)}{x:β}(h:x∈G.zipIdx.map φ):∃ j g,G[j]? = some g∧x=φ (g,j):=by
 obtain⟨⟨g,j⟩,hp,rfl⟩:=u_.1 h
 rw [I_] at hp
 exact⟨j,g,hp,rfl⟩
theorem CZ {φ:List α × Nat→β}{ψ:β→List Nat}{χ:List α→List Nat}:∀(G:List (List α)) (n a:Nat),(∀ j g,G[j]? = some g→ψ (φ (g,n+j))=(a+j)::χ g)→(((G.zipIdx n).map φ).flatMap ψ).Perm (C4 a G.length++G.flatMap χ)
 | [],_,_,_=>List.Perm.refl _
 | g::G,n,a,h=>by
  have ih:=CZ G (n+1) (a+1) fun j g' hg=>by
   have:=h (j+1) g' (by simpa using hg)
   rw [show n+1+j=n+(j+1) by omega,show a+1+j=a+(j+1) by omega];exact this
  rw [K0,m0,o_,o_]
  have h0:=h 0 g rfl
  rw [K3,K3] at h0
  rw [h0,K_,List.range'_succ,l7,l7]
  refine List.Perm.cons _ ?_
  refine(List.Perm.append_left _ ih).trans ?_
  rw [← C_,← C_]
  exact List.Perm.append_right _ L6
end groups
def J0:DSpot:=⟨⟨0,0,0⟩,0⟩
def AY (es:List DElem):DSpot:=match es.head? with
 | some e=>uU e
 | none=>J0
def GM (g:List Dbuild_low):DSpot:=match g.head? with
 | some k=>k.s
 | none=>J0
def IE (es:List DElem):DNode:=⟨1,es,[],[],[]⟩
def yA (ns:List DNode)(g:List Dbuild_low):DNode:=⟨2,[],g.map (·.i),g.tail.map (·.s),g.map fun k=>ve (nd ns k.i)⟩
def vN (l:List DElem):List DNode:=(groups l).map IE
def yr (l:List DElem):List Dbuild_low:=(groups l).zipIdx.map fun p=>⟨(p.2:Int),AY p.1⟩
def vO (x:List DNode × List Dbuild_low):List DNode × List Dbuild_low :=
 (x.1++(groups x.2).map (yA x.1),(groups x.2).zipIdx.map fun p=>⟨((x.1.length+p.2:Nat):Int),GM p.1⟩)
def up:Nat→List DNode × List Dbuild_low→List DNode × List Dbuild_low
 | 0,x=>x
 | m+1,x=>if 1<x.2.length then up m (vO x) else x
def yf (l:List DElem):DTree :=
 let x:=up 400 (vN l,yr l)
 ⟨match x.2.head? with | some y=>y.i | none=>0,x.1⟩
def cN (n:Nat):Nat→Nat
 | 0=>kOf n
 | h+1=>kOf (cN n h)
def sNk (n:Nat):Nat→Nat
 | 0=>cN n 0
 | h+1=>sNk n h+cN n (h+1)
def okB (ns:List DNode):Nat→Int→Prop
 | 0,i=>(0≤i∧i<(ns.length:Int))∧(nd ns i).kind=1
 | h+1,i=>(0≤i∧i<(ns.length:Int))∧(nd ns i).kind=2∧(nd ns i).seps=(nd ns i).kids.tail.map (fun k=>AY (uS ns h k))∧(nd ns i).tids=(nd ns i).kids.map (fun k=>ve (nd ns k)) ∧
  ∀ k∈(nd ns i).kids,okB ns h k∧4≤(nd ns k).elems.length+(nd ns k).kids.length∧uS ns h k≠[]
theorem okB.range {ns:List DNode}{h:Nat}{i:Int}(k:okB ns h i):0≤i∧i<(ns.length:Int):=by cases h <;> exact k.1
theorem Aw (ns more:List DNode){i:Int}(h:0≤i∧i<(ns.length:Int)):nd (ns++more) i=nd ns i:=by
 unfold nd
 rw [List.getElem?_append_left (by omega)]
theorem vI {α β:Type}{f g:α→List β}:∀ {l:List α},(∀ a∈l,f a=g a)→l.flatMap f=l.flatMap g
 | [],_=>rfl
 | a::l,h=>by rw [o_,o_,h a d_,vI fun b hb=>h b (f_ _ hb)]
theorem okB.old {ns:List DNode}(more:List DNode):∀ {h:Nat} {i:Int},okB ns h i→okB (ns++more) h i∧uS (ns++more) h i=uS ns h i∧ids (ns++more) h i=ids ns h i:=by
 intro h
 induction h with
 | zero =>
  intro i k
  have e:=Aw ns more k.1
  refine⟨⟨⟨k.1.1,by rw [a_];have:=k.1.2;omega⟩,by rw [e];exact k.2⟩,by rw [uS,uS,e],rfl⟩
 | succ h ih =>
  intro i k
  have e:=Aw ns more k.1
  obtain⟨k1,k2,k3,k4,k5⟩:=k
  have hk : ∀ x∈(nd ns i).kids,uS (ns++more) h x=uS ns h x:=fun x hx=>(ih (k5 x hx).1).2.1
  refine⟨⟨⟨k1.1,by rw [a_];have:=k1.2;omega⟩,by rw [e];exact k2,?_,?_,?_⟩,?_,?_⟩
  · rw [e,k3]
    exact B3 fun x hx=>by rw [hk x (K4 hx)]
  · rw [e,k4]
    exact B3 fun x hx=>by rw [Aw ns more (k5 x hx).1.range]
  · rw [e]
    intro x hx
    obtain⟨q1,q2,q3⟩:=k5 x hx
    exact⟨(ih q1).1,by rw [Aw ns more q1.range];exact q2,by rw [hk x hx];exact q3⟩
  · rw [uS,uS,e];exact vI hk
  · rw [ids,ids,e,vI fun x hx=>(ih (k5 x hx).1).2.2]
theorem Jw {n:DNode}{s:Span}{k:Nat}{x:DSpot}(h:inS s x=true)(h1 : ∀ j y,k=j+1→n.seps[j]? = some y→cmpS y x≤0)(h2 : ∀ y,n.seps[k]? = some y→cmpS x y<0):inS (vy n s k) x=true:=by
 rw [vJ] at h ⊢
 have hl:((xD n s k).hasLo=true→cmpS (xD n s k).lo x≤0)∧(xD n s k).hi=s.hi∧(xD n s k).hasHi=s.hasHi:=by
  cases k with
  | zero=>exact ⟨h.1,rfl,rfl⟩
  | succ j =>
   have e:xD n s (j+1)=(match n.seps[j]? with | some x=>{ s with lo:=x,hasLo:=true } | none=>s):=rfl
   rw [e]
   cases hj:n.seps[j]? with
   | none=>exact ⟨h.1,rfl,rfl⟩
   | some y=>exact ⟨fun _=>h1 j y rfl hj,rfl,rfl⟩
 unfold vy BZ
 cases hk:n.seps[k]? with
 | none=>exact ⟨hl.1,fun hh=>by rw [hl.2.2] at hh;rw [hl.2.1];exact h.2 hh⟩
 | some y=>exact ⟨hl.1,fun _=>h2 y hk⟩
theorem yK {l:List DElem}(h:l≠[]):∃ e∈l,AY l=uU e∧(l.Pairwise SpO→∀ x∈l,cmpS (AY l) (uU x)≤0):=by
 cases l with
 | nil=>exact absurd rfl h
 | cons e l =>
  refine⟨e,d_,rfl,fun hp x hx=>?_⟩
  show cmpS (uU e) (uU x)≤0
  rcases g_.1 hx with rfl | hx
  · rw [vc.refl];exact P_ _
  · have:=(J_.1 hp).1 x hx
    unfold SpO at this;omega
theorem Hg {α β:Type}{R:β→β→Prop}{f:α→List β}{l:List α}(h:(l.flatMap f).Pairwise R){i j:Nat}{a b:α}(hij:i<j)(ha:l[i]? = some a)(hb:l[j]? = some b){x y:β}(hx:x∈f a)(hy:y∈f b):R x y :=
 wi (K5.1 h).2 hij ha hb x hx y hy
theorem okB.right {ns:List DNode}:∀ {h:Nat} {i d:Int} {s:Span},okB ns h i→0≤d→(0<d→4≤(nd ns i).elems.length+(nd ns i).kids.length)→(uS ns h i).Pairwise SpO→(∀ e∈uS ns h i,inS s (uU e)=true)→okN ns h i d s:=by
 intro h
 induction h with
 | zero=>exact fun k hd hf hp hs=>⟨k.1,k.2,hf,hs⟩
 | succ h ih =>
  intro i d s k hd hf hp hs
  obtain⟨k1,k2,k3,k4,k5⟩:=k
  refine⟨k1,by rw [k2];decide,hf,?_⟩
  rintro⟨x,q⟩ hx
  rw [I_] at hx
  dsimp only at hx ⊢
  have hmem:=i_ hx
  obtain⟨c1,c2,c3⟩:=k5 x hmem
  have hsub : ∀ e∈uS ns h x,e∈uS ns (h+1) i:=fun e he=>M_.2 ⟨x,hmem,he⟩
  have hpx : ∀ y∈(nd ns i).kids,(uS ns h y).Pairwise SpO:=fun y hy=>(K5.1 hp).1 y hy
  have hsep : ∀ j y,(nd ns i).seps[j]? = some y→∃ c,(nd ns i).kids[j+1]? = some c∧y=AY (uS ns h c):=fun j y hy=>by
   rw [k3,m4,List.getElem?_tail,Option.map_eq_some_iff] at hy
   obtain⟨c,hc,rfl⟩:=hy
   exact⟨c,hc,rfl⟩
  refine⟨ih c1 (by omega) (fun _=>c2) (hpx x hmem) fun e he=>?_,?_,?_⟩
  · refine Jw (hs e (hsub e he)) (fun j y hj hy=>?_) (fun y hy=>?_)
    · obtain⟨c,hc,rfl⟩:=hsep j y hy
      rw [← hj,hx] at hc
      obtain rfl:=l_.inj hc
      obtain⟨_,_,_,hle⟩:=yK c3
      exact hle (hpx _ hmem) e he
    · obtain⟨c,hc,rfl⟩:=hsep q y hy
      obtain⟨e2,he2,hlow,_⟩:=yK (k5 c (i_ hc)).2.2
      rw [hlow]
      exact Hg (f:=uS ns h) hp (Nat.lt_succ_self q) hx hc he he2
  · cases q with
    | zero=>rfl
    | succ j =>
     show (match (nd ns i).seps[j]? with | some y=>!inS s y | none=>false)=false
     cases hj:(nd ns i).seps[j]? with
     | none=>rfl
     | some y =>
      obtain⟨c,hc,rfl⟩:=hsep j y hj
      rw [hx] at hc
      obtain rfl:=l_.inj hc
      obtain⟨e2,he2,hlow,_⟩:=yK c3
      rw [hlow]
      show (!inS s (uU e2))=false
      rw [hs e2 (hsub e2 he2)];rfl
  · rw [k4,m4,hx];rfl
theorem ID {e:DElem}(h:vb e=0):0≤vQ e∧vQ e≤2147483647:=by
 obtain⟨_,h1,h2,h3,_⟩:=wK h
 unfold vQ
 split <;> omega
theorem Eu {e:DElem}(h:vb e=0):vb (zE (uU e))=0:=by
 obtain⟨h0,h1,h2,h3,_⟩:=wK h
 unfold vb zE uU
 dsimp only
 rw [if_neg (by simpa using h0),if_neg (by omega),if_neg (by show ¬ (40<0);omega)]
theorem zq {n:DNode}(h:vq n=0):0≤ve n∧ve n≤2147483647:=by
 obtain⟨_,_,h3⟩:=Al n
 rcases h3 with h3 | ⟨e,he,h3⟩ | ⟨t,ht,h3⟩
 · omega
 · rcases vz.1 h with q | q | q
   · rw [q.2.1] at he;cases he
   · have:=ID (q.2.ok e he);omega
   · rw [q.2.elems] at he;cases he
 · rcases vz.1 h with q | q | q
   · rw [q.2.2.2.2] at ht;cases ht
   · rw [q.2.tids] at ht;cases ht
   · have:=q.2.tid t ht;omega
structure Lev (ns:List DNode) (lv:List Dbuild_low) (l:List DElem) (h:Nat):Prop where
 count:lv.length=cN l.length h
 total:ns.length=sNk l.length h
 many : ∀ j,j<h→1<cN l.length j
 chk : ∀ n∈ns,vq n=0
 fit : ∀ x∈lv,okB ns h x.i
 low : ∀ x∈lv,x.s=AY (uS ns h x.i)
 cat:lv.flatMap (fun x=>uS ns h x.i)=l
 perm:(lv.flatMap fun x=>ids ns h x.i).Perm (H_ ns.length)
 full:1<lv.length→∀ x∈lv,4≤(nd ns x.i).elems.length+(nd ns x.i).kids.length
 full2:1<lv.length→∀ x∈lv,uS ns h x.i≠[]
 size:ns.length+lv.length≤100
theorem FR (n h:Nat):0<cN n h:=by cases h <;> exact wu _
theorem II {ns:List DNode}{j:Nat}{n:DNode}(h:ns[j]? = some n):nd ns ((j:Nat):Int)=n:=Bb h
theorem zW {α:Type}{l g:List α}(h:g∈groups l):g.Sublist l:=by
 unfold groups at h
 obtain⟨i,_,rfl⟩:=u_.1 h
 exact(List.take_sublist _ _).trans (List.drop_sublist _ _)
theorem Lev.zero {l:List DElem}(hl:l.length≤400)(ho : ∀ e∈l,vb e=0)(hp:l.Pairwise SpO):Lev (vN l) (yr l) l 0:=by
 have hlen:(vN l).length=kOf l.length:=by unfold vN;rw [z_,vB]
 have hlv:(yr l).length=kOf l.length:=by unfold yr;rw [z_,o7,vB]
 have hnd : ∀ j g,(groups l)[j]? = some g→nd (vN l) ((j:Nat):Int)=IE g:=fun j g hg=>II (by unfold vN;rw [m4,hg];rfl)
 have hk:kOf l.length≤50:=Dy (by omega) (by decide)
 refine⟨hlv,hlen,fun j hj=>by omega,fun n hn=>?_,fun x hx=>?_,fun x hx=>?_,?_,?_,fun h1 x hx=>?_,fun h1 x hx=>?_,by omega⟩
 · unfold vN at hn
   obtain⟨g,hg,rfl⟩:=u_.1 hn
   have hs:=zW hg
   exact vz.2 (.inr (.inl ⟨rfl,⟨rfl,rfl,rfl,(vS hg).1,fun e he=>ho e (hs.subset he),hp.sublist hs⟩⟩))
 · obtain⟨j,g,hg,rfl⟩:=wj hx
   have hj:=(ggs.1 hg).1
   rw [vB] at hj
   exact⟨⟨by dsimp only;omega,by dsimp only;omega⟩,by dsimp only;rw [hnd j g hg];rfl⟩
 · obtain⟨j,g,hg,rfl⟩:=wj hx
   dsimp only
   rw [uS,hnd j g hg];rfl
 · have := zb (φ := fun p : List DElem × Nat => (⟨(p.2 : Int), AY p.1⟩ : Dbuild_low)) (ψ := fun x => uS (vN l) 0 x.i) (χ := fun g => g) (groups l) 0 fun j g hg => by
    dsimp only
    rw [C1,uS,hnd j g hg];rfl
   unfold yr
   rw [this,List.flatMap_id']
   exact yk l
 · have := CZ (φ := fun p : List DElem × Nat => (⟨(p.2 : Int), AY p.1⟩ : Dbuild_low)) (ψ := fun x => ids (vN l) 0 x.i) (χ := fun g => []) (groups l) 0 0 fun j g hg => by
    dsimp only
    rw [ids,j_]
   rw [show (groups l).flatMap (fun _=>([]:List Nat))=[] by rw [List.flatMap_eq_nil_iff];exact fun _ _=>rfl,t6,vB,← K6,← hlen] at this
   exact this
 · rw [hlv] at h1
   obtain⟨j,g,hg,rfl⟩:=wj hx
   dsimp only
   rw [hnd j g hg]
   have:=(vS (i_ hg)).2.1 h1
   show 4≤g.length+0
   omega
 · rw [hlv] at h1
   obtain⟨j,g,hg,rfl⟩:=wj hx
   dsimp only
   rw [uS,hnd j g hg]
   have:=(vS (i_ hg)).2.1 h1
   intro e
   have e2:g=[]:=e
   rw [e2] at this
   exact absurd this (by decide)
theorem Lev.next {ns:List DNode}{lv:List Dbuild_low}{l:List DElem}{h:Nat}(L:Lev ns lv l h)(hp:l.Pairwise SpO)(ho : ∀ e∈l,vb e=0)(h1:1<lv.length):Lev (vO (ns,lv)).1 (vO (ns,lv)).2 l (h+1):=by
 have hG:(groups lv).length=kOf lv.length:=vB lv
 have hcount:(vO (ns,lv)).2.length=kOf lv.length:=by unfold vO;dsimp only;rw [z_,o7,hG]
 have hlen:(vO (ns,lv)).1.length=ns.length+kOf lv.length:=by unfold vO;dsimp only;rw [a_,z_,hG]
 have hhalf:=AR h1
 have hsize:=L.size
 have hmem : ∀ g∈groups lv,∀ x∈g,x∈lv:=fun g hg x hx=>(zW hg).subset hx
 have hnew : ∀ j g,(groups lv)[j]? = .some g→nd (vO (ns,lv)).1 ((ns.length+j:Nat):Int)=yA ns g:=fun j g hg=>II (by
  unfold vO;dsimp only
  rw [E1 (by omega),E5,m4,hg];rfl)
 have hold : ∀ x∈lv,okB (vO (ns,lv)).1 h x.i∧uS (vO (ns,lv)).1 h x.i=uS ns h x.i∧ids (vO (ns,lv)).1 h x.i=ids ns h x.i:=fun x hx=>(L.fit x hx).old _
 have hkids : ∀ g∈groups lv,(yA ns g).kids.flatMap (uS (vO (ns,lv)).1 h)=g.flatMap fun x=>uS ns h x.i:=fun g hg=>by
  show (g.map (·.i)).flatMap _=_
  rw [List.flatMap_map]
  exact vI fun x hx=>(hold x (hmem g hg x hx)).2.1
 have hel : ∀ j g,(groups lv)[j]? = .some g→uS (vO (ns,lv)).1 (h+1) ((ns.length+j:Nat):Int)=g.flatMap fun x=>uS ns h x.i:=fun j g hg=>by
  rw [uS,hnew j g hg]
  exact hkids g (i_ hg)
 have hne : ∀ g∈groups lv,g≠[]:=fun g hg=>(vS hg).2.2.1 (fun e=>by rw [e] at h1;simp at h1)
 have hcat:(groups lv).flatMap (fun g=>g.flatMap fun x=>uS ns h x.i)=l:=by
  have e:=L.cat
  rw [← yk lv] at e
  rw [← e,L7,List.flatMap_assoc]
  rfl
 have hok : ∀ x∈lv,∀ e∈uS ns h x.i,vb e=0:=fun x hx e he=>ho e (by rw [← L.cat];exact M_.2 ⟨x,hx,he⟩)
 have hlvS:lv.Pairwise fun x y=>SpotO x.s y.s:=by
  have e:=L.cat
  rw [← e] at hp
  have:=(K5.1 hp).2
  refine List.Pairwise.imp_of_mem (fun {x y} hx hy hxy=>?_) this
  obtain⟨a,ha,hla,_⟩:=yK (L.full2 h1 x hx)
  obtain⟨b,hb,hlb,_⟩:=yK (L.full2 h1 y hy)
  unfold SpotO
  rw [L.low x hx,L.low y hy,hla,hlb]
  exact hxy a ha b hb
 refine⟨by rw [hcount,cN,L.count],by rw [hlen,sNk,L.total,cN,L.count],fun j hj=>?_,fun n hn=>?_,fun x hx=>?_,fun x hx=>?_,?_,?_,fun h2 x hx=>?_,fun h2 x hx=>?_,by omega⟩
 · by_cases e:j=h
   · rw [e,← L.count];exact h1
   · exact L.many j (by omega)
 · have hn' : n∈ns++(groups lv).map (yA ns):=hn
   rcases Y_.1 hn' with hn | hn
   · exact L.chk n hn
   · obtain⟨g,hg,rfl⟩:=u_.1 hn
     obtain⟨s1,s2,s3,s4⟩:=vS hg
     have s4:=s4 h1
     refine vz.2 (.inr (.inr ⟨rfl,⟨rfl,?_,?_,?_,?_,fun k hk=>?_,fun t ht=>?_,fun s hs=>?_,?_⟩⟩))
     · show 2≤(g.map _).length;rw [z_];omega
     · show (g.map _).length≤8;rw [z_];exact s1
     · show (g.tail.map _).length+1=(g.map _).length;rw [z_,z_,List.length_tail];omega
     · show (g.map _).length=(g.map _).length;rw [z_,z_]
     · obtain⟨x,hx,rfl⟩:=u_.1 hk
       have:=(L.fit x (hmem g hg x hx)).range
       omega
     · obtain⟨x,hx,rfl⟩:=u_.1 ht
       have:=(L.fit x (hmem g hg x hx)).range
       exact zq (L.chk _ (wS this.1 this.2))
     · obtain⟨x,hx,rfl⟩:=u_.1 hs
       have hxl:=hmem g hg x (K4 hx)
       obtain⟨a,ha,hla,_⟩:=yK (L.full2 h1 x hxl)
       rw [L.low x hxl,hla]
       exact Eu (hok x hxl a ha)
     · have:=hlvS.sublist ((List.tail_sublist g).trans (zW hg))
       exact List.pairwise_map.2 this
 · obtain⟨j,g,hg,rfl⟩:=wj hx
   have hgm:=i_ hg
   have hj:=(ggs.1 hg).1
   rw [hG] at hj
   dsimp only
   refine⟨⟨by omega,by rw [hlen];omega⟩,?_⟩
   rw [hnew j g hg]
   refine⟨rfl,?_,?_,?_⟩
   · show g.tail.map _=(g.map _).tail.map _
     rw [← List.map_tail,K7]
     exact B3 fun x hx=>by
      have hxl:=hmem g hgm x (K4 hx)
      show x.s=AY (uS (vO (ns,lv)).1 h x.i)
      rw [(hold x hxl).2.1];exact L.low x hxl
   · show g.map _=(g.map _).map _
     rw [K7]
     exact B3 fun x hx=>by
      show ve (nd ns x.i)=ve (nd (vO (ns,lv)).1 x.i)
      rw [show nd (vO (ns,lv)).1 x.i=nd ns x.i from Aw ns _ (L.fit x (hmem g hgm x hx)).range]
   · intro k hk
     obtain⟨x,hx,rfl⟩:=u_.1 hk
     have hxl:=hmem g hgm x hx
     refine⟨(hold x hxl).1,?_,?_⟩
     · rw [show nd (vO (ns,lv)).1 x.i=nd ns x.i from Aw ns _ (L.fit x hxl).range];exact L.full h1 x hxl
     · rw [(hold x hxl).2.1];exact L.full2 h1 x hxl
 · obtain⟨j,g,hg,rfl⟩:=wj hx
   have hgm:=i_ hg
   dsimp only
   rw [hel j g hg]
   cases g with
   | nil=>exact absurd rfl (hne _ hgm)
   | cons x g =>
    have hxl:=hmem _ hgm x d_
    show x.s=_
    rw [L.low x hxl,o_]
    cases hx:uS ns h x.i with
    | nil=>exact absurd hx (L.full2 h1 x hxl)
    | cons a q=>rfl
 · have := zb (φ := fun p : List Dbuild_low × Nat => (⟨((ns.length + p.2 : Nat) : Int), GM p.1⟩ : Dbuild_low)) (ψ := fun x => uS (vO (ns, lv)).1 (h + 1) x.i) (χ := fun g => g.flatMap fun x => uS ns h x.i) (groups lv) 0 fun j g hg => by
    dsimp only
    rw [C1];exact hel j g hg
   exact this.trans hcat
 · have := CZ (φ := fun p : List Dbuild_low × Nat => (⟨((ns.length + p.2 : Nat) : Int), GM p.1⟩ : Dbuild_low)) (ψ := fun x => ids (vO (ns, lv)).1 (h + 1) x.i) (χ := fun g => g.flatMap fun x => ids ns h x.i) (groups lv) 0 ns.length fun j g hg => by
    dsimp only
    rw [C1,ids,hnew j g hg,j_]
    congr 1
    show (g.map (·.i)).flatMap _=_
    rw [List.flatMap_map]
    exact vI fun x hx=>(hold x (hmem g (i_ hg) x hx)).2.2
   refine List.Perm.trans this ?_
   have e:(groups lv).flatMap (fun g=>g.flatMap fun x=>ids ns h x.i)=lv.flatMap fun x=>ids ns h x.i:=by
    conv=>rhs;rw [← yk lv,L7,List.flatMap_assoc]
    rfl
   rw [e,hlen,hG,K6,← List.range'_append_1 (s:=0) (m:=ns.length) (n:=kOf lv.length),C1,← K6]
   exact(List.Perm.append_left _ L.perm).trans L6
 · rw [hcount] at h2
   obtain⟨j,g,hg,rfl⟩:=wj hx
   dsimp only
   rw [hnew j g hg]
   have:=(vS (i_ hg)).2.1 h2
   show 4≤0+(g.map _).length
   rw [z_];omega
 · obtain⟨j,g,hg,rfl⟩:=wj hx
   have hgm:=i_ hg
   dsimp only
   rw [hel j g hg]
   cases g with
   | nil=>exact absurd rfl (hne _ hgm)
   | cons x g =>
    have hxl:=hmem _ hgm x d_
    rw [o_]
    intro e
    exact L.full2 h1 x hxl (List.append_eq_nil_iff.1 e).1
theorem Lev.up {l:List DElem}(hp:l.Pairwise SpO)(ho : ∀ e∈l,vb e=0):∀(m:Nat) {ns:List DNode} {lv:List Dbuild_low} {h:Nat},Lev ns lv l h→lv.length≤m→∃ h',Lev (up m (ns,lv)).1 (up m (ns,lv)).2 l h'∧(up m (ns,lv)).2.length=1:=by
 intro m
 induction m with
 | zero =>
  intro ns lv h L hm
  have:=L.count
  have:=FR l.length h
  omega
 | succ m ih =>
  intro ns lv h L hm
  rw [Go.Proofs.YtaoocidchclpnaaGreat.up]
  by_cases h1:1<lv.length
  · rw [if_pos h1]
    have L':=L.next hp ho h1
    have hc:(vO (ns,lv)).2.length=kOf lv.length:=by unfold vO;dsimp only;rw [z_,o7,vB]
    have:=AR h1
    exact ih L' (O_ (G_ hc) (by omega))
  · rw [if_neg h1]
    have:=L.count
    have:=FR l.length h
    exact⟨h,L,by dsimp only;omega⟩
theorem Jx (x:DSpot):inS topS x=true:=rfl
theorem EO {l:List DElem}(hl:l.length≤400)(ho : ∀ e∈l,vb e=0)(hp:l.Pairwise SpO):∃ h,Good (yf l) h∧uS (yf l).nodes h (yf l).root=l∧(yf l).nodes.length=sNk l.length h∧cN l.length h=1∧∀ j,j<h→1<cN l.length j:=by
 have L0:=Lev.zero hl ho hp
 have hlv:(yr l).length≤400:=by have:=L0.size;omega
 obtain⟨h,L,h1⟩:=Lev.up hp ho 400 L0 hlv
 unfold yf
 dsimp only
 generalize Go.Proofs.YtaoocidchclpnaaGreat.up 400 (vN l,yr l)=x at L h1
 obtain⟨ns,lv⟩:=x
 dsimp only at L h1 ⊢
 obtain⟨y,rfl⟩:=Z_.1 h1
 dsimp only [List.head?]
 have hcat:uS ns h y.i=l:=by have:=L.cat;simpa using this
 have hperm:(ids ns h y.i).Perm (H_ ns.length):=by have:=L.perm;simpa using this
 refine⟨h,⟨by have:=L.size;dsimp only;omega,L.chk,?_,?_,fun i hi _=>?_⟩,hcat,L.total,by rw [← L.count];exact h1,L.many⟩
 · exact(L.fit y (by simp)).right (P_ _) (fun h=>absurd h (by decide)) (by rw [hcat];exact hp) (fun e _=>Jx _)
 · exact hperm.nodup_iff.2 List.nodup_range
 · exact hperm.mem_iff.2 (List.mem_range.2 hi)
end Go.Proofs.YtaoocidchclpnaaGreat
namespace Go.Proofs.YtaoocidchclpnaaGreat
set_option linter.unusedSimpArgs false
set_option linter.unusedVariables false
section
def hiS (s:Span)(x:DSpot):Span:={ s with hi:=x,hasHi:=true }
def loS (s:Span)(x:DSpot):Span:={ s with lo:=x,hasLo:=true }
theorem wE {s:Span}{x y:DSpot}:inS (hiS s x) y=true↔(s.hasLo=true→cmpS s.lo y≤0)∧cmpS y x<0:=by
 rw [vJ];unfold hiS;simp
theorem yd {s:Span}{x y:DSpot}:inS (loS s x) y=true↔cmpS x y≤0∧(s.hasHi=true→cmpS y s.hi<0):=by
 rw [vJ];unfold loS;simp
theorem wP {s:Span}{x y:DSpot}(hx:inS s x=true)(h:inS (hiS s x) y=true):inS s y=true:=by
 rw [wE] at h
 rw [vJ] at hx ⊢
 exact⟨h.1,fun hh=>vc.lt_trans h.2 (hx.2 hh)⟩
theorem xB {s:Span}{x y:DSpot}(hx:inS s x=true)(h:inS (loS s x) y=true):inS s y=true:=by
 rw [yd] at h
 rw [vJ] at hx ⊢
 exact⟨fun hh=>EV (hx.1 hh) h.1,h.2⟩
def Ch (P:Int→Int→Span→Prop):List DSpot→Span→List Int→List Int→Prop
 | [],s,ks,ts=>∃ k t,ks=[k]∧ts=[t]∧P k t s
 | x::xs,s,ks,ts=>∃ k ks' t ts',ks=k::ks'∧ts=t::ts'∧inS s x=true∧P k t (hiS s x)∧Ch P xs (loS s x) ks' ts'
section
variable {P Q:Int→Int→Span→Prop}
theorem Ch.lens : ∀ {xs:List DSpot} {s:Span} {ks ts:List Int},Ch P xs s ks ts→xs.length+1=ks.length∧ts.length=ks.length
 | [],s,ks,ts,⟨k,t,h1,h2,_⟩=>by subst h1 h2;exact⟨rfl,rfl⟩
 | x::xs,s,ks,ts,⟨k,ks',t,ts',h1,h2,_,_,c⟩=>by
  subst h1 h2
  have:=c.lens
  simp only [K_];omega
theorem Ch.mono : ∀ {xs:List DSpot} {s:Span} {ks ts:List Int},(∀ k t s',k∈ks→P k t s'→Q k t s')→Ch P xs s ks ts→Ch Q xs s ks ts
 | [],s,ks,ts,h,⟨k,t,h1,h2,c⟩=>⟨k,t,h1,h2,h _ _ _ (by rw [h1];exact d_) c⟩
 | x::xs,s,ks,ts,h,⟨k,ks',t,ts',h1,h2,h3,h4,c⟩=>⟨k,ks',t,ts',h1,h2,h3,h _ _ _ (by rw [h1];exact d_) h4,c.mono fun k t s' hk=>h k t s' (by rw [h1];exact f_ _ hk)⟩
theorem Ch.mem : ∀ {xs:List DSpot} {s:Span} {ks ts:List Int},Ch P xs s ks ts→∀ k∈ks,∃ t s',P k t s'∧∀ y,inS s' y=true→inS s y=true
 | [],s,ks,ts,⟨k,t,h1,h2,c⟩,q,hq=>by
  subst h1
  rw [t7.1 hq];exact⟨t,s,c,fun _ h=>h⟩
 | x::xs,s,ks,ts,⟨k,ks',t,ts',h1,h2,h3,h4,c⟩,q,hq=>by
  subst h1
  rcases g_.1 hq with rfl | hq
  · exact⟨t,_,h4,fun y h=>wP h3 h⟩
  · obtain⟨t',s',i1,i2⟩:=c.mem q hq
    exact⟨t',s',i1,fun y h=>xB h3 (i2 y h)⟩
theorem Ch.seps : ∀ {xs:List DSpot} {s:Span} {ks ts:List Int},Ch P xs s ks ts→∀ x∈xs,inS s x=true
 | [],s,ks,ts,c,y,hy=>by cases hy
 | x::xs,s,ks,ts,⟨k,ks',t,ts',h1,h2,h3,h4,c⟩,y,hy=>by
  rcases g_.1 hy with rfl | hy
  · exact h3
  · exact xB h3 (c.seps y hy)
theorem Ch.at_ : ∀ {xs:List DSpot} {s:Span} {ks ts:List Int},Ch P xs s ks ts→∀(q:Nat) (k:Int),ks[q]? = some k→∃ t s',ts[q]? = some t∧P k t s'∧∀ y,inS s' y=true→inS s y=true
 | [],s,ks,ts,⟨k,t,h1,h2,c⟩,q,k',hq=>by
  subst h1 h2
  cases q with
  | zero => obtain rfl : k = k' := by simpa using hq
            exact⟨t,s,rfl,c,fun _ h=>h⟩
  | succ q=>simp at hq
 | x::xs,s,ks,ts,⟨k,ks',t,ts',h1,h2,h3,h4,c⟩,q,k',hq=>by
  subst h1 h2
  cases q with
  | zero => obtain rfl : k = k' := by simpa using hq
            exact⟨t,_,rfl,h4,fun y h=>wP h3 h⟩
  | succ q =>
   obtain⟨t',s',i1,i2,i3⟩:=c.at_ q k' (by simpa using hq)
   exact⟨t',s',by simpa using i1,i2,fun y h=>xB h3 (i3 y h)⟩
theorem Ch.join : ∀ {xs:List DSpot} {s:Span} {ks ts ks' ts' : List Int} {xs' : List DSpot} {x:DSpot},inS s x=true→Ch P xs (hiS s x) ks ts→Ch P xs' (loS s x) ks' ts'→Ch P (xs++x::xs') s (ks++ks') (ts++ts')
 | [],s,ks,ts,ks',ts',xs',x,hx,⟨k,t,h1,h2,c⟩,c'=>⟨k,ks',t,ts',by rw [h1];rfl,by rw [h2];rfl,hx,c,c'⟩
 | y::xs,s,ks,ts,ks',ts',xs',x,hx,⟨k,ks1,t,ts1,h1,h2,h3,h4,c⟩,c'=>by
  subst h1 h2
  have hy:=wE.1 h3
  have e1:loS (hiS s x) y=hiS (loS s y) x:=rfl
  have e2:loS s x=loS (loS s y) x:=rfl
  exact⟨k,ks1++ks',t,ts1++ts',rfl,rfl,wP hx h3,h4,Ch.join (s:=loS s y) (yd.2 ⟨by omega,fun hh=>(vJ.1 hx).2 hh⟩) (e1▸c) (e2▸c')⟩
theorem Ch.split : ∀ {xs:List DSpot} {s:Span} {ks ts ks' ts' : List Int} {xs' : List DSpot} {x:DSpot},xs.length+1=ks.length→ts.length=ks.length→(xs++x::xs').Pairwise SpotO→Ch P (xs++x::xs') s (ks++ks') (ts++ts') →
 inS s x=true∧Ch P xs (hiS s x) ks ts∧Ch P xs' (loS s x) ks' ts'
 | [],s,ks,ts,ks',ts',xs',x,h1,h2,ho,⟨k,ks1,t,ts1,e1,e2,i1,i2,c⟩=>by
  obtain⟨a,rfl⟩:=Z_.1 h1.symm
  obtain⟨b,rfl⟩:=Z_.1 h2
  obtain⟨rfl,rfl⟩ : a=k∧ks' = ks1:=by simpa using e1
  obtain⟨rfl,rfl⟩ : b=t∧ts' = ts1:=by simpa using e2
  exact⟨i1,⟨a,b,rfl,rfl,i2⟩,c⟩
 | y::xs,s,ks,ts,ks',ts',xs',x,h1,h2,ho,⟨k,ks1,t,ts1,e1,e2,i1,i2,c⟩=>by
  rw [l7,J_] at ho
  have hyx:cmpS y x<0:=ho.1 x (by simp)
  cases ks with
  | nil=>simp at h1
  | cons a ks =>
  cases ts with
  | nil=>simp at h2
  | cons b ts =>
  obtain⟨rfl,rfl⟩ : a=k∧ks++ks' = ks1:=by simpa using e1
  obtain⟨rfl,rfl⟩ : b=t∧ts++ts' = ts1:=by simpa using e2
  obtain⟨j1,j2,j3⟩:=Ch.split (s:=loS s y) (by simpa using h1) (by simpa using h2) ho.2 c
  exact⟨xB i1 j1,⟨a,ks,b,ts,rfl,rfl,wE.2 ⟨(vJ.1 i1).1,hyx⟩,i2,j2⟩,j3⟩
theorem Ch.focus : ∀ {XA XM XB:List DSpot} {A M B TA TM TB:List Int} {s:Span},XA.length=A.length→TA.length=A.length→XM.length+1=M.length→TM.length=M.length→XB.length=B.length→TB.length=B.length →
 (XA++(XM++XB)).Pairwise SpotO→Ch P (XA++(XM++XB)) s (A++(M++B)) (TA++(TM++TB)) →
 ∃ s',Ch P XM s' M TM∧(∀ y,inS s' y=true→inS s y=true)∧(∀ x∈XA,∀ y,inS s' y=true→cmpS x y≤0)∧(∀ x∈XB,∀ y,inS s' y=true→cmpS y x<0) ∧
  (∀ y,inS s y=true→(∀ x∈XA,cmpS x y≤0)→(∀ x∈XB,cmpS y x<0)→inS s' y=true) ∧
  ∀ Q:Int→Int→Span→Prop,(∀ k t s',k∈A∨k∈B→P k t s'→Q k t s')→∀ M' XM' TM',Ch Q XM' s' M' TM'→Ch Q (XA++(XM'++XB)) s (A++(M'++B)) (TA++(TM'++TB))
 | [],XM,[],A,M,B,TA,TM,TB,s,h1,h2,_,_,h5,h6,_,c=>by
  obtain rfl:=L_ h1.symm
  obtain rfl:=L_ h2
  obtain rfl:=L_ h5.symm
  obtain rfl:=L_ h6
  exact⟨s,by simpa using c,fun _ h=>h,by simp,by simp,fun _ h _ _=>h,fun Q _ M' XM' TM' c'=>by simpa using c'⟩
 | [],XM,x::XB,A,M,B,TA,TM,TB,s,h1,h2,h3,h4,h5,h6,ho,c=>by
  obtain rfl:=L_ h1.symm
  obtain rfl:=L_ h2
  obtain⟨i1,i2,i3⟩:=Ch.split (s:=s) h3 h4 ho c
  refine⟨hiS s x,i2,fun y h=>wP i1 h,by simp,fun z hz y hy=>?_,fun y hy _ hb=>?_,fun Q hPQ M' XM' TM' c'=>?_⟩
  · have hyx:=(wE.1 hy).2
    rcases g_.1 hz with rfl | hz
    · exact hyx
    · have:cmpS x z<0:=(J_.1 (E2.1 (show (XM++x::XB).Pairwise SpotO from ho)).2.1).1 z hz
      exact vc.lt_trans hyx this
  · exact wE.2 ⟨(vJ.1 hy).1,hb x d_⟩
  · show Ch Q (XM'++x::XB) s (M'++B) (TM'++TB)
    exact Ch.join i1 c' (i3.mono fun k t s' hk=>hPQ k t s' (.inr hk))
 | x::XA,XM,XB,A,M,B,TA,TM,TB,s,h1,h2,h3,h4,h5,h6,ho,⟨k,ks1,t,ts1,e1,e2,c1,c2,c⟩=>by
  rw [l7,J_] at ho
  cases A with
  | nil=>simp at h1
  | cons a A =>
  cases TA with
  | nil=>simp at h2
  | cons b TA =>
  obtain⟨rfl,rfl⟩ : a=k∧A++(M++B)=ks1:=by simpa using e1
  obtain⟨rfl,rfl⟩ : b=t∧TA++(TM++TB)=ts1:=by simpa using e2
  obtain⟨s',i1,i2,i3,i4,i5,i6⟩:=Ch.focus (s:=loS s x) (by simpa using h1) (by simpa using h2) h3 h4 h5 h6 ho.2 c
  refine⟨s',i1,fun y h=>xB c1 (i2 y h),fun z hz y hy=>?_,i4,fun y hy ha hb=>?_,fun Q hPQ M' XM' TM' c'=>⟨a,A++(M'++B),b,TA++(TM'++TB),rfl,rfl,c1,hPQ a b _ (.inl d_) c2,i6 Q (fun k t s' hk=>hPQ k t s' (hk.elim (fun h=>.inl (f_ _ h)) .inr)) M' XM' TM' c'⟩⟩
  · rcases g_.1 hz with rfl | hz
    · exact(yd.1 (i2 y hy)).1
    · exact i3 z hz y hy
  · exact i5 y (yd.2 ⟨ha x d_,(vJ.1 hy).2⟩) (fun z hz=>ha z (f_ _ hz)) hb
end
def vm (ns:List DNode):Nat→Int→Nat→Span→Prop
 | 0,i,m,s=>(0≤i∧i<(ns.length:Int))∧(nd ns i).kind=1∧m≤(nd ns i).elems.length∧∀ x∈(nd ns i).elems,inS s (uU x)=true
 | h+1,i,m,s=>(0≤i∧i<(ns.length:Int))∧(nd ns i).kind=2∧m≤(nd ns i).kids.length∧Ch (fun k t s'=>vm ns h k 4 s'∧ve (nd ns k)=t) (nd ns i).seps s (nd ns i).kids (nd ns i).tids
abbrev AJ (ns:List DNode)(h:Nat):Int→Int→Span→Prop:=fun k t s'=>vm ns h k 4 s'∧ve (nd ns k)=t
theorem vm.range {ns:List DNode}{h:Nat}{i:Int}{m:Nat}{s:Span}(c:vm ns h i m s):0≤i∧i<(ns.length:Int):=by cases h <;> exact c.1
def kS (xs:List DSpot)(s:Span)(q:Nat):Span:=vy ⟨2,[],[],xs,[]⟩ s q
theorem GQ (x:DSpot)(xs:List DSpot)(s:Span):kS (x::xs) s 0=hiS s x:=rfl
theorem GP (x:DSpot)(xs:List DSpot)(s:Span){q:Nat}(hq:q≤xs.length):kS (x::xs) s (q+1)=kS xs (loS s x) q:=by
 have key:xD ⟨2,[],[],x::xs,[]⟩ s (q+1)=xD ⟨2,[],[],xs,[]⟩ (loS s x) q:=by
  cases q with
  | zero=>rfl
  | succ r =>
   have hr:xs[r]? = some xs[r]:=gge (by omega)
   show (match (x::xs)[r+1]? with | some y=>({ s with lo:=y,hasLo:=true }:Span) | none=>s)=(match xs[r]? with | some y=>({ loS s x with lo:=y,hasLo:=true }:Span) | none=>loS s x)
   rw [C2,hr];rfl
 unfold kS vy
 rw [key]
 show BZ ⟨2,[],[],x::xs,[]⟩ (xD ⟨2,[],[],xs,[]⟩ (loS s x) q) (q+1)=BZ ⟨2,[],[],xs,[]⟩ (xD ⟨2,[],[],xs,[]⟩ (loS s x) q) q
 unfold BZ
 show (match (x::xs)[q+1]? with | some y=>_ | none=>_)=_
 first | (rw [C2];done) | (rw [C2];rfl)
theorem FT {P:Int→Int→Span→Prop}:∀ {xs:List DSpot} {s:Span} {ks ts:List Int},xs.length+1=ks.length→ts.length=ks.length→xs.Pairwise SpotO→(∀ x∈xs,inS s x=true) →
 (Ch P xs s ks ts↔∀(q:Nat) (k t:Int),ks[q]? = some k→ts[q]? = some t→P k t (kS xs s q))
 | [],s,ks,ts,h1,h2,_,_=>by
  obtain⟨a,rfl⟩:=Z_.1 h1.symm
  obtain⟨b,rfl⟩:=Z_.1 h2
  constructor
  · rintro⟨k,t,e1,e2,c⟩ q k' t' hk ht
    obtain rfl:a=k:=by simpa using e1
    obtain rfl:b=t:=by simpa using e2
    cases q with
    | zero =>
     obtain rfl:a=k':=by simpa using hk
     obtain rfl:b=t':=by simpa using ht
     exact c
    | succ q=>simp at hk
  · intro h
    exact⟨a,b,rfl,rfl,h 0 a b rfl rfl⟩
 | x::xs,s,ks,ts,h1,h2,ho,hs=>by
  cases ks with
  | nil=>simp at h1
  | cons a ks =>
  cases ts with
  | nil=>simp at h2
  | cons b ts =>
  rw [J_] at ho
  have hx:=vJ.1 (hs x d_)
  have ih:=FT (P:=P) (xs:=xs) (s:=loS s x) (ks:=ks) (ts:=ts) (by simpa using h1) (by simpa using h2) ho.2 (fun y hy=>by
   have hxy:cmpS x y<0:=ho.1 y hy
   have:=vJ.1 (hs y (f_ _ hy))
   exact yd.2 ⟨by omega,this.2⟩)
  have hlen:xs.length+1=ks.length:=by simpa using h1
  constructor
  · rintro⟨k,ks1,t,ts1,e1,e2,c1,c2,c⟩ q k' t' hk ht
    obtain⟨rfl,rfl⟩ : a=k∧ks=ks1:=by simpa using e1
    obtain⟨rfl,rfl⟩ : b=t∧ts=ts1:=by simpa using e2
    cases q with
    | zero =>
     obtain rfl:a=k':=by simpa using hk
     obtain rfl:b=t':=by simpa using ht
     rw [GQ];exact c2
    | succ q =>
     rw [C2] at hk ht
     rw [GP x xs s (by have:=(ggs.1 hk).1;omega)]
     exact ih.1 c q k' t' hk ht
  · intro h
    refine⟨a,ks,b,ts,rfl,rfl,hs x d_,by have:=h 0 a b rfl rfl;rwa [GQ] at this,ih.2 fun q k t hk ht=>?_⟩
    have:=h (q+1) k t (by simpa using hk) (by simpa using ht)
    rwa [GP x xs s (by have:=(ggs.1 hk).1;omega)] at this
theorem JV (n:DNode)(s:Span)(q:Nat):vy n s q=kS n.seps s q:=by
 unfold kS vy BZ
 have:xD n s q=xD ⟨2,[],[],n.seps,[]⟩ s q:=by cases q <;> rfl
 rw [this]
theorem CM {n:DNode}{s:Span}:(∀ q,q≤n.seps.length→vP n s q=false)↔∀ x∈n.seps,inS s x=true:=by
 have key : ∀ q x,n.seps[q]? = some x→(vP n s (q+1)=false↔inS s x=true):=fun q x hx=>by
  have e:vP n s (q+1) = !inS s x:=by
   show (match n.seps[q]? with | some x=>!inS s x | none=>false)=_
   rw [hx]
  rw [e];simp
 constructor
 · intro h x hx
   obtain⟨q,hq⟩:=p_.1 hx
   have:=(ggs.1 hq).1
   exact(key q x hq).1 (h (q+1) (by omega))
 · intro h q hq
   cases q with
   | zero=>rfl
   | succ q =>
    have hx:n.seps[q]? = some n.seps[q]:=gge (by omega)
    exact(key q _ hx).2 (h _ (x_ _))
def mOf (d:Int)(h:Nat):Nat:=if 0<d then 4 else if h=0 then 0 else 2
theorem Ce {ns:List DNode}(hns : ∀ n∈ns,vq n=0):∀(h:Nat) (i d:Int) (s:Span),0≤d→(okN ns h i d s↔vm ns h i (mOf d h) s):=by
 intro h
 induction h with
 | zero =>
  intro i d s hd
  have hm : ∀ L:Leaf (nd ns i),((0<d→4≤(nd ns i).elems.length+(nd ns i).kids.length)↔mOf d 0≤(nd ns i).elems.length):=fun L=>by
   rw [L.kids];unfold mOf
   by_cases h:0<d
   · rw [if_pos h];simp [h]
   · rw [if_neg h];simp [h]
  constructor
  · rintro⟨h1,h2,h3,h4⟩
    exact⟨h1,h2,(hm (yv hns h1 h2)).1 h3,h4⟩
  · rintro⟨h1,h2,h3,h4⟩
    exact⟨h1,h2,(hm (yv hns h1 h2)).2 h3,h4⟩
 | succ h ih =>
  intro i d s hd
  have hm : ∀ L:Inner (nd ns i),((0<d→4≤(nd ns i).elems.length+(nd ns i).kids.length)↔mOf d (h+1)≤(nd ns i).kids.length):=fun L=>by
   rw [L.elems];unfold mOf
   have:=L.two
   by_cases h:0<d
   · rw [if_pos h];simp [h]
   · rw [if_neg h];simp [h];omega
  have h4:mOf (d+1) h=4:=by unfold mOf;rw [if_pos (by omega)]
  constructor
  · rintro⟨h1,h2,h3,h5⟩
    obtain⟨hk,L⟩:=xl hns h1 h2
    refine⟨h1,hk,(hm L).1 h3,?_⟩
    refine(FT L.seps L.tids L.ord (CM.1 fun q hq=>?_)).2 fun q k t hk' ht=>?_
    · have hlen:=L.seps
      have hkk:(nd ns i).kids[q]? = some (nd ns i).kids[q]:=gge (by omega)
      exact(h5 (_,q) (zc hkk)).2.1
    · obtain⟨c1,_,c3⟩:=h5 (k,q) (zc hk')
      dsimp only at c1 c3
      rw [JV] at c1
      have:=(ih k (d+1) _ (by omega)).1 c1
      rw [h4] at this
      exact⟨this,by rw [c3,ht];rfl⟩
  · rintro⟨h1,h2,h3,h5⟩
    obtain⟨hk,L⟩:=xl hns h1 ⟨by rw [h2];decide,by rw [h2];decide⟩
    have hseps:=h5.seps
    refine⟨h1,⟨by rw [h2];decide,by rw [h2];decide⟩,(hm L).2 h3,fun p hp=>?_⟩
    rw [I_] at hp
    have hpl:=(ggs.1 hp).1
    have htl:=L.tids
    have ht:(nd ns i).tids[p.2]? = some (nd ns i).tids[p.2]:=gge (by omega)
    obtain⟨c1,c2⟩:=(FT L.seps L.tids L.ord hseps).1 h5 p.2 p.1 _ hp ht
    refine⟨?_,CM.2 hseps p.2 (by have:=L.seps;omega),by rw [c2,ht];rfl⟩
    rw [JV]
    rw [← h4] at c1
    exact(ih p.1 (d+1) _ (by omega)).2 c1
theorem xy {f g:Int→List Nat}:∀ {l:List Int},(∀ a∈l,f a=g a)→l.flatMap f=l.flatMap g
 | [],_=>rfl
 | a::l,h=>by rw [o_,o_,h a d_,xy fun b hb=>h b (f_ _ hb)]
theorem vm.same {ns ns' : List DNode}(hl:ns.length≤ns'.length):∀ {h:Nat} {i:Int} {m:Nat} {s:Span},vm ns h i m s→(∀ j∈ids ns h i,ns'[j]? = ns[j]?) →
 vm ns' h i m s∧ids ns' h i=ids ns h i∧uS ns' h i=uS ns h i∧nd ns' i=nd ns i:=by
 intro h
 induction h with
 | zero =>
  intro i m s c hj
  have e:nd ns' i=nd ns i:=by unfold nd;rw [hj i.toNat (by simp [ids])]
  refine⟨?_,rfl,by unfold uS;rw [e],e⟩
  obtain⟨h1,h2,h3,h4⟩:=c
  exact⟨⟨h1.1,by omega⟩,by rw [e];exact h2,by rw [e];exact h3,by rw [e];exact h4⟩
 | succ h ih =>
  intro i m s c hj
  have e:nd ns' i=nd ns i:=by unfold nd;rw [hj i.toNat (by simp [ids])]
  obtain⟨h1,h2,h3,h4⟩:=c
  have hkid : ∀ k∈(nd ns i).kids,∀ {m:Nat} {s:Span},vm ns h k m s→vm ns' h k m s∧ids ns' h k=ids ns h k∧uS ns' h k=uS ns h k∧nd ns' k=nd ns k:=fun k hk {m s} c =>
   ih c fun j hjk=>hj j (by rw [ids];exact f_ _ (M_.2 ⟨k,hk,hjk⟩))
  refine⟨⟨⟨h1.1,by omega⟩,by rw [e];exact h2,by rw [e];exact h3,?_⟩,?_,?_,e⟩
  · rw [e]
    exact h4.mono fun k t s' hk c=>⟨(hkid k hk c.1).1,by rw [(hkid k hk c.1).2.2.2];exact c.2⟩
  · rw [ids,ids,e]
    congr 1
    exact xy fun k hk=>by obtain ⟨t,s',c,_⟩:=h4.mem k hk;exact(hkid k hk c.1).2.1
  · rw [uS,uS,e]
    exact vI fun k hk=>by obtain ⟨t,s',c,_⟩:=h4.mem k hk;exact(hkid k hk c.1).2.2.1
end
section
abbrev NL:=List (Int ⊕ DNode)
def zN:DNode:=⟨0,[],[],[],[]⟩
def fN1:Int ⊕ DNode→DNode
 | .inl _=>zN
 | .inr n=>n
def fN (N:NL):List DNode:=N.map fN1
theorem vd (N:NL):(fN N).length=N.length:=z_ ..
theorem zm (N:NL)(j:Nat):(fN N)[j]? = (N[j]?).map fN1:=m4 ..
theorem Io {N N' : NL}{j:Nat}(h:N'[j]? = N[j]?):(fN N')[j]? = (fN N)[j]?:=by rw [zm,zm,h]
theorem J6 (l:List DNode):fN (l.map o5)=l:=by
 unfold fN
 rw [K7]
 exact List.map_id'' (fun _=>rfl) l
theorem vA (N:NL){i:Int}{j:Nat}(h:j≠i.toNat):(iT N i)[j]? = N[j]?:=by unfold iT;rw [L8 (by omega)]
theorem vj (N:NL){i:Int}{n:DNode}{j:Nat}(h:j≠i.toNat):(jo N i n)[j]? = N[j]?:=by unfold jo;rw [L8 (by omega)]
theorem vK (N:NL){i:Int}{n:DNode}(h:i.toNat<N.length):(jo N i n)[i.toNat]? = some (.inr n):=by unfold jo;rw [List.getElem?_set_self h]
theorem uW (N:NL)(i:Int):(iT N i).length=N.length:=by unfold iT;rw [y_]
theorem uZ (N:NL)(i:Int)(n:DNode):(jo N i n).length=N.length:=by unfold jo;rw [y_]
def kd (N:NL)(j:Nat):Option Int:=(N[j]?).map rX
theorem ym (N:NL)(i:Int)(j:Nat):kd (iT N i) j=kd N j:=by
 unfold kd iT
 rw [S_]
 split
 · rename_i e;subst e
   split
   · rename_i h;rw [gge h];rfl
   · rename_i h;rw [l9 (by omega)]
 · rfl
def wv (N:NL):Prop:=∀ n∈fN N,vq n=0
theorem wv.out {N:NL}(h:wv N)(i:Int):wv (iT N i):=fun n hn=>by
 obtain⟨x,hx,rfl⟩:=u_.1 hn
 rcases m9 hx with hx | rfl
 · exact h _ (u_.2 ⟨x,hx,rfl⟩)
 · show vq zN=0;decide
theorem wv.put {N:NL}(h:wv N){i:Int}{n:DNode}(hn:vq n=0):wv (jo N i n):=fun m hm=>by
 obtain⟨x,hx,rfl⟩:=u_.1 hm
 rcases m9 hx with hx | rfl
 · exact h _ (u_.2 ⟨x,hx,rfl⟩)
 · exact hn
theorem wv.push {N:NL}(h:wv N){n:DNode}(hn:vq n=0):wv (N++[.inr n]):=fun m hm=>by
 obtain⟨x,hx,rfl⟩:=u_.1 hm
 rcases Y_.1 hx with hx | hx
 · exact h _ (u_.2 ⟨x,hx,rfl⟩)
 · rw [t7.1 hx];exact hn
theorem JD {N:NL}{i:Int}(h:0≤i∧i<((fN N).length:Int))(hk:(nd (fN N) i).kind≠0):kh N i=some (nd (fN N) i)∧N[i.toNat]? = some (.inr (nd (fN N) i)):=by
 rw [vd] at h
 have hg:N[i.toNat]? = some N[i.toNat]:=gge (by omega)
 have hn:nd (fN N) i=fN1 N[i.toNat]:=by
  unfold nd;rw [zm,hg];rfl
 cases hx:N[i.toNat] with
 | inl k =>
  rw [hn,hx] at hk
  exact absurd rfl hk
 | inr n =>
  rw [hn,hx]
  unfold kh
  rw [if_neg (by omega),hg,hx]
  exact⟨rfl,rfl⟩
theorem vm.kind {ns:List DNode}{h:Nat}{i:Int}{m:Nat}{s:Span}(c:vm ns h i m s):(nd ns i).kind≠0:=by
 cases h with
 | zero=>rw [c.2.1];decide
 | succ h=>rw [c.2.1];decide
theorem vm.node {N:NL}{h:Nat}{i:Int}{m:Nat}{s:Span}(c:vm (fN N) h i m s):kh N i=some (nd (fN N) i)∧N[i.toNat]? = some (.inr (nd (fN N) i)):=JD c.range c.kind
theorem yz {N:NL}{i:Int}(h:0≤i∧i<(N.length:Int)):kH N i=some ():=by unfold kH;rw [if_pos h]
theorem Bz {N:NL}{i:Int}{n:DNode}(h:0≤i∧i<(N.length:Int)):nd (fN (jo N i n)) i=n:=by
 unfold nd
 rw [zm,vK N (by omega)];rfl
theorem vm.agree {N N' : NL}(hl:N.length≤N'.length){h:Nat}{i:Int}{m:Nat}{s:Span}(c:vm (fN N) h i m s)(hj : ∀ j∈ids (fN N) h i,N'[j]? = N[j]?) :
 vm (fN N') h i m s∧ids (fN N') h i=ids (fN N) h i∧uS (fN N') h i=uS (fN N) h i∧nd (fN N') i=nd (fN N) i :=
 vm.same (by rw [vd,vd];exact hl) c fun j hjm=>Io (hj j hjm)
theorem vm.head {ns:List DNode}(h:Nat)(i:Int):i.toNat∈ids ns h i:=by cases h <;> simp [ids]
theorem Ch.before {P:Int→Int→Span→Prop}:∀ {XA X:List DSpot} {s:Span} {A K TA T:List Int},XA.length=A.length→TA.length=A.length→Ch P (XA++X) s (A++K) (TA++T)→∀ k∈A,∃ t s',P k t s'∧∀ y,inS s' y=true→∃ x∈XA,cmpS y x<0
 | [],X,s,A,K,TA,T,h1,_,_,k,hk=>by
  obtain rfl:=L_ h1.symm
  cases hk
 | x::XA,X,s,A,K,TA,T,h1,h2,⟨a,ks,t,ts,e1,e2,c1,c2,c⟩,k,hk=>by
  cases A with
  | nil=>simp at h1
  | cons b A =>
  cases TA with
  | nil=>simp at h2
  | cons u TA =>
  obtain⟨rfl,rfl⟩ : b=a∧A++K=ks:=by simpa using e1
  obtain⟨rfl,rfl⟩ : u=t∧TA++T=ts:=by simpa using e2
  rcases g_.1 hk with rfl | hk
  · exact⟨u,_,c2,fun y hy=>⟨x,d_,(wE.1 hy).2⟩⟩
  · obtain⟨t',s',i1,i2⟩:=Ch.before (by simpa using h1) (by simpa using h2) c k hk
    exact⟨t',s',i1,fun y hy=>by obtain ⟨z,hz,hzy⟩:=i2 y hy;exact⟨z,f_ _ hz,hzy⟩⟩
theorem Ch.behind {P:Int→Int→Span→Prop}:∀ {XA XB:List DSpot} {x:DSpot} {s:Span} {A B TA TB:List Int},XA.length+1=A.length→TA.length=A.length→Ch P (XA++x::XB) s (A++B) (TA++TB)→∀ k∈B,∃ t s',P k t s'∧∀ y,inS s' y=true→cmpS x y≤0
 | [],XB,x,s,A,B,TA,TB,h1,h2,⟨a,ks,t,ts,e1,e2,c1,c2,c⟩,k,hk=>by
  obtain⟨b,rfl⟩:=Z_.1 h1.symm
  obtain⟨u,rfl⟩:=Z_.1 h2
  obtain⟨rfl,rfl⟩ : b=a∧B=ks:=by simpa using e1
  obtain⟨rfl,rfl⟩ : u=t∧TB=ts:=by simpa using e2
  obtain⟨t',s',i1,i2⟩:=c.mem k hk
  exact⟨t',s',i1,fun y hy=>(yd.1 (i2 y hy)).1⟩
 | z::XA,XB,x,s,A,B,TA,TB,h1,h2,⟨a,ks,t,ts,e1,e2,c1,c2,c⟩,k,hk=>by
  cases A with
  | nil=>simp at h1
  | cons b A =>
  cases TA with
  | nil=>simp at h2
  | cons u TA =>
  obtain⟨rfl,rfl⟩ : b=a∧A++B=ks:=by simpa using e1
  obtain⟨rfl,rfl⟩ : u=t∧TA++TB=ts:=by simpa using e2
  exact Ch.behind (by simpa using h1) (by simpa using h2) c k hk
theorem yW {α:Type}(l:List α){w:Nat}(h:w<l.length):l=l.take w++l[w]::l.drop (w+1):=by
 rw [← v6 h,v5]
structure Foc (P:Int→Int→Span→Prop) (n:DNode) (s:Span) (sp:DSpot) (A:List Int) (k:Int) (B:List Int) (XA XB:List DSpot) (TA:List Int) (t:Int) (TB:List Int) (s' : Span):Prop where
 kids:n.kids=A++k::B
 seps:n.seps=XA++XB
 tids:n.tids=TA++t::TB
 xa:XA.length=A.length
 ta:TA.length=A.length
 xb:XB.length=B.length
 tb:TB.length=B.length
 way:xV n.seps sp=A.length
 here:P k t s'
 in_:inS s' sp=true
 sub : ∀ y,inS s' y=true→inS s y=true
 lo : ∀ k'∈A,∃ t' s'',P k' t' s''∧∀ y,inS s'' y=true→cmpS y sp<0
 hi : ∀ k'∈B,∃ t' s'',P k' t' s''∧∀ y,inS s'' y=true→cmpS sp y<0
 loX : ∀ x∈XA,∀ y,inS s' y=true→cmpS x y≤0
 hiX : ∀ x∈XB,∀ y,inS s' y=true→cmpS y x<0
 turn : ∀ Q:Int→Int→Span→Prop,(∀ k t s',k∈A∨k∈B→P k t s'→Q k t s')→∀ M' XM' TM',Ch Q XM' s' M' TM'→Ch Q (XA++(XM'++XB)) s (A++(M'++B)) (TA++(TM'++TB))
theorem F6 {P:Int→Int→Span→Prop}{n:DNode}{s:Span}{sp:DSpot}(h1:n.seps.length+1=n.kids.length)(h2:n.tids.length=n.kids.length)(ho:n.seps.Pairwise SpotO)(c:Ch P n.seps s n.kids n.tids)(hs:inS s sp=true) :
 ∃ A k B XA XB TA t TB s',Foc P n s sp A k B XA XB TA t TB s':=by
 have hw:=Cj n.seps sp
 obtain⟨w1,w2⟩:=EB n.seps sp
 generalize hwe:xV n.seps sp=w at *
 have e1:=yW n.kids (w:=w) (by omega)
 have e2:=yW n.tids (w:=w) (by omega)
 have e3:n.seps=n.seps.take w++n.seps.drop w:=(v5 _ _).symm
 have l1:(n.kids.take w).length=w:=by rw [t_];omega
 have l2:(n.tids.take w).length=w:=by rw [t_];omega
 have l3:(n.seps.take w).length=w:=by rw [t_];omega
 have l4:(n.kids.drop (w+1)).length=n.kids.length-(w+1):=v_
 have l5:(n.tids.drop (w+1)).length=n.tids.length-(w+1):=v_
 have l6:(n.seps.drop w).length=n.seps.length-w:=v_
 have xa : ∀ x∈n.seps.take w,cmpS x sp≤0:=fun x hx=>by
  obtain⟨q,hq⟩:=p_.1 hx
  have hql:=(ggs.1 hq).1
  rw [List.getElem?_take_of_lt (by omega)] at hq
  exact w1 q x (by omega) hq
 have xb : ∀ x∈n.seps.drop w,cmpS sp x<0:=fun x hx=>by
  have hlt:w<n.seps.length:=by
   obtain⟨q,hq⟩:=p_.1 hx
   have:=(ggs.1 hq).1;omega
  have h0:n.seps[w]? = some n.seps[w]:=gge hlt
  have h3:=w2 _ h0
  have h4:cmpS sp n.seps[w]<0:=by
   have:=vc.neg n.seps[w] sp
   omega
  rw [v6 hlt] at hx
  rcases g_.1 hx with rfl | hx
  · exact h4
  · obtain⟨q,hq⟩:=p_.1 hx
    rw [List.getElem?_drop] at hq
    exact vc.lt_trans h4 (wi ho (by omega) h0 hq)
 have c':=c
 rw [e1,e2,e3] at c'
 have ho':=ho
 rw [e3] at ho'
 obtain⟨s',i1,i2,i3,i4,i5,i6⟩:=Ch.focus (XM:=[]) (M:=[n.kids[w]]) (TM:=[n.tids[w]]) (by omega) (by omega) rfl rfl (by omega) (by omega) ho' c'
 obtain⟨k,t,hk,ht,hP⟩:=i1
 obtain rfl:n.kids[w]=k:=by simpa using hk
 obtain rfl:n.tids[w]=t:=by simpa using ht
 refine⟨_,_,_,n.seps.take w,n.seps.drop w,_,_,_,s',e1,e3,e2,by omega,by omega,by omega,by omega,by rw [hwe,l1],hP,?_,i2,fun k' hk'=>?_,fun k' hk'=>?_,i3,i4,i6⟩
 · exact i5 sp hs (fun x hx=>xa x hx) (fun x hx=>xb x hx)
 · obtain⟨t',s'',j1,j2⟩:=Ch.before (by omega) (by omega) c' k' hk'
   exact⟨t',s'',j1,fun y hy=>by obtain ⟨x,hx,hxy⟩:=j2 y hy;exact wO hxy (xa x hx)⟩
 · have hne : n.seps.drop w ≠ [] := fun e => by
    have:(n.kids.drop (w+1)).length=0:=by rw [e] at l6;simp at l6;omega
    rw [L_ this] at hk';cases hk'
   obtain⟨x,XB,hX⟩:=List.exists_cons_of_ne_nil hne
   have c2:=c'
   rw [hX,show n.kids.take w++n.kids[w]::n.kids.drop (w+1)=(n.kids.take w++[n.kids[w]])++n.kids.drop (w+1) by simp,show n.tids.take w++n.tids[w]::n.tids.drop (w+1)=(n.tids.take w++[n.tids[w]])++n.tids.drop (w+1) by simp] at c2
   obtain⟨t',s'',j1,j2⟩:=Ch.behind (by simp;omega) (by simp;omega) c2 k' hk'
   exact⟨t',s'',j1,fun y hy=>wO (xb x (by rw [hX];exact d_)) (j2 y hy)⟩
theorem vm.weak {ns:List DNode}{h:Nat}{i:Int}{m m' : Nat}{s:Span}(hm:m'≤m)(c:vm ns h i m s):vm ns h i m' s:=by
 cases h with
 | zero=>exact ⟨c.1,c.2.1,O_ hm c.2.2.1,c.2.2.2⟩
 | succ h=>exact ⟨c.1,c.2.1,O_ hm c.2.2.1,c.2.2.2⟩
theorem vm.leaf {ns:List DNode}(hns : ∀ n∈ns,vq n=0){i:Int}{m:Nat}{s:Span}(c:vm ns 0 i m s):Leaf (nd ns i):=yv hns c.1 c.2.1
theorem vm.inner {ns:List DNode}(hns : ∀ n∈ns,vq n=0){h:Nat}{i:Int}{m:Nat}{s:Span}(c:vm ns (h+1) i m s):Inner (nd ns i):=(xl hns c.1 ⟨by rw [c.2.1];decide,by rw [c.2.1];decide⟩).2
theorem vm.elems {ns:List DNode}(hns : ∀ n∈ns,vq n=0){h:Nat}{i:Int}{m:Nat}{s:Span}(c:vm ns h i m s):(uS ns h i).Pairwise SpO∧∀ e∈uS ns h i,inS s (uU e)=true∧vb e=0:=by
 have h0:vm ns h i (mOf 0 h) s:=by
  cases h with
  | zero=>exact c.weak (B_ _)
  | succ h=>exact ⟨c.1,c.2.1,(c.inner hns).two,c.2.2.2⟩
 exact wB hns h i 0 s ((Ce hns h i 0 s (P_ _)).2 h0)
theorem zw {f:Int→List Nat}{i:Nat}{A B:List Int}{k:Int}(h:(i::(A++k::B).flatMap f).Nodup) :
 i ∉ f k∧(f k).Nodup∧(∀ a,a∈A∨a∈B→i ∉ f a∧∀ j∈f a,j ∉ f k):=by
 rw [B2,o_,w6] at h
 obtain⟨h1,h2⟩:=h
 rw [v8] at h2
 obtain⟨h3,h4,h5⟩:=h2
 rw [v8] at h4
 obtain⟨h6,h7,h8⟩:=h4
 simp only [Y_,not_or] at h1
 refine⟨h1.2.1,h6,fun a ha=>⟨fun hi=>?_,fun j hj hk=>?_⟩⟩
 · rcases ha with ha | ha
   · exact h1.1 (M_.2 ⟨a,ha,hi⟩)
   · exact h1.2.2 (M_.2 ⟨a,ha,hi⟩)
 · rcases ha with ha | ha
   · exact h5 j (M_.2 ⟨a,ha,hj⟩) j (K8 _ hk) rfl
   · exact h8 j hk j (M_.2 ⟨a,ha,hj⟩) rfl
theorem wM {α:Type}(A:List α)(x:α)(B:List α):idx (A++x::B) (A.length:Int)=some x:=by
 rw [uX,E1 (g8 _)];simp
theorem yx {α:Type}(A:List α)(x y:α)(B:List α):(A++x::B).set A.length y=A++y::B:=by
 rw [List.set_append_right _ _ (g8 _)];simp
end
end Go.Proofs.YtaoocidchclpnaaGreat
