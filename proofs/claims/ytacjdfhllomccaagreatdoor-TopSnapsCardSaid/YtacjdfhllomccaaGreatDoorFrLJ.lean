/- Pure functions, written by walkgen.py out of Go functions that change what they are handed. Their conditions: none. -/
import Derived.Test.YtacjdfhllomccaaGreatDoorNamesLJ
import Derived.Test.YtacjdfhllomccaaGreatDoorFileFJ
import Derived.Test.YtacjdfhllomccaaGreatDoorLstFJ
import Derived.Test.YtacjdfhllomccaaGreatDoorPickLJ
import Derived.Test.YtacjdfhllomccaaGreatDoorPruneFJ
import Derived.Test.YtacjdfhllomccaaGreatDoorLocalJ
import Derived.Test.YtacjdfhllomccaaGreatDoorMapJ
import Derived.Test.YtacjdfhllomccaaGreatDoorInsJ
import Derived.Test.YtacjdfhllomccaaGreatDoorRecJ
import Derived.Test.YtacjdfhllomccaaGreatDoorTreeOJ
import Derived.Test.YtacjdfhllomccaaGreatDoorAnyLJ
import Derived.Test.YtacjdfhllomccaaGreatDoorSh2J
import Derived.Test.YtacjdfhllomccaaGreatDoorFileLJ
import Derived.Test.YtacjdfhllomccaaGreatDoorPruneLJ
import Derived.Test.YtacjdfhllomccaaGreatDoorEqLJ
import Derived.Test.YtacjdfhllomccaaGreatDoorRangeJ
namespace Go.Proofs.YtacjdfhllomccaaGreatDoor
set_option linter.unusedVariables false
def fs_FS_kind_fr (F : Nat) (p904 : List DElem) (p906 : Int) (p907 : Int) (p908 : Int) (p909 : Int) : Option (ByteArray) :=
 (run_At F p904 (DKey.mk 0 p908 0) p909).bind fun r1 =>
 some r1.1.val
def fs_FS_walk_fr (F : Nat) (p904 : List DElem) (p906 : Int) (p907 : Int) (p910 : List ByteArray) (p912 : Int) : Option (Int × Int) :=
 (fs_FS_kind_fr F p904 p906 p907 1 p912).bind fun r1 =>
 bif (seq r1 (ByteArray.mk #[])) then
  some (0, 4)
 else
  (iter (σ := Int × Int) (ρ := (Int) ⊕ (Int × Int)) (fun x => match x with
   | (x1, x2) =>
    bif decide (x2 < (p910.length : Int)) then
     (idx p910 x2).bind fun e1 =>
     (fs_FS_kind_fr F p904 p906 p907 x1 p912).bind fun r2 =>
     bif (!(seq r2 (ByteArray.mk #[100]))) then
      some (.inr (.inr (0, 12)))
     else
      (dir_Find F p904 0 x1 e1 p912).bind fun r3 =>
      bif (r3.2 != 0) then
       some (.inr (.inr (0, r3.2)))
      else
       some (.inl (r3.1, IntKind.i64.wrap (x2 + 1)))
     else
      some (.inr (.inl x1))) F (1, 0)).bind fun z => match z with
   | .inl z3 =>
    some (z3, 0)
   | .inr q => some q
def fs_FS_parent_fr (F : Nat) (p904 : List DElem) (p906 : Int) (p907 : Int) (p908 : ByteArray) : Option (Int × ByteArray × Int × Int) :=
 (fs_names F p908).bind fun r1 =>
 bif (r1.2 != 0) then
  some (0, (ByteArray.mk #[]), 0, r1.2)
 else
  bif ((r1.1.length : Int) == 0) then
   some (0, (ByteArray.mk #[]), 1, 0)
  else
   (lslice r1.1 0 (IntKind.i64.wrap ((r1.1.length : Int) - 1))).bind fun s1 =>
   (fs_FS_walk_fr F p904 p906 p907 s1 p906).bind fun r2 =>
   bif (r2.2 != 0) then
    some (0, (ByteArray.mk #[]), 0, r2.2)
   else
    (fs_FS_kind_fr F p904 p906 p907 r2.1 p906).bind fun r3 =>
    bif (!(seq r3 (ByteArray.mk #[100]))) then
     some (0, (ByteArray.mk #[]), 0, 12)
    else
     (idx r1.1 (IntKind.i64.wrap ((r1.1.length : Int) - 1))).bind fun e1 =>
     (dir_Find F p904 0 r2.1 e1 p906).bind fun r4 =>
     (
      bif (r4.2 != 0) then
       some 0
       else
        some r4.1 : Option (Int)).bind fun z5 =>
     (idx r1.1 (IntKind.i64.wrap ((r1.1.length : Int) - 1))).bind fun e2 =>
     some (r2.1, e2, z5, 0)
def fs_FS_create_fr (F : Nat) (p904 : List DElem) (p906 : Int) (p907 : Int) (p911 : List DElem) (p913 : Int) (p914 : Int) (p915 : Int) (p916 : ByteArray) (p917 : ByteArray) : Option ((List DElem) × Int) :=
 (
  bif ((p914 == 0) && (decide ((1048576 : Int) < p907))) then
   some 8
   else
    some p914 : Option (Int)).bind fun z3 =>
 (
  bif (z3 == 0) then
   (run_Put F p911 (DKey.mk 0 p907 0) p917 p913).bind fun r1 =>
   (
    bif (r1.2 == 0) then
     some r1.1
     else
      some p911 : Option ((List DElem))).bind fun z6 =>
   some (z6, r1.2)
   else
    some (p911, z3) : Option ((List DElem) × Int)).bind fun z => match z with
  | (z4, z5) =>
   (
    bif (z5 == 0) then
     (dir_Add F z4 0 p915 p916 p907 p913).bind fun r2 =>
     (
      bif (r2.2 == 0) then
       some r2.1
       else
        some z4 : Option ((List DElem))).bind fun z9 =>
     some (z9, r2.2)
     else
      some (z4, z5) : Option ((List DElem) × Int)).bind fun z => match z with
    | (z7, z8) =>
     some (z7, z8)
def fs_FS_Write_fr (F : Nat) (p904 : List DElem) (p906 : Int) (p907 : Int) (p908 : ByteArray) (p909 : ByteArray) : Option ((List DElem) × Int × Int × Int) :=
 (fs_FS_parent_fr F p904 p906 p907 p908).bind fun r1 =>
 bif (r1.2.2.2 != 0) then
  some (p904, p906, p907, r1.2.2.2)
 else
  (
   bif (r1.2.2.1 != 0) then
    (fs_FS_kind_fr F p904 p906 p907 r1.2.2.1 p906).bind fun r2 =>
    some (!(seq r2 (ByteArray.mk #[102])))
    else
     some false : Option (Bool)).bind fun z5 =>
  bif z5 then
   some (p904, p906, p907, 12)
  else
   (
    (
     bif (p906 == 2147483647) then
      some 8
      else
       some 0 : Option (Int)).bind fun z7 =>
     some z7 : Option (Int)).bind fun z6 =>
   (
    bif (r1.2.2.1 == 0) then
     (fs_FS_create_fr F p904 p906 p907 p904 (IntKind.i64.wrap (p906 + 1)) z6 r1.1 r1.2.1 (ByteArray.mk #[102])).bind fun r3 =>
     some (r3.1, r3.2, p907)
     else
      some (p904, z6, r1.2.2.1) : Option ((List DElem) × Int × Int)).bind fun z => match z with
    | (z8, z9, z10) =>
     (
      bif (z9 == 0) then
       (file_Set F z8 0 z10 p909 (IntKind.i64.wrap (p906 + 1))).bind fun r4 =>
       (
        bif (r4.2 == 0) then
         some r4.1
         else
          some z8 : Option ((List DElem))).bind fun z13 =>
       some (z13, r4.2)
       else
        some (z8, z9) : Option ((List DElem) × Int)).bind fun z => match z with
      | (z11, z12) =>
       (
        (
         bif (z12 == 0) then
          some (z11, IntKind.i64.wrap (p906 + 1))
          else
           some (p904, p906) : Option ((List DElem) × Int)).bind fun z => match z with
         | (z16, z17) =>
          some (z16, z17) : Option ((List DElem) × Int)).bind fun z => match z with
        | (z14, z15) =>
         bif (z12 != 0) then
          some (z14, z15, p907, z12)
         else
          (
           bif (r1.2.2.1 == 0) then
            some (IntKind.i64.wrap (p907 + 1))
            else
             some p907 : Option (Int)).bind fun z18 =>
          some (z14, z15, z18, 0)
def fs_FS_at_fr (F : Nat) (p904 : List DElem) (p906 : Int) (p907 : Int) (p908 : ByteArray) (p909 : Int) : Option (Int × Int) :=
 (fs_names F p908).bind fun r1 =>
 bif (r1.2 != 0) then
  some (0, r1.2)
 else
  bif ((decide (p909 < 0)) || (decide (p906 < p909))) then
   some (0, 9)
  else
   (fs_FS_walk_fr F p904 p906 p907 r1.1 p909).bind fun r2 =>
   some (r2.1, r2.2)
def fs_FS_Read_fr (F : Nat) (p904 : List DElem) (p906 : Int) (p907 : Int) (p908 : ByteArray) (p909 : Int) : Option (ByteArray × Int) :=
 (fs_FS_at_fr F p904 p906 p907 p908 p909).bind fun r1 =>
 bif (r1.2 != 0) then
  some ((ByteArray.mk #[]), r1.2)
 else
  (fs_FS_kind_fr F p904 p906 p907 r1.1 p909).bind fun r2 =>
  bif (!(seq r2 (ByteArray.mk #[102]))) then
   some ((ByteArray.mk #[]), 12)
  else
   (file_Get F p904 0 r1.1 p909).bind fun r3 =>
   some (r3.1, r3.2)
end Go.Proofs.YtacjdfhllomccaaGreatDoor
/- Go functions that change what they are handed: each walked once, whatever lies beside. Condition of each: the pure function yields a result. -/
namespace Go.Proofs.YtacjdfhllomccaaGreatDoor
set_option linter.unusedVariables false
set_option maxRecDepth 100000 in
set_option maxHeartbeats 4000000 in
theorem fs_FS_kind_fr_l (F : Nat) (p904 : List DElem) (p906 : Int) (p907 : Int) (p908 : Int) (p909 : Int) (r : ByteArray) (hF : fs_FS_kind_fr F p904 p906 p907 p908 p909 = some r) (w : World) (hGl : Glob w) (b901 : Nat) (A902 : Option Addr) (c903 : Nat) (V900 : View) (G900 : List HObj) (w1 : World) (hs905 : SlOk V900 eElem A902 c903 p904) (hh : Hp w V900 ((box b901 78 [.slice A902 p904.length c903, .int .i64 p906, .int .i64 p907]) :: G900) w1) :
 Calls Tryz.prog 59 #[.pointer (some ⟨b901, 0, none⟩), .int .i64 p908, .int .i64 p909] w1 (fun e w2 => ∃ v, e = .returned v ∧ ∃ (V1 : View), View.le V900 V1 ∧ v = .string r ∧ Hp w V1 ((box b901 78 [.slice A902 p904.length c903, .int .i64 p906, .int .i64 p907]) :: G900) w2) := by
 unfold fs_FS_kind_fr at hF
 have hV900 := hh.base
 refine T.startI (l := [pB b901 0, vi p908, vi p909]) Tryz.func59 rfl rfl rfl ?_ hh
 clear hh
 refine T.seq (T.region (T.pk (.string (ByteArray.mk #[])) (fun _ => by kernel_rfl) (T.nil (T.seq ?_))))
 obtain ⟨r1, hb1, hF⟩ := ob hF
 let i1_ : HObj := box b901 78 [.slice A902 p904.length c903, vi p906, vi p907]
 let v4_ : List Value := [vi r1.1.key.pfs, vi r1.1.key.obj, vi r1.1.key.off, vi r1.1.made, vi r1.1.gone, .string r1.1.val]
 refine T.mid (fun a w' => ∃ (b2 : Nat) (V3 : View), View.le V900 V3 ∧ Fr 22 [(7, pB b2 0)] a ∧ Hp w V3 ((box b2 44 v4_) :: i1_ :: G900) w') ?_ ?_
 ·
  refine T.held (i1_ :: []) (by kernel_rfl) ?_
  refine TA.keep (Hp.old vr hV900 (kp1 kp0) (oB1 ol0)) fun o10_ => ?_
  refine TA.tp 0 (pB b901 0) rfl (fun _ => by kernel_rfl) (fun _ _ _ h => h) o10_ ?_
  refine TA.tp 1 (pB b901 0) rfl (fun _ => by kernel_rfl) (fun _ _ _ h => h) o10_ ?_
  refine TA.tp 2 (pB b901 0) rfl (fun _ => by kernel_rfl) (fun _ _ _ h => h) o10_ ?_
  refine TA.tk 3 (.slice A902 p904.length c903) rfl (by kernel_rfl) (fun _ _ _ h => h) o10_ (ld1 0 rfl rfl (fun _ => by kernel_rfl) (by rfl) rfl) ?_
  refine TA.tp 4 (vi p908) rfl (fun _ => by kernel_rfl) (fun _ _ _ h => h) o10_ ?_
  refine TA.tp 6 (vi p909) rfl (fun _ => by kernel_rfl) (fun _ _ _ h => h) o10_ ?_
  refine TA.all [5, 11] (by kernel_rfl) rfl ⟨?_, ?_, trivial⟩
  ·
   let a8_ : Value := .agg #[vi 0, vi p908, vi 0]
   refine TA.br rfl (W1.within 50 [vi p908] (fun v w' => v = a8_ ∧ Hp w V900 (i1_ :: G900) w') Tryz.func50 rfl rfl (by kernel_rfl) (fun _ => by kernel_rfl) rfl ?_ ?_)
   ·
    refine T.seq (T.region (T.step (W1.np 42 [vi 0, vi 0, vi 0] (fun _ => by kernel_rfl) (fun b1 => ?_))))
    refine T.nil (T.seq (T.region (T.p2 (vi p908) a8_ (fun _ => by kernel_rfl) ?_)))
    let v5_ : List Value := [vi 0, vi p908, vi 0]
    refine T.step (W1.st 0 v5_ ((box b1 42 v5_) :: i1_ :: G900) v5_ (by rfl) rfl rfl rfl rfl rfl rfl (fun _ => by kernel_rfl) ?_)
    refine T.nil ?_
    refine T.ret rfl ?_
    exact T.ret1 rfl (ResIs.cellN 0 rfl (by rfl) (fun _ => by kernel_rfl) (fun _ => by kernel_rfl)) fun w' hh => ⟨_, rfl, ⟨rfl, (hh.sub (dr1 (kp1 kpr)))⟩⟩
   rintro v w' ⟨rfl, hh⟩
   refine ⟨V900, (i1_ :: G900), hh, ?_⟩
   clear hh
   refine TA.on (Hp.old vr hV900 (kp1 kp0) (oB1 ol0)) ?_
   refine TA.all [7, 11] (by kernel_rfl) rfl ⟨?_, ?_, trivial⟩
   ·
    refine TA.br rfl (W1.call (vT2 (vAg eElem) (vSc eInt)) r1 94 #[.slice A902 p904.length c903, a8_, vi p909] (by kernel_rfl) (fun _ => by kernel_rfl) (fun w' hh => run_At_l F p904 (DKey.mk 0 p908 0) p909 r1 hb1 w' A902 c903 (SlOk.mono hs905 hh.view)) ?_)
    intro u V2 hV2 hu
    obtain rfl := (Sure.t2 sureElem sureInt) _ _ _ hu
    refine TA.onk (Hp.old hV2 hV900 (kp1 kp0) (oB1 ol0)) fun o11_ => ?_
    refine TA.tp 8 (.tuple #[.agg #[vi r1.1.key.pfs, vi r1.1.key.obj, vi r1.1.key.off, vi r1.1.made, vi r1.1.gone, .string r1.1.val], vi r1.2]) rfl (fun _ => by kernel_rfl) (fun _ _ _ h => h) o11_ ?_
    refine TA.tp 9 (.agg #[vi r1.1.key.pfs, vi r1.1.key.obj, vi r1.1.key.off, vi r1.1.made, vi r1.1.gone, .string r1.1.val]) rfl (fun _ => by kernel_rfl) (fun _ _ _ h => h) o11_ ?_
    refine TA.tp 10 (vi r1.2) rfl (fun _ => by kernel_rfl) (fun _ _ _ h => h) o11_ ?_
    refine TA.all [11] (by kernel_rfl) rfl ⟨?_, trivial⟩
    refine TA.br rfl (W1.np 44 [vi 0, vi 0, vi 0, vi 0, vi 0, .string (ByteArray.mk #[])] (fun _ => by kernel_rfl) (fun b2 => ?_))
    refine TA.on (Hp.old hV2 hV900 (dr1 (kp1 kp0)) (oB1 ol0)) ?_
    refine TA.all [12] (by kernel_rfl) rfl ⟨?_, trivial⟩
    refine TA.br rfl (W1.st 0 v4_ ((box b2 44 v4_) :: i1_ :: G900) v4_ (by rfl) rfl rfl rfl rfl rfl rfl (fun _ => by kernel_rfl) ?_)
    refine TA.onk (Hp.old hV2 hV900 (dr1 (kp1 kp0)) (oB1 ol0)) fun o12_ => ?_
    refine TA.tp 13 (vi r1.2) rfl (fun _ => by kernel_rfl) (fun _ _ _ h => h) o12_ ?_
    refine TA.done (by kernel_rfl) ?_
    exact fun a w' hf hh => ⟨b2, V2, hV2, (Fr.sel hf rfl), (hh.sub (kp1 (kp1 kpr)))⟩
   refine TA.br rfl (W1.np 44 [vi 0, vi 0, vi 0, vi 0, vi 0, .string (ByteArray.mk #[])] (fun _ => by kernel_rfl) (fun b2 => ?_))
   refine TA.on (Hp.old vr hV900 (dr1 (kp1 kp0)) (oB1 ol0)) ?_
   refine TA.all [7] (by kernel_rfl) rfl ⟨?_, trivial⟩
   refine TA.br rfl (W1.call (vT2 (vAg eElem) (vSc eInt)) r1 94 #[.slice A902 p904.length c903, a8_, vi p909] (by kernel_rfl) (fun _ => by kernel_rfl) (fun w' hh => run_At_l F p904 (DKey.mk 0 p908 0) p909 r1 hb1 w' A902 c903 (SlOk.mono hs905 hh.view)) ?_)
   intro u V2 hV2 hu
   obtain rfl := (Sure.t2 sureElem sureInt) _ _ _ hu
   refine TA.onk (Hp.old hV2 hV900 (dr1 (kp1 kp0)) (oB1 ol0)) fun o13_ => ?_
   refine TA.tp 8 (.tuple #[.agg #[vi r1.1.key.pfs, vi r1.1.key.obj, vi r1.1.key.off, vi r1.1.made, vi r1.1.gone, .string r1.1.val], vi r1.2]) rfl (fun _ => by kernel_rfl) (fun _ _ _ h => h) o13_ ?_
   refine TA.tp 9 (.agg #[vi r1.1.key.pfs, vi r1.1.key.obj, vi r1.1.key.off, vi r1.1.made, vi r1.1.gone, .string r1.1.val]) rfl (fun _ => by kernel_rfl) (fun _ _ _ h => h) o13_ ?_
   refine TA.tp 10 (vi r1.2) rfl (fun _ => by kernel_rfl) (fun _ _ _ h => h) o13_ ?_
   refine TA.all [12] (by kernel_rfl) rfl ⟨?_, trivial⟩
   refine TA.br rfl (W1.st 0 v4_ ((box b2 44 v4_) :: i1_ :: G900) v4_ (by rfl) rfl rfl rfl rfl rfl rfl (fun _ => by kernel_rfl) ?_)
   refine TA.onk (Hp.old hV2 hV900 (dr1 (kp1 kp0)) (oB1 ol0)) fun o14_ => ?_
   refine TA.tp 13 (vi r1.2) rfl (fun _ => by kernel_rfl) (fun _ _ _ h => h) o14_ ?_
   refine TA.done (by kernel_rfl) ?_
   exact fun a w' hf hh => ⟨b2, V2, hV2, (Fr.sel hf rfl), (hh.sub (kp1 (kp1 kpr)))⟩
  let v6_ : List Value := [vi 0, vi 0, vi 0, vi 0, vi 0, .string (ByteArray.mk #[])]
  refine TA.br rfl (W1.np 44 v6_ (fun _ => by kernel_rfl) (fun b2 => ?_))
  refine TA.on (Hp.old vr hV900 (dr1 (kp1 kp0)) (oB1 ol0)) ?_
  refine TA.all [5] (by kernel_rfl) rfl ⟨?_, trivial⟩
  let i2_ : HObj := box b2 44 v6_
  let t3_ : List HObj := i2_ :: i1_ :: G900
  let a9_ : Value := .agg #[vi 0, vi p908, vi 0]
  refine TA.br rfl (W1.within 50 [vi p908] (fun v w' => v = a9_ ∧ Hp w V900 t3_ w') Tryz.func50 rfl rfl (by kernel_rfl) (fun _ => by kernel_rfl) rfl ?_ ?_)
  ·
   refine T.seq (T.region (T.step (W1.np 42 [vi 0, vi 0, vi 0] (fun _ => by kernel_rfl) (fun b1 => ?_))))
   refine T.nil (T.seq (T.region (T.p2 (vi p908) a9_ (fun _ => by kernel_rfl) ?_)))
   let v7_ : List Value := [vi 0, vi p908, vi 0]
   refine T.step (W1.st 0 v7_ ((box b1 42 v7_) :: t3_) v7_ (by rfl) rfl rfl rfl rfl rfl rfl (fun _ => by kernel_rfl) ?_)
   refine T.nil ?_
   refine T.ret rfl ?_
   exact T.ret1 rfl (ResIs.cellN 0 rfl (by rfl) (fun _ => by kernel_rfl) (fun _ => by kernel_rfl)) fun w' hh => ⟨_, rfl, ⟨rfl, (hh.sub (dr1 (kp1 (kp1 kpr))))⟩⟩
  rintro v w' ⟨rfl, hh⟩
  refine ⟨V900, t3_, hh, ?_⟩
  clear hh
  refine TA.on (Hp.old vr hV900 (dr1 (kp1 kp0)) (oB1 ol0)) ?_
  refine TA.all [7] (by kernel_rfl) rfl ⟨?_, trivial⟩
  refine TA.br rfl (W1.call (vT2 (vAg eElem) (vSc eInt)) r1 94 #[.slice A902 p904.length c903, a9_, vi p909] (by kernel_rfl) (fun _ => by kernel_rfl) (fun w' hh => run_At_l F p904 (DKey.mk 0 p908 0) p909 r1 hb1 w' A902 c903 (SlOk.mono hs905 hh.view)) ?_)
  intro u V2 hV2 hu
  obtain rfl := (Sure.t2 sureElem sureInt) _ _ _ hu
  refine TA.onk (Hp.old hV2 hV900 (dr1 (kp1 kp0)) (oB1 ol0)) fun o15_ => ?_
  refine TA.tp 8 (.tuple #[.agg #[vi r1.1.key.pfs, vi r1.1.key.obj, vi r1.1.key.off, vi r1.1.made, vi r1.1.gone, .string r1.1.val], vi r1.2]) rfl (fun _ => by kernel_rfl) (fun _ _ _ h => h) o15_ ?_
  refine TA.tp 9 (.agg #[vi r1.1.key.pfs, vi r1.1.key.obj, vi r1.1.key.off, vi r1.1.made, vi r1.1.gone, .string r1.1.val]) rfl (fun _ => by kernel_rfl) (fun _ _ _ h => h) o15_ ?_
  refine TA.tp 10 (vi r1.2) rfl (fun _ => by kernel_rfl) (fun _ _ _ h => h) o15_ ?_
  refine TA.all [12] (by kernel_rfl) rfl ⟨?_, trivial⟩
  refine TA.br rfl (W1.st 0 v4_ ((box b2 44 v4_) :: i1_ :: G900) v4_ (by rfl) rfl rfl rfl rfl rfl rfl (fun _ => by kernel_rfl) ?_)
  refine TA.onk (Hp.old hV2 hV900 (dr1 (kp1 kp0)) (oB1 ol0)) fun o16_ => ?_
  refine TA.tp 13 (vi r1.2) rfl (fun _ => by kernel_rfl) (fun _ _ _ h => h) o16_ ?_
  refine TA.done (by kernel_rfl) ?_
  exact fun a w' hf hh => ⟨b2, V2, hV2, (Fr.sel hf rfl), (hh.sub (kp1 (kp1 kpr)))⟩
 rintro a w' ⟨b2, V3, hV3, hf, hh⟩
 refine (?_ : T 22 w V3 ((box b2 44 v4_) :: i1_ :: G900) [(7, pB b2 0)] _) a w' hf hh
 clear hf hh
 refine T.seq (T.region (T.pk (pB b2 5) (fun _ => by kernel_rfl) (T.look (.string r1.1.val) (by kernel_rfl) (ld1 0 rfl rfl (fun _ => by kernel_rfl) (by rfl) rfl) ?_)))
 refine T.pk (.string r1.1.val) (fun _ => by kernel_rfl) (T.nil ?_)
 have hres := Option.some.inj hF
 subst hres
 refine T.ret rfl ?_
 repeat first | refine T.unthen ?_ | refine T.unblock ?_
 exact T.ret1 rfl (ResIs.tmp rfl) fun w' hh => ⟨_, rfl, ⟨V3, hV3, rfl, (hh.sub (dr1 (kp1 kpr)))⟩⟩
set_option maxRecDepth 100000 in
set_option maxHeartbeats 4000000 in
theorem fs_FS_walk_fr_l (F : Nat) (p904 : List DElem) (p906 : Int) (p907 : Int) (p910 : List ByteArray) (p912 : Int) (r : Int × Int) (hF : fs_FS_walk_fr F p904 p906 p907 p910 p912 = some r) (w : World) (hGl : Glob w) (b901 : Nat) (A902 : Option Addr) (c903 : Nat) (A908 : Option Addr) (c909 : Nat) (V900 : View) (G900 : List HObj) (w1 : World) (hs905 : SlOk V900 eElem A902 c903 p904) (hs911 : SlOk V900 eStr A908 c909 p910) (hh : Hp w V900 ((box b901 78 [.slice A902 p904.length c903, .int .i64 p906, .int .i64 p907]) :: G900) w1) :
 Calls Tryz.prog 87 #[.pointer (some ⟨b901, 0, none⟩), .slice A908 p910.length c909, .int .i64 p912] w1 (fun e w2 => ∃ v, e = .returned v ∧ ∃ (V1 : View), View.le V900 V1 ∧ v = .tuple #[.int .i64 r.1, .int .i64 r.2] ∧ Hp w V1 ((box b901 78 [.slice A902 p904.length c903, .int .i64 p906, .int .i64 p907]) :: G900) w2) := by
 unfold fs_FS_walk_fr at hF
 have hV900 := hh.base
 refine T.startI (l := [pB b901 0, .slice A908 p910.length c909, vi p912]) Tryz.func87 rfl rfl rfl ?_ hh
 clear hh
 refine T.seq (T.region (T.p2 (vi 0) (vi 0) (fun _ => by kernel_rfl) (T.nil (T.seq (T.region (T.pk (vi 1) (fun _ => by kernel_rfl) (T.nil (T.seq (T.seq (T.region (T.p2 (pB b901 0) (vi p912) (fun _ => by kernel_rfl) ?_)))))))))))
 obtain ⟨r1, hb1, hF⟩ := ob hF
 let i17_ : HObj := box b901 78 [.slice A902 p904.length c903, vi p906, vi p907]
 refine T.step (W1.callI 59 [pB b901 0, vi 1, vi p912] (fun v w' => ∃ (V2 : View), View.le V900 V2 ∧ v = .string r1 ∧ Hp w V2 (i17_ :: G900) w') (by kernel_rfl) (fun _ => by kernel_rfl) (fun w' hh => fs_FS_kind_fr_l F p904 p906 p907 1 p912 r1 hb1 w hGl b901 A902 c903 V900 G900 w' hs905 (hh.sub (kp1 kpr))) ?_)
 rintro v w' ⟨V2, hV2, rfl, hh⟩
 refine ⟨_, _, hh, ?_⟩
 clear hh
 refine T.pk (.bool (seq r1 (ByteArray.mk #[]))) (fun _ => by kernel_rfl) (T.nil ?_)
 refine T.cond (seq r1 (ByteArray.mk #[])) (by kernel_rfl) (by kernel_rfl) (fun hc1 => ?_) (fun hc1 => ?_)
 ·
  rw [hc1, cond_true] at hF
  refine T.seq (T.region (T.p2 (vi 0) (vi 4) (fun _ => by kernel_rfl) (T.nil ?_)))
  have hres := Option.some.inj hF
  subst hres
  refine T.ret rfl ?_
  repeat first | refine T.unthen ?_ | refine T.unblock ?_
  exact T.ret2 rfl (ResIs.tmp rfl) (ResIs.tmp rfl) fun w' hh => ⟨_, rfl, ⟨V2, hV2, rfl, (hh.sub (kp1 kpr))⟩⟩
 rw [hc1, cond_false] at hF
 refine T.skip_code ?_
 refine T.seq (T.seq (T.region (T.p3 (.slice A908 p910.length c909) (vi (p910.length : Int)) (vi 0) (fun _ => by kernel_rfl) (T.nil ?_))))
 obtain ⟨q1, hz1, hF⟩ := ob hF
 refine T.mid (fun a w' => ∃ (z3 : Int), q1 = Sum.inl z3 ∧ ∃ (V4 : View), View.le V2 V4 ∧ Fr 45 [(8, vi z3)] a ∧ Hp w V4 (i17_ :: G900) w') ?_ ?_
 ·
  refine T.block ?_
  refine T.iter (fun s1 a w' => ∃ (x1 : Int) (x2 : Int), s1 = (x1, x2) ∧ ∃ (V3 : View), View.le V2 V3 ∧ Fr 45 [(0, pB b901 0), (2, vi p912), (8, vi x1), (17, .slice A908 p910.length c909), (18, vi (p910.length : Int)), (19, vi x2)] a ∧ Hp w V3 (i17_ :: G900) w') hz1 ?_ ?_
  ·
   exact fun a w' hf hh => ⟨1, 0, rfl, V2, vr, (Fr.sel hf rfl), (hh.sub (kp1 kpr))⟩
  rintro s1 y1 hY1 hr1 a w' ⟨x1, x2, rfl, V3, hV3, hf, hh⟩
  refine (?_ : T 45 w V3 (i17_ :: G900) [(0, pB b901 0), (2, vi p912), (8, vi x1), (17, .slice A908 p910.length c909), (18, vi (p910.length : Int)), (19, vi x2)] _) a w' hf hh
  clear hf hh
  try dsimp only at hY1
  refine T.seq (T.region (T.pk (.bool (decide (x2 < (p910.length : Int)))) (fun _ => by kernel_rfl) (T.nil (T.seq ?_))))
  refine T.cond (decide (x2 < (p910.length : Int))) (by kernel_rfl) (by kernel_rfl) (fun hc2 => ?_) (fun hc2 => ?_)
  ·
   rw [hc2, cond_true] at hY1
   refine T.skip_code ?_
   refine T.seq (T.block (T.seq (T.region ?_)))
   obtain ⟨e1, hb2, hY1⟩ := ob hY1
   obtain ⟨hi1, hi2, hi3⟩ := idx_some hb2
   refine T.look (.pointer (some ((sadr A908).add (x2.toNat * 1)))) (by kernel_rfl) (fun w' hh => exec_indexAddr (e := 9) (s := 1) rfl rfl rfl (by kernel_rfl) (by kernel_rfl) hi1 hi2 ((SlOk.mono hs911 (vt hV2 hV3)).some_ hi3 (by decide))) ?_
   refine T.look (.string e1) (by kernel_rfl) (fun w' hh => exec_load1 rfl rfl (by kernel_rfl) (hh.cell_view (SlOk.cellF0 (E := eStr) (SlOk.mono hs911 (vt hV2 hV3)) hi3 (fun _ _ _ h => h) rfl))) ?_
   refine T.pk (.string e1) (fun _ => by kernel_rfl) (T.nil (T.seq (T.seq (T.region (T.p3 (pB b901 0) (vi x1) (vi p912) (fun _ => by kernel_rfl) ?_)))))
   obtain ⟨r2, hb3, hY1⟩ := ob hY1
   refine T.step (W1.callI 59 [pB b901 0, vi x1, vi p912] (fun v w' => ∃ (V5 : View), View.le V3 V5 ∧ v = .string r2 ∧ Hp w V5 (i17_ :: G900) w') (by kernel_rfl) (fun _ => by kernel_rfl) (fun w' hh => fs_FS_kind_fr_l F p904 p906 p907 x1 p912 r2 hb3 w hGl b901 A902 c903 V3 G900 w' (SlOk.mono hs905 (vt hV2 hV3)) (hh.sub (kp1 kpr))) ?_)
   rintro v w' ⟨V5, hV5, rfl, hh⟩
   refine ⟨_, _, hh, ?_⟩
   clear hh
   refine T.pk (.bool (!(seq r2 (ByteArray.mk #[100])))) (fun _ => by kernel_rfl) (T.nil ?_)
   refine T.cond (!(seq r2 (ByteArray.mk #[100]))) (by kernel_rfl) (by kernel_rfl) (fun hc3 => ?_) (fun hc3 => ?_)
   ·
    rw [hc3, cond_true] at hY1
    refine T.seq (T.region (T.p2 (vi 0) (vi 12) (fun _ => by kernel_rfl) (T.nil ?_)))
    cases hY1
    cases (hr1 _ rfl)
    try dsimp only at hF
    have hres := Option.some.inj hF
    subst hres
    refine T.ret rfl ?_
    repeat first | refine T.unthen ?_ | refine T.unblock ?_
    exact T.ret2 rfl (ResIs.tmp rfl) (ResIs.tmp rfl) fun w' hh => ⟨_, rfl, ⟨V5, (vt (vt hV2 hV3) hV5), rfl, (hh.sub (kp1 kpr))⟩⟩
   rw [hc3, cond_false] at hY1
   refine T.skip_code ?_
   refine T.seq (T.region (T.p3 (pB b901 0) (pB b901 0) (pB b901 0) (fun _ => by kernel_rfl) (T.look (.slice A902 p904.length c903) (by kernel_rfl) (ld1 0 rfl rfl (fun _ => by kernel_rfl) (by rfl) rfl) ?_)))
   refine T.p3 (vi x1) (.string e1) (vi p912) (fun _ => by kernel_rfl) ?_
   obtain ⟨r3, hb4, hY1⟩ := ob hY1
   refine T.step (W1.call (vT2 (vSc eInt) (vSc eInt)) r3 88 #[.slice A902 p904.length c903, vi 0, vi x1, .string e1, vi p912] (by kernel_rfl) (fun _ => by kernel_rfl) (fun w' hh => dir_Find_l F p904 0 x1 e1 p912 r3 hb4 w' (Glob.mono hGl (vt hh.base hh.view)) A902 c903 (SlOk.mono (SlOk.mono hs905 (vt (vt hV2 hV3) hV5)) hh.view)) ?_)
   intro u V6 hV6 hu
   obtain rfl := (Sure.t2 sureInt sureInt) _ _ _ hu
   refine T.p5 (.tuple #[vi r3.1, vi r3.2]) (vi r3.1) (vi r3.2) (vi r3.1) (vi r3.2) (fun _ => by kernel_rfl) (T.nil (T.seq (T.seq (T.region (T.p2 (vi r3.2) (.bool (r3.2 != 0)) (fun _ => by kernel_rfl) (T.nil ?_))))))
   refine T.cond (r3.2 != 0) (by kernel_rfl) (by kernel_rfl) (fun hc4 => ?_) (fun hc4 => ?_)
   ·
    rw [hc4, cond_true] at hY1
    refine T.seq (T.region (T.p3 (vi r3.2) (vi 0) (vi r3.2) (fun _ => by kernel_rfl) (T.nil ?_)))
    cases hY1
    cases (hr1 _ rfl)
    try dsimp only at hF
    have hres := Option.some.inj hF
    subst hres
    refine T.ret rfl ?_
    repeat first | refine T.unthen ?_ | refine T.unblock ?_
    exact T.ret2 rfl (ResIs.tmp rfl) (ResIs.tmp rfl) fun w' hh => ⟨_, rfl, ⟨V6, (vt (vt (vt hV2 hV3) hV5) hV6), rfl, (hh.sub (kp1 kpr))⟩⟩
   rw [hc4, cond_false] at hY1
   refine T.skip_code ?_
   refine T.region (T.p2 (vi r3.1) (vi r3.1) (fun _ => by kernel_rfl) (T.nil (T.region (T.p2 (vi (IntKind.i64.wrap (x2 + 1))) (vi (IntKind.i64.wrap (x2 + 1))) (fun _ => by kernel_rfl) (T.nil ?_)))))
   cases hY1
   exact fun a w' hf hh => ⟨(r3.1, IntKind.i64.wrap (x2 + 1)), rfl, r3.1, (IntKind.i64.wrap (x2 + 1)), rfl, V6, (vt (vt hV3 hV5) hV6), (Fr.sel hf rfl), (hh.sub (kp1 kpr))⟩
  rw [hc2, cond_false] at hY1
  refine T.exit ?_
  cases hY1
  cases (hr1 _ rfl)
  exact fun a w' hf hh => ⟨x1, rfl, V3, hV3, (Fr.sel hf rfl), (hh.sub (kp1 kpr))⟩
 rintro a w' ⟨z3, rfl, V4, hV4, hf, hh⟩
 try dsimp only at hF
 refine (?_ : T 45 w V4 (i17_ :: G900) [(8, vi z3)] _) a w' hf hh
 clear hf hh
 refine T.seq (T.region (T.p3 (vi z3) (vi z3) (vi 0) (fun _ => by kernel_rfl) (T.nil ?_)))
 have hres := Option.some.inj hF
 subst hres
 refine T.ret rfl ?_
 repeat first | refine T.unthen ?_ | refine T.unblock ?_
 exact T.ret2 rfl (ResIs.tmp rfl) (ResIs.tmp rfl) fun w' hh => ⟨_, rfl, ⟨V4, (vt hV2 hV4), rfl, (hh.sub (kp1 kpr))⟩⟩
set_option maxRecDepth 100000 in
set_option maxHeartbeats 4000000 in
theorem fs_FS_parent_fr_l (F : Nat) (p904 : List DElem) (p906 : Int) (p907 : Int) (p908 : ByteArray) (r : Int × ByteArray × Int × Int) (hF : fs_FS_parent_fr F p904 p906 p907 p908 = some r) (w : World) (hGl : Glob w) (b901 : Nat) (A902 : Option Addr) (c903 : Nat) (V900 : View) (G900 : List HObj) (w1 : World) (hs905 : SlOk V900 eElem A902 c903 p904) (hh : Hp w V900 ((box b901 78 [.slice A902 p904.length c903, .int .i64 p906, .int .i64 p907]) :: G900) w1) :
 Calls Tryz.prog 51 #[.pointer (some ⟨b901, 0, none⟩), .string p908] w1 (fun e w2 => ∃ v, e = .returned v ∧ ∃ (V1 : View), View.le V900 V1 ∧ v = .tuple #[.int .i64 r.1, .string r.2.1, .int .i64 r.2.2.1, .int .i64 r.2.2.2] ∧ Hp w V1 ((box b901 78 [.slice A902 p904.length c903, .int .i64 p906, .int .i64 p907]) :: G900) w2) := by
 unfold fs_FS_parent_fr at hF
 have hV900 := hh.base
 refine T.startI (l := [pB b901 0, .string p908]) Tryz.func51 rfl rfl rfl ?_ hh
 clear hh
 refine T.seq (T.region (T.p4 (vi 0) (.string (ByteArray.mk #[])) (vi 0) (vi 0) (fun _ => by kernel_rfl) (T.nil (T.seq (T.region (T.pk (.string p908) (fun _ => by kernel_rfl) ?_))))))
 obtain ⟨r1, hb1, hF⟩ := ob hF
 refine T.step (W1.call (vT2 (vSc (eList eStr)) (vSc eInt)) r1 86 #[.string p908] (by kernel_rfl) (fun _ => by kernel_rfl) (fun w' hh => fs_names_l F p908 r1 hb1 w' (Glob.mono hGl (vt hh.base hh.view))) ?_)
 intro u V2 hV2 hu
 obtain ⟨u1, u2, rfl, hu1, hu2⟩ := vT2_elim hu
 obtain ⟨A1, c1, rfl, hs1⟩ := vlist_elim hu1
 obtain rfl := sureInt _ _ _ hu2
 refine T.p5 (.tuple #[.slice A1 r1.1.length c1, vi r1.2]) (.slice A1 r1.1.length c1) (vi r1.2) (.slice A1 r1.1.length c1) (vi r1.2) (fun _ => by kernel_rfl) (T.nil (T.seq (T.seq (T.region (T.p2 (vi r1.2) (.bool (r1.2 != 0)) (fun _ => by kernel_rfl) (T.nil ?_))))))
 refine T.cond (r1.2 != 0) (by kernel_rfl) (by kernel_rfl) (fun hc1 => ?_) (fun hc1 => ?_)
 ·
  rw [hc1, cond_true] at hF
  refine T.seq (T.region (T.p5 (vi r1.2) (vi 0) (.string (ByteArray.mk #[])) (vi 0) (vi r1.2) (fun _ => by kernel_rfl) (T.nil ?_)))
  have hres := Option.some.inj hF
  subst hres
  refine T.ret rfl ?_
  repeat first | refine T.unthen ?_ | refine T.unblock ?_
  exact T.ret4 rfl (ResIs.tmp rfl) (ResIs.tmp rfl) (ResIs.tmp rfl) (ResIs.tmp rfl) fun w' hh => ⟨_, rfl, ⟨V2, hV2, rfl, (hh.sub (kp1 kpr))⟩⟩
 rw [hc1, cond_false] at hF
 refine T.skip_code ?_
 refine T.seq (T.seq (T.region (T.p3 (.slice A1 r1.1.length c1) (vi (r1.1.length : Int)) (.bool ((r1.1.length : Int) == 0)) (fun _ => by kernel_rfl) (T.nil ?_))))
 refine T.cond ((r1.1.length : Int) == 0) (by kernel_rfl) (by kernel_rfl) (fun hc2 => ?_) (fun hc2 => ?_)
 ·
  rw [hc2, cond_true] at hF
  refine T.seq (T.region (T.p4 (vi 0) (.string (ByteArray.mk #[])) (vi 1) (vi 0) (fun _ => by kernel_rfl) (T.nil ?_)))
  have hres := Option.some.inj hF
  subst hres
  refine T.ret rfl ?_
  repeat first | refine T.unthen ?_ | refine T.unblock ?_
  exact T.ret4 rfl (ResIs.tmp rfl) (ResIs.tmp rfl) (ResIs.tmp rfl) (ResIs.tmp rfl) fun w' hh => ⟨_, rfl, ⟨V2, hV2, rfl, (hh.sub (kp1 kpr))⟩⟩
 rw [hc2, cond_false] at hF
 refine T.skip_code ?_
 refine T.seq (T.region (T.p4 (.slice A1 r1.1.length c1) (vi (r1.1.length : Int)) (vi (IntKind.i64.wrap ((r1.1.length : Int) - 1))) (vi (IntKind.i64.wrap ((r1.1.length : Int) - 1))) (fun _ => by kernel_rfl) (T.nil (T.seq ?_))))
 refine T.held [] (by kernel_rfl) ?_
 refine TA.keep (Hp.old vr (vt hV900 hV2) (dr1 kp0) ol0) fun o19_ => ?_
 refine TA.tp 0 (pB b901 0) rfl (fun _ => by kernel_rfl) (fun _ _ _ h => h) o19_ ?_
 refine TA.tp 1 (.slice A1 r1.1.length c1) rfl (fun _ => by kernel_rfl) (fun _ _ _ h => h) o19_ ?_
 refine TA.tp 2 (vi (IntKind.i64.wrap ((r1.1.length : Int) - 1))) rfl (fun _ => by kernel_rfl) (fun _ _ _ h => h) o19_ ?_
 obtain ⟨s1, hb2, hF⟩ := ob hF
 refine TA.tk 3 (.slice A1 s1.length c1) rfl (by kernel_rfl) (fun _ _ _ h => h) o19_ (fun w' hh => exec_slice_list0 (e := 9) (s := 1) (lx := none) (hx := (some _)) (k := .i64) (k' := .i64) rfl rfl (by kernel_rfl) (by kernel_rfl) ((SlOk.mono hs1 (vt (made_le _ _) vr))).1 rfl rfl hb2) ?_
 refine TA.tp 4 (pB b901 0) rfl (fun _ => by kernel_rfl) (fun _ _ _ h => h) o19_ ?_
 refine TA.tp 5 (pB b901 0) rfl (fun _ => by kernel_rfl) (fun _ _ _ h => h) o19_ ?_
 refine TA.tp 6 (pB b901 1) rfl (fun _ => by kernel_rfl) (fun _ _ _ h => h) o19_ ?_
 refine TA.all [7] (by kernel_rfl) rfl ⟨?_, trivial⟩
 refine TA.br rfl (W1.look (vi p906) (by kernel_rfl) (ld1 0 rfl rfl (fun _ => by kernel_rfl) (by rfl) rfl) ?_)
 refine TA.on (Hp.old vr (vt hV900 hV2) (dr1 kp0) ol0) ?_
 refine TA.all [8] (by kernel_rfl) rfl ⟨?_, trivial⟩
 obtain ⟨r2, hb3, hF⟩ := ob hF
 let i18_ : HObj := box b901 78 [.slice A902 p904.length c903, vi p906, vi p907]
 refine TA.br rfl (W1.callI 87 [pB b901 0, .slice A1 s1.length c1, vi p906] (fun v w' => ∃ (V3 : View), View.le V2 V3 ∧ v = .tuple #[vi r2.1, vi r2.2] ∧ Hp w V3 (i18_ :: G900) w') (by kernel_rfl) (fun _ => by kernel_rfl) (fun w' hh => fs_FS_walk_fr_l F p904 p906 p907 s1 p906 r2 hb3 w hGl b901 A902 c903 A1 c1 V2 G900 w' (SlOk.mono hs905 hV2) (SlOk.cut0 (SlOk.mono hs1 (vt (made_le _ _) vr)) hb2) (hh.sub (kp1 kpr))) ?_)
 rintro v w' ⟨V3, hV3, rfl, hh⟩
 refine ⟨_, _, hh, ?_⟩
 clear hh
 refine TA.onk (Hp.old hV3 (vt hV900 hV2) (dr1 kp0) ol0) fun o20_ => ?_
 refine TA.tp 9 (.tuple #[vi r2.1, vi r2.2]) rfl (fun _ => by kernel_rfl) (fun _ _ _ h => h) o20_ ?_
 refine TA.tp 10 (vi r2.1) rfl (fun _ => by kernel_rfl) (fun _ _ _ h => h) o20_ ?_
 refine TA.tp 11 (vi r2.2) rfl (fun _ => by kernel_rfl) (fun _ _ _ h => h) o20_ ?_
 refine TA.tp 12 (vi r2.1) rfl (fun _ => by kernel_rfl) (fun _ _ _ h => h) o20_ ?_
 refine TA.tp 13 (vi r2.2) rfl (fun _ => by kernel_rfl) (fun _ _ _ h => h) o20_ ?_
 refine TA.done (by kernel_rfl) ?_
 refine T.seq (T.seq (T.region (T.p2 (vi r2.2) (.bool (r2.2 != 0)) (fun _ => by kernel_rfl) (T.nil ?_))))
 refine T.cond (r2.2 != 0) (by kernel_rfl) (by kernel_rfl) (fun hc3 => ?_) (fun hc3 => ?_)
 ·
  rw [hc3, cond_true] at hF
  refine T.seq (T.region (T.p5 (vi r2.2) (vi 0) (.string (ByteArray.mk #[])) (vi 0) (vi r2.2) (fun _ => by kernel_rfl) (T.nil ?_)))
  have hres := Option.some.inj hF
  subst hres
  refine T.ret rfl ?_
  repeat first | refine T.unthen ?_ | refine T.unblock ?_
  exact T.ret4 rfl (ResIs.tmp rfl) (ResIs.tmp rfl) (ResIs.tmp rfl) (ResIs.tmp rfl) fun w' hh => ⟨_, rfl, ⟨V3, (vt hV2 hV3), rfl, (hh.sub (kp1 kpr))⟩⟩
 rw [hc3, cond_false] at hF
 refine T.skip_code ?_
 refine T.seq (T.seq (T.region (T.p5 (pB b901 0) (vi r2.1) (pB b901 0) (pB b901 0) (pB b901 1) (fun _ => by kernel_rfl) (T.look (vi p906) (by kernel_rfl) (ld1 0 rfl rfl (fun _ => by kernel_rfl) (by rfl) rfl) ?_))))
 obtain ⟨r3, hb4, hF⟩ := ob hF
 refine T.step (W1.callI 59 [pB b901 0, vi r2.1, vi p906] (fun v w' => ∃ (V4 : View), View.le V3 V4 ∧ v = .string r3 ∧ Hp w V4 (i18_ :: G900) w') (by kernel_rfl) (fun _ => by kernel_rfl) (fun w' hh => fs_FS_kind_fr_l F p904 p906 p907 r2.1 p906 r3 hb4 w hGl b901 A902 c903 V3 G900 w' (SlOk.mono hs905 (vt hV2 hV3)) (hh.sub (kp1 kpr))) ?_)
 rintro v w' ⟨V4, hV4, rfl, hh⟩
 refine ⟨_, _, hh, ?_⟩
 clear hh
 refine T.pk (.bool (!(seq r3 (ByteArray.mk #[100])))) (fun _ => by kernel_rfl) (T.nil ?_)
 refine T.cond (!(seq r3 (ByteArray.mk #[100]))) (by kernel_rfl) (by kernel_rfl) (fun hc4 => ?_) (fun hc4 => ?_)
 ·
  rw [hc4, cond_true] at hF
  refine T.seq (T.region (T.p4 (vi 0) (.string (ByteArray.mk #[])) (vi 0) (vi 12) (fun _ => by kernel_rfl) (T.nil ?_)))
  have hres := Option.some.inj hF
  subst hres
  refine T.ret rfl ?_
  repeat first | refine T.unthen ?_ | refine T.unblock ?_
  exact T.ret4 rfl (ResIs.tmp rfl) (ResIs.tmp rfl) (ResIs.tmp rfl) (ResIs.tmp rfl) fun w' hh => ⟨_, rfl, ⟨V4, (vt (vt hV2 hV3) hV4), rfl, (hh.sub (kp1 kpr))⟩⟩
 rw [hc4, cond_false] at hF
 refine T.skip_code ?_
 refine T.seq ?_
 refine T.quiet (by kernel_rfl) (by kernel_rfl) ?_
 refine TQ.pure (pB b901 0) (by kernel_rfl) (fun _ => by kernel_rfl) ?_
 refine TQ.pure (pB b901 0) (by kernel_rfl) (fun _ => by kernel_rfl) ?_
 refine TQ.pure (pB b901 0) (by kernel_rfl) (fun _ => by kernel_rfl) ?_
 refine TQ.look (.slice A902 p904.length c903) (by kernel_rfl) (ld1 0 rfl rfl (fun _ => by kernel_rfl) (by rfl) rfl) ?_
 refine TQ.pure (vi r2.1) (by kernel_rfl) (fun _ => by kernel_rfl) ?_
 refine TQ.pure (.slice A1 r1.1.length c1) (by kernel_rfl) (fun _ => by kernel_rfl) ?_
 refine TQ.pure (vi (IntKind.i64.wrap ((r1.1.length : Int) - 1))) (by kernel_rfl) (fun _ => by kernel_rfl) ?_
 obtain ⟨e1, hb5, hF⟩ := ob hF
 obtain ⟨hi1, hi2, hi3⟩ := idx_some hb5
 refine TQ.look (.pointer (some ((sadr A1).add (((IntKind.i64.wrap ((r1.1.length : Int) - 1)).toNat) * 1)))) (by kernel_rfl) (fun w' hh => exec_indexAddr (e := 9) (s := 1) rfl rfl rfl (by kernel_rfl) (by kernel_rfl) hi1 hi2 ((SlOk.mono hs1 (vt (made_le _ _) (vt hV3 hV4))).some_ hi3 (by decide))) ?_
 refine TQ.look (.string e1) (by kernel_rfl) (fun w' hh => exec_load1 rfl rfl (by kernel_rfl) (hh.cell_view (SlOk.cellF0 (E := eStr) (SlOk.mono hs1 (vt (made_le _ _) (vt hV3 hV4))) hi3 (fun _ _ _ h => h) rfl))) ?_
 refine TQ.pure (pB b901 0) (by kernel_rfl) (fun _ => by kernel_rfl) ?_
 refine TQ.pure (pB b901 0) (by kernel_rfl) (fun _ => by kernel_rfl) ?_
 refine TQ.pure (pB b901 1) (by kernel_rfl) (fun _ => by kernel_rfl) ?_
 refine TQ.look (vi p906) (by kernel_rfl) (ld1 0 rfl rfl (fun _ => by kernel_rfl) (by rfl) rfl) ?_
 obtain ⟨r4, hb6, hF⟩ := ob hF
 refine TQ.call (vT2 (vSc eInt) (vSc eInt)) r4 88 #[.slice A902 p904.length c903, vi 0, vi r2.1, .string e1, vi p906] (.tuple #[vi r4.1, vi r4.2]) (fun V u hu => (Sure.t2 sureInt sureInt) V u _ hu) (by kernel_rfl) (fun _ => by kernel_rfl) (fun w' hh => dir_Find_l F p904 0 r2.1 e1 p906 r4 hb6 w' (Glob.mono hGl (vt hh.base hh.view)) A902 c903 (SlOk.mono (SlOk.mono hs905 (vt (vt hV2 hV3) hV4)) hh.view)) ?_
 refine TQ.pure (.tuple #[vi r4.1, vi r4.2]) (by kernel_rfl) (fun _ => by kernel_rfl) ?_
 refine TQ.pure (vi r4.1) (by kernel_rfl) (fun _ => by kernel_rfl) ?_
 refine TQ.pure (vi r4.2) (by kernel_rfl) (fun _ => by kernel_rfl) ?_
 refine TQ.pure (vi r4.1) (by kernel_rfl) (fun _ => by kernel_rfl) ?_
 refine TQ.pure (vi r4.2) (by kernel_rfl) (fun _ => by kernel_rfl) ?_
 refine TQ.nil ?_
 obtain ⟨z5, hX1, hF⟩ := ob hF
 refine T.cut (fun a w' => Fr 75 [(8, .slice A1 r1.1.length c1), (10, vi (IntKind.i64.wrap ((r1.1.length : Int) - 1))), (11, vi r2.1), (12, vi z5)] a ∧ Hp w V4 (i18_ :: G900) w') ?_ ?_
 ·
  refine T.seq (T.region (T.p2 (vi r4.2) (.bool (r4.2 != 0)) (fun _ => by kernel_rfl) (T.nil ?_)))
  refine T.cond (r4.2 != 0) (by kernel_rfl) (by kernel_rfl) (fun hc5 => ?_) (fun hc5 => ?_)
  ·
   rw [hc5, cond_true] at hX1
   refine T.region (T.pk (vi 0) (fun _ => by kernel_rfl) (T.nil ?_))
   cases hX1
   exact fun a w' hf hh => ⟨(Fr.sel hf rfl), (hh.sub (kp1 kpr))⟩
  rw [hc5, cond_false] at hX1
  refine T.skip_code ?_
  cases hX1
  exact fun a w' hf hh => ⟨(Fr.sel hf rfl), (hh.sub (kp1 kpr))⟩
 rintro a w' ⟨hf, hh⟩
 refine (?_ : T 75 w V4 (i18_ :: G900) [(8, .slice A1 r1.1.length c1), (10, vi (IntKind.i64.wrap ((r1.1.length : Int) - 1))), (11, vi r2.1), (12, vi z5)] _) a w' hf hh
 clear hf hh
 refine T.seq ?_
 refine T.quiet (by kernel_rfl) (by kernel_rfl) ?_
 refine TQ.pure (vi r2.1) (by kernel_rfl) (fun _ => by kernel_rfl) ?_
 refine TQ.pure (.slice A1 r1.1.length c1) (by kernel_rfl) (fun _ => by kernel_rfl) ?_
 refine TQ.pure (vi (IntKind.i64.wrap ((r1.1.length : Int) - 1))) (by kernel_rfl) (fun _ => by kernel_rfl) ?_
 obtain ⟨e2, hb7, hF⟩ := ob hF
 obtain ⟨hi4, hi5, hi6⟩ := idx_some hb7
 refine TQ.look (.pointer (some ((sadr A1).add (((IntKind.i64.wrap ((r1.1.length : Int) - 1)).toNat) * 1)))) (by kernel_rfl) (fun w' hh => exec_indexAddr (e := 9) (s := 1) rfl rfl rfl (by kernel_rfl) (by kernel_rfl) hi4 hi5 ((SlOk.mono hs1 (vt (made_le _ _) (vt hV3 hV4))).some_ hi6 (by decide))) ?_
 refine TQ.look (.string e2) (by kernel_rfl) (fun w' hh => exec_load1 rfl rfl (by kernel_rfl) (hh.cell_view (SlOk.cellF0 (E := eStr) (SlOk.mono hs1 (vt (made_le _ _) (vt hV3 hV4))) hi6 (fun _ _ _ h => h) rfl))) ?_
 refine TQ.pure (vi z5) (by kernel_rfl) (fun _ => by kernel_rfl) ?_
 refine TQ.pure (vi r2.1) (by kernel_rfl) (fun _ => by kernel_rfl) ?_
 refine TQ.pure (.string e2) (by kernel_rfl) (fun _ => by kernel_rfl) ?_
 refine TQ.pure (vi z5) (by kernel_rfl) (fun _ => by kernel_rfl) ?_
 refine TQ.pure (vi 0) (by kernel_rfl) (fun _ => by kernel_rfl) ?_
 refine TQ.nil ?_
 have hres := Option.some.inj hF
 subst hres
 refine T.ret rfl ?_
 repeat first | refine T.unthen ?_ | refine T.unblock ?_
 exact T.ret4 rfl (ResIs.tmp rfl) (ResIs.tmp rfl) (ResIs.tmp rfl) (ResIs.tmp rfl) fun w' hh => ⟨_, rfl, ⟨V4, (vt (vt hV2 hV3) hV4), rfl, (hh.sub (kp1 kpr))⟩⟩
set_option maxRecDepth 100000 in
set_option maxHeartbeats 4000000 in
theorem fs_FS_create_fr_l (F : Nat) (p904 : List DElem) (p906 : Int) (p907 : Int) (p911 : List DElem) (p913 : Int) (p914 : Int) (p915 : Int) (p916 : ByteArray) (p917 : ByteArray) (r : (List DElem) × Int) (hF : fs_FS_create_fr F p904 p906 p907 p911 p913 p914 p915 p916 p917 = some r) (w : World) (hGl : Glob w) (b901 : Nat) (b908 : Nat) (A902 : Option Addr) (c903 : Nat) (A909 : Option Addr) (c910 : Nat) (V900 : View) (G900 : List HObj) (w1 : World) (hs905 : SlOk V900 eElem A902 c903 p904) (hs912 : SlOk V900 eElem A909 c910 p911) (hh : Hp w V900 ((box b901 78 [.slice A902 p904.length c903, .int .i64 p906, .int .i64 p907]) :: (box b908 86 [.slice A909 p911.length c910, .int .i64 p913, .int .i64 p914]) :: G900) w1) :
 Calls Tryz.prog 53 #[.pointer (some ⟨b901, 0, none⟩), .pointer (some ⟨b908, 0, none⟩), .int .i64 p915, .string p916, .string p917] w1 (fun e w2 => ∃ v, e = .returned v ∧ ∃ (A1 : Option Addr) (c1 : Nat) (V1 : View), View.le V900 V1 ∧ SlOk V1 eElem A1 c1 r.1 ∧ v = .int .i64 p907 ∧ Hp w V1 ((box b901 78 [.slice A902 p904.length c903, .int .i64 p906, .int .i64 p907]) :: (box b908 86 [.slice A1 r.1.length c1, .int .i64 p913, .int .i64 r.2]) :: G900) w2) := by
 unfold fs_FS_create_fr at hF
 have hV900 := hh.base
 refine T.startI (l := [pB b901 0, pB b908 0, vi p915, .string p916, .string p917]) Tryz.func53 rfl rfl rfl ?_ hh
 clear hh
 refine T.seq (T.region (T.pk (vi 0) (fun _ => by kernel_rfl) (T.nil ?_)))
 obtain ⟨z3, hX1, hF⟩ := ob hF
 let i21_ : HObj := box b901 78 [.slice A902 p904.length c903, vi p906, vi p907]
 let i22_ : HObj := box b908 86 [.slice A909 p911.length c910, vi p913, vi z3]
 let t23_ : List HObj := i21_ :: i22_ :: G900
 refine T.cut (fun a w' => Fr 62 [(0, pB b901 0), (1, pB b908 0), (2, vi p915), (3, .string p916), (4, .string p917)] a ∧ Hp w V900 t23_ w') ?_ ?_
 ·
  let i24_ : HObj := box b908 86 [.slice A909 p911.length c910, vi p913, vi p914]
  refine T.cut (fun a w' => Fr 62 [(0, pB b901 0), (1, pB b908 0), (2, vi p915), (3, .string p916), (4, .string p917), (22, .bool ((p914 == 0) && (decide ((1048576 : Int) < p907))))] a ∧ Hp w V900 (i21_ :: i24_ :: G900) w') ?_ ?_
  ·
   refine T.region (T.p3 (pB b908 0) (pB b908 0) (pB b908 2) (fun _ => by kernel_rfl) (T.look (vi p914) (by kernel_rfl) (ld1 1 rfl rfl (fun _ => by kernel_rfl) (by rfl) rfl) ?_))
   refine T.p2 (.bool (p914 == 0)) (.bool (p914 == 0)) (fun _ => by kernel_rfl) ?_
   cases hg1 : (p914 == 0)
   ·
    skip
    refine T.pass (by kernel_rfl) (by kernel_rfl) (T.pass (by kernel_rfl) (by kernel_rfl) (T.pass (by kernel_rfl) (by kernel_rfl) (T.pass (by kernel_rfl) (by kernel_rfl) (T.pass (by kernel_rfl) (by kernel_rfl) (T.pk (.bool false) (fun _ => by kernel_rfl) (T.nil ?_))))))
    exact fun a w' hf hh => ⟨(Fr.sel hf rfl), (hh.sub (kp1 (kp1 kpr)))⟩
   skip
   refine T.p3 (pB b901 0) (pB b901 0) (pB b901 2) (fun _ => by kernel_rfl) (T.look (vi p907) (by kernel_rfl) (ld1 0 rfl rfl (fun _ => by kernel_rfl) (by rfl) rfl) ?_)
   refine T.p2 (.bool (decide ((1048576 : Int) < p907))) (.bool (decide ((1048576 : Int) < p907))) (fun _ => by kernel_rfl) (T.nil ?_)
   exact fun a w' hf hh => ⟨(Fr.sel hf rfl), (hh.sub (kp1 (kp1 kpr)))⟩
  rintro a w' ⟨hf, hh⟩
  refine (?_ : T 62 w V900 (i21_ :: i24_ :: G900) [(0, pB b901 0), (1, pB b908 0), (2, vi p915), (3, .string p916), (4, .string p917), (22, .bool ((p914 == 0) && (decide ((1048576 : Int) < p907))))] _) a w' hf hh
  clear hf hh
  refine T.cond ((p914 == 0) && (decide ((1048576 : Int) < p907))) (by kernel_rfl) (by kernel_rfl) (fun hc1 => ?_) (fun hc1 => ?_)
  ·
   rw [hc1, cond_true] at hX1
   refine T.region (T.p3 (pB b908 0) (pB b908 0) (pB b908 2) (fun _ => by kernel_rfl) (T.step (W1.st 1 [.slice A909 p911.length c910, vi p913, vi 8] (i21_ :: (box b908 86 [.slice A909 p911.length c910, vi p913, vi 8]) :: G900) [vi 8] (by rfl) rfl rfl rfl rfl rfl rfl (fun _ => by kernel_rfl) ?_)))
   refine T.nil ?_
   cases hX1
   exact fun a w' hf hh => ⟨(Fr.sel hf rfl), (hh.sub (kp1 (kp1 kpr)))⟩
  rw [hc1, cond_false] at hX1
  refine T.skip_code ?_
  cases hX1
  exact fun a w' hf hh => ⟨(Fr.sel hf rfl), (hh.sub (kp1 (kp1 kpr)))⟩
 rintro a w' ⟨hf, hh⟩
 refine (?_ : T 62 w V900 t23_ [(0, pB b901 0), (1, pB b908 0), (2, vi p915), (3, .string p916), (4, .string p917)] _) a w' hf hh
 clear hf hh
 refine T.seq (T.region (T.p4 (pB b908 0) (pB b901 0) (pB b901 0) (pB b901 2) (fun _ => by kernel_rfl) (T.look (vi p907) (by kernel_rfl) (ld1 0 rfl rfl (fun _ => by kernel_rfl) (by rfl) rfl) ?_)))
 let a28_ : Value := .agg #[vi 0, vi p907, vi 0]
 refine T.step (W1.within 50 [vi p907] (fun v w' => v = a28_ ∧ Hp w V900 t23_ w') Tryz.func50 rfl rfl (by kernel_rfl) (fun _ => by kernel_rfl) rfl ?_ ?_)
 ·
  refine T.seq (T.region (T.step (W1.np 42 [vi 0, vi 0, vi 0] (fun _ => by kernel_rfl) (fun b1 => ?_))))
  refine T.nil (T.seq (T.region (T.p2 (vi p907) a28_ (fun _ => by kernel_rfl) ?_)))
  let v26_ : List Value := [vi 0, vi p907, vi 0]
  refine T.step (W1.st 0 v26_ ((box b1 42 v26_) :: t23_) v26_ (by rfl) rfl rfl rfl rfl rfl rfl (fun _ => by kernel_rfl) ?_)
  refine T.nil ?_
  refine T.ret rfl ?_
  exact T.ret1 rfl (ResIs.cellN 0 rfl (by rfl) (fun _ => by kernel_rfl) (fun _ => by kernel_rfl)) fun w' hh => ⟨_, rfl, ⟨rfl, (hh.sub (dr1 (kp1 (kp1 kpr))))⟩⟩
 rintro v w' ⟨rfl, hh⟩
 refine ⟨V900, t23_, hh, ?_⟩
 clear hh
 refine T.pk (.string p917) (fun _ => by kernel_rfl) ?_
 obtain ⟨q1, hX2, hF⟩ := ob hF
 refine T.step (W1.within 89 [pB b908 0, a28_, .string p917] (fun v w' => ∃ (z4 : List DElem) (z5 : Int), q1 = (z4, z5) ∧ ∃ (A2 : Option Addr) (c2 : Nat) (V2 : View), View.le V900 V2 ∧ SlOk V2 eElem A2 c2 z4 ∧ v = .tuple #[] ∧ Hp w V2 (i21_ :: (box b908 86 [.slice A2 z4.length c2, vi p913, vi z5]) :: G900) w') Tryz.func89 rfl rfl (by kernel_rfl) (fun _ => by kernel_rfl) rfl ?_ ?_)
 ·
  refine T.seq (T.region ?_)
  let v27_ : List Value := [vi 0, vi p907, vi 0]
  refine T.step (W1.np 42 v27_ (fun _ => by kernel_rfl) (fun b2 => ?_))
  refine T.nil (T.seq (T.region (T.p3 (pB b908 0) (pB b908 0) (pB b908 2) (fun _ => by kernel_rfl) (T.look (vi z3) (by kernel_rfl) (ld1 2 rfl rfl (fun _ => by kernel_rfl) (by rfl) rfl) ?_))))
  refine T.pk (.bool (z3 == 0)) (fun _ => by kernel_rfl) (T.nil ?_)
  refine T.cond (z3 == 0) (by kernel_rfl) (by kernel_rfl) (fun hc2 => ?_) (fun hc2 => ?_)
  ·
   rw [hc2, cond_true] at hX2
   obtain ⟨r1, hb1, hX2⟩ := ob hX2
   obtain ⟨z6, hX3, hX2⟩ := ob hX2
   refine T.mid (fun a w' => ∃ (A5 : Option Addr) (c5 : Nat) (V5 : View), View.le V900 V5 ∧ SlOk V5 eElem A5 c5 z6 ∧ Fr 26 [] a ∧ Hp w V5 (i21_ :: (box b908 86 [.slice A5 z6.length c5, vi p913, vi r1.2]) :: G900) w') ?_ ?_
   ·
    let i25_ : HObj := box b2 42 v27_
    refine T.held (i25_ :: i21_ :: []) (by kernel_rfl) ?_
    refine TA.keep (Hp.old vr hV900 (kp2 (dr1 kp0)) (oB1 (oB1 ol0))) fun o29_ => ?_
    refine TA.tp 0 (pB b908 0) rfl (fun _ => by kernel_rfl) (fun _ _ _ h => h) o29_ ?_
    refine TA.tp 1 (pB b908 0) rfl (fun _ => by kernel_rfl) (fun _ _ _ h => h) o29_ ?_
    refine TA.tp 2 (pB b908 0) rfl (fun _ => by kernel_rfl) (fun _ _ _ h => h) o29_ ?_
    refine TA.tp 3 (pB b908 0) rfl (fun _ => by kernel_rfl) (fun _ _ _ h => h) o29_ ?_
    refine TA.tk 5 a28_ rfl (by kernel_rfl) (fun _ _ _ h => h) o29_ (ldN 0 rfl rfl (fun _ => by kernel_rfl) (by rfl) rfl) ?_
    refine TA.tp 6 (.string p917) rfl (fun _ => by kernel_rfl) (fun _ _ _ h => h) o29_ ?_
    refine TA.tp 7 (pB b908 0) rfl (fun _ => by kernel_rfl) (fun _ _ _ h => h) o29_ ?_
    refine TA.tp 8 (pB b908 0) rfl (fun _ => by kernel_rfl) (fun _ _ _ h => h) o29_ ?_
    refine TA.tp 9 (pB b908 1) rfl (fun _ => by kernel_rfl) (fun _ _ _ h => h) o29_ ?_
    refine TA.all [4, 10] (by kernel_rfl) rfl ⟨?_, ?_, trivial⟩
    ·
     refine TA.br rfl (W1.look (.slice A909 p911.length c910) (by kernel_rfl) (ld1 2 rfl rfl (fun _ => by kernel_rfl) (by rfl) rfl) ?_)
     refine TA.on (Hp.old vr hV900 (kp2 (dr1 kp0)) (oB1 (oB1 ol0))) ?_
     refine TA.all [10] (by kernel_rfl) rfl ⟨?_, trivial⟩
     refine TA.br rfl (W1.look (vi p913) (by kernel_rfl) (ld1 2 rfl rfl (fun _ => by kernel_rfl) (by rfl) rfl) ?_)
     refine TA.on (Hp.old vr hV900 (kp2 (dr1 kp0)) (oB1 (oB1 ol0))) ?_
     refine TA.all [11] (by kernel_rfl) rfl ⟨?_, trivial⟩
     refine TA.br rfl (W1.call (vT2 (vSc (eList eElem)) (vSc eInt)) r1 79 #[.slice A909 p911.length c910, a28_, .string p917, vi p913] (by kernel_rfl) (fun _ => by kernel_rfl) (fun w' hh => run_Put_l F p911 (DKey.mk 0 p907 0) p917 p913 r1 hb1 w' A909 c910 (SlOk.mono hs912 hh.view)) ?_)
     intro u V3 hV3 hu
     obtain ⟨u1, u2, rfl, hu1, hu2⟩ := vT2_elim hu
     obtain ⟨A3, c3, rfl, hs3⟩ := vlist_elim hu1
     obtain rfl := sureInt _ _ _ hu2
     refine TA.onk (Hp.old hV3 hV900 (kp2 (dr1 kp0)) (oB1 (oB1 ol0))) fun o30_ => ?_
     refine TA.tp 12 (.slice A3 r1.1.length c3) rfl (fun _ => by kernel_rfl) (fun _ _ _ h => h) o30_ ?_
     refine TA.tp 13 (vi r1.2) rfl (fun _ => by kernel_rfl) (fun _ _ _ h => h) o30_ ?_
     refine TA.all [14] (by kernel_rfl) rfl ⟨?_, trivial⟩
     refine TA.br rfl (W1.within 55 [pB b908 0, .slice A3 r1.1.length c3, vi r1.2] (fun v w' => ∃ (A4 : Option Addr) (c4 : Nat) (V4 : View), View.le V3 V4 ∧ SlOk V4 eElem A4 c4 z6 ∧ v = .tuple #[] ∧ Hp w V4 (i25_ :: i21_ :: (box b908 86 [.slice A4 z6.length c4, vi p913, vi r1.2]) :: G900) w') Tryz.func55 rfl rfl (by kernel_rfl) (fun _ => by kernel_rfl) rfl ?_ ?_)
     ·
      refine T.seq (T.seq (T.region (T.p3 (pB b908 0) (pB b908 0) (pB b908 2) (fun _ => by kernel_rfl) (T.look (vi z3) (by kernel_rfl) (ld1 2 rfl rfl (fun _ => by kernel_rfl) (by rfl) rfl) ?_))))
      refine T.pk (.bool (z3 == 0)) (fun _ => by kernel_rfl) (T.nil ?_)
      refine T.cond (z3 == 0) (by kernel_rfl) (by kernel_rfl) (fun _ => ?_) (fun h => absurd (hc2.symm.trans h) (by decide))
      refine T.region (T.p4 (pB b908 0) (vi r1.2) (pB b908 0) (pB b908 2) (fun _ => by kernel_rfl) (T.step (W1.st 2 [.slice A909 p911.length c910, vi p913, vi r1.2] (i25_ :: i21_ :: (box b908 86 [.slice A909 p911.length c910, vi p913, vi r1.2]) :: G900) [vi r1.2] (by rfl) rfl rfl rfl rfl rfl rfl (fun _ => by kernel_rfl) ?_)))
      refine T.nil (T.seq (T.region (T.p3 (pB b908 0) (pB b908 0) (pB b908 2) (fun _ => by kernel_rfl) (T.look (vi r1.2) (by kernel_rfl) (ld1 2 rfl rfl (fun _ => by kernel_rfl) (by rfl) rfl) ?_))))
      refine T.pk (.bool (r1.2 == 0)) (fun _ => by kernel_rfl) (T.nil ?_)
      refine T.cond (r1.2 == 0) (by kernel_rfl) (by kernel_rfl) (fun hc3 => ?_) (fun hc3 => ?_)
      ·
       rw [hc3, cond_true] at hX3
       refine T.region (T.p4 (pB b908 0) (.slice A3 r1.1.length c3) (pB b908 0) (pB b908 0) (fun _ => by kernel_rfl) (T.step (W1.st 2 [.slice A3 r1.1.length c3, vi p913, vi r1.2] (i25_ :: i21_ :: (box b908 86 [.slice A3 r1.1.length c3, vi p913, vi r1.2]) :: G900) [.slice A3 r1.1.length c3] (by rfl) rfl rfl rfl rfl rfl rfl (fun _ => by kernel_rfl) ?_)))
       refine T.nil ?_
       cases hX3
       repeat first | refine T.unthen ?_ | refine T.unblock ?_
       exact T.end0 rfl fun w' hh => ⟨_, rfl, ⟨A3, c3, V3, vr, (SlOk.mono hs3 (vt (made_le _ _) vr)), rfl, (hh.sub (kp2 (kp1 kpr)))⟩⟩
      rw [hc3, cond_false] at hX3
      refine T.skip_code ?_
      cases hX3
      repeat first | refine T.unthen ?_ | refine T.unblock ?_
      exact T.end0 rfl fun w' hh => ⟨_, rfl, ⟨A909, c910, V3, vr, (SlOk.mono hs912 hV3), rfl, (hh.sub (kp2 (kp1 kpr)))⟩⟩
     rintro v w' ⟨A4, c4, V4, hV4, hs4, rfl, hh⟩
     refine ⟨V4, (i25_ :: i21_ :: (box b908 86 [.slice A4 z6.length c4, vi p913, vi r1.2]) :: G900), hh, ?_⟩
     clear hh
     refine TA.on (Hp.old (vt hV3 hV4) hV900 (kp2 (dr1 kp0)) (oB1 (oB1 ol0))) ?_
     refine TA.done (by kernel_rfl) ?_
     exact fun a w' hf hh => ⟨A4, c4, V4, (vt hV3 hV4), hs4, (Fr.nil hf), (hh.sub (dr1 (kp1 (kp1 kpr))))⟩
    refine TA.br rfl (W1.look (vi p913) (by kernel_rfl) (ld1 2 rfl rfl (fun _ => by kernel_rfl) (by rfl) rfl) ?_)
    refine TA.on (Hp.old vr hV900 (kp2 (dr1 kp0)) (oB1 (oB1 ol0))) ?_
    refine TA.all [4] (by kernel_rfl) rfl ⟨?_, trivial⟩
    refine TA.br rfl (W1.look (.slice A909 p911.length c910) (by kernel_rfl) (ld1 2 rfl rfl (fun _ => by kernel_rfl) (by rfl) rfl) ?_)
    refine TA.on (Hp.old vr hV900 (kp2 (dr1 kp0)) (oB1 (oB1 ol0))) ?_
    refine TA.all [11] (by kernel_rfl) rfl ⟨?_, trivial⟩
    refine TA.br rfl (W1.call (vT2 (vSc (eList eElem)) (vSc eInt)) r1 79 #[.slice A909 p911.length c910, a28_, .string p917, vi p913] (by kernel_rfl) (fun _ => by kernel_rfl) (fun w' hh => run_Put_l F p911 (DKey.mk 0 p907 0) p917 p913 r1 hb1 w' A909 c910 (SlOk.mono hs912 hh.view)) ?_)
    intro u V3 hV3 hu
    obtain ⟨u1, u2, rfl, hu1, hu2⟩ := vT2_elim hu
    obtain ⟨A3, c3, rfl, hs3⟩ := vlist_elim hu1
    obtain rfl := sureInt _ _ _ hu2
    refine TA.onk (Hp.old hV3 hV900 (kp2 (dr1 kp0)) (oB1 (oB1 ol0))) fun o31_ => ?_
    refine TA.tp 12 (.slice A3 r1.1.length c3) rfl (fun _ => by kernel_rfl) (fun _ _ _ h => h) o31_ ?_
    refine TA.tp 13 (vi r1.2) rfl (fun _ => by kernel_rfl) (fun _ _ _ h => h) o31_ ?_
    refine TA.all [14] (by kernel_rfl) rfl ⟨?_, trivial⟩
    refine TA.br rfl (W1.within 55 [pB b908 0, .slice A3 r1.1.length c3, vi r1.2] (fun v w' => ∃ (A4 : Option Addr) (c4 : Nat) (V4 : View), View.le V3 V4 ∧ SlOk V4 eElem A4 c4 z6 ∧ v = .tuple #[] ∧ Hp w V4 (i25_ :: i21_ :: (box b908 86 [.slice A4 z6.length c4, vi p913, vi r1.2]) :: G900) w') Tryz.func55 rfl rfl (by kernel_rfl) (fun _ => by kernel_rfl) rfl ?_ ?_)
    ·
     refine T.seq (T.seq (T.region (T.p3 (pB b908 0) (pB b908 0) (pB b908 2) (fun _ => by kernel_rfl) (T.look (vi z3) (by kernel_rfl) (ld1 2 rfl rfl (fun _ => by kernel_rfl) (by rfl) rfl) ?_))))
     refine T.pk (.bool (z3 == 0)) (fun _ => by kernel_rfl) (T.nil ?_)
     refine T.cond (z3 == 0) (by kernel_rfl) (by kernel_rfl) (fun _ => ?_) (fun h => absurd (hc2.symm.trans h) (by decide))
     refine T.region (T.p4 (pB b908 0) (vi r1.2) (pB b908 0) (pB b908 2) (fun _ => by kernel_rfl) (T.step (W1.st 2 [.slice A909 p911.length c910, vi p913, vi r1.2] (i25_ :: i21_ :: (box b908 86 [.slice A909 p911.length c910, vi p913, vi r1.2]) :: G900) [vi r1.2] (by rfl) rfl rfl rfl rfl rfl rfl (fun _ => by kernel_rfl) ?_)))
     refine T.nil (T.seq (T.region (T.p3 (pB b908 0) (pB b908 0) (pB b908 2) (fun _ => by kernel_rfl) (T.look (vi r1.2) (by kernel_rfl) (ld1 2 rfl rfl (fun _ => by kernel_rfl) (by rfl) rfl) ?_))))
     refine T.pk (.bool (r1.2 == 0)) (fun _ => by kernel_rfl) (T.nil ?_)
     refine T.cond (r1.2 == 0) (by kernel_rfl) (by kernel_rfl) (fun hc3 => ?_) (fun hc3 => ?_)
     ·
      rw [hc3, cond_true] at hX3
      refine T.region (T.p4 (pB b908 0) (.slice A3 r1.1.length c3) (pB b908 0) (pB b908 0) (fun _ => by kernel_rfl) (T.step (W1.st 2 [.slice A3 r1.1.length c3, vi p913, vi r1.2] (i25_ :: i21_ :: (box b908 86 [.slice A3 r1.1.length c3, vi p913, vi r1.2]) :: G900) [.slice A3 r1.1.length c3] (by rfl) rfl rfl rfl rfl rfl rfl (fun _ => by kernel_rfl) ?_)))
      refine T.nil ?_
      cases hX3
      repeat first | refine T.unthen ?_ | refine T.unblock ?_
      exact T.end0 rfl fun w' hh => ⟨_, rfl, ⟨A3, c3, V3, vr, (SlOk.mono hs3 (vt (made_le _ _) vr)), rfl, (hh.sub (kp2 (kp1 kpr)))⟩⟩
     rw [hc3, cond_false] at hX3
     refine T.skip_code ?_
     cases hX3
     repeat first | refine T.unthen ?_ | refine T.unblock ?_
     exact T.end0 rfl fun w' hh => ⟨_, rfl, ⟨A909, c910, V3, vr, (SlOk.mono hs912 hV3), rfl, (hh.sub (kp2 (kp1 kpr)))⟩⟩
    rintro v w' ⟨A4, c4, V4, hV4, hs4, rfl, hh⟩
    refine ⟨V4, (i25_ :: i21_ :: (box b908 86 [.slice A4 z6.length c4, vi p913, vi r1.2]) :: G900), hh, ?_⟩
    clear hh
    refine TA.on (Hp.old (vt hV3 hV4) hV900 (kp2 (dr1 kp0)) (oB1 (oB1 ol0))) ?_
    refine TA.done (by kernel_rfl) ?_
    exact fun a w' hf hh => ⟨A4, c4, V4, (vt hV3 hV4), hs4, (Fr.nil hf), (hh.sub (dr1 (kp1 (kp1 kpr))))⟩
   rintro a w' ⟨A5, c5, V5, hV5, hs5, hf, hh⟩
   refine (?_ : T 26 w V5 (i21_ :: (box b908 86 [.slice A5 z6.length c5, vi p913, vi r1.2]) :: G900) [] _) a w' hf hh
   clear hf hh
   cases hX2
   repeat first | refine T.unthen ?_ | refine T.unblock ?_
   exact T.end0 rfl fun w' hh => ⟨_, rfl, ⟨z6, r1.2, rfl, A5, c5, V5, hV5, hs5, rfl, (hh.sub (kp1 (kp1 kpr)))⟩⟩
  rw [hc2, cond_false] at hX2
  refine T.skip_code ?_
  cases hX2
  repeat first | refine T.unthen ?_ | refine T.unblock ?_
  exact T.end0 rfl fun w' hh => ⟨_, rfl, ⟨p911, z3, rfl, A909, c910, V900, vr, hs912, rfl, (hh.sub (dr1 (kp1 (kp1 kpr))))⟩⟩
 rintro v w' ⟨z4, z5, rfl, A2, c2, V2, hV2, hs2, rfl, hh⟩
 try dsimp only at hF
 refine ⟨V2, (i21_ :: (box b908 86 [.slice A2 z4.length c2, vi p913, vi z5]) :: G900), hh, ?_⟩
 clear hh
 refine T.nil ?_
 obtain ⟨q2, hX4, hF⟩ := ob hF
 refine T.cut (fun a w' => ∃ (z7 : List DElem) (z8 : Int), q2 = (z7, z8) ∧ ∃ (A6 : Option Addr) (c6 : Nat) (V6 : View), View.le V2 V6 ∧ SlOk V6 eElem A6 c6 z7 ∧ Fr 62 [(0, pB b901 0)] a ∧ Hp w V6 (i21_ :: (box b908 86 [.slice A6 z7.length c6, vi p913, vi z8]) :: G900) w') ?_ ?_
 ·
  refine T.seq (T.region (T.p3 (pB b908 0) (pB b908 0) (pB b908 2) (fun _ => by kernel_rfl) (T.look (vi z5) (by kernel_rfl) (ld1 1 rfl rfl (fun _ => by kernel_rfl) (by rfl) rfl) ?_)))
  refine T.pk (.bool (z5 == 0)) (fun _ => by kernel_rfl) (T.nil ?_)
  refine T.cond (z5 == 0) (by kernel_rfl) (by kernel_rfl) (fun hc4 => ?_) (fun hc4 => ?_)
  ·
   rw [hc4, cond_true] at hX4
   obtain ⟨r2, hb2, hX4⟩ := ob hX4
   obtain ⟨z9, hX5, hX4⟩ := ob hX4
   refine T.mid (fun a w' => ∃ (A9 : Option Addr) (c9 : Nat) (V9 : View), View.le V2 V9 ∧ SlOk V9 eElem A9 c9 z9 ∧ Fr 62 [(0, pB b901 0)] a ∧ Hp w V9 (i21_ :: (box b908 86 [.slice A9 z9.length c9, vi p913, vi r2.2]) :: G900) w') ?_ ?_
   ·
    refine T.held (i21_ :: []) (by kernel_rfl) ?_
    refine TA.keep (Hp.old vr (vt hV900 hV2) (kp1 (dr1 kp0)) (oB1 ol0)) fun o32_ => ?_
    refine TA.tp 0 (pB b908 0) rfl (fun _ => by kernel_rfl) (fun _ _ _ h => h) o32_ ?_
    refine TA.tp 1 (pB b908 0) rfl (fun _ => by kernel_rfl) (fun _ _ _ h => h) o32_ ?_
    refine TA.tp 2 (pB b908 0) rfl (fun _ => by kernel_rfl) (fun _ _ _ h => h) o32_ ?_
    refine TA.tp 3 (pB b908 0) rfl (fun _ => by kernel_rfl) (fun _ _ _ h => h) o32_ ?_
    refine TA.tp 5 (vi p915) rfl (fun _ => by kernel_rfl) (fun _ _ _ h => h) o32_ ?_
    refine TA.tp 6 (.string p916) rfl (fun _ => by kernel_rfl) (fun _ _ _ h => h) o32_ ?_
    refine TA.tp 7 (pB b901 0) rfl (fun _ => by kernel_rfl) (fun _ _ _ h => h) o32_ ?_
    refine TA.tp 8 (pB b901 0) rfl (fun _ => by kernel_rfl) (fun _ _ _ h => h) o32_ ?_
    refine TA.tp 9 (pB b901 2) rfl (fun _ => by kernel_rfl) (fun _ _ _ h => h) o32_ ?_
    refine TA.tk 10 (vi p907) rfl (by kernel_rfl) (fun _ _ _ h => h) o32_ (ld1 0 rfl rfl (fun _ => by kernel_rfl) (by rfl) rfl) ?_
    refine TA.tp 11 (pB b908 0) rfl (fun _ => by kernel_rfl) (fun _ _ _ h => h) o32_ ?_
    refine TA.tp 12 (pB b908 0) rfl (fun _ => by kernel_rfl) (fun _ _ _ h => h) o32_ ?_
    refine TA.tp 13 (pB b908 1) rfl (fun _ => by kernel_rfl) (fun _ _ _ h => h) o32_ ?_
    refine TA.all [4, 14] (by kernel_rfl) rfl ⟨?_, ?_, trivial⟩
    ·
     refine TA.br rfl (W1.look (.slice A2 z4.length c2) (by kernel_rfl) (ld1 1 rfl rfl (fun _ => by kernel_rfl) (by rfl) rfl) ?_)
     refine TA.on (Hp.old vr (vt hV900 hV2) (kp1 (dr1 kp0)) (oB1 ol0)) ?_
     refine TA.all [14] (by kernel_rfl) rfl ⟨?_, trivial⟩
     refine TA.br rfl (W1.look (vi p913) (by kernel_rfl) (ld1 1 rfl rfl (fun _ => by kernel_rfl) (by rfl) rfl) ?_)
     refine TA.on (Hp.old vr (vt hV900 hV2) (kp1 (dr1 kp0)) (oB1 ol0)) ?_
     refine TA.all [15] (by kernel_rfl) rfl ⟨?_, trivial⟩
     refine TA.br rfl (W1.call (vT2 (vSc (eList eElem)) (vSc eInt)) r2 57 #[.slice A2 z4.length c2, vi 0, vi p915, .string p916, vi p907, vi p913] (by kernel_rfl) (fun _ => by kernel_rfl) (fun w' hh => dir_Add_l F z4 0 p915 p916 p907 p913 r2 hb2 w' (Glob.mono hGl (vt hh.base hh.view)) A2 c2 (SlOk.mono hs2 hh.view)) ?_)
     intro u V7 hV7 hu
     obtain ⟨u3, u4, rfl, hu3, hu4⟩ := vT2_elim hu
     obtain ⟨A7, c7, rfl, hs7⟩ := vlist_elim hu3
     obtain rfl := sureInt _ _ _ hu4
     refine TA.onk (Hp.old hV7 (vt hV900 hV2) (kp1 (dr1 kp0)) (oB1 ol0)) fun o33_ => ?_
     refine TA.tp 16 (.slice A7 r2.1.length c7) rfl (fun _ => by kernel_rfl) (fun _ _ _ h => h) o33_ ?_
     refine TA.tp 17 (vi r2.2) rfl (fun _ => by kernel_rfl) (fun _ _ _ h => h) o33_ ?_
     refine TA.all [18] (by kernel_rfl) rfl ⟨?_, trivial⟩
     refine TA.br rfl (W1.within 55 [pB b908 0, .slice A7 r2.1.length c7, vi r2.2] (fun v w' => ∃ (A8 : Option Addr) (c8 : Nat) (V8 : View), View.le V7 V8 ∧ SlOk V8 eElem A8 c8 z9 ∧ v = .tuple #[] ∧ Hp w V8 (i21_ :: (box b908 86 [.slice A8 z9.length c8, vi p913, vi r2.2]) :: G900) w') Tryz.func55 rfl rfl (by kernel_rfl) (fun _ => by kernel_rfl) rfl ?_ ?_)
     ·
      refine T.seq (T.seq (T.region (T.p3 (pB b908 0) (pB b908 0) (pB b908 2) (fun _ => by kernel_rfl) (T.look (vi z5) (by kernel_rfl) (ld1 1 rfl rfl (fun _ => by kernel_rfl) (by rfl) rfl) ?_))))
      refine T.pk (.bool (z5 == 0)) (fun _ => by kernel_rfl) (T.nil ?_)
      refine T.cond (z5 == 0) (by kernel_rfl) (by kernel_rfl) (fun _ => ?_) (fun h => absurd (hc4.symm.trans h) (by decide))
      refine T.region (T.p4 (pB b908 0) (vi r2.2) (pB b908 0) (pB b908 2) (fun _ => by kernel_rfl) (T.step (W1.st 1 [.slice A2 z4.length c2, vi p913, vi r2.2] (i21_ :: (box b908 86 [.slice A2 z4.length c2, vi p913, vi r2.2]) :: G900) [vi r2.2] (by rfl) rfl rfl rfl rfl rfl rfl (fun _ => by kernel_rfl) ?_)))
      refine T.nil (T.seq (T.region (T.p3 (pB b908 0) (pB b908 0) (pB b908 2) (fun _ => by kernel_rfl) (T.look (vi r2.2) (by kernel_rfl) (ld1 1 rfl rfl (fun _ => by kernel_rfl) (by rfl) rfl) ?_))))
      refine T.pk (.bool (r2.2 == 0)) (fun _ => by kernel_rfl) (T.nil ?_)
      refine T.cond (r2.2 == 0) (by kernel_rfl) (by kernel_rfl) (fun hc5 => ?_) (fun hc5 => ?_)
      ·
       rw [hc5, cond_true] at hX5
       refine T.region (T.p4 (pB b908 0) (.slice A7 r2.1.length c7) (pB b908 0) (pB b908 0) (fun _ => by kernel_rfl) (T.step (W1.st 1 [.slice A7 r2.1.length c7, vi p913, vi r2.2] (i21_ :: (box b908 86 [.slice A7 r2.1.length c7, vi p913, vi r2.2]) :: G900) [.slice A7 r2.1.length c7] (by rfl) rfl rfl rfl rfl rfl rfl (fun _ => by kernel_rfl) ?_)))
       refine T.nil ?_
       cases hX5
       repeat first | refine T.unthen ?_ | refine T.unblock ?_
       exact T.end0 rfl fun w' hh => ⟨_, rfl, ⟨A7, c7, V7, vr, (SlOk.mono hs7 (vt (made_le _ _) vr)), rfl, (hh.sub (kp1 (kp1 kpr)))⟩⟩
      rw [hc5, cond_false] at hX5
      refine T.skip_code ?_
      cases hX5
      repeat first | refine T.unthen ?_ | refine T.unblock ?_
      exact T.end0 rfl fun w' hh => ⟨_, rfl, ⟨A2, c2, V7, vr, (SlOk.mono hs2 hV7), rfl, (hh.sub (kp1 (kp1 kpr)))⟩⟩
     rintro v w' ⟨A8, c8, V8, hV8, hs8, rfl, hh⟩
     refine ⟨V8, (i21_ :: (box b908 86 [.slice A8 z9.length c8, vi p913, vi r2.2]) :: G900), hh, ?_⟩
     clear hh
     refine TA.on (Hp.old (vt hV7 hV8) (vt hV900 hV2) (kp1 (dr1 kp0)) (oB1 ol0)) ?_
     refine TA.done (by kernel_rfl) ?_
     exact fun a w' hf hh => ⟨A8, c8, V8, (vt hV7 hV8), hs8, (Fr.sel hf rfl), (hh.sub (kp1 (kp1 kpr)))⟩
    refine TA.br rfl (W1.look (vi p913) (by kernel_rfl) (ld1 1 rfl rfl (fun _ => by kernel_rfl) (by rfl) rfl) ?_)
    refine TA.on (Hp.old vr (vt hV900 hV2) (kp1 (dr1 kp0)) (oB1 ol0)) ?_
    refine TA.all [4] (by kernel_rfl) rfl ⟨?_, trivial⟩
    refine TA.br rfl (W1.look (.slice A2 z4.length c2) (by kernel_rfl) (ld1 1 rfl rfl (fun _ => by kernel_rfl) (by rfl) rfl) ?_)
    refine TA.on (Hp.old vr (vt hV900 hV2) (kp1 (dr1 kp0)) (oB1 ol0)) ?_
    refine TA.all [15] (by kernel_rfl) rfl ⟨?_, trivial⟩
    refine TA.br rfl (W1.call (vT2 (vSc (eList eElem)) (vSc eInt)) r2 57 #[.slice A2 z4.length c2, vi 0, vi p915, .string p916, vi p907, vi p913] (by kernel_rfl) (fun _ => by kernel_rfl) (fun w' hh => dir_Add_l F z4 0 p915 p916 p907 p913 r2 hb2 w' (Glob.mono hGl (vt hh.base hh.view)) A2 c2 (SlOk.mono hs2 hh.view)) ?_)
    intro u V7 hV7 hu
    obtain ⟨u3, u4, rfl, hu3, hu4⟩ := vT2_elim hu
    obtain ⟨A7, c7, rfl, hs7⟩ := vlist_elim hu3
    obtain rfl := sureInt _ _ _ hu4
    refine TA.onk (Hp.old hV7 (vt hV900 hV2) (kp1 (dr1 kp0)) (oB1 ol0)) fun o34_ => ?_
    refine TA.tp 16 (.slice A7 r2.1.length c7) rfl (fun _ => by kernel_rfl) (fun _ _ _ h => h) o34_ ?_
    refine TA.tp 17 (vi r2.2) rfl (fun _ => by kernel_rfl) (fun _ _ _ h => h) o34_ ?_
    refine TA.all [18] (by kernel_rfl) rfl ⟨?_, trivial⟩
    refine TA.br rfl (W1.within 55 [pB b908 0, .slice A7 r2.1.length c7, vi r2.2] (fun v w' => ∃ (A8 : Option Addr) (c8 : Nat) (V8 : View), View.le V7 V8 ∧ SlOk V8 eElem A8 c8 z9 ∧ v = .tuple #[] ∧ Hp w V8 (i21_ :: (box b908 86 [.slice A8 z9.length c8, vi p913, vi r2.2]) :: G900) w') Tryz.func55 rfl rfl (by kernel_rfl) (fun _ => by kernel_rfl) rfl ?_ ?_)
    ·
     refine T.seq (T.seq (T.region (T.p3 (pB b908 0) (pB b908 0) (pB b908 2) (fun _ => by kernel_rfl) (T.look (vi z5) (by kernel_rfl) (ld1 1 rfl rfl (fun _ => by kernel_rfl) (by rfl) rfl) ?_))))
     refine T.pk (.bool (z5 == 0)) (fun _ => by kernel_rfl) (T.nil ?_)
     refine T.cond (z5 == 0) (by kernel_rfl) (by kernel_rfl) (fun _ => ?_) (fun h => absurd (hc4.symm.trans h) (by decide))
     refine T.region (T.p4 (pB b908 0) (vi r2.2) (pB b908 0) (pB b908 2) (fun _ => by kernel_rfl) (T.step (W1.st 1 [.slice A2 z4.length c2, vi p913, vi r2.2] (i21_ :: (box b908 86 [.slice A2 z4.length c2, vi p913, vi r2.2]) :: G900) [vi r2.2] (by rfl) rfl rfl rfl rfl rfl rfl (fun _ => by kernel_rfl) ?_)))
     refine T.nil (T.seq (T.region (T.p3 (pB b908 0) (pB b908 0) (pB b908 2) (fun _ => by kernel_rfl) (T.look (vi r2.2) (by kernel_rfl) (ld1 1 rfl rfl (fun _ => by kernel_rfl) (by rfl) rfl) ?_))))
     refine T.pk (.bool (r2.2 == 0)) (fun _ => by kernel_rfl) (T.nil ?_)
     refine T.cond (r2.2 == 0) (by kernel_rfl) (by kernel_rfl) (fun hc5 => ?_) (fun hc5 => ?_)
     ·
      rw [hc5, cond_true] at hX5
      refine T.region (T.p4 (pB b908 0) (.slice A7 r2.1.length c7) (pB b908 0) (pB b908 0) (fun _ => by kernel_rfl) (T.step (W1.st 1 [.slice A7 r2.1.length c7, vi p913, vi r2.2] (i21_ :: (box b908 86 [.slice A7 r2.1.length c7, vi p913, vi r2.2]) :: G900) [.slice A7 r2.1.length c7] (by rfl) rfl rfl rfl rfl rfl rfl (fun _ => by kernel_rfl) ?_)))
      refine T.nil ?_
      cases hX5
      repeat first | refine T.unthen ?_ | refine T.unblock ?_
      exact T.end0 rfl fun w' hh => ⟨_, rfl, ⟨A7, c7, V7, vr, (SlOk.mono hs7 (vt (made_le _ _) vr)), rfl, (hh.sub (kp1 (kp1 kpr)))⟩⟩
     rw [hc5, cond_false] at hX5
     refine T.skip_code ?_
     cases hX5
     repeat first | refine T.unthen ?_ | refine T.unblock ?_
     exact T.end0 rfl fun w' hh => ⟨_, rfl, ⟨A2, c2, V7, vr, (SlOk.mono hs2 hV7), rfl, (hh.sub (kp1 (kp1 kpr)))⟩⟩
    rintro v w' ⟨A8, c8, V8, hV8, hs8, rfl, hh⟩
    refine ⟨V8, (i21_ :: (box b908 86 [.slice A8 z9.length c8, vi p913, vi r2.2]) :: G900), hh, ?_⟩
    clear hh
    refine TA.on (Hp.old (vt hV7 hV8) (vt hV900 hV2) (kp1 (dr1 kp0)) (oB1 ol0)) ?_
    refine TA.done (by kernel_rfl) ?_
    exact fun a w' hf hh => ⟨A8, c8, V8, (vt hV7 hV8), hs8, (Fr.sel hf rfl), (hh.sub (kp1 (kp1 kpr)))⟩
   rintro a w' ⟨A9, c9, V9, hV9, hs9, hf, hh⟩
   refine (?_ : T 62 w V9 (i21_ :: (box b908 86 [.slice A9 z9.length c9, vi p913, vi r2.2]) :: G900) [(0, pB b901 0)] _) a w' hf hh
   clear hf hh
   cases hX4
   exact fun a w' hf hh => ⟨z9, r2.2, rfl, A9, c9, V9, hV9, hs9, (Fr.sel hf rfl), (hh.sub (kp1 (kp1 kpr)))⟩
  rw [hc4, cond_false] at hX4
  refine T.skip_code ?_
  cases hX4
  exact fun a w' hf hh => ⟨z4, z5, rfl, A2, c2, V2, vr, hs2, (Fr.sel hf rfl), (hh.sub (kp1 (kp1 kpr)))⟩
 rintro a w' ⟨z7, z8, rfl, A6, c6, V6, hV6, hs6, hf, hh⟩
 try dsimp only at hF
 refine (?_ : T 62 w V6 (i21_ :: (box b908 86 [.slice A6 z7.length c6, vi p913, vi z8]) :: G900) [(0, pB b901 0)] _) a w' hf hh
 clear hf hh
 refine T.seq (T.region (T.p3 (pB b901 0) (pB b901 0) (pB b901 2) (fun _ => by kernel_rfl) (T.look (vi p907) (by kernel_rfl) (ld1 0 rfl rfl (fun _ => by kernel_rfl) (by rfl) rfl) ?_)))
 refine T.pk (vi p907) (fun _ => by kernel_rfl) (T.nil ?_)
 have hres := Option.some.inj hF
 subst hres
 refine T.ret rfl ?_
 repeat first | refine T.unthen ?_ | refine T.unblock ?_
 exact T.ret1 rfl (ResIs.tmp rfl) fun w' hh => ⟨_, rfl, ⟨A6, c6, V6, (vt hV2 hV6), hs6, rfl, (hh.sub (kp1 (kp1 kpr)))⟩⟩
set_option maxRecDepth 100000 in
set_option maxHeartbeats 4000000 in
theorem fs_FS_Write_fr_l (F : Nat) (p904 : List DElem) (p906 : Int) (p907 : Int) (p908 : ByteArray) (p909 : ByteArray) (r : (List DElem) × Int × Int × Int) (hF : fs_FS_Write_fr F p904 p906 p907 p908 p909 = some r) (w : World) (hGl : Glob w) (b901 : Nat) (A902 : Option Addr) (c903 : Nat) (V900 : View) (G900 : List HObj) (w1 : World) (hs905 : SlOk V900 eElem A902 c903 p904) (hh : Hp w V900 ((box b901 78 [.slice A902 p904.length c903, .int .i64 p906, .int .i64 p907]) :: G900) w1) :
 Calls Tryz.prog 23 #[.pointer (some ⟨b901, 0, none⟩), .string p908, .string p909] w1 (fun e w2 => ∃ v, e = .returned v ∧ ∃ (A1 : Option Addr) (c1 : Nat) (V1 : View), View.le V900 V1 ∧ SlOk V1 eElem A1 c1 r.1 ∧ v = .int .i64 r.2.2.2 ∧ Hp w V1 ((box b901 78 [.slice A1 r.1.length c1, .int .i64 r.2.1, .int .i64 r.2.2.1]) :: G900) w2) := by
 unfold fs_FS_Write_fr at hF
 have hV900 := hh.base
 refine T.startI (l := [pB b901 0, .string p908, .string p909]) Tryz.func23 rfl rfl rfl ?_ hh
 clear hh
 refine T.seq (T.region (T.pk (vi 0) (fun _ => by kernel_rfl) (T.nil (T.seq (T.region (T.p2 (pB b901 0) (.string p908) (fun _ => by kernel_rfl) ?_))))))
 obtain ⟨r1, hb1, hF⟩ := ob hF
 let i78_ : HObj := box b901 78 [.slice A902 p904.length c903, vi p906, vi p907]
 let a90_ : Value := .tuple #[vi r1.1, .string r1.2.1, vi r1.2.2.1, vi r1.2.2.2]
 refine T.step (W1.callI 51 [pB b901 0, .string p908] (fun v w' => ∃ (V2 : View), View.le V900 V2 ∧ v = a90_ ∧ Hp w V2 (i78_ :: G900) w') (by kernel_rfl) (fun _ => by kernel_rfl) (fun w' hh => fs_FS_parent_fr_l F p904 p906 p907 p908 r1 hb1 w hGl b901 A902 c903 V900 G900 w' hs905 (hh.sub (kp1 kpr))) ?_)
 rintro v w' ⟨V2, hV2, rfl, hh⟩
 refine ⟨_, _, hh, ?_⟩
 clear hh
 refine T.p8 a90_ (vi r1.1) (.string r1.2.1) (vi r1.2.2.1) (vi r1.2.2.2) (vi r1.1) (.string r1.2.1) (vi r1.2.2.1) (fun _ => by kernel_rfl) (T.pk (vi r1.2.2.2) (fun _ => by kernel_rfl) (T.nil (T.seq (T.seq (T.region (T.p2 (vi r1.2.2.2) (.bool (r1.2.2.2 != 0)) (fun _ => by kernel_rfl) (T.nil ?_)))))))
 refine T.cond (r1.2.2.2 != 0) (by kernel_rfl) (by kernel_rfl) (fun hc1 => ?_) (fun hc1 => ?_)
 ·
  rw [hc1, cond_true] at hF
  refine T.seq (T.region (T.p2 (vi r1.2.2.2) (vi r1.2.2.2) (fun _ => by kernel_rfl) (T.nil ?_)))
  have hres := Option.some.inj hF
  subst hres
  refine T.ret rfl ?_
  repeat first | refine T.unthen ?_ | refine T.unblock ?_
  exact T.ret1 rfl (ResIs.tmp rfl) fun w' hh => ⟨_, rfl, ⟨A902, c903, V2, hV2, (SlOk.mono hs905 hV2), rfl, (hh.sub (kp1 kpr))⟩⟩
 rw [hc1, cond_false] at hF
 refine T.skip_code ?_
 refine T.seq ?_
 obtain ⟨z5, hX1, hF⟩ := ob hF
 refine T.cut (fun a w' => ∃ (V3 : View), View.le V2 V3 ∧ Fr 81 [(0, pB b901 0), (2, .string p909), (7, vi r1.1), (8, .string r1.2.1), (9, vi r1.2.2.1), (36, .bool z5)] a ∧ Hp w V3 (i78_ :: G900) w') ?_ ?_
 ·
  refine T.region (T.p3 (vi r1.2.2.1) (.bool (r1.2.2.1 != 0)) (.bool (r1.2.2.1 != 0)) (fun _ => by kernel_rfl) ?_)
  cases hg1 : (r1.2.2.1 != 0)
  ·
   skip
   rw [hg1, cond_false] at hX1
   refine T.pass (by kernel_rfl) (by kernel_rfl) (T.pass (by kernel_rfl) (by kernel_rfl) (T.pass (by kernel_rfl) (by kernel_rfl) (T.pass (by kernel_rfl) (by kernel_rfl) (T.pass (by kernel_rfl) (by kernel_rfl) (T.pass (by kernel_rfl) (by kernel_rfl) (T.pass (by kernel_rfl) (by kernel_rfl) (T.pass (by kernel_rfl) (by kernel_rfl) (T.pk (.bool false) (fun _ => by kernel_rfl) (T.nil ?_)))))))))
   cases hX1
   exact fun a w' hf hh => ⟨V2, vr, (Fr.sel hf rfl), (hh.sub (kp1 kpr))⟩
  skip
  rw [hg1, cond_true] at hX1
  refine T.p5 (pB b901 0) (vi r1.2.2.1) (pB b901 0) (pB b901 0) (pB b901 1) (fun _ => by kernel_rfl) (T.look (vi p906) (by kernel_rfl) (ld1 0 rfl rfl (fun _ => by kernel_rfl) (by rfl) rfl) ?_)
  obtain ⟨r2, hb2, hX1⟩ := ob hX1
  refine T.step (W1.callI 59 [pB b901 0, vi r1.2.2.1, vi p906] (fun v w' => ∃ (V4 : View), View.le V2 V4 ∧ v = .string r2 ∧ Hp w V4 (i78_ :: G900) w') (by kernel_rfl) (fun _ => by kernel_rfl) (fun w' hh => fs_FS_kind_fr_l F p904 p906 p907 r1.2.2.1 p906 r2 hb2 w hGl b901 A902 c903 V2 G900 w' (SlOk.mono hs905 hV2) (hh.sub (kp1 kpr))) ?_)
  rintro v w' ⟨V4, hV4, rfl, hh⟩
  refine ⟨_, _, hh, ?_⟩
  clear hh
  refine T.p2 (.bool (!(seq r2 (ByteArray.mk #[102])))) (.bool (!(seq r2 (ByteArray.mk #[102])))) (fun _ => by kernel_rfl) (T.nil ?_)
  cases hX1
  exact fun a w' hf hh => ⟨V4, hV4, (Fr.sel hf rfl), (hh.sub (kp1 kpr))⟩
 rintro a w' ⟨V3, hV3, hf, hh⟩
 refine (?_ : T 81 w V3 (i78_ :: G900) [(0, pB b901 0), (2, .string p909), (7, vi r1.1), (8, .string r1.2.1), (9, vi r1.2.2.1), (36, .bool z5)] _) a w' hf hh
 clear hf hh
 refine T.cond z5 (by kernel_rfl) (by kernel_rfl) (fun hc2 => ?_) (fun hc2 => ?_)
 ·
  rw [hc2, cond_true] at hF
  refine T.seq (T.region (T.pk (vi 12) (fun _ => by kernel_rfl) (T.nil ?_)))
  have hres := Option.some.inj hF
  subst hres
  refine T.ret rfl ?_
  repeat first | refine T.unthen ?_ | refine T.unblock ?_
  exact T.ret1 rfl (ResIs.tmp rfl) fun w' hh => ⟨_, rfl, ⟨A902, c903, V3, (vt hV2 hV3), (SlOk.mono hs905 (vt hV2 hV3)), rfl, (hh.sub (kp1 kpr))⟩⟩
 rw [hc2, cond_false] at hF
 refine T.skip_code ?_
 refine T.seq (T.region (T.pk (pB b901 0) (fun _ => by kernel_rfl) ?_))
 obtain ⟨z6, hX2, hF⟩ := ob hF
 let v82_ : List Value := [.slice A902 p904.length c903, vi (IntKind.i64.wrap (p906 + 1)), vi z6]
 refine T.step (W1.within 52 [pB b901 0] (fun v w' => ∃ (b1 : Nat), v = pB b1 0 ∧ Hp w V3 ((box b1 86 v82_) :: i78_ :: G900) w') Tryz.func52 rfl rfl (by kernel_rfl) (fun _ => by kernel_rfl) rfl ?_ ?_)
 ·
  refine T.seq (T.region (T.pk (.pointer none) (fun _ => by kernel_rfl) (T.nil (T.seq ?_))))
  refine T.held (i78_ :: []) (by kernel_rfl) ?_
  have w91_ := vt (vt hV900 hV2) hV3
  refine TA.keep (Hp.old vr w91_ (kp1 kp0) (oB1 ol0)) fun o94_ => ?_
  refine TA.tp 0 (pB b901 0) rfl (fun _ => by kernel_rfl) (fun _ _ _ h => h) o94_ ?_
  refine TA.tp 1 (pB b901 0) rfl (fun _ => by kernel_rfl) (fun _ _ _ h => h) o94_ ?_
  refine TA.tp 2 (pB b901 0) rfl (fun _ => by kernel_rfl) (fun _ _ _ h => h) o94_ ?_
  refine TA.tk 3 (.slice A902 p904.length c903) rfl (by kernel_rfl) (fun _ _ _ h => h) o94_ (ld1 0 rfl rfl (fun _ => by kernel_rfl) (by rfl) rfl) ?_
  refine TA.tp 4 (pB b901 0) rfl (fun _ => by kernel_rfl) (fun _ _ _ h => h) o94_ ?_
  refine TA.tp 5 (pB b901 0) rfl (fun _ => by kernel_rfl) (fun _ _ _ h => h) o94_ ?_
  refine TA.tp 6 (pB b901 1) rfl (fun _ => by kernel_rfl) (fun _ _ _ h => h) o94_ ?_
  refine TA.tk 7 (vi p906) rfl (by kernel_rfl) (fun _ _ _ h => h) o94_ (ld1 0 rfl rfl (fun _ => by kernel_rfl) (by rfl) rfl) ?_
  refine TA.tp 8 (vi (IntKind.i64.wrap (p906 + 1))) rfl (fun _ => by kernel_rfl) (fun _ _ _ h => h) o94_ ?_
  refine TA.tp 9 (.agg #[.slice A902 p904.length c903, vi (IntKind.i64.wrap (p906 + 1)), vi 0]) rfl (fun _ => by kernel_rfl) (fun _ _ _ h => h) o94_ ?_
  refine TA.all [10] (by kernel_rfl) rfl ⟨?_, trivial⟩
  refine TA.br rfl (W1.np 86 [.slice A902 p904.length c903, vi (IntKind.i64.wrap (p906 + 1)), vi 0] (fun _ => by kernel_rfl) (fun b1 => ?_))
  refine TA.onk (Hp.old vr w91_ (dr1 (kp1 kp0)) (oB1 ol0)) fun o95_ => ?_
  refine TA.tp 11 (pB b1 0) rfl (fun _ => by kernel_rfl) (fun _ _ _ h => h) o95_ ?_
  refine TA.done (by kernel_rfl) ?_
  obtain ⟨z7, hX3, hX2⟩ := ob hX2
  let i79_ : HObj := box b1 86 [.slice A902 p904.length c903, vi (IntKind.i64.wrap (p906 + 1)), vi z7]
  refine T.cut (fun a w' => Fr 24 [(3, pB b1 0)] a ∧ Hp w V3 (i79_ :: i78_ :: G900) w') ?_ ?_
  ·
   refine T.seq (T.region (T.p3 (pB b901 0) (pB b901 0) (pB b901 1) (fun _ => by kernel_rfl) (T.look (vi p906) (by kernel_rfl) (ld1 1 rfl rfl (fun _ => by kernel_rfl) (by rfl) rfl) ?_)))
   refine T.pk (.bool (p906 == 2147483647)) (fun _ => by kernel_rfl) (T.nil ?_)
   refine T.cond (p906 == 2147483647) (by kernel_rfl) (by kernel_rfl) (fun hc3 => ?_) (fun hc3 => ?_)
   ·
    rw [hc3, cond_true] at hX3
    refine T.region (T.p3 (pB b1 0) (pB b1 0) (pB b1 2) (fun _ => by kernel_rfl) ?_)
    let v83_ : List Value := [.slice A902 p904.length c903, vi (IntKind.i64.wrap (p906 + 1)), vi 8]
    refine T.step (W1.st 0 v83_ ((box b1 86 v83_) :: i78_ :: G900) [vi 8] (by rfl) rfl rfl rfl rfl rfl rfl (fun _ => by kernel_rfl) ?_)
    refine T.nil ?_
    cases hX3
    exact fun a w' hf hh => ⟨(Fr.sel hf rfl), (hh.sub (kp1 (kp1 kpr)))⟩
   rw [hc3, cond_false] at hX3
   refine T.skip_code ?_
   cases hX3
   exact fun a w' hf hh => ⟨(Fr.sel hf rfl), (hh.sub (kp1 (kp1 kpr)))⟩
  rintro a w' ⟨hf, hh⟩
  refine (?_ : T 24 w V3 (i79_ :: i78_ :: G900) [(3, pB b1 0)] _) a w' hf hh
  clear hf hh
  refine T.seq (T.region (T.p2 (pB b1 0) (pB b1 0) (fun _ => by kernel_rfl) (T.nil ?_)))
  cases hX2
  refine T.ret rfl ?_
  exact T.ret1 rfl (ResIs.tmp rfl) fun w' hh => ⟨_, rfl, ⟨b1, rfl, (hh.sub (kp1 (kp1 kpr)))⟩⟩
 rintro v w' ⟨b1, rfl, hh⟩
 refine ⟨V3, ((box b1 86 v82_) :: i78_ :: G900), hh, ?_⟩
 clear hh
 refine T.pk (pB b1 0) (fun _ => by kernel_rfl) (T.nil (T.seq (T.region (T.p3 (vi r1.2.2.1) (.bool (r1.2.2.1 == 0)) (.bool (r1.2.2.1 == 0)) (fun _ => by kernel_rfl) (T.nil ?_)))))
 obtain ⟨q1, hX4, hF⟩ := ob hF
 refine T.cut (fun a w' => ∃ (z8 : List DElem) (z9 : Int) (z10 : Int), q1 = (z8, z9, z10) ∧ ∃ (A2 : Option Addr) (c2 : Nat) (V5 : View), View.le V3 V5 ∧ SlOk V5 eElem A2 c2 z8 ∧ Fr 81 [(0, pB b901 0), (2, .string p909), (9, vi z10), (11, pB b1 0), (12, .bool (r1.2.2.1 == 0))] a ∧ Hp w V5 ((box b1 86 [.slice A2 z8.length c2, vi (IntKind.i64.wrap (p906 + 1)), vi z9]) :: i78_ :: G900) w') ?_ ?_
 ·
  refine T.seq (T.region (T.pk (.bool (r1.2.2.1 == 0)) (fun _ => by kernel_rfl) (T.nil ?_)))
  refine T.cond (r1.2.2.1 == 0) (by kernel_rfl) (by kernel_rfl) (fun hc4 => ?_) (fun hc4 => ?_)
  ·
   rw [hc4, cond_true] at hX4
   refine T.region (T.p4 (pB b901 0) (pB b1 0) (vi r1.1) (.string r1.2.1) (fun _ => by kernel_rfl) ?_)
   obtain ⟨r3, hb3, hX4⟩ := ob hX4
   refine T.step (W1.callI 53 [pB b901 0, pB b1 0, vi r1.1, .string r1.2.1, .string (ByteArray.mk #[102])] (fun v w' => ∃ (A3 : Option Addr) (c3 : Nat) (V6 : View), View.le V3 V6 ∧ SlOk V6 eElem A3 c3 r3.1 ∧ v = vi p907 ∧ Hp w V6 (i78_ :: (box b1 86 [.slice A3 r3.1.length c3, vi (IntKind.i64.wrap (p906 + 1)), vi r3.2]) :: G900) w') (by kernel_rfl) (fun _ => by kernel_rfl) (fun w' hh => fs_FS_create_fr_l F p904 p906 p907 p904 (IntKind.i64.wrap (p906 + 1)) z6 r1.1 r1.2.1 (ByteArray.mk #[102]) r3 hb3 w hGl b901 b1 A902 c903 A902 c903 V3 G900 w' (SlOk.mono hs905 (vt hV2 hV3)) (SlOk.mono hs905 (vt hV2 hV3)) (hh.ix 2 [1, 0])) ?_)
   rintro v w' ⟨A3, c3, V6, hV6, hs3, rfl, hh⟩
   refine ⟨V6, ((box b1 86 [.slice A3 r3.1.length c3, vi (IntKind.i64.wrap (p906 + 1)), vi r3.2]) :: i78_ :: G900), hh.ix 2 [1, 0], ?_⟩
   clear hh
   refine T.pk (vi p907) (fun _ => by kernel_rfl) (T.nil ?_)
   cases hX4
   exact fun a w' hf hh => ⟨r3.1, r3.2, p907, rfl, A3, c3, V6, hV6, hs3, (Fr.sel hf rfl), (hh.sub (kp1 (kp1 kpr)))⟩
  rw [hc4, cond_false] at hX4
  refine T.skip_code ?_
  cases hX4
  exact fun a w' hf hh => ⟨p904, z6, r1.2.2.1, rfl, A902, c903, V3, vr, (SlOk.mono hs905 (vt hV2 hV3)), (Fr.sel hf rfl), (hh.sub (kp1 (kp1 kpr)))⟩
 rintro a w' ⟨z8, z9, z10, rfl, A2, c2, V5, hV5, hs2, hf, hh⟩
 try dsimp only at hF
 refine (?_ : T 81 w V5 ((box b1 86 [.slice A2 z8.length c2, vi (IntKind.i64.wrap (p906 + 1)), vi z9]) :: i78_ :: G900) [(0, pB b901 0), (2, .string p909), (9, vi z10), (11, pB b1 0), (12, .bool (r1.2.2.1 == 0))] _) a w' hf hh
 clear hf hh
 obtain ⟨q2, hX5, hF⟩ := ob hF
 refine T.cut (fun a w' => ∃ (z11 : List DElem) (z12 : Int), q2 = (z11, z12) ∧ ∃ (A4 : Option Addr) (c4 : Nat) (V7 : View), View.le V5 V7 ∧ SlOk V7 eElem A4 c4 z11 ∧ Fr 81 [(0, pB b901 0), (11, pB b1 0), (12, .bool (r1.2.2.1 == 0))] a ∧ Hp w V7 ((box b1 86 [.slice A4 z11.length c4, vi (IntKind.i64.wrap (p906 + 1)), vi z12]) :: i78_ :: G900) w') ?_ ?_
 ·
  refine T.seq (T.region (T.p3 (pB b1 0) (pB b1 0) (pB b1 2) (fun _ => by kernel_rfl) (T.look (vi z9) (by kernel_rfl) (ld1 0 rfl rfl (fun _ => by kernel_rfl) (by rfl) rfl) ?_)))
  refine T.pk (.bool (z9 == 0)) (fun _ => by kernel_rfl) (T.nil ?_)
  refine T.cond (z9 == 0) (by kernel_rfl) (by kernel_rfl) (fun hc5 => ?_) (fun hc5 => ?_)
  ·
   rw [hc5, cond_true] at hX5
   obtain ⟨r4, hb4, hX5⟩ := ob hX5
   obtain ⟨z13, hX6, hX5⟩ := ob hX5
   refine T.mid (fun a w' => ∃ (A7 : Option Addr) (c7 : Nat) (V10 : View), View.le V5 V10 ∧ SlOk V10 eElem A7 c7 z13 ∧ Fr 81 [(0, pB b901 0), (11, pB b1 0), (12, .bool (r1.2.2.1 == 0))] a ∧ Hp w V10 ((box b1 86 [.slice A7 z13.length c7, vi (IntKind.i64.wrap (p906 + 1)), vi r4.2]) :: i78_ :: G900) w') ?_ ?_
   ·
    refine T.held (i78_ :: []) (by kernel_rfl) ?_
    have w92_ := vt (vt (vt hV900 hV2) hV3) hV5
    refine TA.keep (Hp.old vr w92_ (dr1 (kp1 kp0)) (oB1 ol0)) fun o96_ => ?_
    refine TA.tp 0 (pB b1 0) rfl (fun _ => by kernel_rfl) (fun _ _ _ h => h) o96_ ?_
    refine TA.tp 1 (pB b1 0) rfl (fun _ => by kernel_rfl) (fun _ _ _ h => h) o96_ ?_
    refine TA.tp 2 (pB b1 0) rfl (fun _ => by kernel_rfl) (fun _ _ _ h => h) o96_ ?_
    refine TA.tp 3 (pB b1 0) rfl (fun _ => by kernel_rfl) (fun _ _ _ h => h) o96_ ?_
    refine TA.tp 5 (vi z10) rfl (fun _ => by kernel_rfl) (fun _ _ _ h => h) o96_ ?_
    refine TA.tp 6 (.string p909) rfl (fun _ => by kernel_rfl) (fun _ _ _ h => h) o96_ ?_
    refine TA.tp 7 (pB b1 0) rfl (fun _ => by kernel_rfl) (fun _ _ _ h => h) o96_ ?_
    refine TA.tp 8 (pB b1 0) rfl (fun _ => by kernel_rfl) (fun _ _ _ h => h) o96_ ?_
    refine TA.tp 9 (pB b1 1) rfl (fun _ => by kernel_rfl) (fun _ _ _ h => h) o96_ ?_
    refine TA.all [4, 10] (by kernel_rfl) rfl ⟨?_, ?_, trivial⟩
    ·
     refine TA.br rfl (W1.look (.slice A2 z8.length c2) (by kernel_rfl) (ld1 0 rfl rfl (fun _ => by kernel_rfl) (by rfl) rfl) ?_)
     refine TA.on (Hp.old vr w92_ (dr1 (kp1 kp0)) (oB1 ol0)) ?_
     refine TA.all [10] (by kernel_rfl) rfl ⟨?_, trivial⟩
     refine TA.br rfl (W1.look (vi (IntKind.i64.wrap (p906 + 1))) (by kernel_rfl) (ld1 0 rfl rfl (fun _ => by kernel_rfl) (by rfl) rfl) ?_)
     refine TA.on (Hp.old vr w92_ (dr1 (kp1 kp0)) (oB1 ol0)) ?_
     refine TA.all [11] (by kernel_rfl) rfl ⟨?_, trivial⟩
     refine TA.br rfl (W1.call (vT2 (vSc (eList eElem)) (vSc eInt)) r4 60 #[.slice A2 z8.length c2, vi 0, vi z10, .string p909, vi (IntKind.i64.wrap (p906 + 1))] (by kernel_rfl) (fun _ => by kernel_rfl) (fun w' hh => file_Set_l F z8 0 z10 p909 (IntKind.i64.wrap (p906 + 1)) r4 hb4 w' A2 c2 (SlOk.mono hs2 hh.view)) ?_)
     intro u V8 hV8 hu
     obtain ⟨u1, u2, rfl, hu1, hu2⟩ := vT2_elim hu
     obtain ⟨A5, c5, rfl, hs5⟩ := vlist_elim hu1
     obtain rfl := sureInt _ _ _ hu2
     refine TA.onk (Hp.old hV8 w92_ (dr1 (kp1 kp0)) (oB1 ol0)) fun o97_ => ?_
     refine TA.tp 12 (.slice A5 r4.1.length c5) rfl (fun _ => by kernel_rfl) (fun _ _ _ h => h) o97_ ?_
     refine TA.tp 13 (vi r4.2) rfl (fun _ => by kernel_rfl) (fun _ _ _ h => h) o97_ ?_
     refine TA.all [14] (by kernel_rfl) rfl ⟨?_, trivial⟩
     refine TA.br rfl (W1.within 55 [pB b1 0, .slice A5 r4.1.length c5, vi r4.2] (fun v w' => ∃ (A6 : Option Addr) (c6 : Nat) (V9 : View), View.le V8 V9 ∧ SlOk V9 eElem A6 c6 z13 ∧ v = .tuple #[] ∧ Hp w V9 ((box b1 86 [.slice A6 z13.length c6, vi (IntKind.i64.wrap (p906 + 1)), vi r4.2]) :: i78_ :: G900) w') Tryz.func55 rfl rfl (by kernel_rfl) (fun _ => by kernel_rfl) rfl ?_ ?_)
     ·
      refine T.seq (T.seq (T.region (T.p3 (pB b1 0) (pB b1 0) (pB b1 2) (fun _ => by kernel_rfl) (T.look (vi z9) (by kernel_rfl) (ld1 0 rfl rfl (fun _ => by kernel_rfl) (by rfl) rfl) ?_))))
      refine T.pk (.bool (z9 == 0)) (fun _ => by kernel_rfl) (T.nil ?_)
      refine T.cond (z9 == 0) (by kernel_rfl) (by kernel_rfl) (fun _ => ?_) (fun h => absurd (hc5.symm.trans h) (by decide))
      refine T.region (T.p4 (pB b1 0) (vi r4.2) (pB b1 0) (pB b1 2) (fun _ => by kernel_rfl) ?_)
      let v84_ : List Value := [.slice A2 z8.length c2, vi (IntKind.i64.wrap (p906 + 1)), vi r4.2]
      refine T.step (W1.st 0 v84_ ((box b1 86 v84_) :: i78_ :: G900) [vi r4.2] (by rfl) rfl rfl rfl rfl rfl rfl (fun _ => by kernel_rfl) ?_)
      refine T.nil (T.seq (T.region (T.p3 (pB b1 0) (pB b1 0) (pB b1 2) (fun _ => by kernel_rfl) (T.look (vi r4.2) (by kernel_rfl) (ld1 0 rfl rfl (fun _ => by kernel_rfl) (by rfl) rfl) ?_))))
      refine T.pk (.bool (r4.2 == 0)) (fun _ => by kernel_rfl) (T.nil ?_)
      refine T.cond (r4.2 == 0) (by kernel_rfl) (by kernel_rfl) (fun hc6 => ?_) (fun hc6 => ?_)
      ·
       rw [hc6, cond_true] at hX6
       refine T.region (T.p4 (pB b1 0) (.slice A5 r4.1.length c5) (pB b1 0) (pB b1 0) (fun _ => by kernel_rfl) ?_)
       let v85_ : List Value := [.slice A5 r4.1.length c5, vi (IntKind.i64.wrap (p906 + 1)), vi r4.2]
       refine T.step (W1.st 0 v85_ ((box b1 86 v85_) :: i78_ :: G900) [.slice A5 r4.1.length c5] (by rfl) rfl rfl rfl rfl rfl rfl (fun _ => by kernel_rfl) ?_)
       refine T.nil ?_
       cases hX6
       repeat first | refine T.unthen ?_ | refine T.unblock ?_
       exact T.end0 rfl fun w' hh => ⟨_, rfl, ⟨A5, c5, V8, vr, (SlOk.mono hs5 (vt (made_le _ _) vr)), rfl, (hh.sub (kp1 (kp1 kpr)))⟩⟩
      rw [hc6, cond_false] at hX6
      refine T.skip_code ?_
      cases hX6
      repeat first | refine T.unthen ?_ | refine T.unblock ?_
      exact T.end0 rfl fun w' hh => ⟨_, rfl, ⟨A2, c2, V8, vr, (SlOk.mono hs2 hV8), rfl, (hh.sub (kp1 (kp1 kpr)))⟩⟩
     rintro v w' ⟨A6, c6, V9, hV9, hs6, rfl, hh⟩
     refine ⟨V9, ((box b1 86 [.slice A6 z13.length c6, vi (IntKind.i64.wrap (p906 + 1)), vi r4.2]) :: i78_ :: G900), hh, ?_⟩
     clear hh
     refine TA.on (Hp.old (vt hV8 hV9) w92_ (dr1 (kp1 kp0)) (oB1 ol0)) ?_
     refine TA.done (by kernel_rfl) ?_
     exact fun a w' hf hh => ⟨A6, c6, V9, (vt hV8 hV9), hs6, (Fr.sel hf rfl), (hh.sub (kp1 (kp1 kpr)))⟩
    refine TA.br rfl (W1.look (vi (IntKind.i64.wrap (p906 + 1))) (by kernel_rfl) (ld1 0 rfl rfl (fun _ => by kernel_rfl) (by rfl) rfl) ?_)
    refine TA.on (Hp.old vr w92_ (dr1 (kp1 kp0)) (oB1 ol0)) ?_
    refine TA.all [4] (by kernel_rfl) rfl ⟨?_, trivial⟩
    refine TA.br rfl (W1.look (.slice A2 z8.length c2) (by kernel_rfl) (ld1 0 rfl rfl (fun _ => by kernel_rfl) (by rfl) rfl) ?_)
    refine TA.on (Hp.old vr w92_ (dr1 (kp1 kp0)) (oB1 ol0)) ?_
    refine TA.all [11] (by kernel_rfl) rfl ⟨?_, trivial⟩
    refine TA.br rfl (W1.call (vT2 (vSc (eList eElem)) (vSc eInt)) r4 60 #[.slice A2 z8.length c2, vi 0, vi z10, .string p909, vi (IntKind.i64.wrap (p906 + 1))] (by kernel_rfl) (fun _ => by kernel_rfl) (fun w' hh => file_Set_l F z8 0 z10 p909 (IntKind.i64.wrap (p906 + 1)) r4 hb4 w' A2 c2 (SlOk.mono hs2 hh.view)) ?_)
    intro u V8 hV8 hu
    obtain ⟨u1, u2, rfl, hu1, hu2⟩ := vT2_elim hu
    obtain ⟨A5, c5, rfl, hs5⟩ := vlist_elim hu1
    obtain rfl := sureInt _ _ _ hu2
    refine TA.onk (Hp.old hV8 w92_ (dr1 (kp1 kp0)) (oB1 ol0)) fun o98_ => ?_
    refine TA.tp 12 (.slice A5 r4.1.length c5) rfl (fun _ => by kernel_rfl) (fun _ _ _ h => h) o98_ ?_
    refine TA.tp 13 (vi r4.2) rfl (fun _ => by kernel_rfl) (fun _ _ _ h => h) o98_ ?_
    refine TA.all [14] (by kernel_rfl) rfl ⟨?_, trivial⟩
    refine TA.br rfl (W1.within 55 [pB b1 0, .slice A5 r4.1.length c5, vi r4.2] (fun v w' => ∃ (A6 : Option Addr) (c6 : Nat) (V9 : View), View.le V8 V9 ∧ SlOk V9 eElem A6 c6 z13 ∧ v = .tuple #[] ∧ Hp w V9 ((box b1 86 [.slice A6 z13.length c6, vi (IntKind.i64.wrap (p906 + 1)), vi r4.2]) :: i78_ :: G900) w') Tryz.func55 rfl rfl (by kernel_rfl) (fun _ => by kernel_rfl) rfl ?_ ?_)
    ·
     refine T.seq (T.seq (T.region (T.p3 (pB b1 0) (pB b1 0) (pB b1 2) (fun _ => by kernel_rfl) (T.look (vi z9) (by kernel_rfl) (ld1 0 rfl rfl (fun _ => by kernel_rfl) (by rfl) rfl) ?_))))
     refine T.pk (.bool (z9 == 0)) (fun _ => by kernel_rfl) (T.nil ?_)
     refine T.cond (z9 == 0) (by kernel_rfl) (by kernel_rfl) (fun _ => ?_) (fun h => absurd (hc5.symm.trans h) (by decide))
     refine T.region (T.p4 (pB b1 0) (vi r4.2) (pB b1 0) (pB b1 2) (fun _ => by kernel_rfl) ?_)
     let v86_ : List Value := [.slice A2 z8.length c2, vi (IntKind.i64.wrap (p906 + 1)), vi r4.2]
     refine T.step (W1.st 0 v86_ ((box b1 86 v86_) :: i78_ :: G900) [vi r4.2] (by rfl) rfl rfl rfl rfl rfl rfl (fun _ => by kernel_rfl) ?_)
     refine T.nil (T.seq (T.region (T.p3 (pB b1 0) (pB b1 0) (pB b1 2) (fun _ => by kernel_rfl) (T.look (vi r4.2) (by kernel_rfl) (ld1 0 rfl rfl (fun _ => by kernel_rfl) (by rfl) rfl) ?_))))
     refine T.pk (.bool (r4.2 == 0)) (fun _ => by kernel_rfl) (T.nil ?_)
     refine T.cond (r4.2 == 0) (by kernel_rfl) (by kernel_rfl) (fun hc6 => ?_) (fun hc6 => ?_)
     ·
      rw [hc6, cond_true] at hX6
      refine T.region (T.p4 (pB b1 0) (.slice A5 r4.1.length c5) (pB b1 0) (pB b1 0) (fun _ => by kernel_rfl) ?_)
      let v87_ : List Value := [.slice A5 r4.1.length c5, vi (IntKind.i64.wrap (p906 + 1)), vi r4.2]
      refine T.step (W1.st 0 v87_ ((box b1 86 v87_) :: i78_ :: G900) [.slice A5 r4.1.length c5] (by rfl) rfl rfl rfl rfl rfl rfl (fun _ => by kernel_rfl) ?_)
      refine T.nil ?_
      cases hX6
      repeat first | refine T.unthen ?_ | refine T.unblock ?_
      exact T.end0 rfl fun w' hh => ⟨_, rfl, ⟨A5, c5, V8, vr, (SlOk.mono hs5 (vt (made_le _ _) vr)), rfl, (hh.sub (kp1 (kp1 kpr)))⟩⟩
     rw [hc6, cond_false] at hX6
     refine T.skip_code ?_
     cases hX6
     repeat first | refine T.unthen ?_ | refine T.unblock ?_
     exact T.end0 rfl fun w' hh => ⟨_, rfl, ⟨A2, c2, V8, vr, (SlOk.mono hs2 hV8), rfl, (hh.sub (kp1 (kp1 kpr)))⟩⟩
    rintro v w' ⟨A6, c6, V9, hV9, hs6, rfl, hh⟩
    refine ⟨V9, ((box b1 86 [.slice A6 z13.length c6, vi (IntKind.i64.wrap (p906 + 1)), vi r4.2]) :: i78_ :: G900), hh, ?_⟩
    clear hh
    refine TA.on (Hp.old (vt hV8 hV9) w92_ (dr1 (kp1 kp0)) (oB1 ol0)) ?_
    refine TA.done (by kernel_rfl) ?_
    exact fun a w' hf hh => ⟨A6, c6, V9, (vt hV8 hV9), hs6, (Fr.sel hf rfl), (hh.sub (kp1 (kp1 kpr)))⟩
   rintro a w' ⟨A7, c7, V10, hV10, hs7, hf, hh⟩
   refine (?_ : T 81 w V10 ((box b1 86 [.slice A7 z13.length c7, vi (IntKind.i64.wrap (p906 + 1)), vi r4.2]) :: i78_ :: G900) [(0, pB b901 0), (11, pB b1 0), (12, .bool (r1.2.2.1 == 0))] _) a w' hf hh
   clear hf hh
   cases hX5
   exact fun a w' hf hh => ⟨z13, r4.2, rfl, A7, c7, V10, hV10, hs7, (Fr.sel hf rfl), (hh.sub (kp1 (kp1 kpr)))⟩
  rw [hc5, cond_false] at hX5
  refine T.skip_code ?_
  cases hX5
  exact fun a w' hf hh => ⟨z8, z9, rfl, A2, c2, V5, vr, hs2, (Fr.sel hf rfl), (hh.sub (kp1 (kp1 kpr)))⟩
 rintro a w' ⟨z11, z12, rfl, A4, c4, V7, hV7, hs4, hf, hh⟩
 try dsimp only at hF
 let i80_ : HObj := box b1 86 [.slice A4 z11.length c4, vi (IntKind.i64.wrap (p906 + 1)), vi z12]
 refine (?_ : T 81 w V7 (i80_ :: i78_ :: G900) [(0, pB b901 0), (11, pB b1 0), (12, .bool (r1.2.2.1 == 0))] _) a w' hf hh
 clear hf hh
 refine T.seq (T.seq (T.region (T.p2 (pB b901 0) (pB b1 0) (fun _ => by kernel_rfl) ?_)))
 obtain ⟨q3, hX7, hF⟩ := ob hF
 refine T.step (W1.within 54 [pB b901 0, pB b1 0] (fun v w' => ∃ (z14 : List DElem) (z15 : Int), q3 = (z14, z15) ∧ ∃ (A8 : Option Addr) (c8 : Nat) (V11 : View), View.le V7 V11 ∧ SlOk V11 eElem A8 c8 z14 ∧ v = vi z12 ∧ Hp w V11 (i80_ :: (box b901 78 [.slice A8 z14.length c8, vi z15, vi p907]) :: G900) w') Tryz.func54 rfl rfl (by kernel_rfl) (fun _ => by kernel_rfl) rfl ?_ ?_)
 ·
  refine T.seq (T.region (T.pk (vi 0) (fun _ => by kernel_rfl) (T.nil ?_)))
  obtain ⟨q4, hX8, hX7⟩ := ob hX7
  refine T.cut (fun a w' => ∃ (z16 : List DElem) (z17 : Int), q4 = (z16, z17) ∧ ∃ (A9 : Option Addr) (c9 : Nat) (V12 : View), View.le V7 V12 ∧ SlOk V12 eElem A9 c9 z16 ∧ Fr 28 [(1, pB b1 0)] a ∧ Hp w V12 (i80_ :: (box b901 78 [.slice A9 z16.length c9, vi z17, vi p907]) :: G900) w') ?_ ?_
  ·
   refine T.seq (T.region (T.p3 (pB b1 0) (pB b1 0) (pB b1 2) (fun _ => by kernel_rfl) (T.look (vi z12) (by kernel_rfl) (ld1 0 rfl rfl (fun _ => by kernel_rfl) (by rfl) rfl) ?_)))
   refine T.pk (.bool (z12 == 0)) (fun _ => by kernel_rfl) (T.nil ?_)
   refine T.cond (z12 == 0) (by kernel_rfl) (by kernel_rfl) (fun hc7 => ?_) (fun hc7 => ?_)
   ·
    rw [hc7, cond_true] at hX8
    refine T.held (i80_ :: []) (by kernel_rfl) ?_
    have w93_ := vt (vt (vt (vt hV900 hV2) hV3) hV5) hV7
    refine TA.keep (Hp.old vr w93_ (kp1 (dr1 kp0)) (oB1 ol0)) fun o99_ => ?_
    refine TA.tp 0 (pB b901 0) rfl (fun _ => by kernel_rfl) (fun _ _ _ h => h) o99_ ?_
    refine TA.tp 1 (pB b901 0) rfl (fun _ => by kernel_rfl) (fun _ _ _ h => h) o99_ ?_
    refine TA.tp 2 (pB b1 0) rfl (fun _ => by kernel_rfl) (fun _ _ _ h => h) o99_ ?_
    refine TA.tp 3 (pB b1 0) rfl (fun _ => by kernel_rfl) (fun _ _ _ h => h) o99_ ?_
    refine TA.tp 4 (pB b1 0) rfl (fun _ => by kernel_rfl) (fun _ _ _ h => h) o99_ ?_
    refine TA.tk 5 (.slice A4 z11.length c4) rfl (by kernel_rfl) (fun _ _ _ h => h) o99_ (ld1 0 rfl rfl (fun _ => by kernel_rfl) (by rfl) rfl) ?_
    refine TA.tp 6 (pB b1 0) rfl (fun _ => by kernel_rfl) (fun _ _ _ h => h) o99_ ?_
    refine TA.tp 7 (pB b1 0) rfl (fun _ => by kernel_rfl) (fun _ _ _ h => h) o99_ ?_
    refine TA.tp 8 (pB b1 1) rfl (fun _ => by kernel_rfl) (fun _ _ _ h => h) o99_ ?_
    refine TA.tk 9 (vi (IntKind.i64.wrap (p906 + 1))) rfl (by kernel_rfl) (fun _ _ _ h => h) o99_ (ld1 0 rfl rfl (fun _ => by kernel_rfl) (by rfl) rfl) ?_
    refine TA.tp 10 (pB b901 0) rfl (fun _ => by kernel_rfl) (fun _ _ _ h => h) o99_ ?_
    refine TA.tp 11 (pB b901 0) rfl (fun _ => by kernel_rfl) (fun _ _ _ h => h) o99_ ?_
    refine TA.all [12] (by kernel_rfl) rfl ⟨?_, trivial⟩
    refine TA.br rfl (W1.st 1 [.slice A4 z11.length c4, vi p906, vi p907] (i80_ :: (box b901 78 [.slice A4 z11.length c4, vi p906, vi p907]) :: G900) [.slice A4 z11.length c4] (by rfl) rfl rfl rfl rfl rfl rfl (fun _ => by kernel_rfl) ?_)
    refine TA.onk (Hp.old vr w93_ (kp1 (dr1 kp0)) (oB1 ol0)) fun o100_ => ?_
    refine TA.tp 13 (pB b901 0) rfl (fun _ => by kernel_rfl) (fun _ _ _ h => h) o100_ ?_
    refine TA.tp 14 (pB b901 1) rfl (fun _ => by kernel_rfl) (fun _ _ _ h => h) o100_ ?_
    refine TA.all [15] (by kernel_rfl) rfl ⟨?_, trivial⟩
    let v88_ : List Value := [.slice A4 z11.length c4, vi (IntKind.i64.wrap (p906 + 1)), vi p907]
    refine TA.br rfl (W1.st 1 v88_ (i80_ :: (box b901 78 v88_) :: G900) [vi (IntKind.i64.wrap (p906 + 1))] (by rfl) rfl rfl rfl rfl rfl rfl (fun _ => by kernel_rfl) ?_)
    refine TA.on (Hp.old vr w93_ (kp1 (dr1 kp0)) (oB1 ol0)) ?_
    refine TA.done (by kernel_rfl) ?_
    cases hX8
    exact fun a w' hf hh => ⟨z11, (IntKind.i64.wrap (p906 + 1)), rfl, A4, c4, V7, vr, hs4, (Fr.sel hf rfl), (hh.sub (kp1 (kp1 kpr)))⟩
   rw [hc7, cond_false] at hX8
   refine T.skip_code ?_
   cases hX8
   exact fun a w' hf hh => ⟨p904, p906, rfl, A902, c903, V7, vr, (SlOk.mono hs905 (vt (vt (vt hV2 hV3) hV5) hV7)), (Fr.sel hf rfl), (hh.sub (kp1 (kp1 kpr)))⟩
  rintro a w' ⟨z16, z17, rfl, A9, c9, V12, hV12, hs9, hf, hh⟩
  try dsimp only at hX7
  refine (?_ : T 28 w V12 (i80_ :: (box b901 78 [.slice A9 z16.length c9, vi z17, vi p907]) :: G900) [(1, pB b1 0)] _) a w' hf hh
  clear hf hh
  refine T.seq (T.region (T.p3 (pB b1 0) (pB b1 0) (pB b1 2) (fun _ => by kernel_rfl) (T.look (vi z12) (by kernel_rfl) (ld1 0 rfl rfl (fun _ => by kernel_rfl) (by rfl) rfl) ?_)))
  refine T.pk (vi z12) (fun _ => by kernel_rfl) (T.nil ?_)
  cases hX7
  refine T.ret rfl ?_
  exact T.ret1 rfl (ResIs.tmp rfl) fun w' hh => ⟨_, rfl, ⟨z16, z17, rfl, A9, c9, V12, hV12, hs9, rfl, (hh.sub (kp1 (kp1 kpr)))⟩⟩
 rintro v w' ⟨z14, z15, rfl, A8, c8, V11, hV11, hs8, rfl, hh⟩
 try dsimp only at hF
 refine ⟨V11, (i80_ :: (box b901 78 [.slice A8 z14.length c8, vi z15, vi p907]) :: G900), hh, ?_⟩
 clear hh
 refine T.pk (vi z12) (fun _ => by kernel_rfl) (T.nil (T.seq (T.region (T.p2 (vi z12) (.bool (z12 != 0)) (fun _ => by kernel_rfl) (T.nil ?_)))))
 refine T.cond (z12 != 0) (by kernel_rfl) (by kernel_rfl) (fun hc8 => ?_) (fun hc8 => ?_)
 ·
  rw [hc8, cond_true] at hF
  refine T.seq (T.region (T.p2 (vi z12) (vi z12) (fun _ => by kernel_rfl) (T.nil ?_)))
  have hres := Option.some.inj hF
  subst hres
  refine T.ret rfl ?_
  repeat first | refine T.unthen ?_ | refine T.unblock ?_
  exact T.ret1 rfl (ResIs.tmp rfl) fun w' hh => ⟨_, rfl, ⟨A8, c8, V11, (vt (vt (vt (vt hV2 hV3) hV5) hV7) hV11), hs8, rfl, (hh.sub (dr1 (kp1 kpr)))⟩⟩
 rw [hc8, cond_false] at hF
 refine T.skip_code ?_
 obtain ⟨z18, hX9, hF⟩ := ob hF
 let i81_ : HObj := box b901 78 [.slice A8 z14.length c8, vi z15, vi z18]
 refine T.cut (fun a w' => Fr 81 [] a ∧ Hp w V11 (i81_ :: G900) w') ?_ ?_
 ·
  refine T.seq (T.region (T.pk (.bool (r1.2.2.1 == 0)) (fun _ => by kernel_rfl) (T.nil ?_)))
  refine T.cond (r1.2.2.1 == 0) (by kernel_rfl) (by kernel_rfl) (fun hc9 => ?_) (fun hc9 => ?_)
  ·
   rw [hc9, cond_true] at hX9
   refine T.region (T.p3 (pB b901 0) (pB b901 0) (pB b901 2) (fun _ => by kernel_rfl) (T.look (vi p907) (by kernel_rfl) (ld1 1 rfl rfl (fun _ => by kernel_rfl) (by rfl) rfl) ?_))
   refine T.p3 (vi (IntKind.i64.wrap (p907 + 1))) (pB b901 0) (pB b901 2) (fun _ => by kernel_rfl) ?_
   let v89_ : List Value := [.slice A8 z14.length c8, vi z15, vi (IntKind.i64.wrap (p907 + 1))]
   refine T.step (W1.st 1 v89_ (i80_ :: (box b901 78 v89_) :: G900) [vi (IntKind.i64.wrap (p907 + 1))] (by rfl) rfl rfl rfl rfl rfl rfl (fun _ => by kernel_rfl) ?_)
   refine T.nil ?_
   cases hX9
   exact fun a w' hf hh => ⟨(Fr.nil hf), (hh.sub (dr1 (kp1 kpr)))⟩
  rw [hc9, cond_false] at hX9
  refine T.skip_code ?_
  cases hX9
  exact fun a w' hf hh => ⟨(Fr.nil hf), (hh.sub (dr1 (kp1 kpr)))⟩
 rintro a w' ⟨hf, hh⟩
 refine (?_ : T 81 w V11 (i81_ :: G900) [] _) a w' hf hh
 clear hf hh
 refine T.seq (T.region (T.pk (vi 0) (fun _ => by kernel_rfl) (T.nil ?_)))
 have hres := Option.some.inj hF
 subst hres
 refine T.ret rfl ?_
 repeat first | refine T.unthen ?_ | refine T.unblock ?_
 exact T.ret1 rfl (ResIs.tmp rfl) fun w' hh => ⟨_, rfl, ⟨A8, c8, V11, (vt (vt (vt (vt hV2 hV3) hV5) hV7) hV11), hs8, rfl, (hh.sub (kp1 kpr))⟩⟩
set_option maxRecDepth 100000 in
set_option maxHeartbeats 4000000 in
theorem fs_FS_at_fr_l (F : Nat) (p904 : List DElem) (p906 : Int) (p907 : Int) (p908 : ByteArray) (p909 : Int) (r : Int × Int) (hF : fs_FS_at_fr F p904 p906 p907 p908 p909 = some r) (w : World) (hGl : Glob w) (b901 : Nat) (A902 : Option Addr) (c903 : Nat) (V900 : View) (G900 : List HObj) (w1 : World) (hs905 : SlOk V900 eElem A902 c903 p904) (hh : Hp w V900 ((box b901 78 [.slice A902 p904.length c903, .int .i64 p906, .int .i64 p907]) :: G900) w1) :
 Calls Tryz.prog 58 #[.pointer (some ⟨b901, 0, none⟩), .string p908, .int .i64 p909] w1 (fun e w2 => ∃ v, e = .returned v ∧ ∃ (V1 : View), View.le V900 V1 ∧ v = .tuple #[.int .i64 r.1, .int .i64 r.2] ∧ Hp w V1 ((box b901 78 [.slice A902 p904.length c903, .int .i64 p906, .int .i64 p907]) :: G900) w2) := by
 unfold fs_FS_at_fr at hF
 have hV900 := hh.base
 refine T.startI (l := [pB b901 0, .string p908, vi p909]) Tryz.func58 rfl rfl rfl ?_ hh
 clear hh
 refine T.seq (T.region (T.p2 (vi 0) (vi 0) (fun _ => by kernel_rfl) (T.nil (T.seq (T.region (T.pk (.string p908) (fun _ => by kernel_rfl) ?_))))))
 obtain ⟨r1, hb1, hF⟩ := ob hF
 refine T.step (W1.call (vT2 (vSc (eList eStr)) (vSc eInt)) r1 86 #[.string p908] (by kernel_rfl) (fun _ => by kernel_rfl) (fun w' hh => fs_names_l F p908 r1 hb1 w' (Glob.mono hGl (vt hh.base hh.view))) ?_)
 intro u V2 hV2 hu
 obtain ⟨u1, u2, rfl, hu1, hu2⟩ := vT2_elim hu
 obtain ⟨A1, c1, rfl, hs1⟩ := vlist_elim hu1
 obtain rfl := sureInt _ _ _ hu2
 refine T.p5 (.tuple #[.slice A1 r1.1.length c1, vi r1.2]) (.slice A1 r1.1.length c1) (vi r1.2) (.slice A1 r1.1.length c1) (vi r1.2) (fun _ => by kernel_rfl) (T.nil (T.seq (T.seq (T.region (T.p2 (vi r1.2) (.bool (r1.2 != 0)) (fun _ => by kernel_rfl) (T.nil ?_))))))
 refine T.cond (r1.2 != 0) (by kernel_rfl) (by kernel_rfl) (fun hc1 => ?_) (fun hc1 => ?_)
 ·
  rw [hc1, cond_true] at hF
  refine T.seq (T.region (T.p3 (vi r1.2) (vi 0) (vi r1.2) (fun _ => by kernel_rfl) (T.nil ?_)))
  have hres := Option.some.inj hF
  subst hres
  refine T.ret rfl ?_
  repeat first | refine T.unthen ?_ | refine T.unblock ?_
  exact T.ret2 rfl (ResIs.tmp rfl) (ResIs.tmp rfl) fun w' hh => ⟨_, rfl, ⟨V2, hV2, rfl, (hh.sub (kp1 kpr))⟩⟩
 rw [hc1, cond_false] at hF
 refine T.skip_code ?_
 refine T.seq ?_
 let i101_ : HObj := box b901 78 [.slice A902 p904.length c903, vi p906, vi p907]
 refine T.cut (fun a w' => Fr 34 [(0, pB b901 0), (2, vi p909), (8, .slice A1 r1.1.length c1), (27, .bool ((decide (p909 < 0)) || (decide (p906 < p909))))] a ∧ Hp w V2 (i101_ :: G900) w') ?_ ?_
 ·
  refine T.region (T.p3 (vi p909) (.bool (decide (p909 < 0))) (.bool (decide (p909 < 0))) (fun _ => by kernel_rfl) ?_)
  cases hg1 : decide (p909 < 0)
  ·
   skip
   refine T.p4 (vi p909) (pB b901 0) (pB b901 0) (pB b901 1) (fun _ => by kernel_rfl) (T.look (vi p906) (by kernel_rfl) (ld1 0 rfl rfl (fun _ => by kernel_rfl) (by rfl) rfl) ?_)
   refine T.p2 (.bool (decide (p906 < p909))) (.bool (decide (p906 < p909))) (fun _ => by kernel_rfl) (T.nil ?_)
   exact fun a w' hf hh => ⟨(Fr.sel hf rfl), (hh.sub (kp1 kpr))⟩
  skip
  refine T.pass (by kernel_rfl) (by kernel_rfl) (T.pass (by kernel_rfl) (by kernel_rfl) (T.pass (by kernel_rfl) (by kernel_rfl) (T.pass (by kernel_rfl) (by kernel_rfl) (T.pass (by kernel_rfl) (by kernel_rfl) (T.pass (by kernel_rfl) (by kernel_rfl) (T.pk (.bool true) (fun _ => by kernel_rfl) (T.nil ?_)))))))
  exact fun a w' hf hh => ⟨(Fr.sel hf rfl), (hh.sub (kp1 kpr))⟩
 rintro a w' ⟨hf, hh⟩
 refine (?_ : T 34 w V2 (i101_ :: G900) [(0, pB b901 0), (2, vi p909), (8, .slice A1 r1.1.length c1), (27, .bool ((decide (p909 < 0)) || (decide (p906 < p909))))] _) a w' hf hh
 clear hf hh
 refine T.cond ((decide (p909 < 0)) || (decide (p906 < p909))) (by kernel_rfl) (by kernel_rfl) (fun hc2 => ?_) (fun hc2 => ?_)
 ·
  rw [hc2, cond_true] at hF
  refine T.seq (T.region (T.p2 (vi 0) (vi 9) (fun _ => by kernel_rfl) (T.nil ?_)))
  have hres := Option.some.inj hF
  subst hres
  refine T.ret rfl ?_
  repeat first | refine T.unthen ?_ | refine T.unblock ?_
  exact T.ret2 rfl (ResIs.tmp rfl) (ResIs.tmp rfl) fun w' hh => ⟨_, rfl, ⟨V2, hV2, rfl, (hh.sub (kp1 kpr))⟩⟩
 rw [hc2, cond_false] at hF
 refine T.skip_code ?_
 refine T.seq (T.region (T.p3 (pB b901 0) (.slice A1 r1.1.length c1) (vi p909) (fun _ => by kernel_rfl) ?_))
 obtain ⟨r2, hb2, hF⟩ := ob hF
 refine T.step (W1.callI 87 [pB b901 0, .slice A1 r1.1.length c1, vi p909] (fun v w' => ∃ (V3 : View), View.le V2 V3 ∧ v = .tuple #[vi r2.1, vi r2.2] ∧ Hp w V3 (i101_ :: G900) w') (by kernel_rfl) (fun _ => by kernel_rfl) (fun w' hh => fs_FS_walk_fr_l F p904 p906 p907 r1.1 p909 r2 hb2 w hGl b901 A902 c903 A1 c1 V2 G900 w' (SlOk.mono hs905 hV2) (SlOk.mono hs1 (vt (made_le _ _) vr)) (hh.sub (kp1 kpr))) ?_)
 rintro v w' ⟨V3, hV3, rfl, hh⟩
 refine ⟨_, _, hh, ?_⟩
 clear hh
 refine T.p4 (vi r2.1) (vi r2.2) (vi r2.1) (vi r2.2) (fun _ => by kernel_rfl) (T.nil ?_)
 have hres := Option.some.inj hF
 subst hres
 refine T.ret rfl ?_
 repeat first | refine T.unthen ?_ | refine T.unblock ?_
 exact T.ret2 rfl (ResIs.tmp rfl) (ResIs.tmp rfl) fun w' hh => ⟨_, rfl, ⟨V3, (vt hV2 hV3), rfl, (hh.sub (kp1 kpr))⟩⟩
set_option maxRecDepth 100000 in
set_option maxHeartbeats 4000000 in
theorem fs_FS_Read_fr_l (F : Nat) (p904 : List DElem) (p906 : Int) (p907 : Int) (p908 : ByteArray) (p909 : Int) (r : ByteArray × Int) (hF : fs_FS_Read_fr F p904 p906 p907 p908 p909 = some r) (w : World) (hGl : Glob w) (b901 : Nat) (A902 : Option Addr) (c903 : Nat) (V900 : View) (G900 : List HObj) (w1 : World) (hs905 : SlOk V900 eElem A902 c903 p904) (hh : Hp w V900 ((box b901 78 [.slice A902 p904.length c903, .int .i64 p906, .int .i64 p907]) :: G900) w1) :
 Calls Tryz.prog 25 #[.pointer (some ⟨b901, 0, none⟩), .string p908, .int .i64 p909] w1 (fun e w2 => ∃ v, e = .returned v ∧ ∃ (V1 : View), View.le V900 V1 ∧ v = .tuple #[.string r.1, .int .i64 r.2] ∧ Hp w V1 ((box b901 78 [.slice A902 p904.length c903, .int .i64 p906, .int .i64 p907]) :: G900) w2) := by
 unfold fs_FS_Read_fr at hF
 have hV900 := hh.base
 refine T.startI (l := [pB b901 0, .string p908, vi p909]) Tryz.func25 rfl rfl rfl ?_ hh
 clear hh
 refine T.seq (T.region (T.p2 (.string (ByteArray.mk #[])) (vi 0) (fun _ => by kernel_rfl) (T.nil (T.seq (T.region (T.p3 (pB b901 0) (.string p908) (vi p909) (fun _ => by kernel_rfl) ?_))))))
 obtain ⟨r1, hb1, hF⟩ := ob hF
 let i189_ : HObj := box b901 78 [.slice A902 p904.length c903, vi p906, vi p907]
 refine T.step (W1.callI 58 [pB b901 0, .string p908, vi p909] (fun v w' => ∃ (V2 : View), View.le V900 V2 ∧ v = .tuple #[vi r1.1, vi r1.2] ∧ Hp w V2 (i189_ :: G900) w') (by kernel_rfl) (fun _ => by kernel_rfl) (fun w' hh => fs_FS_at_fr_l F p904 p906 p907 p908 p909 r1 hb1 w hGl b901 A902 c903 V900 G900 w' hs905 (hh.sub (kp1 kpr))) ?_)
 rintro v w' ⟨V2, hV2, rfl, hh⟩
 refine ⟨_, _, hh, ?_⟩
 clear hh
 refine T.p5 (.tuple #[vi r1.1, vi r1.2]) (vi r1.1) (vi r1.2) (vi r1.1) (vi r1.2) (fun _ => by kernel_rfl) (T.nil (T.seq (T.seq (T.region (T.p2 (vi r1.2) (.bool (r1.2 != 0)) (fun _ => by kernel_rfl) (T.nil ?_))))))
 refine T.cond (r1.2 != 0) (by kernel_rfl) (by kernel_rfl) (fun hc1 => ?_) (fun hc1 => ?_)
 ·
  rw [hc1, cond_true] at hF
  refine T.seq (T.region (T.p3 (vi r1.2) (.string (ByteArray.mk #[])) (vi r1.2) (fun _ => by kernel_rfl) (T.nil ?_)))
  have hres := Option.some.inj hF
  subst hres
  refine T.ret rfl ?_
  repeat first | refine T.unthen ?_ | refine T.unblock ?_
  exact T.ret2 rfl (ResIs.tmp rfl) (ResIs.tmp rfl) fun w' hh => ⟨_, rfl, ⟨V2, hV2, rfl, (hh.sub (kp1 kpr))⟩⟩
 rw [hc1, cond_false] at hF
 refine T.skip_code ?_
 refine T.seq (T.seq (T.region (T.p3 (pB b901 0) (vi r1.1) (vi p909) (fun _ => by kernel_rfl) ?_)))
 obtain ⟨r2, hb2, hF⟩ := ob hF
 refine T.step (W1.callI 59 [pB b901 0, vi r1.1, vi p909] (fun v w' => ∃ (V3 : View), View.le V2 V3 ∧ v = .string r2 ∧ Hp w V3 (i189_ :: G900) w') (by kernel_rfl) (fun _ => by kernel_rfl) (fun w' hh => fs_FS_kind_fr_l F p904 p906 p907 r1.1 p909 r2 hb2 w hGl b901 A902 c903 V2 G900 w' (SlOk.mono hs905 hV2) (hh.sub (kp1 kpr))) ?_)
 rintro v w' ⟨V3, hV3, rfl, hh⟩
 refine ⟨_, _, hh, ?_⟩
 clear hh
 refine T.pk (.bool (!(seq r2 (ByteArray.mk #[102])))) (fun _ => by kernel_rfl) (T.nil ?_)
 refine T.cond (!(seq r2 (ByteArray.mk #[102]))) (by kernel_rfl) (by kernel_rfl) (fun hc2 => ?_) (fun hc2 => ?_)
 ·
  rw [hc2, cond_true] at hF
  refine T.seq (T.region (T.p2 (.string (ByteArray.mk #[])) (vi 12) (fun _ => by kernel_rfl) (T.nil ?_)))
  have hres := Option.some.inj hF
  subst hres
  refine T.ret rfl ?_
  repeat first | refine T.unthen ?_ | refine T.unblock ?_
  exact T.ret2 rfl (ResIs.tmp rfl) (ResIs.tmp rfl) fun w' hh => ⟨_, rfl, ⟨V3, (vt hV2 hV3), rfl, (hh.sub (kp1 kpr))⟩⟩
 rw [hc2, cond_false] at hF
 refine T.skip_code ?_
 refine T.seq (T.region (T.p3 (pB b901 0) (pB b901 0) (pB b901 0) (fun _ => by kernel_rfl) (T.look (.slice A902 p904.length c903) (by kernel_rfl) (ld1 0 rfl rfl (fun _ => by kernel_rfl) (by rfl) rfl) ?_)))
 refine T.p2 (vi r1.1) (vi p909) (fun _ => by kernel_rfl) ?_
 obtain ⟨r3, hb3, hF⟩ := ob hF
 refine T.step (W1.call (vT2 (vSc eStr) (vSc eInt)) r3 62 #[.slice A902 p904.length c903, vi 0, vi r1.1, vi p909] (by kernel_rfl) (fun _ => by kernel_rfl) (fun w' hh => file_Get_l F p904 0 r1.1 p909 r3 hb3 w' A902 c903 (SlOk.mono (SlOk.mono hs905 (vt hV2 hV3)) hh.view)) ?_)
 intro u V4 hV4 hu
 obtain rfl := (Sure.t2 sureStr sureInt) _ _ _ hu
 refine T.p4 (.string r3.1) (vi r3.2) (.string r3.1) (vi r3.2) (fun _ => by kernel_rfl) (T.nil ?_)
 have hres := Option.some.inj hF
 subst hres
 refine T.ret rfl ?_
 repeat first | refine T.unthen ?_ | refine T.unblock ?_
 exact T.ret2 rfl (ResIs.tmp rfl) (ResIs.tmp rfl) fun w' hh => ⟨_, rfl, ⟨V4, (vt (vt hV2 hV3) hV4), rfl, (hh.sub (kp1 kpr))⟩⟩
end Go.Proofs.YtacjdfhllomccaaGreatDoor
