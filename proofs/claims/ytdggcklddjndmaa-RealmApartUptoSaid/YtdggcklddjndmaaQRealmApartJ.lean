/- Plain Lean: what is done in a realm changes nothing in another. Its conditions: a bound on the stream's length. -/
import Derived.Test.YtdggcklddjndmaaWRealmApartFJ
import Derived.Test.YtdggcklddjndmaaPRefJ
import Derived.Test.YtdggcklddjndmaaPBookJ
import Derived.Test.YtdggcklddjndmaaPEqJ
import Derived.Test.YtdggcklddjndmaaOpenAJ
namespace Go.Proofs.Ytdggcklddjndmaa
set_option linter.unusedVariables false
set_option linter.unusedSimpArgs false
variable {F : Nat} [Big F]
theorem ref_Realm_eq (l : List DElem) (i : Int) (hl : l.length ≤ 1000000) : ∃ o, annalref_Realm F l i = some (atP l i, o) := by
 refine ⟨l.filter fun e => !(e.key.pfs == i), ?_⟩
 unfold annalref_Realm
 rw [loop_run (s := (([] : List DElem), ([] : List DElem), (0 : Int))) (fun k => ((l.take k).filter (fun e => !(e.key.pfs == i)), (l.take k).filter (fun e => e.key.pfs == i), (k : Int))) l.length (r := (l.filter (fun e => !(e.key.pfs == i)), l.filter (fun e => e.key.pfs == i))) (by simp) (by omega) ?hs ?he, Option.bind_some]
 · rfl
 case hs =>
  intro k hk
  have hg : l[k]? = some l[k] := List.getElem?_eq_getElem hk
  have h1 := List.length_filter_le (fun e : DElem => !(e.key.pfs == i)) (l.take k)
  have h2 := List.length_filter_le (fun e : DElem => e.key.pfs == i) (l.take k)
  rw [List.length_take] at h1 h2
  dsimp only
  rw [decide_eq_true (by omega), cond_true, idx_nat', hg, Option.bind_some, filter_take_succ _ hg, filter_take_succ _ hg]
  cases hc : (l[k].key.pfs == i) with
  | true =>
   rw [cond_true, grow_ok (by simp; omega) (by simp; omega), Option.bind_some, Option.bind_some]
   dsimp only
   rw [w64 (by omega) (by omega)]
   simp
  | false =>
   rw [cond_false, grow_ok (by simp; omega) (by simp; omega), Option.bind_some, Option.bind_some]
   dsimp only
   rw [w64 (by omega) (by omega)]
   simp
 case he =>
  dsimp only
  rw [decide_eq_false (by omega), cond_false, List.take_length]
theorem same_ok {b x : DBook} {p : Int} (hb : Book b) (hx : Book x) (h : ∀ i : Int, 0 ≤ i → i ≤ 15 → i ≠ p → atP x.run i = atP b.run i ∧ roleAt x i = roleAt b i ∧ fedAt x i = fedAt b i) :
 ((realm_Check F x).bind fun r6 =>
  bif (r6 != 0) then
   some false
  else
   (iter (σ := Int) (ρ := (Unit) ⊕ Bool) (fun x1 =>
    bif decide (x1 < 16) then
     (annalref_Realm F b.run x1).bind fun r7 =>
     (annalref_Realm F x.run x1).bind fun r8 =>
     (
      bif (x1 != p) then
       (slices_Equal_Elem F r7.1 r8.1).bind fun r9 =>
       bif (!r9) then
        some true
       else
        (idx x.roles.list x1).bind fun e1 =>
        (idx b.roles.list x1).bind fun e2 =>
        bif (e1 != e2) then
         some true
        else
         (idx x.fed.list x1).bind fun e3 =>
         (idx b.fed.list x1).bind fun e4 =>
         some (e3 != e4)
       else
        some false : Option (Bool)).bind fun z3 =>
     bif z3 then
      some (.inr (.inr false))
     else
      some (.inl (IntKind.i64.wrap (x1 + 1)))
     else
      some (.inr (.inl ()))) F 0).bind fun z => match z with
    | .inl _ =>
     some true
    | .inr q => some q : Option Bool) = some true := by
 have l1 := hb.run.len
 have l2 := hx.run.len
 rw [realm_Check_eq, Option.bind_some, chkB_zero.2 hx, bne0_false rfl, cond_false, loop_run (s := (0 : Int)) (fun k => (k : Int)) 16 (r := .inl ()) rfl (by omega) ?hs ?he, Option.bind_some]
 case hs =>
  intro k hk
  obtain ⟨o1, e1⟩ := ref_Realm_eq (F := F) b.run (k : Int) (by omega)
  obtain ⟨o2, e2⟩ := ref_Realm_eq (F := F) x.run (k : Int) (by omega)
  rw [decide_eq_true (by omega), cond_true, e1, Option.bind_some, e2, Option.bind_some]
  by_cases hp : (k : Int) = p
  · rw [show ((k : Int) != p) = false by simpa using hp, cond_false, Option.bind_some, cond_false, w64 (by omega) (by omega)]; rfl
  · obtain ⟨h1, h2, h3⟩ := h (k : Int) (by omega) (by omega) hp
    rw [show ((k : Int) != p) = true by simpa using hp, cond_true]
    dsimp only
    rw [h1, eqElem_self _ (by have := List.length_filter_le (fun e : DElem => e.key.pfs == (k : Int)) b.run; unfold atP; omega), Option.bind_some, Bool.not_true, cond_false, idx_role x (by omega) (by omega), Option.bind_some, idx_role b (by omega) (by omega), Option.bind_some, h2, show (roleAt b (k : Int) != roleAt b (k : Int)) = false by simp, cond_false, idx_fed x (by omega) (by omega), Option.bind_some, idx_fed b (by omega) (by omega), Option.bind_some, h3, show (fedAt b (k : Int) != fedAt b (k : Int)) = false by simp, Option.bind_some, cond_false, w64 (by omega) (by omega)]
    rfl
 case he =>
  rw [decide_eq_false (by omega), cond_false]
theorem feed_cases (b : DBook) {l : List UInt8} (hl : l.length ≤ 1048576) : (∃ e, e ≠ 0 ∧ realm_Feed F b (ofL l) = some (zB, e)) ∨ ∃ (x : DBook) (P : Dstream_Parsed), realm_Feed F b (ofL l) = some (x, 0) ∧ parseR l = (P, 0) ∧ Book b ∧ Book x ∧
 ∀ i : Int, 0 ≤ i → i ≤ 15 → i ≠ P.pfs → atP x.run i = atP b.run i ∧ roleAt x i = roleAt b i ∧ fedAt x i = fedAt b i := by
 unfold realm_Feed
 rw [realm_Check_eq, Option.bind_some]
 by_cases h1 : chkB b = 0
 rotate_left
 · rw [bne0_true h1, cond_true]; exact .inl ⟨_, h1, rfl⟩
 have hb := chkB_zero.1 h1
 rw [bne0_false h1, cond_false, stream_Parse_eq l (by omega), Option.bind_some]
 by_cases h2 : (parseR l).2 = 0
 rotate_left
 · rw [bne0_true h2, cond_true]; exact .inl ⟨_, h2, rfl⟩
 obtain ⟨P, hP⟩ : ∃ P, parseR l = (P, 0) := ⟨(parseR l).1, Prod.ext rfl h2⟩
 obtain ⟨hlk, hfr⟩ := parse_fresh hP
 obtain ⟨p0, p1, a0, ab, b1⟩ := lookE_zero.1 hlk
 have hPl := parseR_len l
 rw [hP] at hPl
 dsimp only at hPl
 rw [hP]
 dsimp only
 rw [bne0_false rfl, cond_false, idx_role b p0 p1, Option.bind_some]
 by_cases h3 : roleAt b P.pfs = 2
 rotate_left
 · rw [show (roleAt b P.pfs != 2) = true by simpa using h3, cond_true]; exact .inl ⟨10, by decide, rfl⟩
 rw [show (roleAt b P.pfs != 2) = false by simpa using h3, cond_false, idx_fed b p0 p1, Option.bind_some]
 by_cases h4 : P.from_ = fedAt b P.pfs
 rotate_left
 · rw [show (P.from_ != fedAt b P.pfs) = true by simpa using h4, cond_true]; exact .inl ⟨9, by decide, rfl⟩
 rw [show (P.from_ != fedAt b P.pfs) = false by simpa using h4, cond_false, stream_Feed_some hb.run (by omega) h2, hP, Option.bind_some]
 dsimp only
 by_cases h5 : 400 < (mergeR b.run P.elems).length
 · rw [if_pos h5]
   dsimp only
   rw [bne0_true (by decide), cond_true]; exact .inl ⟨8, by decide, rfl⟩
 rw [if_neg h5]
 by_cases h6 : chkR (mergeR b.run P.elems) = 0
 rotate_left
 · rw [if_pos (show chkR (mergeR b.run P.elems) ≠ 0 from h6)]
   dsimp only
   rw [bne0_true (by decide), cond_true]; exact .inl ⟨3, by decide, rfl⟩
 rw [if_neg (show ¬ chkR (mergeR b.run P.elems) ≠ 0 by simpa using h6)]
 dsimp only
 rw [bne0_false rfl, cond_false, Option.bind_some]
 have hrun := chkR_zero.1 h6
 have hmem : ∀ x, x ∈ mergeR b.run P.elems → x ∈ P.elems ∨ x ∈ b.run := fun x hx => ((mem_mergeR hfr.ord).1 hx).imp id (fun h => h.1)
 refine .inr ⟨⟨mergeR b.run P.elems, b.roles, b.fed.set P.pfs.toNat P.to⟩, P, rfl, rfl, hb, ⟨hrun, fun i i0 i1 => ?_, fun e he => ?_⟩, fun i i0 i1 hi => ⟨?_, rfl, ?_⟩⟩
 · have h7 := hb.role i i0 i1
   have h8 := fed_set b P.pfs i P.to (mergeR b.run P.elems) b.roles p0 p1 i0 i1
   show 0 ≤ roleAt b i ∧ roleAt b i ≤ 2 ∧ 0 ≤ fedAt ⟨mergeR b.run P.elems, b.roles, b.fed.set P.pfs.toNat P.to⟩ i ∧ fedAt ⟨mergeR b.run P.elems, b.roles, b.fed.set P.pfs.toNat P.to⟩ i ≤ 2147483647 ∧ (roleAt b i ≠ 2 → fedAt ⟨mergeR b.run P.elems, b.roles, b.fed.set P.pfs.toNat P.to⟩ i = 0)
   rw [h8]
   by_cases hi : P.pfs = i
   · rw [if_pos hi]
     refine ⟨h7.1, h7.2.1, by omega, b1, fun h => ?_⟩
     rw [← hi] at h
     exact absurd h3 h
   · rw [if_neg hi]; exact h7
 · have hpf : 0 ≤ e.key.pfs ∧ e.key.pfs ≤ 15 := pfs_ok (hrun.ok e he)
   show roleAt b e.key.pfs ≠ 0 ∧ (roleAt b e.key.pfs = 2 → lastE e ≤ fedAt ⟨mergeR b.run P.elems, b.roles, b.fed.set P.pfs.toNat P.to⟩ e.key.pfs)
   rw [fed_set b P.pfs e.key.pfs P.to (mergeR b.run P.elems) b.roles p0 p1 hpf.1 hpf.2]
   rcases hmem e he with h | h
   · rw [if_pos (hfr.pfs e h).symm, hfr.pfs e h, h3]
     exact ⟨by decide, fun _ => (hfr.last e h).2⟩
   · have h7 := hb.elem e h
     refine ⟨h7.1, fun h8 => ?_⟩
     have h9 := h7.2 h8
     by_cases hi : P.pfs = e.key.pfs
     · rw [if_pos hi]; rw [← hi, ← h4] at h9; omega
     · rw [if_neg hi]; exact h9
 · show atP (mergeR b.run P.elems) i = atP b.run i
   have ho1 : (atP (mergeR b.run P.elems) i).Pairwise Bef := (hrun.atP i).ord
   have ho2 : (atP b.run i).Pairwise Bef := (hb.run.atP i).ord
   refine bef_ext ho1 ho2 fun e => ?_
   rw [mem_atP, mem_atP, mem_mergeR hfr.ord]
   constructor
   · rintro ⟨h | h, hp⟩
     · exact absurd ((hfr.pfs e h).symm.trans hp).symm hi
     · exact ⟨h.1, hp⟩
   · rintro ⟨h, hp⟩
     refine ⟨.inr ⟨h, fun y hy hs => ?_⟩, hp⟩
     have : e.key = y.key := congrArg DSpot.key hs
     rw [this, hfr.pfs y hy] at hp
     exact hi hp.symm
 · rw [fed_set b P.pfs i P.to (mergeR b.run P.elems) b.roles p0 p1 i0 i1, if_neg (fun h => hi h.symm)]
theorem put_apart {b : DBook} {p : Int} {m : List DElem} (hb : Book b) (hk : ∀ e ∈ m, e.key.pfs = p) : ∀ i : Int, 0 ≤ i → i ≤ 15 → i ≠ p → atP (DBook.mk (putP b.run p m) b.roles b.fed).run i = atP b.run i ∧ roleAt ⟨putP b.run p m, b.roles, b.fed⟩ i = roleAt b i ∧ fedAt ⟨putP b.run p m, b.roles, b.fed⟩ i = fedAt b i :=
 fun i _ _ hi => ⟨atP_putP_other hb.run.ord hk hi, rfl, rfl⟩
theorem annalkeep_RealmApart_true (F : Nat) [Big F] (b : DBook) (k : DKey) (v : ByteArray) (t : Int) (s : ByteArray) (k0 : okBook b) (k1 : okKey k) (k2 : okStr v) (k2_ : v.size ≤ reachBytes) (k3 : okInt .i64 t) (k4 : okStr s) (k4_ : s.size ≤ reachBytes) (b2 : v.size ≤ 1048576) (b4 : s.size ≤ 1048576) : annalkeep_RealmApart F b k v t s = some true := by
 have hbk : (annalkeep_book : Option DBook) = some bk := rfl
 have hp1 : putB bk (DKey.mk 0 0 0) (ByteArray.mk #[97]) 1 = (⟨[⟨⟨0, 0, 0⟩, 1, 0, ByteArray.mk #[97]⟩], bk.roles, bk.fed⟩, 0) := by decide
 have hp2 : (putB bk (DKey.mk 1 0 0) (ByteArray.mk #[97]) 1).2 = 10 := by decide
 obtain ⟨l, rfl⟩ : ∃ l, s = ofL l := ⟨s.data.toList, by simp [ofL]⟩
 have hl : l.length ≤ 1048576 := b4
 unfold annalkeep_RealmApart
 rw [hbk, Option.bind_some, realm_Put_eq, Option.bind_some, hp1]
 dsimp only
 rw [show (((0 : Int) != 0) || ((([⟨⟨0, 0, 0⟩, 1, 0, ByteArray.mk #[97]⟩] : List DElem).length : Int) != 1)) = false from rfl, cond_false, Option.bind_some, realm_Put_eq, Option.bind_some, hp2, show ((10 : Int) != 10) = false from rfl, cond_false, realm_Put_eq, Option.bind_some]
 have B1 : ∀ (x : DBook × Int), (x.2 = 0 → Book b ∧ Book x.1 ∧ ∀ i : Int, 0 ≤ i → i ≤ 15 → i ≠ k.pfs → atP x.1.run i = atP b.run i ∧ roleAt x.1 i = roleAt b i ∧ fedAt x.1 i = fedAt b i) →
  (bif (x.2 == 0) then
   (
    (realm_Check F x.1).bind fun r6 =>
     bif (r6 != 0) then
      some false
     else
      (iter (σ := Int) (ρ := (Unit) ⊕ Bool) (fun x1 =>
       bif decide (x1 < 16) then
        (annalref_Realm F b.run x1).bind fun r7 =>
        (annalref_Realm F x.1.run x1).bind fun r8 =>
        (
         bif (x1 != k.pfs) then
          (slices_Equal_Elem F r7.1 r8.1).bind fun r9 =>
          bif (!r9) then
           some true
          else
           (idx x.1.roles.list x1).bind fun e1 =>
           (idx b.roles.list x1).bind fun e2 =>
           bif (e1 != e2) then
            some true
           else
            (idx x.1.fed.list x1).bind fun e3 =>
            (idx b.fed.list x1).bind fun e4 =>
            some (e3 != e4)
          else
           some false : Option (Bool)).bind fun z3 =>
        bif z3 then
         some (.inr (.inr false))
        else
         some (.inl (IntKind.i64.wrap (x1 + 1)))
        else
         some (.inr (.inl ()))) F 0).bind fun z => match z with
       | .inl _ =>
        some true
       | .inr q => some q : Option (Bool)).bind fun z2 =>
   some (!z2)
   else
    some false : Option (Bool)) = some false := fun x hx => by
  by_cases h : x.2 = 0
  · obtain ⟨h1, h2, h3⟩ := hx h
    rw [show (x.2 == 0) = true by simpa using h, cond_true]
    refine Eq.trans (congrArg (fun q => Option.bind q _) (same_ok h1 h2 h3)) ?_
    rw [Option.bind_some]; rfl
  · rw [show (x.2 == 0) = false by simpa using h, cond_false]
 have put := B1 (putB b k v t) fun h => by
  obtain ⟨hb, p0, p1, hr, he, e, hB⟩ := putB_ok h
  obtain ⟨hm, _⟩ := putE_zero.1 he
  rw [e] at hB ⊢
  exact ⟨hb, hB, put_apart hb (putR_pfs hm (atP_pfs _ _))⟩
 refine Eq.trans (congrArg (fun q => Option.bind q _) put) ?_
 rw [Option.bind_some, cond_false, realm_Cut_eq, Option.bind_some]
 have cut := B1 (cutB b k t) fun h => by
  obtain ⟨hb, p0, p1, hr, he, e, hB⟩ := cutB_ok h
  obtain ⟨hm, _⟩ := cutE_zero.1 he
  rw [e] at hB ⊢
  exact ⟨hb, hB, put_apart hb (cutR_pfs hm (atP_pfs _ _))⟩
 refine Eq.trans (congrArg (fun q => Option.bind q _) cut) ?_
 rw [Option.bind_some, cond_false]
 rcases feed_cases (F := F) b hl with ⟨e, he, hf⟩ | ⟨x, P, hf, hP, hb, hx, hi⟩
 · rw [hf, Option.bind_some]
   dsimp only
   rw [bne0_true he, cond_true, Option.bind_some]
 · rw [hf, Option.bind_some]
   dsimp only
   rw [bne0_false rfl, cond_false, ref_Parse_ok hP (by omega), Option.bind_some]
   dsimp only
   refine Eq.trans (congrArg (fun q => Option.bind (Option.bind q _) _) (same_ok hb hx hi)) ?_
   rw [Option.bind_some, Option.bind_some]
end Go.Proofs.Ytdggcklddjndmaa
