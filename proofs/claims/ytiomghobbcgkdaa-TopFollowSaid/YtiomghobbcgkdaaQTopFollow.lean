/- Plain Lean: the law TopFollow. Its conditions: none. -/
import Derived.Test.YtiomghobbcgkdaaWTopFollowF
import Derived.Test.YtiomghobbcgkdaaPBook
import Derived.Test.YtiomghobbcgkdaaPStreamL
import Derived.Test.YtiomghobbcgkdaaPFileL
namespace Go.Proofs.Ytiomghobbcgkdaa
set_option linter.unusedVariables false
set_option linter.unusedSimpArgs false

/-! ### What a time that comes later leaves of what was -/
section
variable {l m : List DElem} {cs : List DChange} {t f : Int}
theorem thenE_open {e : DElem} (h0 : 0 ≤ f) (hg : e.gone = 0) : thenE f e = e := by unfold thenE; rw [if_neg (by omega)]
theorem thenE_closed {e : DElem} (hf : f < t) (hg : e.gone = 0) : thenE f { e with gone := t } = e := by
  unfold thenE
  dsimp only
  rw [if_pos hf]
  obtain ⟨a, b, c, d⟩ := e
  dsimp only at hg
  subst hg; rfl
theorem upto_do (hl : Run l) (hm : DoSpec l cs t m) (h0 : 0 ≤ f) (hf : f < t) (p : Int) : uptoR m p f = uptoR l p f := by
  refine bef_ext (hm.run.upto p f).ord (hl.upto p f).ord fun x => ?_
  rw [mem_uptoR, mem_uptoR]
  have clo1 : ∀ {e : DElem} {h : List DElem}, e ∈ clo h t → ∃ e', e' ∈ h ∧ e'.made = e.made ∧ e'.key = e.key ∧ thenE f e = thenE f e' := fun {e h} he => by
    rcases mem_clo.1 he with ⟨h3, _⟩ | ⟨e', h3, h4, h5, rfl⟩
    · exact ⟨e, h3, rfl, rfl, rfl⟩
    · exact ⟨e', h3, rfl, rfl, by rw [thenE_closed hf h4, thenE_open h0 h4]⟩
  constructor
  · rintro ⟨e, he, h1, h2, rfl⟩
    have h3 : e ∈ hist m e.key := mem_hist.2 ⟨he, rfl⟩
    rw [hm.at_] at h3
    cases hc : chAt cs e.key with
    | none =>
      rw [hc] at h3
      exact ⟨e, (mem_hist.1 h3).1, h1, h2, rfl⟩
    | some c =>
      rw [hc] at h3
      have h4 : e ∈ clo (hist l e.key) t := by
        unfold doH at h3
        dsimp only at h3
        split at h3
        · rcases List.mem_append.1 h3 with h3 | h3
          · exact h3
          · rw [List.mem_singleton.1 h3] at h1
            exact absurd (show t ≤ f from h1) (by omega)
        · exact h3
      obtain ⟨e', q1, q2, q3, q4⟩ := clo1 h4
      exact ⟨e', (mem_hist.1 q1).1, by omega, by rw [q3]; exact h2, q4⟩
  · rintro ⟨e, he, h1, h2, rfl⟩
    have h3 := hm.at_ e.key
    have h4 : e ∈ hist l e.key := mem_hist.2 ⟨he, rfl⟩
    cases hc : chAt cs e.key with
    | none =>
      rw [hc] at h3
      exact ⟨e, (mem_hist.1 (by rw [h3]; exact h4)).1, h1, h2, rfl⟩
    | some c =>
      rw [hc] at h3
      have h5 : ∀ x, x ∈ clo (hist l e.key) t → x ∈ m := fun x hx => by
        refine (mem_hist (k := e.key)).1 ?_ |>.1
        rw [h3]
        unfold doH
        dsimp only
        split
        · exact List.mem_append_left _ hx
        · exact hx
      by_cases hg : e.gone = 0
      · exact ⟨{ e with gone := t }, h5 _ (mem_clo.2 (.inr ⟨e, h4, hg, by omega, rfl⟩)), h1, h2, by rw [thenE_closed hf hg, thenE_open h0 hg]⟩
      · exact ⟨e, h5 _ (mem_clo.2 (.inl ⟨h4, hg⟩)), h1, h2, rfl⟩
theorem upto_self (hl : Run l) {p : Int} (hp : ∀ e ∈ l, e.key.pfs = p) (ht : lastL l ≤ t) : uptoR l p t = l := by
  refine bef_ext (hl.upto p t).ord hl.ord fun x => ?_
  rw [mem_uptoR]
  have he : ∀ e ∈ l, e.made ≤ t ∧ thenE t e = e := fun e he => by
    have h1 := (lastL_le.1 ht).2 e he
    unfold lastE at h1
    refine ⟨by split at h1 <;> omega, ?_⟩
    unfold thenE
    rw [if_neg (by split at h1 <;> omega)]
  constructor
  · rintro ⟨e, h1, h2, h3, rfl⟩
    rw [(he e h1).2]; exact h1
  · exact fun h1 => ⟨x, h1, (he x h1).1, hp x h1, (he x h1).2.symm⟩
theorem keys_do {p o : Int} {s : ByteArray} (hp : ∀ e ∈ l, e.key.pfs = p) (hm : DoSpec l (setC l p o s) t m) : ∀ e ∈ m, e.key.pfs = p := fun e he => by
  by_cases hk : e.key.pfs = p
  · exact hk
  · have h1 : e ∈ hist m e.key := mem_hist.2 ⟨he, rfl⟩
    rw [hm.at_, setC_other fun i _ h => hk (by rw [h]; rfl)] at h1
    exact hp e (mem_hist.1 h1).1
end
/-! ### The books of the law -/
def rM3 : DA16 := ⟨0, 0, 0, 1, 0, 0, 0, 0, 0, 0, 0, 0, 0, 0, 0, 0⟩
def rS3 : DA16 := ⟨0, 0, 0, 2, 0, 0, 0, 0, 0, 0, 0, 0, 0, 0, 0, 0⟩
def fS3 (f : Int) : DA16 := ⟨0, 0, 0, f, 0, 0, 0, 0, 0, 0, 0, 0, 0, 0, 0, 0⟩
theorem book_S3 {S : List DElem} {f : Int} (hr : Run S) (hp : ∀ e ∈ S, e.key.pfs = 3) (h0 : 0 ≤ f) (h1 : f ≤ 2147483647) (hl : ∀ e ∈ S, lastE e ≤ f) : Book ⟨S, rS3, fS3 f⟩ := by
  refine chkB_zero.1 ?_
  unfold chkB
  rw [if_neg (by simpa using chkR_zero.2 hr), if_pos]
  rw [show rolesB ⟨S, rS3, fS3 f⟩ = true from (show ((rS3.list.zip (fS3 f).list).all fun x => roleB x.1 x.2) = true by simp [rS3, fS3, DA16.list, roleB]; omega), Bool.true_and, List.all_eq_true]
  intro e h
  unfold elemB
  rw [hp e h]
  simp only [Bool.and_eq_true, Bool.or_eq_true, bne_iff_ne, decide_eq_true_eq]
  exact ⟨by show (2 : Int) ≠ 0; decide, .inr (hl e h)⟩
variable {F : Nat} [Big F]
theorem feed_slave3 {M : List DElem} {M' : List DElem} {f t : Int} (hM : Run M) (hS : M = uptoR M' 3 f) (hM' : Run M') (h0 : 0 ≤ f) (h1 : f ≤ t) (h2 : t ≤ 2147483647) :
    realm_Feed F ⟨M, rS3, fS3 f⟩ (ofL (strR M' 3 f t)) = some (⟨uptoR M' 3 t, rS3, fS3 t⟩, 0) := by
  have hl : lookE 3 f t = 0 := lookE_zero.2 ⟨by decide, by decide, h0, h1, h2⟩
  have hb : Book ⟨M, rS3, fS3 f⟩ := book_S3 hM (fun e he => by rw [hS] at he; exact upto_pfs e he) h0 (by omega) (fun e he => by
    rw [hS] at he
    exact (lastL_le.1 (upto_last h0)).2 e he)
  have hm : mergeR M (freshR M' 3 f t) = uptoR M' 3 t := by rw [hS]; exact upto_parts hM' h1
  have hf := feed_str (F := F) (m := M) hM' hM hl (by rw [hm]; exact hM'.upto 3 t)
  rw [hm] at hf
  have hlen := str_length hM' 3 f t
  have hpa := stream_Parse_eq (F := F) (strR M' 3 f t) (by omega)
  rw [parse_str hM' hl] at hpa
  unfold realm_Feed
  rw [realm_Check_eq, Option.bind_some, chkB_zero.2 hb, bne0_false rfl, cond_false, hpa, Option.bind_some]
  dsimp only
  rw [bne0_false rfl, cond_false, show idx rS3.list 3 = some 2 from rfl, Option.bind_some, show ((2 : Int) != 2) = false by decide, cond_false, show idx (fS3 f).list 3 = some f from rfl, Option.bind_some, show (f != f) = false by simp, cond_false, hf, Option.bind_some]
  dsimp only
  rw [bne0_false rfl, cond_false, Option.bind_some]
  rfl
theorem make3 (r : Int) (hr : r = 1 ∨ r = 2) : realm_Make F zB 3 r = some (⟨[], ⟨0, 0, 0, r, 0, 0, 0, 0, 0, 0, 0, 0, 0, 0, 0, 0⟩, fS3 0⟩, 0) := by
  unfold realm_Make
  have hb : Book zB := chkB_zero.1 (by decide)
  rw [realm_look_eq, Option.bind_some, lookB_zero.2 ⟨hb, by decide, by decide⟩, bne0_false rfl, cond_false]
  rcases hr with rfl | rfl <;> rfl
theorem begun_top : annaltop_begun F = some true := by
  have s1 : run_Put F [] ⟨0, 0, 0⟩ (ByteArray.mk #[97]) 1 = some ([⟨⟨0, 0, 0⟩, 1, 0, ByteArray.mk #[97]⟩], 0) := by rw [run_Put_eq]; rfl
  unfold annaltop_begun
  show ((run_Put F [] ⟨0, 0, 0⟩ (ByteArray.mk #[97]) 1).bind _) = _
  rw [s1, Option.bind_some]
  show some (seq (ByteArray.mk #[97]) (ByteArray.mk #[97])) = some true
  rw [seq_self]
theorem content_none {p o : Int} {M : List DElem} (hM : Run M) : content M p o 0 = e0 := by
  refine content_want (by decide) fun i _ => ?_
  have h1 : vAt M (bkF p o i) 0 = none := by
    unfold vAt
    rw [Option.map_eq_none_iff]
    refine atR_none.2 fun e he _ => ?_
    have h2 := (chkE_ok (hM.ok e he)).2.1
    cases hl : live e 0 with
    | false => rfl
    | true => have := (live_iff.1 hl).1; omega
  rw [h1]
  unfold want
  rw [if_neg (by show ¬ 16 * i < 0; omega)]
theorem annaltop_TopFollow_true (F : Nat) [Big F] (texts : List ByteArray) (obj t : Int) (k0 : okAllW 16 okStrW texts) (k1 : okInt .i64 obj) (k2 : okInt .i64 t) : annaltop_TopFollow F texts obj t = some true := by
  unfold annaltop_TopFollow
  show ((realm_Make F zB 3 1).bind _) = _
  rw [make3 1 (.inl rfl), Option.bind_some]
  show ((realm_Make F zB 3 2).bind _) = _
  rw [make3 2 (.inr rfl), Option.bind_some, begun_top, Option.bind_some]
  dsimp only
  rw [Bool.not_true, cond_false, bne0_false rfl, cond_false, Option.bind_some, cond_false]
  obtain ⟨r, hr, hr1⟩ := within_eq (n := obj) (m := 1048577) (by decide) (by decide) k1
  rw [hr, Option.bind_some]
  obtain ⟨T, hT, hT1⟩ : ∃ T : List ByteArray, lslice texts 0 (if (12 : Int) < (texts.length : Int) then 12 else (texts.length : Int)) = some T ∧ T.length ≤ 12 := by
    unfold lslice
    split
    · rw [if_pos ⟨by omega, by omega, by omega⟩]
      exact ⟨_, rfl, by simp; omega⟩
    · rw [if_pos ⟨by omega, by omega, by omega⟩]
      exact ⟨_, rfl, by simp; omega⟩
  rw [hT, Option.bind_some]
  refine loop_rec (R := fun m s q => ∃ (i : Nat) (M : List DElem), s = (M, rS3, fS3 (i : Int), M, (i : Int)) ∧ i ≤ T.length ∧ m = T.length - i ∧ q = true ∧ Run M ∧ (∀ e ∈ M, e.key.pfs = 3) ∧ lastL M ≤ (i : Int) ∧ ∀ (u : Nat) (x : ByteArray), u < i → T[u]? = some x → content M 3 (r : Int) ((u : Int) + 1) = x) ?_ (m := T.length) (by omega)
    ⟨0, [], rfl, by omega, by omega, rfl, Run.nil, by simp, by decide, fun u x h => by omega⟩
  rintro m s q ⟨i, M, rfl, hi, rfl, rfl, hM, hp, hlast, hcon⟩
  have hk : chkK (bkF 3 (r : Int) 0) = 0 := by unfold chkK bkF; rw [if_neg]; dsimp only; omega
  by_cases hlt : i < T.length
  · dsimp only
    rw [decide_eq_true (by omega), cond_true, idx_nat', List.getElem?_eq_getElem hlt, Option.bind_some, w64 (by omega) (by omega)]
    rcases file_Set_cases (F := F) M 3 (r : Int) T[i] ((i : Int) + 1) with ⟨h, e⟩ | ⟨h, e | ⟨M', hm, e⟩⟩
    · left
      rw [e, Option.bind_some, bne0_true h, cond_true]
      refine ⟨_, rfl, ?_⟩
      dsimp only
      have hs : 320 < T[i].size := by
        rcases Nat.lt_or_ge 320 T[i].size with h1 | h1
        · exact h1
        · exact absurd (setE_zero.2 ⟨hM, hk, h1, by omega, by omega, by omega⟩) h
      rw [decide_eq_true (by omega)]; rfl
    · left
      rw [e, Option.bind_some]
      refine ⟨_, rfl, ?_⟩
      dsimp only
      cases decide ((320 : Int) < (T[i].size : Int)) <;> rfl
    · right
      have hlk : lookE 3 (i : Int) ((i : Int) + 1) = 0 := lookE_zero.2 ⟨by decide, by decide, by omega, by omega, by omega⟩
      have hp' := keys_do hp hm
      have hM' := hm.run
      have hu : uptoR M' 3 (i : Int) = M := by rw [upto_do hM hm (by omega) (by omega), upto_self hM hp hlast]
      rw [e, Option.bind_some, bne0_false rfl, cond_false, read_eq hM' hlk, Option.bind_some]
      dsimp only
      rw [bne0_false rfl, cond_false, feed_slave3 hM hu.symm hM' (by omega) (by omega) (by omega), Option.bind_some]
      dsimp only
      rw [bne0_false rfl, cond_false, upto_self hM' hp' hm.last]
      refine ⟨T.length - (i + 1), _, by omega, rfl, i + 1, M', ?_, by omega, rfl, rfl, hM', hp', by have := hm.last; omega, fun u x hux hx => ?_⟩
      · rfl
      · rcases Nat.lt_or_ge u i with h1 | h1
        · rw [set_past hm (by omega)]
          exact hcon u x h1 hx
        · obtain rfl : u = i := by omega
          rw [set_content h hm (by omega)]
          rw [List.getElem?_eq_getElem hlt] at hx
          exact Option.some.inj hx
  · left
    obtain rfl : i = T.length := by omega
    dsimp only
    rw [decide_eq_false (by omega), cond_false]
    refine ⟨_, rfl, ?_⟩
    dsimp only
    obtain ⟨v, hv, hv1⟩ := within_eq (n := t) (m := (T.length : Int) + 1) (by omega) (by omega) k2
    have hlf : lookF M 3 (r : Int) = 0 := lookF_zero.2 ⟨hM, hk⟩
    rw [w64 (by omega) (by omega), hv, Option.bind_some, file_Get_eq, hlf, if_pos rfl, Option.bind_some]
    dsimp only
    have hx : ∃ x : ByteArray, (bif decide ((0 : Int) < (v : Int)) then (idx T (IntKind.i64.wrap ((v : Int) - 1))).bind fun e2 => some e2 else some (ByteArray.mk #[])) = some x ∧ content M 3 (r : Int) (v : Int) = x := by
      cases v with
      | zero => exact ⟨_, rfl, content_none hM⟩
      | succ v =>
        have h1 : v < T.length := by omega
        refine ⟨T[v], ?_, ?_⟩
        · rw [decide_eq_true (by omega), cond_true, w64 (by omega) (by omega), show ((v + 1 : Nat) : Int) - 1 = (v : Int) by omega, idx_nat', List.getElem?_eq_getElem h1, Option.bind_some]
        · rw [show ((v + 1 : Nat) : Int) = (v : Int) + 1 by omega]
          exact hcon v _ h1 (List.getElem?_eq_getElem h1)
    obtain ⟨x, hx1, hx2⟩ := hx
    rw [hx1, Option.bind_some, hx2, seq_self, show (((0 : Int) == 0)) = true from rfl, cond_true, cond_true, show ((fS3 (T.length : Int)).x3 == (T.length : Int)) = true by show ((T.length : Int) == (T.length : Int)) = true; simp, cond_true, eqElem_self _ (by have := hM.len; omega)]
    rfl
end Go.Proofs.Ytiomghobbcgkdaa
