/- Plain Lean: the law RealmFollows, where there are no more keys than a run of it can time. Its conditions: none. -/
import Derived.Test.YtomgholekojenaaWRealmFollowsF
import Derived.Test.YtomgholekojenaaPBook
import Derived.Test.YtomgholekojenaaPStreamL
import Derived.Test.YtomgholekojenaaOpenA
namespace Go.Proofs.Ytomgholekojenaa
set_option linter.unusedVariables false
set_option linter.unusedSimpArgs false

/-! ### What a time that comes later leaves of what was -/
section
variable {l : List DElem} {k : DKey} {t f : Int}
theorem thenE_open {e : DElem} (h0 : 0 ≤ f) (hg : e.gone = 0) : thenE f e = e := by unfold thenE; rw [if_neg (by omega)]
theorem thenE_closed {e : DElem} (hf : f < t) (hg : e.gone = 0) : thenE f { e with gone := t } = e := by
  unfold thenE
  dsimp only
  rw [if_pos hf]
  obtain ⟨a, b, c, d⟩ := e
  dsimp only at hg
  subst hg; rfl
theorem upto_upd {n : List DElem} (hl : Run l) (h0 : 0 ≤ f) (hf : f < t) (hn : ∀ e ∈ n, e.made = t) (hr : Run (upd l k (clo (hist l k) t ++ n))) (p : Int) : uptoR (upd l k (clo (hist l k) t ++ n)) p f = uptoR l p f := by
  refine bef_ext (hr.upto p f).ord (hl.upto p f).ord fun x => ?_
  rw [mem_uptoR, mem_uptoR]
  constructor
  · rintro ⟨e, he, h1, h2, rfl⟩
    rcases (mem_upd hl.ord).1 he with he | he
    · rcases List.mem_append.1 he with he | he
      · rcases mem_clo.1 he with ⟨h3, _⟩ | ⟨e', h3, h4, h5, rfl⟩
        · exact ⟨e, (mem_hist.1 h3).1, h1, h2, rfl⟩
        · exact ⟨e', (mem_hist.1 h3).1, h1, h2, by rw [thenE_closed hf h4, thenE_open h0 h4]⟩
      · have := hn e he; omega
    · exact ⟨e, he.1, h1, h2, rfl⟩
  · rintro ⟨e, he, h1, h2, rfl⟩
    by_cases hk : e.key = k
    · by_cases hg : e.gone = 0
      · refine ⟨{ e with gone := t }, (mem_upd hl.ord).2 (.inl (List.mem_append_left _ (mem_clo.2 (.inr ⟨e, mem_hist.2 ⟨he, hk⟩, hg, by omega, rfl⟩)))), h1, h2, ?_⟩
        rw [thenE_closed hf hg, thenE_open h0 hg]
      · exact ⟨e, (mem_upd hl.ord).2 (.inl (List.mem_append_left _ (mem_clo.2 (.inl ⟨mem_hist.2 ⟨he, hk⟩, hg⟩)))), h1, h2, rfl⟩
    · exact ⟨e, (mem_upd hl.ord).2 (.inr ⟨he, hk⟩), h1, h2, rfl⟩
theorem upto_put (hl : Run l) {v : ByteArray} (h0 : 0 ≤ f) (hf : f < t) (hr : Run (putR l k v t)) (p : Int) : uptoR (putR l k v t) p f = uptoR l p f :=
  upto_upd hl h0 hf (fun e he => by rw [List.mem_singleton.1 he]; rfl) hr p
theorem upto_cut (hl : Run l) (h0 : 0 ≤ f) (hf : f < t) (hr : Run (cutR l k t)) (p : Int) : uptoR (cutR l k t) p f = uptoR l p f := by
  have e : cutR l k t = upd l k (clo (hist l k) t ++ []) := by unfold cutR; rw [List.append_nil]
  rw [e] at hr ⊢
  exact upto_upd hl h0 hf (fun e he => by cases he) hr p
end
/-! ### The books of the law -/
def rM : DA16 := ⟨1, 1, 0, 0, 0, 0, 0, 0, 0, 0, 0, 0, 0, 0, 0, 0⟩
def rS : DA16 := ⟨0, 2, 0, 0, 0, 0, 0, 0, 0, 0, 0, 0, 0, 0, 0, 0⟩
def rU : DA16 := ⟨0, 1, 0, 0, 0, 0, 0, 0, 0, 0, 0, 0, 0, 0, 0, 0⟩
def f0 : DA16 := ⟨0, 0, 0, 0, 0, 0, 0, 0, 0, 0, 0, 0, 0, 0, 0, 0⟩
def fS (f : Int) : DA16 := ⟨0, f, 0, 0, 0, 0, 0, 0, 0, 0, 0, 0, 0, 0, 0, 0⟩
theorem book_of {b : DBook} (hr : Run b.run) (hp : ∀ e ∈ b.run, e.key.pfs = 1) (hb : rolesB b = true) (he : ∀ e ∈ b.run, roleAt b 1 ≠ 0 ∧ (roleAt b 1 = 2 → lastE e ≤ fedAt b 1)) : Book b := by
  refine chkB_zero.1 ?_
  unfold chkB
  rw [if_neg (by simpa using chkR_zero.2 hr), if_pos]
  rw [hb, Bool.true_and, List.all_eq_true]
  intro e h
  unfold elemB
  rw [hp e h]
  obtain ⟨h1, h2⟩ := he e h
  simp only [Bool.and_eq_true, Bool.or_eq_true, bne_iff_ne, decide_eq_true_eq]
  refine ⟨h1, ?_⟩
  by_cases h3 : roleAt b 1 = 2
  · exact .inr (h2 h3)
  · exact .inl h3
theorem book_M {M : List DElem} (hr : Run M) (hp : ∀ e ∈ M, e.key.pfs = 1) : Book ⟨M, rM, f0⟩ :=
  book_of hr hp (show ((rM.list.zip f0.list).all fun x => roleB x.1 x.2) = true by decide) fun e he => ⟨by show (1 : Int) ≠ 0; decide, fun h => absurd (show (1 : Int) = 2 from h) (by decide)⟩
theorem book_S {S : List DElem} {f : Int} (hr : Run S) (hp : ∀ e ∈ S, e.key.pfs = 1) (h0 : 0 ≤ f) (h1 : f ≤ 2147483647) (hl : ∀ e ∈ S, lastE e ≤ f) : Book ⟨S, rS, fS f⟩ :=
  book_of hr hp (show ((rS.list.zip (fS f).list).all fun x => roleB x.1 x.2) = true by simp [rS, fS, DA16.list, roleB]; omega) fun e he => ⟨by show (2 : Int) ≠ 0; decide, fun _ => hl e he⟩
theorem book_U {S : List DElem} (hr : Run S) (hp : ∀ e ∈ S, e.key.pfs = 1) : Book ⟨S, rU, f0⟩ :=
  book_of hr hp (show ((rU.list.zip f0.list).all fun x => roleB x.1 x.2) = true by decide) fun e he => ⟨by show (1 : Int) ≠ 0; decide, fun h => absurd (show (1 : Int) = 2 from h) (by decide)⟩
theorem putP_own {M X : List DElem} (hp : ∀ e ∈ M, e.key.pfs = 1) : putP M 1 X = X := by
  have h1 : loP M 1 = [] := by unfold loP; rw [List.filter_eq_nil_iff]; intro e he; have := hp e he; simp; omega
  have h2 : hiP M 1 = [] := by unfold hiP; rw [List.filter_eq_nil_iff]; intro e he; have := hp e he; simp; omega
  unfold putP; rw [h1, h2, List.append_nil, List.nil_append]
/-- What a write makes of the master. -/
def Next (M M' : List DElem) (t : Int) : Prop := Run M' ∧ (∀ e ∈ M', e.key.pfs = 1) ∧ lastL M' ≤ t ∧ ∀ f, 0 ≤ f → f < t → uptoR M' 1 f = uptoR M 1 f
theorem next_put {M : List DElem} (hr : Run M) (hp : ∀ e ∈ M, e.key.pfs = 1) (k : DKey) (hk : k.pfs = 1) (v : ByteArray) (t : Int) :
    (∃ e, e ≠ 0 ∧ (putB ⟨M, rM, f0⟩ k v t).2 = e) ∨ ∃ M', putB ⟨M, rM, f0⟩ k v t = (⟨M', rM, f0⟩, 0) ∧ Next M M' t := by
  by_cases h : (putB ⟨M, rM, f0⟩ k v t).2 = 0
  · right
    obtain ⟨_, _, _, _, he, e, _⟩ := putB_ok h
    rw [hk, show atP M 1 = M from atP_all hp] at he e
    obtain ⟨h1, h2, h3, h4, h5, h6, h7, _⟩ := put_ok he
    refine ⟨putR M k v t, by rw [e, putP_own hp], h2, fun e he => ?_, by rw [last_put h1 h5 h3]; exact Int.le_refl _, fun f f0' hf => upto_put h1 f0' hf h2 1⟩
    rw [putR_pfs h1 (fun e he => by rw [hp e he, hk]) e he, hk]
  · exact .inl ⟨_, h, rfl⟩
theorem next_cut {M : List DElem} (hr : Run M) (hp : ∀ e ∈ M, e.key.pfs = 1) (k : DKey) (hk : k.pfs = 1) (t : Int) :
    (∃ e, e ≠ 0 ∧ (cutB ⟨M, rM, f0⟩ k t).2 = e) ∨ ∃ M', cutB ⟨M, rM, f0⟩ k t = (⟨M', rM, f0⟩, 0) ∧ Next M M' t := by
  by_cases h : (cutB ⟨M, rM, f0⟩ k t).2 = 0
  · right
    obtain ⟨_, _, _, _, he, e, _⟩ := cutB_ok h
    rw [hk, show atP M 1 = M from atP_all hp] at he e
    obtain ⟨h1, h2, h3, h4, h5, h6, h7⟩ := cut_ok he
    refine ⟨cutR M k t, by rw [e, putP_own hp], h2, fun e he => ?_, last_cut h1 h4 h5 h6, fun f f0' hf => upto_cut h1 f0' hf h2 1⟩
    rw [cutR_pfs h1 (fun e he => by rw [hp e he, hk]) e he, hk]
  · exact .inl ⟨_, h, rfl⟩
theorem next_self {M : List DElem} (hr : Run M) (hp : ∀ e ∈ M, e.key.pfs = 1) {t : Int} (ht : lastL M ≤ t) : Next M M t := ⟨hr, hp, ht, fun _ _ _ => rfl⟩
section
variable {F : Nat} [Big F]
theorem feed_slave {M S : List DElem} {f t : Int} (hM : Run M) (hp : ∀ e ∈ M, e.key.pfs = 1) (hS : S = uptoR M 1 f) (h0 : 0 ≤ f) (h1 : f ≤ t) (h2 : t ≤ 2147483647) :
    realm_Feed F ⟨S, rS, fS f⟩ (ofL (strR M 1 f t)) = some (⟨uptoR M 1 t, rS, fS t⟩, 0) := by
  have hl : lookE 1 f t = 0 := lookE_zero.2 ⟨by decide, by decide, h0, h1, h2⟩
  have hSr : Run S := by rw [hS]; exact hM.upto 1 f
  have hb : Book ⟨S, rS, fS f⟩ := book_S hSr (fun e he => by rw [hS] at he; exact upto_pfs e he) h0 (by omega) (fun e he => by
    rw [hS] at he
    exact (lastL_le.1 (upto_last h0)).2 e he)
  have hm : mergeR S (freshR M 1 f t) = uptoR M 1 t := by rw [hS]; exact upto_parts hM h1
  have hf := feed_str (F := F) (m := S) hM hSr hl (by rw [hm]; exact hM.upto 1 t)
  rw [hm] at hf
  have hlen := str_length hM 1 f t
  have hpa := stream_Parse_eq (F := F) (strR M 1 f t) (by omega)
  rw [parse_str hM hl] at hpa
  unfold realm_Feed
  rw [realm_Check_eq, Option.bind_some, chkB_zero.2 hb, bne0_false rfl, cond_false, hpa, Option.bind_some]
  dsimp only
  rw [bne0_false rfl, cond_false, show idx rS.list 1 = some 2 from rfl, Option.bind_some, show ((2 : Int) != 2) = false by decide, cond_false, show idx (fS f).list 1 = some f from rfl, Option.bind_some, show (f != f) = false by simp, cond_false, hf, Option.bind_some]
  dsimp only
  rw [bne0_false rfl, cond_false, Option.bind_some]
  rfl
end
theorem follows (F : Nat) [Big F] (keys : List DKey) (vals : List ByteArray) (times : List Int) (k : DKey) (val : ByteArray) (hn : keys.length ≤ 1048576) (htm : ∀ x ∈ times, okInt .i64 x) (hvl : vals.length ≤ 9223372036854775807) (htl : times.length ≤ 9223372036854775807) :
    annalkeep_RealmFollows F keys vals times k val = some true := by
  unfold annalkeep_RealmFollows annalkeep_book
  rw [Option.bind_some, Option.bind_some]
  dsimp only
  have hmake : realm_Make F ⟨[], ⟨1, 0, 0, 0, 0, 0, 0, 0, 0, 0, 0, 0, 0, 0, 0, 0⟩, f0⟩ 1 1 = some (⟨[], rM, f0⟩, 0) := by
    unfold realm_Make
    have hb : Book ⟨[], ⟨1, 0, 0, 0, 0, 0, 0, 0, 0, 0, 0, 0, 0, 0, 0, 0⟩, f0⟩ := chkB_zero.1 (by decide)
    rw [realm_look_eq, Option.bind_some, lookB_zero.2 ⟨hb, by decide, by decide⟩, bne0_false rfl, cond_false, show (((1 : Int) != 1) && ((1 : Int) != 2)) = false by decide, cond_false]
    rfl
  show ((realm_Make F ⟨[], ⟨1, 0, 0, 0, 0, 0, 0, 0, 0, 0, 0, 0, 0, 0, 0, 0⟩, f0⟩ 1 1).bind _) = _
  rw [hmake, Option.bind_some]
  dsimp only
  rw [show ((0 : Int) != 0 || (rM.x1 != 1 || (rM.x0 != 1))) = false by decide, cond_false]
  refine loop_rec (R := fun m s q => ∃ (i : Nat) (M : List DElem) (f T : Int), s = (uptoR M 1 f, rS, fS f, M, rM, f0, T, f, (i : Int)) ∧ i ≤ keys.length ∧ m = keys.length - i ∧ q = true ∧ Run M ∧ (∀ e ∈ M, e.key.pfs = 1) ∧ lastL M ≤ T ∧ 0 ≤ f ∧ f < T ∧ T ≤ 1 + 3 * (i : Int)) ?_ (m := keys.length) (by omega) ⟨0, [], 0, 1, rfl, by omega, by omega, rfl, Run.nil, by simp, by decide, by decide, by decide, by decide⟩
  rintro m s q ⟨i, M, f, T, rfl, hi, rfl, rfl, hM, hp, hlast, h0, hfT, hT⟩
  by_cases hlt : i < keys.length
  · right
    dsimp only
    rw [decide_eq_true (by omega), cond_true, idx_nat', List.getElem?_eq_getElem hlt, Option.bind_some]
    generalize hkey : keys[i] = ky
    -- the time
    have time : ∃ t : Int, (bif decide ((i : Int) < (times.length : Int)) then (idx times (i : Int)).bind fun e2 => (annalkeep_Within e2 3).bind fun r4 => some (IntKind.i64.wrap (T + r4)) else some T) = some t ∧ T ≤ t ∧ t ≤ T + 2 := by
      by_cases hti : i < times.length
      · obtain ⟨r, hr, hr1⟩ := within_eq (n := times[i]) (m := 3) (by decide) (by decide) (htm _ (List.getElem_mem hti))
        refine ⟨T + (r : Int), ?_, by omega, by omega⟩
        rw [decide_eq_true (by omega), cond_true, idx_nat', List.getElem?_eq_getElem hti, Option.bind_some, hr, Option.bind_some, w64 (by omega) (by omega)]
      · exact ⟨T, by rw [decide_eq_false (by omega), cond_false], by omega, by omega⟩
    obtain ⟨t, ht, ht1, ht2⟩ := time
    have value : ∃ v : ByteArray, (bif decide ((i : Int) < (vals.length : Int)) then (idx vals (i : Int)).bind fun e3 => some e3 else some (ByteArray.mk #[])) = some v := by
      by_cases hvi : i < vals.length
      · exact ⟨vals[i], by rw [decide_eq_true (by omega), cond_true, idx_nat', List.getElem?_eq_getElem hvi, Option.bind_some]⟩
      · exact ⟨_, by rw [decide_eq_false (by omega), cond_false]⟩
    obtain ⟨v, hv⟩ := value
    rw [ht, Option.bind_some, hv, Option.bind_some, realm_Put_eq, Option.bind_some, realm_Cut_eq]
    generalize hk' : (⟨1, ky.obj, ky.off⟩ : DKey) = k'
    have hk1 : k'.pfs = 1 := by rw [← hk']
    -- what is written
    have write : ∃ M', Next M M' t ∧ ((bif ((i : Int).tmod 4 == 3) then (some (cutB ⟨M, rM, f0⟩ k' t)).bind fun r6 => some (r6.1.run, r6.1.roles, r6.1.fed, r6.2) else some ((putB ⟨M, rM, f0⟩ k' v t).1.run, (putB ⟨M, rM, f0⟩ k' v t).1.roles, (putB ⟨M, rM, f0⟩ k' v t).1.fed, (putB ⟨M, rM, f0⟩ k' v t).2)).bind fun (z : List DElem × DA16 × DA16 × Int) =>
        match z with | (z15, z16, z17, z18) => (bif (z18 == 0) then some (z15, z16, z17) else some (M, rM, f0))) = some (M', rM, f0) := by
      have hself := next_self hM hp (t := t) (by omega)
      cases (i : Int).tmod 4 == 3 with
      | true =>
        rw [cond_true, Option.bind_some, Option.bind_some]
        dsimp only
        rcases next_cut hM hp k' hk1 t with ⟨e, he, h2⟩ | ⟨M', h2, hn⟩
        · rw [h2, show (e == 0) = false by simpa using he, cond_false]
          exact ⟨M, hself, rfl⟩
        · rw [h2]
          exact ⟨M', hn, rfl⟩
      | false =>
        rw [cond_false, Option.bind_some]
        dsimp only
        rcases next_put hM hp k' hk1 v t with ⟨e, he, h2⟩ | ⟨M', h2, hn⟩
        · rw [h2, show (e == 0) = false by simpa using he, cond_false]
          exact ⟨M, hself, rfl⟩
        · rw [h2]
          exact ⟨M', hn, rfl⟩
    obtain ⟨M', ⟨hM', hp', hl', hu'⟩, hw⟩ := write
    have hf' := hu' f h0 (by omega)
    obtain ⟨x, hx, hx2⟩ := Option.bind_eq_some_iff.1 hw
    obtain ⟨z15, z16, z17, z18⟩ := x
    dsimp only at hx2
    rw [hx, Option.bind_some]
    dsimp only
    rw [hx2, Option.bind_some]
    dsimp only
    by_cases h3 : (0 : Int) < (i : Int).tmod 3
    · rw [decide_eq_true h3, cond_true, Option.bind_some]
      dsimp only
      refine ⟨keys.length - (i + 1), _, by omega, rfl, i + 1, M', f, t, ?_, by omega, rfl, rfl, hM', hp', hl', h0, by omega, by omega⟩
      rw [w64 (by omega) (by omega), hf']; rfl
    · have hlk : lookE 1 f t = 0 := lookE_zero.2 ⟨by decide, by decide, h0, by omega, by omega⟩
      rw [decide_eq_false h3, cond_false, read_eq hM' hlk, Option.bind_some]
      dsimp only
      rw [bne0_false rfl, cond_false, feed_slave hM' hp' hf'.symm h0 (by omega) (by omega), Option.bind_some]
      dsimp only
      have hup : uptoE M' 1 t = 0 := uptoE_zero.2 ⟨hM', by decide, by decide, by omega, by omega⟩
      rw [bne0_false rfl, cond_false, stream_Upto_eq, hup, if_pos rfl, Option.bind_some]
      dsimp only
      rw [bne0_false rfl, cond_false, eqElem_self _ (by have := (hM'.upto 1 t).len; omega), Option.bind_some, Bool.not_true, cond_false, show ((fS t).x1 != t) = false by show (t != t) = false; simp, Option.bind_some, cond_false, Option.bind_some]
      dsimp only
      refine ⟨keys.length - (i + 1), _, by omega, rfl, i + 1, M', t, t + 1, ?_, by omega, rfl, rfl, hM', hp', by omega, by omega, by omega, by omega⟩
      rw [w64 (by omega) (by omega), w64 (by omega) (by omega)]; rfl
  · left
    dsimp only
    rw [decide_eq_false (by omega), cond_false]
    refine ⟨_, rfl, ?_⟩
    dsimp only
    have hS := hM.upto 1 f
    have hSp : ∀ e ∈ uptoR M 1 f, e.key.pfs = 1 := fun e he => upto_pfs e he
    have hSl : lastL (uptoR M 1 f) ≤ f := upto_last h0
    generalize uptoR M 1 f = S at hS hSp hSl ⊢
    have hb : Book ⟨S, rS, fS f⟩ := book_S hS hSp h0 (by omega) (fun e he => (lastL_le.1 hSl).2 e he)
    have hup : upB ⟨S, rS, fS f⟩ 1 = (⟨S, rU, f0⟩, 0) := by
      unfold upB
      rw [if_neg (by simpa using lookB_zero.2 ⟨hb, by decide, by decide⟩), if_neg (show ¬ roleAt ⟨S, rS, fS f⟩ 1 ≠ 2 by show ¬ (2 : Int) ≠ 2; decide)]
      rfl
    have hbU : Book ⟨S, rU, f0⟩ := book_U hS hSp
    rw [realm_Up_eq, hup, Option.bind_some]
    dsimp only
    rw [bne0_false rfl, cond_false, show (rU.x1 != 1) = false by decide, cond_false, eqElem_self _ (by have := hS.len; omega), Option.bind_some, Bool.not_true, Option.bind_some, cond_false, realm_Put_eq, Option.bind_some, key_Check_eq, Option.bind_some]
    generalize hk' : (⟨1, k.obj, k.off⟩ : DKey) = k'
    have hk1 : k'.pfs = 1 := by rw [← hk']
    have hat : atP S 1 = S := atP_all hSp
    have hput : (putB ⟨S, rU, f0⟩ k' val T).2 = putE S k' val T := by
      by_cases he : putE S k' val T = 0
      · have he' : putE (atP S k'.pfs) k' val T = 0 := by rw [hk1, hat]; exact he
        have := putB_good (b := ⟨S, rU, f0⟩) hbU (by rw [hk1]; decide) (by rw [hk1]; decide) (by rw [hk1]; rfl) he' (by
          show (putP S k'.pfs _).length ≤ 400
          rw [hk1, hat, putP_own hSp]; exact (putE_zero.1 he).2.2.2)
        rw [this, he]
      · have he' : putE (atP S k'.pfs) k' val T ≠ 0 := by rw [hk1, hat]; exact he
        have := putB_err (b := ⟨S, rU, f0⟩) hbU (by rw [hk1]; decide) (by rw [hk1]; decide) (by rw [hk1]; rfl) he'
        rw [this]
        show putE (atP S k'.pfs) k' val T = _
        rw [hk1, hat]
    rw [hput]
    by_cases hck : chkK k' = 0
    · rw [bne0_false hck, cond_false, realm_Down_eq, Option.bind_some, run_Last_eq, Option.bind_some, if_pos (chkR_zero.2 hS), chkR_zero.2 hS]
      have hdown : downB ⟨S, rU, f0⟩ 1 = (⟨S, rS, fS (lastL S)⟩, 0) := by
        unfold downB
        rw [if_neg (by simpa using lookB_zero.2 ⟨hbU, by decide, by decide⟩), if_neg (show ¬ roleAt ⟨S, rU, f0⟩ 1 ≠ 1 by show ¬ (1 : Int) ≠ 1; decide)]
        dsimp only
        rw [hat]; rfl
      rw [hdown]
      dsimp only
      rw [show ((fS (lastL S)).x1 == lastL S) = true by show (lastL S == lastL S) = true; simp, show ((0 : Int) == 0) = true by decide, cond_true, cond_true, cond_true, eqElem_self _ (by have := hS.len; omega), Option.bind_some]
      have hcases : putE S k' val T = 0 ∨ 40 < val.size ∨ putE S k' val T = 8 := by
        unfold putE
        rw [if_neg (by simpa using chkR_zero.2 hS)]
        by_cases hv : 40 < val.size
        · exact .inr (.inl hv)
        · rw [if_neg (by simpa using chkE_new hck (by omega) (by omega) (by omega)), if_neg (by omega)]
          split
          · exact .inr (.inr rfl)
          · exact .inl rfl
      rcases hcases with h | h | h
      · rw [h]; rfl
      · rw [decide_eq_true (by omega)]
        cases putE S k' val T == 0 <;> rfl
      · rw [h]
        cases decide ((40 : Int) < (val.size : Int)) <;> rfl
    · rw [bne0_true hck, cond_true]
      have : putE S k' val T = chkK k' := by
        have h1 : chkK k' = 1 := (chkK_one k').resolve_left hck
        unfold putE
        have hce : chkE (newE k' val T) = 1 := by unfold chkE newE; dsimp only; rw [if_pos hck]
        rw [if_neg (by simpa using chkR_zero.2 hS), hce, if_pos (by decide), h1]
      rw [this]
      simp
theorem annalkeep_RealmFollows_true (F : Nat) [Big F] (keys : List DKey) (vals : List ByteArray) (times : List Int) (k : DKey) (val : ByteArray) (k0 : okAllW 24 okKey keys) (k1 : okAllW 16 okStrW vals) (k2 : okAllW 8 (okInt .i64) times) (k3 : okKey k) (k4 : okStr val) (k4_ : val.size ≤ reachBytes)
    (b0 : keys.length ≤ 1048576) (b1 : vals.length ≤ 1048576) (b2 : times.length ≤ 1048576) (b4 : val.size ≤ 1048576) : annalkeep_RealmFollows F keys vals times k val = some true :=
  follows F keys vals times k val b0 k2.2 (by omega) (by omega)
end Go.Proofs.Ytomgholekojenaa
