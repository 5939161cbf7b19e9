/-
  Common ground of the proofs over this seat, part 6: Plain law: what was written is read as it was, what was read is written as it was; Walks: LearnBack.
-/
import Derived.Test.YtgbgddmbooaddaaGreatDoorBaseE
namespace Go.Proofs.YtgbgddmbooaddaaGreatDoor
open Go.RowKit

theorem write_zero {x : Inv} {names : List (List UInt8)} (h : (writeE x names).2 = 0) : namedE names = 0 ∧ chk x names.length = 0 ∧ (writeE x names).1 = textE x (names.getD x.a.toNat []) (names.getD x.b.toNat []) := by
  by_cases h1 : namedE names = 0
  · by_cases h2 : chk x names.length = 0
    · exact ⟨h1, h2, by rw [writeE_ok h1 h2]⟩
    · rw [writeE_chk h1 h2] at h
      exact absurd h h2
  · rw [writeE_named h1] at h
    exact absurd h h1
theorem ite_P {α : Type} {Q : α → Prop} {c : Prop} [Decidable c] {a b : α} (ha : Q a) (hb : Q b) : Q (if c then a else b) := by
  split
  · exact ha
  · exact hb
theorem guess_first {w names : List (List UInt8)} {x : Inv} (h : guessE w names = (x, true)) : atI names (w.getD 0 []) = x.a ∨ atI names (w.getD 0 []) = x.b := by
  have key : (fun q : Inv × Bool => q = (x, true) → atI names (w.getD 0 []) = x.a ∨ atI names (w.getD 0 []) = x.b) (guessE w names) := by
    unfold guessE
    refine ite_P (Q := fun q : Inv × Bool => q = (x, true) → atI names (w.getD 0 []) = x.a ∨ atI names (w.getD 0 []) = x.b) (fun h => absurd (congrArg Prod.snd h) (show ¬ (false = true) by decide)) ?_
    refine ite_P (Q := fun q : Inv × Bool => q = (x, true) → atI names (w.getD 0 []) = x.a ∨ atI names (w.getD 0 []) = x.b) (fun h => .inr (congrArg (fun q : Inv × Bool => q.1.b) h)) ?_
    iterate 9 refine ite_P (Q := fun q : Inv × Bool => q = (x, true) → atI names (w.getD 0 []) = x.a ∨ atI names (w.getD 0 []) = x.b) (fun h => .inl (congrArg (fun q : Inv × Bool => q.1.a) h)) ?_
    exact fun h => .inl (congrArg (fun q : Inv × Bool => q.1.a) h)
  exact key h
theorem write_read {x : Inv} {names : List (List UInt8)} (h : (writeE x names).2 = 0) : readL (writeE x names).1 names = (x, 0) := by
  obtain ⟨hn, hc, _⟩ := write_zero h
  have hb : badB (writeE x names).1 names x = false := by simp [badB, h]
  have hg := (good_text hn hb).1
  have hz := chk_zero hc
  have hi := chk_in hc
  have h0 : ¬ atI names ((wordsE (writeE x names).1).getD 0 []) < 0 := by
    rcases guess_first hg with h | h <;> omega
  rw [read_same]
  unfold readE
  rw [if_neg (by rw [hn]; decide), if_neg (by omega), if_neg (by omega), if_neg h0, hg]
  simp [h]
theorem read_write {t : List UInt8} {names : List (List UInt8)} (h : (readL t names).2 = 0) : writeE (readL t names).1 names = (t, 0) := by
  rw [read_same] at h ⊢
  unfold readE at h ⊢
  split
  · rename_i h1; rw [if_pos h1] at h; exact absurd h h1
  rename_i h1
  rw [if_neg h1] at h
  split
  · rename_i h2; rw [if_pos h2] at h; simp at h
  rename_i h2
  rw [if_neg h2] at h
  split
  · rename_i h3; rw [if_pos h3] at h; simp at h
  rename_i h3
  rw [if_neg h3] at h
  split
  · rename_i h4; rw [if_pos h4] at h; simp at h
  rename_i h4
  rw [if_neg h4] at h
  split
  · rename_i h5; rw [if_pos h5] at h; simp at h
  rename_i h5
  simp only [Bool.not_eq_true, Bool.or_eq_false_iff, Bool.not_eq_false', decide_eq_false_iff_not, Decidable.not_not, decide_eq_true_eq, ne_eq] at h5
  exact Prod.ext h5.2 h5.1.2
theorem text_len {x : Inv} {names : List (List UInt8)} (h : (writeE x names).2 = 0) (hn : ∀ s ∈ names, s.length ≤ 40) (hs : x.set.length ≤ 20) : (writeE x names).1.length ≤ 1000 := by
  obtain ⟨_, hc, ht⟩ := write_zero h
  rw [ht]
  obtain ⟨hsk, hsm, hset, _, _⟩ := numE_zero (chk_zero hc).2.2.2.2.1
  have hK := itoa_len (small_wide hsk)
  have hM := itoa_len (small_wide hsm)
  have hS := numsT_len (l := x.set) (fun y hy => small_wide (List.all_eq_true.1 hset y hy))
  have hget : ∀ k, (names.getD k []).length ≤ 40 := fun k => by
    by_cases hk : k < names.length
    · have : names.getD k [] ∈ names := by simp [List.getD, hk]
      exact hn _ this
    · have : names.getD k [] = [] := by simp [List.getD, List.getElem?_eq_none (Nat.le_of_not_lt hk)]
      rw [this]; simp
  have hA := hget x.a.toNat
  have hB := hget x.b.toNat
  unfold textE
  repeat' split
  all_goals (simp only [List.length_append, List.length_cons, List.length_nil]; omega)
theorem read_set' (t : List UInt8) (names : List (List UInt8)) (ht : t.length ≤ 1000) : (readL t names).1.set.length ≤ 1000 := by
  rw [read_same]
  unfold readE
  repeat' split
  all_goals first | (simp [zI]; done) | exact guess_set (words_len ht)
end Go.Proofs.YtgbgddmbooaddaaGreatDoor

namespace Go.Proofs.YtgbgddmbooaddaaGreatDoor
open Go.RowKit

set_option maxRecDepth 100000 in
theorem back_any (x : Inv) (sv : Value) (t : List UInt8) (names : List (List UInt8)) (nv : Value) (w0 : World) (hvars : Vars w0) (hv : IsInts w0 sv x.set) (hnv : IsStrs w0 nv names) : Calls Tryz.prog 4 #[(.agg [.int .u8 x.kind, .int .i64 x.a, .int .i64 x.b, .int .i64 x.k, .int .i64 x.m, sv].toArray), strV t, nv] w0 fun e w' => e = .returned (.bool true) ∧ Ext w0 w' := by
  obtain ⟨ad, cap, b, o, rfl, hcap, hs⟩ := ints_open hv
  refine enterA 70 Tryz.func4 rfl Tryz.ntmps4 rfl (Hp w0 [] [] []) (Hp.init _) ?_
  refine H.seq ?_
  refine H.region ?_
  refine H.boxA rfl (by decide) (fun b3 hb3 => ?_)
  refine H.q (yl_assign rfl) rfl rfl (by decide) ?_
  refine HN.done ?_
  refine HN.keep [(1, _), (2, _), (3, _)] ⟨rfl, rfl, rfl, trivial⟩ ?_
  refine HN.then ?_
  refine H.seq ?_
  refine H.seq ?_
  refine H.region ?_
  refine H.q (yl_loadAgg _ Tryz.isAgg25 Tryz.sizeOf25 rfl (fun w hw => cells_of_blk (hw.blk 0 rfl)) rfl) rfl rfl (by decide) ?_
  refine H.buildSlice (bs28 _ _ _ _ _ _ _ _) rfl (by decide) (fun b14 hb14 => ?_)
  refine H.q (yl_move rfl) rfl rfl (by decide) ?_
  refine H.q (yl_call (xs := [.tmp 14, .const (.slice none 0 0), .tmp 15]) Tryz.call10 (stab_hp _ _ _ _) rfl (fun w hw => wide_any [((.slice ad x.set.length cap), x)] _ [] (.slice none 0 0) names nv w (claims_blk1 (hw.blk 0 rfl) (hv.ext hw.ext)) (rows_nil w) (hnv.ext hw.ext))) rfl rfl (by decide) ?_
  refine H.q (yl_move rfl) rfl rfl (by decide) ?_
  refine H.qg (wn_f rfl rfl (by decide) rfl) (fun hg => yl_sub [(1, _)] ⟨rfl, trivial⟩ (yl_move rfl)) rfl (by decide) ?_
  refine H.qg (wn_f rfl rfl (by decide) rfl) (fun hg => yl_sub [(18, _)] ⟨slT rfl hg, trivial⟩ (yl_slenL rfl Tryz.underlying9 rfl)) rfl (by decide) ?_
  refine H.qg (wn_f rfl rfl (by decide) rfl) (fun hg => yl_sub [(19, _)] ⟨slT rfl hg, trivial⟩ (yl_gtr rfl rfl)) rfl (by decide) ?_
  refine H.q (yl_or rfl rfl) rfl rfl (by decide) ?_
  refine HN.done ?_
  refine HN.keep [(1, _), (2, _), (3, _), (21, _)] ⟨rfl, rfl, rfl, rfl, trivial⟩ ?_
  refine HN.then ?_
  refine H.cond _ rfl (fun t0 => ?_) (fun t0 => ?_)
  · refine H.keep [] trivial ?_
    refine H.seq ?_
    refine H.region ?_
    refine H.q (yl_call (xs := []) Tryz.call11 (stab_hp _ _ _ _) rfl (fun w hw => learns_any w (hvars.ext hw.ext))) rfl rfl (by decide) ?_
    refine H.q (yl_assign rfl) rfl rfl (by decide) ?_
    refine HN.done ?_
    refine HN.keep [(6, _)] ⟨rfl, trivial⟩ ?_
    refine HN.then ?_
    refine HR.ret ?_
    refine HR.then ?_
    refine HR.ret1 _ Tryz.results4 rfl (fun w hw => ?_)
    exact ⟨rfl, hw.ext⟩
  · have hw0 : wideB [x] [] names = false := by
      cases hh : wideB [x] [] names with
      | false => rfl
      | true => simp only [List.map_cons, List.map_nil, hh, Bool.true_or] at t0; cases t0
    have hts : t.length ≤ 200 := by
      simp only [List.map_cons, List.map_nil, hw0, Bool.not_false, gv, if_true, Bool.false_or] at t0
      have h5 : (t.length : Int) ≤ 200 := by simpa using t0
      omega
    obtain ⟨hn1, hn2⟩ := wide_names hw0
    have hx1 := (wide_sets hw0).2 x (by simp)
    have hn2' : ∀ s ∈ names, s.length ≤ 1000 := fun s hs => Nat.le_trans (hn2 s hs) (by decide)
    refine H.keep [(1, _), (2, _), (3, _)] ⟨rfl, rfl, rfl, trivial⟩ ?_
    refine HN.skip ?_
    refine HN.then ?_
    refine H.seq ?_
    refine H.region ?_
    refine H.q (yl_loadAgg _ Tryz.isAgg25 Tryz.sizeOf25 rfl (fun w hw => cells_of_blk (hw.blk 1 rfl)) rfl) rfl rfl (by decide) ?_
    refine H.q (yl_move rfl) rfl rfl (by decide) ?_
    refine H.q (yl_call (xs := [.tmp 24, .tmp 25]) Tryz.call12 (stab_hp _ _ _ _) rfl (fun w hw => write_any x (.slice ad x.set.length cap) names nv w (by omega) (hv.ext hw.ext) (by omega) hn2' (hnv.ext hw.ext) (hvars.ext hw.ext))) rfl rfl (by decide) ?_
    refine H.q (yl_move rfl) rfl rfl (by decide) ?_
    refine H.q (yl_extract _ rfl rfl) rfl rfl (by decide) ?_
    refine H.q (yl_extract _ rfl rfl) rfl rfl (by decide) ?_
    refine H.q (yl_assign rfl) rfl rfl (by decide) ?_
    refine H.q (yl_assign rfl) rfl rfl (by decide) ?_
    refine HN.done ?_
    refine HN.keep [(1, _), (2, _), (3, _), (7, _), (8, _)] ⟨rfl, rfl, rfl, rfl, rfl, trivial⟩ ?_
    refine HN.then ?_
    refine H.seqCut (α := Unit) (fun _ => [(1, strV t), (2, nv)]) (fun _ => Hp w0 [(b14, ex (.cells #[.int .u8 x.kind, .int .i64 x.a, .int .i64 x.b, .int .i64 x.k, .int .i64 x.m, .slice ad x.set.length cap] 25)), (b3, ex (.cells #[.int .u8 x.kind, .int .i64 x.a, .int .i64 x.b, .int .i64 x.k, .int .i64 x.m, .slice ad x.set.length cap] 25))] [] []) ?_ (fun _ => ?_)
    · refine H.seq ?_
      refine H.region ?_
      refine H.q (yl_move rfl) rfl rfl (by decide) ?_
      refine H.q (yl_eql rfl rfl) rfl rfl (by decide) ?_
      refine HN.done ?_
      refine HN.keep [(1, _), (2, _), (3, _), (7, _), (30, _)] ⟨rfl, rfl, rfl, rfl, rfl, trivial⟩ ?_
      refine HN.then ?_
      refine H.cond _ rfl (fun t1 => ?_) (fun t1 => ?_)
      · replace t1 : (writeE x names).2 = 0 := of_decide_eq_true t1
        have htl := text_len t1 hn2 hx1
        have hwr := write_read t1
        refine H.keep [(1, _), (2, _), (3, _), (7, _)] ⟨rfl, rfl, rfl, rfl, trivial⟩ ?_
        refine H.seq ?_
        refine H.region ?_
        refine H.q (yl_move rfl) rfl rfl (by decide) ?_
        refine H.q (yl_move rfl) rfl rfl (by decide) ?_
        refine H.call (α := Value) (xs := [.tmp 32, .tmp 33]) (fun sv => .tuple #[.agg (cellsI (sv, (readL (writeE x names).1 names).1)).toArray, .int .i64 (readL (writeE x names).1 names).2]) (fun _ => True) (fun sv => [rowI sv (readL (writeE x names).1 names).1.set]) (fun _ => []) Tryz.call14 rfl (by decide) (fun w hw => (read_any (writeE x names).1 names nv w htl (by omega) hn2' (hnv.ext hw.ext) (hvars.ext hw.ext)).mono fun e w' h => by obtain ⟨sv, h1, h2, h3, h4⟩ := h; exact ⟨sv, h1, trivial, h4, fun _ hh => by cases hh⟩) (fun sv1 _ => ?_)
        refine H.pull (fun w hw => rowI_open (hw.row 0 rfl)) (fun ho => ?_)
        obtain ⟨ads1, caps1, bs1, rfl, hcs1, _, _⟩ := ho
        refine H.q (yl_move rfl) rfl rfl (by decide) ?_
        refine H.q (yl_extract (.agg (cellsI (.slice ads1 (readL (writeE x names).1 names).1.set.length caps1, (readL (writeE x names).1 names).1)).toArray) rfl rfl) rfl rfl (by decide) ?_
        refine H.q (yl_extract (.int .i64 (readL (writeE x names).1 names).2) rfl rfl) rfl rfl (by decide) ?_
        refine H.allocA Tryz.zeroValue25 (by decide) (fun b9 hb9 => ?_)
        refine H.storeA 0 rfl rfl rfl Tryz.sizeOf25 rfl rfl ?_
        refine H.q (yl_assign rfl) rfl rfl (by decide) ?_
        refine HN.done ?_
        refine HN.keep [(1, _), (2, _), (3, _), (9, _), (10, _)] ⟨rfl, rfl, rfl, rfl, rfl, trivial⟩ ?_
        refine HN.then ?_
        refine H.seq ?_
        refine H.region ?_
        refine H.q (yl_move rfl) rfl rfl (by decide) ?_
        refine H.q (yl_neq rfl rfl) rfl rfl (by decide) ?_
        refine H.q (yl_move rfl) rfl rfl (by decide) ?_
        refine H.qg (wn_f rfl rfl (by decide) rfl) (fun hg => yl_sub [(3, _)] ⟨rfl, trivial⟩ (yl_loadAgg _ Tryz.isAgg25 Tryz.sizeOf25 rfl (fun w hw => cells_of_blk (hw.blk 2 rfl)) rfl)) rfl (by decide) ?_
        refine H.qg (wn_f rfl rfl (by decide) rfl) (fun hg => yl_sub [(9, _)] ⟨rfl, trivial⟩ (yl_loadAgg _ Tryz.isAgg25 Tryz.sizeOf25 rfl (fun w hw => cells_of_blk (hw.blk 0 rfl)) rfl)) rfl (by decide) ?_
        refine H.qg (wn_f rfl rfl (by decide) rfl) (fun hg => yl_sub [(40, _), (41, _)] ⟨slT rfl hg, slT rfl hg, trivial⟩ (yl_call (xs := [.tmp 40, .tmp 41]) Tryz.call16 (stab_hp _ _ _ _) rfl (fun w hw => same_any x (readL (writeE x names).1 names).1 _ _ w (by omega) (by have := read_set' (writeE x names).1 names htl; omega) (hv.ext hw.ext) (IsInts.of_row (hw.row 0 rfl))))) rfl (by decide) ?_
        refine H.qg (wn_f rfl rfl (by decide) rfl) (fun hg => yl_sub [(42, _)] ⟨slT rfl hg, trivial⟩ (yl_not rfl)) rfl (by decide) ?_
        refine H.q (yl_or rfl rfl) rfl rfl (by decide) ?_
        refine HN.done ?_
        refine HN.keep [(1, _), (2, _), (44, _)] ⟨rfl, rfl, rfl, trivial⟩ ?_
        refine HN.then ?_
        refine H.cond _ rfl (fun t2 => ?_) (fun t2 => ?_)
        · exfalso
          rw [hwr] at t2
          simp [sameB_refl] at t2
          done
        · skip
          refine H.keep [(1, _), (2, _)] ⟨rfl, rfl, trivial⟩ ?_
          refine HN.skip ?_
          refine HN.then ?_
          exact H.at' () ⟨rfl, rfl, trivial⟩ (fun w hw => hw.drop.dropR)
      · refine H.keep [(1, _), (2, _)] ⟨rfl, rfl, trivial⟩ ?_
        refine HN.skip ?_
        refine HN.then ?_
        exact H.at' () ⟨rfl, rfl, trivial⟩ (fun w hw => hw)
    · refine H.seq ?_
      refine H.region ?_
      refine H.q (yl_move rfl) rfl rfl (by decide) ?_
      refine H.q (yl_move rfl) rfl rfl (by decide) ?_
      refine H.call (α := Value) (xs := [.tmp 46, .tmp 47]) (fun sv => .tuple #[.agg (cellsI (sv, (readL t names).1)).toArray, .int .i64 (readL t names).2]) (fun _ => True) (fun sv => [rowI sv (readL t names).1.set]) (fun _ => []) Tryz.call14 rfl (by decide) (fun w hw => (read_any t names nv w (by omega) (by omega) hn2' (hnv.ext hw.ext) (hvars.ext hw.ext)).mono fun e w' h => by obtain ⟨sv, h1, h2, h3, h4⟩ := h; exact ⟨sv, h1, trivial, h4, fun _ hh => by cases hh⟩) (fun sv2 _ => ?_)
      refine H.pull (fun w hw => rowI_open (hw.row 0 rfl)) (fun ho => ?_)
      obtain ⟨ads2, caps2, bs2, rfl, hcs2, _, _⟩ := ho
      refine H.q (yl_move rfl) rfl rfl (by decide) ?_
      refine H.q (yl_extract (.agg (cellsI (.slice ads2 (readL t names).1.set.length caps2, (readL t names).1)).toArray) rfl rfl) rfl rfl (by decide) ?_
      refine H.q (yl_extract (.int .i64 (readL t names).2) rfl rfl) rfl rfl (by decide) ?_
      refine H.allocA Tryz.zeroValue25 (by decide) (fun b11 hb11 => ?_)
      refine H.storeA 0 rfl rfl rfl Tryz.sizeOf25 rfl rfl ?_
      refine H.q (yl_assign rfl) rfl rfl (by decide) ?_
      refine HN.done ?_
      refine HN.keep [(1, _), (2, _), (8, _), (11, _)] ⟨rfl, rfl, rfl, rfl, trivial⟩ ?_
      refine HN.then ?_
      refine H.seq ?_
      refine H.seq ?_
      refine H.region ?_
      refine H.q (yl_move rfl) rfl rfl (by decide) ?_
      refine H.q (yl_neq rfl rfl) rfl rfl (by decide) ?_
      refine HN.done ?_
      refine HN.keep [(1, _), (2, _), (11, _), (52, _)] ⟨rfl, rfl, rfl, rfl, trivial⟩ ?_
      refine HN.then ?_
      refine H.cond _ rfl (fun t3 => ?_) (fun t3 => ?_)
      · skip
        refine H.keep [] trivial ?_
        refine H.seq ?_
        refine H.region ?_
        refine H.q (yl_call (xs := []) Tryz.call11 (stab_hp _ _ _ _) rfl (fun w hw => learns_any w (hvars.ext hw.ext))) rfl rfl (by decide) ?_
        refine H.q (yl_assign rfl) rfl rfl (by decide) ?_
        refine HN.done ?_
        refine HN.keep [(6, _)] ⟨rfl, trivial⟩ ?_
        refine HN.then ?_
        refine HR.ret ?_
        refine HR.then ?_
        refine HR.ret1 _ Tryz.results4 rfl (fun w hw => ?_)
        exact ⟨rfl, hw.ext⟩
      · replace t3 := of_decide_eq_false t3
        have hrw := read_write (t := t) (names := names) (by simpa using t3)
        refine H.keep [(1, _), (2, _), (11, _)] ⟨rfl, rfl, rfl, trivial⟩ ?_
        refine HN.skip ?_
        refine HN.then ?_
        refine H.seq ?_
        refine H.region ?_
        refine H.q (yl_loadAgg _ Tryz.isAgg25 Tryz.sizeOf25 rfl (fun w hw => cells_of_blk (hw.blk 0 rfl)) rfl) rfl rfl (by decide) ?_
        refine H.q (yl_move rfl) rfl rfl (by decide) ?_
        refine H.q (yl_call (xs := [.tmp 55, .tmp 56]) Tryz.call12 (stab_hp _ _ _ _) rfl (fun w hw => write_any (readL t names).1 _ names nv w (read_set' t names (by omega)) (IsInts.of_row (hw.row 0 rfl)) (by omega) hn2' (hnv.ext hw.ext) (hvars.ext hw.ext))) rfl rfl (by decide) ?_
        refine H.q (yl_move rfl) rfl rfl (by decide) ?_
        refine H.q (yl_extract _ rfl rfl) rfl rfl (by decide) ?_
        refine H.q (yl_extract _ rfl rfl) rfl rfl (by decide) ?_
        refine H.q (yl_assign rfl) rfl rfl (by decide) ?_
        refine H.q (yl_assign rfl) rfl rfl (by decide) ?_
        refine HN.done ?_
        refine HN.keep [(1, _), (7, _), (12, _)] ⟨rfl, rfl, rfl, trivial⟩ ?_
        refine HN.then ?_
        refine H.seq ?_
        refine H.region ?_
        refine H.q (yl_move rfl) rfl rfl (by decide) ?_
        refine H.q (yl_eql rfl rfl) rfl rfl (by decide) ?_
        refine H.q (yl_move rfl) rfl rfl (by decide) ?_
        refine H.qg (wn_t rfl rfl (by decide) rfl) (fun hg => yl_sub [(7, _)] ⟨rfl, trivial⟩ (yl_move rfl)) rfl (by decide) ?_
        refine H.qg (wn_t rfl rfl (by decide) rfl) (fun hg => yl_sub [(1, _)] ⟨rfl, trivial⟩ (yl_move rfl)) rfl (by decide) ?_
        refine H.qg (wn_t rfl rfl (by decide) rfl) (fun hg => yl_sub [(63, _), (64, _)] ⟨slT rfl hg, slT rfl hg, trivial⟩ (yl_seqlL rfl rfl)) rfl (by decide) ?_
        refine H.q (yl_and rfl rfl) rfl rfl (by decide) ?_
        refine H.q (yl_move rfl) rfl rfl (by decide) ?_
        refine H.qg (wn_t rfl rfl (by decide) rfl) (fun hg => yl_call (xs := []) Tryz.call11 (stab_hp _ _ _ _) rfl (fun w hw => learns_any w (hvars.ext hw.ext))) rfl (by decide) ?_
        refine H.q (yl_and rfl rfl) rfl rfl (by decide) ?_
        refine H.q (yl_assign rfl) rfl rfl (by decide) ?_
        refine HN.done ?_
        refine HN.keep [(6, _)] ⟨rfl, trivial⟩ ?_
        refine HN.then ?_
        refine HR.ret ?_
        refine HR.ret1 _ Tryz.results4 rfl (fun w hw => ?_)
        refine ⟨?_, hw.ext⟩
        rw [hrw]
        simp

end Go.Proofs.YtgbgddmbooaddaaGreatDoor
