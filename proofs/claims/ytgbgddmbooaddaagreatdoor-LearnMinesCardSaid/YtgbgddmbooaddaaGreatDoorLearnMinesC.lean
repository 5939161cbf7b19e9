/-
  Ground of the proof of LearnMines, part 3: Walks: the claims that words might be, as package learn has them; The calculus, continued: scopes with a label that is jumped to; Walks: Read.
-/
import Derived.ScopeJumps
import Derived.Shelf.SortM.Plain
import Derived.Shelf.SortM.SortNone
import Derived.Ground.SlgmProg
import Derived.Shelf.SlGeneric
import Derived.Test.YtgbgddmbooaddaaGreatDoorProg
import Derived.Laws.MakeOwn
import Derived.Maps.RangeRun
import Derived.Laws.IdiomRangeMap
import Derived.WideKeyPair
import Derived.DeepKeys4
import Derived.Test.YtgbgddmbooaddaaGreatDoorLearnMinesB
namespace Go.Proofs.YtgbgddmbooaddaaGreatDoor
open Go.RowKit


/-- What the code of guesses holds between its tests. -/
structure GZ where
  v : Value
  sv : Value
  kd : Int
  b : Int
  k : Int


theorem l1_len (w names : List (List UInt8)) : (l1E w names).length ≤ 1 := by
  unfold l1E
  split
  · simp
  · split <;> simp
theorem l2_len (w names : List (List UInt8)) : (l2E w names).length ≤ 1 := by
  unfold l2E
  split <;> simp
theorem l3_len (w names : List (List UInt8)) : (l3E w names).length ≤ 1 := by
  unfold l3E
  split <;> simp
theorem snoc_len {α : Type} (l : List α) (x : α) : (l ++ [x]).length = l.length + 1 := by simp
theorem setL_short {w : List (List UInt8)} (h : w.length < 3) : setL w = [] := by
  unfold setL
  split
  · rw [List.drop_eq_nil_of_le (by omega)]; rfl
  · rfl

set_option maxRecDepth 100000 in
theorem guesses_any (ws names : List (List UInt8)) (wv nv : Value) (w0 : World) (hw0 : 0 < ws.length) (hwl : ws.length ≤ 1001) (hws : ∀ s ∈ ws, s.length ≤ 1000) (hwv : IsStrs w0 wv ws) (hnl : names.length ≤ 1000) (hnv : IsStrs w0 nv names) (hvars : Vars w0) : Calls Tryz.prog 44 #[wv, nv] w0 fun e w' => ∃ v sv, e = .returned v ∧ Hp w0 [] [⟨sv, (setL ws).length, 2, 1, (setL ws).map (.int .i64)⟩, ⟨v, (guessesE ws names).length, 25, 6, clS sv (guessesE ws names)⟩] [] w' := by
  obtain ⟨ad, cap, b, o, rfl, hcap, hs⟩ := strs_open hwv
  obtain ⟨adn, capn, bn, on, rfl, hcapn, hsn⟩ := sl_open strV hnv
  have hb1 := l1_len ws names
  have hb2 := l2_len ws names
  have hb3 := l3_len ws names
  refine enterA 168 Tryz.func44 rfl Tryz.ntmps44 rfl (Hp w0 [] [] []) (Hp.init _) ?_
  refine H.seq ?_
  refine H.region ?_
  refine H.box1 rfl rfl (by decide) (fun b3 hb3 => ?_)
  refine H.q (yl_assign rfl) rfl rfl (by decide) ?_
  refine HN.done ?_
  refine HN.keep [(0, _), (3, _)] ⟨rfl, rfl, trivial⟩ ?_
  refine HN.then ?_
  refine H.seq ?_
  refine H.region ?_
  refine H.q (yl_makeFunc (xs := [.tmp 3]) rfl) rfl rfl (by decide) ?_
  refine H.q (yl_assign rfl) rfl rfl (by decide) ?_
  refine HN.done ?_
  refine HN.keep [(0, _), (5, _)] ⟨rfl, rfl, trivial⟩ ?_
  refine HN.then ?_
  refine H.seq ?_
  refine H.region ?_
  refine H.q (yl_move rfl) rfl rfl (by decide) ?_
  refine H.q (yl_move rfl) rfl rfl (by decide) ?_
  refine H.q (yl_ix 0 Tryz.underlying26 Tryz.sizeOf9 (hs 0 hw0).1 rfl rfl rfl hw0) rfl rfl (by decide) ?_
  refine H.q (yl_load Tryz.isAgg9 rfl (fun w hw => cell_ext hw.ext (hs 0 hw0).2)) rfl rfl (by decide) ?_
  refine H.q (yl_callv (xs := [.tmp 25]) Tryz.call75 (stab_hp _ _ _ _) rfl rfl (fun w hw => atL_v (ws.getD 0 []) names (.slice adn names.length capn) b3 w (by omega) (hnv.ext hw.ext) (hw.cell 0 rfl rfl))) rfl rfl (by decide) ?_
  refine H.q (yl_build (bd25_1 _) rfl) rfl rfl (by decide) ?_
  refine H.allocA Tryz.zeroValue25 (by decide) (fun b6 hb6 => ?_)
  refine H.storeA 0 rfl rfl rfl Tryz.sizeOf25 rfl rfl ?_
  refine HN.done ?_
  refine HN.keep [(0, _), (5, _), (6, _)] ⟨rfl, rfl, rfl, trivial⟩ ?_
  refine HN.then ?_
  refine H.seq ?_
  refine H.seq ?_
  refine H.region ?_
  refine H.q (yl_move rfl) rfl rfl (by decide) ?_
  refine H.q (yl_len rfl Tryz.underlying26 rfl) rfl rfl (by decide) ?_
  refine H.q (yl_lss rfl rfl) rfl rfl (by decide) ?_
  refine HN.done ?_
  refine HN.keep [(0, _), (5, _), (6, _), (30, _)] ⟨rfl, rfl, rfl, rfl, trivial⟩ ?_
  refine HN.then ?_
  refine H.cond _ rfl (fun t0 => ?_) (fun t0 => ?_)
  · simp only [decide_eq_true_eq] at t0
    refine H.keep [] trivial ?_
    refine H.seq ?_
    refine H.region ?_
    refine H.q (yl_assign rfl) rfl rfl (by decide) ?_
    refine HN.done ?_
    refine HN.keep [(4, _)] ⟨rfl, trivial⟩ ?_
    refine HN.then ?_
    refine HR.ret ?_
    refine HR.then ?_
    refine HR.ret1 _ Tryz.results44 rfl (fun w hw => ?_)
    refine ⟨.slice none 0 0, .slice none 0 0, rfl, ?_⟩
    rw [show guessesE ws names = [] from if_pos t0, setL_short (by omega)]
    exact (hw.base.rowNil 25 6).rowNil 2 1
  · simp only [decide_eq_false_iff_not] at t0
    have h1 : 1 < ws.length := by omega
    have h2 : 2 < ws.length := by omega
    refine H.keep [(0, _), (5, _), (6, _)] ⟨rfl, rfl, rfl, trivial⟩ ?_
    refine HN.skip ?_
    refine HN.then ?_
    refine H.seq ?_
    refine H.region ?_
    refine H.q (yl_assign rfl) rfl rfl (by decide) ?_
    refine HN.done ?_
    refine HN.keep [(0, _), (5, _), (6, _), (7, _)] ⟨rfl, rfl, rfl, rfl, trivial⟩ ?_
    refine HN.then ?_
    refine H.seq ?_
    refine H.region ?_
    refine H.q (yl_move rfl) rfl rfl (by decide) ?_
    refine H.q (yl_ix 2 Tryz.underlying26 Tryz.sizeOf9 (hs 2 h2).1 rfl rfl rfl h2) rfl rfl (by decide) ?_
    refine H.q (yl_load Tryz.isAgg9 rfl (fun w hw => cell_ext hw.ext (hs 2 h2).2)) rfl rfl (by decide) ?_
    refine H.q (yl_call (xs := [.tmp 34]) Tryz.call76 (stab_hp _ _ _ _) rfl (fun w hw => numL_any (ws.getD 2 []) w (getD_le hws _) (hvars.ext hw.ext))) rfl rfl (by decide) ?_
    refine H.q (yl_move rfl) rfl rfl (by decide) ?_
    refine H.q (yl_extract _ rfl rfl) rfl rfl (by decide) ?_
    refine H.q (yl_extract _ rfl rfl) rfl rfl (by decide) ?_
    refine H.q (yl_assign rfl) rfl rfl (by decide) ?_
    refine H.q (yl_assign rfl) rfl rfl (by decide) ?_
    refine HN.done ?_
    refine HN.keep [(0, _), (5, _), (6, _), (7, _), (8, _), (9, _)] ⟨rfl, rfl, rfl, rfl, rfl, rfl, trivial⟩ ?_
    refine HN.then ?_
    refine H.seq ?_
    refine H.region ?_
    refine H.makeMap strV (Value.int .u8 ·) (by decide) (fun b38 hb38 => ?_)
    refine H.insert (ve := (Value.int .u8 ·)) 0 [61, 61] 1 Tryz.keyed9 Tryz.underlying126 strV_inj (by intro p hp; refine ⟨p.1, rfl, ?_⟩; revert p; decide) ⟨_, rfl, by decide⟩ rfl rfl rfl rfl ?_
    refine H.insert (ve := (Value.int .u8 ·)) 0 [62, 61] 3 Tryz.keyed9 Tryz.underlying126 strV_inj (by intro p hp; refine ⟨p.1, rfl, ?_⟩; revert p; decide) ⟨_, rfl, by decide⟩ rfl rfl rfl rfl ?_
    refine H.insert (ve := (Value.int .u8 ·)) 0 [60, 61] 4 Tryz.keyed9 Tryz.underlying126 strV_inj (by intro p hp; refine ⟨p.1, rfl, ?_⟩; revert p; decide) ⟨_, rfl, by decide⟩ rfl rfl rfl rfl ?_
    refine H.insert (ve := (Value.int .u8 ·)) 0 [33, 61] 5 Tryz.keyed9 Tryz.underlying126 strV_inj (by intro p hp; refine ⟨p.1, rfl, ?_⟩; revert p; decide) ⟨_, rfl, by decide⟩ rfl rfl rfl rfl ?_
    refine H.q (yl_move rfl) rfl rfl (by decide) ?_
    refine H.q (yl_assign rfl) rfl rfl (by decide) ?_
    refine HN.done ?_
    refine HN.keep [(0, _), (5, _), (6, _), (7, _), (8, _), (9, _), (10, _)] ⟨rfl, rfl, rfl, rfl, rfl, rfl, rfl, trivial⟩ ?_
    refine HN.then ?_
    refine H.seq ?_
    refine H.region ?_
    refine H.makeMap strV (Value.int .u8 ·) (by decide) (fun b40 hb40 => ?_)
    refine H.insert (ve := (Value.int .u8 ·)) 0 [61, 61] 7 Tryz.keyed9 Tryz.underlying126 strV_inj (by intro p hp; refine ⟨p.1, rfl, ?_⟩; revert p; decide) ⟨_, rfl, by decide⟩ rfl rfl rfl rfl ?_
    refine H.insert (ve := (Value.int .u8 ·)) 0 [33, 61] 8 Tryz.keyed9 Tryz.underlying126 strV_inj (by intro p hp; refine ⟨p.1, rfl, ?_⟩; revert p; decide) ⟨_, rfl, by decide⟩ rfl rfl rfl rfl ?_
    refine H.insert (ve := (Value.int .u8 ·)) 0 [60] 9 Tryz.keyed9 Tryz.underlying126 strV_inj (by intro p hp; refine ⟨p.1, rfl, ?_⟩; revert p; decide) ⟨_, rfl, by decide⟩ rfl rfl rfl rfl ?_
    refine H.insert (ve := (Value.int .u8 ·)) 0 [60, 61] 10 Tryz.keyed9 Tryz.underlying126 strV_inj (by intro p hp; refine ⟨p.1, rfl, ?_⟩; revert p; decide) ⟨_, rfl, by decide⟩ rfl rfl rfl rfl ?_
    refine H.q (yl_move rfl) rfl rfl (by decide) ?_
    refine H.q (yl_assign rfl) rfl rfl (by decide) ?_
    refine HN.done ?_
    refine HN.keep [(0, _), (5, _), (6, _), (7, _), (8, _), (9, _), (10, _), (11, _)] ⟨rfl, rfl, rfl, rfl, rfl, rfl, rfl, rfl, trivial⟩ ?_
    refine HN.cls (Hp w0 [_, _, _, _] [⟨.slice none 0 0, 0, 25, 6, []⟩] []) (fun w hw => hw.rowNil 25 6) ?_
    refine HN.then ?_
    refine H.seqCut (fun z : GZ => [(0, .slice ad ws.length cap), (5, .func (.func 75) #[] #[.pointer (some ⟨b3, 0, none⟩)]), (6, .pointer (some ⟨b6, 0, none⟩)), (7, z.v), (8, .int .i64 (numL (ws.getD 2 [])).1)]) (fun z => Hp w0 [(b6, ex (.cells ([.int .u8 z.kd, .int .i64 (atI names (ws.getD 0 [])), .int .i64 z.b, .int .i64 z.k, .int .i64 0, .slice none 0 0]).toArray 25)), (b3, ex (.cells [.slice adn names.length capn].toArray 26))] [⟨z.v, (l1E ws names).length, 25, 6, clS (.slice none 0 0) (l1E ws names)⟩] []) ?_ (fun z => ?_)
    · refine H.block ?_
      refine H.seq ?_
      refine H.region ?_
      refine H.q (yl_move rfl) rfl rfl (by decide) ?_
      refine H.q (yl_len rfl Tryz.underlying26 rfl) rfl rfl (by decide) ?_
      refine H.q (yl_eql rfl rfl) rfl rfl (by decide) ?_
      refine H.q (yl_move rfl) rfl rfl (by decide) ?_
      refine H.qg (wn_t rfl rfl (by decide) rfl) (fun hg => yl_sub [(9, _)] ⟨rfl, trivial⟩ (yl_move rfl)) rfl (by decide) ?_
      refine H.q (yl_and rfl rfl) rfl rfl (by decide) ?_
      refine H.q (yl_assign rfl) rfl rfl (by decide) ?_
      refine HN.done ?_
      refine HN.keep [(0, _), (5, _), (6, _), (7, _), (8, _), (10, _), (11, _), (42, _)] ⟨rfl, rfl, rfl, rfl, rfl, rfl, rfl, rfl, trivial⟩ ?_
      refine HN.then ?_
      refine H.cond _ rfl (fun t1 => ?_) (fun t1 => ?_)
      · have hl1 : l1E ws names = [⟨kindsE (ws.getD 1 []), (atI names (ws.getD 0 [])), 0, if kindsE (ws.getD 1 []) = 5 then 0 else (numL (ws.getD 2 [])).1, 0, []⟩] := if_pos t1
        refine H.keep [(0, _), (5, _), (6, _), (7, _), (8, _), (10, _)] ⟨rfl, rfl, rfl, rfl, rfl, rfl, trivial⟩ ?_
        refine H.seq ?_
        refine H.region ?_
        refine H.q (yl_move rfl) rfl rfl (by decide) ?_
        refine H.q (yl_move rfl) rfl rfl (by decide) ?_
        refine H.q (yl_ix 1 Tryz.underlying26 Tryz.sizeOf9 (hs 1 h1).1 rfl rfl rfl h1) rfl rfl (by decide) ?_
        refine H.q (yl_load Tryz.isAgg9 rfl (fun w hw => cell_ext hw.ext (hs 1 h1).2)) rfl rfl (by decide) ?_
        refine H.q (yl_to (yl_lookup (ve := (Value.int .u8 ·)) 1 (ws.getD 1 []) Tryz.keyed9 Tryz.underlying126 Tryz.zeroValue22 strV_inj (by intro p hp; refine ⟨p.1, rfl, ?_⟩; revert p; decide) ⟨_, rfl, getD_le hws _⟩ rfl rfl rfl) (kinds_look _)) rfl rfl (by decide) ?_
        refine H.q (yl_fieldAddr _ fa25_0 rfl) rfl rfl (by decide) ?_
        refine H.store1 2 rfl rfl rfl rfl Tryz.sizeOf22 rfl rfl ?_
        refine HN.done ?_
        refine HN.keep [(0, _), (5, _), (6, _), (7, _), (8, _)] ⟨rfl, rfl, rfl, rfl, rfl, trivial⟩ ?_
        refine HN.then ?_
        -- branchy seq 1, live: [0, 5, 6, 7, 8]
        refine H.seq ?_
        refine H.seq ?_
        refine H.region ?_
        refine H.q (yl_fieldAddr _ fa25_0 rfl) rfl rfl (by decide) ?_
        refine H.q (yl_load Tryz.isAgg22 rfl (fun w hw => hw.cell 2 rfl rfl)) rfl rfl (by decide) ?_
        refine H.q (yl_neq rfl rfl) rfl rfl (by decide) ?_
        refine HN.done ?_
        refine HN.keep [(0, _), (5, _), (6, _), (7, _), (8, _), (57, _)] ⟨rfl, rfl, rfl, rfl, rfl, rfl, trivial⟩ ?_
        refine HN.then ?_
        refine H.cond _ rfl (fun t2 => ?_) (fun t2 => ?_)
        · have hk5 : ¬ kindsE (ws.getD 1 []) = 5 := of_decide_eq_true t2
          rw [if_neg hk5] at hl1
          refine H.keep [(0, _), (5, _), (6, _), (7, _), (8, _)] ⟨rfl, rfl, rfl, rfl, rfl, trivial⟩ ?_
          refine H.region ?_
          refine H.q (yl_move rfl) rfl rfl (by decide) ?_
          refine H.q (yl_fieldAddr _ fa25_3 rfl) rfl rfl (by decide) ?_
          refine H.store1 2 rfl rfl rfl rfl Tryz.sizeOf2 rfl rfl ?_
          refine HN.done ?_
          refine HN.keep [(0, _), (5, _), (6, _), (7, _), (8, _)] ⟨rfl, rfl, rfl, rfl, rfl, trivial⟩ ?_
          refine HN.then ?_
          refine H.region ?_
          refine H.q (yl_move rfl) rfl rfl (by decide) ?_
          refine H.q (yl_loadAgg _ Tryz.isAgg25 Tryz.sizeOf25 rfl (fun w hw => cells_of_blk (hw.blk 2 rfl)) rfl) rfl rfl (by decide) ?_
          refine H.buildSlice (bs28 _ _ _ _ _ _ _ _) rfl (by decide) (fun b62 hb62 => ?_)
          first | refine H.append 0 [.int .u8 (kindsE (ws.getD 1 [])), .int .i64 (atI names (ws.getD 0 [])), .int .i64 0, .int .i64 (numL (ws.getD 2 [])).1, .int .i64 0, .slice none 0 0] el28 rfl rfl rfl rfl (fun w hw => newsN (hw.blk 0 rfl)) (by simp [Value.oneCell']) (by simp only; omega) (by decide) (by decide) (fun v63 => ?_) | refine H.append 0 [.int .u8 (kindsE (ws.getD 1 [])), .int .i64 (atI names (ws.getD 0 [])), .int .i64 0, .int .i64 0, .int .i64 0, .slice none 0 0] el28 rfl rfl rfl rfl (fun w hw => newsN (hw.blk 0 rfl)) (by simp [Value.oneCell']) (by simp only; omega) (by decide) (by decide) (fun v63 => ?_)
          refine H.q (yl_assign rfl) rfl rfl (by decide) ?_
          refine HN.done ?_
          refine HN.keep [(0, _), (5, _), (6, _), (7, _), (8, _)] ⟨rfl, rfl, rfl, rfl, rfl, trivial⟩ ?_
          refine HN.block ?_
          refine HN.then ?_
          refine H.at' ⟨v63, .slice none 0 0, kindsE (ws.getD 1 []), 0, (numL (ws.getD 2 [])).1⟩ ⟨rfl, rfl, rfl, rfl, rfl, trivial⟩ (fun w hw => ?_)
          rw [hl1, clS_one (kinds_two _)]
          exact hw.drop.drop.drop
        · have hk5 : kindsE (ws.getD 1 []) = 5 := by simpa using t2
          rw [if_pos hk5] at hl1
          refine H.keep [(0, _), (5, _), (6, _), (7, _), (8, _)] ⟨rfl, rfl, rfl, rfl, rfl, trivial⟩ ?_
          refine HN.skip ?_
          refine HN.then ?_
          refine H.region ?_
          refine H.q (yl_move rfl) rfl rfl (by decide) ?_
          refine H.q (yl_loadAgg _ Tryz.isAgg25 Tryz.sizeOf25 rfl (fun w hw => cells_of_blk (hw.blk 2 rfl)) rfl) rfl rfl (by decide) ?_
          refine H.buildSlice (bs28 _ _ _ _ _ _ _ _) rfl (by decide) (fun b62 hb62 => ?_)
          first | refine H.append 0 [.int .u8 (kindsE (ws.getD 1 [])), .int .i64 (atI names (ws.getD 0 [])), .int .i64 0, .int .i64 (numL (ws.getD 2 [])).1, .int .i64 0, .slice none 0 0] el28 rfl rfl rfl rfl (fun w hw => newsN (hw.blk 0 rfl)) (by simp [Value.oneCell']) (by simp only; omega) (by decide) (by decide) (fun v63 => ?_) | refine H.append 0 [.int .u8 (kindsE (ws.getD 1 [])), .int .i64 (atI names (ws.getD 0 [])), .int .i64 0, .int .i64 0, .int .i64 0, .slice none 0 0] el28 rfl rfl rfl rfl (fun w hw => newsN (hw.blk 0 rfl)) (by simp [Value.oneCell']) (by simp only; omega) (by decide) (by decide) (fun v63 => ?_)
          refine H.q (yl_assign rfl) rfl rfl (by decide) ?_
          refine HN.done ?_
          refine HN.keep [(0, _), (5, _), (6, _), (7, _), (8, _)] ⟨rfl, rfl, rfl, rfl, rfl, trivial⟩ ?_
          refine HN.block ?_
          refine HN.then ?_
          refine H.at' ⟨v63, .slice none 0 0, kindsE (ws.getD 1 []), 0, 0⟩ ⟨rfl, rfl, rfl, rfl, rfl, trivial⟩ (fun w hw => ?_)
          rw [hl1, clS_one (kinds_two _)]
          exact hw.drop.drop.drop
      · refine H.keep [(0, _), (5, _), (6, _), (7, _), (8, _), (11, _)] ⟨rfl, rfl, rfl, rfl, rfl, rfl, trivial⟩ ?_
        refine H.seq ?_
        refine H.region ?_
        refine H.q (yl_move rfl) rfl rfl (by decide) ?_
        refine H.q (yl_len rfl Tryz.underlying26 rfl) rfl rfl (by decide) ?_
        refine H.q (yl_eql rfl rfl) rfl rfl (by decide) ?_
        refine H.q (yl_assign rfl) rfl rfl (by decide) ?_
        refine HN.done ?_
        refine HN.keep [(0, _), (5, _), (6, _), (7, _), (8, _), (11, _), (64, _)] ⟨rfl, rfl, rfl, rfl, rfl, rfl, rfl, trivial⟩ ?_
        refine HN.then ?_
        refine H.cond _ rfl (fun t3 => ?_) (fun t3 => ?_)
        · simp only [decide_eq_true_eq] at t3
          have hl1 : l1E ws names = [⟨pairsE (ws.getD 1 []), (atI names (ws.getD 0 [])), atI names (ws.getD 2 []), 0, 0, []⟩] := (if_neg (by rw [t1]; decide)).trans (if_pos t3)
          refine H.keep [(0, _), (5, _), (6, _), (7, _), (8, _), (11, _)] ⟨rfl, rfl, rfl, rfl, rfl, rfl, trivial⟩ ?_
          refine H.seq ?_
          refine H.region ?_
          refine H.q (yl_move rfl) rfl rfl (by decide) ?_
          refine H.q (yl_move rfl) rfl rfl (by decide) ?_
          refine H.q (yl_ix 1 Tryz.underlying26 Tryz.sizeOf9 (hs 1 h1).1 rfl rfl rfl h1) rfl rfl (by decide) ?_
          refine H.q (yl_load Tryz.isAgg9 rfl (fun w hw => cell_ext hw.ext (hs 1 h1).2)) rfl rfl (by decide) ?_
          refine H.q (yl_to (yl_lookup (ve := (Value.int .u8 ·)) 0 (ws.getD 1 []) Tryz.keyed9 Tryz.underlying126 Tryz.zeroValue22 strV_inj (by intro p hp; refine ⟨p.1, rfl, ?_⟩; revert p; decide) ⟨_, rfl, getD_le hws _⟩ rfl rfl rfl) (pairs_look _)) rfl rfl (by decide) ?_
          refine H.q (yl_fieldAddr _ fa25_0 rfl) rfl rfl (by decide) ?_
          refine H.store1 2 rfl rfl rfl rfl Tryz.sizeOf22 rfl rfl ?_
          refine HN.done ?_
          refine HN.keep [(0, _), (5, _), (6, _), (7, _), (8, _)] ⟨rfl, rfl, rfl, rfl, rfl, trivial⟩ ?_
          refine HN.then ?_
          refine H.seq ?_
          refine H.region ?_
          refine H.q (yl_move rfl) rfl rfl (by decide) ?_
          refine H.q (yl_move rfl) rfl rfl (by decide) ?_
          refine H.q (yl_ix 2 Tryz.underlying26 Tryz.sizeOf9 (hs 2 h2).1 rfl rfl rfl h2) rfl rfl (by decide) ?_
          refine H.q (yl_load Tryz.isAgg9 rfl (fun w hw => cell_ext hw.ext (hs 2 h2).2)) rfl rfl (by decide) ?_
          refine H.q (yl_callv (xs := [.tmp 77]) Tryz.call75 (stab_hp _ _ _ _) rfl rfl (fun w hw => atL_v (ws.getD 2 []) names (.slice adn names.length capn) b3 w (by omega) (hnv.ext hw.ext) (hw.cell 3 rfl rfl))) rfl rfl (by decide) ?_
          refine H.q (yl_fieldAddr _ fa25_2 rfl) rfl rfl (by decide) ?_
          refine H.store1 2 rfl rfl rfl rfl Tryz.sizeOf3 rfl rfl ?_
          refine HN.done ?_
          refine HN.keep [(0, _), (5, _), (6, _), (7, _), (8, _)] ⟨rfl, rfl, rfl, rfl, rfl, trivial⟩ ?_
          refine HN.then ?_
          refine H.region ?_
          refine H.q (yl_move rfl) rfl rfl (by decide) ?_
          refine H.q (yl_loadAgg _ Tryz.isAgg25 Tryz.sizeOf25 rfl (fun w hw => cells_of_blk (hw.blk 2 rfl)) rfl) rfl rfl (by decide) ?_
          refine H.buildSlice (bs28 _ _ _ _ _ _ _ _) rfl (by decide) (fun b82 hb82 => ?_)
          refine H.append 0 [.int .u8 (pairsE (ws.getD 1 [])), .int .i64 (atI names (ws.getD 0 [])), .int .i64 (atI names (ws.getD 2 [])), .int .i64 0, .int .i64 0, .slice none 0 0] el28 rfl rfl rfl rfl (fun w hw => newsN (hw.blk 0 rfl)) (by simp [Value.oneCell']) (by simp only; omega) (by decide) (by decide) (fun v83 => ?_)
          refine H.q (yl_assign rfl) rfl rfl (by decide) ?_
          refine HN.done ?_
          refine HN.keep [(0, _), (5, _), (6, _), (7, _), (8, _)] ⟨rfl, rfl, rfl, rfl, rfl, trivial⟩ ?_
          refine HN.block ?_
          refine HN.then ?_
          refine H.at' ⟨v83, .slice none 0 0, pairsE (ws.getD 1 []), atI names (ws.getD 2 []), 0⟩ ⟨rfl, rfl, rfl, rfl, rfl, trivial⟩ (fun w hw => ?_)
          rw [hl1, clS_one (pairs_two _)]
          exact hw.drop.drop.drop
        · simp only [decide_eq_false_iff_not] at t3
          have hl1 : l1E ws names = [] := (if_neg (by rw [t1]; decide)).trans (if_neg t3)
          refine H.keep [(0, _), (5, _), (6, _), (7, _), (8, _)] ⟨rfl, rfl, rfl, rfl, rfl, trivial⟩ ?_
          refine HN.skip ?_
          refine HN.block ?_
          refine HN.then ?_
          refine H.at' ⟨.slice none 0 0, .slice none 0 0, 0, 0, 0⟩ ⟨rfl, rfl, rfl, rfl, rfl, trivial⟩ (fun w hw => ?_)
          rw [hl1]
          exact hw.drop.drop
    · refine H.seqCut (fun z : GZ => [(0, .slice ad ws.length cap), (5, .func (.func 75) #[] #[.pointer (some ⟨b3, 0, none⟩)]), (6, .pointer (some ⟨b6, 0, none⟩)), (7, z.v), (8, .int .i64 (numL (ws.getD 2 [])).1)]) (fun z => Hp w0 [(b6, ex (.cells ([.int .u8 z.kd, .int .i64 (atI names (ws.getD 0 [])), .int .i64 z.b, .int .i64 z.k, .int .i64 0, .slice none 0 0]).toArray 25)), (b3, ex (.cells [.slice adn names.length capn].toArray 26))] [⟨z.sv, (setL ws).length, 2, 1, (setL ws).map (.int .i64)⟩, ⟨z.v, (l1E ws names ++ l2E ws names).length, 25, 6, clS z.sv (l1E ws names ++ l2E ws names)⟩] []) ?_ (fun z => ?_)
      · refine H.seq ?_
        refine H.region ?_
        refine H.q (yl_move rfl) rfl rfl (by decide) ?_
        refine H.q (yl_ix 1 Tryz.underlying26 Tryz.sizeOf9 (hs 1 h1).1 rfl rfl rfl h1) rfl rfl (by decide) ?_
        refine H.q (yl_load Tryz.isAgg9 rfl (fun w hw => cell_ext hw.ext (hs 1 h1).2)) rfl rfl (by decide) ?_
        refine H.q (yl_seqlL rfl rfl) rfl rfl (by decide) ?_
        refine HN.done ?_
        refine HN.keep [(0, _), (5, _), (6, _), (7, _), (8, _), (87, _)] ⟨rfl, rfl, rfl, rfl, rfl, rfl, trivial⟩ ?_
        refine HN.then ?_
        refine H.cond _ rfl (fun t4 => ?_) (fun t4 => ?_)
        · have t4 := of_decide_eq_true t4
          have hl2 : l2E ws names = [⟨2, (atI names (ws.getD 0 [])), 0, 0, 0, setL ws⟩] := if_pos t4
          have hsl : setL ws = (ws.drop 2).map fun s => (numL s).1 := if_pos t4
          have h92 : (if cap = 2 then ad else ad.map (·.add (2 * 1))) = some ⟨b, o + 2, none⟩ := by
            rw [if_neg (by omega), (hs 0 hw0).1]
            simp [add_at]
          refine H.keep [(0, _), (5, _), (6, _), (7, _), (8, _)] ⟨rfl, rfl, rfl, rfl, rfl, trivial⟩ ?_
          refine H.seq ?_
          refine H.region ?_
          refine H.q (yl_fieldAddr _ fa25_1 rfl) rfl rfl (by decide) ?_
          refine H.q (yl_load Tryz.isAgg3 rfl (fun w hw => hw.cell 0 rfl rfl)) rfl rfl (by decide) ?_
          refine H.q (yl_build (bd25_01 _ _) rfl) rfl rfl (by decide) ?_
          refine H.allocA Tryz.zeroValue25 (by decide) (fun b12 hb12 => ?_)
          refine H.storeA 0 rfl rfl rfl Tryz.sizeOf25 rfl rfl ?_
          refine HN.done ?_
          refine HN.keep [(0, _), (5, _), (6, _), (7, _), (8, _), (12, _)] ⟨rfl, rfl, rfl, rfl, rfl, rfl, trivial⟩ ?_
          refine HN.then ?_
          refine H.seq ?_
          refine H.seq ?_
          refine H.region ?_
          refine H.q (yl_move rfl) rfl rfl (by decide) ?_
          refine H.q (yl_slfrom 2 Tryz.underlying26 Tryz.sizeOf9 rfl rfl rfl (by omega)) rfl rfl (by decide) ?_
          refine H.q (yl_len rfl Tryz.underlying26 rfl) rfl rfl (by decide) ?_
          refine H.q (yl_move rfl) rfl rfl (by decide) ?_
          refine HN.done ?_
          refine HN.keep [(0, _), (5, _), (6, _), (7, _), (8, _), (12, _), (92, _), (93, _), (94, _)] ⟨rfl, rfl, rfl, rfl, rfl, rfl, rfl, rfl, rfl, trivial⟩ ?_
          refine HN.then ?_
          refine H.block ?_
          refine H.loop (fun y : Nat × Value × List Int => [(0, .slice ad ws.length cap), (5, .func (.func 75) #[] #[.pointer (some ⟨b3, 0, none⟩)]), (6, .pointer (some ⟨b6, 0, none⟩)), (7, z.v), (8, .int .i64 (numL (ws.getD 2 [])).1), (12, .pointer (some ⟨b12, 0, none⟩)), (92, (.slice (if cap = 2 then ad else ad.map (·.add (2 * 1))) (ws.length - 2) (cap - 2))), (93, .int .i64 ((ws.length - 2 : Nat) : Int)), (94, .int .i64 (y.1 : Int))]) (fun y => y.1 ≤ ws.length - 2 ∧ y.2.2 = ((ws.drop 2).take y.1).map (fun s => (numL s).1) ∧ y.2.2.length ≤ y.1) (fun y => Hp w0 ((b12, ex (.cells ([.int .u8 2, .int .i64 (atI names (ws.getD 0 [])), .int .i64 0, .int .i64 0, .int .i64 0, y.2.1].toArray) 25)) :: [(b6, ex (.cells ([.int .u8 z.kd, .int .i64 (atI names (ws.getD 0 [])), .int .i64 z.b, .int .i64 z.k, .int .i64 0, .slice none 0 0]).toArray 25)), (b3, ex (.cells [.slice adn names.length capn].toArray 26))]) [⟨y.2.1, y.2.2.length, 2, 1, y.2.2.map (.int .i64)⟩, ⟨z.v, (l1E ws names).length, 25, 6, clS (.slice none 0 0) (l1E ws names)⟩] []) (fun y => ws.length - y.1) (0, .slice none 0 0, []) ⟨Nat.zero_le _, rfl, Nat.zero_le _⟩ ⟨rfl, rfl, rfl, rfl, rfl, rfl, rfl, rfl, rfl, trivial⟩ (fun w hw => hw.rowNil 2 1) (fun y hI => ?_)
          obtain ⟨k, sv, acc⟩ := y
          obtain ⟨hk0, hk1, hk2⟩ := hI
          simp only at hk0 hk1 hk2
          refine H.seq ?_
          refine H.region ?_
          refine H.q (yl_lss rfl rfl) rfl rfl (by decide) ?_
          refine HN.done ?_
          refine HN.keep [(0, _), (5, _), (6, _), (7, _), (8, _), (12, _), (92, _), (93, _), (94, _), (95, _)] ⟨rfl, rfl, rfl, rfl, rfl, rfl, rfl, rfl, rfl, rfl, trivial⟩ ?_
          refine HN.then ?_
          refine H.seq ?_
          refine H.cond _ rfl (fun t5 => ?_) (fun t5 => ?_)
          · simp only [decide_eq_true_eq] at t5
            have hk : k < ws.length - 2 := by omega
            refine H.keep [(0, _), (5, _), (6, _), (7, _), (8, _), (12, _), (92, _), (93, _), (94, _)] ⟨rfl, rfl, rfl, rfl, rfl, rfl, rfl, rfl, rfl, trivial⟩ ?_
            refine HN.skip ?_
            refine HN.then ?_
            refine H.seq ?_
            refine H.block ?_
            refine H.seq ?_
            refine H.region ?_
            refine H.q (yl_ix k Tryz.underlying26 Tryz.sizeOf9 h92 rfl rfl rfl hk) rfl rfl (by decide) ?_
            refine H.q (yl_load (v := strV (ws.getD (k + 2) [])) Tryz.isAgg9 rfl (fun w hw => by rw [show o + 2 + k = o + (k + 2) by omega]; exact cell_ext hw.ext (hs (k + 2) (by omega)).2)) rfl rfl (by decide) ?_
            refine H.q (yl_assign rfl) rfl rfl (by decide) ?_
            refine HN.done ?_
            refine HN.keep [(0, _), (5, _), (6, _), (7, _), (8, _), (12, _), (14, _), (92, _), (93, _), (94, _)] ⟨rfl, rfl, rfl, rfl, rfl, rfl, rfl, rfl, rfl, rfl, trivial⟩ ?_
            refine HN.then ?_
            refine H.seq ?_
            refine H.region ?_
            refine H.q (yl_move rfl) rfl rfl (by decide) ?_
            refine H.q (yl_call (xs := [.tmp 99]) Tryz.call76 (stab_hp _ _ _ _) rfl (fun w hw => numL_any (ws.getD (k + 2) []) w (getD_le hws _) (hvars.ext hw.ext))) rfl rfl (by decide) ?_
            refine H.q (yl_move rfl) rfl rfl (by decide) ?_
            refine H.q (yl_extract _ rfl rfl) rfl rfl (by decide) ?_
            refine H.q (yl_extract _ rfl rfl) rfl rfl (by decide) ?_
            refine H.q (yl_assign rfl) rfl rfl (by decide) ?_
            refine H.q (yl_assign rfl) rfl rfl (by decide) ?_
            refine HN.done ?_
            refine HN.keep [(0, _), (5, _), (6, _), (7, _), (8, _), (12, _), (15, _), (92, _), (93, _), (94, _)] ⟨rfl, rfl, rfl, rfl, rfl, rfl, rfl, rfl, rfl, rfl, trivial⟩ ?_
            refine HN.then ?_
            refine H.region ?_
            refine H.q (yl_fieldAddr _ fa25_5 rfl) rfl rfl (by decide) ?_
            refine H.q (yl_load Tryz.isAgg23 rfl (fun w hw => hw.cell 0 rfl rfl)) rfl rfl (by decide) ?_
            refine H.q (yl_move rfl) rfl rfl (by decide) ?_
            refine H.buildSlice (bs23 _) rfl (by decide) (fun b106 hb106 => ?_)
            refine H.append 0 [.int .i64 (numL (ws.getD (k + 2) [])).1] el23 rfl rfl rfl rfl (fun w hw => news1 (hw.blk 0 rfl)) (by simp [Value.oneCell']) (by simp only; omega) (by decide) (by decide) (fun v107 => ?_)
            refine H.pull (fun w hw => Rw.open (hw.row 0 rfl)) (fun hv => ?_)
            obtain ⟨ad8, cap8, b8, hv8, _⟩ := hv
            simp only at hv8
            subst hv8
            refine H.q (yl_fieldAddr _ fa25_5 rfl) rfl rfl (by decide) ?_
            refine H.store1 1 rfl rfl rfl rfl Tryz.sizeOf23 rfl rfl ?_
            refine HN.done ?_
            refine HN.keep [(0, _), (5, _), (6, _), (7, _), (8, _), (12, _), (92, _), (93, _), (94, _)] ⟨rfl, rfl, rfl, rfl, rfl, rfl, rfl, rfl, rfl, trivial⟩ ?_
            refine HN.block ?_
            refine HN.then ?_
            refine H.region ?_
            refine H.q (yl_add rfl rfl _ rfl (by omega)) rfl rfl (by decide) ?_
            refine H.q (yl_move rfl) rfl rfl (by decide) ?_
            refine HN.done ?_
            refine HN.keep [(0, _), (5, _), (6, _), (7, _), (8, _), (12, _), (92, _), (93, _), (94, _)] ⟨rfl, rfl, rfl, rfl, rfl, rfl, rfl, rfl, rfl, trivial⟩ ?_
            refine HN.then ?_
            refine H.at (k + 1, _, acc ++ [(numL (ws.getD (k + 2) [])).1]) ⟨⟨by simp only; omega, ?_, by simp only [List.length_append, List.length_cons, List.length_nil]; omega⟩, by simp only; omega⟩ ⟨rfl, rfl, rfl, rfl, rfl, rfl, rfl, rfl, rfl, trivial⟩ (fun w hw => by simpa using hw.drop)
            simp only
            rw [take_len (by rw [List.length_drop]; omega), List.map_append, ← hk1]
            congr 1
            simp [List.getD, show k + 2 < ws.length by omega, Nat.add_comm]
          · simp only [decide_eq_false_iff_not] at t5
            have hacc : acc = setL ws := by rw [hk1, hsl, List.take_of_length_le (by rw [List.length_drop]; omega)]
            refine H.pull (fun w hw => Rw.open (hw.row 0 rfl)) (fun hv => ?_)
            obtain ⟨ad8, cap8, b8, hv8, _⟩ := hv
            simp only at hv8
            subst hv8
            refine H.keep [(0, _), (5, _), (6, _), (7, _), (8, _), (12, _)] ⟨rfl, rfl, rfl, rfl, rfl, rfl, trivial⟩ ?_
            refine HX.exit ?_
            refine HX.then ?_
            refine HX.then ?_
            refine HX.hit ?_
            refine HN.then ?_
            refine H.region ?_
            refine H.q (yl_move rfl) rfl rfl (by decide) ?_
            refine H.q (yl_loadAgg _ Tryz.isAgg25 Tryz.sizeOf25 rfl (fun w hw => cells_of_blk (hw.blk 0 rfl)) rfl) rfl rfl (by decide) ?_
            refine H.buildSlice (bs28 _ _ _ _ _ _ _ _) rfl (by decide) (fun b112 hb112 => ?_)
            refine H.append 1 [.int .u8 2, .int .i64 (atI names (ws.getD 0 [])), .int .i64 0, .int .i64 0, .int .i64 0, .slice ad8 acc.length cap8] el28 rfl rfl rfl rfl (fun w hw => newsN (hw.blk 0 rfl)) (by simp [Value.oneCell']) (by simp only; omega) (by decide) (by decide) (fun v113 => ?_)
            refine H.q (yl_assign rfl) rfl rfl (by decide) ?_
            refine HN.done ?_
            refine HN.keep [(0, _), (5, _), (6, _), (7, _), (8, _)] ⟨rfl, rfl, rfl, rfl, rfl, trivial⟩ ?_
            refine HN.then ?_
            refine H.at' ⟨v113, .slice ad8 acc.length cap8, z.kd, z.b, z.k⟩ ⟨rfl, rfl, rfl, rfl, rfl, trivial⟩ (fun w hw => ?_)
            rw [hl2, ← hacc, clS_append, clS_set rfl, clS_l1 _ (.slice none 0 0), List.length_append]
            exact hw.drop.drop
        · have t4 := of_decide_eq_false t4
          have hl2 : l2E ws names = [] := if_neg t4
          have hsl : setL ws = [] := if_neg t4
          refine H.keep [(0, _), (5, _), (6, _), (7, _), (8, _)] ⟨rfl, rfl, rfl, rfl, rfl, trivial⟩ ?_
          refine HN.skip ?_
          refine HN.then ?_
          refine H.at' ⟨z.v, .slice none 0 0, z.kd, z.b, z.k⟩ ⟨rfl, rfl, rfl, rfl, rfl, trivial⟩ (fun w hw => ?_)
          rw [hl2, hsl, List.append_nil]
          exact hw.rowNil 2 1
      · refine H.seqCut (fun z : GZ => [(0, .slice ad ws.length cap), (5, .func (.func 75) #[] #[.pointer (some ⟨b3, 0, none⟩)]), (6, .pointer (some ⟨b6, 0, none⟩)), (7, z.v), (8, .int .i64 (numL (ws.getD 2 [])).1)]) (fun z => Hp w0 [(b6, ex (.cells ([.int .u8 z.kd, .int .i64 (atI names (ws.getD 0 [])), .int .i64 z.b, .int .i64 z.k, .int .i64 0, .slice none 0 0]).toArray 25)), (b3, ex (.cells [.slice adn names.length capn].toArray 26))] [⟨z.sv, (setL ws).length, 2, 1, (setL ws).map (.int .i64)⟩, ⟨z.v, (l1E ws names ++ l2E ws names ++ l3E ws names).length, 25, 6, clS z.sv (l1E ws names ++ l2E ws names ++ l3E ws names)⟩] []) ?_ (fun z => ?_)
        · refine H.seq ?_
          refine H.region ?_
          refine H.q (yl_move rfl) rfl rfl (by decide) ?_
          refine H.q (yl_ix 1 Tryz.underlying26 Tryz.sizeOf9 (hs 1 h1).1 rfl rfl rfl h1) rfl rfl (by decide) ?_
          refine H.q (yl_load Tryz.isAgg9 rfl (fun w hw => cell_ext hw.ext (hs 1 h1).2)) rfl rfl (by decide) ?_
          refine H.q (yl_seqlL rfl rfl) rfl rfl (by decide) ?_
          refine H.q (yl_move rfl) rfl rfl (by decide) ?_
          refine H.qg (wn_t rfl rfl (by decide) rfl) (fun hg => yl_sub [(0, _)] ⟨rfl, trivial⟩ (yl_move rfl)) rfl (by decide) ?_
          refine H.qg (wn_t rfl rfl (by decide) rfl) (fun hg => yl_sub [(119, _)] ⟨slT rfl hg, trivial⟩ (yl_len rfl Tryz.underlying26 rfl)) rfl (by decide) ?_
          refine H.qg (wn_t rfl rfl (by decide) rfl) (fun hg => yl_sub [(120, _)] ⟨slT rfl hg, trivial⟩ (yl_eql rfl rfl)) rfl (by decide) ?_
          refine H.q (yl_and rfl rfl) rfl rfl (by decide) ?_
          refine HN.done ?_
          refine HN.keep [(0, _), (5, _), (6, _), (7, _), (8, _), (122, _)] ⟨rfl, rfl, rfl, rfl, rfl, rfl, trivial⟩ ?_
          refine HN.then ?_
          refine H.cond _ rfl (fun t6 => ?_) (fun t6 => ?_)
          · have hl3 : l3E ws names = [⟨6, (atI names (ws.getD 0 [])), 0, (numL (ws.getD 4 [])).1, (numL (ws.getD 2 [])).1, []⟩] := if_pos t6
            simp only [Bool.and_eq_true, decide_eq_true_eq] at t6
            have h4 : 4 < ws.length := by omega
            refine H.keep [(0, _), (5, _), (6, _), (7, _), (8, _)] ⟨rfl, rfl, rfl, rfl, rfl, trivial⟩ ?_
            refine H.seq ?_
            refine H.region ?_
            refine H.q (yl_move rfl) rfl rfl (by decide) ?_
            refine H.q (yl_ix 4 Tryz.underlying26 Tryz.sizeOf9 (hs 4 h4).1 rfl rfl rfl h4) rfl rfl (by decide) ?_
            refine H.q (yl_load Tryz.isAgg9 rfl (fun w hw => cell_ext hw.ext (hs 4 h4).2)) rfl rfl (by decide) ?_
            refine H.q (yl_call (xs := [.tmp 126]) Tryz.call76 (stab_hp _ _ _ _) rfl (fun w hw => numL_any (ws.getD 4 []) w (getD_le hws _) (hvars.ext hw.ext))) rfl rfl (by decide) ?_
            refine H.q (yl_move rfl) rfl rfl (by decide) ?_
            refine H.q (yl_extract _ rfl rfl) rfl rfl (by decide) ?_
            refine H.q (yl_extract _ rfl rfl) rfl rfl (by decide) ?_
            refine H.q (yl_assign rfl) rfl rfl (by decide) ?_
            refine H.q (yl_assign rfl) rfl rfl (by decide) ?_
            refine HN.done ?_
            refine HN.keep [(0, _), (5, _), (6, _), (7, _), (8, _), (17, _)] ⟨rfl, rfl, rfl, rfl, rfl, rfl, trivial⟩ ?_
            refine HN.then ?_
            refine H.region ?_
            refine H.q (yl_move rfl) rfl rfl (by decide) ?_
            refine H.q (yl_fieldAddr _ fa25_1 rfl) rfl rfl (by decide) ?_
            refine H.q (yl_load Tryz.isAgg3 rfl (fun w hw => hw.cell 0 rfl rfl)) rfl rfl (by decide) ?_
            refine H.q (yl_move rfl) rfl rfl (by decide) ?_
            refine H.q (yl_move rfl) rfl rfl (by decide) ?_
            refine H.q (yl_build (bd25_0143 _ _ _ _) rfl) rfl rfl (by decide) ?_
            refine H.buildSlice (bs28 _ _ _ _ _ _ _ _) rfl (by decide) (fun b136 hb136 => ?_)
            refine H.append 1 [.int .u8 6, .int .i64 (atI names (ws.getD 0 [])), .int .i64 0, .int .i64 (numL (ws.getD 4 [])).1, .int .i64 (numL (ws.getD 2 [])).1, .slice none 0 0] el28 rfl rfl rfl rfl (fun w hw => newsN (hw.blk 0 rfl)) (by simp [Value.oneCell']) (by simp only [List.length_append]; omega) (by decide) (by decide) (fun v137 => ?_)
            refine H.q (yl_assign rfl) rfl rfl (by decide) ?_
            refine HN.done ?_
            refine HN.keep [(0, _), (5, _), (6, _), (7, _), (8, _)] ⟨rfl, rfl, rfl, rfl, rfl, trivial⟩ ?_
            refine HN.then ?_
            refine H.at' ⟨v137, z.sv, z.kd, z.b, z.k⟩ ⟨rfl, rfl, rfl, rfl, rfl, trivial⟩ (fun w hw => ?_)
            rw [hl3, clS_append, clS_one (by simp), snoc_len]
            exact hw.drop
          · have hl3 : l3E ws names = [] := if_neg (by rw [t6]; decide)
            refine H.keep [(0, _), (5, _), (6, _), (7, _), (8, _)] ⟨rfl, rfl, rfl, rfl, rfl, trivial⟩ ?_
            refine HN.skip ?_
            refine HN.then ?_
            refine H.at' ⟨z.v, z.sv, z.kd, z.b, z.k⟩ ⟨rfl, rfl, rfl, rfl, rfl, trivial⟩ (fun w hw => ?_)
            rw [hl3, List.append_nil]
            exact hw
        · have hge : guessesE ws names = l1E ws names ++ l2E ws names ++ l3E ws names ++ l4E ws names := if_neg t0
          refine H.seqCut (fun z : GZ => [(7, z.v)]) (fun z => Hp w0 [(b6, ex (.cells ([.int .u8 z.kd, .int .i64 (atI names (ws.getD 0 [])), .int .i64 z.b, .int .i64 z.k, .int .i64 0, .slice none 0 0]).toArray 25)), (b3, ex (.cells [.slice adn names.length capn].toArray 26))] [⟨z.sv, (setL ws).length, 2, 1, (setL ws).map (.int .i64)⟩, ⟨z.v, (guessesE ws names).length, 25, 6, clS z.sv (guessesE ws names)⟩] []) ?_ (fun z => ?_)
          · refine H.seq ?_
            refine H.region ?_
            refine H.q (yl_move rfl) rfl rfl (by decide) ?_
            refine H.q (yl_ix 1 Tryz.underlying26 Tryz.sizeOf9 (hs 1 h1).1 rfl rfl rfl h1) rfl rfl (by decide) ?_
            refine H.q (yl_load Tryz.isAgg9 rfl (fun w hw => cell_ext hw.ext (hs 1 h1).2)) rfl rfl (by decide) ?_
            refine H.q (yl_seqlL rfl rfl) rfl rfl (by decide) ?_
            refine H.q (yl_move rfl) rfl rfl (by decide) ?_
            refine H.qg (wn_t rfl rfl (by decide) rfl) (fun hg => yl_sub [(0, _)] ⟨rfl, trivial⟩ (yl_move rfl)) rfl (by decide) ?_
            refine H.qg (wn_t rfl rfl (by decide) rfl) (fun hg => yl_sub [(143, _)] ⟨slT rfl hg, trivial⟩ (yl_len rfl Tryz.underlying26 rfl)) rfl (by decide) ?_
            refine H.qg (wn_t rfl rfl (by decide) rfl) (fun hg => yl_sub [(144, _)] ⟨slT rfl hg, trivial⟩ (yl_eql rfl rfl)) rfl (by decide) ?_
            refine H.q (yl_and rfl rfl) rfl rfl (by decide) ?_
            refine HN.done ?_
            refine HN.keep [(0, _), (5, _), (6, _), (7, _), (8, _), (146, _)] ⟨rfl, rfl, rfl, rfl, rfl, rfl, trivial⟩ ?_
            refine HN.then ?_
            refine H.cond _ rfl (fun t7 => ?_) (fun t7 => ?_)
            · have hl4 : l4E ws names = [⟨11, atI names (ws.getD 4 []), (atI names (ws.getD 0 [])), (numL (ws.getD 2 [])).1, (numL (ws.getD 6 [])).1, []⟩] := if_pos t7
              simp only [Bool.and_eq_true, decide_eq_true_eq] at t7
              have h4 : 4 < ws.length := by omega
              have h6 : 6 < ws.length := by omega
              refine H.keep [(0, _), (5, _), (6, _), (7, _), (8, _)] ⟨rfl, rfl, rfl, rfl, rfl, trivial⟩ ?_
              refine H.seq ?_
              refine H.region ?_
              refine H.q (yl_move rfl) rfl rfl (by decide) ?_
              refine H.q (yl_ix 6 Tryz.underlying26 Tryz.sizeOf9 (hs 6 h6).1 rfl rfl rfl h6) rfl rfl (by decide) ?_
              refine H.q (yl_load Tryz.isAgg9 rfl (fun w hw => cell_ext hw.ext (hs 6 h6).2)) rfl rfl (by decide) ?_
              refine H.q (yl_call (xs := [.tmp 150]) Tryz.call76 (stab_hp _ _ _ _) rfl (fun w hw => numL_any (ws.getD 6 []) w (getD_le hws _) (hvars.ext hw.ext))) rfl rfl (by decide) ?_
              refine H.q (yl_move rfl) rfl rfl (by decide) ?_
              refine H.q (yl_extract _ rfl rfl) rfl rfl (by decide) ?_
              refine H.q (yl_extract _ rfl rfl) rfl rfl (by decide) ?_
              refine H.q (yl_assign rfl) rfl rfl (by decide) ?_
              refine H.q (yl_assign rfl) rfl rfl (by decide) ?_
              refine HN.done ?_
              refine HN.keep [(0, _), (5, _), (6, _), (7, _), (8, _), (19, _)] ⟨rfl, rfl, rfl, rfl, rfl, rfl, trivial⟩ ?_
              refine HN.then ?_
              refine H.regionA (Hp w0 [(b6, ex (.cells ([.int .u8 z.kd, .int .i64 (atI names (ws.getD 0 [])), .int .i64 z.b, .int .i64 z.k, .int .i64 0, .slice none 0 0]).toArray 25)), (b3, ex (.cells [.slice adn names.length capn].toArray 26))] [] []) Tryz.mixed (stab_hp _ _ _ _) ?_
              refine H.take (i := 0) rfl (by kernel_rfl) (by kernel_rfl) (by kernel_rfl) (fun _ _ _ h => h) (fun w hw => by first | exact hw.noR | exact hw.drop.noR) (ye_move rfl) rfl rfl (by decide) ?_
              refine H.take (i := 1) rfl (by kernel_rfl) (by kernel_rfl) (by kernel_rfl) (fun _ _ _ h => h) (fun w hw => by first | exact hw.noR | exact hw.drop.noR) (ye_move rfl) rfl rfl (by decide) ?_
              refine H.take (i := 2) rfl (by kernel_rfl) (by kernel_rfl) (by kernel_rfl) (fun _ _ _ h => h) (fun w hw => by first | exact hw.noR | exact hw.drop.noR) (ye_move rfl) rfl rfl (by decide) ?_
              refine H.take (i := 3) rfl (by kernel_rfl) (by kernel_rfl) (by kernel_rfl) (fun _ _ _ h => h) (fun w hw => by first | exact hw.noR | exact hw.drop.noR) (ye_ix 4 Tryz.underlying26 Tryz.sizeOf9 (hs 4 h4).1 rfl rfl rfl h4) rfl rfl (by decide) ?_
              refine H.take (i := 4) rfl (by kernel_rfl) (by kernel_rfl) (by kernel_rfl) (fun _ _ _ h => h) (fun w hw => by first | exact hw.noR | exact hw.drop.noR) (ye_load Tryz.isAgg9 rfl (fun w hw => cell_ext hw.ext (hs 4 h4).2)) rfl rfl (by decide) ?_
              refine H.take (i := 6) rfl (by kernel_rfl) (by kernel_rfl) (by kernel_rfl) (fun _ _ _ h => h) (fun w hw => by first | exact hw.noR | exact hw.drop.noR) (ye_fieldAddr _ fa25_1 rfl) rfl rfl (by decide) ?_
              refine H.take (i := 7) rfl (by kernel_rfl) (by kernel_rfl) (by kernel_rfl) (fun _ _ _ h => h) (fun w hw => by first | exact hw.noR | exact hw.drop.noR) (ye_load Tryz.isAgg3 rfl (fun w hw => hw.cell 0 rfl rfl)) rfl rfl (by decide) ?_
              refine H.take (i := 8) rfl (by kernel_rfl) (by kernel_rfl) (by kernel_rfl) (fun _ _ _ h => h) (fun w hw => by first | exact hw.noR | exact hw.drop.noR) (ye_move rfl) rfl rfl (by decide) ?_
              refine H.take (i := 9) rfl (by kernel_rfl) (by kernel_rfl) (by kernel_rfl) (fun _ _ _ h => h) (fun w hw => by first | exact hw.noR | exact hw.drop.noR) (ye_move rfl) rfl rfl (by decide) ?_
              refine H.one (i := 5) rfl (by kernel_rfl) ?_
              refine H.q (yl_callv (xs := [.tmp 158]) Tryz.call75 (stab_hp _ _ _ _) rfl rfl (fun w hw => atL_v (ws.getD 4 []) names (.slice adn names.length capn) b3 w (by omega) (hnv.ext hw.ext) (hw.cell 1 rfl rfl))) rfl rfl (by decide) ?_
              refine H.on (fun w hw => by first | exact hw.noR | exact hw.drop.noR) ?_
              refine H.take (i := 10) rfl (by kernel_rfl) (by kernel_rfl) (by kernel_rfl) (fun _ _ _ h => h) (fun w hw => by first | exact hw.noR | exact hw.drop.noR) (ye_build (bd25_01234 _ _ _ _ _) rfl) rfl rfl (by decide) ?_
              refine H.one (i := 11) rfl (by kernel_rfl) ?_
              refine H.buildSlice (bs28 _ _ _ _ _ _ _ _) rfl (by decide) (fun b165 hb165 => ?_)
              refine H.on (fun w hw => by first | exact hw.noR | exact hw.drop.noR) ?_
              refine H.one (i := 12) rfl (by kernel_rfl) ?_
              refine H.append 1 [.int .u8 11, .int .i64 (atI names (ws.getD 4 [])), .int .i64 (atI names (ws.getD 0 [])), .int .i64 (numL (ws.getD 2 [])).1, .int .i64 (numL (ws.getD 6 [])).1, .slice none 0 0] el28 rfl rfl rfl rfl (fun w hw => newsN (hw.blk 0 rfl)) (by simp [Value.oneCell']) (by simp only [List.length_append]; omega) (by decide) (by decide) (fun v166 => ?_)
              refine H.on (fun w hw => by first | exact hw.noR | exact hw.drop.noR) ?_
              refine H.take (i := 13) rfl (by kernel_rfl) (by kernel_rfl) (by kernel_rfl) (fun _ _ _ h => h) (fun w hw => by first | exact hw.noR | exact hw.drop.noR) (ye_assign rfl) rfl rfl (by decide) ?_
              refine H.over (by kernel_rfl) ?_
              refine HN.keep [(7, _)] ⟨rfl, trivial⟩ ?_
              refine HN.then ?_
              refine H.at' ⟨v166, z.sv, z.kd, z.b, z.k⟩ ⟨rfl, trivial⟩ (fun w hw => ?_)
              rw [hge, hl4, clS_append _ (l1E ws names ++ l2E ws names ++ l3E ws names), clS_one (by simp), snoc_len]
              exact hw.drop
            · have hl4 : l4E ws names = [] := if_neg (by rw [t7]; decide)
              refine H.keep [(7, _)] ⟨rfl, trivial⟩ ?_
              refine HN.skip ?_
              refine HN.then ?_
              refine H.at' ⟨z.v, z.sv, z.kd, z.b, z.k⟩ ⟨rfl, trivial⟩ (fun w hw => ?_)
              rw [hge, hl4, List.append_nil]
              exact hw
          · refine H.seq ?_
            refine H.region ?_
            refine H.q (yl_move rfl) rfl rfl (by decide) ?_
            refine H.q (yl_assign rfl) rfl rfl (by decide) ?_
            refine HN.done ?_
            refine HN.keep [(4, _)] ⟨rfl, trivial⟩ ?_
            refine HN.then ?_
            refine HR.ret ?_
            refine HR.ret1 _ Tryz.results44 rfl (fun w hw => ?_)
            exact ⟨z.v, z.sv, rfl, hw.drop.drop⟩

end Go.Proofs.YtgbgddmbooaddaaGreatDoor

namespace Go.Proofs.YtgbgddmbooaddaaGreatDoor
open Go.RowKit

section
variable {P : Program} {n : Nat} {e : Env} {C : World → Prop} {Q : Exit → Act → World → Prop} {J K : Act → World → Prop}
def HG (l : Nat) (n : Nat) (e : Env) (C : World → Prop) (Q : Exit → Act → World → Prop) : Prop := H n e C (fun a w => Q (.goto l) a w)
theorem HG.goto {l : Nat} (h : HG l n e C Q) : H n e C ((Code.goto l).wp P Q) := fun a w hf hc => wp_goto (h a w hf hc)
theorem HG.then {l : Nat} (h : HG l n e C Q) : HG l n e C (Exit.then K Q) := h
theorem HG.block {l id : Nat} (h : HG l n e C Q) : HG l n e C (Exit.inBlock id Q) := h
theorem HG.jump {l : Nat} (h : H n e C J) : HG l n e C (Exit.jump l J Q) := fun a w hf hc => ⟨rfl, h a w hf hc⟩
theorem HN.jump {l : Nat} (h : HN n e C Q) : HN n e C (Exit.jump l J Q) := h
theorem HR.jump {l : Nat} (h : HR n e C Q) : HR n e C (Exit.jump l J Q) := h
theorem HX.jump {l id : Nat} (h : HX id n e C Q) : HX id n e C (Exit.jump l J Q) := h

/-- A scope with one label; 'z' says where the code stands at it. -/
theorem H.scope {α : Type} {c rest : Code} (l : Nat) (e1 : α → Env) (I : α → Prop) (C1 : α → World → Prop) (μ : α → Nat) (hf : findLabel c l = some (Code.seq Code.skip rest))
    (first : (∀ z, I z → H n (e1 z) (C1 z) (rest.wp P (Exit.jump l (fun a w => ∃ z', I z' ∧ Fr n (e1 z') a ∧ C1 z' w) Q))) → H n e C (c.wp P (Exit.jump l (fun a w => ∃ z', I z' ∧ Fr n (e1 z') a ∧ C1 z' w) Q)))
    (pass : ∀ z, I z → H n (e1 z) (C1 z) (rest.wp P (Exit.jump l (fun a w => ∃ z', (I z' ∧ μ z' < μ z) ∧ Fr n (e1 z') a ∧ C1 z' w) Q))) : H n e C ((Code.scope c).wp P Q) := by
  have mono : ∀ {J J' : Act → World → Prop} (_ : ∀ a w, J a w → J' a w) (x : Exit) (a : Act) (w : World), Exit.jump l J Q x a w → Exit.jump l J' Q x a w := fun hJ x a w h => by
    cases x with
    | goto l' => exact ⟨h.1, hJ a w h.2⟩
    | normal => exact h
    | exit id => exact h
    | ret => exact h
    | panic ch => exact h
    | outgrown => exact h
  classical
  have hfirst := first fun z hz a w hfr hc => wp_mono (pass z hz a w hfr hc) fun x a' w' h => mono (fun a w ⟨z', h1, h2⟩ => ⟨z', h1.1, h2⟩) x a' w' h
  intro a w hfr hc
  have least : ∀ (q : α → Prop), (∃ z, q z) → ∃ z, q z ∧ ∀ z', q z' → μ z ≤ μ z' := by
    intro q ⟨z, hz⟩
    have key : ∀ m z, μ z = m → q z → ∃ z, q z ∧ ∀ z', q z' → μ z ≤ μ z' := by
      intro m
      induction m using Nat.strongRecOn with
      | _ m ih =>
        intro z hm hz
        by_cases h : ∃ z', q z' ∧ μ z' < μ z
        · obtain ⟨z', h1, h2⟩ := h
          exact ih (μ z') (hm ▸ h2) z' rfl h1
        · exact ⟨z, hz, fun z' h1 => Nat.le_of_not_lt fun h2 => h ⟨z', h1, h2⟩⟩
    exact key _ z rfl hz
  let q : Act → World → α → Prop := fun a w z' => I z' ∧ Fr n (e1 z') a ∧ C1 z' w
  refine wp_scope_jumps l (fun a w => ∃ z', q a w z') (fun a w => if h : ∃ z, q a w z then μ (Classical.choose (least _ h)) else 0) hf (hfirst a w hfr hc) fun a w hJ => ?_
  obtain ⟨⟨hI, hfz, hcz⟩, _⟩ := Classical.choose_spec (least _ hJ)
  refine wp_mono (wp_seq (wp_skip (pass _ hI a w hfz hcz))) fun x a' w' h => mono (fun a1 w1 ⟨z', h1, h2⟩ => ⟨⟨z', h1.1, h2⟩, ?_⟩) x a' w' h
  have hex1 : ∃ z, q a1 w1 z := ⟨z', h1.1, h2⟩
  simp only [dif_pos hJ, dif_pos hex1]
  exact Nat.lt_of_le_of_lt ((Classical.choose_spec (least _ hex1)).2 z' ⟨h1.1, h2⟩) h1.2
/-- The code comes to the label. -/
theorem H.label {α : Type} {e1 : α → Env} {I : α → Prop} {C1 : α → World → Prop} {l : Nat} {rest : Code} (z : α) (ht : ∀ z, I z → H n (e1 z) (C1 z) (rest.wp P Q)) (hI : I z) (hs : Sub e (e1 z)) (hC : ∀ w, C w → C1 z w) : H n e C ((Code.seq (Code.label l) rest).wp P Q) :=
  fun a w hf hc => wp_seq (wp_label (ht z hI a w (hf.sub hs) (hC w hc)))
end
end Go.Proofs.YtgbgddmbooaddaaGreatDoor

namespace Go.Proofs.YtgbgddmbooaddaaGreatDoor
open Go.RowKit


/-- The value of the set of a claim. -/
def svI (sv : Value) (x : Inv) : Value := if x.kind = 2 then sv else .slice none 0 0
theorem clS_at (sv : Value) : ∀ (l : List Inv) (i j : Nat) (hi : i < l.length) (u : Value), (cellsI (svI sv l[i], l[i]))[j]? = some u → (clS sv l)[i * 6 + j]? = some u
  | x :: l, 0, j, _, u, h => by
    have hj : j < 6 := by
      have := (List.getElem?_eq_some_iff.1 h).1
      simpa using this
    show ((cellsI (svI sv x, x)) ++ clS sv l)[0 * 6 + j]? = some u
    rw [Nat.zero_mul, Nat.zero_add, List.getElem?_append_left (by simpa using hj)]
    exact h
  | x :: l, i + 1, j, hi, u, h => by
    show ((cellsI (svI sv x, x)) ++ clS sv l)[(i + 1) * 6 + j]? = some u
    rw [List.getElem?_append_right (by simp; omega)]
    have := clS_at sv l i j (by simpa using hi) u (by simpa using h)
    rw [show (i + 1) * 6 + j - (cellsI (svI sv x, x)).length = i * 6 + j by simp; omega]
    exact this
structure RZ where
  i : Nat
  v : Value
  sv : Value
  wv : Value

set_option maxRecDepth 100000 in
theorem read_any (t : List UInt8) (names : List (List UInt8)) (nv : Value) (w0 : World) (ht : t.length ≤ 1000) (hnl : names.length ≤ 1000) (hns : ∀ s ∈ names, s.length ≤ 1000) (hnv : IsStrs w0 nv names) (hvars : Vars w0) : Calls Tryz.prog 14 #[strV t, nv] w0 fun e w' => ∃ sv, e = .returned (.tuple #[.agg (cellsI (sv, (readL t names).1)).toArray, .int .i64 (readL t names).2]) ∧ Ext w0 w' ∧ IsInts w' sv (readL t names).1.set ∧ Hp w0 [] [⟨sv, (readL t names).1.set.length, 2, 1, (readL t names).1.set.map (.int .i64)⟩] [] w' := by
  obtain ⟨ad1, cap1, b1, o1, rfl, hcap1, hs1⟩ := sl_open strV hnv
  refine enterA 67 Tryz.func14 rfl Tryz.ntmps14 rfl (Hp w0 [] [] []) (Hp.init _) ?_
  refine H.seq ?_
  refine H.region ?_
  refine H.allocA Tryz.zeroValue25 (by decide) (fun b4 hb4 => ?_)
  refine H.q (yl_assign rfl) rfl rfl (by decide) ?_
  refine HN.done ?_
  refine HN.keep [(0, _), (1, _), (4, _)] ⟨rfl, rfl, rfl, trivial⟩ ?_
  refine HN.then ?_
  refine H.scope 0 (fun z : RZ => [(0, strV t), (1, .slice ad1 names.length cap1), (4, .pointer (some ⟨b4, 0, none⟩)), (8, z.v), (9, .int .i64 (z.i : Int))]) (fun z => namedE names = 0 ∧ ¬ (names.length : Int) = 0 ∧ ¬ (8 : Int) < names.length ∧ (!names.any fun y => decide (((wordsE t).getD 0 []) = y)) = false ∧ z.i ≤ (guessesE (wordsE t) names).length ∧ ((guessesE (wordsE t) names).drop z.i).find? (fun x => !badB t names x) = (guessesE (wordsE t) names).find? (fun x => !badB t names x)) (fun z => Hp w0 [(b4, ex (.cells ([.int .u8 0, .int .i64 0, .int .i64 0, .int .i64 0, .int .i64 0, .slice none 0 0].toArray) 25))] [⟨z.sv, (setL (wordsE t)).length, 2, 1, (setL (wordsE t)).map (.int .i64)⟩, ⟨z.v, (guessesE (wordsE t) names).length, 25, 6, clS z.sv (guessesE (wordsE t) names)⟩, ⟨z.wv, (wordsE t).length, 9, 1, (wordsE t).map strV⟩] []) (fun z => (guessesE (wordsE t) names).length - z.i) rfl ?_ ?_
  · intro htail
    refine H.seq ?_
    refine H.seq ?_
    refine H.region ?_
    refine H.q (yl_move rfl) rfl rfl (by decide) ?_
    refine H.q (yl_call (xs := [.tmp 12]) Tryz.call36 (stab_hp _ _ _ _) rfl (fun w hw => named_any names (.slice ad1 names.length cap1) w (by omega) hns (hnv.ext hw.ext))) rfl rfl (by decide) ?_
    refine H.q (yl_assign rfl) rfl rfl (by decide) ?_
    refine HN.done ?_
    refine HN.keep [(0, _), (1, _), (4, _), (6, _)] ⟨rfl, rfl, rfl, rfl, trivial⟩ ?_
    refine HN.then ?_
    refine H.seq ?_
    refine H.region ?_
    refine H.q (yl_move rfl) rfl rfl (by decide) ?_
    refine H.q (yl_neq rfl rfl) rfl rfl (by decide) ?_
    refine HN.done ?_
    refine HN.keep [(0, _), (1, _), (4, _), (6, _), (15, _)] ⟨rfl, rfl, rfl, rfl, rfl, trivial⟩ ?_
    refine HN.then ?_
    refine H.cond _ rfl (fun t0 => ?_) (fun t0 => ?_)
    · simp only [ne_eq, decide_not, Bool.not_eq_true', decide_eq_false_iff_not] at t0
      refine H.keep [(4, _), (6, _)] ⟨rfl, rfl, trivial⟩ ?_
      refine H.seq ?_
      refine H.region ?_
      refine H.q (yl_build (bd25_) rfl) rfl rfl (by decide) ?_
      refine H.q (yl_move rfl) rfl rfl (by decide) ?_
      refine H.storeA 0 rfl rfl rfl Tryz.sizeOf25 rfl rfl ?_
      refine H.q (yl_assign rfl) rfl rfl (by decide) ?_
      refine HN.done ?_
      refine HN.keep [(4, _), (5, _)] ⟨rfl, rfl, trivial⟩ ?_
      refine HN.then ?_
      refine HR.ret ?_
      refine HR.then ?_
      refine HR.jump ?_
      refine HR.retC2 0 _ Tryz.results14 Tryz.isAgg25 Tryz.sizeOf25 rfl rfl rfl rfl (fun w hw => ?_)
      have hr : readL t names = (zI, namedE names) := by unfold readL; rw [if_pos t0]
      exact ⟨.slice none 0 0, by rw [hr]; rfl, hw.ext, by rw [hr]; exact ints_nil w, by rw [hr]; exact hw.base.rowNil 2 1⟩
    · simp only [ne_eq, decide_not, Bool.not_eq_false', decide_eq_true_eq] at t0
      refine H.keep [(0, _), (1, _), (4, _)] ⟨rfl, rfl, rfl, trivial⟩ ?_
      refine HN.skip ?_
      refine HN.then ?_
      refine H.seq ?_
      refine H.block ?_
      refine H.seq ?_
      refine H.region ?_
      refine H.q (yl_move rfl) rfl rfl (by decide) ?_
      refine H.q (yl_len rfl Tryz.underlying26 rfl) rfl rfl (by decide) ?_
      refine H.q (yl_eql rfl rfl) rfl rfl (by decide) ?_
      refine H.q (yl_assign rfl) rfl rfl (by decide) ?_
      refine HN.done ?_
      refine HN.keep [(0, _), (1, _), (4, _), (18, _)] ⟨rfl, rfl, rfl, rfl, trivial⟩ ?_
      refine HN.then ?_
      refine H.cond _ rfl (fun t1 => ?_) (fun t1 => ?_)
      · simp only [decide_eq_true_eq] at t1
        refine H.keep [(4, _)] ⟨rfl, trivial⟩ ?_
        refine H.seq ?_
        refine H.region ?_
        refine H.q (yl_build (bd25_) rfl) rfl rfl (by decide) ?_
        refine H.storeA 0 rfl rfl rfl Tryz.sizeOf25 rfl rfl ?_
        refine H.q (yl_assign rfl) rfl rfl (by decide) ?_
        refine HN.done ?_
        refine HN.keep [(4, _), (5, _)] ⟨rfl, rfl, trivial⟩ ?_
        refine HN.then ?_
        refine HR.ret ?_
        refine HR.block ?_
        refine HR.then ?_
        refine HR.jump ?_
        refine HR.retC2 0 _ Tryz.results14 Tryz.isAgg25 Tryz.sizeOf25 rfl rfl rfl rfl (fun w hw => ?_)
        have hr : readL t names = (zI, 1) := by unfold readL; rw [if_neg (fun h => h t0), if_pos t1]
        exact ⟨.slice none 0 0, by rw [hr]; rfl, hw.ext, by rw [hr]; exact ints_nil w, by rw [hr]; exact hw.base.rowNil 2 1⟩
      · simp only [decide_eq_false_iff_not] at t1
        refine H.keep [(0, _), (1, _), (4, _)] ⟨rfl, rfl, rfl, trivial⟩ ?_
        refine H.seq ?_
        refine H.region ?_
        refine H.q (yl_move rfl) rfl rfl (by decide) ?_
        refine H.q (yl_len rfl Tryz.underlying26 rfl) rfl rfl (by decide) ?_
        refine H.q (yl_gtr rfl rfl) rfl rfl (by decide) ?_
        refine H.q (yl_assign rfl) rfl rfl (by decide) ?_
        refine HN.done ?_
        refine HN.keep [(0, _), (1, _), (4, _), (23, _)] ⟨rfl, rfl, rfl, rfl, trivial⟩ ?_
        refine HN.then ?_
        refine H.cond _ rfl (fun t2 => ?_) (fun t2 => ?_)
        · simp only [decide_eq_true_eq] at t2
          refine H.keep [(4, _)] ⟨rfl, trivial⟩ ?_
          refine H.seq ?_
          refine H.region ?_
          refine H.q (yl_build (bd25_) rfl) rfl rfl (by decide) ?_
          refine H.storeA 0 rfl rfl rfl Tryz.sizeOf25 rfl rfl ?_
          refine H.q (yl_assign rfl) rfl rfl (by decide) ?_
          refine HN.done ?_
          refine HN.keep [(4, _), (5, _)] ⟨rfl, rfl, trivial⟩ ?_
          refine HN.then ?_
          refine HR.ret ?_
          refine HR.block ?_
          refine HR.then ?_
          refine HR.jump ?_
          refine HR.retC2 0 _ Tryz.results14 Tryz.isAgg25 Tryz.sizeOf25 rfl rfl rfl rfl (fun w hw => ?_)
          have hr : readL t names = (zI, 3) := by unfold readL; rw [if_neg (fun h => h t0), if_neg t1, if_pos t2]
          exact ⟨.slice none 0 0, by rw [hr]; rfl, hw.ext, by rw [hr]; exact ints_nil w, by rw [hr]; exact hw.base.rowNil 2 1⟩
        · simp only [decide_eq_false_iff_not] at t2
          refine H.keep [(0, _), (1, _), (4, _)] ⟨rfl, rfl, rfl, trivial⟩ ?_
          refine HN.skip ?_
          refine HN.block ?_
          refine HN.then ?_
          refine H.seq ?_
          refine H.region ?_
          refine H.q (yl_move rfl) rfl rfl (by decide) ?_
          refine H.call (xs := [.tmp 28, .const (strV [32])]) (fun v : Value => v) (fun _ => True) (fun v => [⟨v, (wordsE t).length, 9, 1, (wordsE t).map strV⟩]) (fun _ => []) Tryz.call42 rfl (by decide) (fun w hw => (split_any t w ht (hvars.ext hw.ext)).mono fun e w' h => ?_) (fun wv _ => ?_)
          · obtain ⟨v, h1, h2⟩ := h
            exact ⟨v, h1, trivial, h2, fun p hp => by cases hp⟩
          refine H.pull (fun w hw => Rw.open1 strV (hw.row 0 rfl)) (fun hwv => ?_)
          obtain ⟨adw, capw, bw, rfl, hcapw, hsw⟩ := hwv
          have hw0 := words_pos t
          have hgd : (wordsE t).getD 0 [] = (wordsE t)[0] := by simp [List.getD, hw0]
          refine H.q (yl_assign rfl) rfl rfl (by decide) ?_
          refine HN.done ?_
          refine HN.keep [(0, _), (1, _), (4, _), (7, _)] ⟨rfl, rfl, rfl, rfl, trivial⟩ ?_
          refine HN.then ?_
          refine H.seq ?_
          refine H.seq ?_
          refine H.pull (fun w hw => (hsw w (hw.row 0 rfl) 0 hw0).1) (fun hadw => ?_)
          refine H.region ?_
          refine H.q (yl_move rfl) rfl rfl (by decide) ?_
          refine H.q (yl_move rfl) rfl rfl (by decide) ?_
          refine H.q (yl_ix 0 Tryz.underlying26 Tryz.sizeOf9 hadw rfl rfl rfl hw0) rfl rfl (by decide) ?_
          refine H.q (yl_load (v := strV ((wordsE t).getD 0 [])) Tryz.isAgg9 rfl (fun w hw => by rw [hgd]; exact (hsw w (hw.row 0 rfl) 0 hw0).2)) rfl rfl (by decide) ?_
          refine H.q (yl_call (xs := [.tmp 30, .tmp 33]) Tryz.call43 (stab_hp _ _ _ _) rfl (fun w hw => sContains_any names (.slice ad1 names.length cap1) ((wordsE t).getD 0 []) w (by omega) (hnv.ext hw.ext))) rfl rfl (by decide) ?_
          refine H.q (yl_not rfl) rfl rfl (by decide) ?_
          refine HN.done ?_
          refine HN.keep [(0, _), (1, _), (4, _), (7, _), (35, _)] ⟨rfl, rfl, rfl, rfl, rfl, trivial⟩ ?_
          refine HN.then ?_
          refine H.cond _ rfl (fun t3 => ?_) (fun t3 => ?_)
          · refine H.keep [(4, _)] ⟨rfl, trivial⟩ ?_
            refine H.seq ?_
            refine H.region ?_
            refine H.q (yl_build (bd25_) rfl) rfl rfl (by decide) ?_
            refine H.storeA 0 rfl rfl rfl Tryz.sizeOf25 rfl rfl ?_
            refine H.q (yl_assign rfl) rfl rfl (by decide) ?_
            refine HN.done ?_
            refine HN.keep [(4, _), (5, _)] ⟨rfl, rfl, trivial⟩ ?_
            refine HN.then ?_
            refine HR.ret ?_
            refine HR.then ?_
            refine HR.jump ?_
            refine HR.retC2 0 _ Tryz.results14 Tryz.isAgg25 Tryz.sizeOf25 rfl rfl rfl rfl (fun w hw => ?_)
            have hr : readL t names = (zI, 5) := by unfold readL; rw [if_neg (fun h => h t0), if_neg t1, if_neg t2, if_pos t3]
            exact ⟨.slice none 0 0, by rw [hr]; rfl, hw.ext, by rw [hr]; exact ints_nil w, by rw [hr]; exact hw.base.rowNil 2 1⟩
          · refine H.keep [(0, _), (1, _), (4, _), (7, _)] ⟨rfl, rfl, rfl, rfl, trivial⟩ ?_
            refine HN.skip ?_
            refine HN.then ?_
            refine H.seq ?_
            refine H.region ?_
            refine H.q (yl_move rfl) rfl rfl (by decide) ?_
            refine H.q (yl_move rfl) rfl rfl (by decide) ?_
            refine H.call (xs := [.tmp 37, .tmp 38]) (fun z : Value × Value => z.1) (fun _ => True) (fun z => [⟨z.2, (setL (wordsE t)).length, 2, 1, (setL (wordsE t)).map (.int .i64)⟩, ⟨z.1, (guessesE (wordsE t) names).length, 25, 6, clS z.2 (guessesE (wordsE t) names)⟩]) (fun _ => []) Tryz.call44 rfl (by decide) (fun w hw => (guesses_any (wordsE t) names _ _ w hw0 (words_len ht) (words_each ht) (Rw.isSl (hw.row 0 rfl) rfl) (by omega) (hnv.ext hw.ext) (hvars.ext hw.ext)).mono fun e w' h => ?_) (fun zz _ => ?_)
            · obtain ⟨v, sv, h1, h2⟩ := h
              exact ⟨(v, sv), h1, trivial, h2, fun p hp => by cases hp⟩
            refine H.q (yl_assign rfl) rfl rfl (by decide) ?_
            refine HN.done ?_
            refine HN.keep [(0, _), (1, _), (4, _), (8, _)] ⟨rfl, rfl, rfl, rfl, trivial⟩ ?_
            refine HN.then ?_
            refine H.seq ?_
            refine H.region ?_
            refine H.q (yl_assign rfl) rfl rfl (by decide) ?_
            refine HN.done ?_
            refine HN.keep [(0, _), (1, _), (4, _), (8, _), (9, _)] ⟨rfl, rfl, rfl, rfl, rfl, trivial⟩ ?_
            refine HN.then ?_
            exact H.label (e1 := fun z : RZ => _) (RZ.mk 0 zz.1 zz.2 (.slice adw (wordsE t).length capw)) htail ⟨t0, t1, t2, t3, Nat.zero_le _, rfl⟩ ⟨rfl, rfl, rfl, rfl, rfl, trivial⟩ (fun w hw => hw)
  · intro z hI
    obtain ⟨t0, t1, t2, t3, hi0, hi1⟩ := hI
    have hrl : readL t names = match (guessesE (wordsE t) names).find? (fun x => !badB t names x) with | some x => (x, 0) | none => (zI, 4) := by
      unfold readL
      rw [if_neg (fun h => h t0), if_neg t1, if_neg t2, if_neg (by rw [t3]; decide)] <;> rfl
    refine H.pull (fun w hw => Rw.open (hw.row 1 rfl)) (fun hv => ?_)
    obtain ⟨adv, capv, bv, hv1, hv2, hv3, hv4⟩ := hv
    refine H.pull (fun w hw => Rw.open (hw.row 0 rfl)) (fun hv => ?_)
    obtain ⟨ads, caps, bs, hs1', _, _, _⟩ := hv
    obtain ⟨zi, zv, zsv, zwv⟩ := z
    simp only at hv1 hv2 hv3 hv4 hs1' hi0 hi1
    subst hv1
    subst hs1'
    have hsl : (setL (wordsE t)).length ≤ 1000 := setL_len (words_len ht)
    have hgl : (guessesE (wordsE t) names).length ≤ 1000 := by
      have hb1 := l1_len (wordsE t) names
      have hb2 := l2_len (wordsE t) names
      have hb3 := l3_len (wordsE t) names
      have hb4 : (l4E (wordsE t) names).length ≤ 1 := by unfold l4E; split <;> simp
      unfold guessesE
      split
      · simp
      · simp only [List.length_append]; omega
    refine H.seq ?_
    refine H.seq ?_
    refine H.region ?_
    refine H.q (yl_move rfl) rfl rfl (by decide) ?_
    refine H.q (yl_move rfl) rfl rfl (by decide) ?_
    refine H.q (yl_len rfl Tryz.underlying28 rfl) rfl rfl (by decide) ?_
    refine H.q (yl_eql rfl rfl) rfl rfl (by decide) ?_
    refine HN.done ?_
    refine HN.keep [(0, _), (1, _), (4, _), (8, _), (9, _), (43, _)] ⟨rfl, rfl, rfl, rfl, rfl, rfl, trivial⟩ ?_
    refine HN.then ?_
    refine H.cond _ rfl (fun t4 => ?_) (fun t4 => ?_)
    · have t4 : (zi : Int) = (guessesE (wordsE t) names).length := of_decide_eq_true t4
      have hz : (guessesE (wordsE t) names).find? (fun x => !badB t names x) = none := by rw [← hi1, List.drop_eq_nil_of_le (by omega)]; rfl
      rw [hz] at hrl
      refine H.keep [(4, _)] ⟨rfl, trivial⟩ ?_
      refine H.seq ?_
      refine H.region ?_
      refine H.q (yl_build (bd25_) rfl) rfl rfl (by decide) ?_
      refine H.storeA 0 rfl rfl rfl Tryz.sizeOf25 rfl rfl ?_
      refine H.q (yl_assign rfl) rfl rfl (by decide) ?_
      refine HN.done ?_
      refine HN.keep [(4, _), (5, _)] ⟨rfl, rfl, trivial⟩ ?_
      refine HN.then ?_
      refine HR.ret ?_
      refine HR.then ?_
      refine HR.jump ?_
      refine HR.retC2 0 _ Tryz.results14 Tryz.isAgg25 Tryz.sizeOf25 rfl rfl rfl rfl (fun w hw => ?_)
      exact ⟨.slice none 0 0, by rw [hrl]; rfl, hw.ext, by rw [hrl]; exact ints_nil w, by rw [hrl]; exact hw.base.rowNil 2 1⟩
    · have t4 : ¬ (zi : Int) = (guessesE (wordsE t) names).length := of_decide_eq_false t4
      have hk : zi < (guessesE (wordsE t) names).length := by omega
      have hkind := guesses_kind _ (List.getElem_mem hk)
      have hset : (guessesE (wordsE t) names)[zi].set.length ≤ 1000 := by
        by_cases h : (guessesE (wordsE t) names)[zi].kind = 2
        · rw [hkind.1 h]; exact hsl
        · rw [hkind.2 h]; simp
      have hints : ∀ w, Hp w0 [(b4, ex (.cells ([.int .u8 0, .int .i64 0, .int .i64 0, .int .i64 0, .int .i64 0, .slice none 0 0].toArray) 25))] [⟨(RZ.mk zi (.slice adv (guessesE (wordsE t) names).length capv) (.slice ads (setL (wordsE t)).length caps) zwv).sv, (setL (wordsE t)).length, 2, 1, (setL (wordsE t)).map (.int .i64)⟩, ⟨(RZ.mk zi (.slice adv (guessesE (wordsE t) names).length capv) (.slice ads (setL (wordsE t)).length caps) zwv).v, (guessesE (wordsE t) names).length, 25, 6, clS (RZ.mk zi (.slice adv (guessesE (wordsE t) names).length capv) (.slice ads (setL (wordsE t)).length caps) zwv).sv (guessesE (wordsE t) names)⟩, ⟨(RZ.mk zi (.slice adv (guessesE (wordsE t) names).length capv) (.slice ads (setL (wordsE t)).length caps) zwv).wv, (wordsE t).length, 9, 1, (wordsE t).map strV⟩] [] w → IsInts w (svI (.slice ads (setL (wordsE t)).length caps) (guessesE (wordsE t) names)[zi]) (guessesE (wordsE t) names)[zi].set := fun w hw => by
        unfold svI
        by_cases h : (guessesE (wordsE t) names)[zi].kind = 2
        · rw [if_pos h, hkind.1 h]; exact Rw.isSl (hw.row 0 rfl) rfl
        · rw [if_neg h, hkind.2 h]; exact ints_nil w
      have hone : (svI (.slice ads (setL (wordsE t)).length caps) (guessesE (wordsE t) names)[zi]).oneCell' = true := by unfold svI; split <;> rfl
      rw [drop_cons hk, List.find?_cons] at hi1
      refine H.pull (fun w hw => (hv4 w (hw.row 1 rfl) (zi * 6 + 0) _ (clS_at _ (guessesE (wordsE t) names) zi 0 hk _ rfl)).1) (fun hadv => ?_)
      refine H.keep [(0, _), (1, _), (4, _), (8, _), (9, _)] ⟨rfl, rfl, rfl, rfl, rfl, trivial⟩ ?_
      refine HN.skip ?_
      refine HN.then ?_
      refine H.seq ?_
      refine H.seq ?_
      refine H.region ?_
      refine H.q (yl_move rfl) rfl rfl (by decide) ?_
      refine H.q (yl_move rfl) rfl rfl (by decide) ?_
      refine H.q (yl_index' zi 6 Tryz.underlying28 Tryz.sizeOf25 hadv rfl rfl rfl hk) rfl rfl (by decide) ?_
      refine H.q (yl_loadAgg (cellsI ((svI (.slice ads (setL (wordsE t)).length caps) (guessesE (wordsE t) names)[zi]), (guessesE (wordsE t) names)[zi])) Tryz.isAgg25 Tryz.sizeOf25 rfl (fun w hw j u hj => by rw [add_at, Nat.zero_add]; exact (hv4 w (hw.row 1 rfl) (zi * 6 + j) u (clS_at _ (guessesE (wordsE t) names) zi j hk u hj)).2) rfl) rfl rfl (by decide) ?_
      refine H.q (yl_move rfl) rfl rfl (by decide) ?_
      refine H.q (yl_call (xs := [.tmp 49, .tmp 50]) Tryz.call12 (stab_hp _ _ _ _) rfl (fun w hw => write_any (guessesE (wordsE t) names)[zi] (svI (.slice ads (setL (wordsE t)).length caps) (guessesE (wordsE t) names)[zi]) names (.slice ad1 names.length cap1) w hset (hints w hw) hnl hns (hnv.ext hw.ext) (hvars.ext hw.ext))) rfl rfl (by decide) ?_
      refine H.q (yl_move rfl) rfl rfl (by decide) ?_
      refine H.q (yl_extract _ rfl rfl) rfl rfl (by decide) ?_
      refine H.q (yl_extract _ rfl rfl) rfl rfl (by decide) ?_
      refine H.q (yl_assign rfl) rfl rfl (by decide) ?_
      refine H.q (yl_assign rfl) rfl rfl (by decide) ?_
      refine HN.done ?_
      refine HN.keep [(0, _), (1, _), (4, _), (8, _), (9, _), (10, _), (11, _)] ⟨rfl, rfl, rfl, rfl, rfl, rfl, rfl, trivial⟩ ?_
      refine HN.then ?_
      refine H.seq ?_
      refine H.region ?_
      refine H.q (yl_move rfl) rfl rfl (by decide) ?_
      refine H.q (yl_neq rfl rfl) rfl rfl (by decide) ?_
      refine H.q (yl_move rfl) rfl rfl (by decide) ?_
      refine H.qg (wn_f rfl rfl (by decide) rfl) (fun hg => yl_sub [(10, _)] ⟨rfl, trivial⟩ (yl_move rfl)) rfl (by decide) ?_
      refine H.qg (wn_f rfl rfl (by decide) rfl) (fun hg => yl_sub [(0, _)] ⟨rfl, trivial⟩ (yl_move rfl)) rfl (by decide) ?_
      refine H.qg (wn_f rfl rfl (by decide) rfl) (fun hg => yl_sub [(57, _), (58, _)] ⟨slT rfl hg, slT rfl hg, trivial⟩ (yl_sneqL rfl rfl)) rfl (by decide) ?_
      refine H.q (yl_or rfl rfl) rfl rfl (by decide) ?_
      refine HN.done ?_
      refine HN.keep [(0, _), (1, _), (4, _), (8, _), (9, _), (60, _)] ⟨rfl, rfl, rfl, rfl, rfl, rfl, trivial⟩ ?_
      refine HN.then ?_
      refine H.cond _ rfl (fun t5 => ?_) (fun t5 => ?_)
      · have t5 : badB t names (guessesE (wordsE t) names)[zi] = true := t5
        rw [t5] at hi1
        refine H.keep [(0, _), (1, _), (4, _), (8, _), (9, _)] ⟨rfl, rfl, rfl, rfl, rfl, trivial⟩ ?_
        refine H.seq ?_
        refine H.region ?_
        refine H.q (yl_move rfl) rfl rfl (by decide) ?_
        refine H.q (yl_add rfl rfl ((zi : Int) + 1) rfl (by omega)) rfl rfl (by decide) ?_
        refine H.q (yl_assign rfl) rfl rfl (by decide) ?_
        refine HN.done ?_
        refine HN.keep [(0, _), (1, _), (4, _), (8, _), (9, _)] ⟨rfl, rfl, rfl, rfl, rfl, trivial⟩ ?_
        refine HN.then ?_
        refine HG.goto ?_
        refine HG.then ?_
        refine HG.jump ?_
        exact H.at ⟨zi + 1, _, _, zwv⟩ ⟨⟨t0, t1, t2, t3, by simp only; omega, by simpa using hi1⟩, by simp only; omega⟩ ⟨rfl, rfl, rfl, rfl, rfl, trivial⟩ (fun w hw => hw)
      · have t5 : badB t names (guessesE (wordsE t) names)[zi] = false := t5
        rw [t5] at hi1
        simp only [Bool.not_false] at hi1
        rw [← hi1] at hrl
        refine H.keep [(4, _), (8, _), (9, _)] ⟨rfl, rfl, rfl, trivial⟩ ?_
        refine HN.skip ?_
        refine HN.then ?_
        refine H.seq ?_
        refine H.region ?_
        refine H.q (yl_move rfl) rfl rfl (by decide) ?_
        refine H.q (yl_move rfl) rfl rfl (by decide) ?_
        refine H.q (yl_index' zi 6 Tryz.underlying28 Tryz.sizeOf25 hadv rfl rfl rfl hk) rfl rfl (by decide) ?_
        refine H.q (yl_loadAgg (cellsI ((svI (.slice ads (setL (wordsE t)).length caps) (guessesE (wordsE t) names)[zi]), (guessesE (wordsE t) names)[zi])) Tryz.isAgg25 Tryz.sizeOf25 rfl (fun w hw j u hj => by rw [add_at, Nat.zero_add]; exact (hv4 w (hw.row 1 rfl) (zi * 6 + j) u (clS_at _ (guessesE (wordsE t) names) zi j hk u hj)).2) rfl) rfl rfl (by decide) ?_
        refine H.storeA 0 rfl rfl (by simp only [List.all_cons, List.all_nil, hone]; rfl) Tryz.sizeOf25 rfl rfl ?_
        refine H.q (yl_assign rfl) rfl rfl (by decide) ?_
        refine HN.done ?_
        refine HN.keep [(4, _), (5, _)] ⟨rfl, rfl, trivial⟩ ?_
        refine HN.then ?_
        refine HR.ret ?_
        refine HR.jump ?_
        refine HR.retC2 0 _ Tryz.results14 Tryz.isAgg25 Tryz.sizeOf25 rfl rfl rfl rfl (fun w hw => ?_)
        refine ⟨(svI (.slice ads (setL (wordsE t)).length caps) (guessesE (wordsE t) names)[zi]), by rw [hrl], hw.ext, ?_⟩
        rw [hrl]
        show IsInts w (svI (.slice ads (setL (wordsE t)).length caps) (guessesE (wordsE t) names)[zi]) (guessesE (wordsE t) names)[zi].set ∧ Hp w0 [] [⟨(svI (.slice ads (setL (wordsE t)).length caps) (guessesE (wordsE t) names)[zi]), (guessesE (wordsE t) names)[zi].set.length, 2, 1, (guessesE (wordsE t) names)[zi].set.map (.int .i64)⟩] [] w
        unfold svI
        by_cases h : (guessesE (wordsE t) names)[zi].kind = 2
        · rw [if_pos h, hkind.1 h]; exact ⟨Rw.isSl (hw.row 0 rfl) rfl, hw.row1⟩
        · rw [if_neg h, hkind.2 h]; exact ⟨ints_nil w, hw.base.rowNil 2 1⟩

end Go.Proofs.YtgbgddmbooaddaaGreatDoor

namespace Go.Proofs.YtgbgddmbooaddaaGreatDoor
open Go.RowKit

section
variable {P : Program} {n : Nat} {e : Env} {C : World → Prop} {Q : Exit → Act → World → Prop} {ops : Array Oper} {rest : List Oper}
/-- A call, whatever it does: 'z' says what came of it. -/
theorem H.callX {α : Type} {f : FuncId} {xs : List Operand} {vs : List Value} {d : Nat} {t : TypeId} {p : String} {af : Array Edge} {ats : Array TypeId} (v : α → Value) (I : α → Prop) (C1 : α → World → Prop) (hen : ∀ args w, (callFunc f args).run P w = .ok (.enter f args) w)
    (hx : eevs e xs = some vs) (hn : d < n) (hc : ∀ w, C w → Calls P f vs.toArray w fun en w' => ∃ z, en = .returned (v z) ∧ I z ∧ C1 z w')
    (h : ∀ z, I z → H n ((d, v z) :: e) (C1 z) (wpList P ops Q rest)) :
    H n e C (wpList P ops Q (⟨some d, .call { callee := .value (.func f), args := xs.toArray, argTypes := ats }, t, p, af, none⟩ :: rest)) := by
  intro a w hf hcw
  refine wpList_plain rfl fun K hK => ?_
  have h1 : (List.map a.eval xs) = vs := hf.evs hx
  have hr : (execOp a.eval ⟨some d, .call { callee := .value (.func f), args := xs.toArray, argTypes := ats }, t, p, af, none⟩).run P w = .ok (.enter f vs.toArray) w := by
    simp [execOp, resolve, h1, Act.eval, Deferred.ofValue, invoke, hen]
  unfold Oper.wp
  rw [hr]
  refine (hc w hcw).mono fun en w' hh => ?_
  obtain ⟨z, rfl, hI, hC⟩ := hh
  exact hK _ _ (h z hI _ _ (hf.put hn _) hC)
variable {d : Option Tmp} {t : TypeId} {p : String} {af : Array Edge} {g : Option (Nat × Bool)}
/-- 'p != nil' of a pointer. -/
theorem yl_ptrNeq {ty ty' T : TypeId} {x : Operand} {ad : Option Addr} (hu : P.underlying ty = some (.pointer T)) (hx : eev e x = some (.pointer ad)) : Yl P C n e ⟨d, .binOp .neq ty x (.const (.pointer none)) ty', t, p, af, g⟩ (.bool ad.isSome) :=
  Yl.val fun ac w hf _ => by
    have h3 : ac.eval (.const (.pointer none)) = .pointer none := rfl
    have e1 : ∀ (k : Nat) (a : Addr), (Op.equalIn (k + 1) ty (.pointer (some a)) (.pointer none)).run P w = .ok false w := fun k a => by simp [Op.equalIn, run_underlying hu]
    have e2 : ∀ k : Nat, (Op.equalIn (k + 1) ty (.pointer none) (.pointer none)).run P w = .ok true w := fun k => by simp [Op.equalIn, run_underlying hu]
    have f1 : ∀ a : Addr, (binOp .neq ty (.pointer (some a)) (.pointer none)).run P w = .ok (.bool true) w := fun a => by
      simp only [binOp]
      simp [Op.equal, Op.maxDepth, e1 9999]
    have f2 : (binOp .neq ty (.pointer none) (.pointer none)).run P w = .ok (.bool false) w := by
      simp only [binOp]
      simp [Op.equal, Op.maxDepth, e2 9999]
    simp only [execOp, hf.ev hx, h3]
    cases ad with
    | none => simp [eqGuard, f2]
    | some a => simp [eqGuard, f1]
/-- 's == nil' of a slice. -/
theorem yl_sliceNil {ty ty' el len cap : Nat} {x : Operand} {ad : Option Addr} (hu : P.underlying ty = some (.slice el)) (hx : eev e x = some (.slice ad len cap)) : Yl P C n e ⟨d, .binOp .eql ty x (.const (.slice none 0 0)) ty', t, p, af, g⟩ (.bool ad.isNone) :=
  Yl.val fun ac w hf _ => by
    have h3 : ac.eval (.const (.slice none 0 0)) = .slice none 0 0 := rfl
    have e1 : ∀ (k : Nat) (a : Addr), (Op.equalIn (k + 1) ty (.slice (some a) len cap) (.slice none 0 0)).run P w = .ok false w := fun k a => by simp [Op.equalIn, run_underlying hu]
    have e2 : ∀ k : Nat, (Op.equalIn (k + 1) ty (.slice none len cap) (.slice none 0 0)).run P w = .ok true w := fun k => by simp [Op.equalIn, run_underlying hu]
    have f1 : ∀ a : Addr, (binOp .eql ty (.slice (some a) len cap) (.slice none 0 0)).run P w = .ok (.bool false) w := fun a => by
      simp only [binOp]
      simp [Op.equal, Op.maxDepth, e1 9999]
    have f2 : (binOp .eql ty (.slice none len cap) (.slice none 0 0)).run P w = .ok (.bool true) w := by
      simp only [binOp]
      simp [Op.equal, Op.maxDepth, e2 9999]
    simp only [execOp, hf.ev hx, h3]
    cases ad with
    | none => simp [eqGuard, f2]
    | some a => simp [eqGuard, f1]
end
end Go.Proofs.YtgbgddmbooaddaaGreatDoor

namespace Go.Proofs.YtgbgddmbooaddaaGreatDoor
open Go.RowKit


theorem fa94_0 : FieldAt Tryz.prog 94 0 0 := .of Tryz.underlying94 rfl rfl Tryz.sizeOf92
theorem fa92_0 : FieldAt Tryz.prog 92 0 0 := .of Tryz.underlying92 rfl rfl Tryz.sizeOf3
theorem fa92_1 : FieldAt Tryz.prog 92 1 1 := .of Tryz.underlying92 rfl rfl Tryz.sizeOf37
theorem fa102_0 : FieldAt Tryz.prog 102 0 0 := .of Tryz.underlying102 rfl rfl Tryz.sizeOf23
theorem bd92 (a : Int) (w : World) : (Instr.build 92 [(0, .int .i64 a)].toArray).run Tryz.prog w = .ok (.agg [.int .i64 a, .slice none 0 0].toArray) w := by kernel_rfl
theorem bd94 (a : Int) (ad : Option Addr) (n c : Nat) (w : World) : (Instr.build 94 [(0, .agg [.int .i64 a, .slice ad n c].toArray)].toArray).run Tryz.prog w = .ok (.agg [.int .i64 a, .slice ad n c].toArray) w := by kernel_rfl

set_option maxRecDepth 100000 in
theorem there_any (bm : Nat) (vars : Int) (w0 : World) (hm : w0.cell? ⟨bm, 0, none⟩ = some (.int .i64 vars)) : Calls Tryz.prog 49 #[.pointer (some ⟨bm, 0, none⟩)] w0 fun e w' => e = .returned (.bool (decide (0 < vars))) ∧ Ext w0 w' := by
  refine enterA 13 Tryz.func49 rfl Tryz.ntmps49 rfl (Hp w0 [] [] []) (Hp.init _) ?_
  refine H.seq ?_
  refine H.region ?_
  refine H.q (yl_assign rfl) rfl rfl (by decide) ?_
  refine HN.done ?_
  refine HN.keep [(0, _)] ⟨rfl, trivial⟩ ?_
  refine HN.then ?_
  refine H.seq ?_
  refine H.region ?_
  refine H.q (yl_move rfl) rfl rfl (by decide) ?_
  refine H.q (yl_ptrNeq Tryz.underlying38 rfl) rfl rfl (by decide) ?_
  refine H.q (yl_move rfl) rfl rfl (by decide) ?_
  refine H.qg (wn_t rfl rfl (by decide) rfl) (fun hg => yl_sub [(0, _)] ⟨rfl, trivial⟩ (yl_move rfl)) rfl (by decide) ?_
  refine H.qg (wn_t rfl rfl (by decide) rfl) (fun hg => yl_sub [(6, _)] ⟨slT rfl hg, trivial⟩ (yl_nilCheck rfl)) rfl (by decide) ?_
  refine H.qg (wn_t rfl rfl (by decide) rfl) (fun hg => yl_sub [(7, _)] ⟨slT rfl hg, trivial⟩ (yl_fieldAddr _ fa94_0 rfl)) rfl (by decide) ?_
  refine H.qg (wn_t rfl rfl (by decide) rfl) (fun hg => yl_sub [(8, _)] ⟨slT rfl hg, trivial⟩ (yl_fieldAddr _ fa92_0 rfl)) rfl (by decide) ?_
  refine H.qg (wn_t rfl rfl (by decide) rfl) (fun hg => yl_sub [(9, _)] ⟨slT rfl hg, trivial⟩ (yl_load Tryz.isAgg3 rfl (fun w hw => cell_ext hw.ext hm))) rfl (by decide) ?_
  refine H.qg (wn_t rfl rfl (by decide) rfl) (fun hg => yl_sub [(10, _)] ⟨slT rfl hg, trivial⟩ (yl_gtr rfl rfl)) rfl (by decide) ?_
  refine H.q (yl_and rfl rfl) rfl rfl (by decide) ?_
  refine H.q (yl_assign rfl) rfl rfl (by decide) ?_
  refine HN.done ?_
  refine HN.keep [(2, _)] ⟨rfl, trivial⟩ ?_
  refine HN.then ?_
  refine HR.ret ?_
  refine HR.ret1 _ Tryz.results49 rfl (fun w hw => ?_)
  exact ⟨by simp, hw.ext⟩

set_option maxRecDepth 100000 in
theorem rows_any (bm : Nat) (vars : Int) (ad : Option Addr) (n cap : Nat) (w0 : World) (hp : 0 < vars) (hm : w0.cell? ⟨bm, 0, none⟩ = some (.int .i64 vars)) (hr : w0.cell? ⟨bm, 1, none⟩ = some (.slice ad n cap)) : Calls Tryz.prog 22 #[.pointer (some ⟨bm, 0, none⟩)] w0 fun e w' => e = .returned (.int .i64 (n : Int)) ∧ Ext w0 w' := by
  refine enterA 12 Tryz.func22 rfl Tryz.ntmps22 rfl (Hp w0 [] [] []) (Hp.init _) ?_
  refine H.seq ?_
  refine H.region ?_
  refine H.q (yl_assign rfl) rfl rfl (by decide) ?_
  refine HN.done ?_
  refine HN.keep [(0, _)] ⟨rfl, trivial⟩ ?_
  refine HN.then ?_
  refine H.seq ?_
  refine H.seq ?_
  refine H.region ?_
  refine H.q (yl_move rfl) rfl rfl (by decide) ?_
  refine H.q (yl_call (xs := [.tmp 3]) Tryz.call49 (stab_hp _ _ _ _) rfl (fun w hw => there_any bm vars w (cell_ext hw.ext hm))) rfl rfl (by decide) ?_
  refine H.q (yl_not rfl) rfl rfl (by decide) ?_
  refine HN.done ?_
  refine HN.keep [(0, _), (5, _)] ⟨rfl, rfl, trivial⟩ ?_
  refine HN.then ?_
  refine H.cond _ rfl (fun t0 => ?_) (fun t0 => ?_)
  · rw [decide_eq_true hp] at t0; exact absurd t0 (by decide)
    done
  · refine H.keep [(0, _)] ⟨rfl, trivial⟩ ?_
    refine HN.skip ?_
    refine HN.then ?_
    refine H.seq ?_
    refine H.region ?_
    refine H.q (yl_move rfl) rfl rfl (by decide) ?_
    refine H.q (yl_nilCheck rfl) rfl rfl (by decide) ?_
    refine H.q (yl_fieldAddr _ fa94_0 rfl) rfl rfl (by decide) ?_
    refine H.q (yl_fieldAddr _ fa92_1 rfl) rfl rfl (by decide) ?_
    refine H.q (yl_load Tryz.isAgg37 rfl (fun w hw => cell_ext hw.ext hr)) rfl rfl (by decide) ?_
    refine H.q (yl_len rfl Tryz.underlying37 rfl) rfl rfl (by decide) ?_
    refine H.q (yl_assign rfl) rfl rfl (by decide) ?_
    refine HN.done ?_
    refine HN.keep [(2, _)] ⟨rfl, trivial⟩ ?_
    refine HN.then ?_
    refine HR.ret ?_
    refine HR.ret1 _ Tryz.results22 rfl (fun w hw => ?_)
    exact ⟨rfl, hw.ext⟩

set_option maxRecDepth 100000 in
theorem new_any (vars : Int) (w0 : World) : Calls Tryz.prog 17 #[.int .i64 vars] w0 fun e w' => (vars < 1 ∧ e = .returned (.tuple #[.pointer none, .int .i64 1]) ∧ Ext w0 w') ∨ (8 < vars ∧ e = .returned (.tuple #[.pointer none, .int .i64 3]) ∧ Ext w0 w') ∨ (1 ≤ vars ∧ vars ≤ 8 ∧ ∃ bm, e = .returned (.tuple #[.pointer (some ⟨bm, 0, none⟩), .int .i64 0]) ∧ Hp w0 [(bm, ex (.cells [.int .i64 vars, .slice none 0 0].toArray 94))] [] [] w') := by
  refine enterA 14 Tryz.func17 rfl Tryz.ntmps17 rfl (Hp w0 [] [] []) (Hp.init _) ?_
  refine H.seq ?_
  refine H.region ?_
  refine H.q (yl_assign rfl) rfl rfl (by decide) ?_
  refine H.q (yl_assign rfl) rfl rfl (by decide) ?_
  refine HN.done ?_
  refine HN.keep [(0, _)] ⟨rfl, trivial⟩ ?_
  refine HN.then ?_
  refine H.seq ?_
  refine H.block ?_
  refine H.seq ?_
  refine H.region ?_
  refine H.q (yl_move rfl) rfl rfl (by decide) ?_
  refine H.q (yl_lss rfl rfl) rfl rfl (by decide) ?_
  refine H.q (yl_assign rfl) rfl rfl (by decide) ?_
  refine HN.done ?_
  refine HN.keep [(0, _), (4, _)] ⟨rfl, rfl, trivial⟩ ?_
  refine HN.then ?_
  refine H.cond _ rfl (fun t0 => ?_) (fun t0 => ?_)
  · simp only [decide_eq_true_eq] at t0
    refine H.keep [] trivial ?_
    refine H.seq ?_
    refine H.region ?_
    refine H.q (yl_assign rfl) rfl rfl (by decide) ?_
    refine H.q (yl_assign rfl) rfl rfl (by decide) ?_
    refine HN.done ?_
    refine HN.keep [(2, _), (3, _)] ⟨rfl, rfl, trivial⟩ ?_
    refine HN.then ?_
    refine HR.ret ?_
    refine HR.block ?_
    refine HR.then ?_
    refine HR.ret2 _ _ Tryz.results17 rfl rfl (fun w hw => ?_)
    exact .inl ⟨t0, rfl, hw.ext⟩
  · simp only [decide_eq_false_iff_not] at t0
    refine H.keep [(0, _)] ⟨rfl, trivial⟩ ?_
    refine H.seq ?_
    refine H.region ?_
    refine H.q (yl_move rfl) rfl rfl (by decide) ?_
    refine H.q (yl_gtr rfl rfl) rfl rfl (by decide) ?_
    refine H.q (yl_assign rfl) rfl rfl (by decide) ?_
    refine HN.done ?_
    refine HN.keep [(0, _), (7, _)] ⟨rfl, rfl, trivial⟩ ?_
    refine HN.then ?_
    refine H.cond _ rfl (fun t1 => ?_) (fun t1 => ?_)
    · simp only [decide_eq_true_eq] at t1
      refine H.keep [] trivial ?_
      refine H.seq ?_
      refine H.region ?_
      refine H.q (yl_assign rfl) rfl rfl (by decide) ?_
      refine H.q (yl_assign rfl) rfl rfl (by decide) ?_
      refine HN.done ?_
      refine HN.keep [(2, _), (3, _)] ⟨rfl, rfl, trivial⟩ ?_
      refine HN.then ?_
      refine HR.ret ?_
      refine HR.block ?_
      refine HR.then ?_
      refine HR.ret2 _ _ Tryz.results17 rfl rfl (fun w hw => ?_)
      exact .inr (.inl ⟨t1, rfl, hw.ext⟩)
    · simp only [decide_eq_false_iff_not] at t1
      refine H.keep [(0, _)] ⟨rfl, trivial⟩ ?_
      refine HN.skip ?_
      refine HN.block ?_
      refine HN.then ?_
      refine H.seq ?_
      refine H.region ?_
      refine H.q (yl_move rfl) rfl rfl (by decide) ?_
      refine H.q (yl_build (bd92 _) rfl) rfl rfl (by decide) ?_
      refine H.q (yl_build (bd94 _ _ _ _) rfl) rfl rfl (by decide) ?_
      refine H.boxA rfl (by decide) (fun b13 hb13 => ?_)
      refine H.q (yl_assign rfl) rfl rfl (by decide) ?_
      refine H.q (yl_assign rfl) rfl rfl (by decide) ?_
      refine HN.done ?_
      refine HN.keep [(2, _), (3, _)] ⟨rfl, rfl, trivial⟩ ?_
      refine HN.then ?_
      refine HR.ret ?_
      refine HR.ret2 _ _ Tryz.results17 rfl rfl (fun w hw => ?_)
      exact .inr (.inr ⟨by omega, by omega, b13, rfl, hw⟩)

set_option maxRecDepth 100000 in
theorem low_any (l : List Int) (sv : Value) (w0 : World) (hl : 0 < l.length) (hv : IsInts w0 sv l) : Calls Tryz.prog 84 #[.agg [sv].toArray] w0 fun e w' => e = .returned (.int .i64 (l.getD 0 0)) ∧ Ext w0 w' := by
  obtain ⟨ad, cap, b, o, rfl, hcap, hs⟩ := ints_open hv
  refine enterA 7 Tryz.func84 rfl Tryz.ntmps84 rfl (Hp w0 [] [] []) (Hp.init _) ?_
  refine H.seq ?_
  refine H.region ?_
  refine H.boxA rfl (by decide) (fun b1 hb1 => ?_)
  refine H.q (yl_assign rfl) rfl rfl (by decide) ?_
  refine HN.done ?_
  refine HN.keep [(1, _)] ⟨rfl, trivial⟩ ?_
  refine HN.then ?_
  refine H.seq ?_
  refine H.region ?_
  refine H.q (yl_fieldAddr _ fa102_0 rfl) rfl rfl (by decide) ?_
  refine H.q (yl_load Tryz.isAgg23 rfl (fun w hw => hw.cell 0 rfl rfl)) rfl rfl (by decide) ?_
  refine H.q (yl_ix 0 Tryz.underlying23 Tryz.sizeOf2 (hs 0 hl).1 rfl rfl rfl hl) rfl rfl (by decide) ?_
  refine H.q (yl_load Tryz.isAgg2 rfl (fun w hw => cell_ext hw.ext (hs 0 hl).2)) rfl rfl (by decide) ?_
  refine H.q (yl_assign rfl) rfl rfl (by decide) ?_
  refine HN.done ?_
  refine HN.keep [(2, _)] ⟨rfl, trivial⟩ ?_
  refine HN.then ?_
  refine HR.ret ?_
  refine HR.ret1 _ Tryz.results84 rfl (fun w hw => ?_)
  exact ⟨rfl, hw.ext⟩

set_option maxRecDepth 100000 in
theorem high_any (l : List Int) (sv : Value) (w0 : World) (hl : 0 < l.length) (hv : IsInts w0 sv l) (hl2 : l.length ≤ 1000000) : Calls Tryz.prog 85 #[.agg [sv].toArray] w0 fun e w' => e = .returned (.int .i64 (l.getD (l.length - 1) 0)) ∧ Ext w0 w' := by
  obtain ⟨ad, cap, b, o, rfl, hcap, hs⟩ := ints_open hv
  refine enterA 11 Tryz.func85 rfl Tryz.ntmps85 rfl (Hp w0 [] [] []) (Hp.init _) ?_
  refine H.seq ?_
  refine H.region ?_
  refine H.boxA rfl (by decide) (fun b1 hb1 => ?_)
  refine H.q (yl_assign rfl) rfl rfl (by decide) ?_
  refine HN.done ?_
  refine HN.keep [(1, _)] ⟨rfl, trivial⟩ ?_
  refine HN.then ?_
  refine H.seq ?_
  refine H.region ?_
  refine H.q (yl_fieldAddr _ fa102_0 rfl) rfl rfl (by decide) ?_
  refine H.q (yl_load Tryz.isAgg23 rfl (fun w hw => hw.cell 0 rfl rfl)) rfl rfl (by decide) ?_
  refine H.q (yl_fieldAddr _ fa102_0 rfl) rfl rfl (by decide) ?_
  refine H.q (yl_load Tryz.isAgg23 rfl (fun w hw => hw.cell 0 rfl rfl)) rfl rfl (by decide) ?_
  refine H.q (yl_len rfl Tryz.underlying23 rfl) rfl rfl (by decide) ?_
  refine H.q (yl_sub' rfl rfl ((l.length - 1 : Nat) : Int) (by omega) (by omega)) rfl rfl (by decide) ?_
  refine H.q (yl_ix (l.length - 1) Tryz.underlying23 Tryz.sizeOf2 (hs (l.length - 1) (by omega)).1 rfl rfl rfl (by omega)) rfl rfl (by decide) ?_
  refine H.q (yl_load Tryz.isAgg2 rfl (fun w hw => cell_ext hw.ext (hs (l.length - 1) (by omega)).2)) rfl rfl (by decide) ?_
  refine H.q (yl_assign rfl) rfl rfl (by decide) ?_
  refine HN.done ?_
  refine HN.keep [(2, _)] ⟨rfl, trivial⟩ ?_
  refine HN.then ?_
  refine HR.ret ?_
  refine HR.ret1 _ Tryz.results85 rfl (fun w hw => ?_)
  exact ⟨rfl, hw.ext⟩

end Go.Proofs.YtgbgddmbooaddaaGreatDoor

namespace Go.Proofs
open Go.Shelf
def Tryz.sortLays_ren : Go.Shelf.Ren := ⟨fun | 5 => 83 | 8 => 111 | 7 => 110 | 19 => 134 | 20 => 114 | 10 => 125 | 11 => 126 | 12 => 127 | 13 => 128 | 14 => 129 | 15 => 130 | 16 => 131 | 17 => 132 | 18 => 133 | 30 => 147 | 31 => 148 | 32 => 149 | 33 => 150 | 34 => 151 | 35 => 152 | 40 => 160 | n => n, fun | 23 => 23 | 25 => 2 | 3 => 3 | 32 => 163 | 22 => 23 | 0 => 0 | 44 => 168 | 46 => 121 | 4 => 4 | 36 => 177 | 35 => 176 | 41 => 181 | 5 => 5 | 9 => 9 | 53 => 190 | 57 => 194 | 63 => 209 | 64 => 210 | n => n, fun | n => n⟩
theorem Tryz.sortLays : Go.Proofs.SlLaysM.n5 Tryz.prog Tryz.sortLays_ren := {
  mixed := by kernel_rfl
  f5 := ⟨Tryz.f83.name, by decide, Tryz.func83.trans (congrArg some (by kernel_rfl))⟩
  f7 := ⟨Tryz.f110.name, by decide, Tryz.func110.trans (congrArg some (by kernel_rfl))⟩
  f8 := Tryz.func111.trans (congrArg some (by kernel_rfl))
  f10 := ⟨Tryz.f125.name, by decide, Tryz.func125.trans (congrArg some (by kernel_rfl))⟩
  f11 := ⟨Tryz.f126.name, by decide, Tryz.func126.trans (congrArg some (by kernel_rfl))⟩
  f12 := ⟨Tryz.f127.name, by decide, Tryz.func127.trans (congrArg some (by kernel_rfl))⟩
  f13 := ⟨Tryz.f128.name, by decide, Tryz.func128.trans (congrArg some (by kernel_rfl))⟩
  f14 := ⟨Tryz.f129.name, by decide, Tryz.func129.trans (congrArg some (by kernel_rfl))⟩
  f15 := ⟨Tryz.f130.name, by decide, Tryz.func130.trans (congrArg some (by kernel_rfl))⟩
  f16 := ⟨Tryz.f131.name, by decide, Tryz.func131.trans (congrArg some (by kernel_rfl))⟩
  f17 := ⟨Tryz.f132.name, by decide, Tryz.func132.trans (congrArg some (by kernel_rfl))⟩
  f18 := ⟨Tryz.f133.name, by decide, Tryz.func133.trans (congrArg some (by kernel_rfl))⟩
  f19 := Tryz.func134.trans (congrArg some (by kernel_rfl))
  f20 := Tryz.func114.trans (congrArg some (by kernel_rfl))
  f30 := ⟨Tryz.f147.name, by decide, Tryz.func147.trans (congrArg some (by kernel_rfl))⟩
  f31 := Tryz.func148.trans (congrArg some (by kernel_rfl))
  f32 := Tryz.func149.trans (congrArg some (by kernel_rfl))
  f33 := ⟨Tryz.f150.name, by decide, Tryz.func150.trans (congrArg some (by kernel_rfl))⟩
  f34 := ⟨Tryz.f151.name, by decide, Tryz.func151.trans (congrArg some (by kernel_rfl))⟩
  f35 := ⟨Tryz.f152.name, by decide, Tryz.func152.trans (congrArg some (by kernel_rfl))⟩
  f40 := ⟨Tryz.f160.name, by decide, Tryz.func160.trans (congrArg some (by kernel_rfl))⟩
  t0 := Tryz.underlying0
  a0 := Tryz.isAgg0
  z0 := Tryz.sizeOf0
  v0 := Tryz.zeroValue0
  t3 := Tryz.underlying3
  a3 := Tryz.isAgg3
  z3 := Tryz.sizeOf3
  v3 := Tryz.zeroValue3
  t4 := Tryz.underlying4
  a4 := Tryz.isAgg4
  z4 := Tryz.sizeOf4
  v4 := Tryz.zeroValue4
  t5 := Tryz.underlying5
  a5 := Tryz.isAgg5
  z5 := Tryz.sizeOf5
  v5 := Tryz.zeroValue5
  t9 := Tryz.underlying9
  a9 := Tryz.isAgg9
  z9 := Tryz.sizeOf9
  v9 := Tryz.zeroValue9
  t22 := Tryz.underlying23
  a22 := Tryz.isAgg23
  z22 := Tryz.sizeOf23
  v22 := Tryz.zeroValue23
  t23 := Tryz.underlying23
  a23 := Tryz.isAgg23
  z23 := Tryz.sizeOf23
  v23 := Tryz.zeroValue23
  t25 := Tryz.underlying2
  a25 := Tryz.isAgg2
  z25 := Tryz.sizeOf2
  v25 := Tryz.zeroValue2
  t32 := Tryz.underlying163
  a32 := Tryz.isAgg163
  z32 := Tryz.sizeOf163
  v32 := Tryz.zeroValue163
  t35 := Tryz.underlying176
  a35 := Tryz.isAgg176
  z35 := Tryz.sizeOf176
  v35 := Tryz.zeroValue176
  t36 := Tryz.underlying177
  a36 := Tryz.isAgg177
  z36 := Tryz.sizeOf177
  v36 := Tryz.zeroValue177
  t41 := Tryz.underlying181
  a41 := Tryz.isAgg181
  z41 := Tryz.sizeOf181
  v41 := Tryz.zeroValue181
  t44 := Tryz.underlying168
  a44 := Tryz.isAgg168
  z44 := Tryz.sizeOf168
  v44 := Tryz.zeroValue168
  t46 := Tryz.underlying121
  a46 := Tryz.isAgg121
  z46 := Tryz.sizeOf121
  v46 := Tryz.zeroValue121
  t53 := Tryz.underlying190
  a53 := Tryz.isAgg190
  z53 := Tryz.sizeOf190
  v53 := Tryz.zeroValue190
  t57 := Tryz.underlying194
  a57 := Tryz.isAgg194
  z57 := Tryz.sizeOf194
  v57 := Tryz.zeroValue194
  t63 := Tryz.underlying209
  a63 := Tryz.isAgg209
  z63 := Tryz.sizeOf209
  v63 := Tryz.zeroValue209
  t64 := Tryz.underlying210
  a64 := Tryz.isAgg210
  z64 := Tryz.sizeOf210
  v64 := Tryz.zeroValue210 }
end Go.Proofs

namespace Go.Proofs.YtgbgddmbooaddaaGreatDoor
open Go.RowKit Go.MapKept Go.ChangeMaps

theorem owned_perm {L L' : List BP} {R R' : List Rw} (hL : L.Perm L') (hR : R.Perm R') : (owned L R).Perm (owned L' R') := (hL.map _).append (hR.filterMap _)
theorem Hp.perm {w0 : World} {L L' : List BP} {R R' : List Rw} {F : List BP} {w : World} (h : Hp w0 L R F w) (hL : L.Perm L') (hR : R.Perm R') : Hp w0 L' R' F w where
  ext := h.ext
  own := fun p hp => h.own p (hL.mem_iff.2 hp)
  rows := fun r hr => h.rows r (hR.mem_iff.2 hr)
  fgn := h.fgn
  nodup := (owned_perm hL hR).nodup_iff.1 h.nodup
  low := fun b hb => h.low b ((owned_perm hL hR).mem_iff.2 hb)
  apart := fun b hb => h.apart b ((owned_perm hL hR).mem_iff.2 hb)
theorem Hp.permR {w0 : World} {L : List BP} {R R' : List Rw} {F : List BP} {w : World} (h : Hp w0 L R F w) (hR : R.Perm R') : Hp w0 L R' F w := h.perm (List.Perm.refl _) hR
theorem Hp.permL {w0 : World} {L L' : List BP} {R : List Rw} {F : List BP} {w : World} (h : Hp w0 L R F w) (hL : L.Perm L') : Hp w0 L' R F w := h.perm hL (List.Perm.refl _)
/-- Rows of no slice at all come for nothing. -/
theorem Hp.rowsNil {w0 : World} {L : List BP} {R : List Rw} {F : List BP} {w : World} (h : Hp w0 L R F w) : ∀ (k : Nat), Hp w0 L (List.replicate k ⟨.slice none 0 0, 0, 2, 1, []⟩ ++ R) F w
  | 0 => h
  | k + 1 => (Hp.rowsNil h k).rowNil 2 1
theorem Hp.dropRs {w0 : World} {L : List BP} {F : List BP} {w : World} : ∀ (A : List Rw) {R : List Rw}, Hp w0 L (A ++ R) F w → Hp w0 L R F w
  | [], _, h => h
  | _ :: A, _, h => Hp.dropRs A (Hp.dropR h)
theorem Hp.dropLs {w0 : World} {R : List Rw} {F : List BP} {w : World} : ∀ (A : List BP) {L : List BP}, Hp w0 (A ++ L) R F w → Hp w0 L R F w
  | [], _, h => h
  | _ :: A, _, h => Hp.dropLs A (Hp.drop h)

section
variable {P : Program} {n : Nat} {e : Env} {w0 : World} {L : List BP} {R : List Rw} {F : List BP} {Q : Exit → Act → World → Prop} {ops : Array Oper} {rest : List Oper}
/-- A made slice without elements. -/
theorem H.makeSlice {ty el d sz by_ : Nat} {x y : Operand} {t : TypeId} {p : String} {af : Array Edge} {z : Value} {k1 k2 : IntKind} (c : Nat) (hel : El P ty el z sz by_) (hx : eev e x = some (.int k1 0)) (hy : eev e y = some (.int k2 (c : Int))) (hb : by_ * c ≤ 281474976710656) (hc : c ≤ maxLen) (hn : d < n)
    (h : ∀ v, H n ((d, v) :: e) (Hp w0 L (⟨v, 0, el, sz, []⟩ :: R) F) (wpList P ops Q rest)) :
    H n e (Hp w0 L R F) (wpList P ops Q (⟨some d, .makeSlice ty x y, t, p, af, none⟩ :: rest)) := by
  intro a w hf hcl
  refine wpList_plain rfl fun K hK => ?_
  obtain ⟨ht, hinfo, hzs, hsp⟩ := hel
  obtain ⟨i, hi, hi2⟩ := Option.map_eq_some_iff.1 hinfo
  simp only [Prod.mk.injEq] at hi2
  obtain ⟨hz, hs, hby⟩ := hi2
  obtain ⟨w', hr, ho, hg⟩ := run_make_own (P := P) w 0 ty el i z sz ht hi hz hs k1 k2 c (by rw [hby]; exact hb) hc (Nat.zero_le _)
  have hr' : (execOp a.eval ⟨some d, .makeSlice ty x y, t, p, af, none⟩).run P w = .ok (.value (.slice (some ⟨w.heap.size, 0, none⟩) 0 c)) w' := by
    simp [execOp, hf.ev hx, hf.ev hy, hr]
  unfold Oper.wp
  rw [hr']
  refine hK _ _ (h _ _ _ (hf.put hn _) ?_)
  exact (hcl.rowNil el sz).grow 0 rfl ⟨.slice (some ⟨w.heap.size, 0, none⟩) 0 c, 0, el, sz, []⟩ hg ho (fun b hb => .inr (by simp [Rw.blk, Value.ownBlock] at hb; omega))

/-- The map's entries, as they lie. -/
theorem H.openMap {κ β : Type} {ke : κ → Value} {ve : β → Value} {l : List (κ × β)} {b : Nat} {K : Act → World → Prop} (i : Nat) (hL : L[i]? = some (b, IsMap ke ve l))
    (h : ∀ es clock, Stamped es clock → es.toList.map (fun x => (x.key, x.val)) = (l.map fun p => (ke p.1, ve p.2)) → H n e (Hp w0 (L.set i (b, ex (.map es clock))) R F) K) : H n e (Hp w0 L R F) K := by
  intro a w hf hc
  obtain ⟨o, ho, es, clock, rfl, hst, hes⟩ := hc.own _ (List.mem_of_getElem? hL)
  exact h es clock hst hes a w hf (hc.store i _ hL rfl rfl rfl rfl ho rfl (fun _ _ => rfl))

theorem H.range {mty kt et d : Nat} {x : Operand} {t : TypeId} {p : String} {af : Array Edge} {b clock : Nat} {es : Array MapEntry} (i : Nat) (hm : P.underlying mty = some (.map kt et)) (hL : L[i]? = some (b, ex (.map es clock))) (hx : eev e x = some (.map (some b))) (hn : d < n)
    (h : ∀ r, H n ((d, .pointer (some ⟨r, 0, none⟩)) :: e) (Hp w0 ((r, ex (.mapIter (some b) clock #[] clock)) :: L) R F) (wpList P ops Q rest)) :
    H n e (Hp w0 L R F) (wpList P ops Q (⟨some d, .range mty x, t, p, af, none⟩ :: rest)) := by
  intro a w hf hc
  refine wpList_plain rfl fun K hK => ?_
  have hb := hc.blk i hL
  have hr : (execOp a.eval ⟨some d, .range mty x, t, p, af, none⟩).run P w = .ok (.value (.pointer (some ⟨w.heap.size, 0, none⟩))) (w.alloc (.mapIter (some b) clock #[] clock)) := by
    simp [execOp, hf.ev hx, run_range_map w mty kt et b es clock hm hb]
  unfold Oper.wp
  rw [hr]
  exact hK _ _ (h w.heap.size _ _ (hf.put hn _) (hc.alloc _))

/-- One step of a range over a map: 'done' are the entries that came out. -/
theorem H.next {d : Nat} {x : Operand} {t : TypeId} {p : String} {af : Array Edge} {b r since clock c0 : Nat} {es : Array MapEntry} (done : List MapEntry) (i j : Nat) (hL : L[i]? = some (b, ex (.map es clock))) (hI : L[j]? = some (r, ex (.mapIter (some b) since (done.map (·.born)).toArray c0))) (hold : ∀ x ∈ es.toList, x.born < since) (hsc : since ≤ c0)
    (hx : eev e x = some (.pointer (some ⟨r, 0, none⟩))) (hn : d < n)
    (h0 : (∀ x ∈ es.toList, x.born ∈ done.map (·.born)) → H n ((d, .tuple #[.bool false]) :: e) (Hp w0 L R F) (wpList P ops Q rest))
    (h1 : ∀ m ∈ es.toList, m.born ∉ done.map (·.born) → H n ((d, .tuple #[.bool true, m.key, m.val]) :: e) (Hp w0 (L.set j (r, ex (.mapIter (some b) since ((done ++ [m]).map (·.born)).toArray clock))) R F) (wpList P ops Q rest)) :
    H n e (Hp w0 L R F) (wpList P ops Q (⟨some d, .next x false, t, p, af, none⟩ :: rest)) := by
  intro a w hf hc
  refine wpList_plain rfl fun K hK => ?_
  have hb := hc.blk i hL
  have hr := hc.blk j hI
  rcases run_next_at (P := P) w t r b since c0 _ es clock hr hb hold hsc with ⟨k0, hrun⟩ | ⟨m, hm, w1, hal, hrun⟩
  · have hr' : (execOp a.eval ⟨some d, .next x false, t, p, af, none⟩).run P w = .ok (.value (.tuple #[.bool false])) w := by
      simp [execOp, hf.ev hx, hrun]
    unfold Oper.wp
    rw [hr']
    refine hK _ _ (h0 (fun x hx => ?_) _ _ (hf.put hn _) hc)
    have := all_seen es _ k0 x hx
    simpa using this
  · have hr' : (execOp a.eval ⟨some d, .next x false, t, p, af, none⟩).run P w = .ok (.value (.tuple #[.bool true, m.key, m.val])) (setBlock w1 r (.mapIter (some b) since ((done.map (·.born)).toArray.push m.born) clock)) := by
      simp [execOp, hf.ev hx, hrun]
    unfold Oper.wp
    rw [hr']
    have hm2 : m ∈ es.toList ∧ m.born ∉ done.map (·.born) := by
      simp only [leftOf, Array.toList_filter, List.mem_filter] at hm
      refine ⟨hm.1, ?_⟩
      have := hm.2
      simp only [List.contains_toArray, Bool.not_eq_true', List.contains_eq_mem, decide_eq_false_iff_not] at this
      exact this
    have hc1 : Hp w0 L R F w1 := by
      rcases hal with rfl | rfl
      · exact hc
      · exact hc.step ⟨rfl, rfl, rfl, Nat.le_refl _, fun _ _ => rfl⟩
    have hs : (done.map (·.born)).toArray.push m.born = ((done ++ [m]).map (·.born)).toArray := by simp
    rw [hs]
    refine hK _ _ (h1 m hm2.1 hm2.2 _ _ (hf.put hn _) ?_)
    have hr1 := hc1.blk j hI
    have hlt := blk_lt hr1
    exact hc1.store j _ hI rfl rfl rfl (by simp [setBlock]) (by simp [setBlock, hlt]) rfl (fun k hk => by simp [setBlock, Ne.symm hk])

theorem yl_entry {d : Option Tmp} {x : Operand} {t : TypeId} {p : String} {af : Array Edge} {g : Option (Nat × Bool)} {b r since clock : Nat} {es : Array MapEntry} (done : List MapEntry) (m : MapEntry) (i j : Nat) (hL : L[i]? = some (b, ex (.map es clock))) (hI : L[j]? = some (r, ex (.mapIter (some b) since ((done ++ [m]).map (·.born)).toArray clock))) (hm : m ∈ es.toList) (hst : Stamped es clock)
    (hx : eev e x = some (.pointer (some ⟨r, 0, none⟩))) : Yl P (Hp w0 L R F) n e ⟨d, .entry x, t, p, af, g⟩ (.tuple #[m.key, m.val]) :=
  Yl.val fun a w hf hc => by
    have hb := hc.blk i hL
    have hr := hc.blk j hI
    have hs : ((done ++ [m]).map (·.born)).toArray = (done.map (·.born)).toArray.push m.born := by simp
    rw [hs] at hr
    simp [execOp, hf.ev hx, run_entry_at w r b since _ es clock m hr hb hm hst.2.1]
end

section
variable {P : Program} {n : Nat} {e : Env} {C S : World → Prop} {d : Option Tmp} {t : TypeId} {p : String} {af : Array Edge} {g : Option (Nat × Bool)}
/-- 'a[i]' of an array in memory. -/
theorem yl_aix {x ix : Operand} {b o ty el m : Nat} {k : IntKind} {i : Int} (j : Nat) (hu : P.underlying ty = some (.array m el)) (hsz : ∀ w, (sizeOf el).run P w = .ok 1 w) (hx : eev e x = some (.pointer (some ⟨b, o, none⟩))) (hi : eev e ix = some (.int k i)) (hj : i = (j : Int)) (hl : j < m) : Yl P C n e ⟨d, .indexAddr ty x ix, t, p, af, g⟩ (.pointer (some ⟨b, o + j, none⟩)) :=
  Yl.val fun ac w hf hw => by
    subst hj
    simp [execOp, hf.ev hx, hf.ev hi, Instr.indexAt, run_underlying hu, asIntOf, hl, Instr.sureAddr, hsz w, add_at]
end

section
variable {P : Program} {n : Nat} {e : Env} {C : World → Prop} {Q : Exit → Act → World → Prop} {ops : Array Oper} {rest : List Oper}
/-- A call of a function value, whatever it does. -/
theorem H.callvX {α : Type} {f : FuncId} {x : Operand} {xs : List Operand} {vs caps : List Value} {d : Nat} {t : TypeId} {p : String} {af : Array Edge} {ats : Array TypeId} (v : α → Value) (I : α → Prop) (C1 : α → World → Prop) (hen : ∀ args w, (callFunc f args).run P w = .ok (.enter f args) w) (hfv : eev e x = some (.func (.func f) #[] caps.toArray))
    (hx : eevs e xs = some vs) (hn : d < n) (hc : ∀ w, C w → Calls P f (vs ++ caps).toArray w fun en w' => ∃ z, en = .returned (v z) ∧ I z ∧ C1 z w')
    (h : ∀ z, I z → H n ((d, v z) :: e) (C1 z) (wpList P ops Q rest)) :
    H n e C (wpList P ops Q (⟨some d, .call { callee := .value x, args := xs.toArray, argTypes := ats }, t, p, af, none⟩ :: rest)) := by
  intro a w hf hcw
  refine wpList_plain rfl fun K hK => ?_
  have h1 : (List.map a.eval xs) = vs := hf.evs hx
  have h2 := hf.ev hfv
  have hr : (execOp a.eval ⟨some d, .call { callee := .value x, args := xs.toArray, argTypes := ats }, t, p, af, none⟩).run P w = .ok (.enter f (vs ++ caps).toArray) w := by
    simp [execOp, resolve, h1, h2, Deferred.ofValue, invoke, hen]
  unfold Oper.wp
  rw [hr]
  refine (hc w hcw).mono fun en w' hh => ?_
  obtain ⟨z, rfl, hI, hC⟩ := hh
  exact hK _ _ (h z hI _ _ (hf.put hn _) hC)
end

/-! ### Sorting -/
def sortI (l : List Int) : List Int := l.mergeSort fun x y => decide (x ≤ y)
theorem sortI_len (l : List Int) : (sortI l).length = l.length := List.length_mergeSort ..
theorem sort_any (l : List Int) (v : Value) (w : World) (hl : l.length ≤ 1000000) (h : Rw.ok w ⟨v, l.length, 2, 1, l.map (.int .i64 ·)⟩) : Calls Tryz.prog 83 #[v] w fun e w' => e = .returned (.tuple #[]) ∧ w.grownBy w' v.ownBlock ∧ Rw.ok w' ⟨v, l.length, 2, 1, (sortI l).map (.int .i64 ·)⟩ := by
  obtain ⟨h1, ⟨h2, h3⟩ | ⟨g, cap, cur, h3, h4, h5, h6, h7, h8, h9⟩⟩ := h
  · replace h2 : v = .slice none 0 0 := h2
    replace h3 : l.length = 0 := h3
    have := List.length_eq_zero_iff.1 h3
    subst h2
    subst this
    refine (AnyM.slices_Sort_int_none Tryz.sortLays none 0 w).mono fun e w' h => ?_
    obtain ⟨rfl, rfl⟩ := h
    exact ⟨rfl, ⟨rfl, rfl, rfl, Nat.le_refl _, fun _ _ _ => rfl⟩, by simp [sortI], .inl ⟨rfl, by simp⟩⟩
  · replace h3 : v = .slice (some ⟨g, 0, none⟩) l.length cap := h3
    subst h3
    simp only [Nat.mul_one] at h8 h9 h6
    have hlt := blk_lt h5
    refine (AnyM.slices_Sort_int Tryz.sortLays g 0 cap l w (fun j hj => ⟨?_, ?_⟩) hlt (by omega)).mono fun e w' h => ?_
    · refine cell_of_blk h5 ?_
      have hj' : j < l.length := by simpa using hj
      have : (cur.toList.take l.length)[j]? = some (.int .i64 l[j]) := by rw [h9]; simp [hj']
      rw [List.getElem?_take, if_pos hj'] at this
      simp only [Nat.zero_add]
      have e1 : l.toArray[j]! = l[j] := by simp [hj']
      rw [e1]
      simpa using this
    · simp [World.frozen?, h5]
    · obtain ⟨rfl, nn, os, rfl⟩ := h
      have hg : (Sort.grow (Sort.putRow (Value.int .i64) (Sort.ahead w nn) g 0 (sortI l).toArray) os).heap[g]? = some (.cells (Sort.putCells (Value.int .i64) 0 (sortI l).toArray cur) 2) := by
        have hsz : g < (w.heap.modify g (Sort.onCells (Sort.putCells (Value.int .i64) 0 (sortI l).toArray))).size := by simpa using hlt
        show ((w.heap.modify g _) ++ os)[g]? = _
        rw [Array.getElem?_append_left hsz, Array.getElem?_modify, if_pos rfl, h5]
        rfl
      refine ⟨rfl, ⟨rfl, rfl, rfl, ?_, fun k hk hne => ?_⟩, by simp [sortI_len], .inr ⟨g, cap, _, rfl, Nat.zero_le _, hg, h6, h7, ?_, ?_⟩⟩
      · show w.heap.size ≤ ((w.heap.modify g _) ++ os).size
        simp
      · show ((w.heap.modify g _) ++ os)[k]? = _
        have hne' : g ≠ k := fun e => hne (by simp [Value.ownBlock, e])
        rw [Array.getElem?_append_left (by simpa using hk), Array.getElem?_modify, if_neg hne']
      · simp [Sort.putCells, h8]
      · apply List.ext_getElem?
        intro j
        simp only [Nat.mul_one]
        rw [List.getElem?_take]
        by_cases hj : j < l.length
        · have hjc : j < cur.size := by omega
          have hjs : j < (sortI l).length := by rw [sortI_len]; exact hj
          simp [hj, Sort.putCells, hjc, sortI_len]
        · rw [if_neg hj, List.getElem?_eq_none (by simp [sortI_len]; omega)]
/-- 'slices.Sort' of one's own row. -/
theorem H.sort {n : Nat} {e : Env} {w0 : World} {L : List BP} {R : List Rw} {F : List BP} {Q : Exit → Act → World → Prop} {ops : Array Oper} {rest : List Oper} {x : Operand} {d : Nat} {t : TypeId} {p : String} {af : Array Edge} {ats : Array TypeId} (i : Nat) {v : Value} {l : List Int} (hR : R[i]? = some ⟨v, l.length, 2, 1, l.map (.int .i64 ·)⟩) (hl : l.length ≤ 1000000) (hx : eev e x = some v) (hn : d < n)
    (h : H n ((d, .tuple #[]) :: e) (Hp w0 L (R.set i ⟨v, l.length, 2, 1, (sortI l).map (.int .i64 ·)⟩) F) (wpList Tryz.prog ops Q rest)) :
    H n e (Hp w0 L R F) (wpList Tryz.prog ops Q (⟨some d, .call { callee := .value (.func 83), args := #[x], argTypes := ats }, t, p, af, none⟩ :: rest)) :=
  H.callX (α := Unit) (xs := [x]) (vs := [v]) (fun _ => .tuple #[]) (fun _ => True) (fun _ => Hp w0 L (R.set i ⟨v, l.length, 2, 1, (sortI l).map (.int .i64 ·)⟩) F) Tryz.call83 (by simp [eevs, hx]) hn (fun w hw => (sort_any l v w hl (hw.row i hR)).mono fun e w' hh => ⟨(), hh.1, trivial, hw.grow i hR _ hh.2.1 hh.2.2 (fun b hb => .inl hb)⟩) (fun _ _ => h)

end Go.Proofs.YtgbgddmbooaddaaGreatDoor

namespace Go.Proofs.YtgbgddmbooaddaaGreatDoor
open Go.RowKit Go.MapKept

abbrev rowI (v : Value) (l : List Int) : Rw := ⟨v, l.length, 2, 1, l.map (.int .i64 ·)⟩
/-- The values of a variable. -/
def colL (rows : List (List Int)) (a : Nat) : List Int := rows.map fun r => r.getD a 0
def insD {α : Type} [DecidableEq α] (l : List α) (k : α) : List α := if k ∈ l then l else l ++ [k]
/-- Each once, in the order in which they come. -/
def setD {α : Type} [DecidableEq α] (l : List α) : List α := l.foldl insD []
def factsE (rows : List (List Int)) (a : Nat) : List Int := sortI (setD (colL rows a))

section
variable {α : Type} [DecidableEq α]
theorem mem_insD {l : List α} {k x : α} : x ∈ insD l k ↔ x ∈ l ∨ x = k := by
  unfold insD
  split
  · rename_i h
    constructor
    · exact .inl
    · rintro (h1 | rfl)
      · exact h1
      · exact h
  · simp
theorem nodup_insD {l : List α} {k : α} (h : l.Nodup) : (insD l k).Nodup := by
  unfold insD
  split
  · exact h
  · rename_i hk
    rw [List.nodup_append]
    refine ⟨h, by simp, fun a ha b hb e => ?_⟩
    simp only [List.mem_singleton] at hb
    subst hb
    subst e
    exact hk ha
theorem foldD (l : List α) : ∀ acc : List α, acc.Nodup → (l.foldl insD acc).Nodup ∧ ∀ x, x ∈ l.foldl insD acc ↔ x ∈ acc ∨ x ∈ l := by
  induction l with
  | nil => intro acc h; simp [h]
  | cons a l ih =>
    intro acc h
    obtain ⟨h1, h2⟩ := ih (insD acc a) (nodup_insD h)
    refine ⟨h1, fun x => ?_⟩
    rw [List.foldl_cons, h2 x, mem_insD, List.mem_cons]
    exact or_assoc
theorem nodup_setD (l : List α) : (setD l).Nodup := (foldD l [] List.nodup_nil).1
theorem mem_setD {l : List α} {x : α} : x ∈ setD l ↔ x ∈ l := by rw [setD, (foldD l [] List.nodup_nil).2 x]; simp
theorem setD_len (l : List α) : (setD l).length ≤ l.length := by
  have key : ∀ (l acc : List α), (l.foldl insD acc).length ≤ acc.length + l.length := by
    intro l
    induction l with
    | nil => intro acc; simp
    | cons a l ih =>
      intro acc
      rw [List.foldl_cons]
      have h1 := ih (insD acc a)
      have h2 : (insD acc a).length ≤ acc.length + 1 := by unfold insD; split <;> simp
      simp only [List.length_cons]
      omega
  have := key l []
  simpa [setD] using this
theorem setD_take {l : List α} {k : Nat} (h : k < l.length) : setD (l.take (k + 1)) = insD (setD (l.take k)) l[k] := by
  unfold setD
  rw [List.take_succ_eq_append_getElem h, List.foldl_append]
  rfl
theorem mput_insD (l : List α) (k : α) : mput (l.map fun x => (x, true)) k true = (insD l k).map fun x => (x, true) := by
  unfold mput insD
  by_cases h : k ∈ l
  · rw [if_pos h, if_pos (by simpa using h), List.map_map]
    apply List.map_congr_left
    intro x hx
    simp only [Function.comp]
    split
    · rename_i e; rw [e]
    · rfl
  · rw [if_neg h, if_neg (by simpa using h)]
    simp
theorem mget_insD (l : List α) (k : α) : (mget (l.map fun x => (x, true)) k).elim false (fun b => b) = decide (k ∈ l) := by
  unfold mget
  induction l with
  | nil => simp
  | cons a l ih =>
    by_cases h : a = k
    · simp [h]
    · simp only [List.map_cons, List.find?_cons, h, decide_false, List.mem_cons, Ne.symm h, false_or]
      exact ih
end

/-- The greatest common divisor of two numbers that are not below 0. -/
def gcdE (a b : Int) : Int := ((Nat.gcd a.toNat b.toNat : Nat) : Int)
/-- The divisor of all steps up to k. -/
def stepE (c : List Int) : Nat → Int
  | 0 => 0
  | k + 1 => gcdE (stepE c k) (c.getD (k + 1) 0 - c.getD k 0)
def loE (c : List Int) : Int := c.getD 0 0
def hiE (c : List Int) : Int := c.getD (c.length - 1) 0
def aloneE (c : List Int) (a : Int) : List Inv :=
  if (c.length : Int) = 1 then [⟨1, a, 0, loE c, 0, []⟩] else
  ([⟨3, a, 0, loE c, 0, []⟩, ⟨4, a, 0, hiE c, 0, []⟩] ++ (if (c.length : Int) ≤ 3 then [⟨2, a, 0, 0, 0, c⟩] else []) ++
    (if ((!c.any (fun y => decide (0 = y)) && decide (loE c < 0)) && decide (0 < hiE c)) = true then [⟨5, a, 0, 0, 0, []⟩] else [])) ++
  (if (c.length : Int) ≤ 3 then [] else if (decide (2 ≤ stepE c (c.length - 1)) && decide (stepE c (c.length - 1) ≤ 2147483647)) = true then [⟨6, a, 0, modI (loE c) (stepE c (c.length - 1)), stepE c (c.length - 1), []⟩] else [])

/-- The claim that the second variable is linear in the first one; p is the first point. -/
def linT (p : Int × Int) (pts : List (Int × Int)) (a b : Int) (q : Int × Int) : Option Inv :=
  if (q.2 - p.2).tmod (q.1 - p.1) ≠ 0 then none else
  if smallB ((q.2 - p.2).tdiv (q.1 - p.1)) = false then none else
  if smallB (p.2 - (q.2 - p.2).tdiv (q.1 - p.1) * p.1) = false then none else
  if pts.all (fun r => decide (r.2 = (q.2 - p.2).tdiv (q.1 - p.1) * r.1 + (p.2 - (q.2 - p.2).tdiv (q.1 - p.1) * p.1))) then some ⟨11, a, b, (q.2 - p.2).tdiv (q.1 - p.1), p.2 - (q.2 - p.2).tdiv (q.1 - p.1) * p.1, []⟩ else none
def linE (pts : List (Int × Int)) (a b : Int) : Option Inv :=
  (pts.find? fun q => decide (q.1 ≠ (pts.getD 0 (0, 0)).1)).bind (linT (pts.getD 0 (0, 0)) pts a b)

def ptsL (rows : List (List Int)) (a b : Nat) : List (Int × Int) := rows.map fun r => (r.getD a 0, r.getD b 0)
def orderE (pts : List (Int × Int)) (ca cb : List Int) (a b : Int) : List Inv :=
  if pts.all (fun p => decide (p.1 < p.2)) then (if hiE ca < loE cb then [] else [⟨9, a, b, 0, 0, []⟩]) else
  if pts.all (fun p => decide (p.2 < p.1)) then (if hiE cb < loE ca then [] else [⟨9, b, a, 0, 0, []⟩]) else
  if pts.all (fun p => decide (p.1 ≤ p.2)) then (if hiE ca ≤ loE cb then [] else [⟨10, a, b, 0, 0, []⟩]) else
  if pts.all (fun p => decide (p.2 ≤ p.1)) then (if hiE cb ≤ loE ca then [] else [⟨10, b, a, 0, 0, []⟩]) else
  if pts.all (fun p => decide (p.1 ≠ p.2)) then [⟨8, a, b, 0, 0, []⟩] else []
def coupleE (rows : List (List Int)) (ca cb : List Int) (a b : Nat) : List Inv :=
  if (ptsL rows a b).all (fun p => decide (p.1 = p.2)) then [⟨7, a, b, 0, 0, []⟩] else
  orderE (ptsL rows a b) ca cb a b ++
  (if ((setD (ptsL rows a b)).length : Int) < 3 then [] else
    match linE (setD (ptsL rows a b)) a b with
    | some x => [x]
    | none => match linE ((setD (ptsL rows a b)).map fun p => (p.2, p.1)) b a with
      | some x => [x]
      | none => [])
/-- The pairs of variables in the order of the code. -/
def pairsL (n : Nat) : List (Nat × Nat) := (List.range n).flatMap fun a => ((List.range n).drop (a + 1)).map fun b => (a, b)
def claimsE (rows : List (List Int)) (vars : Nat) (support : Int) : List Inv :=
  if (rows.length : Int) = 0 ∨ (rows.length : Int) < support then [] else
  ((List.range vars).flatMap fun a => aloneE (factsE rows a) a) ++
  ((pairsL vars).flatMap fun p => if (factsE rows p.1).length > 1 ∧ (factsE rows p.2).length > 1 then coupleE rows (factsE rows p.1) (factsE rows p.2) p.1 p.2 else [])
end Go.Proofs.YtgbgddmbooaddaaGreatDoor

namespace Go.Proofs.YtgbgddmbooaddaaGreatDoor
open Go.RowKit


theorem newsI {w0 w : World} {ad : Option Addr} {b o : Nat} {l : List Int} (hs : ∀ j, j < l.length → ad = some ⟨b, o, none⟩ ∧ w0.cell? ⟨b, o + j, none⟩ = some (.int .i64 (l.getD j 0))) (he : Ext w0 w) :
    ∀ j u, (l.map (.int .i64 ·))[j]? = some u → ∃ a, ad = some a ∧ w.cell? (a.add j) = some u := fun j u hj => by
  rw [List.getElem?_map, Option.map_eq_some_iff] at hj
  obtain ⟨x, hx, rfl⟩ := hj
  obtain ⟨hlt, hx⟩ := List.getElem?_eq_some_iff.1 hx
  obtain ⟨h1, h2⟩ := hs j hlt
  refine ⟨_, h1, ?_⟩
  rw [add_at]
  have e1 : l.getD j 0 = x := by simp [List.getD, hlt, hx]
  rw [← e1]
  exact cell_ext he h2
theorem IsInts.of_row {w : World} {v : Value} {l : List Int} (h : Rw.ok w (rowI v l)) : IsInts w v l := Rw.isSl h rfl
theorem colL_take {rows : List (List Int)} {a k : Nat} (h : k < rows.length) : (colL rows a).take (k + 1) = (colL rows a).take k ++ [(rows[k]).getD a 0] := by
  rw [List.take_succ_eq_append_getElem (by simpa [colL] using h)]
  simp [colL]
theorem colL_len (rows : List (List Int)) (a : Nat) : (colL rows a).length = rows.length := by simp [colL]
/-- A miner's table as it lies in memory. -/
structure Tbl (w : World) (bm : Nat) (vars : Nat) (rv : Value) (rows : List (Value × List Int)) : Prop where
  var : w.cell? ⟨bm, 0, none⟩ = some (.int .i64 (vars : Int))
  cell : w.cell? ⟨bm, 1, none⟩ = some rv
  isr : IsRows w rv rows
  len : ∀ p ∈ rows, p.2.length = vars
  max : rows.length ≤ 1000000
  small : ∀ p ∈ rows, ∀ x ∈ p.2, smallB x = true
theorem Tbl.ext {w w' : World} {bm vars : Nat} {rv : Value} {rows : List (Value × List Int)} (h : Tbl w bm vars rv rows) (k : Ext w w') : Tbl w' bm vars rv rows := ⟨cell_ext k h.var, cell_ext k h.cell, h.isr.ext k, h.len, h.max, h.small⟩
abbrev rowsE (rows : List (Value × List Int)) : List (List Int) := rows.map (·.2)

set_option maxRecDepth 100000 in
theorem clone_any (l : List Int) (sv : Value) (w0 : World) (hl : l.length ≤ 1000000) (hv : IsInts w0 sv l) : Calls Tryz.prog 51 #[sv] w0 fun e w' => ∃ v, e = .returned v ∧ Hp w0 [] [rowI v l] [] w' := by
  obtain ⟨ad, cap, b, o, rfl, hcap, hs⟩ := ints_open hv
  refine enterA 8 Tryz.func51 rfl Tryz.ntmps51 rfl (Hp w0 [] [] []) (Hp.init _) ?_
  refine H.seq ?_
  refine H.region ?_
  refine H.q (yl_assign rfl) rfl rfl (by decide) ?_
  refine HN.done ?_
  refine HN.keep [(0, _)] ⟨rfl, trivial⟩ ?_
  refine HN.then ?_
  refine H.seq ?_
  refine H.seq ?_
  refine H.region ?_
  refine H.q (yl_move rfl) rfl rfl (by decide) ?_
  refine H.q (yl_sliceNil Tryz.underlying23 rfl) rfl rfl (by decide) ?_
  refine HN.done ?_
  refine HN.keep [(0, _), (4, _)] ⟨rfl, rfl, trivial⟩ ?_
  refine HN.then ?_
  refine H.cond _ rfl (fun t0 => ?_) (fun t0 => ?_)
  · have hl0 : l = [] := by
      cases l with
      | nil => rfl
      | cons x r => have := (hs 0 (by simp)).1; rw [this] at t0; cases t0
    subst hl0
    refine H.keep [] trivial ?_
    refine H.seq ?_
    refine H.region ?_
    refine H.q (yl_assign rfl) rfl rfl (by decide) ?_
    refine HN.done ?_
    refine HN.keep [(2, _)] ⟨rfl, trivial⟩ ?_
    refine HN.then ?_
    refine HR.ret ?_
    refine HR.then ?_
    refine HR.ret1 _ Tryz.results51 rfl (fun w hw => ?_)
    exact ⟨_, rfl, hw.rowNil 2 1⟩
  · refine H.keep [(0, _)] ⟨rfl, trivial⟩ ?_
    refine HN.skip ?_
    refine HN.then ?_
    refine H.seq ?_
    refine H.region ?_
    refine H.buildSlice (parts := []) (ps := []) bs23_0 rfl (by decide) (fun b5 hb5 => ?_)
    refine H.cls (Hp w0 [] [⟨.slice (some ⟨b5, 0, none⟩) 0 0, 0, 2, 1, []⟩] []) (fun w hw => hw.toRow rfl (by decide)) ?_
    refine H.q (yl_move rfl) rfl rfl (by decide) ?_
    refine H.append 0 (l.map (.int .i64 ·)) el23 rfl rfl rfl (by simp) (fun w hw => newsI hs hw.ext) (by simp [Value.oneCell']) (by simp only; omega) (by decide) (by decide) (fun v7 => ?_)
    refine H.q (yl_assign rfl) rfl rfl (by decide) ?_
    refine HN.done ?_
    refine HN.keep [(2, _)] ⟨rfl, trivial⟩ ?_
    refine HN.then ?_
    refine HR.ret ?_
    refine HR.ret1 _ Tryz.results51 rfl (fun w hw => ?_)
    exact ⟨v7, rfl, by simpa using hw⟩

set_option maxRecDepth 100000 in
theorem column_any (bm vars : Nat) (rv : Value) (rows : List (Value × List Int)) (w0 : World) (ht : Tbl w0 bm vars rv rows) (a : Nat) (ha : a < vars) : Calls Tryz.prog 82 #[.pointer (some ⟨bm, 0, none⟩), .int .i64 (a : Int)] w0 fun e w' => ∃ v, e = .returned v ∧ Hp w0 [] [rowI v (colL (rowsE rows) a)] [] w' := by
  have hrv := ht.isr
  obtain ⟨ad, cap, b, o, rfl, hcap, hs⟩ := rows_open hrv
  have hmax := ht.max
  refine enterA 32 Tryz.func82 rfl Tryz.ntmps82 rfl (Hp w0 [] [] []) (Hp.init _) ?_
  refine H.seq ?_
  refine H.region ?_
  refine H.q (yl_assign rfl) rfl rfl (by decide) ?_
  refine HN.done ?_
  refine HN.keep [(0, _), (1, _)] ⟨rfl, rfl, trivial⟩ ?_
  refine HN.then ?_
  refine H.seq ?_
  refine H.region ?_
  refine H.q (yl_move rfl) rfl rfl (by decide) ?_
  refine H.q (yl_nilCheck rfl) rfl rfl (by decide) ?_
  refine H.q (yl_fieldAddr _ fa92_1 rfl) rfl rfl (by decide) ?_
  refine H.q (yl_load Tryz.isAgg37 rfl (fun w hw => cell_ext hw.ext ht.cell)) rfl rfl (by decide) ?_
  refine H.q (yl_len rfl Tryz.underlying37 rfl) rfl rfl (by decide) ?_
  refine H.makeSlice rows.length el23 rfl rfl (by omega) (by simp only [maxLen]; omega) (by decide) (fun v13 => ?_)
  refine H.q (yl_assign rfl) rfl rfl (by decide) ?_
  refine HN.done ?_
  refine HN.keep [(0, _), (1, _), (5, _)] ⟨rfl, rfl, rfl, trivial⟩ ?_
  refine HN.then ?_
  refine H.seq ?_
  refine H.seq ?_
  refine H.region ?_
  refine H.q (yl_move rfl) rfl rfl (by decide) ?_
  refine H.q (yl_nilCheck rfl) rfl rfl (by decide) ?_
  refine H.q (yl_fieldAddr _ fa92_1 rfl) rfl rfl (by decide) ?_
  refine H.q (yl_load Tryz.isAgg37 rfl (fun w hw => cell_ext hw.ext ht.cell)) rfl rfl (by decide) ?_
  refine H.q (yl_len rfl Tryz.underlying37 rfl) rfl rfl (by decide) ?_
  refine H.q (yl_move rfl) rfl rfl (by decide) ?_
  refine HN.done ?_
  refine HN.keep [(1, _), (5, _), (17, _), (18, _), (19, _)] ⟨rfl, rfl, rfl, rfl, rfl, trivial⟩ ?_
  refine HN.then ?_
  refine H.block ?_
  refine H.loop (fun z : Nat × Value => [(1, .int .i64 (a : Int)), (5, z.2), (17, .slice ad rows.length cap), (18, .int .i64 (rows.length : Int)), (19, .int .i64 (z.1 : Int))]) (fun z => z.1 ≤ rows.length) (fun z => Hp w0 [] [⟨z.2, z.1, 2, 1, ((colL (rowsE rows) a).take z.1).map (.int .i64 ·)⟩] []) (fun z => rows.length - z.1) (0, v13) (Nat.zero_le _) ⟨rfl, rfl, rfl, rfl, rfl, trivial⟩ (fun w hw => hw) (fun z hz => ?_)
  refine H.seq ?_
  refine H.region ?_
  refine H.q (yl_lss rfl rfl) rfl rfl (by decide) ?_
  refine HN.done ?_
  refine HN.keep [(1, _), (5, _), (17, _), (18, _), (19, _), (20, _)] ⟨rfl, rfl, rfl, rfl, rfl, rfl, trivial⟩ ?_
  refine HN.then ?_
  refine H.seq ?_
  refine H.cond _ rfl (fun t0 => ?_) (fun t0 => ?_)
  · simp only [decide_eq_true_eq] at t0
    have hlt : z.1 < rows.length := by omega
    obtain ⟨h1, h2, h3⟩ := hs z.1 hlt
    obtain ⟨adr, capr, br, or, h4, hcapr, hsr⟩ := ints_open h3
    have hla : a < rows[z.1].2.length := by rw [ht.len _ (List.getElem_mem hlt)]; exact ha
    refine H.keep [(1, _), (5, _), (17, _), (18, _), (19, _)] ⟨rfl, rfl, rfl, rfl, rfl, trivial⟩ ?_
    refine HN.skip ?_
    refine HN.then ?_
    refine H.seq ?_
    refine H.block ?_
    refine H.seq ?_
    refine H.region ?_
    refine H.q (yl_ix z.1 Tryz.underlying37 Tryz.sizeOf23 h1 rfl rfl rfl hlt) rfl rfl (by decide) ?_
    refine H.q (yl_load Tryz.isAgg23 rfl (fun w hw => (cell_ext hw.ext h2).trans (by rw [h4]))) rfl rfl (by decide) ?_
    refine H.q (yl_assign rfl) rfl rfl (by decide) ?_
    refine HN.done ?_
    refine HN.keep [(1, _), (5, _), (7, _), (17, _), (18, _), (19, _)] ⟨rfl, rfl, rfl, rfl, rfl, rfl, trivial⟩ ?_
    refine HN.then ?_
    refine H.region ?_
    refine H.q (yl_move rfl) rfl rfl (by decide) ?_
    refine H.q (yl_move rfl) rfl rfl (by decide) ?_
    refine H.q (yl_move rfl) rfl rfl (by decide) ?_
    refine H.q (yl_ix a Tryz.underlying23 Tryz.sizeOf2 (hsr a hla).1 rfl rfl rfl hla) rfl rfl (by decide) ?_
    refine H.q (yl_load Tryz.isAgg2 rfl (fun w hw => cell_ext hw.ext (hsr a hla).2)) rfl rfl (by decide) ?_
    refine H.buildSlice (bs23 _) rfl (by decide) (fun b28 hb28 => ?_)
    refine H.append 0 [.int .i64 (rows[z.1].2.getD a 0)] el23 rfl rfl rfl rfl (fun w hw => news1 (hw.blk 0 rfl)) (by simp [Value.oneCell']) (by simp only; omega) (by decide) (by decide) (fun v29 => ?_)
    refine H.q (yl_assign rfl) rfl rfl (by decide) ?_
    refine HN.done ?_
    refine HN.keep [(1, _), (5, _), (17, _), (18, _), (19, _)] ⟨rfl, rfl, rfl, rfl, rfl, trivial⟩ ?_
    refine HN.block ?_
    refine HN.then ?_
    refine H.region ?_
    refine H.q (yl_add rfl rfl _ rfl (by omega)) rfl rfl (by decide) ?_
    refine H.q (yl_move rfl) rfl rfl (by decide) ?_
    refine HN.done ?_
    refine HN.keep [(1, _), (5, _), (17, _), (18, _), (19, _)] ⟨rfl, rfl, rfl, rfl, rfl, trivial⟩ ?_
    refine HN.then ?_
    have hcl : (colL (rowsE rows) a).take (z.1 + 1) = (colL (rowsE rows) a).take z.1 ++ [rows[z.1].2.getD a 0] := by
      rw [colL_take (by simpa using hlt)]; simp
    exact H.at (z.1 + 1, v29) ⟨by simp only; omega, by simp only; omega⟩ ⟨rfl, rfl, rfl, rfl, rfl, trivial⟩ (fun w hw => by simp only [hcl, List.map_append]; exact hw.drop)
  · simp only [decide_eq_false_iff_not] at t0
    have hz1 : z.1 = rows.length := by omega
    refine H.keep [(5, _)] ⟨rfl, trivial⟩ ?_
    refine HX.exit ?_
    refine HX.then ?_
    refine HX.then ?_
    refine HX.hit ?_
    refine HN.then ?_
    refine H.seq ?_
    refine H.region ?_
    refine H.q (yl_move rfl) rfl rfl (by decide) ?_
    refine H.q (yl_assign rfl) rfl rfl (by decide) ?_
    refine HN.done ?_
    refine HN.keep [(4, _)] ⟨rfl, trivial⟩ ?_
    refine HN.then ?_
    refine HR.ret ?_
    refine HR.ret1 _ Tryz.results82 rfl (fun w hw => ?_)
    have he : (colL (rowsE rows) a).take z.1 = colL (rowsE rows) a := List.take_of_length_le (by simp [colL]; omega)
    rw [he] at hw
    refine ⟨z.2, rfl, ?_⟩
    have hlen : (colL (rowsE rows) a).length = z.1 := by simp [colL]; omega
    unfold rowI
    rw [hlen]
    exact hw

set_option maxRecDepth 100000 in
theorem gcd_any (a b : Int) (ha : 0 ≤ a) (hb : 0 ≤ b) (w0 : World) : Calls Tryz.prog 87 #[.int .i64 a, .int .i64 b] w0 fun e w' => e = .returned (.int .i64 (gcdE a b)) ∧ Ext w0 w' := by
  refine enterA 12 Tryz.func87 rfl Tryz.ntmps87 rfl (Hp w0 [] [] []) (Hp.init _) ?_
  refine H.seq ?_
  refine H.region ?_
  refine H.q (yl_assign rfl) rfl rfl (by decide) ?_
  refine HN.done ?_
  refine HN.keep [(0, _), (1, _)] ⟨rfl, rfl, trivial⟩ ?_
  refine HN.then ?_
  refine H.seq ?_
  refine H.block ?_
  refine H.loop (fun z : Int × Int => [(0, .int .i64 z.1), (1, .int .i64 z.2)]) (fun z => 0 ≤ z.1 ∧ 0 ≤ z.2 ∧ gcdE z.1 z.2 = gcdE a b) (fun _ => Hp w0 [] [] []) (fun z => z.2.toNat) (a, b) ⟨ha, hb, rfl⟩ ⟨rfl, rfl, trivial⟩ (fun w hw => hw) (fun z hz => ?_)
  refine H.seq ?_
  refine H.seq ?_
  refine H.region ?_
  refine H.q (yl_move rfl) rfl rfl (by decide) ?_
  refine H.q (yl_neq rfl rfl) rfl rfl (by decide) ?_
  refine HN.done ?_
  refine HN.keep [(0, _), (1, _), (6, _)] ⟨rfl, rfl, rfl, trivial⟩ ?_
  refine HN.then ?_
  refine H.cond _ rfl (fun t0 => ?_) (fun t0 => ?_)
  · simp only [decide_eq_true_eq] at t0
    obtain ⟨hz1, hz2, hz3⟩ := hz
    refine H.keep [(0, _), (1, _)] ⟨rfl, rfl, trivial⟩ ?_
    refine HN.skip ?_
    refine HN.then ?_
    refine H.block ?_
    refine H.regionQ Tryz.mixed (by kernel_rfl) (stab_hp _ _ _ _) ?_
    refine G.q (yl_move rfl) rfl rfl (by decide) ?_
    refine G.q (yl_move rfl) rfl rfl (by decide) ?_
    refine G.q (yl_move rfl) rfl rfl (by decide) ?_
    refine G.q (yl_rem rfl rfl t0) rfl rfl (by decide) ?_
    refine G.q (yl_assign rfl) rfl rfl (by decide) ?_
    refine G.q (yl_assign rfl) rfl rfl (by decide) ?_
    refine HN.doneG ?_
    refine HN.keep [(0, _), (1, _)] ⟨rfl, rfl, trivial⟩ ?_
    refine HN.block ?_
    refine HN.then ?_
    have hm : z.1.tmod z.2 = z.1 % z.2 := Int.tmod_eq_emod_of_nonneg hz1
    have h0 : 0 < z.2 := by omega
    have hm1 := Int.emod_nonneg z.1 t0
    have hm2 := Int.emod_lt_of_pos z.1 h0
    refine H.at (z.2, z.1.tmod z.2) ⟨⟨hz2, by rw [hm]; exact hm1, ?_⟩, by rw [hm]; simp only; omega⟩ ⟨rfl, rfl, trivial⟩ (fun w hw => hw)
    rw [← hz3, hm]
    unfold gcdE
    rw [Int.toNat_emod hz1 hz2, Nat.gcd_comm z.2.toNat, ← Nat.gcd_rec, Nat.gcd_comm]
  · replace t0 : z.2 = 0 := by simpa using t0
    obtain ⟨hz1, hz2, hz3⟩ := hz
    refine H.keep [(0, _)] ⟨rfl, trivial⟩ ?_
    refine HX.exit ?_
    refine HX.then ?_
    refine HX.then ?_
    refine HX.hit ?_
    refine HN.then ?_
    refine H.seq ?_
    refine H.region ?_
    refine H.q (yl_move rfl) rfl rfl (by decide) ?_
    refine H.q (yl_assign rfl) rfl rfl (by decide) ?_
    refine HN.done ?_
    refine HN.keep [(4, _)] ⟨rfl, trivial⟩ ?_
    refine HN.then ?_
    refine HR.ret ?_
    refine HR.ret1 _ Tryz.results87 rfl (fun w hw => ?_)
    refine ⟨?_, hw.ext⟩
    rw [← hz3, t0]
    unfold gcdE
    simp only [Int.toNat_zero, Nat.gcd_zero_right]
    rw [Int.toNat_of_nonneg hz1]

end Go.Proofs.YtgbgddmbooaddaaGreatDoor

namespace Go.Proofs.YtgbgddmbooaddaaGreatDoor
open Go.RowKit Go.MapKept Go.Maps Go.WideMaps

theorem wf64 {x : Int} (h : smallB x = true) : (Lit.int .i64 x).wf = true := by
  simp only [smallB, Bool.and_eq_true, decide_eq_true_eq] at h
  have e2 : IntKind.i64.min = -9223372036854775808 := by decide
  have e3 : IntKind.i64.min ≤ x := by rw [e2]; omega
  simp [Lit.wf, e3]
  omega
def D2 (v : Value) : Prop := ∃ x : Int, v = .int .i64 x ∧ smallB x = true
theorem Tryz.keyed2 : KL Tryz.prog 2 D2 := KL.of (int_keyed Tryz.underlying2) fun v h => by
  obtain ⟨x, rfl, hx⟩ := h
  exact ⟨_, keyOf_int_mk Tryz.underlying2 (wf64 hx)⟩
theorem intV_inj : ∀ a b : Int, Value.int .i64 a = Value.int .i64 b → a = b := fun a b h => by cases h; rfl
abbrev pairV (p : Int × Int) : Value := .agg #[.int .i64 p.1, .int .i64 p.2]
theorem pairV_inj : ∀ a b : Int × Int, pairV a = pairV b → a = b := fun a b h => by
  simp only [pairV, Value.agg.injEq, Array.mk.injEq, List.cons.injEq, Value.int.injEq, true_and, and_true] at h
  exact Prod.ext h.1 h.2
theorem Tryz.laidOut : laidOutB Tryz.prog = true := by kernel_rfl
theorem Tryz.row139 : (139 : TypeId) < Tryz.prog.types.size := of_decide_eq_true (by kernel_rfl)
theorem Tryz.cells139 : Tryz.prog.cellsOf 139 = 2 := by kernel_rfl
theorem Tryz.arr139 : ArrKey Tryz.prog 139 2 2 := ⟨Tryz.underlying139, by kernel_rfl, by kernel_rfl, Tryz.cells139⟩
theorem Tryz.wide139 : (match Tryz.prog.underlying 139 with | some (.array _ _) | some (.struct _) => true | _ => false) = true := by rw [Tryz.underlying139]
theorem Tryz.tsz : ∃ m, Tryz.prog.types.size = m + 1 := ⟨Tryz.prog.types.size - 1, by have h : 139 < Tryz.prog.types.size := Tryz.row139; omega⟩
def D139 (v : Value) : Prop := ∃ p : Int × Int, v = pairV p ∧ smallB p.1 = true ∧ smallB p.2 = true
set_option maxRecDepth 100000 in
theorem Tryz.keyed139 : KL Tryz.prog 139 D139 := KL.of (Keyed.of_law (deep_law_laid Tryz.laidOut (m := 2) (Nat.le_of_ble_eq_true rfl) Tryz.row139 (by kernel_rfl) Tryz.wide139)) fun v h => by
  obtain ⟨p, rfl, h1, h2⟩ := h
  exact ⟨_, keyOf_pair Tryz.arr139 Tryz.underlying2 Tryz.tsz (wf64 h1) (wf64 h2)⟩

/-- How a row of numbers looks. -/
theorem rowI_open {w : World} {v : Value} {l : List Int} (h : Rw.ok w (rowI v l)) : ∃ ad cap b, v = .slice ad l.length cap ∧ l.length ≤ cap ∧ (0 < l.length → ad = some ⟨b, 0, none⟩) ∧ ∀ w', Rw.ok w' (rowI v l) → ∀ j, j < l.length → w'.cell? ⟨b, 0 + j, none⟩ = some (.int .i64 (l.getD j 0)) := by
  obtain ⟨ad, cap, b, h1, h2, h3⟩ := Rw.open1 (.int .i64 ·) h
  refine ⟨ad, cap, b, h1, h2, fun h0 => (h3 w h 0 h0).1, fun w' hw' j hj => ?_⟩
  rw [(h3 w' hw' j hj).2]
  simp [List.getD, hj]
theorem bd102 (ad : Option Addr) (n c : Nat) (w : World) : (Instr.build 102 [(0, .slice ad n c)].toArray).run Tryz.prog w = .ok (.agg [.slice ad n c].toArray) w := by kernel_rfl
theorem bd105 (ad : Option Addr) (n c : Nat) (a : Int) (w : World) : (Instr.build 105 [(0, .agg [.slice ad n c].toArray), (1, .int .i64 a)].toArray).run Tryz.prog w = .ok (.agg [.slice ad n c, .int .i64 a].toArray) w := by kernel_rfl
theorem bd139 (a b : Int) (w : World) : (Instr.build 139 [(0, .int .i64 a), (1, .int .i64 b)].toArray).run Tryz.prog w = .ok (.agg [.int .i64 a, .int .i64 b].toArray) w := by kernel_rfl
theorem fa105_0 : FieldAt Tryz.prog 105 0 0 := .of Tryz.underlying105 rfl rfl Tryz.sizeOf102
theorem fa105_1 : FieldAt Tryz.prog 105 1 1 := .of Tryz.underlying105 rfl rfl Tryz.sizeOf3
theorem colL_small {rows : List (List Int)} {a : Nat} (h : ∀ r ∈ rows, ∀ x ∈ r, smallB x = true) : ∀ x ∈ colL rows a, smallB x = true := fun x hx => by
  obtain ⟨r, hr, rfl⟩ := List.mem_map.1 hx
  by_cases hl : a < r.length
  · refine h r hr _ ?_
    simp [List.getD, hl]
  · have : r.getD a 0 = 0 := by simp [List.getD, List.getElem?_eq_none (Nat.le_of_not_lt hl)]
    rw [this]
    decide
/-- What came out of a map in some order, each once, sorts to what lies in it. -/
theorem sortI_perm {l m : List Int} (h : l.Perm m) : sortI l = sortI m := by
  unfold sortI
  have tr : ∀ a b c : Int, decide (a ≤ b) = true → decide (b ≤ c) = true → decide (a ≤ c) = true := fun a b c h1 h2 => by simp only [decide_eq_true_eq] at *; omega
  have tot : ∀ a b : Int, (decide (a ≤ b) || decide (b ≤ a)) = true := fun a b => by simp only [Bool.or_eq_true, decide_eq_true_eq]; omega
  refine List.Perm.eq_of_pairwise (le := fun x y : Int => x ≤ y) (fun a b _ _ h1 h2 => by omega) ?_ ?_ (((List.mergeSort_perm l _).trans h).trans (List.mergeSort_perm m _).symm)
  · exact (List.pairwise_mergeSort tr tot l).imp (fun h => by simpa using h)
  · exact (List.pairwise_mergeSort tr tot m).imp (fun h => by simpa using h)
def nextA : Option MapEntry → Array Value
  | none => #[.bool false]
  | some m => #[.bool true, m.key, m.val]
theorem nextA_0 (z : Option MapEntry) : (nextA z)[0]? = some (.bool z.isSome) := by cases z <;> rfl
def nextL (L : List BP) (j r b since clock : Nat) (done : List MapEntry) : Option MapEntry → List BP
  | none => L
  | some m => L.set j (r, ex (.mapIter (some b) since ((done ++ [m]).map (·.born)).toArray clock))
/-- One step of a range over a map, both ways at once. -/
theorem H.nextO {P : Program} {n : Nat} {e : Env} {w0 : World} {L : List BP} {R : List Rw} {F : List BP} {Q : Exit → Act → World → Prop} {ops : Array Oper} {rest : List Oper} {d : Nat} {x : Operand} {t : TypeId} {p : String} {af : Array Edge} {b r since clock c0 : Nat} {es : Array MapEntry} (done : List MapEntry) (i j : Nat) (hL : L[i]? = some (b, ex (.map es clock))) (hI : L[j]? = some (r, ex (.mapIter (some b) since (done.map (·.born)).toArray c0))) (hold : ∀ x ∈ es.toList, x.born < since) (hsc : since ≤ c0)
    (hx : eev e x = some (.pointer (some ⟨r, 0, none⟩))) (hn : d < n)
    (h : ∀ z : Option MapEntry, (z = none → ∀ x ∈ es.toList, x.born ∈ done.map (·.born)) → (∀ m, z = some m → m ∈ es.toList ∧ m.born ∉ done.map (·.born)) → H n ((d, .tuple (nextA z)) :: e) (Hp w0 (nextL L j r b since clock done z) R F) (wpList P ops Q rest)) :
    H n e (Hp w0 L R F) (wpList P ops Q (⟨some d, .next x false, t, p, af, none⟩ :: rest)) :=
  H.next done i j hL hI hold hsc hx hn (fun hall => h none (fun _ => hall) (fun _ hm => by cases hm)) (fun m hm hnb => h (some m) (fun hn => by cases hn) (fun m' hm' => by cases hm'; exact ⟨hm, hnb⟩))
end Go.Proofs.YtgbgddmbooaddaaGreatDoor

namespace Go.Proofs.YtgbgddmbooaddaaGreatDoor
open Go.RowKit


abbrev seenM (l : List Int) : Obj → Prop := IsMap (κ := Int) (Value.int .i64 ·) (Value.bool ·) (l.map fun x => (x, true))
theorem seen_ins (l : List Int) (x : Int) : seenM (insD l x) = IsMap (Value.int .i64 ·) (Value.bool ·) (mput (l.map fun x => (x, true)) x true) := by
  unfold seenM
  rw [mput_insD]
theorem seen_keys {l : List Int} (h : ∀ x ∈ l, smallB x = true) : ∀ p ∈ l.map (fun x => (x, true)), D2 (Value.int .i64 p.1) := fun p hp => by
  obtain ⟨x, hx, rfl⟩ := List.mem_map.1 hp
  exact ⟨x, rfl, h x hx⟩
theorem take_small {l : List Int} (h : ∀ x ∈ l, smallB x = true) (k : Nat) : ∀ x ∈ setD (l.take k), smallB x = true := fun x hx => h x (List.mem_of_mem_take (mem_setD.1 hx))
/-- The entry's key is a number of the list. -/
theorem key_of {es : Array MapEntry} {l : List Int} (h : es.toList.map (fun x => (x.key, x.val)) = (l.map fun x => (x, true)).map fun p => (Value.int .i64 p.1, Value.bool p.2)) {m : MapEntry} (hm : m ∈ es.toList) : ∃ x ∈ l, m.key = .int .i64 x := by
  obtain ⟨p, hp, h1, _⟩ := map_mem h hm
  obtain ⟨x, hx, rfl⟩ := List.mem_map.1 hp
  exact ⟨x, hx, h1⟩
/-- What a range over the map has brought. -/
structure FZ where
  k : Nat
  v : Value
  done : List MapEntry
  out : List Int
  c0 : Nat
structure FZ.inv (es : Array MapEntry) (clock : Nat) (z : FZ) : Prop where
  sub : ∀ m ∈ z.done, m ∈ es.toList
  nod : (z.done.map (·.born)).Nodup
  keys : z.done.map (·.key) = z.out.map (Value.int .i64 ·)
  since : clock ≤ z.c0
theorem FZ.short {es : Array MapEntry} {clock : Nat} {z : FZ} (h : z.inv es clock) : z.out.length = z.done.length ∧ z.done.length ≤ es.toList.length := by
  refine ⟨by have := congrArg List.length h.keys; simpa using this.symm, ?_⟩
  have h1 : (z.done.map (·.born)).length ≤ (es.toList.map (·.born)).length := by
    refine List.Nodup.length_le_of_subset h.nod (fun x hx => ?_)
    obtain ⟨m, hm, rfl⟩ := List.mem_map.1 hx
    exact List.mem_map.2 ⟨m, h.sub m hm, rfl⟩
  simpa using h1
theorem FZ.all {es : Array MapEntry} {clock : Nat} {z : FZ} {l : List Int} (h : z.inv es clock) (hst : MapKept.Stamped es clock) (hes : es.toList.map (fun x => (x.key, x.val)) = (l.map fun x => (x, true)).map fun p => (Value.int .i64 p.1, Value.bool p.2)) (hall : ∀ x ∈ es.toList, x.born ∈ z.done.map (·.born)) : z.out.Perm l := by
  have hk : es.toList.map (·.key) = l.map (Value.int .i64 ·) := by
    have := congrArg (List.map Prod.fst) hes
    simpa [List.map_map, Function.comp_def] using this
  have nd : (z.done.map (·.born)).Perm (es.toList.map (·.born)) := (List.perm_ext_iff_of_nodup h.nod hst.2.1).2 fun x => ⟨fun hx => by
    obtain ⟨m, hm, rfl⟩ := List.mem_map.1 hx
    exact List.mem_map.2 ⟨m, h.sub m hm, rfl⟩, fun hx => by
    obtain ⟨m, hm, rfl⟩ := List.mem_map.1 hx
    exact hall m hm⟩
  have inj : ∀ a ∈ es.toList, ∀ b ∈ es.toList, a.born = b.born → a = b := fun a ha b hb e => by
    obtain ⟨i, hi⟩ := List.getElem?_of_mem ha
    obtain ⟨j, hj⟩ := List.getElem?_of_mem hb
    have hlt : i < (es.toList.map (·.born)).length := by simpa using (List.getElem?_eq_some_iff.1 hi).1
    have : i = j := (List.getElem?_inj hlt hst.2.1).1 (by rw [List.getElem?_map, List.getElem?_map, hi, hj]; simp [e])
    subst this
    rw [hi] at hj
    cases hj
    rfl
  have hd : z.done.Nodup := List.Pairwise.of_map MapEntry.born (fun a b (hab : a.born ≠ b.born) (e : a = b) => hab (by rw [e])) h.nod
  have he : es.toList.Nodup := List.Pairwise.of_map MapEntry.born (fun a b (hab : a.born ≠ b.born) (e : a = b) => hab (by rw [e])) hst.2.1
  have hp : z.done.Perm es.toList := (List.perm_ext_iff_of_nodup hd he).2 fun x => ⟨h.sub x, fun hx => by
    obtain ⟨m, hm, hmb⟩ := List.mem_map.1 (hall x hx)
    exact inj m (h.sub m hm) x hx hmb ▸ hm⟩
  have hv : (z.out.map (Value.int .i64 ·)).Perm (l.map (Value.int .i64 ·)) := by
    rw [← h.keys, ← hk]
    exact hp.map _
  have back := hv.map (fun v : Value => match v with | .int _ x => x | _ => 0)
  simpa [List.map_map, Function.comp_def] using back

set_option maxRecDepth 100000 in
theorem facts_any (bm vars : Nat) (rv : Value) (rows : List (Value × List Int)) (w0 : World) (ht : Tbl w0 bm vars rv rows) (a : Nat) (ha : a < vars) : Calls Tryz.prog 56 #[.pointer (some ⟨bm, 0, none⟩), .int .i64 (a : Int)] w0 fun e w' => ∃ v, e = .returned (.agg [v].toArray) ∧ Hp w0 [] [rowI v (factsE (rowsE rows) a)] [] w' := by
  have hsm : ∀ x ∈ colL (rowsE rows) a, smallB x = true := colL_small (fun r hr x hx => by obtain ⟨p, hp, rfl⟩ := List.mem_map.1 hr; exact ht.small p hp x hx)
  have hmax : (colL (rowsE rows) a).length ≤ 1000000 := by rw [colL_len]; simpa using ht.max
  refine enterA 36 Tryz.func56 rfl Tryz.ntmps56 rfl (Hp w0 [] [] []) (Hp.init _) ?_
  refine H.seq ?_
  refine H.region ?_
  refine H.allocA Tryz.zeroValue102 (by decide) (fun b4 hb4 => ?_)
  refine HN.done ?_
  refine HN.keep [(0, _), (1, _), (4, _)] ⟨rfl, rfl, rfl, trivial⟩ ?_
  refine HN.then ?_
  refine H.seq ?_
  refine H.region ?_
  refine H.makeMap (κ := Int) (β := Bool) (Value.int .i64 ·) (Value.bool ·) (by decide) (fun b10 hb10 => ?_)
  refine H.q (yl_assign rfl) rfl rfl (by decide) ?_
  refine HN.done ?_
  refine HN.keep [(0, _), (1, _), (4, _), (5, _)] ⟨rfl, rfl, rfl, rfl, trivial⟩ ?_
  refine HN.then ?_
  refine H.seq ?_
  refine H.seq ?_
  refine H.region ?_
  refine H.q (yl_move rfl) rfl rfl (by decide) ?_
  refine H.q (yl_move rfl) rfl rfl (by decide) ?_
  refine H.call (α := Value) (xs := [.tmp 11, .tmp 12]) (fun v => v) (fun _ => True) (fun v => [rowI v (colL (rowsE rows) a)]) (fun _ => []) Tryz.call82 rfl (by decide) (fun w hw => (column_any bm vars rv rows w (ht.ext hw.ext) a ha).mono fun e w' h => by obtain ⟨v, h1, h2⟩ := h; exact ⟨v, h1, trivial, h2, fun _ hh => by cases hh⟩) (fun v13 _ => ?_)
  refine H.pull (fun w hw => rowI_open (hw.row 0 rfl)) (fun ho => ?_)
  obtain ⟨ad, cap, b, rfl, hcap, had, hs⟩ := ho
  refine H.q (yl_len rfl Tryz.underlying23 rfl) rfl rfl (by decide) ?_
  refine H.q (yl_move rfl) rfl rfl (by decide) ?_
  refine HN.done ?_
  refine HN.keep [(4, _), (5, _), (13, _), (14, _), (15, _)] ⟨rfl, rfl, rfl, rfl, rfl, trivial⟩ ?_
  refine HN.then ?_
  refine H.block ?_
  refine H.loop (fun k : Nat => [(4, .pointer (some ⟨b4, 0, none⟩)), (5, .map (some b10)), (13, .slice ad (colL (rowsE rows) a).length cap), (14, .int .i64 ((colL (rowsE rows) a).length : Int)), (15, .int .i64 (k : Int))]) (fun k => k ≤ (colL (rowsE rows) a).length) (fun k => Hp w0 [(b10, seenM (setD ((colL (rowsE rows) a).take (k)))), (b4, ex (.cells [.slice none 0 0].toArray 102))] [rowI (.slice ad (colL (rowsE rows) a).length cap) (colL (rowsE rows) a)] []) (fun k => (colL (rowsE rows) a).length - k) 0 (Nat.zero_le _) ⟨rfl, rfl, rfl, rfl, rfl, trivial⟩ (fun w hw => hw) (fun k hk => ?_)
  refine H.seq ?_
  refine H.region ?_
  refine H.q (yl_lss rfl rfl) rfl rfl (by decide) ?_
  refine HN.done ?_
  refine HN.keep [(4, _), (5, _), (13, _), (14, _), (15, _), (16, _)] ⟨rfl, rfl, rfl, rfl, rfl, rfl, trivial⟩ ?_
  refine HN.then ?_
  refine H.seq ?_
  refine H.cond _ rfl (fun t0 => ?_) (fun t0 => ?_)
  · simp only [decide_eq_true_eq] at t0
    have hlt : k < (colL (rowsE rows) a).length := by omega
    refine H.keep [(4, _), (5, _), (13, _), (14, _), (15, _)] ⟨rfl, rfl, rfl, rfl, rfl, trivial⟩ ?_
    refine HN.skip ?_
    refine HN.then ?_
    refine H.seq ?_
    refine H.block ?_
    refine H.seq ?_
    refine H.region ?_
    refine H.q (yl_ix k Tryz.underlying23 Tryz.sizeOf2 (had (by omega)) rfl rfl rfl hlt) rfl rfl (by decide) ?_
    refine H.q (yl_load Tryz.isAgg2 rfl (fun w hw => hs w (hw.row 0 rfl) k hlt)) rfl rfl (by decide) ?_
    refine H.q (yl_assign rfl) rfl rfl (by decide) ?_
    refine HN.done ?_
    refine HN.keep [(4, _), (5, _), (7, _), (13, _), (14, _), (15, _)] ⟨rfl, rfl, rfl, rfl, rfl, rfl, trivial⟩ ?_
    refine HN.then ?_
    refine H.region ?_
    refine H.q (yl_move rfl) rfl rfl (by decide) ?_
    refine H.q (yl_move rfl) rfl rfl (by decide) ?_
    refine H.mapUpdate (ve := (Value.bool ·)) 0 ((colL (rowsE rows) a).getD k 0) true Tryz.keyed2 Tryz.underlying132 intV_inj (seen_keys (take_small hsm k)) ⟨_, rfl, hsm _ (by simp [List.getD, hlt])⟩ rfl rfl rfl rfl ?_
    refine HN.done ?_
    refine HN.keep [(4, _), (5, _), (13, _), (14, _), (15, _)] ⟨rfl, rfl, rfl, rfl, rfl, trivial⟩ ?_
    refine HN.block ?_
    refine HN.then ?_
    refine H.region ?_
    refine H.q (yl_add rfl rfl _ rfl (by omega)) rfl rfl (by decide) ?_
    refine H.q (yl_move rfl) rfl rfl (by decide) ?_
    refine HN.done ?_
    refine HN.keep [(4, _), (5, _), (13, _), (14, _), (15, _)] ⟨rfl, rfl, rfl, rfl, rfl, trivial⟩ ?_
    refine HN.then ?_
    have hgk : (colL (rowsE rows) a).getD k 0 = (colL (rowsE rows) a)[k] := by simp [List.getD, hlt]
    exact H.at (k + 1) ⟨by omega, by omega⟩ ⟨rfl, rfl, rfl, rfl, rfl, trivial⟩ (fun w hw => by
      rw [setD_take hlt, seen_ins, ← hgk]
      exact hw)
  · simp only [decide_eq_false_iff_not] at t0
    have hkl : k = (colL (rowsE rows) a).length := by omega
    subst hkl
    refine H.keep [(4, _), (5, _)] ⟨rfl, rfl, trivial⟩ ?_
    refine HX.exit ?_
    refine HX.then ?_
    refine HX.then ?_
    refine HX.hit ?_
    refine HN.then ?_
    refine H.seq ?_
    refine H.region ?_
    refine H.q (yl_assign rfl) rfl rfl (by decide) ?_
    refine HN.done ?_
    refine HN.keep [(4, _), (5, _), (8, _)] ⟨rfl, rfl, rfl, trivial⟩ ?_
    refine HN.then ?_
    refine H.seq ?_
    refine H.seq ?_
    rw [List.take_length]
    refine H.openMap 0 rfl (fun es clock hst hes => ?_)
    have hesl : es.toList.length ≤ 1000000 := by
      have := congrArg List.length hes
      simp only [List.length_map] at this
      rw [this]
      exact Nat.le_trans (setD_len _) hmax
    refine H.region ?_
    refine H.q (yl_move rfl) rfl rfl (by decide) ?_
    refine H.range 0 Tryz.underlying132 rfl rfl (by decide) (fun b23 => ?_)
    refine HN.done ?_
    refine HN.keep [(4, _), (8, _), (23, _)] ⟨rfl, rfl, rfl, trivial⟩ ?_
    refine HN.then ?_
    refine H.block ?_
    refine H.loop (fun z : FZ => [(4, .pointer (some ⟨b4, 0, none⟩)), (8, z.v), (23, .pointer (some ⟨b23, 0, none⟩))]) (FZ.inv es clock) (fun z => Hp w0 [(b23, ex (.mapIter (some b10) clock (z.done.map (·.born)).toArray z.c0)), (b10, ex (.map es clock)), (b4, ex (.cells [.slice none 0 0].toArray 102))] [rowI z.v z.out] []) (fun z => es.toList.length - z.done.length) ⟨0, .slice none 0 0, [], [], clock⟩ ⟨(fun _ h => by cases h), by simp, rfl, Nat.le_refl _⟩ ⟨rfl, rfl, rfl, trivial⟩ (fun w hw => hw.dropR.rowNil 2 1) (fun z hI => ?_)
    refine H.seq ?_
    refine H.region ?_
    refine H.nextO z.done 1 0 rfl rfl hst.1 hI.since rfl (by decide) (fun y hy0 hy1 => ?_)
    refine H.q (yl_extract (.bool y.isSome) rfl (nextA_0 y)) rfl rfl (by decide) ?_
    refine HN.done ?_
    refine HN.keep [(4, _), (8, _), (23, _), (25, _)] ⟨rfl, rfl, rfl, rfl, trivial⟩ ?_
    refine HN.then ?_
    refine H.seq ?_
    refine H.cond _ rfl (fun t1 => ?_) (fun t1 => ?_)
    · obtain ⟨m, rfl⟩ := Option.isSome_iff_exists.1 t1
      obtain ⟨hm, hmn⟩ := hy1 m rfl
      obtain ⟨x, hx, hmk⟩ := key_of hes hm
      have hsh := FZ.short hI
      have hlt2 : z.done.length < es.toList.length := by
        have hI2 : FZ.inv es clock ⟨0, z.v, z.done ++ [m], z.out ++ [x], clock⟩ := ⟨fun q hq => by rcases List.mem_append.1 hq with hq | hq; exact hI.sub q hq; rw [List.mem_singleton.1 hq]; exact hm, by rw [List.map_append, List.nodup_append]; exact ⟨hI.nod, by simp, fun a ha b hb e => by simp at hb; subst hb; subst e; exact hmn ha⟩, by simp only [List.map_append, hI.keys]; simp [hmk], Nat.le_refl _⟩
        have := FZ.short hI2
        simp only [List.length_append, List.length_singleton] at this
        omega
      refine H.keep [(4, _), (8, _), (23, _)] ⟨rfl, rfl, rfl, trivial⟩ ?_
      refine HN.skip ?_
      refine HN.then ?_
      refine H.block ?_
      refine H.seq ?_
      refine H.region ?_
      refine H.q (yl_entry z.done m 1 0 rfl rfl hm hst rfl) rfl rfl (by decide) ?_
      refine H.q (yl_extract (.int .i64 x) rfl (by rw [hmk]; rfl)) rfl rfl (by decide) ?_
      refine H.q (yl_assign rfl) rfl rfl (by decide) ?_
      refine HN.done ?_
      refine HN.keep [(4, _), (8, _), (9, _), (23, _)] ⟨rfl, rfl, rfl, rfl, trivial⟩ ?_
      refine HN.then ?_
      refine H.region ?_
      refine H.q (yl_move rfl) rfl rfl (by decide) ?_
      refine H.q (yl_move rfl) rfl rfl (by decide) ?_
      refine H.buildSlice (bs23 _) rfl (by decide) (fun b30 hb30 => ?_)
      refine H.append 0 [.int .i64 x] el23 rfl rfl rfl rfl (fun w hw => news1 (hw.blk 0 rfl)) (by simp [Value.oneCell']) (by simp only; omega) (by decide) (by decide) (fun v31 => ?_)
      refine H.q (yl_assign rfl) rfl rfl (by decide) ?_
      refine HN.done ?_
      refine HN.keep [(4, _), (8, _), (23, _)] ⟨rfl, rfl, rfl, trivial⟩ ?_
      refine HN.block ?_
      refine HN.then ?_
      refine H.at ⟨0, v31, z.done ++ [m], z.out ++ [x], clock⟩ ⟨⟨fun q hq => ?_, ?_, ?_, Nat.le_refl _⟩, by simp only [List.length_append, List.length_singleton]; omega⟩ ⟨rfl, rfl, rfl, trivial⟩ (fun w hw => ?_)
      · rcases List.mem_append.1 hq with hq | hq
        · exact hI.sub q hq
        · rw [List.mem_singleton.1 hq]; exact hm
      · rw [List.map_append, List.nodup_append]
        exact ⟨hI.nod, by simp, fun a ha b hb e => by simp at hb; subst hb; subst e; exact hmn ha⟩
      · simp only [List.map_append, hI.keys]; simp [hmk]
      · have e : (z.out ++ [x]).map (Value.int .i64 ·) = z.out.map (Value.int .i64 ·) ++ [.int .i64 x] := by simp
        unfold rowI
        rw [e]
        simp only [List.length_append, List.length_singleton]
        exact hw.drop
    · have hy : y = none := by cases y with | none => rfl | some m => cases t1
      subst hy
      have hperm := FZ.all hI hst hes (hy0 rfl)
      have hsort : sortI z.out = factsE (rowsE rows) a := sortI_perm hperm
      have hsh := FZ.short hI
      refine H.keep [(4, _), (8, _)] ⟨rfl, rfl, trivial⟩ ?_
      refine HX.exit ?_
      refine HX.then ?_
      refine HX.then ?_
      refine HX.hit ?_
      refine HN.then ?_
      refine H.seq ?_
      refine H.region ?_
      refine H.q (yl_move rfl) rfl rfl (by decide) ?_
      refine H.sort 0 rfl (by omega) rfl (by decide) ?_
      refine HN.done ?_
      refine HN.keep [(4, _), (8, _)] ⟨rfl, rfl, trivial⟩ ?_
      refine HN.then ?_
      refine H.seq ?_
      rw [hsort]
      have hlen : z.out.length = (factsE (rowsE rows) a).length := by rw [← hsort, sortI_len]
      rw [hlen]
      refine H.pull (fun w hw => rowI_open (hw.row 0 rfl)) (fun ho => ?_)
      obtain ⟨ad2, cap2, b2, hv2, hcap2, had2, hs2⟩ := ho
      rw [hv2]
      refine H.region ?_
      refine H.q (yl_move rfl) rfl rfl (by decide) ?_
      refine H.q (yl_build (bd102 _ _ _) rfl) rfl rfl (by decide) ?_
      refine H.storeA 2 rfl rfl rfl Tryz.sizeOf102 rfl rfl ?_
      refine HN.done ?_
      refine HN.keep [(4, _)] ⟨rfl, trivial⟩ ?_
      refine HN.cls (Hp w0 [(b4, ex (.cells #[Value.slice ad2 (factsE (rowsE rows) a).length cap2] 102))] [rowI (.slice ad2 (factsE (rowsE rows) a).length cap2) (factsE (rowsE rows) a)] []) (fun w hw => hw.drop.drop) ?_
      refine HN.then ?_
      refine HR.ret ?_
      refine HR.retC 0 Tryz.results56 Tryz.isAgg102 Tryz.sizeOf102 rfl rfl rfl (fun w hw => ?_)
      exact ⟨_, rfl, hw.drop⟩

end Go.Proofs.YtgbgddmbooaddaaGreatDoor

namespace Go.Proofs.YtgbgddmbooaddaaGreatDoor
open Go.RowKit


theorem bs28_2 (k a b x m : Int) (ad : Option Addr) (n c : Nat) (k2 a2 b2 x2 m2 : Int) (ad2 : Option Addr) (n2 c2 : Nat) (w : World) : (Instr.buildSlice 28 2 [(0, .agg [.int .u8 k, .int .i64 a, .int .i64 b, .int .i64 x, .int .i64 m, .slice ad n c].toArray), (1, .agg [.int .u8 k2, .int .i64 a2, .int .i64 b2, .int .i64 x2, .int .i64 m2, .slice ad2 n2 c2].toArray)].toArray).run Tryz.prog w = .ok (.slice (some ⟨w.heap.size, 0, none⟩) 2 2) (w.alloc (.cells [.int .u8 k, .int .i64 a, .int .i64 b, .int .i64 x, .int .i64 m, .slice ad n c, .int .u8 k2, .int .i64 a2, .int .i64 b2, .int .i64 x2, .int .i64 m2, .slice ad2 n2 c2].toArray 25)) := by kernel_rfl
theorem cell_one {w : World} {b o : Nat} {v : Value} (h : w.cell? ⟨b, o, none⟩ = some v) : ∀ j u, [v][j]? = some u → w.cell? ((⟨b, o, none⟩ : Addr).add j) = some u := fun j u hj => by
  cases j with
  | zero => simp only [List.getElem?_cons_zero, Option.some.injEq] at hj; subst hj; rw [add_at]; exact h
  | succ j => simp at hj
theorem gcdE_nonneg (a b : Int) : 0 ≤ gcdE a b := Int.natCast_nonneg _
theorem stepE_nonneg (c : List Int) (k : Nat) : 0 ≤ stepE c k := by cases k with | zero => exact Int.le_refl _ | succ k => exact gcdE_nonneg _ _
/-- Claims and the rows of their sets. -/
abbrev claimsRw (v : Value) (ls : List (Value × Inv)) : Rw := ⟨v, ls.length, 25, 6, (ls.map cellsI).flatten⟩
abbrev setsR (ls : List (Value × Inv)) : List Rw := ls.map fun p => rowI p.1 p.2.set
def a2E (c : List Int) (a : Int) : List Inv := [⟨3, a, 0, loE c, 0, []⟩, ⟨4, a, 0, hiE c, 0, []⟩] ++ (if (c.length : Int) ≤ 3 then [⟨2, a, 0, 0, 0, c⟩] else [])
def a3E (c : List Int) (a : Int) : List Inv := a2E c a ++ (if ((!c.any (fun y => decide (0 = y)) && decide (loE c < 0)) && decide (0 < hiE c)) = true then [⟨5, a, 0, 0, 0, []⟩] else [])
def setsE (c : List Int) : List Int := if (c.length : Int) ≤ 3 then c else []
def aloneR (v sv : Value) (l : List Inv) : Rw := ⟨v, l.length, 25, 6, clS sv l⟩
theorem a3E_clS (c : List Int) (a : Int) (sv : Value) : clS sv (a3E c a) = clS sv (a2E c a) ++ (if ((!c.any (fun y => decide (0 = y)) && decide (loE c < 0)) && decide (0 < hiE c)) = true then [.int .u8 5, .int .i64 a, .int .i64 0, .int .i64 0, .int .i64 0, .slice none 0 0] else []) := by
  unfold a3E
  rw [clS_append]
  split
  · rw [clS_one (by simp)]
  · rfl
theorem alone_one {c : List Int} {a : Int} (h : (c.length : Int) = 1) : aloneE c a = [⟨1, a, 0, loE c, 0, []⟩] := if_pos h
theorem alone_few {c : List Int} {a : Int} (h : ¬ (c.length : Int) = 1) (h3 : (c.length : Int) ≤ 3) : aloneE c a = a3E c a := by
  have e : aloneE c a = a3E c a ++ (if (c.length : Int) ≤ 3 then [] else if (decide (2 ≤ stepE c (c.length - 1)) && decide (stepE c (c.length - 1) ≤ 2147483647)) = true then [⟨6, a, 0, modI (loE c) (stepE c (c.length - 1)), stepE c (c.length - 1), []⟩] else []) := by
    unfold aloneE
    rw [if_neg h]
    rfl
  rw [e, if_pos h3, List.append_nil]
theorem alone_many {c : List Int} {a : Int} (h : ¬ (c.length : Int) = 1) (h3 : ¬ (c.length : Int) ≤ 3) : aloneE c a = a3E c a ++ (if (decide (2 ≤ stepE c (c.length - 1)) && decide (stepE c (c.length - 1) ≤ 2147483647)) = true then [⟨6, a, 0, modI (loE c) (stepE c (c.length - 1)), stepE c (c.length - 1), []⟩] else []) := by
  have e : aloneE c a = a3E c a ++ (if (c.length : Int) ≤ 3 then [] else if (decide (2 ≤ stepE c (c.length - 1)) && decide (stepE c (c.length - 1) ≤ 2147483647)) = true then [⟨6, a, 0, modI (loE c) (stepE c (c.length - 1)), stepE c (c.length - 1), []⟩] else []) := by
    unfold aloneE
    rw [if_neg h]
    rfl
  rw [e, if_neg h3]
structure AZ where
  v : Value
  sv : Value


theorem a2E_len (c : List Int) (a : Int) : (a2E c a).length ≤ 3 := by unfold a2E; split <;> simp
theorem a3E_len (c : List Int) (a : Int) : (a3E c a).length ≤ 4 := by
  have := a2E_len c a
  unfold a3E
  split <;> simp <;> omega


theorem getD_mem {c : List Int} {k : Nat} (h : k < c.length) : c.getD k 0 ∈ c := by simp [List.getD, h]
theorem small_bounds {x : Int} (h : smallB x = true) : -2147483647 ≤ x ∧ x ≤ 2147483647 := by simpa [smallB] using h

set_option maxRecDepth 100000 in
theorem alone_raw (c : List Int) (cv : Value) (a : Nat) (w0 : World) (hc0 : 0 < c.length) (hcl : c.length ≤ 1000000) (hsm : ∀ x ∈ c, smallB x = true) (hris : ∀ k, k + 1 < c.length → c.getD k 0 < c.getD (k + 1) 0) (hv' : IsInts w0 cv c) : Calls Tryz.prog 57 #[.agg [cv, .int .i64 (a : Int)].toArray] w0 fun e w' => ∃ v sv sl, e = .returned v ∧ Hp w0 [] [rowI sv sl, aloneR v sv (aloneE c a)] [] w' ∧ (sl = [] ∧ (c.length : Int) = 1 ∨ sl = setsE c) := by
  have hv := hv'
  obtain ⟨ad, cap, b, o, rfl, hcap, hs⟩ := ints_open hv
  refine enterA 119 Tryz.func57 rfl Tryz.ntmps57 rfl (Hp w0 [] [] []) (Hp.init _) ?_
  refine H.seq ?_
  refine H.region ?_
  refine H.boxA rfl (by decide) (fun b1 hb1 => ?_)
  refine H.q (yl_assign rfl) rfl rfl (by decide) ?_
  refine HN.done ?_
  refine HN.keep [(1, _)] ⟨rfl, trivial⟩ ?_
  refine HN.then ?_
  refine H.seq ?_
  refine H.regionA (Hp w0 [(b1, ex (.cells #[.slice ad c.length cap, .int .i64 (a : Int)] 105))] [] []) Tryz.mixed (stab_hp _ _ _ _) ?_
  refine H.take (i := 0) rfl (by kernel_rfl) (by kernel_rfl) (by kernel_rfl) (fun _ _ _ h => h) (fun w hw => by first | exact hw.noR | exact hw.drop.noR) (ye_fieldAddr _ fa105_1 rfl) rfl rfl (by decide) ?_
  refine H.take (i := 1) rfl (by kernel_rfl) (by kernel_rfl) (by kernel_rfl) (fun _ _ _ h => h) (fun w hw => by first | exact hw.noR | exact hw.drop.noR) (ye_load Tryz.isAgg3 rfl (fun w hw => hw.cell 0 rfl rfl)) rfl rfl (by decide) ?_
  refine H.take (i := 2) rfl (by kernel_rfl) (by kernel_rfl) (by kernel_rfl) (fun _ _ _ h => h) (fun w hw => by first | exact hw.noR | exact hw.drop.noR) (ye_fieldAddr _ fa105_0 rfl) rfl rfl (by decide) ?_
  refine H.take (i := 3) rfl (by kernel_rfl) (by kernel_rfl) (by kernel_rfl) (fun _ _ _ h => h) (fun w hw => by first | exact hw.noR | exact hw.drop.noR) (ye_loadAgg [.slice ad c.length cap] Tryz.isAgg102 Tryz.sizeOf102 rfl (fun w hw => cell_one (hw.cell 0 rfl rfl)) rfl) rfl rfl (by decide) ?_
  refine H.one (i := 4) rfl (by kernel_rfl) ?_
  refine H.q (yl_call (xs := [.tmp 9]) Tryz.call84 (stab_hp _ _ _ _) rfl (fun w hw => low_any c (.slice ad c.length cap) w hc0 (hv.ext hw.ext))) rfl rfl (by decide) ?_
  refine H.on (fun w hw => by first | exact hw.noR | exact hw.drop.noR) ?_
  refine H.take (i := 5) rfl (by kernel_rfl) (by kernel_rfl) (by kernel_rfl) (fun _ _ _ h => h) (fun w hw => by first | exact hw.noR | exact hw.drop.noR) (ye_build (bd25_013 _ _ _) rfl) rfl rfl (by decide) ?_
  refine H.one (i := 6) rfl (by kernel_rfl) ?_
  refine H.buildSlice (bs28 _ _ _ _ _ _ _ _) rfl (by decide) (fun b12 hb12 => ?_)
  refine H.on (fun w hw => by first | exact hw.noR | exact hw.drop.noR) ?_
  refine H.take (i := 7) rfl (by kernel_rfl) (by kernel_rfl) (by kernel_rfl) (fun _ _ _ h => h) (fun w hw => by first | exact hw.noR | exact hw.drop.noR) (ye_assign rfl) rfl rfl (by decide) ?_
  refine H.over (by kernel_rfl) ?_
  refine HN.keep [(1, _), (3, _)] ⟨rfl, rfl, trivial⟩ ?_
  refine HN.cls (Hp w0 [(b1, ex (.cells #[.slice ad c.length cap, .int .i64 (a : Int)] 105))] [⟨.slice (some ⟨b12, 0, none⟩) 1 1, 1, 25, 6, [.int .u8 1, .int .i64 (a : Int), .int .i64 0, .int .i64 (loE c), .int .i64 0, .slice none 0 0]⟩] []) (fun w hw => hw.toRow rfl (by decide)) ?_
  refine HN.then ?_
  refine H.seq ?_
  refine H.seq ?_
  refine H.region ?_
  refine H.q (yl_fieldAddr _ fa105_0 rfl) rfl rfl (by decide) ?_
  refine H.q (yl_fieldAddr _ fa102_0 rfl) rfl rfl (by decide) ?_
  refine H.q (yl_load Tryz.isAgg23 rfl (fun w hw => hw.cell 0 rfl rfl)) rfl rfl (by decide) ?_
  refine H.q (yl_len rfl Tryz.underlying23 rfl) rfl rfl (by decide) ?_
  refine H.q (yl_eql rfl rfl) rfl rfl (by decide) ?_
  refine HN.done ?_
  refine HN.keep [(1, _), (3, _), (17, _)] ⟨rfl, rfl, rfl, trivial⟩ ?_
  refine HN.then ?_
  refine H.cond _ rfl (fun t0 => ?_) (fun t0 => ?_)
  · simp only [decide_eq_true_eq] at t0
    refine H.keep [(3, _)] ⟨rfl, trivial⟩ ?_
    refine H.seq ?_
    refine H.region ?_
    refine H.q (yl_move rfl) rfl rfl (by decide) ?_
    refine H.q (yl_assign rfl) rfl rfl (by decide) ?_
    refine HN.done ?_
    refine HN.keep [(2, _)] ⟨rfl, trivial⟩ ?_
    refine HN.then ?_
    refine HR.ret ?_
    refine HR.then ?_
    refine HR.ret1 _ Tryz.results57 rfl (fun w hw => ?_)
    rw [alone_one t0]
    exact ⟨_, .slice none 0 0, [], rfl, (hw.drop).rowNil 2 1, .inl ⟨rfl, t0⟩⟩
  · simp only [decide_eq_false_iff_not] at t0
    refine H.cls (Hp w0 [(b1, ex (.cells #[.slice ad c.length cap, .int .i64 (a : Int)] 105))] [] []) (fun w hw => hw.dropR) ?_
    refine H.keep [(1, _)] ⟨rfl, trivial⟩ ?_
    refine HN.skip ?_
    refine HN.then ?_
    refine H.seq ?_
    refine H.regionA (Hp w0 [(b1, ex (.cells #[.slice ad c.length cap, .int .i64 (a : Int)] 105))] [] []) Tryz.mixed (stab_hp _ _ _ _) ?_
    refine H.take (i := 0) rfl (by kernel_rfl) (by kernel_rfl) (by kernel_rfl) (fun _ _ _ h => h) (fun w hw => by first | exact hw.noR | exact hw.drop.noR) (ye_fieldAddr _ fa105_1 rfl) rfl rfl (by decide) ?_
    refine H.take (i := 1) rfl (by kernel_rfl) (by kernel_rfl) (by kernel_rfl) (fun _ _ _ h => h) (fun w hw => by first | exact hw.noR | exact hw.drop.noR) (ye_load Tryz.isAgg3 rfl (fun w hw => hw.cell 0 rfl rfl)) rfl rfl (by decide) ?_
    refine H.take (i := 2) rfl (by kernel_rfl) (by kernel_rfl) (by kernel_rfl) (fun _ _ _ h => h) (fun w hw => by first | exact hw.noR | exact hw.drop.noR) (ye_fieldAddr _ fa105_0 rfl) rfl rfl (by decide) ?_
    refine H.take (i := 3) rfl (by kernel_rfl) (by kernel_rfl) (by kernel_rfl) (fun _ _ _ h => h) (fun w hw => by first | exact hw.noR | exact hw.drop.noR) (ye_loadAgg [.slice ad c.length cap] Tryz.isAgg102 Tryz.sizeOf102 rfl (fun w hw => cell_one (hw.cell 0 rfl rfl)) rfl) rfl rfl (by decide) ?_
    refine H.take (i := 6) rfl (by kernel_rfl) (by kernel_rfl) (by kernel_rfl) (fun _ _ _ h => h) (fun w hw => by first | exact hw.noR | exact hw.drop.noR) (ye_fieldAddr _ fa105_1 rfl) rfl rfl (by decide) ?_
    refine H.take (i := 7) rfl (by kernel_rfl) (by kernel_rfl) (by kernel_rfl) (fun _ _ _ h => h) (fun w hw => by first | exact hw.noR | exact hw.drop.noR) (ye_load Tryz.isAgg3 rfl (fun w hw => hw.cell 0 rfl rfl)) rfl rfl (by decide) ?_
    refine H.take (i := 8) rfl (by kernel_rfl) (by kernel_rfl) (by kernel_rfl) (fun _ _ _ h => h) (fun w hw => by first | exact hw.noR | exact hw.drop.noR) (ye_fieldAddr _ fa105_0 rfl) rfl rfl (by decide) ?_
    refine H.take (i := 9) rfl (by kernel_rfl) (by kernel_rfl) (by kernel_rfl) (fun _ _ _ h => h) (fun w hw => by first | exact hw.noR | exact hw.drop.noR) (ye_loadAgg [.slice ad c.length cap] Tryz.isAgg102 Tryz.sizeOf102 rfl (fun w hw => cell_one (hw.cell 0 rfl rfl)) rfl) rfl rfl (by decide) ?_
    refine H.one (i := 4) rfl (by kernel_rfl) ?_
    refine H.q (yl_call (xs := [.tmp 22]) Tryz.call84 (stab_hp _ _ _ _) rfl (fun w hw => low_any c (.slice ad c.length cap) w hc0 (hv.ext hw.ext))) rfl rfl (by decide) ?_
    refine H.on (fun w hw => by first | exact hw.noR | exact hw.drop.noR) ?_
    refine H.take (i := 5) rfl (by kernel_rfl) (by kernel_rfl) (by kernel_rfl) (fun _ _ _ h => h) (fun w hw => by first | exact hw.noR | exact hw.drop.noR) (ye_build (bd25_013 _ _ _) rfl) rfl rfl (by decide) ?_
    refine H.one (i := 10) rfl (by kernel_rfl) ?_
    refine H.q (yl_call (xs := [.tmp 28]) Tryz.call85 (stab_hp _ _ _ _) rfl (fun w hw => high_any c (.slice ad c.length cap) w hc0 (hv.ext hw.ext) hcl)) rfl rfl (by decide) ?_
    refine H.on (fun w hw => by first | exact hw.noR | exact hw.drop.noR) ?_
    refine H.take (i := 11) rfl (by kernel_rfl) (by kernel_rfl) (by kernel_rfl) (fun _ _ _ h => h) (fun w hw => by first | exact hw.noR | exact hw.drop.noR) (ye_build (bd25_013 _ _ _) rfl) rfl rfl (by decide) ?_
    refine H.one (i := 12) rfl (by kernel_rfl) ?_
    refine H.buildSlice (bs28_2 _ _ _ _ _ _ _ _ _ _ _ _ _ _ _ _) rfl (by decide) (fun b31 hb31 => ?_)
    refine H.on (fun w hw => by first | exact hw.noR | exact hw.drop.noR) ?_
    refine H.take (i := 13) rfl (by kernel_rfl) (by kernel_rfl) (by kernel_rfl) (fun _ _ _ h => h) (fun w hw => by first | exact hw.noR | exact hw.drop.noR) (ye_assign rfl) rfl rfl (by decide) ?_
    refine H.over (by kernel_rfl) ?_
    refine HN.keep [(1, _), (3, _)] ⟨rfl, rfl, trivial⟩ ?_
    refine HN.cls (Hp w0 [(b1, ex (.cells #[.slice ad c.length cap, .int .i64 (a : Int)] 105))] [⟨.slice (some ⟨b31, 0, none⟩) 2 2, 2, 25, 6, [.int .u8 3, .int .i64 (a : Int), .int .i64 0, .int .i64 (loE c), .int .i64 0, .slice none 0 0, .int .u8 4, .int .i64 (a : Int), .int .i64 0, .int .i64 (hiE c), .int .i64 0, .slice none 0 0]⟩] []) (fun w hw => hw.toRow rfl (by decide)) ?_
    refine HN.then ?_
    refine H.seqCut (fun z : AZ => [(1, .pointer (some ⟨b1, 0, none⟩)), (3, z.v)]) (fun z : AZ => Hp w0 [(b1, ex (.cells #[.slice ad c.length cap, .int .i64 (a : Int)] 105))] [rowI z.sv (setsE c), aloneR z.v z.sv (a2E c a)] []) ?_ (fun z => ?_)
    · refine H.seq ?_
      refine H.region ?_
      refine H.q (yl_fieldAddr _ fa105_0 rfl) rfl rfl (by decide) ?_
      refine H.q (yl_fieldAddr _ fa102_0 rfl) rfl rfl (by decide) ?_
      refine H.q (yl_load Tryz.isAgg23 rfl (fun w hw => hw.cell 0 rfl rfl)) rfl rfl (by decide) ?_
      refine H.q (yl_len rfl Tryz.underlying23 rfl) rfl rfl (by decide) ?_
      refine H.q (yl_leq rfl rfl) rfl rfl (by decide) ?_
      refine HN.done ?_
      refine HN.keep [(1, _), (3, _), (36, _)] ⟨rfl, rfl, rfl, trivial⟩ ?_
      refine HN.then ?_
      refine H.cond _ rfl (fun t1 => ?_) (fun t1 => ?_)
      · simp only [decide_eq_true_eq] at t1
        refine H.keep [(1, _), (3, _)] ⟨rfl, rfl, trivial⟩ ?_
        refine H.regionA (Hp w0 [(b1, ex (.cells #[.slice ad c.length cap, .int .i64 (a : Int)] 105))] [] []) Tryz.mixed (stab_hp _ _ _ _) ?_
        refine H.take (i := 0) rfl (by kernel_rfl) (by kernel_rfl) (by kernel_rfl) (fun _ _ _ h => h) (fun w hw => by first | exact hw.noR | exact hw.drop.noR) (ye_move rfl) rfl rfl (by decide) ?_
        refine H.take (i := 1) rfl (by kernel_rfl) (by kernel_rfl) (by kernel_rfl) (fun _ _ _ h => h) (fun w hw => by first | exact hw.noR | exact hw.drop.noR) (ye_fieldAddr _ fa105_1 rfl) rfl rfl (by decide) ?_
        refine H.take (i := 2) rfl (by kernel_rfl) (by kernel_rfl) (by kernel_rfl) (fun _ _ _ h => h) (fun w hw => by first | exact hw.noR | exact hw.drop.noR) (ye_load Tryz.isAgg3 rfl (fun w hw => hw.cell 0 rfl rfl)) rfl rfl (by decide) ?_
        refine H.take (i := 3) rfl (by kernel_rfl) (by kernel_rfl) (by kernel_rfl) (fun _ _ _ h => h) (fun w hw => by first | exact hw.noR | exact hw.drop.noR) (ye_fieldAddr _ fa105_0 rfl) rfl rfl (by decide) ?_
        refine H.take (i := 4) rfl (by kernel_rfl) (by kernel_rfl) (by kernel_rfl) (fun _ _ _ h => h) (fun w hw => by first | exact hw.noR | exact hw.drop.noR) (ye_fieldAddr _ fa102_0 rfl) rfl rfl (by decide) ?_
        refine H.take (i := 5) rfl (by kernel_rfl) (by kernel_rfl) (by kernel_rfl) (fun _ _ _ h => h) (fun w hw => by first | exact hw.noR | exact hw.drop.noR) (ye_load Tryz.isAgg23 rfl (fun w hw => hw.cell 0 rfl rfl)) rfl rfl (by decide) ?_
        refine H.one (i := 6) rfl (by kernel_rfl) ?_
        refine H.call (α := Value) (xs := [.tmp 42]) (fun v => v) (fun _ => True) (fun v => [rowI v c]) (fun _ => []) Tryz.call51 rfl (by decide) (fun w hw => (clone_any c _ w hcl (hv.ext hw.ext)).mono fun e w' h => by obtain ⟨v, h1, h2⟩ := h; exact ⟨v, h1, trivial, h2, fun _ hh => by cases hh⟩) (fun v43 _ => ?_)
        refine H.pull (fun w hw => rowI_open (hw.row 0 rfl)) (fun ho => ?_)
        obtain ⟨ad3, cap3, b3, rfl, hcap3, had3, hs3⟩ := ho
        refine H.on (fun w hw => by first | exact hw.noR | exact hw.drop.noR) ?_
        refine H.take (i := 7) rfl (by kernel_rfl) (by kernel_rfl) (by kernel_rfl) (fun _ _ _ h => h) (fun w hw => by first | exact hw.noR | exact hw.drop.noR) (ye_build (bd25_015 _ _ _ _ _) rfl) rfl rfl (by decide) ?_
        refine H.one (i := 8) rfl (by kernel_rfl) ?_
        refine H.buildSlice (bs28 _ _ _ _ _ _ _ _) rfl (by decide) (fun b45 hb45 => ?_)
        refine H.on (fun w hw => by first | exact hw.noR | exact hw.drop.noR) ?_
        refine H.one (i := 9) rfl (by kernel_rfl) ?_
        refine H.append 1 [.int .u8 2, .int .i64 (a : Int), .int .i64 0, .int .i64 0, .int .i64 0, .slice ad3 c.length cap3] el28 rfl rfl rfl rfl (fun w hw => newsN (hw.blk 0 rfl)) (by simp [Value.oneCell']) (by simp only; omega) (by decide) (by decide) (fun v46 => ?_)
        refine H.on (fun w hw => by first | exact hw.noR | exact hw.drop.noR) ?_
        refine H.take (i := 10) rfl (by kernel_rfl) (by kernel_rfl) (by kernel_rfl) (fun _ _ _ h => h) (fun w hw => by first | exact hw.noR | exact hw.drop.noR) (ye_assign rfl) rfl rfl (by decide) ?_
        refine H.over (by kernel_rfl) ?_
        refine HN.keep [(1, _), (3, _)] ⟨rfl, rfl, trivial⟩ ?_
        refine HN.then ?_
        refine H.at' ⟨v46, .slice ad3 c.length cap3⟩ ⟨rfl, rfl, trivial⟩ (fun w hw => ?_)
        have e1 : a2E c a = [⟨3, a, 0, loE c, 0, []⟩, ⟨4, a, 0, hiE c, 0, []⟩, ⟨2, a, 0, 0, 0, c⟩] := by unfold a2E; rw [if_pos t1]; rfl
        have e2 : setsE c = c := if_pos t1
        have e3 : aloneR v46 (.slice ad3 c.length cap3) (a2E c a) = ⟨v46, 3, 25, 6, [.int .u8 3, .int .i64 (a : Int), .int .i64 0, .int .i64 (loE c), .int .i64 0, .slice none 0 0, .int .u8 4, .int .i64 (a : Int), .int .i64 0, .int .i64 (hiE c), .int .i64 0, .slice none 0 0] ++ [.int .u8 2, .int .i64 (a : Int), .int .i64 0, .int .i64 0, .int .i64 0, .slice ad3 c.length cap3]⟩ := by rw [e1]; simp [aloneR, clS, cellsI]
        simp only [e2, e3]
        exact hw.drop
      · simp only [decide_eq_false_iff_not] at t1
        refine H.keep [(1, _), (3, _)] ⟨rfl, rfl, trivial⟩ ?_
        refine HN.skip ?_
        refine HN.then ?_
        refine H.at' ⟨_, .slice none 0 0⟩ ⟨rfl, rfl, trivial⟩ (fun w hw => ?_)
        have e1 : a2E c a = [⟨3, a, 0, loE c, 0, []⟩, ⟨4, a, 0, hiE c, 0, []⟩] := by unfold a2E; rw [if_neg t1]; rfl
        have e2 : setsE c = [] := if_neg t1
        have e3 : aloneR (.slice (some ⟨b31, 0, none⟩) 2 2) (.slice none 0 0) (a2E c a) = ⟨.slice (some ⟨b31, 0, none⟩) 2 2, 2, 25, 6, [.int .u8 3, .int .i64 (a : Int), .int .i64 0, .int .i64 (loE c), .int .i64 0, .slice none 0 0, .int .u8 4, .int .i64 (a : Int), .int .i64 0, .int .i64 (hiE c), .int .i64 0, .slice none 0 0]⟩ := by rw [e1]; simp [aloneR, clS, cellsI]
        simp only [e2, e3]
        exact hw.rowNil 2 1
    · refine H.seqCut (fun z : AZ => [(1, .pointer (some ⟨b1, 0, none⟩)), (3, z.v)]) (fun z : AZ => Hp w0 [(b1, ex (.cells #[.slice ad c.length cap, .int .i64 (a : Int)] 105))] [rowI z.sv (setsE c), aloneR z.v z.sv (a3E c a)] []) ?_ (fun z => ?_)
      · refine H.seq ?_
        refine H.region ?_
        refine H.q (yl_fieldAddr _ fa105_0 rfl) rfl rfl (by decide) ?_
        refine H.q (yl_fieldAddr _ fa102_0 rfl) rfl rfl (by decide) ?_
        refine H.q (yl_load Tryz.isAgg23 rfl (fun w hw => hw.cell 0 rfl rfl)) rfl rfl (by decide) ?_
        refine H.q (yl_call (xs := [.tmp 49, .const (.int .i64 0)]) Tryz.call86 (stab_hp _ _ _ _) rfl (fun w hw => contains_any c _ 0 w (by omega) (hv.ext hw.ext))) rfl rfl (by decide) ?_
        refine H.q (yl_not rfl) rfl rfl (by decide) ?_
        refine H.q (yl_move rfl) rfl rfl (by decide) ?_
        refine H.qg (wn_t rfl rfl (by decide) rfl) (fun hg => yl_sub [(1, _)] ⟨rfl, trivial⟩ (yl_fieldAddr _ fa105_0 rfl)) rfl (by decide) ?_
        refine H.qg (wn_t rfl rfl (by decide) rfl) (fun hg => yl_sub [(53, _)] ⟨slT rfl hg, trivial⟩ (yl_loadAgg [.slice ad c.length cap] Tryz.isAgg102 Tryz.sizeOf102 rfl (fun w hw => cell_one (hw.cell 0 rfl rfl)) rfl)) rfl (by decide) ?_
        refine H.qg (wn_t rfl rfl (by decide) rfl) (fun hg => yl_sub [(54, _)] ⟨slT rfl hg, trivial⟩ (yl_call (xs := [.tmp 54]) Tryz.call84 (stab_hp _ _ _ _) rfl (fun w hw => low_any c (.slice ad c.length cap) w hc0 (hv.ext hw.ext)))) rfl (by decide) ?_
        refine H.qg (wn_t rfl rfl (by decide) rfl) (fun hg => yl_sub [(55, _)] ⟨slT rfl hg, trivial⟩ (yl_lss rfl rfl)) rfl (by decide) ?_
        refine H.q (yl_and rfl rfl) rfl rfl (by decide) ?_
        refine H.q (yl_move rfl) rfl rfl (by decide) ?_
        refine H.qg (wn_t rfl rfl (by decide) rfl) (fun hg => yl_sub [(1, _)] ⟨rfl, trivial⟩ (yl_fieldAddr _ fa105_0 rfl)) rfl (by decide) ?_
        refine H.qg (wn_t rfl rfl (by decide) rfl) (fun hg => yl_sub [(59, _)] ⟨slT rfl hg, trivial⟩ (yl_loadAgg [.slice ad c.length cap] Tryz.isAgg102 Tryz.sizeOf102 rfl (fun w hw => cell_one (hw.cell 0 rfl rfl)) rfl)) rfl (by decide) ?_
        refine H.qg (wn_t rfl rfl (by decide) rfl) (fun hg => yl_sub [(60, _)] ⟨slT rfl hg, trivial⟩ (yl_call (xs := [.tmp 60]) Tryz.call85 (stab_hp _ _ _ _) rfl (fun w hw => high_any c (.slice ad c.length cap) w hc0 (hv.ext hw.ext) hcl))) rfl (by decide) ?_
        refine H.qg (wn_t rfl rfl (by decide) rfl) (fun hg => yl_sub [(61, _)] ⟨slT rfl hg, trivial⟩ (yl_gtr rfl rfl)) rfl (by decide) ?_
        refine H.q (yl_and rfl rfl) rfl rfl (by decide) ?_
        refine HN.done ?_
        refine HN.keep [(1, _), (3, _), (63, _)] ⟨rfl, rfl, rfl, trivial⟩ ?_
        refine HN.then ?_
        refine H.cond _ rfl (fun t2 => ?_) (fun t2 => ?_)
        · replace t2 : ((!c.any (fun y => decide (0 = y)) && decide (loE c < 0)) && decide (0 < hiE c)) = true := t2
          refine H.keep [(1, _), (3, _)] ⟨rfl, rfl, trivial⟩ ?_
          refine H.region ?_
          refine H.q (yl_move rfl) rfl rfl (by decide) ?_
          refine H.q (yl_fieldAddr _ fa105_1 rfl) rfl rfl (by decide) ?_
          refine H.q (yl_load Tryz.isAgg3 rfl (fun w hw => hw.cell 0 rfl rfl)) rfl rfl (by decide) ?_
          refine H.q (yl_build (bd25_01 _ _) rfl) rfl rfl (by decide) ?_
          refine H.buildSlice (bs28 _ _ _ _ _ _ _ _) rfl (by decide) (fun b68 hb68 => ?_)
          refine H.append 1 [.int .u8 5, .int .i64 (a : Int), .int .i64 0, .int .i64 0, .int .i64 0, .slice none 0 0] el28 rfl rfl rfl rfl (fun w hw => newsN (hw.blk 0 rfl)) (by simp [Value.oneCell']) (by have := a2E_len c a; simp only [aloneR]; omega) (by decide) (by decide) (fun v69 => ?_)
          refine H.q (yl_assign rfl) rfl rfl (by decide) ?_
          refine HN.done ?_
          refine HN.keep [(1, _), (3, _)] ⟨rfl, rfl, trivial⟩ ?_
          refine HN.then ?_
          refine H.at' ⟨v69, z.sv⟩ ⟨rfl, rfl, trivial⟩ (fun w hw => ?_)
          have e3 : aloneR v69 z.sv (a3E c a) = ⟨v69, (a2E c a).length + 1, 25, 6, clS z.sv (a2E c a) ++ [.int .u8 5, .int .i64 (a : Int), .int .i64 0, .int .i64 0, .int .i64 0, .slice none 0 0]⟩ := by
            have e4 := a3E_clS c a z.sv
            rw [if_pos t2] at e4
            have e5 : (a3E c a).length = (a2E c a).length + 1 := by unfold a3E; rw [if_pos t2]; simp
            unfold aloneR
            rw [e4, e5]
          simp only [e3]
          exact hw.drop
        · replace t2 : ((!c.any (fun y => decide (0 = y)) && decide (loE c < 0)) && decide (0 < hiE c)) = false := t2
          refine H.keep [(1, _), (3, _)] ⟨rfl, rfl, trivial⟩ ?_
          refine HN.skip ?_
          refine HN.then ?_
          refine H.at' ⟨z.v, z.sv⟩ ⟨rfl, rfl, trivial⟩ (fun w hw => ?_)
          have e3 : a3E c a = a2E c a := by unfold a3E; rw [if_neg (by rw [t2]; decide)]; simp
          rw [e3]
          exact hw
      · refine H.seq ?_
        refine H.seq ?_
        refine H.region ?_
        refine H.q (yl_fieldAddr _ fa105_0 rfl) rfl rfl (by decide) ?_
        refine H.q (yl_fieldAddr _ fa102_0 rfl) rfl rfl (by decide) ?_
        refine H.q (yl_load Tryz.isAgg23 rfl (fun w hw => hw.cell 0 rfl rfl)) rfl rfl (by decide) ?_
        refine H.q (yl_len rfl Tryz.underlying23 rfl) rfl rfl (by decide) ?_
        refine H.q (yl_leq rfl rfl) rfl rfl (by decide) ?_
        refine HN.done ?_
        refine HN.keep [(1, _), (3, _), (74, _)] ⟨rfl, rfl, rfl, trivial⟩ ?_
        refine HN.then ?_
        refine H.cond _ rfl (fun t3 => ?_) (fun t3 => ?_)
        · simp only [decide_eq_true_eq] at t3
          refine H.keep [(3, _)] ⟨rfl, trivial⟩ ?_
          refine H.seq ?_
          refine H.region ?_
          refine H.q (yl_move rfl) rfl rfl (by decide) ?_
          refine H.q (yl_assign rfl) rfl rfl (by decide) ?_
          refine HN.done ?_
          refine HN.keep [(2, _)] ⟨rfl, trivial⟩ ?_
          refine HN.then ?_
          refine HR.ret ?_
          refine HR.then ?_
          refine HR.ret1 _ Tryz.results57 rfl (fun w hw => ?_)
          rw [alone_few t0 t3]
          exact ⟨_, z.sv, _, rfl, hw.drop, .inr rfl⟩
        · simp only [decide_eq_false_iff_not] at t3
          refine H.keep [(1, _), (3, _)] ⟨rfl, rfl, trivial⟩ ?_
          refine HN.skip ?_
          refine HN.then ?_
          refine H.seq ?_
          refine H.region ?_
          refine H.q (yl_assign rfl) rfl rfl (by decide) ?_
          refine HN.done ?_
          refine HN.keep [(1, _), (3, _), (4, _)] ⟨rfl, rfl, rfl, trivial⟩ ?_
          refine HN.then ?_
          refine H.seq ?_
          refine H.seq ?_
          refine H.region ?_
          refine H.q (yl_assign rfl) rfl rfl (by decide) ?_
          refine HN.done ?_
          refine HN.keep [(1, _), (3, _), (4, _), (5, _)] ⟨rfl, rfl, rfl, rfl, trivial⟩ ?_
          refine HN.then ?_
          refine H.block ?_
          refine H.loop (fun k : Nat => [(1, .pointer (some ⟨b1, 0, none⟩)), (3, z.v), (4, .int .i64 (stepE c k)), (5, .int .i64 ((k + 1 : Nat) : Int))]) (fun k => k + 1 ≤ c.length) (fun _ => Hp w0 [(b1, ex (.cells #[.slice ad c.length cap, .int .i64 (a : Int)] 105))] [rowI z.sv (setsE c), aloneR z.v z.sv (a3E c a)] []) (fun k => c.length - k) 0 hc0 ⟨rfl, rfl, rfl, rfl, trivial⟩ (fun w hw => hw) (fun k hk => ?_)
          refine H.seq ?_
          refine H.seq ?_
          refine H.region ?_
          refine H.q (yl_move rfl) rfl rfl (by decide) ?_
          refine H.q (yl_fieldAddr _ fa105_0 rfl) rfl rfl (by decide) ?_
          refine H.q (yl_fieldAddr _ fa102_0 rfl) rfl rfl (by decide) ?_
          refine H.q (yl_load Tryz.isAgg23 rfl (fun w hw => hw.cell 0 rfl rfl)) rfl rfl (by decide) ?_
          refine H.q (yl_len rfl Tryz.underlying23 rfl) rfl rfl (by decide) ?_
          refine H.q (yl_lss rfl rfl) rfl rfl (by decide) ?_
          refine HN.done ?_
          refine HN.keep [(1, _), (3, _), (4, _), (5, _), (81, _)] ⟨rfl, rfl, rfl, rfl, rfl, trivial⟩ ?_
          refine HN.then ?_
          refine H.cond _ rfl (fun t4 => ?_) (fun t4 => ?_)
          · simp only [decide_eq_true_eq] at t4
            have hlt : k + 1 < c.length := by omega
            have hr := hris k hlt
            have hb1 := small_bounds (hsm _ (getD_mem (show k < c.length by omega)))
            have hb2 := small_bounds (hsm _ (getD_mem hlt))
            refine H.keep [(1, _), (3, _), (4, _), (5, _)] ⟨rfl, rfl, rfl, rfl, trivial⟩ ?_
            refine HN.skip ?_
            refine HN.then ?_
            refine H.seq ?_
            refine H.block ?_
            refine H.regionQ Tryz.mixed (by kernel_rfl) (stab_hp _ _ _ _) ?_
            refine G.q (yl_move rfl) rfl rfl (by decide) ?_
            refine G.q (yl_fieldAddr _ fa105_0 rfl) rfl rfl (by decide) ?_
            refine G.q (yl_fieldAddr _ fa102_0 rfl) rfl rfl (by decide) ?_
            refine G.q (yl_load Tryz.isAgg23 rfl (fun w hw => hw.cell 0 rfl rfl)) rfl rfl (by decide) ?_
            refine G.q (yl_move rfl) rfl rfl (by decide) ?_
            refine G.q (yl_ix (k + 1) Tryz.underlying23 Tryz.sizeOf2 (hs (k + 1) hlt).1 rfl rfl rfl hlt) rfl rfl (by decide) ?_
            refine G.q (yl_load Tryz.isAgg2 rfl (fun w hw => cell_ext hw.ext (hs (k + 1) hlt).2)) rfl rfl (by decide) ?_
            refine G.q (yl_fieldAddr _ fa105_0 rfl) rfl rfl (by decide) ?_
            refine G.q (yl_fieldAddr _ fa102_0 rfl) rfl rfl (by decide) ?_
            refine G.q (yl_load Tryz.isAgg23 rfl (fun w hw => hw.cell 0 rfl rfl)) rfl rfl (by decide) ?_
            refine G.q (yl_move rfl) rfl rfl (by decide) ?_
            refine G.q (yl_sub' rfl rfl (k : Int) (by omega) (by omega)) rfl rfl (by decide) ?_
            refine G.q (yl_ix k Tryz.underlying23 Tryz.sizeOf2 (hs k (by omega)).1 rfl rfl rfl (by omega)) rfl rfl (by decide) ?_
            refine G.q (yl_load Tryz.isAgg2 rfl (fun w hw => cell_ext hw.ext (hs k (by omega)).2)) rfl rfl (by decide) ?_
            refine G.q (yl_sub' rfl rfl (c.getD (k + 1) 0 - c.getD k 0) rfl (by omega)) rfl rfl (by decide) ?_
            refine G.q (yl_call (xs := [.tmp 84, .tmp 98]) Tryz.call87 (stab_hp _ _ _ _) rfl (fun w hw => gcd_any _ _ (stepE_nonneg c k) (by omega) w)) rfl rfl (by decide) ?_
            refine G.q (yl_assign rfl) rfl rfl (by decide) ?_
            refine HN.doneG ?_
            refine HN.keep [(1, _), (3, _), (4, _), (5, _)] ⟨rfl, rfl, rfl, rfl, trivial⟩ ?_
            refine HN.block ?_
            refine HN.then ?_
            refine H.region ?_
            refine H.q (yl_move rfl) rfl rfl (by decide) ?_
            refine H.q (yl_add rfl rfl ((k + 1 + 1 : Nat) : Int) (by omega) (by omega)) rfl rfl (by decide) ?_
            refine H.q (yl_assign rfl) rfl rfl (by decide) ?_
            refine HN.done ?_
            refine HN.keep [(1, _), (3, _), (4, _), (5, _)] ⟨rfl, rfl, rfl, rfl, trivial⟩ ?_
            refine HN.then ?_
            exact H.at (k + 1) ⟨by omega, by omega⟩ ⟨rfl, rfl, rfl, rfl, trivial⟩ (fun w hw => hw)
          · simp only [decide_eq_false_iff_not] at t4
            have hkl : k = c.length - 1 := by omega
            subst hkl
            refine H.keep [(1, _), (3, _), (4, _)] ⟨rfl, rfl, rfl, trivial⟩ ?_
            refine HX.exit ?_
            refine HX.then ?_
            refine HX.then ?_
            refine HX.hit ?_
            refine HN.then ?_
            refine H.seqCut (fun z : AZ => [(3, z.v)]) (fun z : AZ => Hp w0 [(b1, ex (.cells #[.slice ad c.length cap, .int .i64 (a : Int)] 105))] [rowI z.sv (setsE c), aloneR z.v z.sv (aloneE c a)] []) ?_ (fun z => ?_)
            · refine H.seq ?_
              refine H.region ?_
              refine H.q (yl_move rfl) rfl rfl (by decide) ?_
              refine H.q (yl_geq rfl rfl) rfl rfl (by decide) ?_
              refine H.q (yl_move rfl) rfl rfl (by decide) ?_
              refine H.qg (wn_t rfl rfl (by decide) rfl) (fun hg => yl_sub [(4, _)] ⟨rfl, trivial⟩ (yl_move rfl)) rfl (by decide) ?_
              refine H.qg (wn_t rfl rfl (by decide) rfl) (fun hg => yl_sub [(103, _)] ⟨slT rfl hg, trivial⟩ (yl_leq rfl rfl)) rfl (by decide) ?_
              refine H.q (yl_and rfl rfl) rfl rfl (by decide) ?_
              refine HN.done ?_
              refine HN.keep [(1, _), (3, _), (4, _), (105, _)] ⟨rfl, rfl, rfl, rfl, trivial⟩ ?_
              refine HN.then ?_
              refine H.cond _ rfl (fun t5 => ?_) (fun t5 => ?_)
              · have t6 := t5
                simp only [Bool.and_eq_true, decide_eq_true_eq] at t6
                refine H.keep [(1, _), (3, _), (4, _)] ⟨rfl, rfl, rfl, trivial⟩ ?_
                refine H.regionA (Hp w0 [(b1, ex (.cells #[.slice ad c.length cap, .int .i64 (a : Int)] 105))] [] []) Tryz.mixed (stab_hp _ _ _ _) ?_
                refine H.take (i := 0) rfl (by kernel_rfl) (by kernel_rfl) (by kernel_rfl) (fun _ _ _ h => h) (fun w hw => by first | exact hw.noR | exact hw.drop.noR) (ye_move rfl) rfl rfl (by decide) ?_
                refine H.take (i := 1) rfl (by kernel_rfl) (by kernel_rfl) (by kernel_rfl) (fun _ _ _ h => h) (fun w hw => by first | exact hw.noR | exact hw.drop.noR) (ye_fieldAddr _ fa105_1 rfl) rfl rfl (by decide) ?_
                refine H.take (i := 2) rfl (by kernel_rfl) (by kernel_rfl) (by kernel_rfl) (fun _ _ _ h => h) (fun w hw => by first | exact hw.noR | exact hw.drop.noR) (ye_load Tryz.isAgg3 rfl (fun w hw => hw.cell 0 rfl rfl)) rfl rfl (by decide) ?_
                refine H.take (i := 3) rfl (by kernel_rfl) (by kernel_rfl) (by kernel_rfl) (fun _ _ _ h => h) (fun w hw => by first | exact hw.noR | exact hw.drop.noR) (ye_fieldAddr _ fa105_0 rfl) rfl rfl (by decide) ?_
                refine H.take (i := 4) rfl (by kernel_rfl) (by kernel_rfl) (by kernel_rfl) (fun _ _ _ h => h) (fun w hw => by first | exact hw.noR | exact hw.drop.noR) (ye_loadAgg [.slice ad c.length cap] Tryz.isAgg102 Tryz.sizeOf102 rfl (fun w hw => cell_one (hw.cell 0 rfl rfl)) rfl) rfl rfl (by decide) ?_
                refine H.take (i := 6) rfl (by kernel_rfl) (by kernel_rfl) (by kernel_rfl) (fun _ _ _ h => h) (fun w hw => by first | exact hw.noR | exact hw.drop.noR) (ye_move rfl) rfl rfl (by decide) ?_
                refine H.take (i := 8) rfl (by kernel_rfl) (by kernel_rfl) (by kernel_rfl) (fun _ _ _ h => h) (fun w hw => by first | exact hw.noR | exact hw.drop.noR) (ye_move rfl) rfl rfl (by decide) ?_
                refine H.one (i := 5) rfl (by kernel_rfl) ?_
                refine H.q (yl_call (xs := [.tmp 110]) Tryz.call84 (stab_hp _ _ _ _) rfl (fun w hw => low_any c (.slice ad c.length cap) w hc0 (hv.ext hw.ext))) rfl rfl (by decide) ?_
                refine H.on (fun w hw => by first | exact hw.noR | exact hw.drop.noR) ?_
                refine H.one (i := 7) rfl (by kernel_rfl) ?_
                refine H.q (yl_call (xs := [.tmp 111, .tmp 112]) Tryz.call88 (stab_hp _ _ _ _) rfl (fun w hw => modulo_any _ _ w (by omega) (by omega))) rfl rfl (by decide) ?_
                refine H.on (fun w hw => by first | exact hw.noR | exact hw.drop.noR) ?_
                refine H.take (i := 9) rfl (by kernel_rfl) (by kernel_rfl) (by kernel_rfl) (fun _ _ _ h => h) (fun w hw => by first | exact hw.noR | exact hw.drop.noR) (ye_build (bd25_0134 _ _ _ _) rfl) rfl rfl (by decide) ?_
                refine H.one (i := 10) rfl (by kernel_rfl) ?_
                refine H.buildSlice (bs28 _ _ _ _ _ _ _ _) rfl (by decide) (fun b116 hb116 => ?_)
                refine H.on (fun w hw => by first | exact hw.noR | exact hw.drop.noR) ?_
                refine H.one (i := 11) rfl (by kernel_rfl) ?_
                refine H.append 1 [.int .u8 6, .int .i64 (a : Int), .int .i64 0, .int .i64 (modI (loE c) (stepE c (c.length - 1))), .int .i64 (stepE c (c.length - 1)), .slice none 0 0] el28 rfl rfl rfl rfl (fun w hw => newsN (hw.blk 0 rfl)) (by simp [Value.oneCell']) (by have := a3E_len c a; simp only [aloneR]; omega) (by decide) (by decide) (fun v117 => ?_)
                refine H.on (fun w hw => by first | exact hw.noR | exact hw.drop.noR) ?_
                refine H.take (i := 12) rfl (by kernel_rfl) (by kernel_rfl) (by kernel_rfl) (fun _ _ _ h => h) (fun w hw => by first | exact hw.noR | exact hw.drop.noR) (ye_assign rfl) rfl rfl (by decide) ?_
                refine H.over (by kernel_rfl) ?_
                refine HN.keep [(3, _)] ⟨rfl, trivial⟩ ?_
                refine HN.then ?_
                refine H.at' ⟨v117, z.sv⟩ ⟨rfl, trivial⟩ (fun w hw => ?_)
                have e1 := alone_many (a := (a : Int)) t0 t3
                rw [if_pos t5] at e1
                have e3 : aloneR v117 z.sv (aloneE c a) = ⟨v117, (a3E c a).length + 1, 25, 6, clS z.sv (a3E c a) ++ [.int .u8 6, .int .i64 (a : Int), .int .i64 0, .int .i64 (modI (loE c) (stepE c (c.length - 1))), .int .i64 (stepE c (c.length - 1)), .slice none 0 0]⟩ := by
                  unfold aloneR
                  rw [e1, clS_append, clS_one (by simp)]
                  simp
                simp only [e3]
                exact hw.drop
              · refine H.keep [(3, _)] ⟨rfl, trivial⟩ ?_
                refine HN.skip ?_
                refine HN.then ?_
                refine H.at' ⟨z.v, z.sv⟩ ⟨rfl, trivial⟩ (fun w hw => ?_)
                have e1 := alone_many (a := (a : Int)) t0 t3
                rw [if_neg (by rw [t5]; decide), List.append_nil] at e1
                rw [e1]
                exact hw
            · refine H.seq ?_
              refine H.region ?_
              refine H.q (yl_move rfl) rfl rfl (by decide) ?_
              refine H.q (yl_assign rfl) rfl rfl (by decide) ?_
              refine HN.done ?_
              refine HN.keep [(2, _)] ⟨rfl, trivial⟩ ?_
              refine HN.then ?_
              refine HR.ret ?_
              refine HR.ret1 _ Tryz.results57 rfl (fun w hw => ?_)
              exact ⟨_, z.sv, _, rfl, hw.drop, .inr rfl⟩


def nilRw : Rw := ⟨.slice none 0 0, 0, 2, 1, []⟩
def setOf (sv : Value) (x : Inv) : Value × Inv := (if x.kind = 2 then sv else .slice none 0 0, x)
theorem sets_none {l : List Inv} (h : ∀ x ∈ l, x.kind ≠ 2 ∧ x.set = []) (sv : Value) : setsR (l.map (setOf sv)) = List.replicate l.length nilRw := by
  unfold setsR
  rw [List.map_map, ← List.map_const]
  apply List.map_congr_left
  intro x hx
  simp [setOf, h x hx, nilRw]
theorem Hp.setsN {w0 : World} {L : List BP} {R : List Rw} {F : List BP} {w : World} (hw : Hp w0 L R F w) {l : List Inv} (h : ∀ x ∈ l, x.kind ≠ 2 ∧ x.set = []) (sv : Value) : Hp w0 L (setsR (l.map (setOf sv)) ++ R) F w := by
  rw [sets_none h]
  exact hw.rowsNil l.length
theorem Hp.setsO {w0 : World} {L : List BP} {R : List Rw} {F : List BP} {w : World} {sv : Value} {x : Inv} (hw : Hp w0 L (rowI sv x.set :: R) F w) {l1 l2 : List Inv} (h1 : ∀ x ∈ l1, x.kind ≠ 2 ∧ x.set = []) (h2 : ∀ x ∈ l2, x.kind ≠ 2 ∧ x.set = []) (hx : x.kind = 2) :
    Hp w0 L (setsR ((l1 ++ x :: l2).map (setOf sv)) ++ R) F w := by
  have e : setsR ((l1 ++ x :: l2).map (setOf sv)) = setsR (l1.map (setOf sv)) ++ (rowI sv x.set :: setsR (l2.map (setOf sv))) := by
    simp [setsR, setOf, hx]
  rw [e]
  have k := (hw.setsN h2 sv).setsN h1 sv
  refine k.permR ?_
  rw [List.append_assoc]
  refine List.Perm.append_left _ ?_
  rw [List.cons_append]
  exact List.perm_middle
theorem aloneR_claims (v sv : Value) (l : List Inv) : aloneR v sv l = claimsRw v (l.map (setOf sv)) := by
  unfold aloneR claimsRw
  rw [List.length_map, List.map_map]
  rfl
theorem alone_any (c : List Int) (cv : Value) (a : Nat) (w0 : World) (hc0 : 0 < c.length) (hcl : c.length ≤ 1000000) (hsm : ∀ x ∈ c, smallB x = true) (hris : ∀ k, k + 1 < c.length → c.getD k 0 < c.getD (k + 1) 0) (hv : IsInts w0 cv c) : Calls Tryz.prog 57 #[.agg [cv, .int .i64 (a : Int)].toArray] w0 fun e w' => ∃ v ls, e = .returned v ∧ ls.map (·.2) = aloneE c a ∧ Hp w0 [] (claimsRw v ls :: setsR ls) [] w' :=
  (alone_raw c cv a w0 hc0 hcl hsm hris hv).mono fun e w' h => by
    obtain ⟨v, sv, sl, rfl, hp, hcase⟩ := h
    refine ⟨v, (aloneE c a).map (setOf sv), rfl, by rw [List.map_map]; exact List.map_id _, ?_⟩
    rw [← aloneR_claims]
    suffices h : Hp w0 [] (setsR ((aloneE c a).map (setOf sv)) ++ [aloneR v sv (aloneE c a)]) [] w' from h.permR List.perm_append_comm
    by_cases h1 : (c.length : Int) = 1
    · refine (hp.dropR).setsN ?_ sv
      rw [alone_one h1]
      simp
    · have hsl : sl = setsE c := by
        rcases hcase with h | h
        · exact absurd h.2 h1
        · exact h
      have hrest : ∀ x ∈ (if ((!c.any (fun y => decide (0 = y)) && decide (loE c < 0)) && decide (0 < hiE c)) = true then [(⟨5, a, 0, 0, 0, []⟩ : Inv)] else []), x.kind ≠ 2 ∧ x.set = [] := by
        split <;> simp
      by_cases h3 : (c.length : Int) ≤ 3
      · have e1 : aloneE c a = [⟨3, a, 0, loE c, 0, []⟩, ⟨4, a, 0, hiE c, 0, []⟩] ++ (⟨2, a, 0, 0, 0, c⟩ : Inv) :: (if ((!c.any (fun y => decide (0 = y)) && decide (loE c < 0)) && decide (0 < hiE c)) = true then [⟨5, a, 0, 0, 0, []⟩] else []) := by
          rw [alone_few h1 h3]
          unfold a3E a2E
          rw [if_pos h3]
          simp
        have e2 : setsE c = c := if_pos h3
        rw [hsl, e2] at hp
        rw [e1] at hp ⊢
        exact Hp.setsO (x := ⟨2, a, 0, 0, 0, c⟩) hp (by simp) hrest rfl
      · refine (hp.dropR).setsN ?_ sv
        rw [alone_many h1 h3]
        unfold a3E a2E
        rw [if_neg h3]
        intro x hx
        simp only [List.mem_append] at hx
        rcases hx with ((hx | hx) | hx) | hx
        · revert hx x; simp
        · simp at hx
        · exact hrest x hx
        · revert hx x
          split <;> simp

end Go.Proofs.YtgbgddmbooaddaaGreatDoor

namespace Go.Proofs.YtgbgddmbooaddaaGreatDoor
open Go.RowKit


abbrev IsPts (w : World) (v : Value) (l : List (Int × Int)) : Prop := IsSz w v 2 (l.map fun p => [.int .i64 p.1, .int .i64 p.2])
theorem pts_open {w : World} {v : Value} {l : List (Int × Int)} (h : IsPts w v l) : ∃ ad cap b o, v = .slice ad l.length cap ∧ l.length ≤ cap ∧ ∀ j (hj : j < l.length), ad = some ⟨b, o, none⟩ ∧ ∀ i u, [Value.int .i64 l[j].1, Value.int .i64 l[j].2][i]? = some u → w.cell? ((⟨b, o + j * 2, none⟩ : Addr).add i) = some u := by
  obtain ⟨ad, cap, b, o, h1, h2, h3⟩ := h
  simp only [List.length_map] at h1 h2
  refine ⟨ad, cap, b, o, h1, h2, fun j hj => ?_⟩
  have := h3 j [.int .i64 l[j].1, .int .i64 l[j].2] (by simp [hj])
  exact ⟨this.1, fun i u hi => by rw [add_at]; exact this.2 i u hi⟩
def zeroI : Inv := ⟨0, 0, 0, 0, 0, []⟩
def linV (o : Option Inv) : Value := .tuple #[.agg (cellsI (.slice none 0 0, o.getD zeroI)).toArray, .bool o.isSome]
theorem tdiv_bounds {a b M : Int} (h1 : -M ≤ a) (h2 : a ≤ M) : -M ≤ a.tdiv b ∧ a.tdiv b ≤ M := by
  have h := Int.natAbs_tdiv a b
  have h3 : (a.tdiv b).natAbs ≤ a.natAbs := by rw [h]; exact Nat.div_le_self _ _
  omega
theorem find_first {pts : List (Int × Int)} {p : Int} {k : Nat} (hk : k < pts.length) (h : ∀ j (hj : j < k), (pts[j]).1 = p) (hne : (pts[k]).1 ≠ p) : pts.find? (fun q => decide (q.1 ≠ p)) = some pts[k] := by
  rw [List.find?_eq_some_iff_getElem]
  refine ⟨by simpa using hne, k, hk, rfl, fun j hj => ?_⟩
  simp [h j hj]
theorem find_noneP {pts : List (Int × Int)} {p : Int} (h : ∀ j (hj : j < pts.length), (pts[j]).1 = p) : pts.find? (fun q => decide (q.1 ≠ p)) = none := by
  rw [List.find?_eq_none]
  intro q hq
  obtain ⟨j, hj⟩ := List.getElem?_of_mem hq
  obtain ⟨hlt, rfl⟩ := List.getElem?_eq_some_iff.1 hj
  simp [h j hlt]
theorem all_take {α : Type} {l : List α} {f : α → Bool} {k : Nat} (hk : k < l.length) : (l.take (k + 1)).all f = ((l.take k).all f && f l[k]) := by
  rw [List.take_succ_eq_append_getElem hk, List.all_append]; simp [List.all_cons]


theorem getD0_mem {l : List (Int × Int)} (h : 0 < l.length) : l.getD 0 (0, 0) ∈ l := by simp [List.getD, h]

set_option maxRecDepth 100000 in
theorem linear_any (pts : List (Int × Int)) (pv : Value) (a b : Nat) (w0 : World) (h0 : 0 < pts.length) (hl : pts.length ≤ 1000000) (hsm : ∀ p ∈ pts, smallB p.1 = true ∧ smallB p.2 = true) (hv : IsPts w0 pv pts) : Calls Tryz.prog 90 #[pv, .int .i64 (a : Int), .int .i64 (b : Int)] w0 fun e w' => e = .returned (linV (linE pts a b)) ∧ Ext w0 w' := by
  obtain ⟨ad, cap, bb, o, rfl, hcap, hs⟩ := pts_open hv
  have hp0 : pts.getD 0 (0, 0) = pts[0] := by simp [List.getD, h0]
  have hP1 := small_bounds (hsm _ (getD0_mem h0)).1
  have hP2 := small_bounds (hsm _ (getD0_mem h0)).2
  refine enterA 95 Tryz.func90 rfl Tryz.ntmps90 rfl (Hp w0 [] [] []) (Hp.init _) ?_
  refine H.seq ?_
  refine H.region ?_
  refine H.allocA Tryz.zeroValue25 (by decide) (fun b6 hb6 => ?_)
  refine H.q (yl_assign rfl) rfl rfl (by decide) ?_
  refine HN.done ?_
  refine HN.keep [(0, _), (1, _), (2, _), (6, _)] ⟨rfl, rfl, rfl, rfl, trivial⟩ ?_
  refine HN.then ?_
  refine H.seq ?_
  refine H.region ?_
  refine H.q (yl_move rfl) rfl rfl (by decide) ?_
  refine H.q (yl_index' 0 2 Tryz.underlying138 Tryz.sizeOf139 (hs 0 h0).1 rfl rfl rfl h0) rfl rfl (by decide) ?_
  refine H.q (yl_loadAgg [.int .i64 (pts.getD 0 (0, 0)).1, .int .i64 (pts.getD 0 (0, 0)).2] Tryz.isAgg139 Tryz.sizeOf139 rfl (fun w hw => by rw [hp0]; exact cells_ext hw.ext (hs 0 h0).2) rfl) rfl rfl (by decide) ?_
  refine H.allocA Tryz.zeroValue139 (by decide) (fun b8 hb8 => ?_)
  refine H.storeA 0 rfl rfl rfl Tryz.sizeOf139 rfl rfl ?_
  refine HN.done ?_
  refine HN.keep [(0, _), (1, _), (2, _), (6, _), (8, _)] ⟨rfl, rfl, rfl, rfl, rfl, trivial⟩ ?_
  refine HN.then ?_
  refine H.seq ?_
  refine H.seq ?_
  refine H.region ?_
  refine H.q (yl_move rfl) rfl rfl (by decide) ?_
  refine H.q (yl_len rfl Tryz.underlying138 rfl) rfl rfl (by decide) ?_
  refine H.q (yl_move rfl) rfl rfl (by decide) ?_
  refine HN.done ?_
  refine HN.keep [(0, _), (1, _), (2, _), (6, _), (8, _), (18, _), (19, _), (20, _)] ⟨rfl, rfl, rfl, rfl, rfl, rfl, rfl, rfl, trivial⟩ ?_
  refine HN.then ?_
  refine H.block ?_
  refine H.loop (fun k : Nat => [(0, .slice ad pts.length cap), (1, .int .i64 (a : Int)), (2, .int .i64 (b : Int)), (6, .pointer (some ⟨b6, 0, none⟩)), (8, .pointer (some ⟨b8, 0, none⟩)), (18, .slice ad pts.length cap), (19, .int .i64 (pts.length : Int)), (20, .int .i64 (k : Int))]) (fun k => k ≤ pts.length ∧ ∀ j (hj : j < k) (hjl : j < pts.length), (pts[j]).1 = (pts.getD 0 (0, 0)).1) (fun _ => Hp w0 [(b8, ex (.cells #[.int .i64 (pts.getD 0 (0, 0)).1, .int .i64 (pts.getD 0 (0, 0)).2] 139)), (b6, ex (.cells #[.int .u8 0, .int .i64 0, .int .i64 0, .int .i64 0, .int .i64 0, .slice none 0 0] 25))] [] []) (fun k => pts.length - k) 0 ⟨Nat.zero_le _, fun j hj => absurd hj (Nat.not_lt_zero _)⟩ ⟨rfl, rfl, rfl, rfl, rfl, rfl, rfl, rfl, trivial⟩ (fun w hw => hw) (fun k hI => ?_)
  refine H.seq ?_
  refine H.region ?_
  refine H.q (yl_lss rfl rfl) rfl rfl (by decide) ?_
  refine HN.done ?_
  refine HN.keep [(0, _), (1, _), (2, _), (6, _), (8, _), (18, _), (19, _), (20, _), (21, _)] ⟨rfl, rfl, rfl, rfl, rfl, rfl, rfl, rfl, rfl, trivial⟩ ?_
  refine HN.then ?_
  refine H.seq ?_
  refine H.cond _ rfl (fun t0 => ?_) (fun t0 => ?_)
  · simp only [decide_eq_true_eq] at t0
    have hlt : k < pts.length := by omega
    have hq1 := small_bounds (hsm _ (List.getElem_mem hlt)).1
    have hq2 := small_bounds (hsm _ (List.getElem_mem hlt)).2
    have hd2 : -4294967294 ≤ ((pts[k].2 - (pts.getD 0 (0, 0)).2).tdiv (pts[k].1 - (pts.getD 0 (0, 0)).1)) ∧ ((pts[k].2 - (pts.getD 0 (0, 0)).2).tdiv (pts[k].1 - (pts.getD 0 (0, 0)).1)) ≤ 4294967294 := tdiv_bounds (by omega) (by omega)
    refine H.keep [(0, _), (1, _), (2, _), (6, _), (8, _), (18, _), (19, _), (20, _)] ⟨rfl, rfl, rfl, rfl, rfl, rfl, rfl, rfl, trivial⟩ ?_
    refine HN.skip ?_
    refine HN.then ?_
    -- branchy seq 0, live: [0, 1, 2, 6, 8, 18, 19, 20]
    refine H.seq ?_
    refine H.block ?_
    refine H.seq ?_
    refine H.region ?_
    refine H.q (yl_index' k 2 Tryz.underlying138 Tryz.sizeOf139 (hs k hlt).1 rfl rfl rfl hlt) rfl rfl (by decide) ?_
    refine H.q (yl_loadAgg [.int .i64 pts[k].1, .int .i64 pts[k].2] Tryz.isAgg139 Tryz.sizeOf139 rfl (fun w hw => cells_ext hw.ext (hs k hlt).2) rfl) rfl rfl (by decide) ?_
    refine H.allocA Tryz.zeroValue139 (by decide) (fun b10 hb10 => ?_)
    refine H.storeA 0 rfl rfl rfl Tryz.sizeOf139 rfl rfl ?_
    refine HN.done ?_
    refine HN.keep [(0, _), (1, _), (2, _), (6, _), (8, _), (10, _), (18, _), (19, _), (20, _)] ⟨rfl, rfl, rfl, rfl, rfl, rfl, rfl, rfl, rfl, trivial⟩ ?_
    refine HN.then ?_
    refine H.seq ?_
    refine H.seq ?_
    refine H.region ?_
    refine H.q (yl_aix 0 Tryz.underlying139 Tryz.sizeOf2 rfl rfl rfl (by decide)) rfl rfl (by decide) ?_
    refine H.q (yl_load Tryz.isAgg2 rfl (fun w hw => hw.cell 0 rfl rfl)) rfl rfl (by decide) ?_
    refine H.q (yl_aix 0 Tryz.underlying139 Tryz.sizeOf2 rfl rfl rfl (by decide)) rfl rfl (by decide) ?_
    refine H.q (yl_load Tryz.isAgg2 rfl (fun w hw => hw.cell 1 rfl rfl)) rfl rfl (by decide) ?_
    refine H.q (yl_eql rfl rfl) rfl rfl (by decide) ?_
    refine HN.done ?_
    refine HN.keep [(0, _), (1, _), (2, _), (6, _), (8, _), (10, _), (18, _), (19, _), (20, _), (28, _)] ⟨rfl, rfl, rfl, rfl, rfl, rfl, rfl, rfl, rfl, rfl, trivial⟩ ?_
    refine HN.then ?_
    refine H.cond _ rfl (fun t1 => ?_) (fun t1 => ?_)
    · simp only [decide_eq_true_eq] at t1
      refine H.keep [(0, _), (1, _), (2, _), (6, _), (8, _), (18, _), (19, _), (20, _)] ⟨rfl, rfl, rfl, rfl, rfl, rfl, rfl, rfl, trivial⟩ ?_
      refine HX.exit ?_
      refine HX.then ?_
      refine HX.hit ?_
      refine HN.then ?_
      refine H.region ?_
      refine H.q (yl_add rfl rfl _ rfl (by omega)) rfl rfl (by decide) ?_
      refine H.q (yl_move rfl) rfl rfl (by decide) ?_
      refine HN.done ?_
      refine HN.keep [(0, _), (1, _), (2, _), (6, _), (8, _), (18, _), (19, _), (20, _)] ⟨rfl, rfl, rfl, rfl, rfl, rfl, rfl, rfl, trivial⟩ ?_
      refine HN.then ?_
      exact H.at (k + 1) ⟨⟨by omega, fun j hj hjl => by
        by_cases hjk : j = k
        · subst hjk; exact t1
        · exact hI.2 j (by omega) hjl⟩, by omega⟩ ⟨rfl, rfl, rfl, rfl, rfl, rfl, rfl, rfl, trivial⟩ (fun w hw => hw.drop)
    · simp only [decide_eq_false_iff_not] at t1
      have hlin : linE pts a b = linT (pts.getD 0 (0, 0)) pts a b pts[k] := by unfold linE; rw [find_first hlt (fun j hj => hI.2 j hj (by omega)) t1]; rfl
      have hne : pts[k].1 - (pts.getD 0 (0, 0)).1 ≠ 0 := by omega
      refine H.keep [(0, _), (1, _), (2, _), (6, _), (8, _), (10, _)] ⟨rfl, rfl, rfl, rfl, rfl, rfl, trivial⟩ ?_
      refine HN.skip ?_
      refine HN.then ?_
      refine H.seq ?_
      refine H.seq ?_
      refine H.region ?_
      refine H.q (yl_aix 1 Tryz.underlying139 Tryz.sizeOf2 rfl rfl rfl (by decide)) rfl rfl (by decide) ?_
      refine H.q (yl_load Tryz.isAgg2 rfl (fun w hw => hw.cell 0 rfl rfl)) rfl rfl (by decide) ?_
      refine H.q (yl_aix 1 Tryz.underlying139 Tryz.sizeOf2 rfl rfl rfl (by decide)) rfl rfl (by decide) ?_
      refine H.q (yl_load Tryz.isAgg2 rfl (fun w hw => hw.cell 1 rfl rfl)) rfl rfl (by decide) ?_
      refine H.q (yl_sub' rfl rfl _ rfl (by omega)) rfl rfl (by decide) ?_
      refine H.q (yl_aix 0 Tryz.underlying139 Tryz.sizeOf2 rfl rfl rfl (by decide)) rfl rfl (by decide) ?_
      refine H.q (yl_load Tryz.isAgg2 rfl (fun w hw => hw.cell 0 rfl rfl)) rfl rfl (by decide) ?_
      refine H.q (yl_aix 0 Tryz.underlying139 Tryz.sizeOf2 rfl rfl rfl (by decide)) rfl rfl (by decide) ?_
      refine H.q (yl_load Tryz.isAgg2 rfl (fun w hw => hw.cell 1 rfl rfl)) rfl rfl (by decide) ?_
      refine H.q (yl_sub' rfl rfl _ rfl (by omega)) rfl rfl (by decide) ?_
      refine H.q (yl_rem rfl rfl hne) rfl rfl (by decide) ?_
      refine H.q (yl_neq rfl rfl) rfl rfl (by decide) ?_
      refine HN.done ?_
      refine HN.keep [(0, _), (1, _), (2, _), (6, _), (8, _), (10, _), (40, _)] ⟨rfl, rfl, rfl, rfl, rfl, rfl, rfl, trivial⟩ ?_
      refine HN.then ?_
      refine H.cond _ rfl (fun t2 => ?_) (fun t2 => ?_)
      · simp only [decide_eq_true_eq] at t2
        refine H.keep [(6, _)] ⟨rfl, trivial⟩ ?_
        refine H.seq ?_
        refine H.region ?_
        refine H.q (yl_build (bd25_) rfl) rfl rfl (by decide) ?_
        refine H.storeA 2 rfl rfl rfl Tryz.sizeOf25 rfl rfl ?_
        refine H.q (yl_assign rfl) rfl rfl (by decide) ?_
        refine HN.done ?_
        refine HN.keep [(6, _), (7, _)] ⟨rfl, rfl, trivial⟩ ?_
        refine HN.then ?_
        refine HR.ret ?_
        refine HR.then ?_
        refine HR.block ?_
        refine HR.then ?_
        refine HR.then ?_
        refine HR.block ?_
        refine HR.then ?_
        refine HR.retC2 2 _ Tryz.results90 Tryz.isAgg25 Tryz.sizeOf25 rfl rfl rfl rfl (fun w hw => ?_)
        refine ⟨?_, hw.ext⟩
        rw [hlin]
        unfold linT
        rw [if_pos t2]
        rfl
      · simp only [decide_eq_false_iff_not] at t2
        refine H.keep [(0, _), (1, _), (2, _), (6, _), (8, _), (10, _)] ⟨rfl, rfl, rfl, rfl, rfl, rfl, trivial⟩ ?_
        refine HN.skip ?_
        refine HN.then ?_
        refine H.seq ?_
        refine H.region ?_
        refine H.q (yl_aix 1 Tryz.underlying139 Tryz.sizeOf2 rfl rfl rfl (by decide)) rfl rfl (by decide) ?_
        refine H.q (yl_load Tryz.isAgg2 rfl (fun w hw => hw.cell 0 rfl rfl)) rfl rfl (by decide) ?_
        refine H.q (yl_aix 1 Tryz.underlying139 Tryz.sizeOf2 rfl rfl rfl (by decide)) rfl rfl (by decide) ?_
        refine H.q (yl_load Tryz.isAgg2 rfl (fun w hw => hw.cell 1 rfl rfl)) rfl rfl (by decide) ?_
        refine H.q (yl_sub' rfl rfl _ rfl (by omega)) rfl rfl (by decide) ?_
        refine H.q (yl_aix 0 Tryz.underlying139 Tryz.sizeOf2 rfl rfl rfl (by decide)) rfl rfl (by decide) ?_
        refine H.q (yl_load Tryz.isAgg2 rfl (fun w hw => hw.cell 0 rfl rfl)) rfl rfl (by decide) ?_
        refine H.q (yl_aix 0 Tryz.underlying139 Tryz.sizeOf2 rfl rfl rfl (by decide)) rfl rfl (by decide) ?_
        refine H.q (yl_load Tryz.isAgg2 rfl (fun w hw => hw.cell 1 rfl rfl)) rfl rfl (by decide) ?_
        refine H.q (yl_sub' rfl rfl _ rfl (by omega)) rfl rfl (by decide) ?_
        refine H.q (yl_quo rfl rfl hne (by omega)) rfl rfl (by decide) ?_
        refine H.q (yl_assign rfl) rfl rfl (by decide) ?_
        refine HN.done ?_
        refine HN.keep [(0, _), (1, _), (2, _), (6, _), (8, _), (11, _)] ⟨rfl, rfl, rfl, rfl, rfl, rfl, trivial⟩ ?_
        refine HN.then ?_
        refine H.seq ?_
        refine H.seq ?_
        refine H.region ?_
        refine H.q (yl_move rfl) rfl rfl (by decide) ?_
        refine H.q (yl_call (xs := [.tmp 53]) Tryz.call63 (stab_hp _ _ _ _) rfl (fun w hw => small_any _ w)) rfl rfl (by decide) ?_
        refine H.q (yl_not rfl) rfl rfl (by decide) ?_
        refine HN.done ?_
        refine HN.keep [(0, _), (1, _), (2, _), (6, _), (8, _), (11, _), (55, _)] ⟨rfl, rfl, rfl, rfl, rfl, rfl, rfl, trivial⟩ ?_
        refine HN.then ?_
        refine H.cond _ rfl (fun t3 => ?_) (fun t3 => ?_)
        · replace t3 : smallB ((pts[k].2 - (pts.getD 0 (0, 0)).2).tdiv (pts[k].1 - (pts.getD 0 (0, 0)).1)) = false := by simpa using t3
          refine H.keep [(6, _)] ⟨rfl, trivial⟩ ?_
          refine H.seq ?_
          refine H.region ?_
          refine H.q (yl_build (bd25_) rfl) rfl rfl (by decide) ?_
          refine H.storeA 2 rfl rfl rfl Tryz.sizeOf25 rfl rfl ?_
          refine H.q (yl_assign rfl) rfl rfl (by decide) ?_
          refine HN.done ?_
          refine HN.keep [(6, _), (7, _)] ⟨rfl, rfl, trivial⟩ ?_
          refine HN.then ?_
          refine HR.ret ?_
          refine HR.then ?_
          refine HR.block ?_
          refine HR.then ?_
          refine HR.then ?_
          refine HR.block ?_
          refine HR.then ?_
          refine HR.retC2 2 _ Tryz.results90 Tryz.isAgg25 Tryz.sizeOf25 rfl rfl rfl rfl (fun w hw => ?_)
          refine ⟨?_, hw.ext⟩
          rw [hlin]
          unfold linT
          rw [if_neg (by simpa using t2), if_pos t3]
          rfl
        · replace t3 : smallB ((pts[k].2 - (pts.getD 0 (0, 0)).2).tdiv (pts[k].1 - (pts.getD 0 (0, 0)).1)) = true := by simpa using t3
          have hm := mul_small t3 (hsm _ (getD0_mem h0)).1
          refine H.keep [(0, _), (1, _), (2, _), (6, _), (8, _), (11, _)] ⟨rfl, rfl, rfl, rfl, rfl, rfl, trivial⟩ ?_
          refine HN.skip ?_
          refine HN.then ?_
          refine H.seq ?_
          refine H.region ?_
          refine H.q (yl_move rfl) rfl rfl (by decide) ?_
          refine H.q (yl_move rfl) rfl rfl (by decide) ?_
          refine H.q (yl_move rfl) rfl rfl (by decide) ?_
          refine H.q (yl_aix 1 Tryz.underlying139 Tryz.sizeOf2 rfl rfl rfl (by decide)) rfl rfl (by decide) ?_
          refine H.q (yl_load Tryz.isAgg2 rfl (fun w hw => hw.cell 1 rfl rfl)) rfl rfl (by decide) ?_
          refine H.q (yl_move rfl) rfl rfl (by decide) ?_
          refine H.q (yl_aix 0 Tryz.underlying139 Tryz.sizeOf2 rfl rfl rfl (by decide)) rfl rfl (by decide) ?_
          refine H.q (yl_load Tryz.isAgg2 rfl (fun w hw => hw.cell 1 rfl rfl)) rfl rfl (by decide) ?_
          refine H.q (yl_mul rfl rfl _ rfl (by omega)) rfl rfl (by decide) ?_
          refine H.q (yl_sub' rfl rfl _ rfl (by have := small_bounds (hsm _ (getD0_mem h0)).2; omega)) rfl rfl (by decide) ?_
          refine H.q (yl_build (bd25_01234 _ _ _ _ _) rfl) rfl rfl (by decide) ?_
          refine H.allocA Tryz.zeroValue25 (by decide) (fun b12 hb12 => ?_)
          refine H.storeA 0 rfl rfl rfl Tryz.sizeOf25 rfl rfl ?_
          refine HN.done ?_
          refine HN.keep [(0, _), (6, _), (12, _)] ⟨rfl, rfl, rfl, trivial⟩ ?_
          refine HN.then ?_
          refine H.seq ?_
          refine H.seq ?_
          refine H.region ?_
          refine H.q (yl_fieldAddr _ fa25_4 rfl) rfl rfl (by decide) ?_
          refine H.q (yl_load Tryz.isAgg2 rfl (fun w hw => hw.cell 0 rfl rfl)) rfl rfl (by decide) ?_
          refine H.q (yl_call (xs := [.tmp 69]) Tryz.call63 (stab_hp _ _ _ _) rfl (fun w hw => small_any _ w)) rfl rfl (by decide) ?_
          refine H.q (yl_not rfl) rfl rfl (by decide) ?_
          refine HN.done ?_
          refine HN.keep [(0, _), (6, _), (12, _), (71, _)] ⟨rfl, rfl, rfl, rfl, trivial⟩ ?_
          refine HN.then ?_
          refine H.cond _ rfl (fun t4 => ?_) (fun t4 => ?_)
          · replace t4 : smallB ((pts.getD 0 (0, 0)).2 - ((pts[k].2 - (pts.getD 0 (0, 0)).2).tdiv (pts[k].1 - (pts.getD 0 (0, 0)).1)) * (pts.getD 0 (0, 0)).1) = false := by simpa using t4
            refine H.keep [(6, _)] ⟨rfl, trivial⟩ ?_
            refine H.seq ?_
            refine H.region ?_
            refine H.q (yl_build (bd25_) rfl) rfl rfl (by decide) ?_
            refine H.storeA 3 rfl rfl rfl Tryz.sizeOf25 rfl rfl ?_
            refine H.q (yl_assign rfl) rfl rfl (by decide) ?_
            refine HN.done ?_
            refine HN.keep [(6, _), (7, _)] ⟨rfl, rfl, trivial⟩ ?_
            refine HN.then ?_
            refine HR.ret ?_
            refine HR.then ?_
            refine HR.block ?_
            refine HR.then ?_
            refine HR.then ?_
            refine HR.block ?_
            refine HR.then ?_
            refine HR.retC2 3 _ Tryz.results90 Tryz.isAgg25 Tryz.sizeOf25 rfl rfl rfl rfl (fun w hw => ?_)
            refine ⟨?_, hw.ext⟩
            rw [hlin]
            unfold linT
            rw [if_neg (by simpa using t2), if_neg (by rw [t3]; decide), if_pos t4]
            rfl
          · replace t4 : smallB ((pts.getD 0 (0, 0)).2 - ((pts[k].2 - (pts.getD 0 (0, 0)).2).tdiv (pts[k].1 - (pts.getD 0 (0, 0)).1)) * (pts.getD 0 (0, 0)).1) = true := by simpa using t4
            have hmb := small_bounds t4
            refine H.keep [(0, _), (6, _), (12, _)] ⟨rfl, rfl, rfl, trivial⟩ ?_
            refine HN.skip ?_
            refine HN.then ?_
            refine H.seq ?_
            refine H.seq ?_
            refine H.region ?_
            refine H.q (yl_move rfl) rfl rfl (by decide) ?_
            refine H.q (yl_len rfl Tryz.underlying138 rfl) rfl rfl (by decide) ?_
            refine H.q (yl_move rfl) rfl rfl (by decide) ?_
            refine HN.done ?_
            refine HN.keep [(6, _), (12, _), (73, _), (74, _), (75, _)] ⟨rfl, rfl, rfl, rfl, rfl, trivial⟩ ?_
            refine HN.then ?_
            refine H.block ?_
            refine H.loop (fun j : Nat => [(6, .pointer (some ⟨b6, 0, none⟩)), (12, .pointer (some ⟨b12, 0, none⟩)), (73, .slice ad pts.length cap), (74, .int .i64 (pts.length : Int)), (75, .int .i64 (j : Int))]) (fun j => j ≤ pts.length ∧ (pts.take j).all (fun r => decide (r.2 = ((pts[k].2 - (pts.getD 0 (0, 0)).2).tdiv (pts[k].1 - (pts.getD 0 (0, 0)).1)) * r.1 + ((pts.getD 0 (0, 0)).2 - ((pts[k].2 - (pts.getD 0 (0, 0)).2).tdiv (pts[k].1 - (pts.getD 0 (0, 0)).1)) * (pts.getD 0 (0, 0)).1))) = true) (fun _ => Hp w0 [(b12, ex (.cells #[.int .u8 11, .int .i64 (a : Int), .int .i64 (b : Int), .int .i64 ((pts[k].2 - (pts.getD 0 (0, 0)).2).tdiv (pts[k].1 - (pts.getD 0 (0, 0)).1)), .int .i64 ((pts.getD 0 (0, 0)).2 - ((pts[k].2 - (pts.getD 0 (0, 0)).2).tdiv (pts[k].1 - (pts.getD 0 (0, 0)).1)) * (pts.getD 0 (0, 0)).1), .slice none 0 0] 25)), (b10, ex (.cells #[.int .i64 pts[k].1, .int .i64 pts[k].2] 139)), (b8, ex (.cells #[.int .i64 (pts.getD 0 (0, 0)).1, .int .i64 (pts.getD 0 (0, 0)).2] 139)), (b6, ex (.cells #[.int .u8 0, .int .i64 0, .int .i64 0, .int .i64 0, .int .i64 0, .slice none 0 0] 25))] [] []) (fun j => pts.length - j) 0 ⟨Nat.zero_le _, rfl⟩ ⟨rfl, rfl, rfl, rfl, rfl, trivial⟩ (fun w hw => hw) (fun j hJ => ?_)
            refine H.seq ?_
            refine H.region ?_
            refine H.q (yl_lss rfl rfl) rfl rfl (by decide) ?_
            refine HN.done ?_
            refine HN.keep [(6, _), (12, _), (73, _), (74, _), (75, _), (76, _)] ⟨rfl, rfl, rfl, rfl, rfl, rfl, trivial⟩ ?_
            refine HN.then ?_
            refine H.seq ?_
            refine H.cond _ rfl (fun t5 => ?_) (fun t5 => ?_)
            · simp only [decide_eq_true_eq] at t5
              have hlj : j < pts.length := by omega
              have hr := mul_small t3 (hsm _ (List.getElem_mem hlj)).1
              refine H.keep [(6, _), (12, _), (73, _), (74, _), (75, _)] ⟨rfl, rfl, rfl, rfl, rfl, trivial⟩ ?_
              refine HN.skip ?_
              refine HN.then ?_
              refine H.seq ?_
              refine H.block ?_
              refine H.seq ?_
              refine H.region ?_
              refine H.q (yl_index' j 2 Tryz.underlying138 Tryz.sizeOf139 (hs j hlj).1 rfl rfl rfl hlj) rfl rfl (by decide) ?_
              refine H.q (yl_loadAgg [.int .i64 pts[j].1, .int .i64 pts[j].2] Tryz.isAgg139 Tryz.sizeOf139 rfl (fun w hw => cells_ext hw.ext (hs j hlj).2) rfl) rfl rfl (by decide) ?_
              refine H.allocA Tryz.zeroValue139 (by decide) (fun b14 hb14 => ?_)
              refine H.storeA 0 rfl rfl rfl Tryz.sizeOf139 rfl rfl ?_
              refine HN.done ?_
              refine HN.keep [(6, _), (12, _), (14, _), (73, _), (74, _), (75, _)] ⟨rfl, rfl, rfl, rfl, rfl, rfl, trivial⟩ ?_
              refine HN.then ?_
              refine H.seq ?_
              refine H.region ?_
              refine H.q (yl_aix 1 Tryz.underlying139 Tryz.sizeOf2 rfl rfl rfl (by decide)) rfl rfl (by decide) ?_
              refine H.q (yl_load Tryz.isAgg2 rfl (fun w hw => hw.cell 0 rfl rfl)) rfl rfl (by decide) ?_
              refine H.q (yl_fieldAddr _ fa25_3 rfl) rfl rfl (by decide) ?_
              refine H.q (yl_load Tryz.isAgg2 rfl (fun w hw => hw.cell 1 rfl rfl)) rfl rfl (by decide) ?_
              refine H.q (yl_aix 0 Tryz.underlying139 Tryz.sizeOf2 rfl rfl rfl (by decide)) rfl rfl (by decide) ?_
              refine H.q (yl_load Tryz.isAgg2 rfl (fun w hw => hw.cell 0 rfl rfl)) rfl rfl (by decide) ?_
              refine H.q (yl_mul rfl rfl _ rfl (by omega)) rfl rfl (by decide) ?_
              refine H.q (yl_fieldAddr _ fa25_4 rfl) rfl rfl (by decide) ?_
              refine H.q (yl_load Tryz.isAgg2 rfl (fun w hw => hw.cell 1 rfl rfl)) rfl rfl (by decide) ?_
              refine H.q (yl_add rfl rfl _ rfl (by omega)) rfl rfl (by decide) ?_
              refine H.q (yl_neq rfl rfl) rfl rfl (by decide) ?_
              refine HN.done ?_
              refine HN.keep [(6, _), (12, _), (73, _), (74, _), (75, _), (89, _)] ⟨rfl, rfl, rfl, rfl, rfl, rfl, trivial⟩ ?_
              refine HN.then ?_
              refine H.cond _ rfl (fun t6 => ?_) (fun t6 => ?_)
              · simp only [decide_eq_true_eq] at t6
                refine H.keep [(6, _)] ⟨rfl, trivial⟩ ?_
                refine H.seq ?_
                refine H.region ?_
                refine H.q (yl_build (bd25_) rfl) rfl rfl (by decide) ?_
                refine H.storeA 4 rfl rfl rfl Tryz.sizeOf25 rfl rfl ?_
                refine H.q (yl_assign rfl) rfl rfl (by decide) ?_
                refine HN.done ?_
                refine HN.keep [(6, _), (7, _)] ⟨rfl, rfl, trivial⟩ ?_
                refine HN.then ?_
                refine HR.ret ?_
                refine HR.block ?_
                refine HR.then ?_
                refine HR.then ?_
                refine HR.block ?_
                refine HR.then ?_
                refine HR.block ?_
                refine HR.then ?_
                refine HR.then ?_
                refine HR.block ?_
                refine HR.then ?_
                refine HR.retC2 4 _ Tryz.results90 Tryz.isAgg25 Tryz.sizeOf25 rfl rfl rfl rfl (fun w hw => ?_)
                refine ⟨?_, hw.ext⟩
                rw [hlin]
                unfold linT
                rw [if_neg (by simpa using t2), if_neg (by rw [t3]; decide), if_neg (by rw [t4]; decide), if_neg ?_]
                · rfl
                · intro h
                  rw [List.all_eq_true] at h
                  have := h _ (List.getElem_mem hlj)
                  exact t6 (by simpa using this)
              · replace t6 := of_decide_eq_false t6
                simp only [ne_eq, Decidable.not_not] at t6
                refine H.keep [(6, _), (12, _), (73, _), (74, _), (75, _)] ⟨rfl, rfl, rfl, rfl, rfl, trivial⟩ ?_
                refine HN.skip ?_
                refine HN.block ?_
                refine HN.then ?_
                refine H.region ?_
                refine H.q (yl_add rfl rfl _ rfl (by omega)) rfl rfl (by decide) ?_
                refine H.q (yl_move rfl) rfl rfl (by decide) ?_
                refine HN.done ?_
                refine HN.keep [(6, _), (12, _), (73, _), (74, _), (75, _)] ⟨rfl, rfl, rfl, rfl, rfl, trivial⟩ ?_
                refine HN.then ?_
                exact H.at (j + 1) ⟨⟨by omega, by rw [all_take hlj, hJ.2]; simpa using t6⟩, by omega⟩ ⟨rfl, rfl, rfl, rfl, rfl, trivial⟩ (fun w hw => hw.drop)
            · simp only [decide_eq_false_iff_not] at t5
              have hjl : j = pts.length := by omega
              subst hjl
              have hall := hJ.2
              rw [List.take_length] at hall
              refine H.keep [(6, _), (12, _)] ⟨rfl, rfl, trivial⟩ ?_
              refine HX.exit ?_
              refine HX.then ?_
              refine HX.then ?_
              refine HX.hit ?_
              refine HN.then ?_
              refine H.seq ?_
              refine H.region ?_
              refine H.q (yl_loadAgg _ Tryz.isAgg25 Tryz.sizeOf25 rfl (fun w hw => cells_of_blk (hw.blk 0 rfl)) rfl) rfl rfl (by decide) ?_
              refine H.storeA 3 rfl rfl rfl Tryz.sizeOf25 rfl rfl ?_
              refine H.q (yl_assign rfl) rfl rfl (by decide) ?_
              refine HN.done ?_
              refine HN.keep [(6, _), (7, _)] ⟨rfl, rfl, trivial⟩ ?_
              refine HN.then ?_
              refine HR.ret ?_
              refine HR.block ?_
              refine HR.then ?_
              refine HR.then ?_
              refine HR.block ?_
              refine HR.then ?_
              refine HR.retC2 3 _ Tryz.results90 Tryz.isAgg25 Tryz.sizeOf25 rfl rfl rfl rfl (fun w hw => ?_)
              refine ⟨?_, hw.ext⟩
              rw [hlin]
              unfold linT
              rw [if_neg (by simpa using t2), if_neg (by rw [t3]; decide), if_neg (by rw [t4]; decide), if_pos hall]
              rfl
  · simp only [decide_eq_false_iff_not] at t0
    have hkl : k = pts.length := by omega
    subst hkl
    have hnone : linE pts a b = none := by unfold linE; rw [find_noneP (fun j hj => hI.2 j hj hj)]; rfl
    refine H.keep [(6, _)] ⟨rfl, trivial⟩ ?_
    refine HX.exit ?_
    refine HX.then ?_
    refine HX.then ?_
    refine HX.hit ?_
    refine HN.then ?_
    refine H.seq ?_
    refine H.region ?_
    refine H.q (yl_build (bd25_) rfl) rfl rfl (by decide) ?_
    refine H.storeA 1 rfl rfl rfl Tryz.sizeOf25 rfl rfl ?_
    refine H.q (yl_assign rfl) rfl rfl (by decide) ?_
    refine HN.done ?_
    refine HN.keep [(6, _), (7, _)] ⟨rfl, rfl, trivial⟩ ?_
    refine HN.then ?_
    refine HR.ret ?_
    refine HR.retC2 1 _ Tryz.results90 Tryz.isAgg25 Tryz.sizeOf25 rfl rfl rfl rfl (fun w hw => ?_)
    refine ⟨?_, hw.ext⟩
    rw [hnone]
    rfl

end Go.Proofs.YtgbgddmbooaddaaGreatDoor

namespace Go.Proofs.YtgbgddmbooaddaaGreatDoor
open Go.RowKit


theorem HN.end0 {P : Program} {n : Nat} {e : Env} {C : World → Prop} {fn : Func} {R : Ending → World → Prop} (hr : fn.results = #[]) (h : ∀ w, C w → R (.returned (.tuple #[])) w) : HN n e C (bodyPost P fn R) := fun a w hf hc =>
  ⟨hf.nod, .tuple #[], by simp [results, hr], h w hc⟩
/-- A slice's value is one. -/
theorem Rw.isSlice {w : World} {v : Value} {len el sz : Nat} {xs : List Value} (h : Rw.ok w ⟨v, len, el, sz, xs⟩) : ∃ ad cap, v = .slice ad len cap := by
  obtain ⟨ad, cap, b, h1, _⟩ := Rw.open h
  exact ⟨ad, cap, h1⟩
def putXs (fl : Bool) (kd a b : Int) (xs : List Value) : List Value := if fl then xs else xs ++ [.int .u8 kd, .int .i64 a, .int .i64 b, .int .i64 0, .int .i64 0, .slice none 0 0]
def putN (fl : Bool) (m : Nat) : Nat := if fl then m else m + 1

set_option maxRecDepth 100000 in
theorem put_any (kd : Int) (v1 v2 lv : Value) (a b : Nat) (fl : Bool) (b20 m : Nat) (hm : m ≤ 1000000) (xs : List Value) (w0 : World) (L : List BP) (R : List Rw) (F : List BP) (w : World) (hw : Hp w0 ((b20, ex (.cells #[lv] 28)) :: L) (⟨lv, m, 25, 6, xs⟩ :: R) F w) : Calls Tryz.prog 89 #[.int .u8 kd, .agg [v1, .int .i64 (a : Int)].toArray, .agg [v2, .int .i64 (b : Int)].toArray, .bool fl, .pointer (some ⟨b20, 0, none⟩)] w fun e w' => e = .returned (.tuple #[]) ∧ ∃ lv', Hp w0 ((b20, ex (.cells #[lv'] 28)) :: L) (⟨lv', putN fl m, 25, 6, putXs fl kd a b xs⟩ :: R) F w' := by
  refine enterA 20 Tryz.func89 rfl Tryz.ntmps89 rfl (Hp w0 ((b20, ex (.cells #[lv] 28)) :: L) (⟨lv, m, 25, 6, xs⟩ :: R) F) hw ?_
  refine H.seq ?_
  refine H.region ?_
  refine H.boxA rfl (by decide) (fun b6 hb6 => ?_)
  refine H.boxA rfl (by decide) (fun b7 hb7 => ?_)
  refine HN.done ?_
  refine HN.keep [(0, _), (3, _), (4, _), (6, _), (7, _)] ⟨rfl, rfl, rfl, rfl, rfl, trivial⟩ ?_
  refine HN.then ?_
  refine H.seq ?_
  refine H.region ?_
  refine H.q (yl_move rfl) rfl rfl (by decide) ?_
  refine H.q (yl_not rfl) rfl rfl (by decide) ?_
  refine HN.done ?_
  refine HN.keep [(0, _), (4, _), (6, _), (7, _), (10, _)] ⟨rfl, rfl, rfl, rfl, rfl, trivial⟩ ?_
  refine HN.then ?_
  refine H.cond _ rfl (fun t0 => ?_) (fun t0 => ?_)
  · have hfl : fl = false := by simpa using t0
    subst hfl
    refine H.keep [(0, _), (4, _), (6, _), (7, _)] ⟨rfl, rfl, rfl, rfl, trivial⟩ ?_
    refine H.region ?_
    refine H.q (yl_load Tryz.isAgg28 rfl (fun w hw => hw.cell 2 rfl rfl)) rfl rfl (by decide) ?_
    refine H.q (yl_move rfl) rfl rfl (by decide) ?_
    refine H.q (yl_fieldAddr _ fa105_1 rfl) rfl rfl (by decide) ?_
    refine H.q (yl_load Tryz.isAgg3 rfl (fun w hw => hw.cell 1 rfl rfl)) rfl rfl (by decide) ?_
    refine H.q (yl_fieldAddr _ fa105_1 rfl) rfl rfl (by decide) ?_
    refine H.q (yl_load Tryz.isAgg3 rfl (fun w hw => hw.cell 0 rfl rfl)) rfl rfl (by decide) ?_
    refine H.q (yl_build (bd25_012 _ _ _) rfl) rfl rfl (by decide) ?_
    refine H.buildSlice (bs28 _ _ _ _ _ _ _ _) rfl (by decide) (fun b18 hb18 => ?_)
    refine H.append 0 [.int .u8 kd, .int .i64 (a : Int), .int .i64 (b : Int), .int .i64 0, .int .i64 0, .slice none 0 0] el28 rfl rfl rfl rfl (fun w hw => newsN (hw.blk 0 rfl)) (by simp [Value.oneCell']) (by simp only; omega) (by decide) (by decide) (fun v19 => ?_)
    refine H.pull (fun w hw => Rw.isSlice (hw.row 0 rfl)) (fun ho => ?_)
    obtain ⟨ad19, cap19, rfl⟩ := ho
    refine H.store1 3 rfl rfl rfl rfl Tryz.sizeOf28 rfl rfl ?_
    refine HN.done ?_
    refine HN.keep [] trivial ?_
    refine HN.end0 Tryz.results89 (fun w hw => ⟨rfl, ?_⟩)
    first | exact ⟨_, hw.drop.drop.drop⟩ | exact ⟨_, hw.drop.drop⟩
  · have hfl : fl = true := by simpa using t0
    subst hfl
    refine H.keep [] trivial ?_
    refine HN.skip ?_
    refine HN.end0 Tryz.results89 (fun w hw => ⟨rfl, ?_⟩)
    first | exact ⟨_, hw.drop.drop.drop⟩ | exact ⟨_, hw.drop.drop⟩


def ptsRw (v : Value) (l : List (Int × Int)) : Rw := ⟨v, l.length, 139, 2, (l.map fun p => [Value.int .i64 p.1, Value.int .i64 p.2]).flatten⟩
theorem flat_pairs : ∀ (l : List (Int × Int)) (j : Nat) (hj : j < l.length) (i : Nat) (u : Value), [Value.int .i64 l[j].1, Value.int .i64 l[j].2][i]? = some u → ((l.map fun p => [Value.int .i64 p.1, Value.int .i64 p.2]).flatten)[j * 2 + i]? = some u := by
  intro l
  induction l with
  | nil => intro j hj; simp at hj
  | cons p l ih =>
    intro j hj i u hu
    have hi : i < 2 := by
      have := (List.getElem?_eq_some_iff.1 hu).1
      simpa using this
    cases j with
    | zero =>
      simp only [List.getElem_cons_zero] at hu
      simp only [List.map_cons, List.flatten_cons, Nat.zero_mul, Nat.zero_add]
      rw [List.getElem?_append_left (by simpa using hi)]
      exact hu
    | succ j =>
      simp only [List.getElem_cons_succ] at hu
      have := ih j (by simpa using hj) i u hu
      simp only [List.map_cons, List.flatten_cons]
      rw [List.getElem?_append_right (by simp; omega)]
      rw [← this]
      congr 1
      simp
      omega
theorem pts_row {w : World} {v : Value} {l : List (Int × Int)} (h : Rw.ok w (ptsRw v l)) : IsPts w v l := by
  obtain ⟨ad, cap, b, h1, h2, h3, h4⟩ := Rw.open h
  refine ⟨ad, cap, b, 0, by simpa [ptsRw] using h1, by simpa [ptsRw] using h2, fun j cs hj => ?_⟩
  rw [List.getElem?_map, Option.map_eq_some_iff] at hj
  obtain ⟨p, hp, rfl⟩ := hj
  obtain ⟨hlt, rfl⟩ := List.getElem?_eq_some_iff.1 hp
  refine ⟨(h4 w h (j * 2 + 0) _ (flat_pairs l j hlt 0 _ rfl)).1, fun i u hi => ?_⟩
  rw [Nat.zero_add]
  exact (h4 w h _ _ (flat_pairs l j hlt i u hi)).2
theorem ptsRw_ins {v : Value} {l : List (Int × Int)} {p : Int × Int} (h : p ∉ l) : ptsRw v (insD l p) = ⟨v, l.length + 1, 139, 2, (l.map fun p => [Value.int .i64 p.1, Value.int .i64 p.2]).flatten ++ [.int .i64 p.1, .int .i64 p.2]⟩ := by
  unfold ptsRw insD
  rw [if_neg h]
  simp
def swapL (l : List (Int × Int)) : List (Int × Int) := l.map fun p => (p.2, p.1)
theorem ptsRw_swap {v : Value} {l : List (Int × Int)} {p : Int × Int} (h : p ∉ l) : ptsRw v (swapL (insD l p)) = ⟨v, (swapL l).length + 1, 139, 2, ((swapL l).map fun p => [Value.int .i64 p.1, Value.int .i64 p.2]).flatten ++ [.int .i64 p.2, .int .i64 p.1]⟩ := by
  unfold ptsRw insD
  rw [if_neg h]
  simp [swapL]
abbrev seenP (l : List (Int × Int)) : Obj → Prop := IsMap (κ := Int × Int) pairV (Value.bool ·) (l.map fun x => (x, true))
theorem seenP_ins (l : List (Int × Int)) (x : Int × Int) : seenP (insD l x) = IsMap pairV (Value.bool ·) (mput (l.map fun x => (x, true)) x true) := by
  unfold seenP
  rw [mput_insD]
theorem lookP (l : List (Int × Int)) (x : Int × Int) : ((mget (l.map fun x => (x, true)) x).elim (Value.bool false) (Value.bool ·)) = .bool (decide (x ∈ l)) := by
  have := mget_insD l x
  revert this
  cases mget (l.map fun x => (x, true)) x <;> intro h <;> exact congrArg Value.bool (h.trans (decide_eq_decide.2 Iff.rfl))
theorem ptsL_small {rows : List (List Int)} (h : ∀ r ∈ rows, ∀ x ∈ r, smallB x = true) (a b : Nat) : ∀ p ∈ ptsL rows a b, smallB p.1 = true ∧ smallB p.2 = true := fun p hp => by
  obtain ⟨r, hr, rfl⟩ := List.mem_map.1 hp
  exact ⟨colL_small h _ (List.mem_map.2 ⟨r, hr, rfl⟩), colL_small h _ (List.mem_map.2 ⟨r, hr, rfl⟩)⟩
theorem keysP {l : List (Int × Int)} (h : ∀ p ∈ l, smallB p.1 = true ∧ smallB p.2 = true) (k : Nat) : ∀ p ∈ (setD (l.take k)).map (fun x => (x, true)), D139 (pairV p.1) := fun p hp => by
  obtain ⟨x, hx, rfl⟩ := List.mem_map.1 hp
  exact ⟨x, rfl, h x (List.mem_of_mem_take (mem_setD.1 hx))⟩
theorem linE_kind {pts : List (Int × Int)} {a b : Int} {x : Inv} (h : linE pts a b = some x) : x.kind = 11 ∧ x.set = [] := by
  unfold linE at h
  rw [Option.bind_eq_some_iff] at h
  obtain ⟨q, _, h⟩ := h
  unfold linT at h
  split at h
  · cases h
  split at h
  · cases h
  split at h
  · cases h
  split at h
  · simp only [Option.some.injEq] at h
    subst h
    exact ⟨rfl, rfl⟩
  · cases h
theorem order_sets (pts : List (Int × Int)) (ca cb : List Int) (a b : Int) : ∀ x ∈ orderE pts ca cb a b, x.kind ≠ 2 ∧ x.set = [] := by
  intro x hx
  unfold orderE at hx
  repeat' split at hx
  all_goals first | (simp only [List.mem_singleton] at hx; subst hx; exact ⟨by decide +revert, rfl⟩) | (simp at hx; done) | (simp only [List.mem_singleton] at hx; subst hx; simp)
theorem couple_sets (rows : List (List Int)) (ca cb : List Int) (a b : Nat) : ∀ x ∈ coupleE rows ca cb a b, x.kind ≠ 2 ∧ x.set = [] := by
  intro x hx
  unfold coupleE at hx
  split at hx
  · simp only [List.mem_singleton] at hx; subst hx; simp
  · rcases List.mem_append.1 hx with hx | hx
    · exact order_sets _ _ _ _ _ x hx
    · split at hx
      · cases hx
      · split at hx
        · rename_i y hy
          simp only [List.mem_singleton] at hx
          subst hx
          have := linE_kind hy
          exact ⟨by omega, this.2⟩
        · split at hx
          · rename_i y hy
            simp only [List.mem_singleton] at hx
            subst hx
            have := linE_kind hy
            exact ⟨by omega, this.2⟩
          · cases hx
theorem order_len (pts : List (Int × Int)) (ca cb : List Int) (a b : Int) : (orderE pts ca cb a b).length ≤ 1 := by
  unfold orderE
  repeat' split
  all_goals simp

end Go.Proofs.YtgbgddmbooaddaaGreatDoor

