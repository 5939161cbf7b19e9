/-
  Common ground of the proofs over this seat, part 6: Walks: which rows are valid; a miner of rows; Plain law: each claim that a miner returns is valid, and true of each row; Plain law: the claims of a miner of valid rows are valid, and true of each row.
-/
import Derived.Test.YtgbgddmbooaddaaGreatDoorBaseE
namespace Go.Proofs.YtgbgddmbooaddaaGreatDoor
open Go.RowKit


def rowE (l : List Int) (vars : Int) : Int := if (l.length : Int) ≠ vars then 1 else if allSmallB l = false then 3 else 0
def validB (vars : Int) (rows : List (List Int)) : Bool := rows.all (fun r => decide (rowE r vars = 0)) && (decide (1 ≤ vars) && decide (vars ≤ 8))
theorem rowE_add (l : List Int) (vars : Nat) : rowE l vars = addE l vars := by
  unfold rowE addE
  by_cases h : l.length = vars
  · rw [if_neg (show ¬ ((l.length : Int) ≠ (vars : Int)) by omega), if_neg (show ¬ (l.length ≠ vars) by omega)]
  · rw [if_pos (show (l.length : Int) ≠ (vars : Int) by omega), if_pos h]
theorem rowE_ok {l : List Int} {vars : Int} (h : rowE l vars = 0) : (l.length : Int) = vars ∧ allSmallB l = true := by
  unfold rowE at h
  split at h
  · simp at h
  split at h
  · simp at h
  rename_i h1 h2
  exact ⟨by simpa using h1, by simpa using h2⟩

set_option maxRecDepth 100000 in
theorem row_any (l : List Int) (sv : Value) (vars : Int) (w0 : World) (hl : l.length ≤ 1000000) (hv : IsInts w0 sv l) : Calls Tryz.prog 18 #[sv, .int .i64 vars] w0 fun e w' => e = .returned (.int .i64 (rowE l vars)) ∧ Ext w0 w' := by
  obtain ⟨ad, cap, b, o, rfl, hcap, hs⟩ := ints_open hv
  refine enterA 22 Tryz.func18 rfl Tryz.ntmps18 rfl (Hp w0 [] [] []) (Hp.init _) ?_
  refine H.seq ?_
  refine H.region ?_
  refine H.q (yl_assign rfl) rfl rfl (by decide) ?_
  refine HN.done ?_
  refine HN.keep [(0, _), (1, _)] ⟨rfl, rfl, trivial⟩ ?_
  refine HN.then ?_
  refine H.seq ?_
  refine H.seq ?_
  refine H.region ?_
  refine H.q (yl_move rfl) rfl rfl (by decide) ?_
  refine H.q (yl_len rfl Tryz.underlying23 rfl) rfl rfl (by decide) ?_
  refine H.q (yl_move rfl) rfl rfl (by decide) ?_
  refine H.q (yl_neq rfl rfl) rfl rfl (by decide) ?_
  refine HN.done ?_
  refine HN.keep [(0, _), (9, _)] ⟨rfl, rfl, trivial⟩ ?_
  refine HN.then ?_
  refine H.cond _ rfl (fun t0 => ?_) (fun t0 => ?_)
  · replace t0 := of_decide_eq_true t0
    refine H.keep [] trivial ?_
    refine H.seq ?_
    refine H.region ?_
    refine H.q (yl_assign rfl) rfl rfl (by decide) ?_
    refine HN.done ?_
    refine HN.keep [(4, _)] ⟨rfl, trivial⟩ ?_
    refine HN.then ?_
    refine HR.ret ?_
    refine HR.then ?_
    refine HR.ret1 _ Tryz.results18 rfl (fun w hw => ?_)
    refine ⟨?_, hw.ext⟩
    unfold rowE
    rw [if_pos t0]
  · replace t0 := of_decide_eq_false t0
    refine H.keep [(0, _)] ⟨rfl, trivial⟩ ?_
    refine HN.skip ?_
    refine HN.then ?_
    refine H.seq ?_
    refine H.seq ?_
    refine H.region ?_
    refine H.q (yl_assign rfl) rfl rfl (by decide) ?_
    refine HN.done ?_
    refine HN.keep [(0, _), (5, _)] ⟨rfl, rfl, trivial⟩ ?_
    refine HN.then ?_
    refine H.block ?_
    refine H.loop (fun k : Nat => [(0, .slice ad l.length cap), (5, .int .i64 (k : Int))]) (fun k => k ≤ l.length ∧ ∀ j, j < k → smallB (l.getD j 0) = true) (fun _ => Hp w0 [] [] []) (fun k => l.length - k) 0 ⟨Nat.zero_le _, fun j hj => absurd hj (Nat.not_lt_zero _)⟩ ⟨rfl, rfl, trivial⟩ (fun w hw => hw) (fun k hI => ?_)
    refine H.seq ?_
    refine H.seq ?_
    refine H.region ?_
    refine H.q (yl_move rfl) rfl rfl (by decide) ?_
    refine H.q (yl_move rfl) rfl rfl (by decide) ?_
    refine H.q (yl_len rfl Tryz.underlying23 rfl) rfl rfl (by decide) ?_
    refine H.q (yl_lss rfl rfl) rfl rfl (by decide) ?_
    refine HN.done ?_
    refine HN.keep [(0, _), (5, _), (13, _)] ⟨rfl, rfl, rfl, trivial⟩ ?_
    refine HN.then ?_
    refine H.cond _ rfl (fun t1 => ?_) (fun t1 => ?_)
    · replace t1 := of_decide_eq_true t1
      have hlt : k < l.length := by omega
      refine H.keep [(0, _), (5, _)] ⟨rfl, rfl, trivial⟩ ?_
      refine HN.skip ?_
      refine HN.then ?_
      refine H.seq ?_
      refine H.block ?_
      refine H.seq ?_
      refine H.region ?_
      refine H.q (yl_move rfl) rfl rfl (by decide) ?_
      refine H.q (yl_move rfl) rfl rfl (by decide) ?_
      refine H.q (yl_ix k Tryz.underlying23 Tryz.sizeOf2 (hs k hlt).1 rfl rfl rfl hlt) rfl rfl (by decide) ?_
      refine H.q (yl_load Tryz.isAgg2 rfl (fun w hw => cell_ext hw.ext (hs k hlt).2)) rfl rfl (by decide) ?_
      refine H.q (yl_call (xs := [.tmp 19]) Tryz.call48 (stab_hp _ _ _ _) rfl (fun w hw => plain_any _ w)) rfl rfl (by decide) ?_
      refine H.q (yl_not rfl) rfl rfl (by decide) ?_
      refine HN.done ?_
      refine HN.keep [(0, _), (5, _), (21, _)] ⟨rfl, rfl, rfl, trivial⟩ ?_
      refine HN.then ?_
      refine H.cond _ rfl (fun t2 => ?_) (fun t2 => ?_)
      · replace t2 : smallB (l.getD k 0) = false := by simpa using t2
        refine H.keep [] trivial ?_
        refine H.seq ?_
        refine H.region ?_
        refine H.q (yl_assign rfl) rfl rfl (by decide) ?_
        refine HN.done ?_
        refine HN.keep [(4, _)] ⟨rfl, trivial⟩ ?_
        refine HN.then ?_
        refine HR.ret ?_
        refine HR.block ?_
        refine HR.then ?_
        refine HR.then ?_
        refine HR.block ?_
        refine HR.then ?_
        refine HR.ret1 _ Tryz.results18 rfl (fun w hw => ?_)
        refine ⟨?_, hw.ext⟩
        unfold rowE
        rw [if_neg t0, if_pos (allSmall_no hlt t2)]
      · replace t2 : smallB (l.getD k 0) = true := by simpa using t2
        refine H.keep [(0, _), (5, _)] ⟨rfl, rfl, trivial⟩ ?_
        refine HN.skip ?_
        refine HN.block ?_
        refine HN.then ?_
        refine H.region ?_
        refine H.q (yl_move rfl) rfl rfl (by decide) ?_
        refine H.q (yl_add rfl rfl ((k : Int) + 1) rfl (by omega)) rfl rfl (by decide) ?_
        refine H.q (yl_assign rfl) rfl rfl (by decide) ?_
        refine HN.done ?_
        refine HN.keep [(0, _), (5, _)] ⟨rfl, rfl, trivial⟩ ?_
        refine HN.then ?_
        exact H.at (k + 1) ⟨⟨by omega, fun j hj => by
          by_cases hjk : j = k
          · subst hjk; exact t2
          · exact hI.2 j (by omega)⟩, by omega⟩ ⟨rfl, rfl, trivial⟩ (fun w hw => hw)
    · replace t1 := of_decide_eq_false t1
      have hkl : k = l.length := by omega
      subst hkl
      refine H.keep [] trivial ?_
      refine HX.exit ?_
      refine HX.then ?_
      refine HX.then ?_
      refine HX.hit ?_
      refine HN.then ?_
      refine H.seq ?_
      refine H.region ?_
      refine H.q (yl_assign rfl) rfl rfl (by decide) ?_
      refine HN.done ?_
      refine HN.keep [(4, _)] ⟨rfl, trivial⟩ ?_
      refine HN.then ?_
      refine HR.ret ?_
      refine HR.ret1 _ Tryz.results18 rfl (fun w hw => ?_)
      refine ⟨?_, hw.ext⟩
      unfold rowE
      rw [if_neg t0, if_neg (by rw [allSmall_yes hI.2]; decide)]

set_option maxRecDepth 100000 in
theorem valid_any (vars : Int) (rows : List (Value × List Int)) (rv : Value) (w0 : World) (hmax : rows.length ≤ 1000) (hlen : ∀ p ∈ rows, p.2.length ≤ 1000) (hrv : IsRows w0 rv rows) : Calls Tryz.prog 26 #[.int .i64 vars, rv] w0 fun e w' => e = .returned (.bool (validB vars (rowsE rows))) ∧ Ext w0 w' := by
  obtain ⟨ad, cap, b, o, rfl, hcap, hs⟩ := rows_open hrv
  refine enterA 25 Tryz.func26 rfl Tryz.ntmps26 rfl (Hp w0 [] [] []) (Hp.init _) ?_
  refine H.seq ?_
  refine H.region ?_
  refine H.q (yl_assign rfl) rfl rfl (by decide) ?_
  refine HN.done ?_
  refine HN.keep [(0, _), (1, _)] ⟨rfl, rfl, trivial⟩ ?_
  refine HN.then ?_
  refine H.seq ?_
  refine H.seq ?_
  refine H.region ?_
  refine H.q (yl_assign rfl) rfl rfl (by decide) ?_
  refine HN.done ?_
  refine HN.keep [(0, _), (1, _), (5, _)] ⟨rfl, rfl, rfl, trivial⟩ ?_
  refine HN.then ?_
  refine H.block ?_
  refine H.loop (fun k : Nat => [(0, .int .i64 vars), (1, .slice ad rows.length cap), (5, .int .i64 (k : Int))]) (fun k => k ≤ rows.length ∧ ((rowsE rows).take k).all (fun r => decide (rowE r vars = 0)) = true) (fun _ => Hp w0 [] [] []) (fun k => rows.length - k) 0 ⟨Nat.zero_le _, rfl⟩ ⟨rfl, rfl, rfl, trivial⟩ (fun w hw => hw) (fun k hI => ?_)
  refine H.seq ?_
  refine H.seq ?_
  refine H.region ?_
  refine H.q (yl_move rfl) rfl rfl (by decide) ?_
  refine H.q (yl_move rfl) rfl rfl (by decide) ?_
  refine H.q (yl_len rfl Tryz.underlying37 rfl) rfl rfl (by decide) ?_
  refine H.q (yl_lss rfl rfl) rfl rfl (by decide) ?_
  refine HN.done ?_
  refine HN.keep [(0, _), (1, _), (5, _), (9, _)] ⟨rfl, rfl, rfl, rfl, trivial⟩ ?_
  refine HN.then ?_
  refine H.cond _ rfl (fun t0 => ?_) (fun t0 => ?_)
  · replace t0 := of_decide_eq_true t0
    have hlt : k < rows.length := by omega
    have hltE : k < (rowsE rows).length := by simpa using hlt
    have hk : (rowsE rows)[k] = rows[k].2 := by simp
    refine H.keep [(0, _), (1, _), (5, _)] ⟨rfl, rfl, rfl, trivial⟩ ?_
    refine HN.skip ?_
    refine HN.then ?_
    refine H.seq ?_
    refine H.block ?_
    refine H.seq ?_
    refine H.region ?_
    refine H.q (yl_move rfl) rfl rfl (by decide) ?_
    refine H.q (yl_move rfl) rfl rfl (by decide) ?_
    refine H.q (yl_ix k Tryz.underlying37 Tryz.sizeOf23 (hs k hlt).1 rfl rfl rfl hlt) rfl rfl (by decide) ?_
    refine H.q (yl_load Tryz.isAgg23 rfl (fun w hw => cell_ext hw.ext (hs k hlt).2.1)) rfl rfl (by decide) ?_
    refine H.q (yl_move rfl) rfl rfl (by decide) ?_
    refine H.q (yl_call (xs := [.tmp 15, .tmp 16]) Tryz.call18 (stab_hp _ _ _ _) rfl (fun w hw => row_any rows[k].2 rows[k].1 vars w (by have := hlen _ (List.getElem_mem hlt); omega) ((hs k hlt).2.2.ext hw.ext))) rfl rfl (by decide) ?_
    refine H.q (yl_neq rfl rfl) rfl rfl (by decide) ?_
    refine HN.done ?_
    refine HN.keep [(0, _), (1, _), (5, _), (18, _)] ⟨rfl, rfl, rfl, rfl, trivial⟩ ?_
    refine HN.then ?_
    refine H.cond _ rfl (fun t1 => ?_) (fun t1 => ?_)
    · replace t1 := of_decide_eq_true t1
      refine H.keep [] trivial ?_
      refine H.seq ?_
      refine H.region ?_
      refine H.q (yl_assign rfl) rfl rfl (by decide) ?_
      refine HN.done ?_
      refine HN.keep [(4, _)] ⟨rfl, trivial⟩ ?_
      refine HN.then ?_
      refine HR.ret ?_
      refine HR.block ?_
      refine HR.then ?_
      refine HR.then ?_
      refine HR.block ?_
      refine HR.then ?_
      refine HR.ret1 _ Tryz.results26 rfl (fun w hw => ?_)
      refine ⟨?_, hw.ext⟩
      have hno : (rowsE rows).all (fun r => decide (rowE r vars = 0)) = false := by
        rw [List.all_eq_false]
        exact ⟨rows[k].2, List.mem_map.2 ⟨rows[k], List.getElem_mem hlt, rfl⟩, by simpa using t1⟩
      unfold validB
      rw [hno]
      rfl
    · replace t1 : rowE rows[k].2 vars = 0 := by simpa using t1
      refine H.keep [(0, _), (1, _), (5, _)] ⟨rfl, rfl, rfl, trivial⟩ ?_
      refine HN.skip ?_
      refine HN.block ?_
      refine HN.then ?_
      refine H.region ?_
      refine H.q (yl_move rfl) rfl rfl (by decide) ?_
      refine H.q (yl_add rfl rfl ((k : Int) + 1) rfl (by omega)) rfl rfl (by decide) ?_
      refine H.q (yl_assign rfl) rfl rfl (by decide) ?_
      refine HN.done ?_
      refine HN.keep [(0, _), (1, _), (5, _)] ⟨rfl, rfl, rfl, trivial⟩ ?_
      refine HN.then ?_
      exact H.at (k + 1) ⟨⟨by omega, by rw [all_take hltE, hI.2, hk]; simpa using t1⟩, by omega⟩ ⟨rfl, rfl, rfl, trivial⟩ (fun w hw => hw)
  · replace t0 := of_decide_eq_false t0
    have hkl : k = rows.length := by omega
    have hall := hI.2
    rw [List.take_of_length_le (by simp; omega)] at hall
    refine H.keep [(0, _)] ⟨rfl, trivial⟩ ?_
    refine HX.exit ?_
    refine HX.then ?_
    refine HX.then ?_
    refine HX.hit ?_
    refine HN.then ?_
    refine H.seq ?_
    refine H.region ?_
    refine H.q (yl_move rfl) rfl rfl (by decide) ?_
    refine H.q (yl_geq rfl rfl) rfl rfl (by decide) ?_
    refine H.q (yl_move rfl) rfl rfl (by decide) ?_
    refine H.qg (wn_t rfl rfl (by decide) rfl) (fun hg => yl_sub [(0, _)] ⟨rfl, trivial⟩ (yl_move rfl)) rfl (by decide) ?_
    refine H.qg (wn_t rfl rfl (by decide) rfl) (fun hg => yl_sub [(22, _)] ⟨slT rfl hg, trivial⟩ (yl_leq rfl rfl)) rfl (by decide) ?_
    refine H.q (yl_and rfl rfl) rfl rfl (by decide) ?_
    refine H.q (yl_assign rfl) rfl rfl (by decide) ?_
    refine HN.done ?_
    refine HN.keep [(4, _)] ⟨rfl, trivial⟩ ?_
    refine HN.then ?_
    refine HR.ret ?_
    refine HR.ret1 _ Tryz.results26 rfl (fun w hw => ?_)
    refine ⟨?_, hw.ext⟩
    unfold validB
    rw [hall]
    simp

set_option maxRecDepth 100000 in
theorem mined_any (vars : Nat) (rows : List (Value × List Int)) (rv : Value) (w0 : World) (hv1 : 1 ≤ vars) (hv8 : vars ≤ 8) (hmax : rows.length ≤ 500) (hok : ∀ r ∈ rowsE rows, rowE r vars = 0) (hrv : IsRows w0 rv rows) : Calls Tryz.prog 27 #[.int .i64 (vars : Int), rv] w0 fun e w' => ∃ bm rv' new, e = .returned (.tuple #[.pointer (some ⟨bm, 0, none⟩), .bool true]) ∧ new.map (·.2) = rowsE rows ∧ Hp w0 [minerB bm vars rv'] (minerRw rv' new :: rowsR new) [] w' := by
  obtain ⟨ad, cap, b, o, rfl, hcap, hs⟩ := rows_open hrv
  refine enterA 34 Tryz.func27 rfl Tryz.ntmps27 rfl (Hp w0 [] [] []) (Hp.init _) ?_
  refine H.seq ?_
  refine H.region ?_
  refine H.q (yl_assign rfl) rfl rfl (by decide) ?_
  refine H.q (yl_assign rfl) rfl rfl (by decide) ?_
  refine HN.done ?_
  refine HN.keep [(0, _), (1, _)] ⟨rfl, rfl, trivial⟩ ?_
  refine HN.then ?_
  refine H.seq ?_
  refine H.region ?_
  refine H.q (yl_move rfl) rfl rfl (by decide) ?_
  refine H.callX (α := Nat) (xs := [.tmp 10]) (fun bm => .tuple #[.pointer (some ⟨bm, 0, none⟩), .int .i64 0]) (fun _ => True) (fun bm => Hp w0 [minerB bm vars (.slice none 0 0)] [minerRw (.slice none 0 0) []] []) Tryz.call17 rfl (by decide) (fun w hw => (newOk_any vars w hv1 hv8).mono fun e w' h => by obtain ⟨bm, h1, h2⟩ := h; exact ⟨bm, h1, trivial, (hw.join h2).rowNil 23 1⟩) (fun bm _ => ?_)
  refine H.q (yl_move rfl) rfl rfl (by decide) ?_
  refine H.q (yl_extract _ rfl rfl) rfl rfl (by decide) ?_
  refine H.q (yl_extract _ rfl rfl) rfl rfl (by decide) ?_
  refine H.q (yl_assign rfl) rfl rfl (by decide) ?_
  refine H.q (yl_assign rfl) rfl rfl (by decide) ?_
  refine HN.done ?_
  refine HN.keep [(1, _), (6, _), (7, _)] ⟨rfl, rfl, rfl, trivial⟩ ?_
  refine HN.then ?_
  refine H.seq ?_
  refine H.seq ?_
  refine H.region ?_
  refine H.q (yl_move rfl) rfl rfl (by decide) ?_
  refine H.q (yl_neq rfl rfl) rfl rfl (by decide) ?_
  refine H.q (yl_move rfl) rfl rfl (by decide) ?_
  refine H.qg (wn_f rfl rfl (by decide) rfl) (fun hg => yl_sub [(6, _)] ⟨rfl, trivial⟩ (yl_move rfl)) rfl (by decide) ?_
  refine H.qg (wn_f rfl rfl (by decide) rfl) (fun hg => yl_sub [(17, _)] ⟨slT rfl hg, trivial⟩ (yl_ptrEql Tryz.underlying38 rfl)) rfl (by decide) ?_
  refine H.q (yl_or rfl rfl) rfl rfl (by decide) ?_
  refine HN.done ?_
  refine HN.keep [(1, _), (6, _), (19, _)] ⟨rfl, rfl, rfl, trivial⟩ ?_
  refine HN.then ?_
  refine H.cond _ rfl (fun t0 => ?_) (fun t0 => ?_)
  · simp at t0
    done
  · refine H.keep [(1, _), (6, _)] ⟨rfl, rfl, trivial⟩ ?_
    refine HN.skip ?_
    refine HN.then ?_
    refine H.seq ?_
    refine H.seq ?_
    refine H.region ?_
    refine H.q (yl_assign rfl) rfl rfl (by decide) ?_
    refine HN.done ?_
    refine HN.keep [(1, _), (6, _), (8, _)] ⟨rfl, rfl, rfl, trivial⟩ ?_
    refine HN.then ?_
    refine H.block ?_
    refine H.loop (fun z : MZ => [(1, .slice ad rows.length cap), (6, .pointer (some ⟨bm, 0, none⟩)), (8, .int .i64 (z.k : Int))]) (fun z => z.k ≤ rows.length ∧ z.new.map (·.2) = (rowsE rows).take z.k) (fun z => Hp w0 [minerB bm vars z.rv] (minerRw z.rv z.new :: (rowsR z.new ++ [])) []) (fun z => rows.length - z.k) ⟨0, .slice none 0 0, []⟩ ⟨Nat.zero_le _, rfl⟩ ⟨rfl, rfl, rfl, trivial⟩ (fun w hw => hw) (fun z hI0 => ?_)
    obtain ⟨k, rvz, new⟩ := z
    obtain ⟨hI, hnew⟩ := hI0
    simp only at hI hnew
    have hnl : new.length = k := by have := congrArg List.length hnew; simp at this; omega
    refine H.seq ?_
    refine H.seq ?_
    refine H.region ?_
    refine H.q (yl_move rfl) rfl rfl (by decide) ?_
    refine H.q (yl_move rfl) rfl rfl (by decide) ?_
    refine H.q (yl_len rfl Tryz.underlying37 rfl) rfl rfl (by decide) ?_
    refine H.q (yl_lss rfl rfl) rfl rfl (by decide) ?_
    refine HN.done ?_
    refine HN.keep [(1, _), (6, _), (8, _), (23, _)] ⟨rfl, rfl, rfl, rfl, trivial⟩ ?_
    refine HN.then ?_
    refine H.cond _ rfl (fun t1 => ?_) (fun t1 => ?_)
    · replace t1 := of_decide_eq_true t1
      have hlt : k < rows.length := by have : (k : Int) < rows.length := t1; omega
      have hltE : k < (rowsE rows).length := by simpa using hlt
      have hk : (rowsE rows)[k] = rows[k].2 := by simp
      have hrk := hok rows[k].2 (List.mem_map.2 ⟨rows[k], List.getElem_mem hlt, rfl⟩)
      have hrl := (rowE_ok hrk).1
      refine H.keep [(1, _), (6, _), (8, _)] ⟨rfl, rfl, rfl, trivial⟩ ?_
      refine HN.skip ?_
      refine HN.then ?_
      refine H.seq ?_
      refine H.block ?_
      refine H.seq ?_
      refine H.region ?_
      refine H.q (yl_move rfl) rfl rfl (by decide) ?_
      refine H.q (yl_move rfl) rfl rfl (by decide) ?_
      refine H.q (yl_move rfl) rfl rfl (by decide) ?_
      refine H.q (yl_ix k Tryz.underlying37 Tryz.sizeOf23 (hs k hlt).1 rfl rfl rfl hlt) rfl rfl (by decide) ?_
      refine H.q (yl_load Tryz.isAgg23 rfl (fun w hw => cell_ext hw.ext (hs k hlt).2.1)) rfl rfl (by decide) ?_
      refine H.callX (α := Value × List (Value × List Int)) (xs := [.tmp 26, .tmp 30]) (fun _ => .int .i64 0) (fun q => q.2.map (·.2) = (rowsE rows).take (k + 1)) (fun q => Hp w0 [minerB bm vars q.1] (minerRw q.1 q.2 :: (rowsR q.2 ++ [])) []) Tryz.call19 rfl (by decide) (fun w hw => (add_any rows[k].2 rows[k].1 bm vars rvz new w0 [] [] [] w (by omega) hv1 (by omega) (fun w' hw' => (hs k hlt).2.2.ext hw'.ext) hw).mono fun e w' h => by
        rw [rowE_add] at hrk
        rcases h with ⟨h, _⟩ | ⟨_, h1, rv', cv, h2⟩
        · exact absurd hrk h
        · exact ⟨(rv', new ++ [(cv, rows[k].2)]), h1, by simp only [List.map_append, hnew, List.take_succ_eq_append_getElem hltE, hk]; rfl, h2⟩) (fun q hq => ?_)
      refine H.q (yl_neq rfl rfl) rfl rfl (by decide) ?_
      refine HN.done ?_
      refine HN.keep [(1, _), (6, _), (8, _), (32, _)] ⟨rfl, rfl, rfl, rfl, trivial⟩ ?_
      refine HN.then ?_
      refine H.cond _ rfl (fun t2 => ?_) (fun t2 => ?_)
      · simp at t2
        done
      · refine H.keep [(1, _), (6, _), (8, _)] ⟨rfl, rfl, rfl, trivial⟩ ?_
        refine HN.skip ?_
        refine HN.block ?_
        refine HN.then ?_
        refine H.region ?_
        refine H.q (yl_move rfl) rfl rfl (by decide) ?_
        refine H.q (yl_add rfl rfl ((k : Int) + 1) rfl (by omega)) rfl rfl (by decide) ?_
        refine H.q (yl_assign rfl) rfl rfl (by decide) ?_
        refine HN.done ?_
        refine HN.keep [(1, _), (6, _), (8, _)] ⟨rfl, rfl, rfl, trivial⟩ ?_
        refine HN.then ?_
        exact H.at ⟨k + 1, q.1, q.2⟩ ⟨⟨hlt, hq⟩, by simp only; omega⟩ ⟨rfl, rfl, rfl, trivial⟩ (fun w hw => hw)
    · replace t1 := of_decide_eq_false t1
      have hkl : k = rows.length := by have : ¬ (k : Int) < rows.length := t1; omega
      rw [List.take_of_length_le (by simp; omega)] at hnew
      refine H.keep [(6, _)] ⟨rfl, trivial⟩ ?_
      refine HX.exit ?_
      refine HX.then ?_
      refine HX.then ?_
      refine HX.hit ?_
      refine HN.then ?_
      refine H.seq ?_
      refine H.region ?_
      refine H.q (yl_move rfl) rfl rfl (by decide) ?_
      refine H.q (yl_assign rfl) rfl rfl (by decide) ?_
      refine H.q (yl_assign rfl) rfl rfl (by decide) ?_
      refine HN.done ?_
      refine HN.keep [(4, _), (5, _)] ⟨rfl, rfl, trivial⟩ ?_
      refine HN.then ?_
      refine HR.ret ?_
      refine HR.ret2 _ _ Tryz.results27 rfl rfl (fun w hw => ?_)
      exact ⟨bm, rvz, new, rfl, hnew, by rw [List.append_nil] at hw; exact hw⟩

end Go.Proofs.YtgbgddmbooaddaaGreatDoor

namespace Go.Proofs.YtgbgddmbooaddaaGreatDoor
open Go.RowKit

theorem chk_mk {x : Inv} {vars : Int} (hv : 1 ≤ vars) (hv8 : vars ≤ 8) (hk : kindB x.kind = true) (hp : placeB x vars = true) (hn : numE x = 0) (hb : sameB x (bareI x) = true) : chk x vars = 0 := by
  unfold chk
  rw [if_neg (by omega), if_neg (by omega), if_neg (by rw [hk]; decide), if_neg (by rw [hp]; decide), if_pos hn, if_pos hb]
theorem numE_mk {x : Inv} (h1 : smallB x.k = true) (h2 : smallB x.m = true) (h3 : allSmallB x.set = true) (h4 : x.kind = 2 → 2 ≤ x.set.length ∧ x.set.length ≤ 3 ∧ risingB x.set = true) (h5 : x.kind = 6 → 2 ≤ x.m ∧ 0 ≤ x.k ∧ x.k < x.m) : numE x = 0 := by
  unfold numE
  rw [if_pos (by rw [h1, h2, h3]; rfl)]
  by_cases h2k : x.kind = 2
  · obtain ⟨a, b, c⟩ := h4 h2k
    have e1 : (hasSB x.kind && (decide ((x.set.length : Int) < 2) || decide (3 < (x.set.length : Int)) || !risingB x.set)) = false := by
      rw [c, decide_eq_false (show ¬ (x.set.length : Int) < 2 by omega), decide_eq_false (show ¬ (3 : Int) < x.set.length by omega)]
      simp
    rw [if_neg (by rw [e1]; decide), if_neg (by simp [h2k])]
  · have e1 : hasSB x.kind = false := by simp [hasSB, h2k]
    rw [if_neg (by rw [e1]; simp)]
    by_cases h6k : x.kind = 6
    · obtain ⟨a, b, c⟩ := h5 h6k
      rw [if_neg]
      rw [decide_eq_false (show ¬ x.m < 2 by omega), decide_eq_false (show ¬ x.k < 0 by omega), decide_eq_false (show ¬ x.m ≤ x.k by omega)]
      simp
    · rw [if_neg (by simp [h6k])]
theorem modI_emod {n m : Int} (h : 0 < m) : modI n m = n % m := by
  unfold modI
  have h1 : n.tmod m + m = (n.tmod m + m) := rfl
  have hlt := Int.tmod_lt_of_pos n h
  have hgt := Int.lt_tmod_of_pos n h
  rw [Int.tmod_eq_emod_of_nonneg (by omega), Int.add_emod_right]
  exact Int.emod_eq_emod_iff_emod_sub_eq_zero.2 (by
    have := Int.dvd_sub_self_of_tmod_eq (a := n) (b := m) (c := n.tmod m) rfl
    have h2 : m ∣ n.tmod m - n := by
      have h3 := Int.dvd_neg.2 this
      rwa [Int.neg_sub] at h3
    exact Int.emod_eq_zero_of_dvd h2)
theorem gcdE_left {a b : Int} (h : 0 ≤ a) : gcdE a b ∣ a := by
  have : ((Nat.gcd a.toNat b.toNat : Nat) : Int) ∣ ((a.toNat : Nat) : Int) := Int.natCast_dvd_natCast.2 (Nat.gcd_dvd_left _ _)
  rwa [Int.toNat_of_nonneg h] at this
theorem gcdE_right {a b : Int} (h : 0 ≤ b) : gcdE a b ∣ b := by
  have : ((Nat.gcd a.toNat b.toNat : Nat) : Int) ∣ ((b.toNat : Nat) : Int) := Int.natCast_dvd_natCast.2 (Nat.gcd_dvd_right _ _)
  rwa [Int.toNat_of_nonneg h] at this
theorem gcdE_great {a b d : Int} (ha : 0 ≤ a) (hb : 0 ≤ b) (h1 : d ∣ a) (h2 : d ∣ b) : d ∣ gcdE a b := by
  have e1 : d.natAbs ∣ a.toNat := by
    rw [← Int.natAbs_dvd_natAbs] at h1
    rwa [show a.natAbs = a.toNat by omega] at h1
  have e2 : d.natAbs ∣ b.toNat := by
    rw [← Int.natAbs_dvd_natAbs] at h2
    rwa [show b.natAbs = b.toNat by omega] at h2
  unfold gcdE
  have := Int.natCast_dvd_natCast.2 (Nat.dvd_gcd e1 e2)
  exact Int.natAbs_dvd.1 this
/-- Ascending, no number twice. -/
abbrev Asc (c : List Int) : Prop := c.Pairwise fun x y => x < y
theorem asc_step {c : List Int} (h : Asc c) {k : Nat} (hk : k + 1 < c.length) : c.getD k 0 < c.getD (k + 1) 0 := by
  have := List.pairwise_iff_getElem.1 h k (k + 1) (by omega) hk (by omega)
  simpa [List.getD, hk, show k < c.length by omega] using this
theorem asc_bounds {c : List Int} (h : Asc c) {y : Int} (hy : y ∈ c) : loE c ≤ y ∧ y ≤ hiE c := by
  obtain ⟨j, hj, rfl⟩ := List.getElem_of_mem hy
  have h0 : loE c = c[0]'(by omega) := by simp [loE, List.getD, show 0 < c.length by omega]
  have h1 : hiE c = c[c.length - 1]'(by omega) := by simp [hiE, List.getD, show c.length - 1 < c.length by omega]
  rw [h0, h1]
  constructor
  · by_cases hj0 : j = 0
    · subst hj0; omega
    · have := List.pairwise_iff_getElem.1 h 0 j (by omega) hj (by omega)
      omega
  · by_cases hjl : j = c.length - 1
    · subst hjl; omega
    · have := List.pairwise_iff_getElem.1 h j (c.length - 1) hj (by omega) (by omega)
      omega
theorem step_dvd {c : List Int} (h : Asc c) : ∀ k, k + 1 ≤ c.length → ∀ j, j < k → stepE c k ∣ c.getD (j + 1) 0 - c.getD j 0
  | 0, _, j, hj => absurd hj (Nat.not_lt_zero _)
  | k + 1, hk, j, hj => by
    have hs := asc_step h (k := k) (by omega)
    show gcdE (stepE c k) (c.getD (k + 1) 0 - c.getD k 0) ∣ _
    by_cases hjk : j = k
    · subst hjk; exact gcdE_right (by omega)
    · exact Int.dvd_trans (gcdE_left (stepE_nonneg c k)) (step_dvd h k (by omega) j (by omega))
theorem step_great {c : List Int} (h : Asc c) {d : Int} : ∀ k, k + 1 ≤ c.length → (∀ j, j < k → d ∣ c.getD (j + 1) 0 - c.getD j 0) → d ∣ stepE c k
  | 0, _, _ => Int.dvd_zero _
  | k + 1, hk, hd => by
    have hs := asc_step h (k := k) (by omega)
    exact gcdE_great (stepE_nonneg c k) (by omega) (step_great h k (by omega) fun j hj => hd j (by omega)) (hd k (by omega))
theorem step_low {c : List Int} (h : Asc c) {y : Int} (hy : y ∈ c) : stepE c (c.length - 1) ∣ y - loE c := by
  obtain ⟨j, hj, rfl⟩ := List.getElem_of_mem hy
  have key : ∀ j, j < c.length → stepE c (c.length - 1) ∣ c.getD j 0 - loE c := by
    intro j
    induction j with
    | zero => intro _; unfold loE; rw [Int.sub_self]; exact Int.dvd_zero _
    | succ j ih =>
      intro hj
      have h1 := ih (by omega)
      have h2 := step_dvd h (c.length - 1) (by omega) j (by omega)
      have h3 := Int.dvd_add h2 h1
      rwa [show c.getD (j + 1) 0 - c.getD j 0 + (c.getD j 0 - loE c) = c.getD (j + 1) 0 - loE c by omega] at h3
  have := key j hj
  simpa [List.getD, hj] using this
theorem rising_asc {c : List Int} (h : Asc c) : risingB c = true := by
  unfold risingB
  rw [List.all_eq_true]
  intro j hj
  rw [List.mem_range] at hj
  have := asc_step h (k := j) (by omega)
  simpa using this
theorem lo_mem {c : List Int} (h : 0 < c.length) : loE c ∈ c := by unfold loE; exact getD_mem h
theorem hi_mem {c : List Int} (h : 0 < c.length) : hiE c ∈ c := by unfold hiE; exact getD_mem (by omega)
theorem zero_small : smallB 0 = true := by decide
/-- The claims about one variable. -/
theorem alone_ok {c : List Int} {a vars : Nat} (h : Asc c) (hsm : ∀ y ∈ c, smallB y = true) (h0 : 0 < c.length) (hv1 : 1 ≤ vars) (hv8 : vars ≤ 8) (ha : a < vars) : ∀ x ∈ aloneE c a, chk x vars = 0 ∧ x.a = a ∧ x.kind ≤ 6 ∧ ∀ y ∈ c, ∀ z, holdsB x y z = true := by
  have hlo := hsm _ (lo_mem h0)
  have hhi := hsm _ (hi_mem h0)
  have place : ∀ x : Inv, x.a = a → x.kind ≤ 6 → placeB x vars = true := fun x hxa hk => by
    have e1 : twoB x.kind = false := by simp [twoB]; omega
    have e2 : turnB x = false := by simp [turnB]; omega
    simp only [placeB, outB, e1, e2, hxa]
    simp
    omega
  intro x hx
  unfold aloneE at hx
  split at hx
  · rename_i h1
    rw [List.mem_singleton] at hx
    subst hx
    refine ⟨chk_mk (by omega) (by omega) (by simp [kindB]) (place _ rfl (by simp [kindB])) (numE_mk hlo zero_small rfl (fun h => absurd h (by simp [kindB])) (fun h => absurd h (by simp [kindB]))) (by simp [sameB, bareI, twoB, hasKB, hasMB, hasSB]), rfl, (by simp [kindB]), fun y hy z => ?_⟩
    obtain ⟨b1, b2⟩ := asc_bounds h hy
    have : hiE c = loE c := by unfold hiE loE; rw [show c.length - 1 = 0 by omega]
    have : y = loE c := by omega
    simp [holdsB, this]
  · rename_i h1
    simp only [List.mem_append, List.mem_cons, List.not_mem_nil, or_false] at hx
    rcases hx with (((rfl | rfl) | hx) | hx) | hx
    · refine ⟨chk_mk (by omega) (by omega) (by simp [kindB]) (place _ rfl (by simp [kindB])) (numE_mk hlo zero_small rfl (fun h => absurd h (by simp [kindB])) (fun h => absurd h (by simp [kindB]))) (by simp [sameB, bareI, twoB, hasKB, hasMB, hasSB]), rfl, (by simp [kindB]), fun y hy z => ?_⟩
      have := (asc_bounds h hy).1
      simpa [holdsB] using this
    · refine ⟨chk_mk (by omega) (by omega) (by simp [kindB]) (place _ rfl (by simp [kindB])) (numE_mk hhi zero_small rfl (fun h => absurd h (by simp [kindB])) (fun h => absurd h (by simp [kindB]))) (by simp [sameB, bareI, twoB, hasKB, hasMB, hasSB]), rfl, (by simp [kindB]), fun y hy z => ?_⟩
      have := (asc_bounds h hy).2
      simpa [holdsB] using this
    · split at hx
      · rename_i h3
        rw [List.mem_singleton] at hx
        subst hx
        refine ⟨chk_mk (by omega) (by omega) (by simp [kindB]) (place _ rfl (by simp [kindB])) (numE_mk zero_small zero_small (List.all_eq_true.2 hsm) (fun _ => ⟨by simp only; omega, by simp only; omega, rising_asc h⟩) (fun h => absurd h (by simp [kindB]))) (by simp [sameB, bareI, twoB, hasKB, hasMB, hasSB]), rfl, (by simp [kindB]), fun y hy z => ?_⟩
        simp [holdsB, hy]
      · cases hx
    · split at hx
      · rename_i h3
        rw [List.mem_singleton] at hx
        subst hx
        refine ⟨chk_mk (by omega) (by omega) (by simp [kindB]) (place _ rfl (by simp [kindB])) (numE_mk zero_small zero_small rfl (fun h => absurd h (by simp [kindB])) (fun h => absurd h (by simp [kindB]))) (by simp [sameB, bareI, twoB, hasKB, hasMB, hasSB]), rfl, (by simp [kindB]), fun y hy z => ?_⟩
        simp only [Bool.and_eq_true, Bool.not_eq_true', List.any_eq_false, decide_eq_true_eq] at h3
        have : y ≠ 0 := fun e => h3.1.1 y hy e.symm
        simp [holdsB, this]
      · cases hx
    · split at hx
      · cases hx
      · rename_i h3
        split at hx
        · rename_i h4
          rw [List.mem_singleton] at hx
          subst hx
          simp only [Bool.and_eq_true, decide_eq_true_eq] at h4
          have hpos : 0 < stepE c (c.length - 1) := by omega
          have e1 := modI_emod (n := loE c) hpos
          have b1 := Int.emod_nonneg (loE c) (show stepE c (c.length - 1) ≠ 0 by omega)
          have b2 := Int.emod_lt_of_pos (loE c) hpos
          refine ⟨chk_mk (by omega) (by omega) (by simp [kindB]) (place _ rfl (by simp [kindB])) (numE_mk (by rw [smallB]; simp only [e1, Bool.and_eq_true, decide_eq_true_eq]; omega) (by rw [smallB]; simp only [Bool.and_eq_true, decide_eq_true_eq]; omega) rfl (fun h => absurd h (by simp [kindB])) (fun _ => ⟨h4.1, by simp only [e1]; omega, by simp only [e1]; omega⟩)) (by simp [sameB, bareI, twoB, hasKB, hasMB, hasSB]), rfl, (by simp [kindB]), fun y hy z => ?_⟩
          have hd := step_low h hy
          have : modI y (stepE c (c.length - 1)) = modI (loE c) (stepE c (c.length - 1)) := by
            rw [e1, modI_emod hpos]
            exact Int.emod_eq_emod_iff_emod_sub_eq_zero.2 (Int.emod_eq_zero_of_dvd hd)
          simp [holdsB, this]
        · cases hx
end Go.Proofs.YtgbgddmbooaddaaGreatDoor

namespace Go.Proofs.YtgbgddmbooaddaaGreatDoor
open Go.RowKit

def Okr (rows : List (List Int)) (vars : Nat) : Prop := ∀ r ∈ rows, r.length = vars ∧ allSmallB r = true
theorem okr_of {rows : List (List Int)} {vars : Nat} (h : ∀ r ∈ rows, rowE r vars = 0) : Okr rows vars := fun r hr => by
  have := rowE_ok (h r hr)
  exact ⟨by omega, this.2⟩
theorem Okr.small {rows : List (List Int)} {vars : Nat} (h : Okr rows vars) : ∀ r ∈ rows, ∀ x ∈ r, smallB x = true := fun r hr x hx => List.all_eq_true.1 (h r hr).2 x hx
theorem place_two {x : Inv} {vars p q : Nat} (ha : x.a = p) (hb : x.b = q) (hpv : p < vars) (hqv : q < vars) (hne : p ≠ q) (ht : x.kind = 7 ∨ x.kind = 8 → p < q) : placeB x vars = true := by
  unfold placeB outB turnB
  rw [ha, hb]
  have e1 : decide ((p : Int) < 0) = false := decide_eq_false (by omega)
  have e2 : decide ((vars : Int) ≤ p) = false := decide_eq_false (by omega)
  have e3 : decide ((q : Int) < 0) = false := decide_eq_false (by omega)
  have e4 : decide ((vars : Int) ≤ q) = false := decide_eq_false (by omega)
  have e5 : decide ((p : Int) = q) = false := decide_eq_false (by omega)
  rw [e1, e2, e3, e4, e5]
  by_cases h7 : x.kind = 7 ∨ x.kind = 8
  · have := ht h7
    have e6 : decide ((q : Int) ≤ p) = false := decide_eq_false (by omega)
    rw [e6]
    simp
  · have e6 : (decide (x.kind = 7) || decide (x.kind = 8)) = false := by simp; omega
    rw [e6]
    simp
theorem chk_two {k : Int} {vars p q : Nat} {K M : Int} (hk : 7 ≤ k ∧ k ≤ 11) (hv1 : 1 ≤ vars) (hv8 : vars ≤ 8) (hpv : p < vars) (hqv : q < vars) (hne : p ≠ q) (ht : k = 7 ∨ k = 8 → p < q) (hK : smallB K = true) (hM : smallB M = true) (h0 : k ≠ 11 → K = 0 ∧ M = 0) : chk ⟨k, p, q, K, M, []⟩ vars = 0 := by
  refine chk_mk (by omega) (by omega) (by simp [kindB]; omega) (place_two rfl rfl hpv hqv hne ht) (numE_mk hK hM rfl (fun h => ?_) (fun h => ?_)) ?_
  · simp only at h; omega
  · simp only at h; omega
  · have e1 : twoB k = true := by simp [twoB]; omega
    have e3 : hasSB k = false := by simp [hasSB]; omega
    by_cases h11 : k = 11
    · subst h11
      simp [sameB, bareI, twoB, hasKB, hasMB, hasSB]
    · obtain ⟨rfl, rfl⟩ := h0 h11
      simp [sameB, bareI, e1, e3]
theorem linE_some {P : List (Int × Int)} {a b : Int} {x : Inv} (h : linE P a b = some x) : ∃ K M, x = ⟨11, a, b, K, M, []⟩ ∧ smallB K = true ∧ smallB M = true ∧ ∀ r ∈ P, r.2 = K * r.1 + M := by
  unfold linE at h
  rw [Option.bind_eq_some_iff] at h
  obtain ⟨q, _, h⟩ := h
  unfold linT at h
  split at h
  · cases h
  split at h
  · cases h
  rename_i h2
  split at h
  · cases h
  rename_i h3
  split at h
  · rename_i h4
    simp only [Option.some.injEq] at h
    subst h
    refine ⟨_, _, rfl, by simpa using h2, by simpa using h3, fun r hr => ?_⟩
    have := List.all_eq_true.1 h4 r hr
    simpa using this
  · cases h
theorem all_pts {rows : List (List Int)} {a b : Nat} {f : Int × Int → Bool} (h : (ptsL rows a b).all f = true) : ∀ r ∈ rows, f (r.getD a 0, r.getD b 0) = true := fun r hr =>
  List.all_eq_true.1 h _ (List.mem_map.2 ⟨r, hr, rfl⟩)
theorem order_ok {rows : List (List Int)} {ca cb : List Int} {a b vars : Nat} (hv1 : 1 ≤ vars) (hv8 : vars ≤ 8) (hb : b < vars) (hab : a < b) : ∀ x ∈ orderE (ptsL rows a b) ca cb a b, chk x vars = 0 ∧ ∀ r ∈ rows, holdsR x r = true := by
  intro x hx
  unfold orderE at hx
  split at hx
  · rename_i h1
    split at hx
    · cases hx
    · rw [List.mem_singleton] at hx
      subst hx
      exact ⟨chk_two (by omega) hv1 hv8 (by omega) hb (by omega) (by omega) zero_small zero_small (fun _ => ⟨rfl, rfl⟩), fun r hr => by simpa [holdsR, holdsB] using all_pts h1 r hr⟩
  split at hx
  · rename_i h1
    split at hx
    · cases hx
    · rw [List.mem_singleton] at hx
      subst hx
      exact ⟨chk_two (by omega) hv1 hv8 hb (by omega) (by omega) (by omega) zero_small zero_small (fun _ => ⟨rfl, rfl⟩), fun r hr => by simpa [holdsR, holdsB] using all_pts h1 r hr⟩
  split at hx
  · rename_i h1
    split at hx
    · cases hx
    · rw [List.mem_singleton] at hx
      subst hx
      exact ⟨chk_two (by omega) hv1 hv8 (by omega) hb (by omega) (by omega) zero_small zero_small (fun _ => ⟨rfl, rfl⟩), fun r hr => by simpa [holdsR, holdsB] using all_pts h1 r hr⟩
  split at hx
  · rename_i h1
    split at hx
    · cases hx
    · rw [List.mem_singleton] at hx
      subst hx
      exact ⟨chk_two (by omega) hv1 hv8 hb (by omega) (by omega) (by omega) zero_small zero_small (fun _ => ⟨rfl, rfl⟩), fun r hr => by simpa [holdsR, holdsB] using all_pts h1 r hr⟩
  split at hx
  · rename_i h1
    rw [List.mem_singleton] at hx
    subst hx
    exact ⟨chk_two (by omega) hv1 hv8 (by omega) hb (by omega) (fun _ => hab) zero_small zero_small (fun _ => ⟨rfl, rfl⟩), fun r hr => by simpa [holdsR, holdsB] using all_pts h1 r hr⟩
  · cases hx
theorem couple_ok {rows : List (List Int)} {ca cb : List Int} {a b vars : Nat} (hv1 : 1 ≤ vars) (hv8 : vars ≤ 8) (hb : b < vars) (hab : a < b) : ∀ x ∈ coupleE rows ca cb a b, chk x vars = 0 ∧ ∀ r ∈ rows, holdsR x r = true := by
  intro x hx
  cases h1 : (ptsL rows a b).all (fun p => decide (p.1 = p.2)) with
  | true =>
    unfold coupleE at hx
    rw [if_pos h1, List.mem_singleton] at hx
    subst hx
    exact ⟨chk_two (by omega) hv1 hv8 (by omega) hb (by omega) (fun _ => hab) zero_small zero_small (fun _ => ⟨rfl, rfl⟩), fun r hr => by simpa [holdsR, holdsB] using all_pts h1 r hr⟩
  | false =>
    rw [couple_eq h1] at hx
    rcases List.mem_append.1 hx with hx | hx
    · exact order_ok hv1 hv8 hb hab x hx
    · split at hx
      · cases hx
      · cases h2 : linE (setD (ptsL rows a b)) a b with
        | some y =>
          rw [h2] at hx
          simp only [List.mem_singleton] at hx
          subst hx
          obtain ⟨K, M, rfl, hK, hM, hall⟩ := linE_some h2
          refine ⟨chk_two (by omega) hv1 hv8 (by omega) hb (by omega) (by omega) hK hM (fun h => absurd rfl h), fun r hr => ?_⟩
          have := hall (r.getD a 0, r.getD b 0) (mem_setD.2 (List.mem_map.2 ⟨r, hr, rfl⟩))
          simpa [holdsR, holdsB] using this
        | none =>
          rw [h2] at hx
          simp only at hx
          cases h3 : linE (swapL (setD (ptsL rows a b))) b a with
          | some y =>
            rw [h3] at hx
            simp only [List.mem_singleton] at hx
            subst hx
            obtain ⟨K, M, rfl, hK, hM, hall⟩ := linE_some h3
            refine ⟨chk_two (by omega) hv1 hv8 hb (by omega) (by omega) (by omega) hK hM (fun h => absurd rfl h), fun r hr => ?_⟩
            have := hall (r.getD b 0, r.getD a 0) (List.mem_map.2 ⟨(r.getD a 0, r.getD b 0), mem_setD.2 (List.mem_map.2 ⟨r, hr, rfl⟩), rfl⟩)
            simpa [holdsR, holdsB] using this
          | none =>
            rw [h3] at hx
            simp at hx
theorem claims_ok {rows : List (List Int)} {vars : Nat} (hv1 : 1 ≤ vars) (hv8 : vars ≤ 8) (hok : Okr rows vars) (support : Int) : ∀ x ∈ claimsE rows vars support, chk x vars = 0 ∧ ∀ r ∈ rows, holdsR x r = true := by
  intro x hx
  by_cases hs : (rows.length : Int) = 0 ∨ (rows.length : Int) < support
  · unfold claimsE at hx
    rw [if_pos hs] at hx
    cases hx
  · rw [claimsE_eq hs] at hx
    have hpos : 0 < rows.length := by omega
    rcases List.mem_append.1 hx with hx | hx
    · obtain ⟨a, ha, hx⟩ := List.mem_flatMap.1 hx
      rw [List.mem_range] at ha
      obtain ⟨h1, h2, h3, h4⟩ := alone_ok (facts_lt rows a) (facts_small hok.small a) (facts_pos hpos a) hv1 hv8 ha x hx
      refine ⟨h1, fun r hr => ?_⟩
      unfold holdsR
      rw [h2]
      exact h4 _ (facts_mem.2 (List.mem_map.2 ⟨r, hr, rfl⟩)) _
    · obtain ⟨a, ha, hx⟩ := List.mem_flatMap.1 hx
      rw [List.mem_range] at ha
      obtain ⟨b, hb, hx⟩ := List.mem_flatMap.1 hx
      have hb2 : a < b ∧ b < vars := by
        obtain ⟨j, hj, rfl⟩ := List.getElem_of_mem hb
        simp at hj ⊢
        omega
      unfold pairE at hx
      split at hx
      · exact couple_ok hv1 hv8 hb2.2 hb2.1 x hx
      · cases hx
theorem alone_ne {c : List Int} {a : Int} : aloneE c a ≠ [] := by
  unfold aloneE
  split <;> simp
theorem claims_ne {rows : List (List Int)} {vars : Nat} (hv1 : 1 ≤ vars) (h : 0 < rows.length) : claimsE rows vars 0 ≠ [] := by
  rw [claimsE_eq (by omega)]
  unfold claimsA aloneA
  obtain ⟨n, rfl⟩ : ∃ n, vars = n + 1 := ⟨vars - 1, by omega⟩
  rw [List.range_succ_eq_map, List.flatMap_cons]
  simp [alone_ne]
theorem follow_ok {rows : List (List Int)} {vars : Nat} {x : Inv} (h1 : chk x vars = 0) (h2 : ∀ r ∈ rows, holdsR x r = true) : followE x vars rows = (true, 0) := by
  unfold followE
  rw [if_neg (not_not_intro h1), List.all_eq_true.2 h2]
theorem hold_ok {row : List Int} {vars : Nat} {x : Inv} (hl : row.length = vars) (hs : allSmallB row = true) (h1 : chk x vars = 0) (h2 : holdsR x row = true) : holdE x row = (true, 0) := by
  unfold holdE
  rw [hl, if_pos h1, if_pos hs, h2]
theorem follow_sub {rows rows' : List (List Int)} {vars : Nat} {x : Inv} (h : ∀ r ∈ rows', r ∈ rows) : (followE x vars rows).2 = (followE x vars rows').2 ∧ ((followE x vars rows).1 = true → (followE x vars rows').1 = true) := by
  unfold followE
  split
  · exact ⟨rfl, fun h => h⟩
  · refine ⟨rfl, fun h1 => ?_⟩
    simp only [List.all_eq_true] at h1 ⊢
    exact fun r hr => h1 r (h r hr)
end Go.Proofs.YtgbgddmbooaddaaGreatDoor

namespace Go.Proofs.YtgbgddmbooaddaaGreatDoor
open Go.RowKit


/-- 'x[i:]' of rows. -/
theorem rows_from {w : World} {ad : Option Addr} {n cap : Nat} {rows : List (Value × List Int)} (h : IsRows w (.slice ad n cap) rows) (i : Nat) (hi : i ≤ rows.length) : IsRows w (.slice (if cap = i then ad else ad.map (·.add (i * 1))) (n - i) (cap - i)) (rows.drop i) := by
  obtain ⟨⟨ad', cap', b, o, h1, h2, h3⟩, h4⟩ := h
  simp only [Value.slice.injEq, List.length_map] at h1 h2
  obtain ⟨rfl, rfl, rfl⟩ := h1
  refine ⟨⟨_, _, b, o + i, by rw [List.length_map, List.length_drop], by rw [List.length_map, List.length_drop]; omega, fun j x hj => ?_⟩, fun p hp => h4 p (List.mem_of_mem_drop hp)⟩
  rw [List.getElem?_map, List.getElem?_drop, ← List.getElem?_map] at hj
  obtain ⟨k1, k2⟩ := h3 (i + j) x hj
  have hlt : i + j < rows.length := by have := (List.getElem?_eq_some_iff.1 hj).1; simpa using this
  refine ⟨?_, by rw [Nat.add_assoc]; exact k2⟩
  rw [if_neg (by omega), k1]
  simp [add_at]
theorem turn_bounds {x n : Int} (hn : 0 < n) : 0 ≤ (x.tmod n + n).tmod n ∧ (x.tmod n + n).tmod n < n := by
  have h1 := Int.tmod_lt_of_pos x hn
  have h2 := Int.lt_tmod_of_pos x hn
  have h3 := Int.tmod_lt_of_pos (x.tmod n + n) hn
  exact ⟨Int.tmod_nonneg _ (by omega), h3⟩
theorem slices_mem {new rows : List (Value × List Int)} (h : new.map (·.2) = rows.map (·.2)) : ∀ p ∈ new, p.2 ∈ rows.map (·.2) := fun p hp => h ▸ List.mem_map.2 ⟨p, hp, rfl⟩


theorem valid_open {v : Int} {rows : List (List Int)} (h : validB v rows = true) : ∃ vars : Nat, v = (vars : Int) ∧ 1 ≤ vars ∧ vars ≤ 8 ∧ ∀ r ∈ rows, rowE r (vars : Int) = 0 := by
  unfold validB at h
  simp only [Bool.and_eq_true, List.all_eq_true, decide_eq_true_eq] at h
  obtain ⟨h1, h2, h3⟩ := h
  refine ⟨v.toNat, by omega, by omega, by omega, fun r hr => ?_⟩
  rw [show ((v.toNat : Nat) : Int) = v by omega]
  exact h1 r hr
/-- A table as the laws have it. -/
theorem mined_tbl {w : World} {bm vars : Nat} {rv : Value} {new : List (Value × List Int)} {rows : List (List Int)} (hnew : new.map (·.2) = rows) (hok : Okr rows vars) (hmax : rows.length ≤ 500) (hb : w.heap[bm]? = some (.cells #[.int .i64 (vars : Int), rv] 94)) (hr : Rw.ok w (minerRw rv new)) (hs : ∀ r ∈ rowsR new, r.ok w) : Tbl w bm vars rv new :=
  Tbl.of hb hr hs (fun p hp => (hok p.2 (hnew ▸ List.mem_map.2 ⟨p, hp, rfl⟩)).1) (by have := congrArg List.length hnew; rw [List.length_map] at this; omega) (fun p hp => (hok p.2 (hnew ▸ List.mem_map.2 ⟨p, hp, rfl⟩)).2)
theorem Rw.lenMax {w : World} {r : Rw} (h : r.ok w) : r.len ≤ 9223372036854775807 := by
  obtain ⟨_, ⟨_, h3⟩ | ⟨g, cap, cur, _, _, _, h6, h7, _⟩⟩ := h
  · omega
  · simp only [maxLen] at h7; omega
theorem claimsRw_open {w : World} {v : Value} {l : List (Value × Inv)} (h : Rw.ok w (claimsRw v l)) : ∃ ad cap b, v = .slice ad l.length cap ∧ l.length ≤ cap ∧ (∀ i, i < l.length → ad = some ⟨b, 0, none⟩) ∧ ∀ w', Rw.ok w' (claimsRw v l) → ∀ i (hi : i < l.length) j u, (cellsI l[i])[j]? = some u → w'.cell? ((⟨b, 0 + i * 6, none⟩ : Addr).add j) = some u := by
  obtain ⟨ad, cap, b, h1, h2, h3, h4⟩ := Rw.open h
  have key : ∀ i (hi : i < l.length) j u, (cellsI l[i])[j]? = some u → ((l.map cellsI).flatten)[i * 6 + j]? = some u := fun i hi j u hu => flatN _ (cells6 l) i (cellsI l[i]) (by simp [hi]) j u hu
  refine ⟨ad, cap, b, h1, h2, fun i hi => (h4 w h _ _ (key i hi 0 _ rfl)).1, fun w' hw' i hi j u hu => ?_⟩
  rw [add_at, Nat.zero_add]
  exact (h4 w' hw' _ _ (key i hi j u hu)).2
theorem chk_set {x : Inv} {vars : Int} (h : chk x vars = 0) : x.set.length ≤ 4611686018427387904 := by
  obtain ⟨_, _, _, _, h5, h6⟩ := chk_zero h
  by_cases hk : x.kind = 2
  · have := (numE_zero h5).2.2.2.1 (by simp [hasSB, hk])
    omega
  · simp only [sameB, bareI, hasSB, hk, decide_false, Bool.false_eq_true, if_false, Bool.and_eq_true, decide_eq_true_eq] at h6
    rw [h6.2]
    simp
theorem valid_len {l : List (Value × Inv)} {rows : List (Value × List Int)} {names : List (List UInt8)} (h : (!wideB (l.map (·.2)) (rows.map (·.2)) names) = true) : rows.length ≤ 1000 := by
  have h1 : wideB (l.map (·.2)) (rows.map (·.2)) names = false := by simpa using h
  have := (wide_rows h1).1
  rw [List.length_map] at this
  omega
theorem valid_lens {l : List (Value × Inv)} {rows : List (Value × List Int)} {names : List (List UInt8)} (h : (!wideB (l.map (·.2)) (rows.map (·.2)) names) = true) : ∀ p ∈ rows, p.2.length ≤ 1000 := fun p hp => by
  have h1 : wideB (l.map (·.2)) (rows.map (·.2)) names = false := by simpa using h
  have := (wide_rows h1).2 p.2 (List.mem_map.2 ⟨p, hp, rfl⟩)
  omega

set_option maxRecDepth 100000 in
theorem true_any (v : Int) (rows : List (Value × List Int)) (rv : Value) (x : Inv) (sv : Value) (less : Int) (w0 : World) (hvars : Vars w0) (hrv : IsRows w0 rv rows) (hv : IsInts w0 sv x.set) : Calls Tryz.prog 7 #[.int .i64 v, rv, (.agg [.int .u8 x.kind, .int .i64 x.a, .int .i64 x.b, .int .i64 x.k, .int .i64 x.m, sv].toArray), .int .i64 less] w0 fun e w' => e = .returned (.bool true) ∧ Ext w0 w' := by
  obtain ⟨ad, cap, b, o, rfl, hcap, hs⟩ := ints_open hv
  obtain ⟨adr, capr, br, orr, rfl, hcapr, hsr⟩ := rows_open hrv
  refine enterA 150 Tryz.func7 rfl Tryz.ntmps7 rfl (Hp w0 [] [] []) (Hp.init _) ?_
  refine H.seq ?_
  refine H.region ?_
  refine H.boxA rfl (by decide) (fun b6 hb6 => ?_)
  refine H.q (yl_assign rfl) rfl rfl (by decide) ?_
  refine HN.done ?_
  refine HN.keep [(0, _), (1, _), (3, _), (6, _)] ⟨rfl, rfl, rfl, rfl, trivial⟩ ?_
  refine HN.then ?_
  refine H.seq ?_
  refine H.seq ?_
  refine H.region ?_
  refine H.q (yl_loadAgg _ Tryz.isAgg25 Tryz.sizeOf25 rfl (fun w hw => cells_of_blk (hw.blk 0 rfl)) rfl) rfl rfl (by decide) ?_
  refine H.buildSlice (bs28 _ _ _ _ _ _ _ _) rfl (by decide) (fun b23 hb23 => ?_)
  refine H.q (yl_move rfl) rfl rfl (by decide) ?_
  refine H.q (yl_call (xs := [.tmp 23, .tmp 24, .const (.slice none 0 0)]) Tryz.call10 (stab_hp _ _ _ _) rfl (fun w hw => wide_any [((.slice ad x.set.length cap), x)] _ rows (.slice adr rows.length capr) [] (.slice none 0 0) w (claims_blk1 (hw.blk 0 rfl) (hv.ext hw.ext)) (hrv.ext hw.ext) (strs_nil w))) rfl rfl (by decide) ?_
  refine H.q (yl_move rfl) rfl rfl (by decide) ?_
  refine H.qg (wn_f rfl rfl (by decide) rfl) (fun hg => yl_sub [(0, _)] ⟨rfl, trivial⟩ (yl_move rfl)) rfl (by decide) ?_
  refine H.qg (wn_f rfl rfl (by decide) rfl) (fun hg => yl_sub [(1, _)] ⟨rfl, trivial⟩ (yl_move rfl)) rfl (by decide) ?_
  refine H.qg (wn_f rfl rfl (by decide) rfl) (fun hg => yl_sub [(27, _), (28, _)] ⟨slT rfl hg, slT rfl hg, trivial⟩ (yl_call (xs := [.tmp 27, .tmp 28]) Tryz.call26 (stab_hp _ _ _ _) rfl (fun w hw => valid_any v rows (.slice adr rows.length capr) w (valid_len hg) (valid_lens hg) (hrv.ext hw.ext)))) rfl (by decide) ?_
  refine H.qg (wn_f rfl rfl (by decide) rfl) (fun hg => yl_sub [(29, _)] ⟨slT rfl hg, trivial⟩ (yl_not rfl)) rfl (by decide) ?_
  refine H.q (yl_or rfl rfl) rfl rfl (by decide) ?_
  refine HN.done ?_
  refine HN.keep [(0, _), (1, _), (3, _), (6, _), (31, _)] ⟨rfl, rfl, rfl, rfl, rfl, trivial⟩ ?_
  refine HN.then ?_
  refine H.cond _ rfl (fun t0 => ?_) (fun t0 => ?_)
  · refine H.keep [] trivial ?_
    refine H.seq ?_
    refine H.region ?_
    refine H.q (yl_call (xs := []) Tryz.call11 (stab_hp _ _ _ _) rfl (fun w hw => learns_any w (hvars.ext hw.ext))) rfl rfl (by decide) ?_
    refine H.q (yl_assign rfl) rfl rfl (by decide) ?_
    refine HN.done ?_
    refine HN.keep [(8, _)] ⟨rfl, trivial⟩ ?_
    refine HN.then ?_
    refine HR.ret ?_
    refine HR.then ?_
    refine HR.ret1 _ Tryz.results7 rfl (fun w hw => ?_)
    exact ⟨rfl, hw.ext⟩
  · have hsp : wideB [x] (rowsE rows) [] = false ∧ validB v (rowsE rows) = true := by
      revert t0
      show (wideB ([((.slice ad x.set.length cap), x)].map (·.2)) (rows.map (·.2)) [] || _) = false → _
      cases hh : wideB [x] (rowsE rows) [] with
      | true => intro t0; simp only [List.map_cons, List.map_nil] at t0; rw [hh] at t0; cases t0
      | false =>
        intro t0
        simp only [List.map_cons, List.map_nil] at t0
        rw [hh] at t0
        exact ⟨rfl, by simpa [gv] using t0⟩
    obtain ⟨hw0, hval⟩ := hsp
    have hx1 := (wide_sets hw0).2 x (by simp)
    have hrl := (wide_rows hw0).1
    have hrl2 := (wide_rows hw0).2
    rw [List.length_map] at hrl
    obtain ⟨vars, rfl, hv1, hv8, hrok⟩ := valid_open hval
    have hok : Okr (rowsE rows) vars := okr_of hrok
    refine H.keep [(0, _), (1, _), (3, _), (6, _)] ⟨rfl, rfl, rfl, rfl, trivial⟩ ?_
    refine HN.skip ?_
    refine HN.then ?_
    refine H.seq ?_
    refine H.region ?_
    refine H.q (yl_move rfl) rfl rfl (by decide) ?_
    refine H.q (yl_move rfl) rfl rfl (by decide) ?_
    refine H.callX (α := Nat × Value × List (Value × List Int)) (xs := [.tmp 34, .tmp 35]) (fun q => .tuple #[.pointer (some ⟨q.1, 0, none⟩), .bool true]) (fun q => q.2.2.map (·.2) = rowsE rows) (fun q => Hp w0 [minerB q.1 vars q.2.1, (b23, ex (.cells #[.int .u8 x.kind, .int .i64 x.a, .int .i64 x.b, .int .i64 x.k, .int .i64 x.m, .slice ad x.set.length cap] 25)), (b6, ex (.cells #[.int .u8 x.kind, .int .i64 x.a, .int .i64 x.b, .int .i64 x.k, .int .i64 x.m, .slice ad x.set.length cap] 25))] (minerRw q.2.1 q.2.2 :: (rowsR q.2.2 ++ [])) []) Tryz.call27 rfl (by decide) (fun w hw => (mined_any vars rows _ w hv1 hv8 (by omega) hrok (hrv.ext hw.ext)).mono fun e w' h => by obtain ⟨bm, rv', new, h1, h2, h3⟩ := h; exact ⟨(bm, rv', new), h1, h2, by have := hw.join h3; rw [List.cons_append] at this; exact this⟩) (fun q hq1 => ?_)
    obtain ⟨bm1, rvm1, new1⟩ := q
    simp only at hq1
    refine H.q (yl_move rfl) rfl rfl (by decide) ?_
    refine H.q (yl_extract _ rfl rfl) rfl rfl (by decide) ?_
    refine H.q (yl_extract _ rfl rfl) rfl rfl (by decide) ?_
    refine H.q (yl_assign rfl) rfl rfl (by decide) ?_
    refine H.q (yl_assign rfl) rfl rfl (by decide) ?_
    refine HN.done ?_
    refine HN.keep [(0, _), (1, _), (3, _), (6, _), (9, _), (10, _)] ⟨rfl, rfl, rfl, rfl, rfl, rfl, trivial⟩ ?_
    refine HN.then ?_
    refine H.seq ?_
    refine H.seq ?_
    refine H.region ?_
    refine H.q (yl_move rfl) rfl rfl (by decide) ?_
    refine H.q (yl_not rfl) rfl rfl (by decide) ?_
    refine HN.done ?_
    refine HN.keep [(0, _), (1, _), (3, _), (6, _), (9, _), (40, _)] ⟨rfl, rfl, rfl, rfl, rfl, rfl, trivial⟩ ?_
    refine HN.then ?_
    refine H.cond _ rfl (fun t1 => ?_) (fun t1 => ?_)
    · cases t1
      done
    · refine H.keep [(0, _), (1, _), (3, _), (6, _), (9, _)] ⟨rfl, rfl, rfl, rfl, rfl, trivial⟩ ?_
      refine HN.skip ?_
      refine HN.then ?_
      refine H.seq ?_
      refine H.region ?_
      refine H.q (yl_move rfl) rfl rfl (by decide) ?_
      refine H.call (α := Value × List (Value × Inv)) (xs := [.tmp 41, .const (.int .i64 0)]) (fun q => q.1) (fun q => q.2.map (·.2) = (claimsE (rowsE rows) vars 0)) (fun q => claimsRw q.1 q.2 :: setsR q.2) (fun _ => []) Tryz.call24 rfl (by decide) (fun w hw => (claims_any bm1 vars rvm1 new1 w (mined_tbl hq1 hok (by rw [List.length_map]; omega) (hw.blk 0 rfl) (hw.row 0 rfl) (fun r hr => hw.rows r (List.mem_cons_of_mem _ (List.mem_append.2 (.inl hr))))) hv1 hv8 0).mono fun e w' h => by obtain ⟨v, l, h1, h2, h3⟩ := h; exact ⟨(v, l), h1, by rw [h2]; exact congrArg (fun r => claimsE r vars 0) hq1, h3, fun _ hh => by cases hh⟩) (fun q hql => ?_)
      obtain ⟨u, l⟩ := q
      simp only at hql
      refine H.pull (fun w hw => claimsRw_open (v := u) (l := l) (hw.row 0 rfl)) (fun ho => ?_)
      obtain ⟨adc, capc, bc, rfl, hcapc, hadc, hcc⟩ := ho
      refine H.pull (fun w hw => Rw.lenMax (hw.row 0 rfl)) (fun hl100 => ?_)
      replace hl100 : l.length ≤ 9223372036854775807 := hl100
      have hcok : ∀ p ∈ l, chk p.2 vars = 0 ∧ ∀ r ∈ (rowsE rows), holdsR p.2 r = true := fun p hp => claims_ok hv1 hv8 hok 0 p.2 (hql ▸ List.mem_map.2 ⟨p, hp, rfl⟩)
      have hsl : ∀ i (hi : i < l.length), l[i].2.set.length ≤ 4611686018427387904 := fun i hi => by
        have h1 := (hcok _ (List.getElem_mem hi)).1
        exact chk_set h1
      refine H.q (yl_assign rfl) rfl rfl (by decide) ?_
      refine HN.done ?_
      refine HN.keep [(0, _), (1, _), (3, _), (6, _), (9, _), (11, _)] ⟨rfl, rfl, rfl, rfl, rfl, rfl, trivial⟩ ?_
      refine HN.then ?_
      refine H.seq ?_
      refine H.seq ?_
      refine H.region ?_
      refine H.q (yl_move rfl) rfl rfl (by decide) ?_
      refine H.q (yl_len rfl Tryz.underlying37 rfl) rfl rfl (by decide) ?_
      refine H.q (yl_gtr rfl rfl) rfl rfl (by decide) ?_
      refine H.q (yl_move rfl) rfl rfl (by decide) ?_
      refine H.qg (wn_t rfl rfl (by decide) rfl) (fun hg => yl_sub [(11, _)] ⟨rfl, trivial⟩ (yl_move rfl)) rfl (by decide) ?_
      refine H.qg (wn_t rfl rfl (by decide) rfl) (fun hg => yl_sub [(47, _)] ⟨slT rfl hg, trivial⟩ (yl_len rfl Tryz.underlying28 rfl)) rfl (by decide) ?_
      refine H.qg (wn_t rfl rfl (by decide) rfl) (fun hg => yl_sub [(48, _)] ⟨slT rfl hg, trivial⟩ (yl_eql rfl rfl)) rfl (by decide) ?_
      refine H.q (yl_and rfl rfl) rfl rfl (by decide) ?_
      refine HN.done ?_
      refine HN.keep [(0, _), (1, _), (3, _), (6, _), (9, _), (11, _), (50, _)] ⟨rfl, rfl, rfl, rfl, rfl, rfl, rfl, trivial⟩ ?_
      refine HN.then ?_
      refine H.cond _ rfl (fun t2 => ?_) (fun t2 => ?_)
      · exfalso
        simp only [Bool.and_eq_true, decide_eq_true_eq] at t2
        have h1 : 0 < (rowsE rows).length := by rw [List.length_map]; omega
        have h2 := claims_ne hv1 h1
        apply h2
        rw [← hql]
        have : l = [] := List.length_eq_zero_iff.1 (by omega)
        rw [this]
        rfl
        done
      · skip
        refine H.keep [(0, _), (1, _), (3, _), (6, _), (9, _), (11, _)] ⟨rfl, rfl, rfl, rfl, rfl, rfl, trivial⟩ ?_
        refine HN.skip ?_
        refine HN.then ?_
        refine H.seq ?_
        refine H.seq ?_
        refine H.region ?_
        refine H.q (yl_assign rfl) rfl rfl (by decide) ?_
        refine HN.done ?_
        refine HN.keep [(0, _), (1, _), (3, _), (6, _), (9, _), (11, _), (12, _)] ⟨rfl, rfl, rfl, rfl, rfl, rfl, rfl, trivial⟩ ?_
        refine HN.then ?_
        refine H.block ?_
        refine H.loop (fun i : Nat => [(0, .int .i64 (vars : Int)), (1, .slice adr rows.length capr), (3, .int .i64 less), (6, .pointer (some ⟨b6, 0, none⟩)), (9, .pointer (some ⟨bm1, 0, none⟩)), (11, .slice adc l.length capc), (12, .int .i64 (i : Int))]) (fun i => i ≤ l.length) (fun _ => Hp w0 [minerB bm1 vars rvm1, (b23, ex (.cells #[.int .u8 x.kind, .int .i64 x.a, .int .i64 x.b, .int .i64 x.k, .int .i64 x.m, .slice ad x.set.length cap] 25)), (b6, ex (.cells #[.int .u8 x.kind, .int .i64 x.a, .int .i64 x.b, .int .i64 x.k, .int .i64 x.m, .slice ad x.set.length cap] 25))] (claimsRw (.slice adc l.length capc) l :: (setsR l ++ (minerRw rvm1 new1 :: (rowsR new1 ++ [])))) []) (fun i => l.length - i) 0 (Nat.zero_le _) ⟨rfl, rfl, rfl, rfl, rfl, rfl, rfl, trivial⟩ (fun w hw => hw) (fun i hi => ?_)
        refine H.seq ?_
        refine H.seq ?_
        refine H.region ?_
        refine H.q (yl_move rfl) rfl rfl (by decide) ?_
        refine H.q (yl_move rfl) rfl rfl (by decide) ?_
        refine H.q (yl_len rfl Tryz.underlying28 rfl) rfl rfl (by decide) ?_
        refine H.q (yl_lss rfl rfl) rfl rfl (by decide) ?_
        refine HN.done ?_
        refine HN.keep [(0, _), (1, _), (3, _), (6, _), (9, _), (11, _), (12, _), (54, _)] ⟨rfl, rfl, rfl, rfl, rfl, rfl, rfl, rfl, trivial⟩ ?_
        refine HN.then ?_
        refine H.cond _ rfl (fun t3 => ?_) (fun t3 => ?_)
        · replace t3 := of_decide_eq_true t3
          have hlti : i < l.length := by have : (i : Int) < l.length := t3; omega
          obtain ⟨hchk, hhold⟩ := hcok _ (List.getElem_mem hlti)
          have hint : ∀ w, Hp w0 [minerB bm1 vars rvm1, (b23, ex (.cells #[.int .u8 x.kind, .int .i64 x.a, .int .i64 x.b, .int .i64 x.k, .int .i64 x.m, .slice ad x.set.length cap] 25)), (b6, ex (.cells #[.int .u8 x.kind, .int .i64 x.a, .int .i64 x.b, .int .i64 x.k, .int .i64 x.m, .slice ad x.set.length cap] 25))] (claimsRw (.slice adc l.length capc) l :: (setsR l ++ (minerRw rvm1 new1 :: (rowsR new1 ++ [])))) [] w → IsInts w l[i].1 l[i].2.set := fun w hw => IsInts.of_row (hw.rows _ (List.mem_cons_of_mem _ (List.mem_append.2 (.inl (List.mem_map.2 ⟨l[i], List.getElem_mem hlti, rfl⟩)))))
          refine H.keep [(0, _), (1, _), (3, _), (6, _), (9, _), (11, _), (12, _)] ⟨rfl, rfl, rfl, rfl, rfl, rfl, rfl, trivial⟩ ?_
          refine HN.skip ?_
          refine HN.then ?_
          refine H.seq ?_
          refine H.block ?_
          refine H.seq ?_
          refine H.region ?_
          refine H.q (yl_move rfl) rfl rfl (by decide) ?_
          refine H.q (yl_move rfl) rfl rfl (by decide) ?_
          refine H.q (yl_move rfl) rfl rfl (by decide) ?_
          refine H.q (yl_index' i 6 Tryz.underlying28 Tryz.sizeOf25 (hadc i hlti) rfl rfl rfl hlti) rfl rfl (by decide) ?_
          refine H.q (yl_loadAgg (cellsI l[i]) Tryz.isAgg25 Tryz.sizeOf25 rfl (fun w (hw : Hp w0 [minerB bm1 vars rvm1, (b23, ex (.cells #[.int .u8 x.kind, .int .i64 x.a, .int .i64 x.b, .int .i64 x.k, .int .i64 x.m, .slice ad x.set.length cap] 25)), (b6, ex (.cells #[.int .u8 x.kind, .int .i64 x.a, .int .i64 x.b, .int .i64 x.k, .int .i64 x.m, .slice ad x.set.length cap] 25))] (claimsRw (.slice adc l.length capc) l :: (setsR l ++ (minerRw rvm1 new1 :: (rowsR new1 ++ [])))) [] w) => hcc w (hw.row 0 rfl) i hlti) rfl) rfl rfl (by decide) ?_
          refine H.q (yl_to (yl_call (xs := [.tmp 58, .tmp 62]) Tryz.call20 (stab_hp _ _ _ _) rfl (fun w hw => follows_any bm1 vars rvm1 new1 w (mined_tbl hq1 hok (by rw [List.length_map]; omega) (hw.blk 0 rfl) (hw.rows _ (List.mem_cons_of_mem _ (List.mem_append.2 (.inr (List.mem_cons_self ..))))) (fun r hr => hw.rows r (List.mem_cons_of_mem _ (List.mem_append.2 (.inr (List.mem_cons_of_mem _ (List.mem_append.2 (.inl hr)))))))) hv1 hv8 l[i].2 l[i].1 (hsl i hlti) (hint w hw))) (by rw [show rowsE new1 = (rowsE rows) from hq1, follow_ok hchk hhold])) rfl rfl (by decide) ?_
          refine H.q (yl_move rfl) rfl rfl (by decide) ?_
          refine H.q (yl_extract _ rfl rfl) rfl rfl (by decide) ?_
          refine H.q (yl_extract _ rfl rfl) rfl rfl (by decide) ?_
          refine H.q (yl_assign rfl) rfl rfl (by decide) ?_
          refine H.q (yl_assign rfl) rfl rfl (by decide) ?_
          refine HN.done ?_
          refine HN.keep [(0, _), (1, _), (3, _), (6, _), (9, _), (11, _), (12, _), (13, _), (14, _)] ⟨rfl, rfl, rfl, rfl, rfl, rfl, rfl, rfl, rfl, trivial⟩ ?_
          refine HN.then ?_
          refine H.seq ?_
          refine H.seq ?_
          refine H.region ?_
          refine H.q (yl_move rfl) rfl rfl (by decide) ?_
          refine H.q (yl_neq rfl rfl) rfl rfl (by decide) ?_
          refine H.q (yl_move rfl) rfl rfl (by decide) ?_
          refine H.qg (wn_f rfl rfl (by decide) rfl) (fun hg => yl_sub [(13, _)] ⟨rfl, trivial⟩ (yl_move rfl)) rfl (by decide) ?_
          refine H.qg (wn_f rfl rfl (by decide) rfl) (fun hg => yl_sub [(69, _)] ⟨slT rfl hg, trivial⟩ (yl_not rfl)) rfl (by decide) ?_
          refine H.q (yl_or rfl rfl) rfl rfl (by decide) ?_
          refine H.q (yl_move rfl) rfl rfl (by decide) ?_
          refine H.qg (wn_f rfl rfl (by decide) rfl) (fun hg => yl_sub [(11, _)] ⟨rfl, trivial⟩ (yl_move rfl)) rfl (by decide) ?_
          refine H.qg (wn_f rfl rfl (by decide) rfl) (fun hg => yl_sub [(12, _)] ⟨rfl, trivial⟩ (yl_move rfl)) rfl (by decide) ?_
          refine H.qg (wn_f rfl rfl (by decide) rfl) (fun hg => yl_sub [(73, _), (74, _)] ⟨slT rfl hg, slT rfl hg, trivial⟩ (yl_index' i 6 Tryz.underlying28 Tryz.sizeOf25 (hadc i hlti) rfl rfl rfl hlti)) rfl (by decide) ?_
          refine H.qg (wn_f rfl rfl (by decide) rfl) (fun hg => yl_sub [(75, _)] ⟨slT rfl hg, trivial⟩ (yl_loadAgg (cellsI l[i]) Tryz.isAgg25 Tryz.sizeOf25 rfl (fun w (hw : Hp w0 [minerB bm1 vars rvm1, (b23, ex (.cells #[.int .u8 x.kind, .int .i64 x.a, .int .i64 x.b, .int .i64 x.k, .int .i64 x.m, .slice ad x.set.length cap] 25)), (b6, ex (.cells #[.int .u8 x.kind, .int .i64 x.a, .int .i64 x.b, .int .i64 x.k, .int .i64 x.m, .slice ad x.set.length cap] 25))] (claimsRw (.slice adc l.length capc) l :: (setsR l ++ (minerRw rvm1 new1 :: (rowsR new1 ++ [])))) [] w) => hcc w (hw.row 0 rfl) i hlti) rfl)) rfl (by decide) ?_
          refine H.qg (wn_f rfl rfl (by decide) rfl) (fun hg => yl_sub [(0, _)] ⟨rfl, trivial⟩ (yl_move rfl)) rfl (by decide) ?_
          refine H.qg (wn_f rfl rfl (by decide) rfl) (fun hg => yl_sub [(76, _), (77, _)] ⟨slT rfl hg, slT rfl hg, trivial⟩ (yl_to (yl_call (xs := [.tmp 76, .tmp 77]) Tryz.call28 (stab_hp _ _ _ _) rfl (fun w hw => check_any (vars : Int) l[i].2 l[i].1 w (hsl i hlti) (hint w hw))) (by rw [hchk]))) rfl (by decide) ?_
          refine H.qg (wn_f rfl rfl (by decide) rfl) (fun hg => yl_sub [(78, _)] ⟨slT rfl hg, trivial⟩ (yl_neq rfl rfl)) rfl (by decide) ?_
          refine H.q (yl_or rfl rfl) rfl rfl (by decide) ?_
          refine HN.done ?_
          refine HN.keep [(0, _), (1, _), (3, _), (6, _), (9, _), (11, _), (12, _), (80, _)] ⟨rfl, rfl, rfl, rfl, rfl, rfl, rfl, rfl, trivial⟩ ?_
          refine HN.then ?_
          refine H.cond _ rfl (fun t4 => ?_) (fun t4 => ?_)
          · simp at t4
            done
          · skip
            refine H.keep [(0, _), (1, _), (3, _), (6, _), (9, _), (11, _), (12, _)] ⟨rfl, rfl, rfl, rfl, rfl, rfl, rfl, trivial⟩ ?_
            refine HN.skip ?_
            refine HN.then ?_
            refine H.seq ?_
            refine H.region ?_
            refine H.q (yl_assign rfl) rfl rfl (by decide) ?_
            refine HN.done ?_
            refine HN.keep [(0, _), (1, _), (3, _), (6, _), (9, _), (11, _), (12, _), (15, _)] ⟨rfl, rfl, rfl, rfl, rfl, rfl, rfl, rfl, trivial⟩ ?_
            refine HN.then ?_
            refine H.block ?_
            refine H.loop (fun k : Nat => [(0, .int .i64 (vars : Int)), (1, .slice adr rows.length capr), (3, .int .i64 less), (6, .pointer (some ⟨b6, 0, none⟩)), (9, .pointer (some ⟨bm1, 0, none⟩)), (11, .slice adc l.length capc), (12, .int .i64 (i : Int)), (15, .int .i64 (k : Int))]) (fun k => k ≤ rows.length) (fun _ => Hp w0 [minerB bm1 vars rvm1, (b23, ex (.cells #[.int .u8 x.kind, .int .i64 x.a, .int .i64 x.b, .int .i64 x.k, .int .i64 x.m, .slice ad x.set.length cap] 25)), (b6, ex (.cells #[.int .u8 x.kind, .int .i64 x.a, .int .i64 x.b, .int .i64 x.k, .int .i64 x.m, .slice ad x.set.length cap] 25))] (claimsRw (.slice adc l.length capc) l :: (setsR l ++ (minerRw rvm1 new1 :: (rowsR new1 ++ [])))) []) (fun k => rows.length - k) 0 (Nat.zero_le _) ⟨rfl, rfl, rfl, rfl, rfl, rfl, rfl, rfl, trivial⟩ (fun w hw => hw) (fun k hk => ?_)
            refine H.seq ?_
            refine H.seq ?_
            refine H.region ?_
            refine H.q (yl_move rfl) rfl rfl (by decide) ?_
            refine H.q (yl_move rfl) rfl rfl (by decide) ?_
            refine H.q (yl_len rfl Tryz.underlying37 rfl) rfl rfl (by decide) ?_
            refine H.q (yl_lss rfl rfl) rfl rfl (by decide) ?_
            refine HN.done ?_
            refine HN.keep [(0, _), (1, _), (3, _), (6, _), (9, _), (11, _), (12, _), (15, _), (84, _)] ⟨rfl, rfl, rfl, rfl, rfl, rfl, rfl, rfl, rfl, trivial⟩ ?_
            refine HN.then ?_
            refine H.cond _ rfl (fun t5 => ?_) (fun t5 => ?_)
            · replace t5 := of_decide_eq_true t5
              have hltk : k < rows.length := by have : (k : Int) < rows.length := t5; omega
              have hkr := hok rows[k].2 (List.mem_map.2 ⟨rows[k], List.getElem_mem hltk, rfl⟩)
              have hkh := hhold rows[k].2 (List.mem_map.2 ⟨rows[k], List.getElem_mem hltk, rfl⟩)
              refine H.keep [(0, _), (1, _), (3, _), (6, _), (9, _), (11, _), (12, _), (15, _)] ⟨rfl, rfl, rfl, rfl, rfl, rfl, rfl, rfl, trivial⟩ ?_
              refine HN.skip ?_
              refine HN.then ?_
              refine H.seq ?_
              refine H.block ?_
              refine H.seq ?_
              refine H.regionQ Tryz.mixed (by kernel_rfl) (stab_hp _ _ _ _) ?_
              refine G.q (yl_move rfl) rfl rfl (by decide) ?_
              refine G.q (yl_move rfl) rfl rfl (by decide) ?_
              refine G.q (yl_index' i 6 Tryz.underlying28 Tryz.sizeOf25 (hadc i hlti) rfl rfl rfl hlti) rfl rfl (by decide) ?_
              refine G.q (yl_loadAgg (cellsI l[i]) Tryz.isAgg25 Tryz.sizeOf25 rfl (fun w (hw : Hp w0 [minerB bm1 vars rvm1, (b23, ex (.cells #[.int .u8 x.kind, .int .i64 x.a, .int .i64 x.b, .int .i64 x.k, .int .i64 x.m, .slice ad x.set.length cap] 25)), (b6, ex (.cells #[.int .u8 x.kind, .int .i64 x.a, .int .i64 x.b, .int .i64 x.k, .int .i64 x.m, .slice ad x.set.length cap] 25))] (claimsRw (.slice adc l.length capc) l :: (setsR l ++ (minerRw rvm1 new1 :: (rowsR new1 ++ [])))) [] w) => hcc w (hw.row 0 rfl) i hlti) rfl) rfl rfl (by decide) ?_
              refine G.q (yl_move rfl) rfl rfl (by decide) ?_
              refine G.q (yl_move rfl) rfl rfl (by decide) ?_
              refine G.q (yl_ix k Tryz.underlying37 Tryz.sizeOf23 (hsr k hltk).1 rfl rfl rfl hltk) rfl rfl (by decide) ?_
              refine G.q (yl_load Tryz.isAgg23 rfl (fun w hw => cell_ext hw.ext (hsr k hltk).2.1)) rfl rfl (by decide) ?_
              refine G.q (yl_to (yl_call (xs := [.tmp 91, .tmp 95]) Tryz.call29 (stab_hp _ _ _ _) rfl (fun w hw => holdE_any l[i].2 l[i].1 w (hsl i hlti) (hint w hw) rows[k].2 rows[k].1 (by rw [hkr.1]; omega) ((hsr k hltk).2.2.ext hw.ext))) (by rw [hold_ok hkr.1 hkr.2 hchk hkh])) rfl rfl (by decide) ?_
              refine G.q (yl_move rfl) rfl rfl (by decide) ?_
              refine G.q (yl_extract _ rfl rfl) rfl rfl (by decide) ?_
              refine G.q (yl_extract _ rfl rfl) rfl rfl (by decide) ?_
              refine G.q (yl_assign rfl) rfl rfl (by decide) ?_
              refine G.q (yl_assign rfl) rfl rfl (by decide) ?_
              refine HN.doneG ?_
              refine HN.keep [(0, _), (1, _), (3, _), (6, _), (9, _), (11, _), (12, _), (13, _), (14, _), (15, _)] ⟨rfl, rfl, rfl, rfl, rfl, rfl, rfl, rfl, rfl, rfl, trivial⟩ ?_
              refine HN.then ?_
              refine H.seq ?_
              refine H.region ?_
              refine H.q (yl_move rfl) rfl rfl (by decide) ?_
              refine H.q (yl_neq rfl rfl) rfl rfl (by decide) ?_
              refine H.q (yl_move rfl) rfl rfl (by decide) ?_
              refine H.qg (wn_f rfl rfl (by decide) rfl) (fun hg => yl_sub [(13, _)] ⟨rfl, trivial⟩ (yl_move rfl)) rfl (by decide) ?_
              refine H.qg (wn_f rfl rfl (by decide) rfl) (fun hg => yl_sub [(102, _)] ⟨slT rfl hg, trivial⟩ (yl_not rfl)) rfl (by decide) ?_
              refine H.q (yl_or rfl rfl) rfl rfl (by decide) ?_
              refine HN.done ?_
              refine HN.keep [(0, _), (1, _), (3, _), (6, _), (9, _), (11, _), (12, _), (15, _), (104, _)] ⟨rfl, rfl, rfl, rfl, rfl, rfl, rfl, rfl, rfl, trivial⟩ ?_
              refine HN.then ?_
              refine H.cond _ rfl (fun t6 => ?_) (fun t6 => ?_)
              · simp at t6
                done
              · skip
                refine H.keep [(0, _), (1, _), (3, _), (6, _), (9, _), (11, _), (12, _), (15, _)] ⟨rfl, rfl, rfl, rfl, rfl, rfl, rfl, rfl, trivial⟩ ?_
                refine HN.skip ?_
                refine HN.block ?_
                refine HN.then ?_
                refine H.region ?_
                refine H.q (yl_move rfl) rfl rfl (by decide) ?_
                refine H.q (yl_add rfl rfl ((k : Int) + 1) rfl (by omega)) rfl rfl (by decide) ?_
                refine H.q (yl_assign rfl) rfl rfl (by decide) ?_
                refine HN.done ?_
                refine HN.keep [(0, _), (1, _), (3, _), (6, _), (9, _), (11, _), (12, _), (15, _)] ⟨rfl, rfl, rfl, rfl, rfl, rfl, rfl, rfl, trivial⟩ ?_
                refine HN.then ?_
                exact H.at (k + 1) ⟨by omega, by omega⟩ ⟨rfl, rfl, rfl, rfl, rfl, rfl, rfl, rfl, trivial⟩ (fun w hw => hw)
            · skip
              refine H.keep [(0, _), (1, _), (3, _), (6, _), (9, _), (11, _), (12, _)] ⟨rfl, rfl, rfl, rfl, rfl, rfl, rfl, trivial⟩ ?_
              refine HX.exit ?_
              refine HX.then ?_
              refine HX.then ?_
              refine HX.hit ?_
              refine HN.block ?_
              refine HN.then ?_
              refine H.region ?_
              refine H.q (yl_move rfl) rfl rfl (by decide) ?_
              refine H.q (yl_add rfl rfl ((i : Int) + 1) rfl (by have := hl100; omega)) rfl rfl (by decide) ?_
              refine H.q (yl_assign rfl) rfl rfl (by decide) ?_
              refine HN.done ?_
              refine HN.keep [(0, _), (1, _), (3, _), (6, _), (9, _), (11, _), (12, _)] ⟨rfl, rfl, rfl, rfl, rfl, rfl, rfl, trivial⟩ ?_
              refine HN.then ?_
              exact H.at (i + 1) ⟨by omega, by omega⟩ ⟨rfl, rfl, rfl, rfl, rfl, rfl, rfl, trivial⟩ (fun w hw => hw)
        · skip
          refine H.keep [(0, _), (1, _), (3, _), (6, _), (9, _)] ⟨rfl, rfl, rfl, rfl, rfl, trivial⟩ ?_
          refine HX.exit ?_
          refine HX.then ?_
          refine HX.then ?_
          refine HX.hit ?_
          refine HN.then ?_
          refine H.seq ?_
          refine H.region ?_
          refine H.q (yl_move rfl) rfl rfl (by decide) ?_
          refine H.q (yl_len rfl Tryz.underlying37 rfl) rfl rfl (by decide) ?_
          refine H.q (yl_add rfl rfl ((rows.length : Int) + 1) rfl (by omega)) rfl rfl (by decide) ?_
          refine H.q (yl_assign rfl) rfl rfl (by decide) ?_
          refine HN.done ?_
          refine HN.keep [(0, _), (1, _), (3, _), (6, _), (9, _), (16, _)] ⟨rfl, rfl, rfl, rfl, rfl, rfl, trivial⟩ ?_
          have hN : (0 : Int) < (rows.length : Int) + 1 := by omega
          have hT := turn_bounds (x := less) hN
          have hT1 := Int.tmod_lt_of_pos less hN
          have hT2 := Int.lt_tmod_of_pos less hN
          refine HN.then ?_
          refine H.seq ?_
          refine H.region ?_
          refine H.q (yl_move rfl) rfl rfl (by decide) ?_
          refine H.q (yl_move rfl) rfl rfl (by decide) ?_
          refine H.q (yl_rem rfl rfl (by omega)) rfl rfl (by decide) ?_
          refine H.q (yl_move rfl) rfl rfl (by decide) ?_
          refine H.q (yl_add rfl rfl _ rfl (by omega)) rfl rfl (by decide) ?_
          refine H.q (yl_move rfl) rfl rfl (by decide) ?_
          refine H.q (yl_rem rfl rfl (by omega)) rfl rfl (by decide) ?_
          refine H.q (yl_assign rfl) rfl rfl (by decide) ?_
          refine HN.done ?_
          refine HN.keep [(0, _), (1, _), (3, _), (6, _), (9, _)] ⟨rfl, rfl, rfl, rfl, rfl, trivial⟩ ?_
          refine HN.then ?_
          refine H.seq ?_
          obtain ⟨i0, hi0⟩ : ∃ i0 : Nat, (less.tmod ((rows.length : Int) + 1) + ((rows.length : Int) + 1)).tmod ((rows.length : Int) + 1) = (i0 : Int) := ⟨((less.tmod ((rows.length : Int) + 1) + ((rows.length : Int) + 1)).tmod ((rows.length : Int) + 1)).toNat, by omega⟩
          rw [hi0]
          have hi0l : i0 ≤ rows.length := by omega
          have hrow2 : ∀ r ∈ rowsE (rows.drop i0), rowE r (vars : Int) = 0 := fun r hr => by
            obtain ⟨p, hp, rfl⟩ := List.mem_map.1 hr
            exact hrok p.2 (List.mem_map.2 ⟨p, List.mem_of_mem_drop hp, rfl⟩)
          have hok2 : Okr (rowsE (rows.drop i0)) vars := okr_of hrow2
          refine H.region ?_
          refine H.q (yl_move rfl) rfl rfl (by decide) ?_
          refine H.q (yl_move rfl) rfl rfl (by decide) ?_
          refine H.q (yl_move rfl) rfl rfl (by decide) ?_
          refine H.q (yl_slfrom i0 Tryz.underlying37 Tryz.sizeOf23 rfl rfl rfl hi0l) rfl rfl (by decide) ?_
          refine H.callX (α := Nat × Value × List (Value × List Int)) (xs := [.tmp 116, .tmp 119]) (fun q => .tuple #[.pointer (some ⟨q.1, 0, none⟩), .bool true]) (fun q => q.2.2.map (·.2) = rowsE (rows.drop i0)) (fun q => Hp w0 (minerB q.1 vars q.2.1 :: [minerB bm1 vars rvm1, (b23, ex (.cells #[.int .u8 x.kind, .int .i64 x.a, .int .i64 x.b, .int .i64 x.k, .int .i64 x.m, .slice ad x.set.length cap] 25)), (b6, ex (.cells #[.int .u8 x.kind, .int .i64 x.a, .int .i64 x.b, .int .i64 x.k, .int .i64 x.m, .slice ad x.set.length cap] 25))]) (minerRw q.2.1 q.2.2 :: (rowsR q.2.2 ++ (claimsRw (.slice adc l.length capc) l :: (setsR l ++ (minerRw rvm1 new1 :: (rowsR new1 ++ [])))))) []) Tryz.call27 rfl (by decide) (fun w hw => (mined_any vars (rows.drop i0) _ w hv1 hv8 (by rw [List.length_drop]; omega) hrow2 (rows_from (hrv.ext hw.ext) i0 hi0l)).mono fun e w' h => by obtain ⟨bm, rv', new, h1, h2, h3⟩ := h; exact ⟨(bm, rv', new), h1, h2, by have := hw.join h3; rw [List.cons_append] at this; exact this⟩) (fun q hq2 => ?_)
          obtain ⟨bm2, rvm2, new2⟩ := q
          simp only at hq2
          refine H.q (yl_move rfl) rfl rfl (by decide) ?_
          refine H.q (yl_extract _ rfl rfl) rfl rfl (by decide) ?_
          refine H.q (yl_extract _ rfl rfl) rfl rfl (by decide) ?_
          refine H.q (yl_assign rfl) rfl rfl (by decide) ?_
          refine H.q (yl_assign rfl) rfl rfl (by decide) ?_
          refine HN.done ?_
          refine HN.keep [(6, _), (9, _), (10, _), (17, _)] ⟨rfl, rfl, rfl, rfl, trivial⟩ ?_
          refine HN.then ?_
          refine H.seq ?_
          refine H.seq ?_
          refine H.region ?_
          refine H.q (yl_move rfl) rfl rfl (by decide) ?_
          refine H.q (yl_not rfl) rfl rfl (by decide) ?_
          refine HN.done ?_
          refine HN.keep [(6, _), (9, _), (17, _), (124, _)] ⟨rfl, rfl, rfl, rfl, trivial⟩ ?_
          refine HN.then ?_
          refine H.cond _ rfl (fun t7 => ?_) (fun t7 => ?_)
          · cases t7
            done
          · skip
            refine H.keep [(6, _), (9, _), (17, _)] ⟨rfl, rfl, rfl, trivial⟩ ?_
            refine HN.skip ?_
            refine HN.then ?_
            refine H.seq ?_
            refine H.region ?_
            refine H.q (yl_move rfl) rfl rfl (by decide) ?_
            refine H.q (yl_loadAgg _ Tryz.isAgg25 Tryz.sizeOf25 rfl (fun w hw => cells_of_blk (hw.blk 3 rfl)) rfl) rfl rfl (by decide) ?_
            refine H.q (yl_to (yl_call (xs := [.tmp 126, .tmp 127]) Tryz.call20 (stab_hp _ _ _ _) rfl (fun w hw => follows_any bm1 vars rvm1 new1 w (mined_tbl hq1 hok (by rw [List.length_map]; omega) (hw.blk 1 rfl) (hw.rows _ (List.mem_cons_of_mem _ (List.mem_append.2 (.inr (List.mem_cons_of_mem _ (List.mem_append.2 (.inr (List.mem_cons_self ..)))))))) (fun r hr => hw.rows r (List.mem_cons_of_mem _ (List.mem_append.2 (.inr (List.mem_cons_of_mem _ (List.mem_append.2 (.inr (List.mem_cons_of_mem _ (List.mem_append.2 (.inl hr))))))))))) hv1 hv8 x (.slice ad x.set.length cap) (by omega) (hv.ext hw.ext))) (by rw [show rowsE new1 = rowsE rows from hq1])) rfl rfl (by decide) ?_
            refine H.q (yl_move rfl) rfl rfl (by decide) ?_
            refine H.q (yl_extract _ rfl rfl) rfl rfl (by decide) ?_
            refine H.q (yl_extract _ rfl rfl) rfl rfl (by decide) ?_
            refine H.q (yl_assign rfl) rfl rfl (by decide) ?_
            refine H.q (yl_assign rfl) rfl rfl (by decide) ?_
            refine HN.done ?_
            refine HN.keep [(6, _), (17, _), (18, _), (19, _)] ⟨rfl, rfl, rfl, rfl, trivial⟩ ?_
            refine HN.then ?_
            refine H.seq ?_
            refine H.region ?_
            refine H.q (yl_move rfl) rfl rfl (by decide) ?_
            refine H.q (yl_loadAgg _ Tryz.isAgg25 Tryz.sizeOf25 rfl (fun w hw => cells_of_blk (hw.blk 3 rfl)) rfl) rfl rfl (by decide) ?_
            refine H.q (yl_to (yl_call (xs := [.tmp 132, .tmp 133]) Tryz.call20 (stab_hp _ _ _ _) rfl (fun w hw => follows_any bm2 vars rvm2 new2 w (mined_tbl hq2 hok2 (by rw [List.length_map, List.length_drop]; omega) (hw.blk 0 rfl) (hw.row 0 rfl) (fun r hr => hw.rows r (List.mem_cons_of_mem _ (List.mem_append.2 (.inl hr))))) hv1 hv8 x (.slice ad x.set.length cap) (by omega) (hv.ext hw.ext))) (by rw [show rowsE new2 = rowsE (rows.drop i0) from hq2])) rfl rfl (by decide) ?_
            refine H.q (yl_move rfl) rfl rfl (by decide) ?_
            refine H.q (yl_extract _ rfl rfl) rfl rfl (by decide) ?_
            refine H.q (yl_extract _ rfl rfl) rfl rfl (by decide) ?_
            refine H.q (yl_assign rfl) rfl rfl (by decide) ?_
            refine H.q (yl_assign rfl) rfl rfl (by decide) ?_
            refine HN.done ?_
            refine HN.keep [(18, _), (19, _), (20, _), (21, _)] ⟨rfl, rfl, rfl, rfl, trivial⟩ ?_
            refine HN.then ?_
            refine H.seq ?_
            refine H.region ?_
            refine H.q (yl_move rfl) rfl rfl (by decide) ?_
            refine H.q (yl_move rfl) rfl rfl (by decide) ?_
            refine H.q (yl_eql rfl rfl) rfl rfl (by decide) ?_
            refine H.q (yl_move rfl) rfl rfl (by decide) ?_
            refine H.qg (wn_t rfl rfl (by decide) rfl) (fun hg => yl_sub [(18, _)] ⟨rfl, trivial⟩ (yl_move rfl)) rfl (by decide) ?_
            refine H.qg (wn_t rfl rfl (by decide) rfl) (fun hg => yl_sub [(141, _)] ⟨slT rfl hg, trivial⟩ (yl_not rfl)) rfl (by decide) ?_
            refine H.qg (wn_t rfl rfl (by decide) rfl) (fun hg => yl_sub [(142, _)] ⟨slT rfl hg, trivial⟩ (yl_move rfl)) rfl (by decide) ?_
            refine H.qg (wn_gf rfl rfl (by decide) rfl) (fun hg => yl_sub [(20, _)] ⟨rfl, trivial⟩ (yl_move rfl)) rfl (by decide) ?_
            refine H.qg (wn_t rfl rfl (by decide) rfl) (fun hg => yl_sub [(143, _), (144, _)] ⟨slT rfl hg, slA rfl hg, trivial⟩ (yl_or rfl rfl)) rfl (by decide) ?_
            refine H.q (yl_and rfl rfl) rfl rfl (by decide) ?_
            refine H.q (yl_move rfl) rfl rfl (by decide) ?_
            refine H.qg (wn_t rfl rfl (by decide) rfl) (fun hg => yl_call (xs := []) Tryz.call11 (stab_hp _ _ _ _) rfl (fun w hw => learns_any w (hvars.ext hw.ext))) rfl (by decide) ?_
            refine H.q (yl_and rfl rfl) rfl rfl (by decide) ?_
            refine H.q (yl_assign rfl) rfl rfl (by decide) ?_
            refine HN.done ?_
            refine HN.keep [(8, _)] ⟨rfl, trivial⟩ ?_
            refine HN.then ?_
            refine HR.ret ?_
            refine HR.ret1 _ Tryz.results7 rfl (fun w hw => ?_)
            refine ⟨?_, hw.ext⟩
            obtain ⟨e1, e2⟩ := follow_sub (vars := vars) (x := x) (rows := rowsE rows) (rows' := rowsE (rows.drop i0)) (fun r hr => by obtain ⟨p, hp, rfl⟩ := List.mem_map.1 hr; exact List.mem_map.2 ⟨p, List.mem_of_mem_drop hp, rfl⟩)
            rw [e1]
            cases hh : (followE x vars (rowsE rows)).1 with
            | false => simp
            | true => rw [e2 hh]; simp

end Go.Proofs.YtgbgddmbooaddaaGreatDoor

namespace Go.Proofs.YtgbgddmbooaddaaGreatDoor
open Go.RowKit

/-- What the law counts: bounds that were told, and the divisor. -/
def scan1 (v : Int) (s : Int × Int) (x : Inv) : Int × Int :=
  if x.a ≠ v then s else if x.kind = 1 then (s.1 + 2, s.2) else if x.kind = 3 then (s.1 + 1, s.2) else if x.kind = 4 then (s.1 + 1, s.2) else if x.kind = 6 then (s.1, x.m) else s
def scanE (v : Int) (l : List Inv) : Int × Int := l.foldl (scan1 v) (0, 0)
/-- A claim about v says what the law wants. -/
def wantB (v low high : Int) (x : Inv) : Prop := x.a = v → (x.kind = 1 → low = high ∧ x.k = low) ∧ (x.kind = 3 → low ≠ high ∧ x.k = low) ∧ (x.kind = 4 → low ≠ high ∧ x.k = high)
theorem scan_snoc (v : Int) (l : List Inv) (x : Inv) : scanE v (l ++ [x]) = scan1 v (scanE v l) x := by simp [scanE, List.foldl_append]
theorem scan1_ge (v : Int) (s : Int × Int) (x : Inv) : s.1 ≤ (scan1 v s x).1 := by
  unfold scan1
  repeat' split
  all_goals first | exact Int.le_refl _ | (simp only []; omega)
theorem fold_ge (v : Int) : ∀ (l : List Inv) (s : Int × Int), s.1 ≤ (l.foldl (scan1 v) s).1
  | [], s => Int.le_refl _
  | x :: l, s => Int.le_trans (scan1_ge v s x) (fold_ge v l _)
theorem scan_take (v : Int) (l : List Inv) (i : Nat) : (scanE v (l.take i)).1 ≤ (scanE v l).1 ∧ 0 ≤ (scanE v (l.take i)).1 := by
  refine ⟨?_, fold_ge v (l.take i) (0, 0)⟩
  have : scanE v l = (l.drop i).foldl (scan1 v) (scanE v (l.take i)) := by
    unfold scanE
    rw [← List.foldl_append, List.take_append_drop]
  rw [this]
  exact fold_ge v _ _
theorem fold_skip {v : Int} : ∀ {l : List Inv} (s : Int × Int), (∀ x ∈ l, x.a ≠ v ∨ 7 ≤ x.kind) → l.foldl (scan1 v) s = s
  | [], s, _ => rfl
  | x :: l, s, h => by
    have e : scan1 v s x = s := by
      rcases h x (by simp) with h1 | h1
      · unfold scan1; rw [if_pos h1]
      · unfold scan1
        split
        · rfl
        rw [if_neg (by omega), if_neg (by omega), if_neg (by omega), if_neg (by omega)]
    rw [List.foldl_cons, e]
    exact fold_skip s fun y hy => h y (List.mem_cons_of_mem _ hy)
theorem order_kind {pts : List (Int × Int)} {ca cb : List Int} {a b : Int} : ∀ x ∈ orderE pts ca cb a b, 7 ≤ x.kind := by
  intro x hx
  unfold orderE at hx
  repeat' split at hx
  all_goals first | (simp at hx; done) | (rw [List.mem_singleton] at hx; subst hx; simp)
theorem couple_kind {rows : List (List Int)} {ca cb : List Int} {a b : Nat} : ∀ x ∈ coupleE rows ca cb a b, 7 ≤ x.kind := by
  intro x hx
  unfold coupleE at hx
  split at hx
  · rw [List.mem_singleton] at hx; subst hx; simp
  · rcases List.mem_append.1 hx with hx | hx
    · exact order_kind x hx
    · split at hx
      · cases hx
      · split at hx
        · rename_i y hy
          rw [List.mem_singleton] at hx
          subst hx
          have := (linE_kind hy).1
          omega
        · split at hx
          · rename_i y hy
            rw [List.mem_singleton] at hx
            subst hx
            have := (linE_kind hy).1
            omega
          · cases hx
theorem pairs_kind {rows : List (List Int)} {vars : Nat} : ∀ x ∈ (List.range vars).flatMap (fun a => pairA rows vars a), 7 ≤ x.kind := by
  intro x hx
  obtain ⟨a, _, hx⟩ := List.mem_flatMap.1 hx
  obtain ⟨b, _, hx⟩ := List.mem_flatMap.1 hx
  unfold pairE at hx
  split at hx
  · exact couple_kind x hx
  · cases hx
theorem aloneE_a {c : List Int} {a : Int} : ∀ x ∈ aloneE c a, x.a = a := by
  intro x hx
  unfold aloneE at hx
  split at hx
  · rw [List.mem_singleton] at hx; subst hx; rfl
  · simp only [List.mem_append, List.mem_cons, List.not_mem_nil, or_false] at hx
    rcases hx with (((rfl | rfl) | hx) | hx) | hx
    · rfl
    · rfl
    · split at hx
      · rw [List.mem_singleton] at hx; subst hx; rfl
      · cases hx
    · split at hx
      · rw [List.mem_singleton] at hx; subst hx; rfl
      · cases hx
    · split at hx
      · cases hx
      · split at hx
        · rw [List.mem_singleton] at hx; subst hx; rfl
        · cases hx
/-- The divisor that is told; 0: none. -/
def stepT (c : List Int) : Int := if (c.length : Int) ≤ 3 then 0 else if (decide (2 ≤ stepE c (c.length - 1)) && decide (stepE c (c.length - 1) ≤ 2147483647)) = true then stepE c (c.length - 1) else 0
theorem scan_alone (c : List Int) (v : Int) (hc : 0 < c.length) : (aloneE c v).foldl (scan1 v) (0, 0) = (2, stepT c) := by
  unfold aloneE
  by_cases h1 : (c.length : Int) = 1
  · rw [if_pos h1]
    have : stepT c = 0 := if_pos (by omega)
    rw [this]
    simp [scan1]
  · rw [if_neg h1, List.foldl_append, List.foldl_append, List.foldl_append]
    have e1 : [(⟨3, v, 0, loE c, 0, []⟩ : Inv), ⟨4, v, 0, hiE c, 0, []⟩].foldl (scan1 v) (0, 0) = (2, 0) := by simp [scan1]
    rw [e1]
    have e2 : ∀ s, (if (c.length : Int) ≤ 3 then [(⟨2, v, 0, 0, 0, c⟩ : Inv)] else []).foldl (scan1 v) s = s := fun s => by
      split <;> simp [scan1]
    have e3 : ∀ s, (if ((!c.any (fun y => decide (0 = y)) && decide (loE c < 0)) && decide (0 < hiE c)) = true then [(⟨5, v, 0, 0, 0, []⟩ : Inv)] else []).foldl (scan1 v) s = s := fun s => by
      split <;> simp [scan1]
    rw [e2, e3]
    unfold stepT
    split
    · rfl
    · split
      · simp [scan1]
      · rfl
theorem scan_claims {rows : List (List Int)} {vars v : Nat} (hv : v < vars) (h0 : 0 < rows.length) : scanE v (claimsE rows vars 1) = (2, stepT (factsE rows v)) := by
  rw [claimsE_eq (by omega)]
  unfold scanE claimsA aloneA
  rw [List.foldl_append, fold_skip _ (fun x hx => .inr (pairs_kind x hx))]
  have hsplit : List.range vars = List.range v ++ v :: ((List.range (vars - v - 1)).map (· + (v + 1))) := by
    have h1 : vars = v + (1 + (vars - v - 1)) := by omega
    rw [h1, List.range_add, List.range_add]
    have h2 : v + (1 + (vars - v - 1)) - v - 1 = vars - v - 1 := by omega
    rw [h2]
    simp [List.map_append, List.map_map, Function.comp_def]
    intro a _
    omega
  rw [hsplit, List.flatMap_append, List.flatMap_cons, List.foldl_append, List.foldl_append]
  have f1 : ((List.range v).flatMap fun a => aloneE (factsE rows a) a).foldl (scan1 v) (0, 0) = (0, 0) := fold_skip _ (fun x hx => .inl (by
    obtain ⟨a, ha, hx⟩ := List.mem_flatMap.1 hx
    rw [List.mem_range] at ha
    rw [aloneE_a x hx]
    omega))
  rw [f1, scan_alone _ _ (facts_pos h0 v)]
  exact fold_skip _ (fun x hx => .inl (by
    obtain ⟨a, ha, hx⟩ := List.mem_flatMap.1 hx
    obtain ⟨b, _, rfl⟩ := List.mem_map.1 ha
    rw [aloneE_a x hx]
    omega))
theorem want_alone (c : List Int) (v : Int) (h : Asc c) (hc : 0 < c.length) : ∀ x ∈ aloneE c v, wantB v (loE c) (hiE c) x := by
  have hne : ¬ (c.length : Int) = 1 → loE c ≠ hiE c := fun h1 => by
    have hlt : loE c < hiE c := by
      have := List.pairwise_iff_getElem.1 h 0 (c.length - 1) hc (by omega) (by omega)
      simpa [loE, hiE, List.getD, hc, show c.length - 1 < c.length by omega] using this
    omega
  intro x hx
  unfold aloneE at hx
  split at hx
  · rename_i h1
    rw [List.mem_singleton] at hx; subst hx
    intro _
    have : hiE c = loE c := by unfold hiE loE; rw [show c.length - 1 = 0 by omega]
    simp [this]
  · rename_i h1
    have hn := hne h1
    simp only [List.mem_append, List.mem_cons, List.not_mem_nil, or_false] at hx
    rcases hx with (((rfl | rfl) | hx) | hx) | hx
    · intro _; simp [hn]
    · intro _; simp [hn]
    · split at hx
      · rw [List.mem_singleton] at hx; subst hx; intro _; simp
      · cases hx
    · split at hx
      · rw [List.mem_singleton] at hx; subst hx; intro _; simp
      · cases hx
    · split at hx
      · cases hx
      · split at hx
        · rw [List.mem_singleton] at hx; subst hx; intro _; simp
        · cases hx
theorem want_claims {rows : List (List Int)} {vars v : Nat} (h0 : 0 < rows.length) : ∀ x ∈ claimsE rows vars 1, wantB v (loE (factsE rows v)) (hiE (factsE rows v)) x := by
  intro x hx
  rw [claimsE_eq (by omega)] at hx
  rcases List.mem_append.1 hx with hx | hx
  · obtain ⟨a, _, hx⟩ := List.mem_flatMap.1 hx
    by_cases hav : a = v
    · subst hav
      exact want_alone _ _ (facts_lt rows a) (facts_pos h0 a) x hx
    · intro hxa
      rw [aloneE_a x hx] at hxa
      omega
  · have := pairs_kind x hx
    intro _
    exact ⟨fun h => by omega, fun h => by omega, fun h => by omega⟩
/-- Nothing narrower: neither twice the divisor .. -/
theorem no_double {rows : List (List Int)} {vars v : Nat} (hv1 : 1 ≤ vars) (hv8 : vars ≤ 8) (hok : Okr rows vars) (hv : v < vars) (h0 : 0 < rows.length) (hs : 0 < stepT (factsE rows v)) (hs2 : stepT (factsE rows v) ≤ 1073741823) :
    followE ⟨6, v, 0, modI (loE (factsE rows v)) (2 * stepT (factsE rows v)), 2 * stepT (factsE rows v), []⟩ vars rows = (false, 0) := by
  have hst : stepT (factsE rows v) = stepE (factsE rows v) ((factsE rows v).length - 1) := by
    unfold stepT at hs ⊢
    split at hs
    · omega
    · split at hs
      · rename_i a b; rw [if_neg a, if_pos b]
      · omega
  have hA := facts_lt rows v
  have hm : 0 < 2 * stepT (factsE rows v) := by omega
  have e1 := modI_emod (n := loE (factsE rows v)) hm
  have b1 := Int.emod_nonneg (loE (factsE rows v)) (show 2 * stepT (factsE rows v) ≠ 0 by omega)
  have b2 := Int.emod_lt_of_pos (loE (factsE rows v)) hm
  have hch : chk ⟨6, v, 0, modI (loE (factsE rows v)) (2 * stepT (factsE rows v)), 2 * stepT (factsE rows v), []⟩ vars = 0 := by
    refine chk_mk (by omega) (by omega) (by simp [kindB]) ?_ (numE_mk (by rw [smallB]; simp only [e1, Bool.and_eq_true, decide_eq_true_eq]; omega) (by rw [smallB]; simp only [Bool.and_eq_true, decide_eq_true_eq]; omega) rfl (fun h => absurd h (by simp)) (fun _ => ⟨by simp only; omega, by simp only [e1]; omega, by simp only [e1]; omega⟩)) (by simp [sameB, bareI, twoB, hasKB, hasMB, hasSB])
    simp [placeB, outB, twoB, turnB]
    omega
  unfold followE
  rw [if_neg (not_not_intro hch)]
  refine Prod.ext ?_ rfl
  show rows.all _ = false
  cases hall : rows.all (fun r => holdsR ⟨6, v, 0, modI (loE (factsE rows v)) (2 * stepT (factsE rows v)), 2 * stepT (factsE rows v), []⟩ r) with
  | false => rfl
  | true =>
    exfalso
    have hmem : ∀ y ∈ factsE rows v, 2 * stepT (factsE rows v) ∣ y - loE (factsE rows v) := fun y hy => by
      obtain ⟨r, hr, rfl⟩ := List.mem_map.1 (facts_mem.1 hy)
      have := List.all_eq_true.1 hall r hr
      simp only [holdsR, holdsB, Int.toNat_natCast] at this
      simp at this
      rw [modI_emod hm, modI_emod hm] at this
      exact Int.dvd_of_emod_eq_zero (Int.emod_eq_emod_iff_emod_sub_eq_zero.1 this)
    have hd : 2 * stepT (factsE rows v) ∣ stepE (factsE rows v) ((factsE rows v).length - 1) := by
      refine step_great hA _ (by have := facts_pos h0 v; omega) fun j hj => ?_
      have h1 := hmem _ (getD_mem (show j + 1 < (factsE rows v).length by omega))
      have h2 := hmem _ (getD_mem (show j < (factsE rows v).length by omega))
      have h3 := Int.dvd_sub h1 h2
      rwa [show (factsE rows v).getD (j + 1) 0 - loE (factsE rows v) - ((factsE rows v).getD j 0 - loE (factsE rows v)) = (factsE rows v).getD (j + 1) 0 - (factsE rows v).getD j 0 by omega] at h3
    rw [← hst] at hd
    have := Int.le_of_dvd hs hd
    omega
/-- .. nor a greater least value. -/
theorem no_higher {rows : List (List Int)} {vars v : Nat} (hv1 : 1 ≤ vars) (hv8 : vars ≤ 8) (hok : Okr rows vars) (hv : v < vars) (h0 : 0 < rows.length) (hl : loE (factsE rows v) < 2147483647) :
    followE ⟨3, v, 0, loE (factsE rows v) + 1, 0, []⟩ vars rows = (false, 0) := by
  have hlo := small_bounds (facts_small hok.small v _ (lo_mem (facts_pos h0 v)))
  have hch : chk ⟨3, v, 0, loE (factsE rows v) + 1, 0, []⟩ vars = 0 := by
    refine chk_mk (by omega) (by omega) (by simp [kindB]) ?_ (numE_mk (by rw [smallB]; simp only [Bool.and_eq_true, decide_eq_true_eq]; omega) zero_small rfl (fun h => absurd h (by simp)) (fun h => absurd h (by simp))) (by simp [sameB, bareI, twoB, hasKB, hasMB, hasSB])
    simp [placeB, outB, twoB, turnB]
    omega
  unfold followE
  rw [if_neg (not_not_intro hch)]
  refine Prod.ext ?_ rfl
  show rows.all _ = false
  obtain ⟨r, hr, hrl⟩ := List.mem_map.1 (facts_mem.1 (lo_mem (facts_pos h0 v)))
  rw [List.all_eq_false]
  refine ⟨r, hr, ?_⟩
  simp only [holdsR, holdsB, Int.toNat_natCast, hrl]
  simp
  omega
end Go.Proofs.YtgbgddmbooaddaaGreatDoor

namespace Go.Proofs.YtgbgddmbooaddaaGreatDoor
open Go.RowKit


section
variable {P : Program} {n : Nat} {e : Env} {C : World → Prop} {d : Option Tmp} {t : TypeId} {p : String} {af : Array Edge} {g : Option (Nat × Bool)}
theorem yl_min {x y : Operand} {a b : Int} {k : IntKind} {ats : Array TypeId} (hx : eev e x = some (.int k a)) (hy : eev e y = some (.int k b)) : Yl P C n e ⟨d, .call { callee := .builtin .min, args := #[x, y], argTypes := ats }, t, p, af, g⟩ (.int k (if b < a then b else a)) :=
  Yl.val fun ac w hf _ => by simp [execOp, resolve, hf.ev hx, hf.ev hy, invoke, builtin, run_min_int2]
theorem yl_max {x y : Operand} {a b : Int} {k : IntKind} {ats : Array TypeId} (hx : eev e x = some (.int k a)) (hy : eev e y = some (.int k b)) : Yl P C n e ⟨d, .call { callee := .builtin .max, args := #[x, y], argTypes := ats }, t, p, af, g⟩ (.int k (if b > a then b else a)) :=
  Yl.val fun ac w hf _ => by simp [execOp, resolve, hf.ev hx, hf.ev hy, invoke, builtin, run_max_int2]
end
theorem claims_nil (w : World) : IsClaims w (.slice none 0 0) [] := ⟨⟨none, 0, 0, 0, rfl, Nat.le_refl _, fun j c hj => by simp at hj⟩, fun _ h => by cases h⟩
/-- The least and the greatest value of a column. -/
structure BZ where
  k : Nat
  lo : Int
  hi : Int
structure BZ.inv (col : List Int) (z : BZ) : Prop where
  k : z.k ≤ col.length
  lo : z.lo ∈ col
  hi : z.hi ∈ col
  all : ∀ y ∈ col.take z.k, z.lo ≤ y ∧ y ≤ z.hi
theorem BZ.next {col : List Int} {z : BZ} (h : z.inv col) (hk : z.k < col.length) : BZ.inv col ⟨z.k + 1, if col.getD z.k 0 < z.lo then col.getD z.k 0 else z.lo, if col.getD z.k 0 > z.hi then col.getD z.k 0 else z.hi⟩ := by
  have hy : col.getD z.k 0 ∈ col := getD_mem hk
  have he : col[z.k] = col.getD z.k 0 := by simp [List.getD, hk]
  refine ⟨hk, ?_, ?_, fun y hy => ?_⟩
  · simp only; split
    · exact hy
    · exact h.lo
  · simp only; split
    · exact hy
    · exact h.hi
  · simp only at hy ⊢
    rw [List.take_succ_eq_append_getElem hk, List.mem_append, List.mem_singleton, he] at hy
    rcases hy with hy | hy
    · have := h.all y hy
      constructor <;> split <;> omega
    · subst hy
      constructor <;> split <;> omega
theorem BZ.done {rows : List (List Int)} {a : Nat} {z : BZ} (h : z.inv (colL rows a)) (hk : z.k = (colL rows a).length) : z.lo = loE (factsE rows a) ∧ z.hi = hiE (factsE rows a) := by
  have hall := h.all
  rw [hk, List.take_length] at hall
  have hA := facts_lt rows a
  have h1 : z.lo ∈ factsE rows a := facts_mem.2 h.lo
  have h2 : z.hi ∈ factsE rows a := facts_mem.2 h.hi
  have h0 : 0 < (factsE rows a).length := List.length_pos_of_mem h1
  have b1 := asc_bounds hA h1
  have b2 := asc_bounds hA h2
  have c1 := hall _ (facts_mem.1 (lo_mem h0))
  have c2 := hall _ (facts_mem.1 (hi_mem h0))
  omega


structure SZ where
  i : Nat
  seen : Int
  step : Int

set_option maxRecDepth 100000 in
theorem bounds_any (v : Int) (rows : List (Value × List Int)) (rv : Value) (vv : Int) (w0 : World) (hvars : Vars w0) (hrv : IsRows w0 rv rows) : Calls Tryz.prog 6 #[.int .i64 v, rv, .int .i64 vv] w0 fun e w' => e = .returned (.bool true) ∧ Ext w0 w' := by
  obtain ⟨adr, capr, br, orr, rfl, hcapr, hs⟩ := rows_open hrv
  refine enterA 213 Tryz.func6 rfl Tryz.ntmps6 rfl (Hp w0 [] [] []) (Hp.init _) ?_
  refine H.seq ?_
  refine H.region ?_
  refine H.q (yl_assign rfl) rfl rfl (by decide) ?_
  refine HN.done ?_
  refine HN.keep [(0, _), (1, _), (2, _)] ⟨rfl, rfl, rfl, trivial⟩ ?_
  refine HN.then ?_
  refine H.seq ?_
  refine H.seq ?_
  refine H.region ?_
  refine H.q (yl_move rfl) rfl rfl (by decide) ?_
  refine H.q (yl_call (xs := [.const (.slice none 0 0), .tmp 21, .const (.slice none 0 0)]) Tryz.call10 (stab_hp _ _ _ _) rfl (fun w hw => wide_any [] (.slice none 0 0) rows (.slice adr rows.length capr) [] (.slice none 0 0) w (claims_nil w) (hrv.ext hw.ext) (strs_nil w))) rfl rfl (by decide) ?_
  refine H.q (yl_move rfl) rfl rfl (by decide) ?_
  refine H.qg (wn_f rfl rfl (by decide) rfl) (fun hg => yl_sub [(0, _)] ⟨rfl, trivial⟩ (yl_move rfl)) rfl (by decide) ?_
  refine H.qg (wn_f rfl rfl (by decide) rfl) (fun hg => yl_sub [(1, _)] ⟨rfl, trivial⟩ (yl_move rfl)) rfl (by decide) ?_
  refine H.qg (wn_f rfl rfl (by decide) rfl) (fun hg => yl_sub [(24, _), (25, _)] ⟨slT rfl hg, slT rfl hg, trivial⟩ (yl_call (xs := [.tmp 24, .tmp 25]) Tryz.call26 (stab_hp _ _ _ _) rfl (fun w hw => valid_any v rows (.slice adr rows.length capr) w (valid_len hg) (valid_lens hg) (hrv.ext hw.ext)))) rfl (by decide) ?_
  refine H.qg (wn_f rfl rfl (by decide) rfl) (fun hg => yl_sub [(26, _)] ⟨slT rfl hg, trivial⟩ (yl_not rfl)) rfl (by decide) ?_
  refine H.q (yl_or rfl rfl) rfl rfl (by decide) ?_
  refine H.q (yl_move rfl) rfl rfl (by decide) ?_
  refine H.qg (wn_f rfl rfl (by decide) rfl) (fun hg => yl_sub [(1, _)] ⟨rfl, trivial⟩ (yl_move rfl)) rfl (by decide) ?_
  refine H.qg (wn_f rfl rfl (by decide) rfl) (fun hg => yl_sub [(30, _)] ⟨slT rfl hg, trivial⟩ (yl_len rfl Tryz.underlying37 rfl)) rfl (by decide) ?_
  refine H.qg (wn_f rfl rfl (by decide) rfl) (fun hg => yl_sub [(31, _)] ⟨slT rfl hg, trivial⟩ (yl_eql rfl rfl)) rfl (by decide) ?_
  refine H.q (yl_or rfl rfl) rfl rfl (by decide) ?_
  refine H.q (yl_move rfl) rfl rfl (by decide) ?_
  refine H.qg (wn_f rfl rfl (by decide) rfl) (fun hg => yl_sub [(2, _)] ⟨rfl, trivial⟩ (yl_move rfl)) rfl (by decide) ?_
  refine H.qg (wn_f rfl rfl (by decide) rfl) (fun hg => yl_sub [(35, _)] ⟨slT rfl hg, trivial⟩ (yl_lss rfl rfl)) rfl (by decide) ?_
  refine H.q (yl_or rfl rfl) rfl rfl (by decide) ?_
  refine H.q (yl_move rfl) rfl rfl (by decide) ?_
  refine H.qg (wn_f rfl rfl (by decide) rfl) (fun hg => yl_sub [(2, _)] ⟨rfl, trivial⟩ (yl_move rfl)) rfl (by decide) ?_
  refine H.qg (wn_f rfl rfl (by decide) rfl) (fun hg => yl_sub [(0, _)] ⟨rfl, trivial⟩ (yl_move rfl)) rfl (by decide) ?_
  refine H.qg (wn_f rfl rfl (by decide) rfl) (fun hg => yl_sub [(39, _), (40, _)] ⟨slT rfl hg, slT rfl hg, trivial⟩ (yl_geq rfl rfl)) rfl (by decide) ?_
  refine H.q (yl_or rfl rfl) rfl rfl (by decide) ?_
  refine HN.done ?_
  refine HN.keep [(0, _), (1, _), (2, _), (42, _)] ⟨rfl, rfl, rfl, rfl, trivial⟩ ?_
  refine HN.then ?_
  refine H.cond _ rfl (fun t0 => ?_) (fun t0 => ?_)
  · refine H.keep [] trivial ?_
    refine H.seq ?_
    refine H.region ?_
    refine H.q (yl_call (xs := []) Tryz.call11 (stab_hp _ _ _ _) rfl (fun w hw => learns_any w (hvars.ext hw.ext))) rfl rfl (by decide) ?_
    refine H.q (yl_assign rfl) rfl rfl (by decide) ?_
    refine HN.done ?_
    refine HN.keep [(6, _)] ⟨rfl, trivial⟩ ?_
    refine HN.then ?_
    refine HR.ret ?_
    refine HR.then ?_
    refine HR.ret1 _ Tryz.results6 rfl (fun w hw => ?_)
    exact ⟨rfl, hw.ext⟩
  · simp only [Bool.or_eq_false_iff, Bool.not_eq_false', decide_eq_false_iff_not] at t0
    obtain ⟨⟨⟨⟨hw0, hval⟩, hr0⟩, hvv0⟩, hvv1⟩ := t0
    have hrl := (wide_rows hw0).1
    rw [List.length_map] at hrl
    obtain ⟨vars, rfl, hv1, hv8, hrok⟩ := valid_open hval
    have hok : Okr (rowsE rows) vars := okr_of hrok
    obtain ⟨vn, rfl⟩ : ∃ vn : Nat, vv = (vn : Int) := ⟨vv.toNat, by omega⟩
    have hvn : vn < vars := by omega
    have h0 : 0 < rows.length := by omega
    have h0E : 0 < (rowsE rows).length := by simpa using h0
    have hcl : (colL (rowsE rows) vn).length = rows.length := by simp [colL]
    refine H.keep [(0, _), (1, _), (2, _)] ⟨rfl, rfl, rfl, trivial⟩ ?_
    refine HN.skip ?_
    refine HN.then ?_
    refine H.seq ?_
    refine H.region ?_
    refine H.q (yl_move rfl) rfl rfl (by decide) ?_
    refine H.q (yl_move rfl) rfl rfl (by decide) ?_
    refine H.callX (α := Nat × Value × List (Value × List Int)) (xs := [.tmp 45, .tmp 46]) (fun q => .tuple #[.pointer (some ⟨q.1, 0, none⟩), .bool true]) (fun q => q.2.2.map (·.2) = rowsE rows) (fun q => Hp w0 [minerB q.1 vars q.2.1] (minerRw q.2.1 q.2.2 :: (rowsR q.2.2 ++ [])) []) Tryz.call27 rfl (by decide) (fun w hw => (mined_any vars rows _ w hv1 hv8 (by omega) hrok (hrv.ext hw.ext)).mono fun e w' h => by obtain ⟨bm, rv', new, h1, h2, h3⟩ := h; exact ⟨(bm, rv', new), h1, h2, by have := hw.join h3; rw [List.cons_append] at this; exact this⟩) (fun q hq1 => ?_)
    obtain ⟨bm1, rvm1, new1⟩ := q
    simp only at hq1
    refine H.q (yl_move rfl) rfl rfl (by decide) ?_
    refine H.q (yl_extract _ rfl rfl) rfl rfl (by decide) ?_
    refine H.q (yl_extract _ rfl rfl) rfl rfl (by decide) ?_
    refine H.q (yl_assign rfl) rfl rfl (by decide) ?_
    refine H.q (yl_assign rfl) rfl rfl (by decide) ?_
    refine HN.done ?_
    refine HN.keep [(1, _), (2, _), (7, _), (8, _)] ⟨rfl, rfl, rfl, rfl, trivial⟩ ?_
    refine HN.then ?_
    refine H.seq ?_
    refine H.seq ?_
    refine H.region ?_
    refine H.q (yl_move rfl) rfl rfl (by decide) ?_
    refine H.q (yl_not rfl) rfl rfl (by decide) ?_
    refine HN.done ?_
    refine HN.keep [(1, _), (2, _), (7, _), (51, _)] ⟨rfl, rfl, rfl, rfl, trivial⟩ ?_
    refine HN.then ?_
    refine H.cond _ rfl (fun t1 => ?_) (fun t1 => ?_)
    · cases t1
      done
    · refine H.keep [(1, _), (2, _), (7, _)] ⟨rfl, rfl, rfl, trivial⟩ ?_
      refine HN.skip ?_
      refine HN.then ?_
      refine H.seq ?_
      obtain ⟨ad0, cap0, b0, o0, h40, hc0, hs0⟩ := ints_open (hs 0 h0).2.2
      have hl0 : vn < rows[0].2.length := by rw [(hok rows[0].2 (List.mem_map.2 ⟨rows[0], List.getElem_mem h0, rfl⟩)).1]; exact hvn
      have hg0 : rows[0].2.getD vn 0 = (colL (rowsE rows) vn).getD 0 0 := by simp [colL, List.getD, h0]
      refine H.regionQ Tryz.mixed (by kernel_rfl) (stab_hp _ _ _ _) ?_
      refine G.q (yl_move rfl) rfl rfl (by decide) ?_
      refine G.q (yl_ix 0 Tryz.underlying37 Tryz.sizeOf23 (hs 0 h0).1 rfl rfl rfl h0) rfl rfl (by decide) ?_
      refine G.q (yl_load Tryz.isAgg23 rfl (fun w hw => (cell_ext hw.ext (hs 0 h0).2.1).trans (by rw [h40]))) rfl rfl (by decide) ?_
      refine G.q (yl_move rfl) rfl rfl (by decide) ?_
      refine G.q (yl_ix vn Tryz.underlying23 Tryz.sizeOf2 (hs0 vn hl0).1 rfl rfl rfl hl0) rfl rfl (by decide) ?_
      refine G.q (yl_load Tryz.isAgg2 rfl (fun w hw => cell_ext hw.ext (hs0 vn hl0).2)) rfl rfl (by decide) ?_
      refine G.q (yl_move rfl) rfl rfl (by decide) ?_
      refine G.q (yl_ix 0 Tryz.underlying37 Tryz.sizeOf23 (hs 0 h0).1 rfl rfl rfl h0) rfl rfl (by decide) ?_
      refine G.q (yl_load Tryz.isAgg23 rfl (fun w hw => (cell_ext hw.ext (hs 0 h0).2.1).trans (by rw [h40]))) rfl rfl (by decide) ?_
      refine G.q (yl_move rfl) rfl rfl (by decide) ?_
      refine G.q (yl_ix vn Tryz.underlying23 Tryz.sizeOf2 (hs0 vn hl0).1 rfl rfl rfl hl0) rfl rfl (by decide) ?_
      refine G.q (yl_load Tryz.isAgg2 rfl (fun w hw => cell_ext hw.ext (hs0 vn hl0).2)) rfl rfl (by decide) ?_
      refine G.q (yl_assign rfl) rfl rfl (by decide) ?_
      refine G.q (yl_assign rfl) rfl rfl (by decide) ?_
      refine HN.doneG ?_
      refine HN.keep [(1, _), (2, _), (7, _), (9, _), (10, _)] ⟨rfl, rfl, rfl, rfl, rfl, trivial⟩ ?_
      refine HN.then ?_
      refine H.seq ?_
      refine H.seq ?_
      refine H.region ?_
      refine H.q (yl_assign rfl) rfl rfl (by decide) ?_
      refine HN.done ?_
      refine HN.keep [(1, _), (2, _), (7, _), (9, _), (10, _), (11, _)] ⟨rfl, rfl, rfl, rfl, rfl, rfl, trivial⟩ ?_
      refine HN.then ?_
      refine H.block ?_
      refine H.loop (fun z : BZ => [(1, .slice adr rows.length capr), (2, .int .i64 (vn : Int)), (7, .pointer (some ⟨bm1, 0, none⟩)), (9, .int .i64 z.lo), (10, .int .i64 z.hi), (11, .int .i64 (z.k : Int))]) (BZ.inv (colL (rowsE rows) vn)) (fun _ => Hp w0 [minerB bm1 vars rvm1] (minerRw rvm1 new1 :: (rowsR new1 ++ [])) []) (fun z => rows.length - z.k) ⟨0, rows[0].2.getD vn 0, rows[0].2.getD vn 0⟩ ⟨Nat.zero_le _, by rw [hg0]; exact getD_mem (by omega), by rw [hg0]; exact getD_mem (by omega), fun y hy => by simp at hy⟩ ⟨rfl, rfl, rfl, rfl, rfl, rfl, trivial⟩ (fun w hw => hw) (fun z hz => ?_)
      obtain ⟨k, lo, hi⟩ := z
      have hzk : k ≤ rows.length := by have := hz.k; simp only at this; omega
      refine H.seq ?_
      refine H.seq ?_
      refine H.region ?_
      refine H.q (yl_move rfl) rfl rfl (by decide) ?_
      refine H.q (yl_move rfl) rfl rfl (by decide) ?_
      refine H.q (yl_len rfl Tryz.underlying37 rfl) rfl rfl (by decide) ?_
      refine H.q (yl_lss rfl rfl) rfl rfl (by decide) ?_
      refine HN.done ?_
      refine HN.keep [(1, _), (2, _), (7, _), (9, _), (10, _), (11, _), (67, _)] ⟨rfl, rfl, rfl, rfl, rfl, rfl, rfl, trivial⟩ ?_
      refine HN.then ?_
      refine H.cond _ rfl (fun t2 => ?_) (fun t2 => ?_)
      · replace t2 := of_decide_eq_true t2
        have hlt : k < rows.length := by have : (k : Int) < rows.length := t2; omega
        obtain ⟨adk, capk, bk, ok, h4k, hck, hsk⟩ := ints_open (hs k hlt).2.2
        have hlk : vn < rows[k].2.length := by rw [(hok rows[k].2 (List.mem_map.2 ⟨rows[k], List.getElem_mem hlt, rfl⟩)).1]; exact hvn
        have hgk : rows[k].2.getD vn 0 = (colL (rowsE rows) vn).getD k 0 := by simp [colL, List.getD, hlt]
        refine H.keep [(1, _), (2, _), (7, _), (9, _), (10, _), (11, _)] ⟨rfl, rfl, rfl, rfl, rfl, rfl, trivial⟩ ?_
        refine HN.skip ?_
        refine HN.then ?_
        refine H.seq ?_
        refine H.block ?_
        refine H.seq ?_
        refine H.region ?_
        refine H.q (yl_move rfl) rfl rfl (by decide) ?_
        refine H.q (yl_move rfl) rfl rfl (by decide) ?_
        refine H.q (yl_move rfl) rfl rfl (by decide) ?_
        refine H.q (yl_ix k Tryz.underlying37 Tryz.sizeOf23 (hs k hlt).1 rfl rfl rfl hlt) rfl rfl (by decide) ?_
        refine H.q (yl_load Tryz.isAgg23 rfl (fun w hw => (cell_ext hw.ext (hs k hlt).2.1).trans (by rw [h4k]))) rfl rfl (by decide) ?_
        refine H.q (yl_move rfl) rfl rfl (by decide) ?_
        refine H.q (yl_ix vn Tryz.underlying23 Tryz.sizeOf2 (hsk vn hlk).1 rfl rfl rfl hlk) rfl rfl (by decide) ?_
        refine H.q (yl_load Tryz.isAgg2 rfl (fun w hw => cell_ext hw.ext (hsk vn hlk).2)) rfl rfl (by decide) ?_
        refine H.q (yl_min rfl rfl) rfl rfl (by decide) ?_
        refine H.q (yl_assign rfl) rfl rfl (by decide) ?_
        refine HN.done ?_
        refine HN.keep [(1, _), (2, _), (7, _), (9, _), (10, _), (11, _)] ⟨rfl, rfl, rfl, rfl, rfl, rfl, trivial⟩ ?_
        refine HN.then ?_
        refine H.region ?_
        refine H.q (yl_move rfl) rfl rfl (by decide) ?_
        refine H.q (yl_move rfl) rfl rfl (by decide) ?_
        refine H.q (yl_move rfl) rfl rfl (by decide) ?_
        refine H.q (yl_ix k Tryz.underlying37 Tryz.sizeOf23 (hs k hlt).1 rfl rfl rfl hlt) rfl rfl (by decide) ?_
        refine H.q (yl_load Tryz.isAgg23 rfl (fun w hw => (cell_ext hw.ext (hs k hlt).2.1).trans (by rw [h4k]))) rfl rfl (by decide) ?_
        refine H.q (yl_move rfl) rfl rfl (by decide) ?_
        refine H.q (yl_ix vn Tryz.underlying23 Tryz.sizeOf2 (hsk vn hlk).1 rfl rfl rfl hlk) rfl rfl (by decide) ?_
        refine H.q (yl_load Tryz.isAgg2 rfl (fun w hw => cell_ext hw.ext (hsk vn hlk).2)) rfl rfl (by decide) ?_
        refine H.q (yl_max rfl rfl) rfl rfl (by decide) ?_
        refine H.q (yl_assign rfl) rfl rfl (by decide) ?_
        refine HN.done ?_
        refine HN.keep [(1, _), (2, _), (7, _), (9, _), (10, _), (11, _)] ⟨rfl, rfl, rfl, rfl, rfl, rfl, trivial⟩ ?_
        refine HN.block ?_
        refine HN.then ?_
        refine H.region ?_
        refine H.q (yl_move rfl) rfl rfl (by decide) ?_
        refine H.q (yl_add rfl rfl ((k : Int) + 1) rfl (by omega)) rfl rfl (by decide) ?_
        refine H.q (yl_assign rfl) rfl rfl (by decide) ?_
        refine HN.done ?_
        refine HN.keep [(1, _), (2, _), (7, _), (9, _), (10, _), (11, _)] ⟨rfl, rfl, rfl, rfl, rfl, rfl, trivial⟩ ?_
        refine HN.then ?_
        rw [hgk]
        exact H.at ⟨k + 1, _, _⟩ ⟨BZ.next hz (by simp only; omega), by simp only; omega⟩ ⟨rfl, rfl, rfl, rfl, rfl, rfl, trivial⟩ (fun w hw => hw)
      · replace t2 := of_decide_eq_false t2
        have hkl : k = (colL (rowsE rows) vn).length := by have : ¬ (k : Int) < rows.length := t2; omega
        obtain ⟨elo, ehi⟩ := BZ.done hz hkl
        simp only at elo ehi
        subst elo
        subst ehi
        refine H.keep [(2, _), (7, _), (9, _), (10, _)] ⟨rfl, rfl, rfl, rfl, trivial⟩ ?_
        refine HX.exit ?_
        refine HX.then ?_
        refine HX.then ?_
        refine HX.hit ?_
        refine HN.then ?_
        refine H.seq ?_
        refine H.region ?_
        refine H.q (yl_move rfl) rfl rfl (by decide) ?_
        refine H.call (α := Value × List (Value × Inv)) (xs := [.tmp 88, .const (.int .i64 1)]) (fun q => q.1) (fun q => q.2.map (·.2) = (claimsE (rowsE rows) vars 1)) (fun q => claimsRw q.1 q.2 :: setsR q.2) (fun _ => []) Tryz.call24 rfl (by decide) (fun w hw => (claims_any bm1 vars rvm1 new1 w (mined_tbl hq1 hok (by rw [List.length_map]; omega) (hw.blk 0 rfl) (hw.row 0 rfl) (fun r hr => hw.rows r (List.mem_cons_of_mem _ (List.mem_append.2 (.inl hr))))) hv1 hv8 1).mono fun e w' h => by obtain ⟨v, l, h1, h2, h3⟩ := h; exact ⟨(v, l), h1, by rw [h2]; exact congrArg (fun r => claimsE r vars 1) hq1, h3, fun _ hh => by cases hh⟩) (fun q hql => ?_)
        obtain ⟨u, l⟩ := q
        simp only at hql
        refine H.pull (fun w hw => claimsRw_open (v := u) (l := l) (hw.row 0 rfl)) (fun ho => ?_)
        obtain ⟨adc, capc, bc, rfl, hcapc, hadc, hcc⟩ := ho
        refine H.pull (fun w hw => Rw.lenMax (hw.row 0 rfl)) (fun hl100 => ?_)
        replace hl100 : l.length ≤ 9223372036854775807 := hl100
        have hscan : scanE vn (l.map (·.2)) = (2, stepT (factsE (rowsE rows) vn)) := by rw [hql]; exact scan_claims hvn h0E
        have hwant : ∀ i (hi : i < l.length), wantB vn (loE (factsE (rowsE rows) vn)) (hiE (factsE (rowsE rows) vn)) l[i].2 := fun i hi => want_claims h0E _ (hql ▸ List.mem_map.2 ⟨l[i], List.getElem_mem hi, rfl⟩)
        refine H.q (yl_assign rfl) rfl rfl (by decide) ?_
        refine HN.done ?_
        refine HN.keep [(2, _), (7, _), (9, _), (10, _), (12, _)] ⟨rfl, rfl, rfl, rfl, rfl, trivial⟩ ?_
        refine HN.then ?_
        refine H.seq ?_
        refine H.region ?_
        refine H.q (yl_assign rfl) rfl rfl (by decide) ?_
        refine HN.done ?_
        refine HN.keep [(2, _), (7, _), (9, _), (10, _), (12, _), (13, _)] ⟨rfl, rfl, rfl, rfl, rfl, rfl, trivial⟩ ?_
        refine HN.then ?_
        refine H.seq ?_
        refine H.region ?_
        refine H.q (yl_assign rfl) rfl rfl (by decide) ?_
        refine HN.done ?_
        refine HN.keep [(2, _), (7, _), (9, _), (10, _), (12, _), (13, _), (14, _)] ⟨rfl, rfl, rfl, rfl, rfl, rfl, rfl, trivial⟩ ?_
        refine HN.then ?_
        refine H.seq ?_
        refine H.seq ?_
        refine H.region ?_
        refine H.q (yl_assign rfl) rfl rfl (by decide) ?_
        refine HN.done ?_
        refine HN.keep [(2, _), (7, _), (9, _), (10, _), (12, _), (13, _), (14, _), (15, _)] ⟨rfl, rfl, rfl, rfl, rfl, rfl, rfl, rfl, trivial⟩ ?_
        refine HN.then ?_
        refine H.block ?_
        refine H.loop (fun z : SZ => [(2, .int .i64 (vn : Int)), (7, .pointer (some ⟨bm1, 0, none⟩)), (9, .int .i64 (loE (factsE (rowsE rows) vn))), (10, .int .i64 (hiE (factsE (rowsE rows) vn))), (12, .slice adc l.length capc), (13, .int .i64 z.seen), (14, .int .i64 z.step), (15, .int .i64 (z.i : Int))]) (fun z => z.i ≤ l.length ∧ scanE vn ((l.map (·.2)).take z.i) = (z.seen, z.step)) (fun _ => Hp w0 [minerB bm1 vars rvm1] (claimsRw (.slice adc l.length capc) l :: (setsR l ++ (minerRw rvm1 new1 :: (rowsR new1 ++ [])))) []) (fun z => l.length - z.i) ⟨0, 0, 0⟩ ⟨Nat.zero_le _, rfl⟩ ⟨rfl, rfl, rfl, rfl, rfl, rfl, rfl, rfl, trivial⟩ (fun w hw => hw) (fun z hz0 => ?_)
        obtain ⟨i, seen, step⟩ := z
        obtain ⟨hi, hsc⟩ := hz0
        simp only at hi hsc
        refine H.seq ?_
        refine H.seq ?_
        refine H.region ?_
        refine H.q (yl_move rfl) rfl rfl (by decide) ?_
        refine H.q (yl_move rfl) rfl rfl (by decide) ?_
        refine H.q (yl_len rfl Tryz.underlying28 rfl) rfl rfl (by decide) ?_
        refine H.q (yl_lss rfl rfl) rfl rfl (by decide) ?_
        refine HN.done ?_
        refine HN.keep [(2, _), (7, _), (9, _), (10, _), (12, _), (13, _), (14, _), (15, _), (93, _)] ⟨rfl, rfl, rfl, rfl, rfl, rfl, rfl, rfl, rfl, trivial⟩ ?_
        refine HN.then ?_
        refine H.cond _ rfl (fun t3 => ?_) (fun t3 => ?_)
        · replace t3 := of_decide_eq_true t3
          have hlti : i < l.length := by have : (i : Int) < l.length := t3; omega
          have hnx : scanE vn ((l.map (·.2)).take (i + 1)) = scan1 vn (seen, step) l[i].2 := by
            rw [List.take_succ_eq_append_getElem (by simpa using hlti), scan_snoc, hsc]
            simp
          have hsb := scan_take vn (l.map (·.2)) i
          rw [hsc, hscan] at hsb
          simp only at hsb
          refine H.keep [(2, _), (7, _), (9, _), (10, _), (12, _), (13, _), (14, _), (15, _)] ⟨rfl, rfl, rfl, rfl, rfl, rfl, rfl, rfl, trivial⟩ ?_
          refine HN.skip ?_
          refine HN.then ?_
          refine H.seqCut (fun q : { q : Int × Int // scanE vn ((l.map (·.2)).take (i + 1)) = q } => [(2, .int .i64 (vn : Int)), (7, .pointer (some ⟨bm1, 0, none⟩)), (9, .int .i64 (loE (factsE (rowsE rows) vn))), (10, .int .i64 (hiE (factsE (rowsE rows) vn))), (12, .slice adc l.length capc), (13, .int .i64 q.1.1), (14, .int .i64 q.1.2), (15, .int .i64 (i : Int))]) (fun _ => Hp w0 [minerB bm1 vars rvm1] (claimsRw (.slice adc l.length capc) l :: (setsR l ++ (minerRw rvm1 new1 :: (rowsR new1 ++ [])))) []) ?_ (fun q => ?_)
          · refine H.block ?_
            refine H.seq ?_
            refine H.seq ?_
            refine H.region ?_
            refine H.q (yl_move rfl) rfl rfl (by decide) ?_
            refine H.q (yl_move rfl) rfl rfl (by decide) ?_
            refine H.q (yl_index' i 6 Tryz.underlying28 Tryz.sizeOf25 (hadc i hlti) rfl rfl rfl hlti) rfl rfl (by decide) ?_
            refine H.q (yl_fieldAddr _ fa25_1 rfl) rfl rfl (by decide) ?_
            refine H.q (yl_load Tryz.isAgg3 rfl (fun w (hw : Hp w0 [minerB bm1 vars rvm1] (claimsRw (.slice adc l.length capc) l :: (setsR l ++ (minerRw rvm1 new1 :: (rowsR new1 ++ [])))) [] w) => by have h := hcc w (hw.row 0 rfl) i hlti 1 _ rfl; rw [add_at] at h; exact h)) rfl rfl (by decide) ?_
            refine H.q (yl_move rfl) rfl rfl (by decide) ?_
            refine H.q (yl_neq rfl rfl) rfl rfl (by decide) ?_
            refine HN.done ?_
            refine HN.keep [(2, _), (7, _), (9, _), (10, _), (12, _), (13, _), (14, _), (15, _), (102, _)] ⟨rfl, rfl, rfl, rfl, rfl, rfl, rfl, rfl, rfl, trivial⟩ ?_
            refine HN.then ?_
            refine H.cond _ rfl (fun t4 => ?_) (fun t4 => ?_)
            · replace t4 := of_decide_eq_true t4
              refine H.keep [(2, _), (7, _), (9, _), (10, _), (12, _), (13, _), (14, _), (15, _)] ⟨rfl, rfl, rfl, rfl, rfl, rfl, rfl, rfl, trivial⟩ ?_
              refine HX.exit ?_
              refine HX.then ?_
              refine HX.hit ?_
              refine HN.then ?_
              refine H.at' ⟨(seen, step), ?_⟩ ⟨rfl, rfl, rfl, rfl, rfl, rfl, rfl, rfl, trivial⟩ (fun w hw => hw)
              rw [hnx]
              unfold scan1
              rw [if_pos t4]
            · replace t4 := of_decide_eq_false t4
              have hA : l[i].2.a = vn := by simpa using t4
              have hwn := hwant i hlti hA
              refine H.keep [(2, _), (7, _), (9, _), (10, _), (12, _), (13, _), (14, _), (15, _)] ⟨rfl, rfl, rfl, rfl, rfl, rfl, rfl, rfl, trivial⟩ ?_
              refine HN.skip ?_
              refine HN.then ?_
              refine H.seq ?_
              refine H.region ?_
              refine H.q (yl_move rfl) rfl rfl (by decide) ?_
              refine H.q (yl_move rfl) rfl rfl (by decide) ?_
              refine H.q (yl_index' i 6 Tryz.underlying28 Tryz.sizeOf25 (hadc i hlti) rfl rfl rfl hlti) rfl rfl (by decide) ?_
              refine H.q (yl_fieldAddr _ fa25_0 rfl) rfl rfl (by decide) ?_
              refine H.q (yl_load Tryz.isAgg22 rfl (fun w (hw : Hp w0 [minerB bm1 vars rvm1] (claimsRw (.slice adc l.length capc) l :: (setsR l ++ (minerRw rvm1 new1 :: (rowsR new1 ++ [])))) [] w) => by have h := hcc w (hw.row 0 rfl) i hlti 0 _ rfl; rw [add_at] at h; exact h)) rfl rfl (by decide) ?_
              refine HN.done ?_
              refine HN.keep [(2, _), (7, _), (9, _), (10, _), (12, _), (13, _), (14, _), (15, _), (107, _)] ⟨rfl, rfl, rfl, rfl, rfl, rfl, rfl, rfl, rfl, trivial⟩ ?_
              refine HN.then ?_
              refine H.block ?_
              refine H.seq ?_
              refine H.region ?_
              refine H.q (yl_eql rfl rfl) rfl rfl (by decide) ?_
              refine H.q (yl_assign rfl) rfl rfl (by decide) ?_
              refine HN.done ?_
              refine HN.keep [(2, _), (7, _), (9, _), (10, _), (12, _), (13, _), (14, _), (15, _), (107, _), (108, _)] ⟨rfl, rfl, rfl, rfl, rfl, rfl, rfl, rfl, rfl, rfl, trivial⟩ ?_
              refine HN.then ?_
              refine H.cond _ rfl (fun t5 => ?_) (fun t5 => ?_)
              · replace t5 := of_decide_eq_true t5
                have hw1 := hwn.1 t5
                refine H.keep [(2, _), (7, _), (9, _), (10, _), (12, _), (13, _), (14, _), (15, _)] ⟨rfl, rfl, rfl, rfl, rfl, rfl, rfl, rfl, trivial⟩ ?_
                refine H.seq ?_
                refine H.seq ?_
                refine H.region ?_
                refine H.q (yl_move rfl) rfl rfl (by decide) ?_
                refine H.q (yl_move rfl) rfl rfl (by decide) ?_
                refine H.q (yl_neq rfl rfl) rfl rfl (by decide) ?_
                refine H.q (yl_move rfl) rfl rfl (by decide) ?_
                refine H.qg (wn_f rfl rfl (by decide) rfl) (fun hg => yl_sub [(12, _)] ⟨rfl, trivial⟩ (yl_move rfl)) rfl (by decide) ?_
                refine H.qg (wn_f rfl rfl (by decide) rfl) (fun hg => yl_sub [(15, _)] ⟨rfl, trivial⟩ (yl_move rfl)) rfl (by decide) ?_
                refine H.qg (wn_f rfl rfl (by decide) rfl) (fun hg => yl_sub [(114, _), (115, _)] ⟨slT rfl hg, slT rfl hg, trivial⟩ (yl_index' i 6 Tryz.underlying28 Tryz.sizeOf25 (hadc i hlti) rfl rfl rfl hlti)) rfl (by decide) ?_
                refine H.qg (wn_f rfl rfl (by decide) rfl) (fun hg => yl_sub [(116, _)] ⟨slT rfl hg, trivial⟩ (yl_fieldAddr _ fa25_3 rfl)) rfl (by decide) ?_
                refine H.qg (wn_f rfl rfl (by decide) rfl) (fun hg => yl_sub [(117, _)] ⟨slT rfl hg, trivial⟩ (yl_load Tryz.isAgg2 rfl (fun w (hw : Hp w0 [minerB bm1 vars rvm1] (claimsRw (.slice adc l.length capc) l :: (setsR l ++ (minerRw rvm1 new1 :: (rowsR new1 ++ [])))) [] w) => by have h := hcc w (hw.row 0 rfl) i hlti 3 _ rfl; rw [add_at] at h; exact h))) rfl (by decide) ?_
                refine H.qg (wn_f rfl rfl (by decide) rfl) (fun hg => yl_sub [(9, _)] ⟨rfl, trivial⟩ (yl_move rfl)) rfl (by decide) ?_
                refine H.qg (wn_f rfl rfl (by decide) rfl) (fun hg => yl_sub [(118, _), (119, _)] ⟨slT rfl hg, slT rfl hg, trivial⟩ (yl_neq rfl rfl)) rfl (by decide) ?_
                refine H.q (yl_or rfl rfl) rfl rfl (by decide) ?_
                refine HN.done ?_
                refine HN.keep [(2, _), (7, _), (9, _), (10, _), (12, _), (13, _), (14, _), (15, _), (121, _)] ⟨rfl, rfl, rfl, rfl, rfl, rfl, rfl, rfl, rfl, trivial⟩ ?_
                refine HN.then ?_
                refine H.cond _ rfl (fun t6 => ?_) (fun t6 => ?_)
                · exfalso
                  simp only [Bool.or_eq_true, decide_eq_true_eq] at t6
                  rcases t6 with h | h
                  · exact h hw1.1
                  · exact h hw1.2
                  done
                · skip
                  refine H.keep [(2, _), (7, _), (9, _), (10, _), (12, _), (13, _), (14, _), (15, _)] ⟨rfl, rfl, rfl, rfl, rfl, rfl, rfl, rfl, trivial⟩ ?_
                  refine HN.skip ?_
                  refine HN.then ?_
                  refine H.region ?_
                  refine H.q (yl_move rfl) rfl rfl (by decide) ?_
                  refine H.q (yl_add rfl rfl (seen + 2) rfl (by omega)) rfl rfl (by decide) ?_
                  refine H.q (yl_assign rfl) rfl rfl (by decide) ?_
                  refine HN.done ?_
                  refine HN.keep [(2, _), (7, _), (9, _), (10, _), (12, _), (13, _), (14, _), (15, _)] ⟨rfl, rfl, rfl, rfl, rfl, rfl, rfl, rfl, trivial⟩ ?_
                  refine HN.block ?_
                  refine HN.block ?_
                  refine HN.then ?_
                  refine H.at' ⟨(seen + 2, step), ?_⟩ ⟨rfl, rfl, rfl, rfl, rfl, rfl, rfl, rfl, trivial⟩ (fun w hw => hw)
                  rw [hnx]
                  unfold scan1
                  rw [if_neg t4, if_pos t5]
              · replace t5 := of_decide_eq_false t5
                refine H.keep [(2, _), (7, _), (9, _), (10, _), (12, _), (13, _), (14, _), (15, _), (107, _)] ⟨rfl, rfl, rfl, rfl, rfl, rfl, rfl, rfl, rfl, trivial⟩ ?_
                refine H.seq ?_
                refine H.region ?_
                refine H.q (yl_eql rfl rfl) rfl rfl (by decide) ?_
                refine H.q (yl_assign rfl) rfl rfl (by decide) ?_
                refine HN.done ?_
                refine HN.keep [(2, _), (7, _), (9, _), (10, _), (12, _), (13, _), (14, _), (15, _), (107, _), (124, _)] ⟨rfl, rfl, rfl, rfl, rfl, rfl, rfl, rfl, rfl, rfl, trivial⟩ ?_
                refine HN.then ?_
                refine H.cond _ rfl (fun t7 => ?_) (fun t7 => ?_)
                · replace t7 := of_decide_eq_true t7
                  have hw1 := hwn.2.1 t7
                  refine H.keep [(2, _), (7, _), (9, _), (10, _), (12, _), (13, _), (14, _), (15, _)] ⟨rfl, rfl, rfl, rfl, rfl, rfl, rfl, rfl, trivial⟩ ?_
                  refine H.seq ?_
                  refine H.seq ?_
                  refine H.region ?_
                  refine H.q (yl_move rfl) rfl rfl (by decide) ?_
                  refine H.q (yl_move rfl) rfl rfl (by decide) ?_
                  refine H.q (yl_eql rfl rfl) rfl rfl (by decide) ?_
                  refine H.q (yl_move rfl) rfl rfl (by decide) ?_
                  refine H.qg (wn_f rfl rfl (by decide) rfl) (fun hg => yl_sub [(12, _)] ⟨rfl, trivial⟩ (yl_move rfl)) rfl (by decide) ?_
                  refine H.qg (wn_f rfl rfl (by decide) rfl) (fun hg => yl_sub [(15, _)] ⟨rfl, trivial⟩ (yl_move rfl)) rfl (by decide) ?_
                  refine H.qg (wn_f rfl rfl (by decide) rfl) (fun hg => yl_sub [(130, _), (131, _)] ⟨slT rfl hg, slT rfl hg, trivial⟩ (yl_index' i 6 Tryz.underlying28 Tryz.sizeOf25 (hadc i hlti) rfl rfl rfl hlti)) rfl (by decide) ?_
                  refine H.qg (wn_f rfl rfl (by decide) rfl) (fun hg => yl_sub [(132, _)] ⟨slT rfl hg, trivial⟩ (yl_fieldAddr _ fa25_3 rfl)) rfl (by decide) ?_
                  refine H.qg (wn_f rfl rfl (by decide) rfl) (fun hg => yl_sub [(133, _)] ⟨slT rfl hg, trivial⟩ (yl_load Tryz.isAgg2 rfl (fun w (hw : Hp w0 [minerB bm1 vars rvm1] (claimsRw (.slice adc l.length capc) l :: (setsR l ++ (minerRw rvm1 new1 :: (rowsR new1 ++ [])))) [] w) => by have h := hcc w (hw.row 0 rfl) i hlti 3 _ rfl; rw [add_at] at h; exact h))) rfl (by decide) ?_
                  refine H.qg (wn_f rfl rfl (by decide) rfl) (fun hg => yl_sub [(9, _)] ⟨rfl, trivial⟩ (yl_move rfl)) rfl (by decide) ?_
                  refine H.qg (wn_f rfl rfl (by decide) rfl) (fun hg => yl_sub [(134, _), (135, _)] ⟨slT rfl hg, slT rfl hg, trivial⟩ (yl_neq rfl rfl)) rfl (by decide) ?_
                  refine H.q (yl_or rfl rfl) rfl rfl (by decide) ?_
                  refine HN.done ?_
                  refine HN.keep [(2, _), (7, _), (9, _), (10, _), (12, _), (13, _), (14, _), (15, _), (137, _)] ⟨rfl, rfl, rfl, rfl, rfl, rfl, rfl, rfl, rfl, trivial⟩ ?_
                  refine HN.then ?_
                  refine H.cond _ rfl (fun t8 => ?_) (fun t8 => ?_)
                  · exfalso
                    simp only [Bool.or_eq_true, decide_eq_true_eq] at t8
                    rcases t8 with h | h
                    · exact hw1.1 h
                    · exact h hw1.2
                    done
                  · skip
                    refine H.keep [(2, _), (7, _), (9, _), (10, _), (12, _), (13, _), (14, _), (15, _)] ⟨rfl, rfl, rfl, rfl, rfl, rfl, rfl, rfl, trivial⟩ ?_
                    refine HN.skip ?_
                    refine HN.then ?_
                    refine H.region ?_
                    refine H.q (yl_move rfl) rfl rfl (by decide) ?_
                    refine H.q (yl_add rfl rfl (seen + 1) rfl (by omega)) rfl rfl (by decide) ?_
                    refine H.q (yl_assign rfl) rfl rfl (by decide) ?_
                    refine HN.done ?_
                    refine HN.keep [(2, _), (7, _), (9, _), (10, _), (12, _), (13, _), (14, _), (15, _)] ⟨rfl, rfl, rfl, rfl, rfl, rfl, rfl, rfl, trivial⟩ ?_
                    refine HN.block ?_
                    refine HN.block ?_
                    refine HN.then ?_
                    refine H.at' ⟨(seen + 1, step), ?_⟩ ⟨rfl, rfl, rfl, rfl, rfl, rfl, rfl, rfl, trivial⟩ (fun w hw => hw)
                    rw [hnx]
                    unfold scan1
                    rw [if_neg t4, if_neg t5, if_pos t7]
                · replace t7 := of_decide_eq_false t7
                  refine H.keep [(2, _), (7, _), (9, _), (10, _), (12, _), (13, _), (14, _), (15, _), (107, _)] ⟨rfl, rfl, rfl, rfl, rfl, rfl, rfl, rfl, rfl, trivial⟩ ?_
                  refine H.seq ?_
                  refine H.region ?_
                  refine H.q (yl_eql rfl rfl) rfl rfl (by decide) ?_
                  refine H.q (yl_assign rfl) rfl rfl (by decide) ?_
                  refine HN.done ?_
                  refine HN.keep [(2, _), (7, _), (9, _), (10, _), (12, _), (13, _), (14, _), (15, _), (107, _), (140, _)] ⟨rfl, rfl, rfl, rfl, rfl, rfl, rfl, rfl, rfl, rfl, trivial⟩ ?_
                  refine HN.then ?_
                  refine H.cond _ rfl (fun t9 => ?_) (fun t9 => ?_)
                  · replace t9 := of_decide_eq_true t9
                    have hw1 := hwn.2.2 t9
                    refine H.keep [(2, _), (7, _), (9, _), (10, _), (12, _), (13, _), (14, _), (15, _)] ⟨rfl, rfl, rfl, rfl, rfl, rfl, rfl, rfl, trivial⟩ ?_
                    refine H.seq ?_
                    refine H.seq ?_
                    refine H.region ?_
                    refine H.q (yl_move rfl) rfl rfl (by decide) ?_
                    refine H.q (yl_move rfl) rfl rfl (by decide) ?_
                    refine H.q (yl_eql rfl rfl) rfl rfl (by decide) ?_
                    refine H.q (yl_move rfl) rfl rfl (by decide) ?_
                    refine H.qg (wn_f rfl rfl (by decide) rfl) (fun hg => yl_sub [(12, _)] ⟨rfl, trivial⟩ (yl_move rfl)) rfl (by decide) ?_
                    refine H.qg (wn_f rfl rfl (by decide) rfl) (fun hg => yl_sub [(15, _)] ⟨rfl, trivial⟩ (yl_move rfl)) rfl (by decide) ?_
                    refine H.qg (wn_f rfl rfl (by decide) rfl) (fun hg => yl_sub [(146, _), (147, _)] ⟨slT rfl hg, slT rfl hg, trivial⟩ (yl_index' i 6 Tryz.underlying28 Tryz.sizeOf25 (hadc i hlti) rfl rfl rfl hlti)) rfl (by decide) ?_
                    refine H.qg (wn_f rfl rfl (by decide) rfl) (fun hg => yl_sub [(148, _)] ⟨slT rfl hg, trivial⟩ (yl_fieldAddr _ fa25_3 rfl)) rfl (by decide) ?_
                    refine H.qg (wn_f rfl rfl (by decide) rfl) (fun hg => yl_sub [(149, _)] ⟨slT rfl hg, trivial⟩ (yl_load Tryz.isAgg2 rfl (fun w (hw : Hp w0 [minerB bm1 vars rvm1] (claimsRw (.slice adc l.length capc) l :: (setsR l ++ (minerRw rvm1 new1 :: (rowsR new1 ++ [])))) [] w) => by have h := hcc w (hw.row 0 rfl) i hlti 3 _ rfl; rw [add_at] at h; exact h))) rfl (by decide) ?_
                    refine H.qg (wn_f rfl rfl (by decide) rfl) (fun hg => yl_sub [(10, _)] ⟨rfl, trivial⟩ (yl_move rfl)) rfl (by decide) ?_
                    refine H.qg (wn_f rfl rfl (by decide) rfl) (fun hg => yl_sub [(150, _), (151, _)] ⟨slT rfl hg, slT rfl hg, trivial⟩ (yl_neq rfl rfl)) rfl (by decide) ?_
                    refine H.q (yl_or rfl rfl) rfl rfl (by decide) ?_
                    refine HN.done ?_
                    refine HN.keep [(2, _), (7, _), (9, _), (10, _), (12, _), (13, _), (14, _), (15, _), (153, _)] ⟨rfl, rfl, rfl, rfl, rfl, rfl, rfl, rfl, rfl, trivial⟩ ?_
                    refine HN.then ?_
                    refine H.cond _ rfl (fun t10 => ?_) (fun t10 => ?_)
                    · exfalso
                      simp only [Bool.or_eq_true, decide_eq_true_eq] at t10
                      rcases t10 with h | h
                      · exact hw1.1 h
                      · exact h hw1.2
                      done
                    · skip
                      refine H.keep [(2, _), (7, _), (9, _), (10, _), (12, _), (13, _), (14, _), (15, _)] ⟨rfl, rfl, rfl, rfl, rfl, rfl, rfl, rfl, trivial⟩ ?_
                      refine HN.skip ?_
                      refine HN.then ?_
                      refine H.region ?_
                      refine H.q (yl_move rfl) rfl rfl (by decide) ?_
                      refine H.q (yl_add rfl rfl (seen + 1) rfl (by omega)) rfl rfl (by decide) ?_
                      refine H.q (yl_assign rfl) rfl rfl (by decide) ?_
                      refine HN.done ?_
                      refine HN.keep [(2, _), (7, _), (9, _), (10, _), (12, _), (13, _), (14, _), (15, _)] ⟨rfl, rfl, rfl, rfl, rfl, rfl, rfl, rfl, trivial⟩ ?_
                      refine HN.block ?_
                      refine HN.block ?_
                      refine HN.then ?_
                      refine H.at' ⟨(seen + 1, step), ?_⟩ ⟨rfl, rfl, rfl, rfl, rfl, rfl, rfl, rfl, trivial⟩ (fun w hw => hw)
                      rw [hnx]
                      unfold scan1
                      rw [if_neg t4, if_neg t5, if_neg t7, if_pos t9]
                  · replace t9 := of_decide_eq_false t9
                    refine H.keep [(2, _), (7, _), (9, _), (10, _), (12, _), (13, _), (14, _), (15, _), (107, _)] ⟨rfl, rfl, rfl, rfl, rfl, rfl, rfl, rfl, rfl, trivial⟩ ?_
                    refine H.seq ?_
                    refine H.region ?_
                    refine H.q (yl_eql rfl rfl) rfl rfl (by decide) ?_
                    refine H.q (yl_assign rfl) rfl rfl (by decide) ?_
                    refine HN.done ?_
                    refine HN.keep [(2, _), (7, _), (9, _), (10, _), (12, _), (13, _), (14, _), (15, _), (156, _)] ⟨rfl, rfl, rfl, rfl, rfl, rfl, rfl, rfl, rfl, trivial⟩ ?_
                    refine HN.then ?_
                    refine H.cond _ rfl (fun t11 => ?_) (fun t11 => ?_)
                    · replace t11 := of_decide_eq_true t11
                      refine H.keep [(2, _), (7, _), (9, _), (10, _), (12, _), (13, _), (15, _)] ⟨rfl, rfl, rfl, rfl, rfl, rfl, rfl, trivial⟩ ?_
                      refine H.region ?_
                      refine H.q (yl_move rfl) rfl rfl (by decide) ?_
                      refine H.q (yl_move rfl) rfl rfl (by decide) ?_
                      refine H.q (yl_index' i 6 Tryz.underlying28 Tryz.sizeOf25 (hadc i hlti) rfl rfl rfl hlti) rfl rfl (by decide) ?_
                      refine H.q (yl_fieldAddr _ fa25_4 rfl) rfl rfl (by decide) ?_
                      refine H.q (yl_load Tryz.isAgg2 rfl (fun w (hw : Hp w0 [minerB bm1 vars rvm1] (claimsRw (.slice adc l.length capc) l :: (setsR l ++ (minerRw rvm1 new1 :: (rowsR new1 ++ [])))) [] w) => by have h := hcc w (hw.row 0 rfl) i hlti 4 _ rfl; rw [add_at] at h; exact h)) rfl rfl (by decide) ?_
                      refine H.q (yl_assign rfl) rfl rfl (by decide) ?_
                      refine HN.done ?_
                      refine HN.keep [(2, _), (7, _), (9, _), (10, _), (12, _), (13, _), (14, _), (15, _)] ⟨rfl, rfl, rfl, rfl, rfl, rfl, rfl, rfl, trivial⟩ ?_
                      refine HN.block ?_
                      refine HN.block ?_
                      refine HN.then ?_
                      refine H.at' ⟨(seen, l[i].2.m), ?_⟩ ⟨rfl, rfl, rfl, rfl, rfl, rfl, rfl, rfl, trivial⟩ (fun w hw => hw)
                      rw [hnx]
                      unfold scan1
                      rw [if_neg t4, if_neg t5, if_neg t7, if_neg t9, if_pos t11]
                    · replace t11 := of_decide_eq_false t11
                      refine H.keep [(2, _), (7, _), (9, _), (10, _), (12, _), (13, _), (14, _), (15, _)] ⟨rfl, rfl, rfl, rfl, rfl, rfl, rfl, rfl, trivial⟩ ?_
                      refine HN.skip ?_
                      refine HN.block ?_
                      refine HN.block ?_
                      refine HN.then ?_
                      refine H.at' ⟨(seen, step), ?_⟩ ⟨rfl, rfl, rfl, rfl, rfl, rfl, rfl, rfl, trivial⟩ (fun w hw => hw)
                      rw [hnx]
                      unfold scan1
                      rw [if_neg t4, if_neg t5, if_neg t7, if_neg t9, if_neg t11]
          · refine H.region ?_
            refine H.q (yl_move rfl) rfl rfl (by decide) ?_
            refine H.q (yl_add rfl rfl ((i : Int) + 1) rfl (by omega)) rfl rfl (by decide) ?_
            refine H.q (yl_assign rfl) rfl rfl (by decide) ?_
            refine HN.done ?_
            refine HN.keep [(2, _), (7, _), (9, _), (10, _), (12, _), (13, _), (14, _), (15, _)] ⟨rfl, rfl, rfl, rfl, rfl, rfl, rfl, rfl, trivial⟩ ?_
            refine HN.then ?_
            exact H.at ⟨i + 1, q.1.1, q.1.2⟩ ⟨⟨hlti, q.2⟩, by simp only; omega⟩ ⟨rfl, rfl, rfl, rfl, rfl, rfl, rfl, rfl, trivial⟩ (fun w hw => hw)
        · replace t3 := of_decide_eq_false t3
          have hil : i = l.length := by have : ¬ (i : Int) < l.length := t3; omega
          rw [hil, List.take_of_length_le (by simp), hscan] at hsc
          simp only [Prod.mk.injEq] at hsc
          obtain ⟨rfl, rfl⟩ := hsc
          refine H.keep [(2, _), (7, _), (9, _), (13, _), (14, _)] ⟨rfl, rfl, rfl, rfl, rfl, trivial⟩ ?_
          refine HX.exit ?_
          refine HX.then ?_
          refine HX.then ?_
          refine HX.hit ?_
          refine HN.then ?_
          refine H.seq ?_
          refine H.seq ?_
          refine H.region ?_
          refine H.q (yl_move rfl) rfl rfl (by decide) ?_
          refine H.q (yl_neq rfl rfl) rfl rfl (by decide) ?_
          refine HN.done ?_
          refine HN.keep [(2, _), (7, _), (9, _), (14, _), (164, _)] ⟨rfl, rfl, rfl, rfl, rfl, trivial⟩ ?_
          refine HN.then ?_
          refine H.cond _ rfl (fun t12 => ?_) (fun t12 => ?_)
          · simp at t12
            done
          · have hlob := small_bounds (facts_small hok.small vn _ (lo_mem (facts_pos h0E vn)))
            refine H.keep [(2, _), (7, _), (9, _), (14, _)] ⟨rfl, rfl, rfl, rfl, trivial⟩ ?_
            refine HN.skip ?_
            refine HN.then ?_
            refine H.seqCut (α := Unit) (fun _ => [(2, .int .i64 (vn : Int)), (7, .pointer (some ⟨bm1, 0, none⟩)), (9, .int .i64 (loE (factsE (rowsE rows) vn)))]) (fun _ => Hp w0 [minerB bm1 vars rvm1] (claimsRw (.slice adc l.length capc) l :: (setsR l ++ (minerRw rvm1 new1 :: (rowsR new1 ++ [])))) []) ?_ (fun _ => ?_)
            · refine H.seq ?_
              refine H.region ?_
              refine H.q (yl_move rfl) rfl rfl (by decide) ?_
              refine H.q (yl_gtr rfl rfl) rfl rfl (by decide) ?_
              refine H.q (yl_move rfl) rfl rfl (by decide) ?_
              refine H.qg (wn_t rfl rfl (by decide) rfl) (fun hg => yl_sub [(14, _)] ⟨rfl, trivial⟩ (yl_move rfl)) rfl (by decide) ?_
              refine H.qg (wn_t rfl rfl (by decide) rfl) (fun hg => yl_sub [(168, _)] ⟨slT rfl hg, trivial⟩ (yl_leq rfl rfl)) rfl (by decide) ?_
              refine H.q (yl_and rfl rfl) rfl rfl (by decide) ?_
              refine HN.done ?_
              refine HN.keep [(2, _), (7, _), (9, _), (14, _), (170, _)] ⟨rfl, rfl, rfl, rfl, rfl, trivial⟩ ?_
              refine HN.then ?_
              refine H.cond _ rfl (fun t13 => ?_) (fun t13 => ?_)
              · simp only [Bool.and_eq_true, decide_eq_true_eq] at t13
                have hM : (0 : Int) < 2 * (stepT (factsE (rowsE rows) vn)) := by omega
                have hT1 := Int.tmod_lt_of_pos (loE (factsE (rowsE rows) vn)) hM
                have hT2 := Int.lt_tmod_of_pos (loE (factsE (rowsE rows) vn)) hM
                refine H.keep [(2, _), (7, _), (9, _), (14, _)] ⟨rfl, rfl, rfl, rfl, trivial⟩ ?_
                refine H.seq ?_
                refine H.region ?_
                refine H.q (yl_move rfl) rfl rfl (by decide) ?_
                refine H.q (yl_move rfl) rfl rfl (by decide) ?_
                refine H.q (yl_mul rfl rfl (2 * (stepT (factsE (rowsE rows) vn))) rfl (by omega)) rfl rfl (by decide) ?_
                refine H.q (yl_rem rfl rfl (by omega)) rfl rfl (by decide) ?_
                refine H.q (yl_move rfl) rfl rfl (by decide) ?_
                refine H.q (yl_mul rfl rfl (2 * (stepT (factsE (rowsE rows) vn))) rfl (by omega)) rfl rfl (by decide) ?_
                refine H.q (yl_add rfl rfl (((loE (factsE (rowsE rows) vn))).tmod (2 * (stepT (factsE (rowsE rows) vn))) + 2 * (stepT (factsE (rowsE rows) vn))) rfl (by omega)) rfl rfl (by decide) ?_
                refine H.q (yl_move rfl) rfl rfl (by decide) ?_
                refine H.q (yl_mul rfl rfl (2 * (stepT (factsE (rowsE rows) vn))) rfl (by omega)) rfl rfl (by decide) ?_
                refine H.q (yl_rem rfl rfl (by omega)) rfl rfl (by decide) ?_
                refine H.q (yl_assign rfl) rfl rfl (by decide) ?_
                refine HN.done ?_
                refine HN.keep [(2, _), (7, _), (9, _), (14, _), (16, _)] ⟨rfl, rfl, rfl, rfl, rfl, trivial⟩ ?_
                refine HN.then ?_
                refine H.seq ?_
                refine H.region ?_
                refine H.q (yl_move rfl) rfl rfl (by decide) ?_
                refine H.q (yl_move rfl) rfl rfl (by decide) ?_
                refine H.q (yl_move rfl) rfl rfl (by decide) ?_
                refine H.q (yl_move rfl) rfl rfl (by decide) ?_
                refine H.q (yl_mul rfl rfl (2 * (stepT (factsE (rowsE rows) vn))) rfl (by omega)) rfl rfl (by decide) ?_
                refine H.q (yl_build (bd25_0134 _ _ _ _) rfl) rfl rfl (by decide) ?_
                refine H.q (yl_to (yl_call (xs := [.tmp 182, .tmp 187]) Tryz.call20 (stab_hp _ _ _ _) rfl (fun w hw => follows_any bm1 vars rvm1 new1 w (mined_tbl hq1 hok (by rw [List.length_map]; omega) (hw.blk 0 rfl) (hw.rows _ (List.mem_cons_of_mem _ (List.mem_append.2 (.inr (List.mem_cons_self ..))))) (fun r hr => hw.rows r (List.mem_cons_of_mem _ (List.mem_append.2 (.inr (List.mem_cons_of_mem _ (List.mem_append.2 (.inl hr)))))))) hv1 hv8 ⟨6, vn, 0, modI (loE (factsE (rowsE rows) vn)) (2 * (stepT (factsE (rowsE rows) vn))), 2 * (stepT (factsE (rowsE rows) vn)), []⟩ (.slice none 0 0) (by simp) (ints_nil w))) (by rw [show rowsE new1 = (rowsE rows) from hq1, no_double hv1 hv8 hok hvn h0E t13.1 t13.2])) rfl rfl (by decide) ?_
                refine H.q (yl_move rfl) rfl rfl (by decide) ?_
                refine H.q (yl_extract _ rfl rfl) rfl rfl (by decide) ?_
                refine H.q (yl_extract _ rfl rfl) rfl rfl (by decide) ?_
                refine H.q (yl_assign rfl) rfl rfl (by decide) ?_
                refine H.q (yl_assign rfl) rfl rfl (by decide) ?_
                refine HN.done ?_
                refine HN.keep [(2, _), (7, _), (9, _), (17, _), (18, _)] ⟨rfl, rfl, rfl, rfl, rfl, trivial⟩ ?_
                refine HN.then ?_
                refine H.seq ?_
                refine H.region ?_
                refine H.q (yl_move rfl) rfl rfl (by decide) ?_
                refine H.q (yl_neq rfl rfl) rfl rfl (by decide) ?_
                refine H.q (yl_move rfl) rfl rfl (by decide) ?_
                refine H.qg (wn_f rfl rfl (by decide) rfl) (fun hg => yl_sub [(17, _)] ⟨rfl, trivial⟩ (yl_move rfl)) rfl (by decide) ?_
                refine H.q (yl_or rfl rfl) rfl rfl (by decide) ?_
                refine HN.done ?_
                refine HN.keep [(2, _), (7, _), (9, _), (195, _)] ⟨rfl, rfl, rfl, rfl, trivial⟩ ?_
                refine HN.then ?_
                refine H.cond _ rfl (fun t14 => ?_) (fun t14 => ?_)
                · simp at t14
                  done
                · skip
                  refine H.keep [(2, _), (7, _), (9, _)] ⟨rfl, rfl, rfl, trivial⟩ ?_
                  refine HN.skip ?_
                  refine HN.then ?_
                  exact H.at' () ⟨rfl, rfl, rfl, trivial⟩ (fun w hw => hw)
              · skip
                refine H.keep [(2, _), (7, _), (9, _)] ⟨rfl, rfl, rfl, trivial⟩ ?_
                refine HN.skip ?_
                refine HN.then ?_
                exact H.at' () ⟨rfl, rfl, rfl, trivial⟩ (fun w hw => hw)
            · refine H.seqCut (α := Unit) (fun _ => []) (fun _ => Hp w0 [minerB bm1 vars rvm1] (claimsRw (.slice adc l.length capc) l :: (setsR l ++ (minerRw rvm1 new1 :: (rowsR new1 ++ [])))) []) ?_ (fun _ => ?_)
              · refine H.seq ?_
                refine H.region ?_
                refine H.q (yl_move rfl) rfl rfl (by decide) ?_
                refine H.q (yl_lss rfl rfl) rfl rfl (by decide) ?_
                refine HN.done ?_
                refine HN.keep [(2, _), (7, _), (9, _), (197, _)] ⟨rfl, rfl, rfl, rfl, trivial⟩ ?_
                refine HN.then ?_
                refine H.cond _ rfl (fun t15 => ?_) (fun t15 => ?_)
                · replace t15 := of_decide_eq_true t15
                  refine H.keep [(2, _), (7, _), (9, _)] ⟨rfl, rfl, rfl, trivial⟩ ?_
                  refine H.seq ?_
                  refine H.region ?_
                  refine H.q (yl_move rfl) rfl rfl (by decide) ?_
                  refine H.q (yl_move rfl) rfl rfl (by decide) ?_
                  refine H.q (yl_move rfl) rfl rfl (by decide) ?_
                  refine H.q (yl_add rfl rfl ((loE (factsE (rowsE rows) vn)) + 1) rfl (by omega)) rfl rfl (by decide) ?_
                  refine H.q (yl_build (bd25_013 _ _ _) rfl) rfl rfl (by decide) ?_
                  refine H.q (yl_to (yl_call (xs := [.tmp 199, .tmp 203]) Tryz.call20 (stab_hp _ _ _ _) rfl (fun w hw => follows_any bm1 vars rvm1 new1 w (mined_tbl hq1 hok (by rw [List.length_map]; omega) (hw.blk 0 rfl) (hw.rows _ (List.mem_cons_of_mem _ (List.mem_append.2 (.inr (List.mem_cons_self ..))))) (fun r hr => hw.rows r (List.mem_cons_of_mem _ (List.mem_append.2 (.inr (List.mem_cons_of_mem _ (List.mem_append.2 (.inl hr)))))))) hv1 hv8 ⟨3, vn, 0, (loE (factsE (rowsE rows) vn)) + 1, 0, []⟩ (.slice none 0 0) (by simp) (ints_nil w))) (by rw [show rowsE new1 = (rowsE rows) from hq1, no_higher hv1 hv8 hok hvn h0E t15])) rfl rfl (by decide) ?_
                  refine H.q (yl_move rfl) rfl rfl (by decide) ?_
                  refine H.q (yl_extract _ rfl rfl) rfl rfl (by decide) ?_
                  refine H.q (yl_extract _ rfl rfl) rfl rfl (by decide) ?_
                  refine H.q (yl_assign rfl) rfl rfl (by decide) ?_
                  refine H.q (yl_assign rfl) rfl rfl (by decide) ?_
                  refine HN.done ?_
                  refine HN.keep [(19, _), (20, _)] ⟨rfl, rfl, trivial⟩ ?_
                  refine HN.then ?_
                  refine H.seq ?_
                  refine H.region ?_
                  refine H.q (yl_move rfl) rfl rfl (by decide) ?_
                  refine H.q (yl_neq rfl rfl) rfl rfl (by decide) ?_
                  refine H.q (yl_move rfl) rfl rfl (by decide) ?_
                  refine H.qg (wn_f rfl rfl (by decide) rfl) (fun hg => yl_sub [(19, _)] ⟨rfl, trivial⟩ (yl_move rfl)) rfl (by decide) ?_
                  refine H.q (yl_or rfl rfl) rfl rfl (by decide) ?_
                  refine HN.done ?_
                  refine HN.keep [(211, _)] ⟨rfl, trivial⟩ ?_
                  refine HN.then ?_
                  refine H.cond _ rfl (fun t16 => ?_) (fun t16 => ?_)
                  · simp at t16
                    done
                  · skip
                    refine H.keep [] trivial ?_
                    refine HN.skip ?_
                    refine HN.then ?_
                    exact H.at' () trivial (fun w hw => hw)
                · skip
                  refine H.keep [] trivial ?_
                  refine HN.skip ?_
                  refine HN.then ?_
                  exact H.at' () trivial (fun w hw => hw)
              · refine H.seq ?_
                refine H.region ?_
                refine H.q (yl_call (xs := []) Tryz.call11 (stab_hp _ _ _ _) rfl (fun w hw => learns_any w (hvars.ext hw.ext))) rfl rfl (by decide) ?_
                refine H.q (yl_assign rfl) rfl rfl (by decide) ?_
                refine HN.done ?_
                refine HN.keep [(6, _)] ⟨rfl, trivial⟩ ?_
                refine HN.then ?_
                refine HR.ret ?_
                refine HR.ret1 _ Tryz.results6 rfl (fun w hw => ?_)
                exact ⟨rfl, hw.ext⟩

end Go.Proofs.YtgbgddmbooaddaaGreatDoor
