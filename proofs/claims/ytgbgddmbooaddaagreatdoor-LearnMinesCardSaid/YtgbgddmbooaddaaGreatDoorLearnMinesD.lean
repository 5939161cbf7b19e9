/-
  Ground of the proof of LearnMines, part 4: Walks: couple; Walks: claims; Walks: rows are added.
-/
import Derived.Test.YtgbgddmbooaddaaGreatDoorRows
import Derived.ProofKit
import Derived.OpenShut
import Derived.LaidMore
import Derived.Lay
import Derived.Lib.LaidTab
import Derived.Shelf.Vars
import Derived.HandedShaped
import Derived.Deep.Slices
import Derived.Carry
import Derived.SevenTiedAt
import Derived.Stop.Joined
import Derived.Test.YtgbgddmbooaddaaGreatDoorLearnMinesC
namespace Go.Proofs.YtgbgddmbooaddaaGreatDoor
open Go.RowKit


structure CZ where
  k : Nat
  v : Value
  t : Value
theorem coupleFin {w0 w' : World} {L : List BP} {R : List Rw} {F : List BP} {v : Value} {rows : List (List Int)} {ca cb : List Int} {a b : Nat} (h : Hp w0 L (aloneR v (.slice none 0 0) (coupleE rows ca cb a b) :: R) F w') :
    ∃ u ls, Ending.returned v = .returned u ∧ ls.map (·.2) = coupleE rows ca cb a b ∧ Hp w0 [] (claimsRw u ls :: setsR ls) [] w' := by
  have h2 : Hp w0 [] (aloneR v (.slice none 0 0) (coupleE rows ca cb a b) :: R) [] w' := by
    have h3 : Hp w0 ([] : List BP) (aloneR v (.slice none 0 0) (coupleE rows ca cb a b) :: R) F w' := by
      have : Hp w0 (L ++ []) (aloneR v (.slice none 0 0) (coupleE rows ca cb a b) :: R) F w' := by rw [List.append_nil]; exact h
      exact this.dropLs L
    exact Hp.drop' (F' := F) (F := []) (by rw [List.append_nil]; exact h3)
  have h4 : Hp w0 [] [aloneR v (.slice none 0 0) (coupleE rows ca cb a b)] [] w' := by
    have h5 : Hp w0 [] (R ++ [aloneR v (.slice none 0 0) (coupleE rows ca cb a b)]) [] w' := h2.permR (by rw [← List.singleton_append]; exact List.perm_append_comm)
    exact h5.dropRs R
  refine ⟨v, (coupleE rows ca cb a b).map (setOf (.slice none 0 0)), rfl, by rw [List.map_map]; exact List.map_id _, ?_⟩
  rw [← aloneR_claims]
  exact (h4.setsN (couple_sets rows ca cb a b) (.slice none 0 0)).permR List.perm_append_comm


theorem couple_eq {rows : List (List Int)} {ca cb : List Int} {a b : Nat} (h : (ptsL rows a b).all (fun p => decide (p.1 = p.2)) = false) : coupleE rows ca cb a b = orderE (ptsL rows a b) ca cb a b ++
    (if ((setD (ptsL rows a b)).length : Int) < 3 then [] else
      match linE (setD (ptsL rows a b)) a b with
      | some x => [x]
      | none => match linE (swapL (setD (ptsL rows a b))) b a with
        | some x => [x]
        | none => []) := by
  unfold coupleE
  rw [if_neg (by rw [h]; decide)]
  rfl

set_option maxRecDepth 100000 in
theorem couple_any (bm vars : Nat) (rv : Value) (rows : List (Value × List Int)) (w0 : World) (ht : Tbl w0 bm vars rv rows) (ca cb : List Int) (cav cbv : Value) (a b : Nat) (ha : a < vars) (hb : b < vars) (hca0 : 0 < ca.length) (hcb0 : 0 < cb.length) (hcal : ca.length ≤ 1000000) (hcbl : cb.length ≤ 1000000) (hcav : IsInts w0 cav ca) (hcbv : IsInts w0 cbv cb) : Calls Tryz.prog 58 #[.pointer (some ⟨bm, 0, none⟩), .agg [cav, .int .i64 (a : Int)].toArray, .agg [cbv, .int .i64 (b : Int)].toArray] w0 fun e w' => ∃ v ls, e = .returned v ∧ ls.map (·.2) = coupleE (rowsE rows) ca cb a b ∧ Hp w0 [] (claimsRw v ls :: setsR ls) [] w' := by
  obtain ⟨ad, cap, bb, o, rfl, hcap, hs⟩ := rows_open ht.isr
  have hsm : ∀ p ∈ (ptsL (rowsE rows) a b), smallB p.1 = true ∧ smallB p.2 = true := ptsL_small (fun r hr x hx => by obtain ⟨p, hp, rfl⟩ := List.mem_map.1 hr; exact ht.small p hp x hx) a b
  have hPl : (ptsL (rowsE rows) a b).length = rows.length := by simp [ptsL]
  have hmax := ht.max
  have hspm : ∀ p ∈ (setD (ptsL (rowsE rows) a b)), smallB p.1 = true ∧ smallB p.2 = true := fun p hp => hsm p (mem_setD.1 hp)
  have hspl : (setD (ptsL (rowsE rows) a b)).length ≤ 1000000 := Nat.le_trans (setD_len _) (by rw [hPl]; exact hmax)
  have hswl : (swapL (setD (ptsL (rowsE rows) a b))).length = (setD (ptsL (rowsE rows) a b)).length := by simp [swapL]
  have hswll : (swapL (setD (ptsL (rowsE rows) a b))).length ≤ 1000000 := by rw [hswl]; exact hspl
  have hswm : ∀ p ∈ swapL (setD (ptsL (rowsE rows) a b)), smallB p.1 = true ∧ smallB p.2 = true := fun p hp => by
    obtain ⟨q, hq, rfl⟩ := List.mem_map.1 hp
    exact ⟨(hspm q hq).2, (hspm q hq).1⟩
  refine enterA 204 Tryz.func58 rfl Tryz.ntmps58 rfl (Hp w0 [] [] []) (Hp.init _) ?_
  refine H.seq ?_
  refine H.region ?_
  refine H.boxA rfl (by decide) (fun b4 hb4 => ?_)
  refine H.boxA rfl (by decide) (fun b5 hb5 => ?_)
  refine H.q (yl_assign rfl) rfl rfl (by decide) ?_
  refine HN.done ?_
  refine HN.keep [(0, _), (4, _), (5, _)] ⟨rfl, rfl, rfl, trivial⟩ ?_
  refine HN.then ?_
  refine H.seq ?_
  refine H.region ?_
  refine H.makeMap (κ := Int × Int) (β := Bool) pairV (Value.bool ·) (by decide) (fun b26 hb26 => ?_)
  refine H.q (yl_assign rfl) rfl rfl (by decide) ?_
  refine HN.done ?_
  refine HN.keep [(0, _), (4, _), (5, _), (7, _)] ⟨rfl, rfl, rfl, rfl, trivial⟩ ?_
  refine HN.then ?_
  refine H.seq ?_
  refine H.region ?_
  refine H.q (yl_assign rfl) rfl rfl (by decide) ?_
  refine H.q (yl_assign rfl) rfl rfl (by decide) ?_
  refine HN.done ?_
  refine HN.keep [(0, _), (4, _), (5, _), (7, _), (8, _), (9, _)] ⟨rfl, rfl, rfl, rfl, rfl, rfl, trivial⟩ ?_
  refine HN.then ?_
  refine H.seq ?_
  refine H.region ?_
  refine H.q (yl_assign rfl) rfl rfl (by decide) ?_
  refine H.q (yl_assign rfl) rfl rfl (by decide) ?_
  refine H.q (yl_assign rfl) rfl rfl (by decide) ?_
  refine HN.done ?_
  refine HN.keep [(0, _), (4, _), (5, _), (7, _), (8, _), (9, _), (10, _), (11, _), (12, _)] ⟨rfl, rfl, rfl, rfl, rfl, rfl, rfl, rfl, rfl, trivial⟩ ?_
  refine HN.then ?_
  refine H.seq ?_
  refine H.region ?_
  refine H.q (yl_assign rfl) rfl rfl (by decide) ?_
  refine H.q (yl_assign rfl) rfl rfl (by decide) ?_
  refine H.q (yl_assign rfl) rfl rfl (by decide) ?_
  refine HN.done ?_
  refine HN.keep [(0, _), (4, _), (5, _), (7, _), (8, _), (9, _), (10, _), (11, _), (12, _), (13, _), (14, _), (15, _)] ⟨rfl, rfl, rfl, rfl, rfl, rfl, rfl, rfl, rfl, rfl, rfl, rfl, trivial⟩ ?_
  refine HN.then ?_
  refine H.seq ?_
  refine H.seq ?_
  refine H.cls (Hp w0 [(b26, seenP []), (b5, ex (.cells #[cbv, .int .i64 (b : Int)] 105)), (b4, ex (.cells #[cav, .int .i64 (a : Int)] 105))] [ptsRw (.slice none 0 0) [], ptsRw (.slice none 0 0) []] []) (fun w hw => (hw.rowNil 139 2).rowNil 139 2) ?_
  refine H.region ?_
  refine H.q (yl_move rfl) rfl rfl (by decide) ?_
  refine H.q (yl_nilCheck rfl) rfl rfl (by decide) ?_
  refine H.q (yl_fieldAddr _ fa92_1 rfl) rfl rfl (by decide) ?_
  refine H.q (yl_load Tryz.isAgg37 rfl (fun w hw => cell_ext hw.ext ht.cell)) rfl rfl (by decide) ?_
  refine H.q (yl_len rfl Tryz.underlying37 rfl) rfl rfl (by decide) ?_
  refine H.q (yl_move rfl) rfl rfl (by decide) ?_
  refine HN.done ?_
  refine HN.keep [(4, _), (5, _), (7, _), (8, _), (9, _), (10, _), (11, _), (12, _), (13, _), (14, _), (15, _), (30, _), (31, _), (32, _)] ⟨rfl, rfl, rfl, rfl, rfl, rfl, rfl, rfl, rfl, rfl, rfl, rfl, rfl, rfl, trivial⟩ ?_
  refine HN.then ?_
  refine H.block ?_
  refine H.loop (fun z : CZ => [(4, .pointer (some ⟨b4, 0, none⟩)), (5, .pointer (some ⟨b5, 0, none⟩)), (7, .map (some b26)), (8, z.v), (9, z.t), (10, .bool (((ptsL (rowsE rows) a b).take z.k).all (fun p => decide (p.1 < p.2)))), (11, .bool (((ptsL (rowsE rows) a b).take z.k).all (fun p => decide (p.2 < p.1)))), (12, .bool (((ptsL (rowsE rows) a b).take z.k).all (fun p => decide (p.1 = p.2)))), (13, .bool (((ptsL (rowsE rows) a b).take z.k).all (fun p => decide (p.1 ≤ p.2)))), (14, .bool (((ptsL (rowsE rows) a b).take z.k).all (fun p => decide (p.2 ≤ p.1)))), (15, .bool (((ptsL (rowsE rows) a b).take z.k).all (fun p => decide (p.1 ≠ p.2)))), (30, .slice ad rows.length cap), (31, .int .i64 (rows.length : Int)), (32, .int .i64 (z.k : Int))]) (fun z => z.k ≤ rows.length) (fun z => Hp w0 [(b26, seenP (setD ((ptsL (rowsE rows) a b).take z.k))), (b5, ex (.cells #[cbv, .int .i64 (b : Int)] 105)), (b4, ex (.cells #[cav, .int .i64 (a : Int)] 105))] [ptsRw z.v (setD ((ptsL (rowsE rows) a b).take z.k)), ptsRw z.t (swapL (setD ((ptsL (rowsE rows) a b).take z.k)))] []) (fun z => rows.length - z.k) ⟨0, .slice none 0 0, .slice none 0 0⟩ (Nat.zero_le _) ⟨rfl, rfl, rfl, rfl, rfl, rfl, rfl, rfl, rfl, rfl, rfl, rfl, rfl, rfl, trivial⟩ (fun w hw => hw) (fun z hI0 => ?_)
  obtain ⟨k, v, t⟩ := z
  have hI : k ≤ rows.length := hI0
  refine H.seq ?_
  refine H.region ?_
  refine H.q (yl_lss rfl rfl) rfl rfl (by decide) ?_
  refine HN.done ?_
  refine HN.keep [(4, _), (5, _), (7, _), (8, _), (9, _), (10, _), (11, _), (12, _), (13, _), (14, _), (15, _), (30, _), (31, _), (32, _), (33, _)] ⟨rfl, rfl, rfl, rfl, rfl, rfl, rfl, rfl, rfl, rfl, rfl, rfl, rfl, rfl, rfl, trivial⟩ ?_
  refine HN.then ?_
  refine H.seq ?_
  refine H.cond _ rfl (fun t0 => ?_) (fun t0 => ?_)
  · simp only [decide_eq_true_eq] at t0
    have hlt : k < rows.length := by omega
    have hltP : k < (ptsL (rowsE rows) a b).length := by rw [hPl]; exact hlt
    obtain ⟨h1, h2, h3⟩ := hs k hlt
    obtain ⟨adr, capr, br, or, h4, hcapr, hsr⟩ := ints_open h3
    have hla : a < rows[k].2.length := by rw [ht.len _ (List.getElem_mem hlt)]; exact ha
    have hlb : b < rows[k].2.length := by rw [ht.len _ (List.getElem_mem hlt)]; exact hb
    have hPk : (ptsL (rowsE rows) a b)[k] = ((rows[k].2.getD a 0), (rows[k].2.getD b 0)) := by simp [ptsL]
    have hxy : smallB (rows[k].2.getD a 0) = true ∧ smallB (rows[k].2.getD b 0) = true := by have := hsm _ (List.getElem_mem hltP); rw [hPk] at this; exact this
    have hsl : (setD ((ptsL (rowsE rows) a b).take k)).length ≤ 1000000 := by
      have h1 := setD_len ((ptsL (rowsE rows) a b).take k)
      have h2 := List.length_take_le k (ptsL (rowsE rows) a b)
      have h3 := ht.max
      omega
    have hswl : (swapL (setD ((ptsL (rowsE rows) a b).take k))).length ≤ 1000000 := by simpa [swapL] using hsl
    have f0 : ((ptsL (rowsE rows) a b).take (k + 1)).all (fun p => decide (p.1 < p.2)) = (((ptsL (rowsE rows) a b).take k).all (fun p => decide (p.1 < p.2)) && decide ((rows[k].2.getD a 0) < (rows[k].2.getD b 0))) := by rw [all_take hltP, hPk]
    have f1 : ((ptsL (rowsE rows) a b).take (k + 1)).all (fun p => decide (p.2 < p.1)) = (((ptsL (rowsE rows) a b).take k).all (fun p => decide (p.2 < p.1)) && decide ((rows[k].2.getD b 0) < (rows[k].2.getD a 0))) := by rw [all_take hltP, hPk]
    have f2 : ((ptsL (rowsE rows) a b).take (k + 1)).all (fun p => decide (p.1 = p.2)) = (((ptsL (rowsE rows) a b).take k).all (fun p => decide (p.1 = p.2)) && decide ((rows[k].2.getD a 0) = (rows[k].2.getD b 0))) := by rw [all_take hltP, hPk]
    have f3 : ((ptsL (rowsE rows) a b).take (k + 1)).all (fun p => decide (p.1 ≤ p.2)) = (((ptsL (rowsE rows) a b).take k).all (fun p => decide (p.1 ≤ p.2)) && decide ((rows[k].2.getD a 0) ≤ (rows[k].2.getD b 0))) := by rw [all_take hltP, hPk]
    have f4 : ((ptsL (rowsE rows) a b).take (k + 1)).all (fun p => decide (p.2 ≤ p.1)) = (((ptsL (rowsE rows) a b).take k).all (fun p => decide (p.2 ≤ p.1)) && decide ((rows[k].2.getD b 0) ≤ (rows[k].2.getD a 0))) := by rw [all_take hltP, hPk]
    have f5 : ((ptsL (rowsE rows) a b).take (k + 1)).all (fun p => decide (p.1 ≠ p.2)) = (((ptsL (rowsE rows) a b).take k).all (fun p => decide (p.1 ≠ p.2)) && decide ((rows[k].2.getD a 0) ≠ (rows[k].2.getD b 0))) := by rw [all_take hltP, hPk]
    refine H.keep [(4, _), (5, _), (7, _), (8, _), (9, _), (10, _), (11, _), (12, _), (13, _), (14, _), (15, _), (30, _), (31, _), (32, _)] ⟨rfl, rfl, rfl, rfl, rfl, rfl, rfl, rfl, rfl, rfl, rfl, rfl, rfl, rfl, trivial⟩ ?_
    refine HN.skip ?_
    refine HN.then ?_
    -- branchy seq 0, live: [4, 5, 7, 8, 9, 10, 11, 12, 13, 14, 15, 30, 31, 32]
    refine H.seq ?_
    refine H.block ?_
    refine H.seq ?_
    refine H.region ?_
    refine H.q (yl_ix k Tryz.underlying37 Tryz.sizeOf23 h1 rfl rfl rfl hlt) rfl rfl (by decide) ?_
    refine H.q (yl_load Tryz.isAgg23 rfl (fun w hw => (cell_ext hw.ext h2).trans (by rw [h4]))) rfl rfl (by decide) ?_
    refine H.q (yl_assign rfl) rfl rfl (by decide) ?_
    refine HN.done ?_
    refine HN.keep [(4, _), (5, _), (7, _), (8, _), (9, _), (10, _), (11, _), (12, _), (13, _), (14, _), (15, _), (17, _), (30, _), (31, _), (32, _)] ⟨rfl, rfl, rfl, rfl, rfl, rfl, rfl, rfl, rfl, rfl, rfl, rfl, rfl, rfl, rfl, trivial⟩ ?_
    refine HN.then ?_
    refine H.seq ?_
    refine H.regionQ Tryz.mixed (by kernel_rfl) (stab_hp _ _ _ _) ?_
    refine G.q (yl_move rfl) rfl rfl (by decide) ?_
    refine G.q (yl_fieldAddr _ fa105_1 rfl) rfl rfl (by decide) ?_
    refine G.q (yl_load Tryz.isAgg3 rfl (fun w hw => hw.cell 2 rfl rfl)) rfl rfl (by decide) ?_
    refine G.q (yl_ix a Tryz.underlying23 Tryz.sizeOf2 (hsr a hla).1 rfl rfl rfl hla) rfl rfl (by decide) ?_
    refine G.q (yl_load Tryz.isAgg2 rfl (fun w hw => cell_ext hw.ext (hsr a hla).2)) rfl rfl (by decide) ?_
    refine G.q (yl_move rfl) rfl rfl (by decide) ?_
    refine G.q (yl_fieldAddr _ fa105_1 rfl) rfl rfl (by decide) ?_
    refine G.q (yl_load Tryz.isAgg3 rfl (fun w hw => hw.cell 1 rfl rfl)) rfl rfl (by decide) ?_
    refine G.q (yl_ix b Tryz.underlying23 Tryz.sizeOf2 (hsr b hlb).1 rfl rfl rfl hlb) rfl rfl (by decide) ?_
    refine G.q (yl_load Tryz.isAgg2 rfl (fun w hw => cell_ext hw.ext (hsr b hlb).2)) rfl rfl (by decide) ?_
    refine G.q (yl_assign rfl) rfl rfl (by decide) ?_
    refine G.q (yl_assign rfl) rfl rfl (by decide) ?_
    refine HN.doneG ?_
    refine HN.keep [(4, _), (5, _), (7, _), (8, _), (9, _), (10, _), (11, _), (12, _), (13, _), (14, _), (15, _), (18, _), (19, _), (30, _), (31, _), (32, _)] ⟨rfl, rfl, rfl, rfl, rfl, rfl, rfl, rfl, rfl, rfl, rfl, rfl, rfl, rfl, rfl, rfl, trivial⟩ ?_
    refine HN.then ?_
    refine H.seq ?_
    refine H.region ?_
    refine H.q (yl_move rfl) rfl rfl (by decide) ?_
    refine H.q (yl_move rfl) rfl rfl (by decide) ?_
    refine H.qg (wn_t rfl rfl (by decide) rfl) (fun hg => yl_sub [(18, _)] ⟨rfl, trivial⟩ (yl_move rfl)) rfl (by decide) ?_
    refine H.qg (wn_t rfl rfl (by decide) rfl) (fun hg => yl_sub [(19, _)] ⟨rfl, trivial⟩ (yl_move rfl)) rfl (by decide) ?_
    refine H.qg (wn_t rfl rfl (by decide) rfl) (fun hg => yl_sub [(48, _), (49, _)] ⟨slT rfl hg, slT rfl hg, trivial⟩ (yl_lss rfl rfl)) rfl (by decide) ?_
    refine H.q (yl_and rfl rfl) rfl rfl (by decide) ?_
    refine H.q (yl_move rfl) rfl rfl (by decide) ?_
    refine H.q (yl_move rfl) rfl rfl (by decide) ?_
    refine H.qg (wn_t rfl rfl (by decide) rfl) (fun hg => yl_sub [(19, _)] ⟨rfl, trivial⟩ (yl_move rfl)) rfl (by decide) ?_
    refine H.qg (wn_t rfl rfl (by decide) rfl) (fun hg => yl_sub [(18, _)] ⟨rfl, trivial⟩ (yl_move rfl)) rfl (by decide) ?_
    refine H.qg (wn_t rfl rfl (by decide) rfl) (fun hg => yl_sub [(54, _), (55, _)] ⟨slT rfl hg, slT rfl hg, trivial⟩ (yl_lss rfl rfl)) rfl (by decide) ?_
    refine H.q (yl_and rfl rfl) rfl rfl (by decide) ?_
    refine H.q (yl_move rfl) rfl rfl (by decide) ?_
    refine H.q (yl_move rfl) rfl rfl (by decide) ?_
    refine H.qg (wn_t rfl rfl (by decide) rfl) (fun hg => yl_sub [(18, _)] ⟨rfl, trivial⟩ (yl_move rfl)) rfl (by decide) ?_
    refine H.qg (wn_t rfl rfl (by decide) rfl) (fun hg => yl_sub [(19, _)] ⟨rfl, trivial⟩ (yl_move rfl)) rfl (by decide) ?_
    refine H.qg (wn_t rfl rfl (by decide) rfl) (fun hg => yl_sub [(60, _), (61, _)] ⟨slT rfl hg, slT rfl hg, trivial⟩ (yl_eql rfl rfl)) rfl (by decide) ?_
    refine H.q (yl_and rfl rfl) rfl rfl (by decide) ?_
    refine H.q (yl_assign rfl) rfl rfl (by decide) ?_
    refine H.q (yl_assign rfl) rfl rfl (by decide) ?_
    refine H.q (yl_assign rfl) rfl rfl (by decide) ?_
    refine HN.done ?_
    refine HN.keep [(4, _), (5, _), (7, _), (8, _), (9, _), (10, _), (11, _), (12, _), (13, _), (14, _), (15, _), (18, _), (19, _), (30, _), (31, _), (32, _)] ⟨rfl, rfl, rfl, rfl, rfl, rfl, rfl, rfl, rfl, rfl, rfl, rfl, rfl, rfl, rfl, rfl, trivial⟩ ?_
    refine HN.then ?_
    refine H.seq ?_
    refine H.region ?_
    refine H.q (yl_move rfl) rfl rfl (by decide) ?_
    refine H.q (yl_move rfl) rfl rfl (by decide) ?_
    refine H.qg (wn_t rfl rfl (by decide) rfl) (fun hg => yl_sub [(18, _)] ⟨rfl, trivial⟩ (yl_move rfl)) rfl (by decide) ?_
    refine H.qg (wn_t rfl rfl (by decide) rfl) (fun hg => yl_sub [(19, _)] ⟨rfl, trivial⟩ (yl_move rfl)) rfl (by decide) ?_
    refine H.qg (wn_t rfl rfl (by decide) rfl) (fun hg => yl_sub [(66, _), (67, _)] ⟨slT rfl hg, slT rfl hg, trivial⟩ (yl_leq rfl rfl)) rfl (by decide) ?_
    refine H.q (yl_and rfl rfl) rfl rfl (by decide) ?_
    refine H.q (yl_move rfl) rfl rfl (by decide) ?_
    refine H.q (yl_move rfl) rfl rfl (by decide) ?_
    refine H.qg (wn_t rfl rfl (by decide) rfl) (fun hg => yl_sub [(19, _)] ⟨rfl, trivial⟩ (yl_move rfl)) rfl (by decide) ?_
    refine H.qg (wn_t rfl rfl (by decide) rfl) (fun hg => yl_sub [(18, _)] ⟨rfl, trivial⟩ (yl_move rfl)) rfl (by decide) ?_
    refine H.qg (wn_t rfl rfl (by decide) rfl) (fun hg => yl_sub [(72, _), (73, _)] ⟨slT rfl hg, slT rfl hg, trivial⟩ (yl_leq rfl rfl)) rfl (by decide) ?_
    refine H.q (yl_and rfl rfl) rfl rfl (by decide) ?_
    refine H.q (yl_move rfl) rfl rfl (by decide) ?_
    refine H.q (yl_move rfl) rfl rfl (by decide) ?_
    refine H.qg (wn_t rfl rfl (by decide) rfl) (fun hg => yl_sub [(18, _)] ⟨rfl, trivial⟩ (yl_move rfl)) rfl (by decide) ?_
    refine H.qg (wn_t rfl rfl (by decide) rfl) (fun hg => yl_sub [(19, _)] ⟨rfl, trivial⟩ (yl_move rfl)) rfl (by decide) ?_
    refine H.qg (wn_t rfl rfl (by decide) rfl) (fun hg => yl_sub [(78, _), (79, _)] ⟨slT rfl hg, slT rfl hg, trivial⟩ (yl_neq rfl rfl)) rfl (by decide) ?_
    refine H.q (yl_and rfl rfl) rfl rfl (by decide) ?_
    refine H.q (yl_assign rfl) rfl rfl (by decide) ?_
    refine H.q (yl_assign rfl) rfl rfl (by decide) ?_
    refine H.q (yl_assign rfl) rfl rfl (by decide) ?_
    refine HN.done ?_
    refine HN.keep [(4, _), (5, _), (7, _), (8, _), (9, _), (10, _), (11, _), (12, _), (13, _), (14, _), (15, _), (18, _), (19, _), (30, _), (31, _), (32, _)] ⟨rfl, rfl, rfl, rfl, rfl, rfl, rfl, rfl, rfl, rfl, rfl, rfl, rfl, rfl, rfl, rfl, trivial⟩ ?_
    refine HN.then ?_
    refine H.seq ?_
    refine H.region ?_
    refine H.q (yl_move rfl) rfl rfl (by decide) ?_
    refine H.q (yl_move rfl) rfl rfl (by decide) ?_
    refine H.q (yl_move rfl) rfl rfl (by decide) ?_
    refine H.q (yl_build (bd139 _ _) rfl) rfl rfl (by decide) ?_
    refine H.q (yl_to (yl_lookup (ke := pairV) (ve := (Value.bool ·)) 0 ((rows[k].2.getD a 0), (rows[k].2.getD b 0)) Tryz.keyed139 Tryz.underlying137 Tryz.zeroValue4 pairV_inj (keysP hsm k) ⟨_, rfl, hxy⟩ rfl rfl rfl) (lookP _ _)) rfl rfl (by decide) ?_
    refine H.q (yl_not rfl) rfl rfl (by decide) ?_
    refine HN.done ?_
    refine HN.keep [(4, _), (5, _), (7, _), (8, _), (9, _), (10, _), (11, _), (12, _), (13, _), (14, _), (15, _), (18, _), (19, _), (30, _), (31, _), (32, _), (87, _)] ⟨rfl, rfl, rfl, rfl, rfl, rfl, rfl, rfl, rfl, rfl, rfl, rfl, rfl, rfl, rfl, rfl, rfl, trivial⟩ ?_
    refine HN.then ?_
    refine H.cond _ rfl (fun t1 => ?_) (fun t1 => ?_)
    · replace t1 : ((rows[k].2.getD a 0), (rows[k].2.getD b 0)) ∉ setD ((ptsL (rowsE rows) a b).take k) := by simpa using t1
      refine H.keep [(4, _), (5, _), (7, _), (8, _), (9, _), (10, _), (11, _), (12, _), (13, _), (14, _), (15, _), (18, _), (19, _), (30, _), (31, _), (32, _)] ⟨rfl, rfl, rfl, rfl, rfl, rfl, rfl, rfl, rfl, rfl, rfl, rfl, rfl, rfl, rfl, rfl, trivial⟩ ?_
      refine H.seq ?_
      refine H.region ?_
      refine H.q (yl_move rfl) rfl rfl (by decide) ?_
      refine H.q (yl_move rfl) rfl rfl (by decide) ?_
      refine H.q (yl_move rfl) rfl rfl (by decide) ?_
      refine H.q (yl_build (bd139 _ _) rfl) rfl rfl (by decide) ?_
      refine H.mapUpdate (ke := pairV) (ve := (Value.bool ·)) 0 ((rows[k].2.getD a 0), (rows[k].2.getD b 0)) true Tryz.keyed139 Tryz.underlying137 pairV_inj (keysP hsm k) ⟨_, rfl, hxy⟩ rfl rfl rfl rfl ?_
      refine HN.done ?_
      refine HN.keep [(4, _), (5, _), (7, _), (8, _), (9, _), (10, _), (11, _), (12, _), (13, _), (14, _), (15, _), (18, _), (19, _), (30, _), (31, _), (32, _)] ⟨rfl, rfl, rfl, rfl, rfl, rfl, rfl, rfl, rfl, rfl, rfl, rfl, rfl, rfl, rfl, rfl, trivial⟩ ?_
      refine HN.then ?_
      refine H.seq ?_
      refine H.region ?_
      refine H.q (yl_move rfl) rfl rfl (by decide) ?_
      refine H.q (yl_move rfl) rfl rfl (by decide) ?_
      refine H.q (yl_move rfl) rfl rfl (by decide) ?_
      refine H.q (yl_build (bd139 _ _) rfl) rfl rfl (by decide) ?_
      refine H.buildSlice (bs138 _ _) rfl (by decide) (fun b96 hb96 => ?_)
      refine H.append 0 [.int .i64 (rows[k].2.getD a 0), .int .i64 (rows[k].2.getD b 0)] el138 rfl rfl rfl rfl (fun w hw => newsN (hw.blk 0 rfl)) (by simp [Value.oneCell']) (by simp only [ptsRw]; omega) (by decide) (by decide) (fun v97 => ?_)
      refine H.q (yl_assign rfl) rfl rfl (by decide) ?_
      refine HN.done ?_
      refine HN.keep [(4, _), (5, _), (7, _), (8, _), (9, _), (10, _), (11, _), (12, _), (13, _), (14, _), (15, _), (18, _), (19, _), (30, _), (31, _), (32, _)] ⟨rfl, rfl, rfl, rfl, rfl, rfl, rfl, rfl, rfl, rfl, rfl, rfl, rfl, rfl, rfl, rfl, trivial⟩ ?_
      refine HN.then ?_
      refine H.region ?_
      refine H.q (yl_move rfl) rfl rfl (by decide) ?_
      refine H.q (yl_move rfl) rfl rfl (by decide) ?_
      refine H.q (yl_move rfl) rfl rfl (by decide) ?_
      refine H.q (yl_build (bd139 _ _) rfl) rfl rfl (by decide) ?_
      refine H.buildSlice (bs138 _ _) rfl (by decide) (fun b102 hb102 => ?_)
      refine H.append 1 [.int .i64 (rows[k].2.getD b 0), .int .i64 (rows[k].2.getD a 0)] el138 rfl rfl rfl rfl (fun w hw => newsN (hw.blk 0 rfl)) (by simp [Value.oneCell']) (by simp only [ptsRw]; omega) (by decide) (by decide) (fun v103 => ?_)
      refine H.q (yl_assign rfl) rfl rfl (by decide) ?_
      refine HN.done ?_
      refine HN.keep [(4, _), (5, _), (7, _), (8, _), (9, _), (10, _), (11, _), (12, _), (13, _), (14, _), (15, _), (30, _), (31, _), (32, _)] ⟨rfl, rfl, rfl, rfl, rfl, rfl, rfl, rfl, rfl, rfl, rfl, rfl, rfl, rfl, trivial⟩ ?_
      refine HN.block ?_
      refine HN.then ?_
      refine H.region ?_
      refine H.q (yl_add rfl rfl _ rfl (by omega)) rfl rfl (by decide) ?_
      refine H.q (yl_move rfl) rfl rfl (by decide) ?_
      refine HN.done ?_
      refine HN.keep [(4, _), (5, _), (7, _), (8, _), (9, _), (10, _), (11, _), (12, _), (13, _), (14, _), (15, _), (30, _), (31, _), (32, _)] ⟨rfl, rfl, rfl, rfl, rfl, rfl, rfl, rfl, rfl, rfl, rfl, rfl, rfl, rfl, trivial⟩ ?_
      refine HN.then ?_
      refine H.at ⟨k + 1, v97, v103⟩ ⟨by simp only; omega, by simp only; omega⟩ ⟨rfl, rfl, rfl, rfl, rfl, by simp only [f0]; rfl, by simp only [f1]; rfl, by simp only [f2]; rfl, by simp only [f3]; rfl, by simp only [f4]; rfl, by simp only [f5]; rfl, rfl, rfl, rfl, trivial⟩ (fun w hw => ?_)
      have e1 : setD ((ptsL (rowsE rows) a b).take (k + 1)) = insD (setD ((ptsL (rowsE rows) a b).take k)) ((rows[k].2.getD a 0), (rows[k].2.getD b 0)) := by rw [setD_take hltP, hPk]
      simp only [e1]
      rw [ptsRw_ins t1, ptsRw_swap t1, seenP_ins]
      exact hw.drop.drop
    · replace t1 : ((rows[k].2.getD a 0), (rows[k].2.getD b 0)) ∈ setD ((ptsL (rowsE rows) a b).take k) := by simpa using t1
      refine H.keep [(4, _), (5, _), (7, _), (8, _), (9, _), (10, _), (11, _), (12, _), (13, _), (14, _), (15, _), (30, _), (31, _), (32, _)] ⟨rfl, rfl, rfl, rfl, rfl, rfl, rfl, rfl, rfl, rfl, rfl, rfl, rfl, rfl, trivial⟩ ?_
      refine HN.skip ?_
      refine HN.block ?_
      refine HN.then ?_
      refine H.region ?_
      refine H.q (yl_add rfl rfl _ rfl (by omega)) rfl rfl (by decide) ?_
      refine H.q (yl_move rfl) rfl rfl (by decide) ?_
      refine HN.done ?_
      refine HN.keep [(4, _), (5, _), (7, _), (8, _), (9, _), (10, _), (11, _), (12, _), (13, _), (14, _), (15, _), (30, _), (31, _), (32, _)] ⟨rfl, rfl, rfl, rfl, rfl, rfl, rfl, rfl, rfl, rfl, rfl, rfl, rfl, rfl, trivial⟩ ?_
      refine HN.then ?_
      refine H.at ⟨k + 1, v, t⟩ ⟨by simp only; omega, by simp only; omega⟩ ⟨rfl, rfl, rfl, rfl, rfl, by simp only [f0]; rfl, by simp only [f1]; rfl, by simp only [f2]; rfl, by simp only [f3]; rfl, by simp only [f4]; rfl, by simp only [f5]; rfl, rfl, rfl, rfl, trivial⟩ (fun w hw => ?_)
      have e1 : setD ((ptsL (rowsE rows) a b).take (k + 1)) = setD ((ptsL (rowsE rows) a b).take k) := by rw [setD_take hltP, hPk]; exact if_pos t1
      simp only [e1]
      exact hw
  · simp only [decide_eq_false_iff_not] at t0
    have hkl : k = (ptsL (rowsE rows) a b).length := by rw [hPl]; omega
    have htk : (ptsL (rowsE rows) a b).take k = (ptsL (rowsE rows) a b) := by rw [hkl, List.take_length]
    rw [htk]
    refine H.pull (fun w hw => Rw.isSlice (hw.row 0 rfl)) (fun ho => ?_)
    obtain ⟨adp, capp, rfl⟩ := ho
    refine H.pull (fun w hw => Rw.isSlice (hw.row 1 rfl)) (fun ho => ?_)
    obtain ⟨adt, capt, rfl⟩ := ho
    refine H.keep [(4, _), (5, _), (8, _), (9, _), (10, _), (11, _), (12, _), (13, _), (14, _), (15, _)] ⟨rfl, rfl, rfl, rfl, rfl, rfl, rfl, rfl, rfl, rfl, trivial⟩ ?_
    refine HX.exit ?_
    refine HX.then ?_
    refine HX.then ?_
    refine HX.hit ?_
    refine HN.then ?_
    refine H.seq ?_
    refine H.seq ?_
    refine H.region ?_
    refine H.q (yl_move rfl) rfl rfl (by decide) ?_
    refine HN.done ?_
    refine HN.keep [(4, _), (5, _), (8, _), (9, _), (10, _), (11, _), (13, _), (14, _), (15, _), (105, _)] ⟨rfl, rfl, rfl, rfl, rfl, rfl, rfl, rfl, rfl, rfl, trivial⟩ ?_
    refine HN.then ?_
    refine H.cond _ rfl (fun t2 => ?_) (fun t2 => ?_)
    · skip
      refine H.keep [(4, _), (5, _)] ⟨rfl, rfl, trivial⟩ ?_
      refine H.seq ?_
      refine H.region ?_
      refine H.q (yl_fieldAddr _ fa105_1 rfl) rfl rfl (by decide) ?_
      refine H.q (yl_load Tryz.isAgg3 rfl (fun w hw => hw.cell 2 rfl rfl)) rfl rfl (by decide) ?_
      refine H.q (yl_fieldAddr _ fa105_1 rfl) rfl rfl (by decide) ?_
      refine H.q (yl_load Tryz.isAgg3 rfl (fun w hw => hw.cell 1 rfl rfl)) rfl rfl (by decide) ?_
      refine H.q (yl_build (bd25_012 _ _ _) rfl) rfl rfl (by decide) ?_
      refine H.buildSlice (bs28 _ _ _ _ _ _ _ _) rfl (by decide) (fun b111 hb111 => ?_)
      refine H.q (yl_assign rfl) rfl rfl (by decide) ?_
      refine HN.done ?_
      refine HN.keep [(6, _)] ⟨rfl, trivial⟩ ?_
      refine HN.then ?_
      refine HR.ret ?_
      refine HR.then ?_
      refine HR.ret1 _ Tryz.results58 rfl (fun w hw => ?_)
      have e1 : coupleE (rowsE rows) ca cb a b = [⟨7, a, b, 0, 0, []⟩] := by unfold coupleE; rw [if_pos t2]
      apply coupleFin (ca := ca) (cb := cb) (a := a) (b := b) (rows := rowsE rows)
      have e2 : aloneR (.slice (some ⟨b111, 0, none⟩) 1 1) (.slice none 0 0) (coupleE (rowsE rows) ca cb a b) = ⟨.slice (some ⟨b111, 0, none⟩) 1 1, 1, 25, 6, [.int .u8 7, .int .i64 (a : Int), .int .i64 (b : Int), .int .i64 0, .int .i64 0, .slice none 0 0]⟩ := by rw [e1]; simp [aloneR, clS, cellsI]
      rw [e2]
      exact (hw.toRow rfl (by decide)).dropLs [_, _, _]
    · skip
      refine H.keep [(4, _), (5, _), (8, _), (9, _), (10, _), (11, _), (13, _), (14, _), (15, _)] ⟨rfl, rfl, rfl, rfl, rfl, rfl, rfl, rfl, rfl, trivial⟩ ?_
      refine HN.skip ?_
      refine HN.then ?_
      refine H.seq ?_
      refine H.region ?_
      refine H.alloc1 Tryz.zeroValue28 rfl (by decide) (fun b20 hb20 => ?_)
      refine HN.done ?_
      refine HN.keep [(4, _), (5, _), (8, _), (9, _), (10, _), (11, _), (13, _), (14, _), (15, _), (20, _)] ⟨rfl, rfl, rfl, rfl, rfl, rfl, rfl, rfl, rfl, rfl, trivial⟩ ?_
      refine HN.cls (Hp w0 [(b20, ex (.cells #[.slice none 0 0] 28)), (b26, seenP (setD (ptsL (rowsE rows) a b))), (b5, ex (.cells #[cbv, .int .i64 (b : Int)] 105)), (b4, ex (.cells #[cav, .int .i64 (a : Int)] 105))] [⟨.slice none 0 0, 0, 25, 6, []⟩, ptsRw (.slice adp (setD (ptsL (rowsE rows) a b)).length capp) (setD (ptsL (rowsE rows) a b)), ptsRw (.slice adt (swapL (setD (ptsL (rowsE rows) a b))).length capt) (swapL (setD (ptsL (rowsE rows) a b)))] []) (fun w hw => hw.rowNil 25 6) ?_
      refine HN.then ?_
      refine H.seq ?_
      refine H.region ?_
      refine H.q (yl_makeFunc (xs := [.tmp 20]) rfl) rfl rfl (by decide) ?_
      refine H.q (yl_assign rfl) rfl rfl (by decide) ?_
      refine HN.done ?_
      refine HN.keep [(4, _), (5, _), (8, _), (9, _), (10, _), (11, _), (13, _), (14, _), (15, _), (20, _), (21, _)] ⟨rfl, rfl, rfl, rfl, rfl, rfl, rfl, rfl, rfl, rfl, rfl, trivial⟩ ?_
      refine HN.then ?_
      refine H.seqCut (fun z : Value => [(4, .pointer (some ⟨b4, 0, none⟩)), (5, .pointer (some ⟨b5, 0, none⟩)), (8, .slice adp (setD (ptsL (rowsE rows) a b)).length capp), (9, .slice adt (swapL (setD (ptsL (rowsE rows) a b))).length capt), (20, .pointer (some ⟨b20, 0, none⟩))]) (fun z => Hp w0 [(b20, ex (.cells #[z] 28)), (b26, seenP (setD (ptsL (rowsE rows) a b))), (b5, ex (.cells #[cbv, .int .i64 (b : Int)] 105)), (b4, ex (.cells #[cav, .int .i64 (a : Int)] 105))] [aloneR z (.slice none 0 0) (orderE (ptsL (rowsE rows) a b) ca cb a b), ptsRw (.slice adp (setD (ptsL (rowsE rows) a b)).length capp) (setD (ptsL (rowsE rows) a b)), ptsRw (.slice adt (swapL (setD (ptsL (rowsE rows) a b))).length capt) (swapL (setD (ptsL (rowsE rows) a b)))] []) ?_ (fun z => ?_)
      · refine H.block ?_
        refine H.seq ?_
        refine H.region ?_
        refine H.q (yl_move rfl) rfl rfl (by decide) ?_
        refine H.q (yl_assign rfl) rfl rfl (by decide) ?_
        refine HN.done ?_
        refine HN.keep [(4, _), (5, _), (8, _), (9, _), (11, _), (13, _), (14, _), (15, _), (20, _), (21, _), (113, _)] ⟨rfl, rfl, rfl, rfl, rfl, rfl, rfl, rfl, rfl, rfl, rfl, trivial⟩ ?_
        refine HN.then ?_
        refine H.cond _ rfl (fun t3 => ?_) (fun t3 => ?_)
        · refine H.keep [(4, _), (5, _), (8, _), (9, _), (20, _), (21, _)] ⟨rfl, rfl, rfl, rfl, rfl, rfl, trivial⟩ ?_
          refine H.regionA (Hp w0 [(b26, seenP (setD (ptsL (rowsE rows) a b))), (b5, ex (.cells #[cbv, .int .i64 (b : Int)] 105)), (b4, ex (.cells #[cav, .int .i64 (a : Int)] 105))] [] []) Tryz.mixed (stab_hp _ _ _ _) ?_
          refine H.take (i := 0) rfl (by kernel_rfl) (by kernel_rfl) (by kernel_rfl) (fun _ _ _ h => h) (fun w hw => hw.drop.noR) (ye_move rfl) rfl rfl (by decide) ?_
          refine H.take (i := 1) rfl (by kernel_rfl) (by kernel_rfl) (by kernel_rfl) (fun _ _ _ h => h) (fun w hw => hw.drop.noR) (ye_loadAgg _ Tryz.isAgg105 Tryz.sizeOf105 rfl (fun w hw => cells_of_blk (hw.blk 2 rfl)) rfl) rfl rfl (by decide) ?_
          refine H.take (i := 2) rfl (by kernel_rfl) (by kernel_rfl) (by kernel_rfl) (fun _ _ _ h => h) (fun w hw => hw.drop.noR) (ye_loadAgg _ Tryz.isAgg105 Tryz.sizeOf105 rfl (fun w hw => cells_of_blk (hw.blk 1 rfl)) rfl) rfl rfl (by decide) ?_
          refine H.take (i := 3) rfl (by kernel_rfl) (by kernel_rfl) (by kernel_rfl) (fun _ _ _ h => h) (fun w hw => hw.drop.noR) (ye_fieldAddr _ fa105_0 rfl) rfl rfl (by decide) ?_
          refine H.take (i := 4) rfl (by kernel_rfl) (by kernel_rfl) (by kernel_rfl) (fun _ _ _ h => h) (fun w hw => hw.drop.noR) (ye_loadAgg [cav] Tryz.isAgg102 Tryz.sizeOf102 rfl (fun w hw => cell_one (hw.cell 2 rfl rfl)) rfl) rfl rfl (by decide) ?_
          refine H.take (i := 6) rfl (by kernel_rfl) (by kernel_rfl) (by kernel_rfl) (fun _ _ _ h => h) (fun w hw => hw.drop.noR) (ye_fieldAddr _ fa105_0 rfl) rfl rfl (by decide) ?_
          refine H.take (i := 7) rfl (by kernel_rfl) (by kernel_rfl) (by kernel_rfl) (fun _ _ _ h => h) (fun w hw => hw.drop.noR) (ye_loadAgg [cbv] Tryz.isAgg102 Tryz.sizeOf102 rfl (fun w hw => cell_one (hw.cell 1 rfl rfl)) rfl) rfl rfl (by decide) ?_
          refine H.one (i := 5) rfl (by kernel_rfl) ?_
          refine H.q (yl_call (xs := [.tmp 119]) Tryz.call85 (stab_hp _ _ _ _) rfl (fun w hw => high_any ca cav w hca0 (hcav.ext hw.ext) hcal)) rfl rfl (by decide) ?_
          refine H.on (fun w hw => hw.drop.noR) ?_
          refine H.one (i := 8) rfl (by kernel_rfl) ?_
          refine H.q (yl_call (xs := [.tmp 122]) Tryz.call84 (stab_hp _ _ _ _) rfl (fun w hw => low_any cb cbv w hcb0 (hcbv.ext hw.ext))) rfl rfl (by decide) ?_
          refine H.on (fun w hw => hw.drop.noR) ?_
          refine H.take (i := 9) rfl (by kernel_rfl) (by kernel_rfl) (by kernel_rfl) (fun _ _ _ h => h) (fun w hw => hw.drop.noR) (ye_lss rfl rfl) rfl rfl (by decide) ?_
          refine H.one (i := 10) rfl (by kernel_rfl) ?_
          refine H.callvX (α := Value) (xs := [.const (.int .u8 9), .tmp 116, .tmp 117, .tmp 124]) (caps := [.pointer (some ⟨b20, 0, none⟩)]) (fun _ => .tuple #[]) (fun _ => True) (fun lv => Hp w0 [(b20, ex (.cells #[lv] 28)), (b26, seenP (setD (ptsL (rowsE rows) a b))), (b5, ex (.cells #[cbv, .int .i64 (b : Int)] 105)), (b4, ex (.cells #[cav, .int .i64 (a : Int)] 105))] [⟨lv, putN (decide (hiE ca < loE cb)) 0, 25, 6, putXs (decide (hiE ca < loE cb)) 9 a b []⟩, ptsRw (.slice adp (setD (ptsL (rowsE rows) a b)).length capp) (setD (ptsL (rowsE rows) a b)), ptsRw (.slice adt (swapL (setD (ptsL (rowsE rows) a b))).length capt) (swapL (setD (ptsL (rowsE rows) a b)))] []) Tryz.call89 rfl rfl (by decide) (fun w hw => (put_any 9 cav cbv (.slice none 0 0) a b (decide (hiE ca < loE cb)) b20 0 (Nat.zero_le _) [] _ _ _ _ w hw).mono fun e w' h => by obtain ⟨h1, lv, h2⟩ := h; exact ⟨lv, h1, trivial, h2⟩) (fun lv _ => ?_)
          refine H.on (fun w hw => hw.drop.noR) ?_
          refine H.over (by kernel_rfl) ?_
          refine HN.keep [(4, _), (5, _), (8, _), (9, _), (20, _)] ⟨rfl, rfl, rfl, rfl, rfl, trivial⟩ ?_
          refine HN.block ?_
          refine HN.then ?_
          refine H.at' lv ⟨rfl, rfl, rfl, rfl, rfl, trivial⟩ (fun w hw => ?_)
          have eo : (orderE (ptsL (rowsE rows) a b) ca cb a b) = (if hiE ca < loE cb then [] else [⟨9, (a : Nat), (b : Nat), 0, 0, []⟩]) := by unfold orderE; rw [if_pos t3]
          by_cases hf : hiE ca < loE cb
          · have e2 : aloneR lv (.slice none 0 0) (orderE (ptsL (rowsE rows) a b) ca cb a b) = ⟨lv, putN (decide (hiE ca < loE cb)) 0, 25, 6, putXs (decide (hiE ca < loE cb)) 9 a b []⟩ := by rw [eo, if_pos hf, decide_eq_true hf]; rfl
            rw [e2]; exact hw
          · have e2 : aloneR lv (.slice none 0 0) (orderE (ptsL (rowsE rows) a b) ca cb a b) = ⟨lv, putN (decide (hiE ca < loE cb)) 0, 25, 6, putXs (decide (hiE ca < loE cb)) 9 a b []⟩ := by rw [eo, if_neg hf, decide_eq_false hf]; simp [aloneR, putN, putXs, clS, cellsI]
            rw [e2]; exact hw
        · refine H.keep [(4, _), (5, _), (8, _), (9, _), (11, _), (13, _), (14, _), (15, _), (20, _), (21, _)] ⟨rfl, rfl, rfl, rfl, rfl, rfl, rfl, rfl, rfl, rfl, trivial⟩ ?_
          refine H.seq ?_
          refine H.region ?_
          refine H.q (yl_move rfl) rfl rfl (by decide) ?_
          refine H.q (yl_assign rfl) rfl rfl (by decide) ?_
          refine HN.done ?_
          refine HN.keep [(4, _), (5, _), (8, _), (9, _), (13, _), (14, _), (15, _), (20, _), (21, _), (126, _)] ⟨rfl, rfl, rfl, rfl, rfl, rfl, rfl, rfl, rfl, rfl, trivial⟩ ?_
          refine HN.then ?_
          refine H.cond _ rfl (fun t4 => ?_) (fun t4 => ?_)
          · refine H.keep [(4, _), (5, _), (8, _), (9, _), (20, _), (21, _)] ⟨rfl, rfl, rfl, rfl, rfl, rfl, trivial⟩ ?_
            refine H.regionA (Hp w0 [(b26, seenP (setD (ptsL (rowsE rows) a b))), (b5, ex (.cells #[cbv, .int .i64 (b : Int)] 105)), (b4, ex (.cells #[cav, .int .i64 (a : Int)] 105))] [] []) Tryz.mixed (stab_hp _ _ _ _) ?_
            refine H.take (i := 0) rfl (by kernel_rfl) (by kernel_rfl) (by kernel_rfl) (fun _ _ _ h => h) (fun w hw => hw.drop.noR) (ye_move rfl) rfl rfl (by decide) ?_
            refine H.take (i := 1) rfl (by kernel_rfl) (by kernel_rfl) (by kernel_rfl) (fun _ _ _ h => h) (fun w hw => hw.drop.noR) (ye_loadAgg _ Tryz.isAgg105 Tryz.sizeOf105 rfl (fun w hw => cells_of_blk (hw.blk 1 rfl)) rfl) rfl rfl (by decide) ?_
            refine H.take (i := 2) rfl (by kernel_rfl) (by kernel_rfl) (by kernel_rfl) (fun _ _ _ h => h) (fun w hw => hw.drop.noR) (ye_loadAgg _ Tryz.isAgg105 Tryz.sizeOf105 rfl (fun w hw => cells_of_blk (hw.blk 2 rfl)) rfl) rfl rfl (by decide) ?_
            refine H.take (i := 3) rfl (by kernel_rfl) (by kernel_rfl) (by kernel_rfl) (fun _ _ _ h => h) (fun w hw => hw.drop.noR) (ye_fieldAddr _ fa105_0 rfl) rfl rfl (by decide) ?_
            refine H.take (i := 4) rfl (by kernel_rfl) (by kernel_rfl) (by kernel_rfl) (fun _ _ _ h => h) (fun w hw => hw.drop.noR) (ye_loadAgg [cbv] Tryz.isAgg102 Tryz.sizeOf102 rfl (fun w hw => cell_one (hw.cell 1 rfl rfl)) rfl) rfl rfl (by decide) ?_
            refine H.take (i := 6) rfl (by kernel_rfl) (by kernel_rfl) (by kernel_rfl) (fun _ _ _ h => h) (fun w hw => hw.drop.noR) (ye_fieldAddr _ fa105_0 rfl) rfl rfl (by decide) ?_
            refine H.take (i := 7) rfl (by kernel_rfl) (by kernel_rfl) (by kernel_rfl) (fun _ _ _ h => h) (fun w hw => hw.drop.noR) (ye_loadAgg [cav] Tryz.isAgg102 Tryz.sizeOf102 rfl (fun w hw => cell_one (hw.cell 2 rfl rfl)) rfl) rfl rfl (by decide) ?_
            refine H.one (i := 5) rfl (by kernel_rfl) ?_
            refine H.q (yl_call (xs := [.tmp 132]) Tryz.call85 (stab_hp _ _ _ _) rfl (fun w hw => high_any cb cbv w hcb0 (hcbv.ext hw.ext) hcbl)) rfl rfl (by decide) ?_
            refine H.on (fun w hw => hw.drop.noR) ?_
            refine H.one (i := 8) rfl (by kernel_rfl) ?_
            refine H.q (yl_call (xs := [.tmp 135]) Tryz.call84 (stab_hp _ _ _ _) rfl (fun w hw => low_any ca cav w hca0 (hcav.ext hw.ext))) rfl rfl (by decide) ?_
            refine H.on (fun w hw => hw.drop.noR) ?_
            refine H.take (i := 9) rfl (by kernel_rfl) (by kernel_rfl) (by kernel_rfl) (fun _ _ _ h => h) (fun w hw => hw.drop.noR) (ye_lss rfl rfl) rfl rfl (by decide) ?_
            refine H.one (i := 10) rfl (by kernel_rfl) ?_
            refine H.callvX (α := Value) (xs := [.const (.int .u8 9), .tmp 129, .tmp 130, .tmp 137]) (caps := [.pointer (some ⟨b20, 0, none⟩)]) (fun _ => .tuple #[]) (fun _ => True) (fun lv => Hp w0 [(b20, ex (.cells #[lv] 28)), (b26, seenP (setD (ptsL (rowsE rows) a b))), (b5, ex (.cells #[cbv, .int .i64 (b : Int)] 105)), (b4, ex (.cells #[cav, .int .i64 (a : Int)] 105))] [⟨lv, putN (decide (hiE cb < loE ca)) 0, 25, 6, putXs (decide (hiE cb < loE ca)) 9 b a []⟩, ptsRw (.slice adp (setD (ptsL (rowsE rows) a b)).length capp) (setD (ptsL (rowsE rows) a b)), ptsRw (.slice adt (swapL (setD (ptsL (rowsE rows) a b))).length capt) (swapL (setD (ptsL (rowsE rows) a b)))] []) Tryz.call89 rfl rfl (by decide) (fun w hw => (put_any 9 cbv cav (.slice none 0 0) b a (decide (hiE cb < loE ca)) b20 0 (Nat.zero_le _) [] _ _ _ _ w hw).mono fun e w' h => by obtain ⟨h1, lv, h2⟩ := h; exact ⟨lv, h1, trivial, h2⟩) (fun lv _ => ?_)
            refine H.on (fun w hw => hw.drop.noR) ?_
            refine H.over (by kernel_rfl) ?_
            refine HN.keep [(4, _), (5, _), (8, _), (9, _), (20, _)] ⟨rfl, rfl, rfl, rfl, rfl, trivial⟩ ?_
            refine HN.block ?_
            refine HN.then ?_
            refine H.at' lv ⟨rfl, rfl, rfl, rfl, rfl, trivial⟩ (fun w hw => ?_)
            have eo : (orderE (ptsL (rowsE rows) a b) ca cb a b) = (if hiE cb < loE ca then [] else [⟨9, (b : Nat), (a : Nat), 0, 0, []⟩]) := by unfold orderE; rw [if_neg (by rw [t3]; decide)]; rw [if_pos t4]
            by_cases hf : hiE cb < loE ca
            · have e2 : aloneR lv (.slice none 0 0) (orderE (ptsL (rowsE rows) a b) ca cb a b) = ⟨lv, putN (decide (hiE cb < loE ca)) 0, 25, 6, putXs (decide (hiE cb < loE ca)) 9 b a []⟩ := by rw [eo, if_pos hf, decide_eq_true hf]; rfl
              rw [e2]; exact hw
            · have e2 : aloneR lv (.slice none 0 0) (orderE (ptsL (rowsE rows) a b) ca cb a b) = ⟨lv, putN (decide (hiE cb < loE ca)) 0, 25, 6, putXs (decide (hiE cb < loE ca)) 9 b a []⟩ := by rw [eo, if_neg hf, decide_eq_false hf]; simp [aloneR, putN, putXs, clS, cellsI]
              rw [e2]; exact hw
          · refine H.keep [(4, _), (5, _), (8, _), (9, _), (13, _), (14, _), (15, _), (20, _), (21, _)] ⟨rfl, rfl, rfl, rfl, rfl, rfl, rfl, rfl, rfl, trivial⟩ ?_
            refine H.seq ?_
            refine H.region ?_
            refine H.q (yl_move rfl) rfl rfl (by decide) ?_
            refine H.q (yl_assign rfl) rfl rfl (by decide) ?_
            refine HN.done ?_
            refine HN.keep [(4, _), (5, _), (8, _), (9, _), (14, _), (15, _), (20, _), (21, _), (139, _)] ⟨rfl, rfl, rfl, rfl, rfl, rfl, rfl, rfl, rfl, trivial⟩ ?_
            refine HN.then ?_
            refine H.cond _ rfl (fun t5 => ?_) (fun t5 => ?_)
            · refine H.keep [(4, _), (5, _), (8, _), (9, _), (20, _), (21, _)] ⟨rfl, rfl, rfl, rfl, rfl, rfl, trivial⟩ ?_
              refine H.regionA (Hp w0 [(b26, seenP (setD (ptsL (rowsE rows) a b))), (b5, ex (.cells #[cbv, .int .i64 (b : Int)] 105)), (b4, ex (.cells #[cav, .int .i64 (a : Int)] 105))] [] []) Tryz.mixed (stab_hp _ _ _ _) ?_
              refine H.take (i := 0) rfl (by kernel_rfl) (by kernel_rfl) (by kernel_rfl) (fun _ _ _ h => h) (fun w hw => hw.drop.noR) (ye_move rfl) rfl rfl (by decide) ?_
              refine H.take (i := 1) rfl (by kernel_rfl) (by kernel_rfl) (by kernel_rfl) (fun _ _ _ h => h) (fun w hw => hw.drop.noR) (ye_loadAgg _ Tryz.isAgg105 Tryz.sizeOf105 rfl (fun w hw => cells_of_blk (hw.blk 2 rfl)) rfl) rfl rfl (by decide) ?_
              refine H.take (i := 2) rfl (by kernel_rfl) (by kernel_rfl) (by kernel_rfl) (fun _ _ _ h => h) (fun w hw => hw.drop.noR) (ye_loadAgg _ Tryz.isAgg105 Tryz.sizeOf105 rfl (fun w hw => cells_of_blk (hw.blk 1 rfl)) rfl) rfl rfl (by decide) ?_
              refine H.take (i := 3) rfl (by kernel_rfl) (by kernel_rfl) (by kernel_rfl) (fun _ _ _ h => h) (fun w hw => hw.drop.noR) (ye_fieldAddr _ fa105_0 rfl) rfl rfl (by decide) ?_
              refine H.take (i := 4) rfl (by kernel_rfl) (by kernel_rfl) (by kernel_rfl) (fun _ _ _ h => h) (fun w hw => hw.drop.noR) (ye_loadAgg [cav] Tryz.isAgg102 Tryz.sizeOf102 rfl (fun w hw => cell_one (hw.cell 2 rfl rfl)) rfl) rfl rfl (by decide) ?_
              refine H.take (i := 6) rfl (by kernel_rfl) (by kernel_rfl) (by kernel_rfl) (fun _ _ _ h => h) (fun w hw => hw.drop.noR) (ye_fieldAddr _ fa105_0 rfl) rfl rfl (by decide) ?_
              refine H.take (i := 7) rfl (by kernel_rfl) (by kernel_rfl) (by kernel_rfl) (fun _ _ _ h => h) (fun w hw => hw.drop.noR) (ye_loadAgg [cbv] Tryz.isAgg102 Tryz.sizeOf102 rfl (fun w hw => cell_one (hw.cell 1 rfl rfl)) rfl) rfl rfl (by decide) ?_
              refine H.one (i := 5) rfl (by kernel_rfl) ?_
              refine H.q (yl_call (xs := [.tmp 145]) Tryz.call85 (stab_hp _ _ _ _) rfl (fun w hw => high_any ca cav w hca0 (hcav.ext hw.ext) hcal)) rfl rfl (by decide) ?_
              refine H.on (fun w hw => hw.drop.noR) ?_
              refine H.one (i := 8) rfl (by kernel_rfl) ?_
              refine H.q (yl_call (xs := [.tmp 148]) Tryz.call84 (stab_hp _ _ _ _) rfl (fun w hw => low_any cb cbv w hcb0 (hcbv.ext hw.ext))) rfl rfl (by decide) ?_
              refine H.on (fun w hw => hw.drop.noR) ?_
              refine H.take (i := 9) rfl (by kernel_rfl) (by kernel_rfl) (by kernel_rfl) (fun _ _ _ h => h) (fun w hw => hw.drop.noR) (ye_leq rfl rfl) rfl rfl (by decide) ?_
              refine H.one (i := 10) rfl (by kernel_rfl) ?_
              refine H.callvX (α := Value) (xs := [.const (.int .u8 10), .tmp 142, .tmp 143, .tmp 150]) (caps := [.pointer (some ⟨b20, 0, none⟩)]) (fun _ => .tuple #[]) (fun _ => True) (fun lv => Hp w0 [(b20, ex (.cells #[lv] 28)), (b26, seenP (setD (ptsL (rowsE rows) a b))), (b5, ex (.cells #[cbv, .int .i64 (b : Int)] 105)), (b4, ex (.cells #[cav, .int .i64 (a : Int)] 105))] [⟨lv, putN (decide (hiE ca ≤ loE cb)) 0, 25, 6, putXs (decide (hiE ca ≤ loE cb)) 10 a b []⟩, ptsRw (.slice adp (setD (ptsL (rowsE rows) a b)).length capp) (setD (ptsL (rowsE rows) a b)), ptsRw (.slice adt (swapL (setD (ptsL (rowsE rows) a b))).length capt) (swapL (setD (ptsL (rowsE rows) a b)))] []) Tryz.call89 rfl rfl (by decide) (fun w hw => (put_any 10 cav cbv (.slice none 0 0) a b (decide (hiE ca ≤ loE cb)) b20 0 (Nat.zero_le _) [] _ _ _ _ w hw).mono fun e w' h => by obtain ⟨h1, lv, h2⟩ := h; exact ⟨lv, h1, trivial, h2⟩) (fun lv _ => ?_)
              refine H.on (fun w hw => hw.drop.noR) ?_
              refine H.over (by kernel_rfl) ?_
              refine HN.keep [(4, _), (5, _), (8, _), (9, _), (20, _)] ⟨rfl, rfl, rfl, rfl, rfl, trivial⟩ ?_
              refine HN.block ?_
              refine HN.then ?_
              refine H.at' lv ⟨rfl, rfl, rfl, rfl, rfl, trivial⟩ (fun w hw => ?_)
              have eo : (orderE (ptsL (rowsE rows) a b) ca cb a b) = (if hiE ca ≤ loE cb then [] else [⟨10, (a : Nat), (b : Nat), 0, 0, []⟩]) := by unfold orderE; rw [if_neg (by rw [t3]; decide)]; rw [if_neg (by rw [t4]; decide)]; rw [if_pos t5]
              by_cases hf : hiE ca ≤ loE cb
              · have e2 : aloneR lv (.slice none 0 0) (orderE (ptsL (rowsE rows) a b) ca cb a b) = ⟨lv, putN (decide (hiE ca ≤ loE cb)) 0, 25, 6, putXs (decide (hiE ca ≤ loE cb)) 10 a b []⟩ := by rw [eo, if_pos hf, decide_eq_true hf]; rfl
                rw [e2]; exact hw
              · have e2 : aloneR lv (.slice none 0 0) (orderE (ptsL (rowsE rows) a b) ca cb a b) = ⟨lv, putN (decide (hiE ca ≤ loE cb)) 0, 25, 6, putXs (decide (hiE ca ≤ loE cb)) 10 a b []⟩ := by rw [eo, if_neg hf, decide_eq_false hf]; simp [aloneR, putN, putXs, clS, cellsI]
                rw [e2]; exact hw
            · refine H.keep [(4, _), (5, _), (8, _), (9, _), (14, _), (15, _), (20, _), (21, _)] ⟨rfl, rfl, rfl, rfl, rfl, rfl, rfl, rfl, trivial⟩ ?_
              refine H.seq ?_
              refine H.region ?_
              refine H.q (yl_move rfl) rfl rfl (by decide) ?_
              refine H.q (yl_assign rfl) rfl rfl (by decide) ?_
              refine HN.done ?_
              refine HN.keep [(4, _), (5, _), (8, _), (9, _), (15, _), (20, _), (21, _), (152, _)] ⟨rfl, rfl, rfl, rfl, rfl, rfl, rfl, rfl, trivial⟩ ?_
              refine HN.then ?_
              refine H.cond _ rfl (fun t6 => ?_) (fun t6 => ?_)
              · refine H.keep [(4, _), (5, _), (8, _), (9, _), (20, _), (21, _)] ⟨rfl, rfl, rfl, rfl, rfl, rfl, trivial⟩ ?_
                refine H.regionA (Hp w0 [(b26, seenP (setD (ptsL (rowsE rows) a b))), (b5, ex (.cells #[cbv, .int .i64 (b : Int)] 105)), (b4, ex (.cells #[cav, .int .i64 (a : Int)] 105))] [] []) Tryz.mixed (stab_hp _ _ _ _) ?_
                refine H.take (i := 0) rfl (by kernel_rfl) (by kernel_rfl) (by kernel_rfl) (fun _ _ _ h => h) (fun w hw => hw.drop.noR) (ye_move rfl) rfl rfl (by decide) ?_
                refine H.take (i := 1) rfl (by kernel_rfl) (by kernel_rfl) (by kernel_rfl) (fun _ _ _ h => h) (fun w hw => hw.drop.noR) (ye_loadAgg _ Tryz.isAgg105 Tryz.sizeOf105 rfl (fun w hw => cells_of_blk (hw.blk 1 rfl)) rfl) rfl rfl (by decide) ?_
                refine H.take (i := 2) rfl (by kernel_rfl) (by kernel_rfl) (by kernel_rfl) (fun _ _ _ h => h) (fun w hw => hw.drop.noR) (ye_loadAgg _ Tryz.isAgg105 Tryz.sizeOf105 rfl (fun w hw => cells_of_blk (hw.blk 2 rfl)) rfl) rfl rfl (by decide) ?_
                refine H.take (i := 3) rfl (by kernel_rfl) (by kernel_rfl) (by kernel_rfl) (fun _ _ _ h => h) (fun w hw => hw.drop.noR) (ye_fieldAddr _ fa105_0 rfl) rfl rfl (by decide) ?_
                refine H.take (i := 4) rfl (by kernel_rfl) (by kernel_rfl) (by kernel_rfl) (fun _ _ _ h => h) (fun w hw => hw.drop.noR) (ye_loadAgg [cbv] Tryz.isAgg102 Tryz.sizeOf102 rfl (fun w hw => cell_one (hw.cell 1 rfl rfl)) rfl) rfl rfl (by decide) ?_
                refine H.take (i := 6) rfl (by kernel_rfl) (by kernel_rfl) (by kernel_rfl) (fun _ _ _ h => h) (fun w hw => hw.drop.noR) (ye_fieldAddr _ fa105_0 rfl) rfl rfl (by decide) ?_
                refine H.take (i := 7) rfl (by kernel_rfl) (by kernel_rfl) (by kernel_rfl) (fun _ _ _ h => h) (fun w hw => hw.drop.noR) (ye_loadAgg [cav] Tryz.isAgg102 Tryz.sizeOf102 rfl (fun w hw => cell_one (hw.cell 2 rfl rfl)) rfl) rfl rfl (by decide) ?_
                refine H.one (i := 5) rfl (by kernel_rfl) ?_
                refine H.q (yl_call (xs := [.tmp 158]) Tryz.call85 (stab_hp _ _ _ _) rfl (fun w hw => high_any cb cbv w hcb0 (hcbv.ext hw.ext) hcbl)) rfl rfl (by decide) ?_
                refine H.on (fun w hw => hw.drop.noR) ?_
                refine H.one (i := 8) rfl (by kernel_rfl) ?_
                refine H.q (yl_call (xs := [.tmp 161]) Tryz.call84 (stab_hp _ _ _ _) rfl (fun w hw => low_any ca cav w hca0 (hcav.ext hw.ext))) rfl rfl (by decide) ?_
                refine H.on (fun w hw => hw.drop.noR) ?_
                refine H.take (i := 9) rfl (by kernel_rfl) (by kernel_rfl) (by kernel_rfl) (fun _ _ _ h => h) (fun w hw => hw.drop.noR) (ye_leq rfl rfl) rfl rfl (by decide) ?_
                refine H.one (i := 10) rfl (by kernel_rfl) ?_
                refine H.callvX (α := Value) (xs := [.const (.int .u8 10), .tmp 155, .tmp 156, .tmp 163]) (caps := [.pointer (some ⟨b20, 0, none⟩)]) (fun _ => .tuple #[]) (fun _ => True) (fun lv => Hp w0 [(b20, ex (.cells #[lv] 28)), (b26, seenP (setD (ptsL (rowsE rows) a b))), (b5, ex (.cells #[cbv, .int .i64 (b : Int)] 105)), (b4, ex (.cells #[cav, .int .i64 (a : Int)] 105))] [⟨lv, putN (decide (hiE cb ≤ loE ca)) 0, 25, 6, putXs (decide (hiE cb ≤ loE ca)) 10 b a []⟩, ptsRw (.slice adp (setD (ptsL (rowsE rows) a b)).length capp) (setD (ptsL (rowsE rows) a b)), ptsRw (.slice adt (swapL (setD (ptsL (rowsE rows) a b))).length capt) (swapL (setD (ptsL (rowsE rows) a b)))] []) Tryz.call89 rfl rfl (by decide) (fun w hw => (put_any 10 cbv cav (.slice none 0 0) b a (decide (hiE cb ≤ loE ca)) b20 0 (Nat.zero_le _) [] _ _ _ _ w hw).mono fun e w' h => by obtain ⟨h1, lv, h2⟩ := h; exact ⟨lv, h1, trivial, h2⟩) (fun lv _ => ?_)
                refine H.on (fun w hw => hw.drop.noR) ?_
                refine H.over (by kernel_rfl) ?_
                refine HN.keep [(4, _), (5, _), (8, _), (9, _), (20, _)] ⟨rfl, rfl, rfl, rfl, rfl, trivial⟩ ?_
                refine HN.block ?_
                refine HN.then ?_
                refine H.at' lv ⟨rfl, rfl, rfl, rfl, rfl, trivial⟩ (fun w hw => ?_)
                have eo : (orderE (ptsL (rowsE rows) a b) ca cb a b) = (if hiE cb ≤ loE ca then [] else [⟨10, (b : Nat), (a : Nat), 0, 0, []⟩]) := by unfold orderE; rw [if_neg (by rw [t3]; decide)]; rw [if_neg (by rw [t4]; decide)]; rw [if_neg (by rw [t5]; decide)]; rw [if_pos t6]
                by_cases hf : hiE cb ≤ loE ca
                · have e2 : aloneR lv (.slice none 0 0) (orderE (ptsL (rowsE rows) a b) ca cb a b) = ⟨lv, putN (decide (hiE cb ≤ loE ca)) 0, 25, 6, putXs (decide (hiE cb ≤ loE ca)) 10 b a []⟩ := by rw [eo, if_pos hf, decide_eq_true hf]; rfl
                  rw [e2]; exact hw
                · have e2 : aloneR lv (.slice none 0 0) (orderE (ptsL (rowsE rows) a b) ca cb a b) = ⟨lv, putN (decide (hiE cb ≤ loE ca)) 0, 25, 6, putXs (decide (hiE cb ≤ loE ca)) 10 b a []⟩ := by rw [eo, if_neg hf, decide_eq_false hf]; simp [aloneR, putN, putXs, clS, cellsI]
                  rw [e2]; exact hw
              · refine H.keep [(4, _), (5, _), (8, _), (9, _), (15, _), (20, _), (21, _)] ⟨rfl, rfl, rfl, rfl, rfl, rfl, rfl, trivial⟩ ?_
                refine H.seq ?_
                refine H.region ?_
                refine H.q (yl_move rfl) rfl rfl (by decide) ?_
                refine H.q (yl_assign rfl) rfl rfl (by decide) ?_
                refine HN.done ?_
                refine HN.keep [(4, _), (5, _), (8, _), (9, _), (20, _), (21, _), (165, _)] ⟨rfl, rfl, rfl, rfl, rfl, rfl, rfl, trivial⟩ ?_
                refine HN.then ?_
                refine H.cond _ rfl (fun t7 => ?_) (fun t7 => ?_)
                · refine H.keep [(4, _), (5, _), (8, _), (9, _), (20, _), (21, _)] ⟨rfl, rfl, rfl, rfl, rfl, rfl, trivial⟩ ?_
                  refine H.region ?_
                  refine H.q (yl_move rfl) rfl rfl (by decide) ?_
                  refine H.q (yl_loadAgg _ Tryz.isAgg105 Tryz.sizeOf105 rfl (fun w hw => cells_of_blk (hw.blk 3 rfl)) rfl) rfl rfl (by decide) ?_
                  refine H.q (yl_loadAgg _ Tryz.isAgg105 Tryz.sizeOf105 rfl (fun w hw => cells_of_blk (hw.blk 2 rfl)) rfl) rfl rfl (by decide) ?_
                  refine H.callvX (α := Value) (xs := [.const (.int .u8 8), .tmp 168, .tmp 169, .const (.bool false)]) (caps := [.pointer (some ⟨b20, 0, none⟩)]) (fun _ => .tuple #[]) (fun _ => True) (fun lv => Hp w0 [(b20, ex (.cells #[lv] 28)), (b26, seenP (setD (ptsL (rowsE rows) a b))), (b5, ex (.cells #[cbv, .int .i64 (b : Int)] 105)), (b4, ex (.cells #[cav, .int .i64 (a : Int)] 105))] [⟨lv, putN (false) 0, 25, 6, putXs (false) 8 a b []⟩, ptsRw (.slice adp (setD (ptsL (rowsE rows) a b)).length capp) (setD (ptsL (rowsE rows) a b)), ptsRw (.slice adt (swapL (setD (ptsL (rowsE rows) a b))).length capt) (swapL (setD (ptsL (rowsE rows) a b)))] []) Tryz.call89 rfl rfl (by decide) (fun w hw => (put_any 8 cav cbv (.slice none 0 0) a b (false) b20 0 (Nat.zero_le _) [] _ _ _ _ w hw).mono fun e w' h => by obtain ⟨h1, lv, h2⟩ := h; exact ⟨lv, h1, trivial, h2⟩) (fun lv _ => ?_)
                  refine HN.done ?_
                  refine HN.keep [(4, _), (5, _), (8, _), (9, _), (20, _)] ⟨rfl, rfl, rfl, rfl, rfl, trivial⟩ ?_
                  refine HN.block ?_
                  refine HN.then ?_
                  refine H.at' lv ⟨rfl, rfl, rfl, rfl, rfl, trivial⟩ (fun w hw => ?_)
                  have eo : (orderE (ptsL (rowsE rows) a b) ca cb a b) = [⟨8, a, b, 0, 0, []⟩] := by unfold orderE; rw [if_neg (by rw [t3]; decide), if_neg (by rw [t4]; decide), if_neg (by rw [t5]; decide), if_neg (by rw [t6]; decide), if_pos t7]
                  have e2 : aloneR lv (.slice none 0 0) (orderE (ptsL (rowsE rows) a b) ca cb a b) = ⟨lv, putN false 0, 25, 6, putXs false 8 a b []⟩ := by rw [eo]; simp [aloneR, putN, putXs, clS, cellsI]
                  rw [e2]
                  exact hw
                · refine H.keep [(4, _), (5, _), (8, _), (9, _), (20, _)] ⟨rfl, rfl, rfl, rfl, rfl, trivial⟩ ?_
                  refine HN.skip ?_
                  refine HN.block ?_
                  refine HN.then ?_
                  refine H.at' (.slice none 0 0) ⟨rfl, rfl, rfl, rfl, rfl, trivial⟩ (fun w hw => ?_)
                  have eo : (orderE (ptsL (rowsE rows) a b) ca cb a b) = [] := by unfold orderE; rw [if_neg (by rw [t3]; decide), if_neg (by rw [t4]; decide), if_neg (by rw [t5]; decide), if_neg (by rw [t6]; decide), if_neg (by rw [t7]; decide)]
                  rw [eo]
                  exact hw
      · refine H.seq ?_
        refine H.seq ?_
        refine H.region ?_
        refine H.q (yl_move rfl) rfl rfl (by decide) ?_
        refine H.q (yl_len rfl Tryz.underlying138 rfl) rfl rfl (by decide) ?_
        refine H.q (yl_lss rfl rfl) rfl rfl (by decide) ?_
        refine HN.done ?_
        refine HN.keep [(4, _), (5, _), (8, _), (9, _), (20, _), (173, _)] ⟨rfl, rfl, rfl, rfl, rfl, rfl, trivial⟩ ?_
        refine HN.then ?_
        refine H.cond _ rfl (fun t8 => ?_) (fun t8 => ?_)
        · simp only [decide_eq_true_eq] at t8
          refine H.keep [(20, _)] ⟨rfl, trivial⟩ ?_
          refine H.seq ?_
          refine H.region ?_
          refine H.q (yl_load Tryz.isAgg28 rfl (fun w hw => hw.cell 0 rfl rfl)) rfl rfl (by decide) ?_
          refine H.q (yl_assign rfl) rfl rfl (by decide) ?_
          refine HN.done ?_
          refine HN.keep [(6, _)] ⟨rfl, trivial⟩ ?_
          refine HN.then ?_
          refine HR.ret ?_
          refine HR.then ?_
          refine HR.ret1 _ Tryz.results58 rfl (fun w hw => ?_)
          apply coupleFin (ca := ca) (cb := cb) (a := a) (b := b) (rows := rowsE rows)
          rw [couple_eq t2, if_pos t8, List.append_nil]
          exact hw
        · simp only [decide_eq_false_iff_not] at t8
          refine H.keep [(4, _), (5, _), (8, _), (9, _), (20, _)] ⟨rfl, rfl, rfl, rfl, rfl, trivial⟩ ?_
          refine HN.skip ?_
          refine HN.then ?_
          refine H.seq ?_
          refine H.seq ?_
          refine H.region ?_
          refine H.q (yl_move rfl) rfl rfl (by decide) ?_
          refine H.q (yl_fieldAddr _ fa105_1 rfl) rfl rfl (by decide) ?_
          refine H.q (yl_load Tryz.isAgg3 rfl (fun w hw => hw.cell 3 rfl rfl)) rfl rfl (by decide) ?_
          refine H.q (yl_fieldAddr _ fa105_1 rfl) rfl rfl (by decide) ?_
          refine H.q (yl_load Tryz.isAgg3 rfl (fun w hw => hw.cell 2 rfl rfl)) rfl rfl (by decide) ?_
          refine H.q (yl_call (xs := [.tmp 176, .tmp 178, .tmp 180]) Tryz.call90 (stab_hp _ _ _ _) rfl (fun w hw => linear_any (setD (ptsL (rowsE rows) a b)) _ a b w (by omega) hspl hspm (pts_row (hw.row 1 rfl)))) rfl rfl (by decide) ?_
          refine H.q (yl_move rfl) rfl rfl (by decide) ?_
          refine H.q (yl_extract (.agg (cellsI (.slice none 0 0, (linE (setD (ptsL (rowsE rows) a b)) a b).getD zeroI)).toArray) rfl rfl) rfl rfl (by decide) ?_
          refine H.q (yl_extract (.bool (linE (setD (ptsL (rowsE rows) a b)) a b).isSome) rfl rfl) rfl rfl (by decide) ?_
          refine H.allocA Tryz.zeroValue25 (by decide) (fun b22 hb22 => ?_)
          refine H.storeA 0 rfl rfl rfl Tryz.sizeOf25 rfl rfl ?_
          refine H.q (yl_assign rfl) rfl rfl (by decide) ?_
          refine HN.done ?_
          refine HN.keep [(4, _), (5, _), (9, _), (20, _), (22, _), (23, _)] ⟨rfl, rfl, rfl, rfl, rfl, rfl, trivial⟩ ?_
          refine HN.then ?_
          refine H.seq ?_
          refine H.region ?_
          refine H.q (yl_move rfl) rfl rfl (by decide) ?_
          refine HN.done ?_
          refine HN.keep [(4, _), (5, _), (9, _), (20, _), (22, _), (184, _)] ⟨rfl, rfl, rfl, rfl, rfl, rfl, trivial⟩ ?_
          refine HN.then ?_
          refine H.cond _ rfl (fun t9 => ?_) (fun t9 => ?_)
          · obtain ⟨x, hx⟩ := Option.isSome_iff_exists.1 t9
            refine H.keep [(20, _), (22, _)] ⟨rfl, rfl, trivial⟩ ?_
            refine H.seq ?_
            refine H.region ?_
            refine H.q (yl_load Tryz.isAgg28 rfl (fun w hw => hw.cell 1 rfl rfl)) rfl rfl (by decide) ?_
            refine H.q (yl_loadAgg _ Tryz.isAgg25 Tryz.sizeOf25 rfl (fun w hw => cells_of_blk (hw.blk 0 rfl)) rfl) rfl rfl (by decide) ?_
            refine H.buildSlice (bs28 _ _ _ _ _ _ _ _) rfl (by decide) (fun b187 hb187 => ?_)
            refine H.append 0 (cellsI (.slice none 0 0, (linE (setD (ptsL (rowsE rows) a b)) a b).getD zeroI)) el28 rfl rfl rfl rfl (fun w hw => newsN (hw.blk 0 rfl)) (by simp [Value.oneCell', cellsI]) (by have := order_len (ptsL (rowsE rows) a b) ca cb a b; simp only [aloneR]; omega) (by decide) (by decide) (fun v188 => ?_)
            refine H.q (yl_assign rfl) rfl rfl (by decide) ?_
            refine HN.done ?_
            refine HN.keep [(6, _)] ⟨rfl, trivial⟩ ?_
            refine HN.then ?_
            refine HR.ret ?_
            refine HR.then ?_
            refine HR.ret1 _ Tryz.results58 rfl (fun w hw => ?_)
            apply coupleFin (ca := ca) (cb := cb) (a := a) (b := b) (rows := rowsE rows)
            have e1 : coupleE (rowsE rows) ca cb a b = (orderE (ptsL (rowsE rows) a b) ca cb a b) ++ [x] := by rw [couple_eq t2, if_neg t8, hx]
            have e2 : aloneR v188 (.slice none 0 0) (coupleE (rowsE rows) ca cb a b) = ⟨v188, (orderE (ptsL (rowsE rows) a b) ca cb a b).length + 1, 25, 6, clS (.slice none 0 0) (orderE (ptsL (rowsE rows) a b) ca cb a b) ++ cellsI (.slice none 0 0, (linE (setD (ptsL (rowsE rows) a b)) a b).getD zeroI)⟩ := by
              have hk := linE_kind hx
              unfold aloneR
              rw [e1, clS_append, clS_one (by omega), hx]
              simp [cellsI]
            rw [e2]
            exact hw
          · have hn0 : linE (setD (ptsL (rowsE rows) a b)) a b = none := by
              cases h : linE (setD (ptsL (rowsE rows) a b)) a b with
              | none => rfl
              | some x => rw [h] at t9; cases t9
            refine H.keep [(4, _), (5, _), (9, _), (20, _)] ⟨rfl, rfl, rfl, rfl, trivial⟩ ?_
            refine HN.skip ?_
            refine HN.then ?_
            -- branchy seq 2, live: [20]
            refine H.seq ?_
            refine H.seq ?_
            refine H.region ?_
            refine H.q (yl_move rfl) rfl rfl (by decide) ?_
            refine H.q (yl_fieldAddr _ fa105_1 rfl) rfl rfl (by decide) ?_
            refine H.q (yl_load Tryz.isAgg3 rfl (fun w hw => hw.cell 3 rfl rfl)) rfl rfl (by decide) ?_
            refine H.q (yl_fieldAddr _ fa105_1 rfl) rfl rfl (by decide) ?_
            refine H.q (yl_load Tryz.isAgg3 rfl (fun w hw => hw.cell 4 rfl rfl)) rfl rfl (by decide) ?_
            refine H.q (yl_call (xs := [.tmp 190, .tmp 192, .tmp 194]) Tryz.call90 (stab_hp _ _ _ _) rfl (fun w hw => linear_any (swapL (setD (ptsL (rowsE rows) a b))) _ b a w (by rw [hswl]; omega) hswll hswm (pts_row (hw.row 2 rfl)))) rfl rfl (by decide) ?_
            refine H.q (yl_move rfl) rfl rfl (by decide) ?_
            refine H.q (yl_extract (.agg (cellsI (.slice none 0 0, (linE (swapL (setD (ptsL (rowsE rows) a b))) b a).getD zeroI)).toArray) rfl rfl) rfl rfl (by decide) ?_
            refine H.q (yl_extract (.bool (linE (swapL (setD (ptsL (rowsE rows) a b))) b a).isSome) rfl rfl) rfl rfl (by decide) ?_
            refine H.allocA Tryz.zeroValue25 (by decide) (fun b24 hb24 => ?_)
            refine H.storeA 0 rfl rfl rfl Tryz.sizeOf25 rfl rfl ?_
            refine H.q (yl_assign rfl) rfl rfl (by decide) ?_
            refine HN.done ?_
            refine HN.keep [(20, _), (24, _), (25, _)] ⟨rfl, rfl, rfl, trivial⟩ ?_
            refine HN.then ?_
            refine H.seq ?_
            refine H.region ?_
            refine H.q (yl_move rfl) rfl rfl (by decide) ?_
            refine HN.done ?_
            refine HN.keep [(20, _), (24, _), (198, _)] ⟨rfl, rfl, rfl, trivial⟩ ?_
            refine HN.then ?_
            refine H.cond _ rfl (fun t10 => ?_) (fun t10 => ?_)
            · obtain ⟨x, hx⟩ := Option.isSome_iff_exists.1 t10
              refine H.keep [(20, _), (24, _)] ⟨rfl, rfl, trivial⟩ ?_
              refine H.region ?_
              refine H.q (yl_load Tryz.isAgg28 rfl (fun w hw => hw.cell 2 rfl rfl)) rfl rfl (by decide) ?_
              refine H.q (yl_loadAgg _ Tryz.isAgg25 Tryz.sizeOf25 rfl (fun w hw => cells_of_blk (hw.blk 0 rfl)) rfl) rfl rfl (by decide) ?_
              refine H.buildSlice (bs28 _ _ _ _ _ _ _ _) rfl (by decide) (fun b201 hb201 => ?_)
              refine H.append 0 (cellsI (.slice none 0 0, (linE (swapL (setD (ptsL (rowsE rows) a b))) b a).getD zeroI)) el28 rfl rfl rfl rfl (fun w hw => newsN (hw.blk 0 rfl)) (by simp [Value.oneCell', cellsI]) (by have := order_len (ptsL (rowsE rows) a b) ca cb a b; simp only [aloneR]; omega) (by decide) (by decide) (fun v202 => ?_)
              refine H.pull (fun w hw => Rw.isSlice (hw.row 0 rfl)) (fun ho => ?_)
              obtain ⟨ad202, cap202, hv202⟩ := ho
              rw [hv202]
              refine H.store1 3 rfl rfl rfl rfl Tryz.sizeOf28 rfl rfl ?_
              refine HN.done ?_
              refine HN.keep [(20, _)] ⟨rfl, trivial⟩ ?_
              refine HN.then ?_
              refine H.seq ?_
              refine H.region ?_
              refine H.q (yl_load Tryz.isAgg28 rfl (fun w hw => hw.cell 3 rfl rfl)) rfl rfl (by decide) ?_
              refine H.q (yl_assign rfl) rfl rfl (by decide) ?_
              refine HN.done ?_
              refine HN.keep [(6, _)] ⟨rfl, trivial⟩ ?_
              refine HN.then ?_
              refine HR.ret ?_
              refine HR.ret1 _ Tryz.results58 rfl (fun w hw => ?_)
              apply coupleFin (v := .slice ad202 (((orderE (ptsL (rowsE rows) a b) ca cb a b)).length + 1) cap202) (ca := ca) (cb := cb) (a := a) (b := b) (rows := rowsE rows)
              have e1 : coupleE (rowsE rows) ca cb a b = (orderE (ptsL (rowsE rows) a b) ca cb a b) ++ [x] := by rw [couple_eq t2, if_neg t8, hn0]; simp only []; rw [hx]
              have e2 : aloneR (.slice ad202 (((orderE (ptsL (rowsE rows) a b) ca cb a b)).length + 1) cap202) (.slice none 0 0) (coupleE (rowsE rows) ca cb a b) = ⟨(.slice ad202 (((orderE (ptsL (rowsE rows) a b) ca cb a b)).length + 1) cap202), (orderE (ptsL (rowsE rows) a b) ca cb a b).length + 1, 25, 6, clS (.slice none 0 0) (orderE (ptsL (rowsE rows) a b) ca cb a b) ++ cellsI (.slice none 0 0, (linE (swapL (setD (ptsL (rowsE rows) a b))) b a).getD zeroI)⟩ := by
                have hk := linE_kind hx
                unfold aloneR
                rw [e1, clS_append, clS_one (by omega), hx]
                simp [cellsI]
              rw [e2]
              exact hw
            · have hn1 : linE (swapL (setD (ptsL (rowsE rows) a b))) b a = none := by
                cases h : linE (swapL (setD (ptsL (rowsE rows) a b))) b a with
                | none => rfl
                | some x => rw [h] at t10; cases t10
              refine H.keep [(20, _)] ⟨rfl, trivial⟩ ?_
              refine HN.skip ?_
              refine HN.then ?_
              refine H.seq ?_
              refine H.region ?_
              refine H.q (yl_load Tryz.isAgg28 rfl (fun w hw => hw.cell 2 rfl rfl)) rfl rfl (by decide) ?_
              refine H.q (yl_assign rfl) rfl rfl (by decide) ?_
              refine HN.done ?_
              refine HN.keep [(6, _)] ⟨rfl, trivial⟩ ?_
              refine HN.then ?_
              refine HR.ret ?_
              refine HR.ret1 _ Tryz.results58 rfl (fun w hw => ?_)
              apply coupleFin (ca := ca) (cb := cb) (a := a) (b := b) (rows := rowsE rows)
              have e1 : coupleE (rowsE rows) ca cb a b = (orderE (ptsL (rowsE rows) a b) ca cb a b) := by rw [couple_eq t2, if_neg t8, hn0]; simp only []; rw [hn1]; simp
              rw [e1]
              exact hw

end Go.Proofs.YtgbgddmbooaddaaGreatDoor

namespace Go.Proofs.YtgbgddmbooaddaaGreatDoor
open Go.RowKit


theorem bs100 (ad : Option Addr) (n c : Nat) (a : Int) (w : World) : (Instr.buildSlice 100 1 [(0, .agg [.slice ad n c, .int .i64 a].toArray)].toArray).run Tryz.prog w = .ok (.slice (some ⟨w.heap.size, 0, none⟩) 1 1) (w.alloc (.cells [.slice ad n c, .int .i64 a].toArray 105)) := by kernel_rfl
theorem sortI_sorted (l : List Int) : (sortI l).Pairwise fun x y => x ≤ y := by
  have tr : ∀ a b c : Int, decide (a ≤ b) = true → decide (b ≤ c) = true → decide (a ≤ c) = true := fun a b c h1 h2 => by simp only [decide_eq_true_eq] at *; omega
  have tot : ∀ a b : Int, (decide (a ≤ b) || decide (b ≤ a)) = true := fun a b => by simp only [Bool.or_eq_true, decide_eq_true_eq]; omega
  exact (List.pairwise_mergeSort tr tot l).imp (fun h => by simpa using h)
theorem sortI_mem {l : List Int} {x : Int} : x ∈ sortI l ↔ x ∈ l := (List.mergeSort_perm l _).mem_iff
theorem sortI_nodup {l : List Int} (h : l.Nodup) : (sortI l).Nodup := (List.mergeSort_perm l _).nodup_iff.2 h
theorem facts_lt (rows : List (List Int)) (a : Nat) : (factsE rows a).Pairwise fun x y => x < y := by
  have h1 := sortI_sorted (setD (colL rows a))
  have h2 := sortI_nodup (nodup_setD (colL rows a))
  exact (h1.and h2).imp (fun {x y} h => by have := h.1; have := h.2; omega)
theorem facts_mem {rows : List (List Int)} {a : Nat} {x : Int} : x ∈ factsE rows a ↔ x ∈ colL rows a := by unfold factsE; rw [sortI_mem, mem_setD]
theorem facts_len (rows : List (List Int)) (a : Nat) : (factsE rows a).length ≤ rows.length := by
  unfold factsE
  rw [sortI_len]
  exact Nat.le_trans (setD_len _) (by simp [colL])
theorem facts_pos {rows : List (List Int)} (h : 0 < rows.length) (a : Nat) : 0 < (factsE rows a).length := by
  have h1 : (rows[0]).getD a 0 ∈ factsE rows a := facts_mem.2 (List.mem_map.2 ⟨rows[0], List.getElem_mem h, rfl⟩)
  exact List.length_pos_of_mem h1
theorem facts_small {rows : List (List Int)} (h : ∀ r ∈ rows, ∀ x ∈ r, smallB x = true) (a : Nat) : ∀ x ∈ factsE rows a, smallB x = true := fun x hx => colL_small h x (facts_mem.1 hx)
theorem facts_rising (rows : List (List Int)) (a : Nat) : ∀ k, k + 1 < (factsE rows a).length → (factsE rows a).getD k 0 < (factsE rows a).getD (k + 1) 0 := fun k hk => by
  have h := List.pairwise_iff_getElem.1 (facts_lt rows a) k (k + 1) (by omega) hk (by omega)
  simpa [List.getD, hk, show k < (factsE rows a).length by omega] using h
def colsX (cs : List (Value × Nat)) : List Value := (cs.map fun p => [p.1, Value.int .i64 (p.2 : Int)]).flatten
def colsR (rows : List (List Int)) (cs : List (Value × Nat)) : List Rw := cs.map fun p => rowI p.1 (factsE rows p.2)
theorem flat2 {α : Type} (f g : α → Value) : ∀ (l : List α) (j : Nat) (hj : j < l.length) (i : Nat) (u : Value), [f l[j], g l[j]][i]? = some u → ((l.map fun p => [f p, g p]).flatten)[j * 2 + i]? = some u := by
  intro l
  induction l with
  | nil => intro j hj; simp at hj
  | cons p l ih =>
    intro j hj i u hu
    have hi : i < 2 := by
      have := (List.getElem?_eq_some_iff.1 hu).1
      simpa using this
    cases j with
    | zero =>
      simp only [List.getElem_cons_zero] at hu
      simp only [List.map_cons, List.flatten_cons, Nat.zero_mul, Nat.zero_add]
      rw [List.getElem?_append_left (by simpa using hi)]
      exact hu
    | succ j =>
      simp only [List.getElem_cons_succ] at hu
      have := ih j (by simpa using hj) i u hu
      simp only [List.map_cons, List.flatten_cons]
      rw [List.getElem?_append_right (by simp; omega)]
      rw [← this]
      congr 1
      simp
      omega
theorem cols_open {w : World} {v : Value} {cs : List (Value × Nat)} (h : Rw.ok w ⟨v, cs.length, 105, 2, colsX cs⟩) : ∃ ad cap b, v = .slice ad cs.length cap ∧ cs.length ≤ cap ∧ (0 < cs.length → ad = some ⟨b, 0, none⟩) ∧ ∀ w', Rw.ok w' ⟨v, cs.length, 105, 2, colsX cs⟩ → ∀ j (hj : j < cs.length) i u, [cs[j].1, Value.int .i64 (cs[j].2 : Int)][i]? = some u → w'.cell? ((⟨b, 0 + j * 2, none⟩ : Addr).add i) = some u := by
  obtain ⟨ad, cap, b, h1, h2, h3, h4⟩ := Rw.open h
  have key : ∀ (j : Nat) (hj : j < cs.length) (i : Nat) (u : Value), [cs[j].1, Value.int .i64 (cs[j].2 : Int)][i]? = some u → (colsX cs)[j * 2 + i]? = some u := fun j hj i u hu => flat2 (fun p : Value × Nat => p.1) (fun p => Value.int .i64 (p.2 : Int)) cs j hj i u hu
  refine ⟨ad, cap, b, h1, h2, fun h0 => (h4 w h _ _ (key 0 h0 0 _ rfl)).1, fun w' hw' j hj i u hu => ?_⟩
  rw [add_at, Nat.zero_add]
  exact (h4 w' hw' _ _ (key j hj i u hu)).2
/-- What lies in a row, as something to be appended. -/
theorem Rw.news {w : World} {ad : Option Addr} {len cap el sz : Nat} {xs : List Value} (h : Rw.ok w ⟨.slice ad len cap, len, el, sz, xs⟩) : ∀ j u, xs[j]? = some u → ∃ a, ad = some a ∧ w.cell? (a.add j) = some u := fun j u hj => by
  obtain ⟨ad', cap', b, h1, h2, h3, h4⟩ := Rw.open h
  obtain ⟨h5, h6⟩ := h4 w h j u hj
  simp only [Value.slice.injEq, true_and] at h1
  refine ⟨⟨b, 0, none⟩, by rw [h1.1, h5], ?_⟩
  rw [add_at, Nat.zero_add]
  exact h6
theorem flat6 (ls : List (Value × Inv)) : (ls.map cellsI).flatten.length = ls.length * 6 := by
  induction ls with
  | nil => rfl
  | cons p ls ih => simp only [List.map_cons, List.flatten_cons, List.length_append, ih, List.length_cons]; simp []; omega
theorem claims_one {ls : List (Value × Inv)} (h : ∀ p ∈ ls, p.1.oneCell' = true) : ∀ u ∈ (ls.map cellsI).flatten, u.oneCell' = true := fun u hu => by
  rw [List.mem_flatten] at hu
  obtain ⟨l, hl, hu⟩ := hu
  obtain ⟨p, hp, rfl⟩ := List.mem_map.1 hl
  simp only [cellsI, List.mem_cons, List.not_mem_nil, or_false] at hu
  rcases hu with rfl | rfl | rfl | rfl | rfl | rfl
  all_goals first | rfl | exact h p hp
theorem sets_one {w : World} {ls : List (Value × Inv)} (h : ∀ r ∈ setsR ls, r.ok w) : ∀ p ∈ ls, p.1.oneCell' = true := fun p hp => by
  obtain ⟨ad, cap, h1⟩ := Rw.isSlice (h _ (List.mem_map.2 ⟨p, hp, rfl⟩))
  rw [h1]
  rfl
theorem setsR_append (a b : List (Value × Inv)) : setsR (a ++ b) = setsR a ++ setsR b := List.map_append
theorem claimsRw_append (v : Value) (a b : List (Value × Inv)) : claimsRw v (a ++ b) = ⟨v, a.length + b.length, 25, 6, (a.map cellsI).flatten ++ (b.map cellsI).flatten⟩ := by simp [claimsRw]
theorem alone_len (c : List Int) (a : Int) : (aloneE c a).length ≤ 6 := by
  unfold aloneE
  split
  · simp
  · simp only [List.length_append]
    split <;> split <;> (try split) <;> simp
theorem couple_len (rows : List (List Int)) (ca cb : List Int) (a b : Nat) : (coupleE rows ca cb a b).length ≤ 2 := by
  have := order_len (ptsL rows a b) ca cb a b
  unfold coupleE
  split
  · simp
  · simp only [List.length_append]
    split
    · simp; omega
    · split
      · simp; omega
      · split <;> simp <;> omega
def aloneA (rows : List (List Int)) (n : Nat) : List Inv := (List.range n).flatMap fun a => aloneE (factsE rows a) a
def pairE (rows : List (List Int)) (a b : Nat) : List Inv := if (factsE rows a).length > 1 ∧ (factsE rows b).length > 1 then coupleE rows (factsE rows a) (factsE rows b) a b else []
def pairA (rows : List (List Int)) (n a : Nat) : List Inv := ((List.range n).drop (a + 1)).flatMap fun b => pairE rows a b
def claimsA (rows : List (List Int)) (n : Nat) : List Inv := aloneA rows n ++ (List.range n).flatMap fun a => pairA rows n a
theorem claimsE_eq {rows : List (List Int)} {n : Nat} {support : Int} (h : ¬ ((rows.length : Int) = 0 ∨ (rows.length : Int) < support)) : claimsE rows n support = claimsA rows n := by
  unfold claimsE
  rw [if_neg h]
  unfold claimsA aloneA pairA pairsL
  congr 1
  rw [List.flatMap_assoc]
  congr 1
  funext a
  rw [List.flatMap_map]
  rfl
theorem aloneA_succ (rows : List (List Int)) (n : Nat) : aloneA rows (n + 1) = aloneA rows n ++ aloneE (factsE rows n) n := by
  unfold aloneA
  rw [List.range_succ, List.flatMap_append]
  simp
structure KZ where
  k : Nat
  lv : Value
  cs : List (Value × Nat)
  v : Value
  ls : List (Value × Inv)

set_option maxRecDepth 100000 in
theorem claims_any (bm vars : Nat) (rv : Value) (rows : List (Value × List Int)) (w0 : World) (ht : Tbl w0 bm vars rv rows) (hv1 : 1 ≤ vars) (hv8 : vars ≤ 8) (support : Int) : Calls Tryz.prog 24 #[.pointer (some ⟨bm, 0, none⟩), .int .i64 support] w0 fun e w' => ∃ v ls, e = .returned v ∧ ls.map (·.2) = claimsE (rowsE rows) vars support ∧ Hp w0 [] (claimsRw v ls :: setsR ls) [] w' := by
  have hsm : ∀ r ∈ rowsE rows, ∀ x ∈ r, smallB x = true := fun r hr x hx => by obtain ⟨p, hp, rfl⟩ := List.mem_map.1 hr; exact ht.small p hp x hx
  have hmax := ht.max
  obtain ⟨adt, capt, rfl⟩ : ∃ adt capt, rv = .slice adt rows.length capt := by obtain ⟨ad, cap, bb, o, h, _⟩ := rows_open ht.isr; exact ⟨ad, cap, h⟩
  refine enterA 98 Tryz.func24 rfl Tryz.ntmps24 rfl (Hp w0 [] [] []) (Hp.init _) ?_
  refine H.seq ?_
  refine H.region ?_
  refine H.q (yl_assign rfl) rfl rfl (by decide) ?_
  refine HN.done ?_
  refine HN.keep [(0, _), (1, _)] ⟨rfl, rfl, trivial⟩ ?_
  refine HN.then ?_
  refine H.seq ?_
  refine H.seq ?_
  refine H.region ?_
  refine H.q (yl_move rfl) rfl rfl (by decide) ?_
  refine H.q (yl_call (xs := [.tmp 13]) Tryz.call49 (stab_hp _ _ _ _) rfl (fun w hw => there_any bm vars w (cell_ext hw.ext ht.var))) rfl rfl (by decide) ?_
  refine H.q (yl_not rfl) rfl rfl (by decide) ?_
  refine H.q (yl_move rfl) rfl rfl (by decide) ?_
  refine H.qg (wn_f rfl rfl (by decide) rfl) (fun hg => yl_sub [(0, _)] ⟨rfl, trivial⟩ (yl_move rfl)) rfl (by decide) ?_
  refine H.qg (wn_f rfl rfl (by decide) rfl) (fun hg => yl_sub [(17, _)] ⟨slT rfl hg, trivial⟩ (yl_nilCheck rfl)) rfl (by decide) ?_
  refine H.qg (wn_f rfl rfl (by decide) rfl) (fun hg => yl_sub [(18, _)] ⟨slT rfl hg, trivial⟩ (yl_fieldAddr _ fa94_0 rfl)) rfl (by decide) ?_
  refine H.qg (wn_f rfl rfl (by decide) rfl) (fun hg => yl_sub [(19, _)] ⟨slT rfl hg, trivial⟩ (yl_fieldAddr _ fa92_1 rfl)) rfl (by decide) ?_
  refine H.qg (wn_f rfl rfl (by decide) rfl) (fun hg => yl_sub [(20, _)] ⟨slT rfl hg, trivial⟩ (yl_load Tryz.isAgg37 rfl (fun w hw => cell_ext hw.ext ht.cell))) rfl (by decide) ?_
  refine H.qg (wn_f rfl rfl (by decide) rfl) (fun hg => yl_sub [(21, _)] ⟨slT rfl hg, trivial⟩ (yl_len rfl Tryz.underlying37 rfl)) rfl (by decide) ?_
  refine H.qg (wn_f rfl rfl (by decide) rfl) (fun hg => yl_sub [(22, _)] ⟨slT rfl hg, trivial⟩ (yl_eql rfl rfl)) rfl (by decide) ?_
  refine H.q (yl_or rfl rfl) rfl rfl (by decide) ?_
  refine H.q (yl_move rfl) rfl rfl (by decide) ?_
  refine H.qg (wn_f rfl rfl (by decide) rfl) (fun hg => yl_sub [(0, _)] ⟨rfl, trivial⟩ (yl_move rfl)) rfl (by decide) ?_
  refine H.qg (wn_f rfl rfl (by decide) rfl) (fun hg => yl_sub [(26, _)] ⟨slT rfl hg, trivial⟩ (yl_nilCheck rfl)) rfl (by decide) ?_
  refine H.qg (wn_f rfl rfl (by decide) rfl) (fun hg => yl_sub [(27, _)] ⟨slT rfl hg, trivial⟩ (yl_fieldAddr _ fa94_0 rfl)) rfl (by decide) ?_
  refine H.qg (wn_f rfl rfl (by decide) rfl) (fun hg => yl_sub [(28, _)] ⟨slT rfl hg, trivial⟩ (yl_fieldAddr _ fa92_1 rfl)) rfl (by decide) ?_
  refine H.qg (wn_f rfl rfl (by decide) rfl) (fun hg => yl_sub [(29, _)] ⟨slT rfl hg, trivial⟩ (yl_load Tryz.isAgg37 rfl (fun w hw => cell_ext hw.ext ht.cell))) rfl (by decide) ?_
  refine H.qg (wn_f rfl rfl (by decide) rfl) (fun hg => yl_sub [(30, _)] ⟨slT rfl hg, trivial⟩ (yl_len rfl Tryz.underlying37 rfl)) rfl (by decide) ?_
  refine H.qg (wn_f rfl rfl (by decide) rfl) (fun hg => yl_sub [(1, _)] ⟨rfl, trivial⟩ (yl_move rfl)) rfl (by decide) ?_
  refine H.qg (wn_f rfl rfl (by decide) rfl) (fun hg => yl_sub [(31, _), (32, _)] ⟨slT rfl hg, slT rfl hg, trivial⟩ (yl_lss rfl rfl)) rfl (by decide) ?_
  refine H.q (yl_or rfl rfl) rfl rfl (by decide) ?_
  refine HN.done ?_
  refine HN.keep [(0, _), (34, _)] ⟨rfl, rfl, trivial⟩ ?_
  refine HN.then ?_
  refine H.cond _ rfl (fun t0 => ?_) (fun t0 => ?_)
  · have hsp : (rows.length : Int) = 0 ∨ (rows.length : Int) < support := by
      have hv1 : decide ((0 : Int) < (vars : Int)) = true := decide_eq_true (by omega)
      rw [hv1] at t0
      simpa using t0
    refine H.keep [] trivial ?_
    refine H.seq ?_
    refine H.region ?_
    refine H.q (yl_assign rfl) rfl rfl (by decide) ?_
    refine HN.done ?_
    refine HN.keep [(4, _)] ⟨rfl, trivial⟩ ?_
    refine HN.then ?_
    refine HR.ret ?_
    refine HR.then ?_
    refine HR.ret1 _ Tryz.results24 rfl (fun w hw => ?_)
    refine ⟨_, [], rfl, ?_, hw.rowNil 25 6⟩
    unfold claimsE
    rw [if_pos (by simpa using hsp)]
    rfl
  · have hsp : ¬ ((rows.length : Int) = 0 ∨ (rows.length : Int) < support) := by
      have hv1 : decide ((0 : Int) < (vars : Int)) = true := decide_eq_true (by omega)
      rw [hv1] at t0
      simpa using t0
    have hr0 : 0 < (rowsE rows).length := by simp; omega
    refine H.keep [(0, _)] ⟨rfl, trivial⟩ ?_
    refine HN.skip ?_
    refine HN.then ?_
    refine H.seq ?_
    refine H.region ?_
    refine H.q (yl_assign rfl) rfl rfl (by decide) ?_
    refine HN.done ?_
    refine HN.keep [(0, _), (5, _)] ⟨rfl, rfl, trivial⟩ ?_
    refine HN.then ?_
    refine H.seq ?_
    refine H.region ?_
    refine H.q (yl_assign rfl) rfl rfl (by decide) ?_
    refine HN.done ?_
    refine HN.keep [(0, _), (5, _), (6, _)] ⟨rfl, rfl, rfl, trivial⟩ ?_
    refine HN.then ?_
    refine H.seq ?_
    refine H.seq ?_
    refine H.region ?_
    refine H.q (yl_move rfl) rfl rfl (by decide) ?_
    refine H.q (yl_nilCheck rfl) rfl rfl (by decide) ?_
    refine H.q (yl_fieldAddr _ fa94_0 rfl) rfl rfl (by decide) ?_
    refine H.q (yl_fieldAddr _ fa92_0 rfl) rfl rfl (by decide) ?_
    refine H.q (yl_load Tryz.isAgg3 rfl (fun w hw => cell_ext hw.ext ht.var)) rfl rfl (by decide) ?_
    refine H.q (yl_move rfl) rfl rfl (by decide) ?_
    refine HN.done ?_
    refine HN.keep [(0, _), (5, _), (6, _), (39, _), (40, _)] ⟨rfl, rfl, rfl, rfl, rfl, trivial⟩ ?_
    refine HN.then ?_
    refine H.block ?_
    refine H.loop (fun z : KZ => [(0, .pointer (some ⟨bm, 0, none⟩)), (5, z.v), (6, z.lv), (39, .int .i64 (vars : Int)), (40, .int .i64 (z.k : Int))]) (fun z => z.k ≤ vars ∧ z.cs.map (·.2) = List.range z.k ∧ z.ls.map (·.2) = aloneA (rowsE rows) z.k ∧ z.ls.length ≤ 6 * z.k) (fun z => Hp w0 [] (⟨z.lv, (z.cs).length, 105, 2, colsX z.cs⟩ :: claimsRw z.v z.ls :: (setsR z.ls ++ colsR (rowsE rows) z.cs)) []) (fun z => vars - z.k) ⟨0, .slice none 0 0, [], .slice none 0 0, []⟩ ⟨Nat.zero_le _, rfl, rfl, Nat.zero_le _⟩ ⟨rfl, rfl, rfl, rfl, rfl, trivial⟩ (fun w hw => (hw.rowNil 25 6).rowNil 105 2) (fun z hI0 => ?_)
    obtain ⟨k, lv, cs, v, ls⟩ := z
    obtain ⟨hI, hcs, hls, hlen⟩ := hI0
    simp only at hI hcs hls hlen
    have hcl : cs.length = k := by have := congrArg List.length hcs; simpa using this
    refine H.seq ?_
    refine H.region ?_
    refine H.q (yl_lss rfl rfl) rfl rfl (by decide) ?_
    refine HN.done ?_
    refine HN.keep [(0, _), (5, _), (6, _), (39, _), (40, _), (41, _)] ⟨rfl, rfl, rfl, rfl, rfl, rfl, trivial⟩ ?_
    refine HN.then ?_
    refine H.seq ?_
    refine H.cond _ rfl (fun t1 => ?_) (fun t1 => ?_)
    · simp only [decide_eq_true_eq] at t1
      have hlt : k < vars := by omega
      refine H.keep [(0, _), (5, _), (6, _), (39, _), (40, _)] ⟨rfl, rfl, rfl, rfl, rfl, trivial⟩ ?_
      refine HN.skip ?_
      refine HN.then ?_
      refine H.seq ?_
      refine H.block ?_
      refine H.seq ?_
      refine H.region ?_
      refine H.q (yl_move rfl) rfl rfl (by decide) ?_
      refine H.q (yl_assign rfl) rfl rfl (by decide) ?_
      refine HN.done ?_
      refine HN.keep [(0, _), (5, _), (6, _), (7, _), (39, _), (40, _)] ⟨rfl, rfl, rfl, rfl, rfl, rfl, trivial⟩ ?_
      refine HN.then ?_
      refine H.seq ?_
      refine H.region ?_
      refine H.q (yl_move rfl) rfl rfl (by decide) ?_
      refine H.q (yl_nilCheck rfl) rfl rfl (by decide) ?_
      refine H.q (yl_fieldAddr _ fa94_0 rfl) rfl rfl (by decide) ?_
      refine H.q (yl_move rfl) rfl rfl (by decide) ?_
      refine H.call (α := Value) (xs := [.tmp 45, .tmp 46]) (fun v => .agg [v].toArray) (fun _ => True) (fun v => [rowI v (factsE (rowsE rows) k)]) (fun _ => []) Tryz.call56 rfl (by decide) (fun w hw => (facts_any bm vars _ rows w (ht.ext hw.ext) k hlt).mono fun e w' h => by obtain ⟨v, h1, h2⟩ := h; exact ⟨v, h1, trivial, h2, fun _ hh => by cases hh⟩) (fun v47 _ => ?_)
      refine H.pull (fun w hw => rowI_open (hw.row 0 rfl)) (fun ho => ?_)
      obtain ⟨adf, capf, bf, rfl, hcapf, hadf, hsf⟩ := ho
      refine H.q (yl_move rfl) rfl rfl (by decide) ?_
      refine H.q (yl_build (bd105 _ _ _ _) rfl) rfl rfl (by decide) ?_
      refine H.allocA Tryz.zeroValue105 (by decide) (fun b8 hb8 => ?_)
      refine H.storeA 0 rfl rfl rfl Tryz.sizeOf105 rfl rfl ?_
      refine HN.done ?_
      refine HN.keep [(0, _), (5, _), (6, _), (8, _), (39, _), (40, _)] ⟨rfl, rfl, rfl, rfl, rfl, rfl, trivial⟩ ?_
      refine HN.then ?_
      refine H.seq ?_
      refine H.region ?_
      refine H.q (yl_move rfl) rfl rfl (by decide) ?_
      refine H.q (yl_loadAgg _ Tryz.isAgg105 Tryz.sizeOf105 rfl (fun w hw => cells_of_blk (hw.blk 0 rfl)) rfl) rfl rfl (by decide) ?_
      refine H.buildSlice (bs100 _ _ _ _) rfl (by decide) (fun b52 hb52 => ?_)
      refine H.append 1 [.slice adf (factsE (rowsE rows) k).length capf, .int .i64 (k : Int)] el100 rfl rfl rfl rfl (fun w hw => newsN (hw.blk 0 rfl)) (by simp [Value.oneCell']) (by simp only; omega) (by decide) (by decide) (fun v53 => ?_)
      refine H.cls (Hp w0 [(b8, ex (.cells #[.slice adf (factsE (rowsE rows) k).length capf, .int .i64 (k : Int)] 105))] (⟨v53, ((cs ++ [(Value.slice adf (factsE (rowsE rows) k).length capf, k)])).length, 105, 2, colsX (cs ++ [(Value.slice adf (factsE (rowsE rows) k).length capf, k)])⟩ :: claimsRw v ls :: (setsR ls ++ colsR (rowsE rows) (cs ++ [(Value.slice adf (factsE (rowsE rows) k).length capf, k)]))) []) (fun w hw => ?_) ?_
      · have e1 : colsX (cs ++ [(Value.slice adf (factsE (rowsE rows) k).length capf, k)]) = colsX cs ++ [.slice adf (factsE (rowsE rows) k).length capf, .int .i64 (k : Int)] := by simp [colsX]
        have e2 : colsR (rowsE rows) (cs ++ [(Value.slice adf (factsE (rowsE rows) k).length capf, k)]) = colsR (rowsE rows) cs ++ [rowI (.slice adf (factsE (rowsE rows) k).length capf) (factsE (rowsE rows) k)] := by simp [colsR]
        rw [e1, e2, List.length_append, List.length_singleton]
        exact (hw.drop).permR (by classical exact List.perm_iff_count.2 (fun x => by simp only [List.set_cons_zero, List.set_cons_succ, List.count_append, List.count_cons, List.count_nil, List.cons_append, List.nil_append]; omega))
      refine H.q (yl_assign rfl) rfl rfl (by decide) ?_
      refine HN.done ?_
      refine HN.keep [(0, _), (5, _), (6, _), (8, _), (39, _), (40, _)] ⟨rfl, rfl, rfl, rfl, rfl, rfl, trivial⟩ ?_
      refine HN.then ?_
      refine H.region ?_
      refine H.q (yl_move rfl) rfl rfl (by decide) ?_
      refine H.q (yl_loadAgg _ Tryz.isAgg105 Tryz.sizeOf105 rfl (fun w hw => cells_of_blk (hw.blk 0 rfl)) rfl) rfl rfl (by decide) ?_
      refine H.call (α := Value × List (Value × Inv)) (xs := [.tmp 55]) (fun q => q.1) (fun q => q.2.map (·.2) = aloneE (factsE (rowsE rows) k) k) (fun q => claimsRw q.1 q.2 :: setsR q.2) (fun _ => []) Tryz.call57 rfl (by decide) (fun w hw => (alone_any (factsE (rowsE rows) k) _ k w (facts_pos hr0 k) (Nat.le_trans (facts_len _ _) (by simpa using ht.max)) (facts_small hsm k) (facts_rising _ k) (IsInts.of_row (hw.rows _ (List.mem_cons_of_mem _ (List.mem_cons_of_mem _ (List.mem_append.2 (.inr (List.mem_map.2 ⟨(Value.slice adf (factsE (rowsE rows) k).length capf, k), by simp, rfl⟩)))))))).mono fun e w' h => by obtain ⟨v, l, h1, h2, h3⟩ := h; exact ⟨(v, l), h1, h2, h3, fun _ hh => by cases hh⟩) (fun q hq => ?_)
      obtain ⟨u, l2⟩ := q
      simp only at hq
      refine H.pull (fun w hw => Rw.isSlice (v := u) (len := l2.length) (hw.row 0 rfl)) (fun ho => ?_)
      obtain ⟨adu, capu, rfl⟩ := ho
      refine H.pull (fun w hw => sets_one (ls := l2) (fun r hr => hw.rows r (List.mem_append.2 (.inl (List.mem_cons_of_mem _ hr))))) (fun hone => ?_)
      have hl2 : l2.length ≤ 6 := by have h1 := congrArg List.length hq; have h2 := alone_len (factsE (rowsE rows) k) k; rw [List.length_map] at h1; omega
      refine H.cls (Hp w0 [(b8, ex (.cells #[.slice adf (factsE (rowsE rows) k).length capf, .int .i64 (k : Int)] 105))] (claimsRw v ls :: claimsRw (.slice adu l2.length capu) l2 :: ⟨v53, ((cs ++ [(Value.slice adf (factsE (rowsE rows) k).length capf, k)])).length, 105, 2, colsX (cs ++ [(Value.slice adf (factsE (rowsE rows) k).length capf, k)])⟩ :: (setsR (ls ++ l2) ++ colsR (rowsE rows) (cs ++ [(Value.slice adf (factsE (rowsE rows) k).length capf, k)]))) []) (fun w hw => hw.permR (by classical exact List.perm_iff_count.2 (fun x => by simp only [setsR_append, List.count_append, List.count_cons, List.cons_append]; omega))) ?_
      refine H.append 0 (l2.map cellsI).flatten el28 rfl rfl rfl (flat6 l2) (fun w hw => Rw.news (hw.row 1 rfl)) (claims_one hone) (by simp only; omega) (by decide) (by decide) (fun v57 => ?_)
      refine H.cls (Hp w0 [(b8, ex (.cells #[.slice adf (factsE (rowsE rows) k).length capf, .int .i64 (k : Int)] 105))] (⟨v53, ((cs ++ [(Value.slice adf (factsE (rowsE rows) k).length capf, k)])).length, 105, 2, colsX (cs ++ [(Value.slice adf (factsE (rowsE rows) k).length capf, k)])⟩ :: claimsRw v57 (ls ++ l2) :: (setsR (ls ++ l2) ++ colsR (rowsE rows) (cs ++ [(Value.slice adf (factsE (rowsE rows) k).length capf, k)]))) []) (fun w hw => ?_) ?_
      · rw [claimsRw_append]
        refine Hp.dropR (r := claimsRw (.slice adu l2.length capu) l2) ?_
        exact hw.permR (by classical exact List.perm_iff_count.2 (fun x => by simp only [setsR_append, List.set_cons_zero, List.count_append, List.count_cons]; omega))
      refine H.q (yl_assign rfl) rfl rfl (by decide) ?_
      refine HN.done ?_
      refine HN.keep [(0, _), (5, _), (6, _), (39, _), (40, _)] ⟨rfl, rfl, rfl, rfl, rfl, trivial⟩ ?_
      refine HN.block ?_
      refine HN.then ?_
      refine H.region ?_
      refine H.q (yl_add rfl rfl ((k : Int) + 1) rfl (by omega)) rfl rfl (by decide) ?_
      refine H.q (yl_move rfl) rfl rfl (by decide) ?_
      refine HN.done ?_
      refine HN.keep [(0, _), (5, _), (6, _), (39, _), (40, _)] ⟨rfl, rfl, rfl, rfl, rfl, trivial⟩ ?_
      refine HN.then ?_
      refine H.at ⟨k + 1, v53, cs ++ [(Value.slice adf (factsE (rowsE rows) k).length capf, k)], v57, ls ++ l2⟩ ⟨⟨hlt, ?_, ?_, ?_⟩, by simp only; omega⟩ ⟨rfl, rfl, rfl, rfl, rfl, trivial⟩ (fun w hw => hw.drop)
      · simp only [List.map_append, hcs, List.range_succ]; rfl
      · simp only [List.map_append, hls, hq, aloneA_succ]
      · simp only [List.length_append]; omega
    · simp only [decide_eq_false_iff_not] at t1
      have hkv : k = vars := by omega
      subst hkv
      refine H.pull (fun w hw => cols_open (v := lv) (cs := cs) (hw.row 0 rfl)) (fun ho => ?_)
      obtain ⟨adl, capl, bl, rfl, hcapl, hadl, hsl⟩ := ho
      have hcsi : ∀ i (hi : i < cs.length), cs[i].2 = i := fun i hi => by
        have h1 : (cs.map (·.2))[i]? = some i := by rw [hcs, List.getElem?_range (by omega)]
        simpa [hi] using h1
      refine H.keep [(0, _), (5, _), (6, _)] ⟨rfl, rfl, rfl, trivial⟩ ?_
      refine HX.exit ?_
      refine HX.then ?_
      refine HX.then ?_
      refine HX.hit ?_
      refine HN.then ?_
      refine H.seq ?_
      refine H.seq ?_
      refine H.region ?_
      refine H.q (yl_move rfl) rfl rfl (by decide) ?_
      refine H.q (yl_len rfl Tryz.underlying100 rfl) rfl rfl (by decide) ?_
      refine H.q (yl_move rfl) rfl rfl (by decide) ?_
      refine HN.done ?_
      refine HN.keep [(0, _), (5, _), (6, _), (59, _), (60, _), (61, _)] ⟨rfl, rfl, rfl, rfl, rfl, rfl, trivial⟩ ?_
      refine HN.then ?_
      refine H.block ?_
      have hcl' : cs.length = k := hcl
      refine H.loop (fun z : KZ => [(0, .pointer (some ⟨bm, 0, none⟩)), (5, z.v), (6, .slice adl cs.length capl), (59, .slice adl cs.length capl), (60, .int .i64 (cs.length : Int)), (61, .int .i64 (z.k : Int))]) (fun z => z.k ≤ k ∧ z.ls.map (·.2) = aloneA (rowsE rows) k ++ (List.range z.k).flatMap (fun a => pairA (rowsE rows) k a) ∧ z.ls.length ≤ 6 * k + 100 * z.k) (fun z => Hp w0 [] (claimsRw z.v z.ls :: ⟨(.slice adl cs.length capl), (cs).length, 105, 2, colsX cs⟩ :: (setsR z.ls ++ colsR (rowsE rows) cs)) []) (fun z => k - z.k) ⟨0, .slice none 0 0, [], v, ls⟩ ⟨Nat.zero_le _, by simpa using hls, by simpa using hlen⟩ ⟨rfl, rfl, rfl, rfl, rfl, rfl, trivial⟩ (fun w hw => hw.permR (by classical exact List.perm_iff_count.2 (fun x => by simp only [List.count_append, List.count_cons]; omega))) (fun z hI1 => ?_)
      obtain ⟨i, lv1, cs1, v1, ls1⟩ := z
      obtain ⟨hi, hls1, hlen1⟩ := hI1
      simp only at hi hls1 hlen1
      refine H.seq ?_
      refine H.region ?_
      refine H.q (yl_lss rfl rfl) rfl rfl (by decide) ?_
      refine HN.done ?_
      refine HN.keep [(0, _), (5, _), (6, _), (59, _), (60, _), (61, _), (62, _)] ⟨rfl, rfl, rfl, rfl, rfl, rfl, rfl, trivial⟩ ?_
      refine HN.then ?_
      refine H.seq ?_
      refine H.cond _ rfl (fun t2 => ?_) (fun t2 => ?_)
      · simp only [decide_eq_true_eq] at t2
        have hlti : i < cs.length := by omega
        refine H.pull (fun w hw => rowI_open (hw.rows _ (List.mem_cons_of_mem _ (List.mem_cons_of_mem _ (List.mem_append.2 (.inr (List.mem_map.2 ⟨cs[i], List.getElem_mem _, rfl⟩))))))) (fun ho => ?_)
        obtain ⟨ada, capa, ba, hva, _, _, _⟩ := ho
        refine H.keep [(0, _), (5, _), (6, _), (59, _), (60, _), (61, _)] ⟨rfl, rfl, rfl, rfl, rfl, rfl, trivial⟩ ?_
        refine HN.skip ?_
        refine HN.then ?_
        refine H.seq ?_
        refine H.block ?_
        refine H.seq ?_
        refine H.region ?_
        refine H.q (yl_move rfl) rfl rfl (by decide) ?_
        refine H.q (yl_index' i 2 Tryz.underlying100 Tryz.sizeOf105 (hadl (by omega)) rfl rfl rfl hlti) rfl rfl (by decide) ?_
        refine H.q (yl_loadAgg [cs[i].1, .int .i64 (cs[i].2 : Int)] Tryz.isAgg105 Tryz.sizeOf105 rfl (fun w hw => hsl w (hw.row 1 rfl) i hlti) rfl) rfl rfl (by decide) ?_
        refine H.allocA Tryz.zeroValue105 (by decide) (fun b10 hb10 => ?_)
        refine H.q (yl_assign rfl) rfl rfl (by decide) ?_
        refine H.storeA 0 rfl rfl (by simp [hva, Value.oneCell']) Tryz.sizeOf105 rfl rfl ?_
        refine HN.done ?_
        refine HN.keep [(0, _), (5, _), (6, _), (9, _), (10, _), (59, _), (60, _), (61, _)] ⟨rfl, rfl, rfl, rfl, rfl, rfl, rfl, rfl, trivial⟩ ?_
        refine HN.then ?_
        refine H.seq ?_
        refine H.region ?_
        refine H.q (yl_move rfl) rfl rfl (by decide) ?_
        refine H.q (yl_move rfl) rfl rfl (by decide) ?_
        refine H.q (yl_add rfl rfl ((i + 1 : Nat) : Int) (by show (i : Int) + 1 = _; omega) (by omega)) rfl rfl (by decide) ?_
        refine H.q (yl_slfrom (i + 1) Tryz.underlying100 Tryz.sizeOf105 rfl rfl rfl (by omega)) rfl rfl (by decide) ?_
        refine H.q (yl_len rfl Tryz.underlying100 rfl) rfl rfl (by decide) ?_
        refine H.q (yl_move rfl) rfl rfl (by decide) ?_
        refine HN.done ?_
        refine HN.keep [(0, _), (5, _), (6, _), (10, _), (59, _), (60, _), (61, _), (69, _), (70, _), (71, _)] ⟨rfl, rfl, rfl, rfl, rfl, rfl, rfl, rfl, rfl, rfl, trivial⟩ ?_
        refine HN.then ?_
        refine H.block ?_
        have hcik := hcsi i hlti
        refine H.loop (fun z : KZ => [(0, .pointer (some ⟨bm, 0, none⟩)), (5, z.v), (6, .slice adl cs.length capl), (10, .pointer (some ⟨b10, 0, none⟩)), (59, .slice adl cs.length capl), (60, .int .i64 (cs.length : Int)), (61, .int .i64 (i : Int)), (69, .slice (if capl = i + 1 then adl else adl.map (·.add ((i + 1) * 2))) (cs.length - (i + 1)) (capl - (i + 1))), (70, .int .i64 ((cs.length - (i + 1) : Nat) : Int)), (71, .int .i64 (z.k : Int))]) (fun z => z.k ≤ cs.length - (i + 1) ∧ z.ls.map (·.2) = (aloneA (rowsE rows) k ++ (List.range i).flatMap (fun a => pairA (rowsE rows) k a)) ++ (((List.range k).drop (i + 1)).take z.k).flatMap (fun b => pairE (rowsE rows) i b) ∧ z.ls.length ≤ 6 * k + 100 * i + 2 * z.k) (fun z => Hp w0 [(b10, ex (.cells #[cs[i].1, .int .i64 (cs[i].2 : Int)] 105))] (claimsRw z.v z.ls :: ⟨(.slice adl cs.length capl), (cs).length, 105, 2, colsX cs⟩ :: (setsR z.ls ++ colsR (rowsE rows) cs)) []) (fun z => cs.length - (i + 1) - z.k) ⟨0, .slice none 0 0, [], v1, ls1⟩ ⟨Nat.zero_le _, by simpa using hls1, by simpa using hlen1⟩ ⟨rfl, rfl, rfl, rfl, rfl, rfl, rfl, rfl, rfl, rfl, trivial⟩ (fun w hw => hw) (fun z hI2 => ?_)
        obtain ⟨j, lv2, cs2, v2, ls2⟩ := z
        obtain ⟨hj, hls2, hlen2⟩ := hI2
        simp only at hj hls2 hlen2
        refine H.seq ?_
        refine H.region ?_
        refine H.q (yl_lss rfl rfl) rfl rfl (by decide) ?_
        refine HN.done ?_
        refine HN.keep [(0, _), (5, _), (6, _), (10, _), (59, _), (60, _), (61, _), (69, _), (70, _), (71, _), (72, _)] ⟨rfl, rfl, rfl, rfl, rfl, rfl, rfl, rfl, rfl, rfl, rfl, trivial⟩ ?_
        refine HN.then ?_
        refine H.seq ?_
        refine H.cond _ rfl (fun t3 => ?_) (fun t3 => ?_)
        · simp only [decide_eq_true_eq] at t3
          have hltj : j < cs.length - (i + 1) := by omega
          have hlt2 : i + 1 + j < cs.length := by omega
          have hcjk := hcsi (i + 1 + j) hlt2
          have ea : 0 + (i + 1 + j) * 2 = (i + 1) * 2 + j * 2 := by omega
          have hadj : (if capl = i + 1 then adl else adl.map (·.add ((i + 1) * 2))) = some ⟨bl, (i + 1) * 2, none⟩ := by
            rw [if_neg (by omega), hadl (by omega)]
            simp [add_at]
          refine H.pull (fun w hw => rowI_open (hw.rows _ (List.mem_cons_of_mem _ (List.mem_cons_of_mem _ (List.mem_append.2 (.inr (List.mem_map.2 ⟨cs[i + 1 + j], List.getElem_mem _, rfl⟩))))))) (fun ho => ?_)
          obtain ⟨adb, capb, bb, hvb, _, _, _⟩ := ho
          refine H.keep [(0, _), (5, _), (6, _), (10, _), (59, _), (60, _), (61, _), (69, _), (70, _), (71, _)] ⟨rfl, rfl, rfl, rfl, rfl, rfl, rfl, rfl, rfl, rfl, trivial⟩ ?_
          refine HN.skip ?_
          refine HN.then ?_
          -- branchy seq 0, live: [0, 5, 6, 10, 59, 60, 61, 69, 70, 71]
          refine H.seq ?_
          refine H.block ?_
          refine H.seq ?_
          refine H.region ?_
          refine H.q (yl_index' j 2 Tryz.underlying100 Tryz.sizeOf105 hadj rfl rfl rfl hltj) rfl rfl (by decide) ?_
          refine H.q (yl_loadAgg [cs[i + 1 + j].1, .int .i64 (cs[i + 1 + j].2 : Int)] Tryz.isAgg105 Tryz.sizeOf105 rfl (fun w hw => by have h := hsl w (hw.row 1 rfl) (i + 1 + j) hlt2; rw [ea] at h; exact h) rfl) rfl rfl (by decide) ?_
          refine H.allocA Tryz.zeroValue105 (by decide) (fun b12 hb12 => ?_)
          refine H.storeA 0 rfl rfl (by simp [hvb, Value.oneCell']) Tryz.sizeOf105 rfl rfl ?_
          refine HN.done ?_
          refine HN.keep [(0, _), (5, _), (6, _), (10, _), (12, _), (59, _), (60, _), (61, _), (69, _), (70, _), (71, _)] ⟨rfl, rfl, rfl, rfl, rfl, rfl, rfl, rfl, rfl, rfl, rfl, trivial⟩ ?_
          refine HN.then ?_
          refine H.seq ?_
          refine H.region ?_
          refine H.q (yl_fieldAddr _ fa105_0 rfl) rfl rfl (by decide) ?_
          refine H.q (yl_fieldAddr _ fa102_0 rfl) rfl rfl (by decide) ?_
          refine H.q (yl_to (yl_load Tryz.isAgg23 rfl (fun w hw => hw.cell 1 rfl rfl)) hva) rfl rfl (by decide) ?_
          refine H.q (yl_len rfl Tryz.underlying23 rfl) rfl rfl (by decide) ?_
          refine H.q (yl_gtr rfl rfl) rfl rfl (by decide) ?_
          refine H.q (yl_move rfl) rfl rfl (by decide) ?_
          refine H.qg (wn_t rfl rfl (by decide) rfl) (fun hg => yl_sub [(12, _)] ⟨rfl, trivial⟩ (yl_fieldAddr _ fa105_0 rfl)) rfl (by decide) ?_
          refine H.qg (wn_t rfl rfl (by decide) rfl) (fun hg => yl_sub [(81, _)] ⟨slT rfl hg, trivial⟩ (yl_fieldAddr _ fa102_0 rfl)) rfl (by decide) ?_
          refine H.qg (wn_t rfl rfl (by decide) rfl) (fun hg => yl_sub [(82, _)] ⟨slT rfl hg, trivial⟩ (yl_to (yl_load Tryz.isAgg23 rfl (fun w hw => hw.cell 0 rfl rfl)) hvb)) rfl (by decide) ?_
          refine H.qg (wn_t rfl rfl (by decide) rfl) (fun hg => yl_sub [(83, _)] ⟨slT rfl hg, trivial⟩ (yl_len rfl Tryz.underlying23 rfl)) rfl (by decide) ?_
          refine H.qg (wn_t rfl rfl (by decide) rfl) (fun hg => yl_sub [(84, _)] ⟨slT rfl hg, trivial⟩ (yl_gtr rfl rfl)) rfl (by decide) ?_
          refine H.q (yl_and rfl rfl) rfl rfl (by decide) ?_
          refine HN.done ?_
          refine HN.keep [(0, _), (5, _), (6, _), (10, _), (12, _), (59, _), (60, _), (61, _), (69, _), (70, _), (71, _), (86, _)] ⟨rfl, rfl, rfl, rfl, rfl, rfl, rfl, rfl, rfl, rfl, rfl, rfl, trivial⟩ ?_
          refine HN.then ?_
          refine H.cond _ rfl (fun t4 => ?_) (fun t4 => ?_)
          · have hbig : (factsE (rowsE rows) cs[i].2).length > 1 ∧ (factsE (rowsE rows) cs[i + 1 + j].2).length > 1 := by
              simp only [Bool.and_eq_true, decide_eq_true_eq] at t4
              omega
            refine H.keep [(0, _), (5, _), (6, _), (10, _), (12, _), (59, _), (60, _), (61, _), (69, _), (70, _), (71, _)] ⟨rfl, rfl, rfl, rfl, rfl, rfl, rfl, rfl, rfl, rfl, rfl, trivial⟩ ?_
            refine H.regionA (Hp w0 [(b12, ex (.cells #[cs[i + 1 + j].1, .int .i64 (cs[i + 1 + j].2 : Int)] 105)), (b10, ex (.cells #[cs[i].1, .int .i64 (cs[i].2 : Int)] 105))] [] []) Tryz.mixed (stab_hp _ _ _ _) ?_
            refine H.take (i := 0) rfl (by kernel_rfl) (by kernel_rfl) (by kernel_rfl) (fun _ _ _ h => h) (fun w hw => hw.noR) (ye_move rfl) rfl rfl (by decide) ?_
            refine H.take (i := 1) rfl (by kernel_rfl) (by kernel_rfl) (by kernel_rfl) (fun _ _ _ h => h) (fun w hw => hw.noR) (ye_move rfl) rfl rfl (by decide) ?_
            refine H.take (i := 2) rfl (by kernel_rfl) (by kernel_rfl) (by kernel_rfl) (fun _ _ _ h => h) (fun w hw => hw.noR) (ye_nilCheck rfl) rfl rfl (by decide) ?_
            refine H.take (i := 3) rfl (by kernel_rfl) (by kernel_rfl) (by kernel_rfl) (fun _ _ _ h => h) (fun w hw => hw.noR) (ye_fieldAddr _ fa94_0 rfl) rfl rfl (by decide) ?_
            refine H.take (i := 4) rfl (by kernel_rfl) (by kernel_rfl) (by kernel_rfl) (fun _ _ _ h => h) (fun w hw => hw.noR) (ye_loadAgg _ Tryz.isAgg105 Tryz.sizeOf105 rfl (fun w hw => cells_of_blk (hw.blk 1 rfl)) rfl) rfl rfl (by decide) ?_
            refine H.take (i := 5) rfl (by kernel_rfl) (by kernel_rfl) (by kernel_rfl) (fun _ _ _ h => h) (fun w hw => hw.noR) (ye_loadAgg _ Tryz.isAgg105 Tryz.sizeOf105 rfl (fun w hw => cells_of_blk (hw.blk 0 rfl)) rfl) rfl rfl (by decide) ?_
            refine H.one (i := 6) rfl (by kernel_rfl) ?_
            refine H.call (α := Value × List (Value × Inv)) (xs := [.tmp 90, .tmp 91, .tmp 92]) (fun q => q.1) (fun q => q.2.map (·.2) = coupleE (rowsE rows) (factsE (rowsE rows) cs[i].2) (factsE (rowsE rows) cs[i + 1 + j].2) cs[i].2 cs[i + 1 + j].2) (fun q => claimsRw q.1 q.2 :: setsR q.2) (fun _ => []) Tryz.call58 rfl (by decide) (fun w hw => (couple_any bm k _ rows w (ht.ext hw.ext) (factsE (rowsE rows) cs[i].2) (factsE (rowsE rows) cs[i + 1 + j].2) cs[i].1 cs[i + 1 + j].1 cs[i].2 cs[i + 1 + j].2 (by omega) (by omega) (by omega) (by omega) (Nat.le_trans (facts_len _ _) (by simpa using ht.max)) (Nat.le_trans (facts_len _ _) (by simpa using ht.max)) (IsInts.of_row (hw.rows _ (List.mem_cons_of_mem _ (List.mem_cons_of_mem _ (List.mem_append.2 (.inr (List.mem_map.2 ⟨cs[i], List.getElem_mem _, rfl⟩))))))) (IsInts.of_row (hw.rows _ (List.mem_cons_of_mem _ (List.mem_cons_of_mem _ (List.mem_append.2 (.inr (List.mem_map.2 ⟨cs[i + 1 + j], List.getElem_mem _, rfl⟩)))))))).mono fun e w' h => by obtain ⟨v, l, h1, h2, h3⟩ := h; exact ⟨(v, l), h1, h2, h3, fun _ hh => by cases hh⟩) (fun q hq => ?_)
            obtain ⟨u, l2⟩ := q
            simp only at hq
            refine H.pull (fun w hw => Rw.isSlice (v := u) (len := l2.length) (hw.row 0 rfl)) (fun ho => ?_)
            obtain ⟨adu, capu, rfl⟩ := ho
            refine H.pull (fun w hw => sets_one (ls := l2) (fun r hr => hw.rows r (List.mem_append.2 (.inl (List.mem_cons_of_mem _ hr))))) (fun hone => ?_)
            have hl2 : l2.length ≤ 2 := by have h1 := congrArg List.length hq; have h2 := couple_len (rowsE rows) (factsE (rowsE rows) cs[i].2) (factsE (rowsE rows) cs[i + 1 + j].2) cs[i].2 cs[i + 1 + j].2; rw [List.length_map] at h1; omega
            refine H.cls (Hp w0 [(b12, ex (.cells #[cs[i + 1 + j].1, .int .i64 (cs[i + 1 + j].2 : Int)] 105)), (b10, ex (.cells #[cs[i].1, .int .i64 (cs[i].2 : Int)] 105))] (claimsRw v2 ls2 :: claimsRw (.slice adu l2.length capu) l2 :: ⟨(.slice adl cs.length capl), (cs).length, 105, 2, colsX cs⟩ :: (setsR (ls2 ++ l2) ++ colsR (rowsE rows) cs)) []) (fun w hw => hw.permR (by classical exact List.perm_iff_count.2 (fun x => by simp only [setsR_append, List.count_append, List.count_cons, List.cons_append]; omega))) ?_
            refine H.on (fun w hw => hw.noR) ?_
            refine H.one (i := 7) rfl (by kernel_rfl) ?_
            refine H.append 0 (l2.map cellsI).flatten el28 rfl rfl rfl (flat6 l2) (fun w hw => Rw.news (hw.row 1 rfl)) (claims_one hone) (by simp only; omega) (by decide) (by decide) (fun v94 => ?_)
            refine H.cls (Hp w0 [(b12, ex (.cells #[cs[i + 1 + j].1, .int .i64 (cs[i + 1 + j].2 : Int)] 105)), (b10, ex (.cells #[cs[i].1, .int .i64 (cs[i].2 : Int)] 105))] (claimsRw v94 (ls2 ++ l2) :: ⟨(.slice adl cs.length capl), (cs).length, 105, 2, colsX cs⟩ :: (setsR (ls2 ++ l2) ++ colsR (rowsE rows) cs)) []) (fun w hw => ?_) ?_
            · rw [claimsRw_append]
              refine Hp.dropR (r := claimsRw (.slice adu l2.length capu) l2) ?_
              exact hw.permR (by classical exact List.perm_iff_count.2 (fun x => by simp only [setsR_append, List.set_cons_zero, List.count_append, List.count_cons]; omega))
            refine H.on (fun w hw => hw.noR) ?_
            refine H.take (i := 8) rfl (by kernel_rfl) (by kernel_rfl) (by kernel_rfl) (fun _ _ _ h => h) (fun w hw => hw.noR) (ye_assign rfl) rfl rfl (by decide) ?_
            refine H.over (by kernel_rfl) ?_
            refine HN.keep [(0, _), (5, _), (6, _), (10, _), (59, _), (60, _), (61, _), (69, _), (70, _), (71, _)] ⟨rfl, rfl, rfl, rfl, rfl, rfl, rfl, rfl, rfl, rfl, trivial⟩ ?_
            refine HN.block ?_
            refine HN.then ?_
            refine H.region ?_
            refine H.q (yl_add rfl rfl ((j : Int) + 1) rfl (by omega)) rfl rfl (by decide) ?_
            refine H.q (yl_move rfl) rfl rfl (by decide) ?_
            refine HN.done ?_
            refine HN.keep [(0, _), (5, _), (6, _), (10, _), (59, _), (60, _), (61, _), (69, _), (70, _), (71, _)] ⟨rfl, rfl, rfl, rfl, rfl, rfl, rfl, rfl, rfl, rfl, trivial⟩ ?_
            refine HN.then ?_
            have hnext : ((List.range k).drop (i + 1)).take (j + 1) = ((List.range k).drop (i + 1)).take j ++ [i + 1 + j] := by
              rw [List.take_succ_eq_append_getElem (by simp; omega)]
              simp
            have hpair : pairE (rowsE rows) i (i + 1 + j) = coupleE (rowsE rows) (factsE (rowsE rows) i) (factsE (rowsE rows) (i + 1 + j)) i (i + 1 + j) := by
              rw [hcik, hcjk] at hbig
              unfold pairE
              rw [if_pos hbig]
            rw [hcik, hcjk] at hq
            refine H.at ⟨j + 1, lv2, cs2, v94, ls2 ++ l2⟩ ⟨⟨hltj, ?_, ?_⟩, by simp only; omega⟩ ⟨rfl, rfl, rfl, rfl, rfl, rfl, rfl, rfl, rfl, rfl, trivial⟩ (fun w hw => hw.drop)
            · simp only [List.map_append, hls2, hq, hnext, List.flatMap_append, List.flatMap_cons, List.flatMap_nil, List.append_nil, hpair, List.append_assoc]
            · simp only [List.length_append]; omega
          · have hbig : ¬ ((factsE (rowsE rows) cs[i].2).length > 1 ∧ (factsE (rowsE rows) cs[i + 1 + j].2).length > 1) := by
              intro h
              simp only [Bool.and_eq_false_iff, decide_eq_false_iff_not] at t4
              omega
            refine H.keep [(0, _), (5, _), (6, _), (10, _), (59, _), (60, _), (61, _), (69, _), (70, _), (71, _)] ⟨rfl, rfl, rfl, rfl, rfl, rfl, rfl, rfl, rfl, rfl, trivial⟩ ?_
            refine HN.skip ?_
            refine HN.block ?_
            refine HN.then ?_
            refine H.region ?_
            refine H.q (yl_add rfl rfl ((j : Int) + 1) rfl (by omega)) rfl rfl (by decide) ?_
            refine H.q (yl_move rfl) rfl rfl (by decide) ?_
            refine HN.done ?_
            refine HN.keep [(0, _), (5, _), (6, _), (10, _), (59, _), (60, _), (61, _), (69, _), (70, _), (71, _)] ⟨rfl, rfl, rfl, rfl, rfl, rfl, rfl, rfl, rfl, rfl, trivial⟩ ?_
            refine HN.then ?_
            have hnext : ((List.range k).drop (i + 1)).take (j + 1) = ((List.range k).drop (i + 1)).take j ++ [i + 1 + j] := by
              rw [List.take_succ_eq_append_getElem (by simp; omega)]
              simp
            have hpair : pairE (rowsE rows) i (i + 1 + j) = [] := by
              rw [hcik, hcjk] at hbig
              unfold pairE
              rw [if_neg hbig]
            refine H.at ⟨j + 1, lv2, cs2, v2, ls2⟩ ⟨⟨hltj, ?_, ?_⟩, by simp only; omega⟩ ⟨rfl, rfl, rfl, rfl, rfl, rfl, rfl, rfl, rfl, rfl, trivial⟩ (fun w hw => hw.drop)
            · simp only [hls2, hnext, List.flatMap_append, List.flatMap_cons, List.flatMap_nil, List.append_nil, hpair]
            · simp only; omega
        · simp only [decide_eq_false_iff_not] at t3
          have hjl : j = cs.length - (i + 1) := by omega
          have htake : ((List.range k).drop (i + 1)).take j = (List.range k).drop (i + 1) := List.take_of_length_le (by simp; omega)
          rw [htake] at hls2
          refine H.keep [(0, _), (5, _), (6, _), (59, _), (60, _), (61, _)] ⟨rfl, rfl, rfl, rfl, rfl, rfl, trivial⟩ ?_
          refine HX.exit ?_
          refine HX.then ?_
          refine HX.then ?_
          refine HX.hit ?_
          refine HN.block ?_
          refine HN.then ?_
          refine H.region ?_
          refine H.q (yl_add rfl rfl ((i : Int) + 1) rfl (by omega)) rfl rfl (by decide) ?_
          refine H.q (yl_move rfl) rfl rfl (by decide) ?_
          refine HN.done ?_
          refine HN.keep [(0, _), (5, _), (6, _), (59, _), (60, _), (61, _)] ⟨rfl, rfl, rfl, rfl, rfl, rfl, trivial⟩ ?_
          refine HN.then ?_
          refine H.at ⟨i + 1, lv2, cs2, v2, ls2⟩ ⟨⟨by simp only; omega, ?_, by simp only; omega⟩, by simp only; omega⟩ ⟨rfl, rfl, rfl, rfl, rfl, rfl, trivial⟩ (fun w hw => hw.drop)
          simp only [hls2, List.range_succ, List.flatMap_append, List.flatMap_cons, List.flatMap_nil, List.append_nil, List.append_assoc]
          rfl
      · simp only [decide_eq_false_iff_not] at t2
        have hik : i = k := by omega
        subst hik
        refine H.keep [(5, _)] ⟨rfl, trivial⟩ ?_
        refine HX.exit ?_
        refine HX.then ?_
        refine HX.then ?_
        refine HX.hit ?_
        refine HN.then ?_
        refine H.seq ?_
        refine H.region ?_
        refine H.q (yl_move rfl) rfl rfl (by decide) ?_
        refine H.q (yl_assign rfl) rfl rfl (by decide) ?_
        refine HN.done ?_
        refine HN.keep [(4, _)] ⟨rfl, trivial⟩ ?_
        refine HN.then ?_
        refine HR.ret ?_
        refine HR.ret1 _ Tryz.results24 rfl (fun w hw => ?_)
        refine ⟨v1, ls1, rfl, ?_, ?_⟩
        · rw [hls1, claimsE_eq (by simpa using hsp)]
          rfl
        · have h2 : Hp w0 [] ((⟨(.slice adl cs.length capl), (cs).length, 105, 2, colsX cs⟩ :: colsR (rowsE rows) cs) ++ (claimsRw v1 ls1 :: setsR ls1)) [] w := hw.permR (by classical exact List.perm_iff_count.2 (fun x => by simp only [List.count_append, List.count_cons, List.cons_append]; omega))
          exact h2.dropRs _

end Go.Proofs.YtgbgddmbooaddaaGreatDoor

namespace Go.Proofs.YtgbgddmbooaddaaGreatDoor
open Go.RowKit


abbrev minerRw (rv : Value) (rows : List (Value × List Int)) : Rw := ⟨rv, rows.length, 23, 1, rows.map (·.1)⟩
abbrev rowsR (rows : List (Value × List Int)) : List Rw := rows.map fun p => rowI p.1 p.2
abbrev minerB (bm vars : Nat) (rv : Value) : BP := (bm, ex (.cells #[.int .i64 (vars : Int), rv] 94))
theorem rowsR_append (a b : List (Value × List Int)) : rowsR (a ++ b) = rowsR a ++ rowsR b := List.map_append
theorem Hp.head {w0 : World} {p : BP} {L : List BP} {R : List Rw} {F : List BP} {w : World} (h : Hp w0 (p :: L) R F w) : Hp w0 [p] [] [] w := by
  have h1 := h.noR
  have h2 : Hp w0 (L ++ [p]) [] [] w := h1.permL (by rw [← List.singleton_append]; exact List.perm_append_comm)
  exact h2.dropLs L
def addE (l : List Int) (vars : Nat) : Int := if l.length ≠ vars then 1 else if allSmallB l = false then 3 else 0

set_option maxRecDepth 100000 in
theorem add_any (l : List Int) (sv : Value) (bm vars : Nat) (rv : Value) (rows : List (Value × List Int)) (w0 : World) (L : List BP) (R : List Rw) (F : List BP) (w : World) (hmax : rows.length ≤ 1000) (hv1 : 1 ≤ vars) (hl : l.length ≤ 1000) (hv : ∀ w', Hp w0 (minerB bm vars rv :: L) (minerRw rv rows :: (rowsR rows ++ R)) F w' → IsInts w' sv l) (hw : Hp w0 (minerB bm vars rv :: L) (minerRw rv rows :: (rowsR rows ++ R)) F w) : Calls Tryz.prog 19 #[.pointer (some ⟨bm, 0, none⟩), sv] w fun e w' => (addE l vars ≠ 0 ∧ e = .returned (.int .i64 (addE l vars)) ∧ Hp w0 (minerB bm vars rv :: L) (minerRw rv rows :: (rowsR rows ++ R)) F w') ∨ (addE l vars = 0 ∧ e = .returned (.int .i64 0) ∧ ∃ rv' cv, Hp w0 (minerB bm vars rv' :: L) (minerRw rv' (rows ++ [(cv, l)]) :: (rowsR (rows ++ [(cv, l)]) ++ R)) F w') := by
  obtain ⟨ad, cap, b, o, rfl, hcap, _⟩ := ints_open (hv w hw)
  have hvt : decide ((0 : Int) < (vars : Int)) = true := decide_eq_true (by omega)
  refine enterA 35 Tryz.func19 rfl Tryz.ntmps19 rfl (Hp w0 (minerB bm vars rv :: L) (minerRw rv rows :: (rowsR rows ++ R)) F) hw ?_
  refine H.seq ?_
  refine H.region ?_
  refine H.q (yl_assign rfl) rfl rfl (by decide) ?_
  refine HN.done ?_
  refine HN.keep [(0, _), (1, _)] ⟨rfl, rfl, trivial⟩ ?_
  refine HN.then ?_
  refine H.seq ?_
  refine H.block ?_
  refine H.seq ?_
  refine H.region ?_
  refine H.q (yl_move rfl) rfl rfl (by decide) ?_
  refine H.q (yl_call (xs := [.tmp 6]) Tryz.call49 (stab_hp _ _ _ _) rfl (fun w hw => there_any bm vars w (hw.cell 0 rfl rfl))) rfl rfl (by decide) ?_
  refine H.q (yl_not rfl) rfl rfl (by decide) ?_
  refine H.q (yl_assign rfl) rfl rfl (by decide) ?_
  refine HN.done ?_
  refine HN.keep [(0, _), (1, _), (5, _)] ⟨rfl, rfl, rfl, trivial⟩ ?_
  refine HN.then ?_
  refine H.cond _ rfl (fun t0 => ?_) (fun t0 => ?_)
  · rw [hvt] at t0; exact absurd t0 (by decide)
    done
  · refine H.keep [(0, _), (1, _)] ⟨rfl, rfl, trivial⟩ ?_
    refine H.seq ?_
    refine H.region ?_
    refine H.q (yl_move rfl) rfl rfl (by decide) ?_
    refine H.q (yl_len rfl Tryz.underlying23 rfl) rfl rfl (by decide) ?_
    refine H.q (yl_move rfl) rfl rfl (by decide) ?_
    refine H.q (yl_nilCheck rfl) rfl rfl (by decide) ?_
    refine H.q (yl_fieldAddr _ fa94_0 rfl) rfl rfl (by decide) ?_
    refine H.q (yl_fieldAddr _ fa92_0 rfl) rfl rfl (by decide) ?_
    refine H.q (yl_load Tryz.isAgg3 rfl (fun w hw => hw.cell 0 rfl rfl)) rfl rfl (by decide) ?_
    refine H.q (yl_neq rfl rfl) rfl rfl (by decide) ?_
    refine H.q (yl_assign rfl) rfl rfl (by decide) ?_
    refine HN.done ?_
    refine HN.keep [(0, _), (1, _), (9, _)] ⟨rfl, rfl, rfl, trivial⟩ ?_
    refine HN.then ?_
    refine H.cond _ rfl (fun t1 => ?_) (fun t1 => ?_)
    · simp only [decide_eq_true_eq] at t1
      have he : addE l vars = 1 := if_pos (by omega)
      refine H.keep [] trivial ?_
      refine H.seq ?_
      refine H.region ?_
      refine H.q (yl_assign rfl) rfl rfl (by decide) ?_
      refine HN.done ?_
      refine HN.keep [(4, _)] ⟨rfl, trivial⟩ ?_
      refine HN.then ?_
      refine HR.ret ?_
      refine HR.block ?_
      refine HR.then ?_
      refine HR.ret1 _ Tryz.results19 rfl (fun w hw => ?_)
      exact .inl ⟨by rw [he]; decide, by rw [he], hw⟩
    · replace t1 := of_decide_eq_false t1
      have hll : l.length = vars := by omega
      refine H.keep [(0, _), (1, _)] ⟨rfl, rfl, trivial⟩ ?_
      refine H.seq ?_
      refine H.region ?_
      refine H.q (yl_move rfl) rfl rfl (by decide) ?_
      refine H.q (yl_call (xs := [.tmp 19]) Tryz.call50 (stab_hp _ _ _ _) rfl (fun w hw => allSmall_any l _ w (by omega) (hv w hw))) rfl rfl (by decide) ?_
      refine H.q (yl_not rfl) rfl rfl (by decide) ?_
      refine H.q (yl_assign rfl) rfl rfl (by decide) ?_
      refine HN.done ?_
      refine HN.keep [(0, _), (1, _), (18, _)] ⟨rfl, rfl, rfl, trivial⟩ ?_
      refine HN.then ?_
      refine H.cond _ rfl (fun t2 => ?_) (fun t2 => ?_)
      · replace t2 : allSmallB l = false := by simpa using t2
        have he : addE l vars = 3 := by unfold addE; rw [if_neg (by omega), if_pos t2]
        refine H.keep [] trivial ?_
        refine H.seq ?_
        refine H.region ?_
        refine H.q (yl_assign rfl) rfl rfl (by decide) ?_
        refine HN.done ?_
        refine HN.keep [(4, _)] ⟨rfl, trivial⟩ ?_
        refine HN.then ?_
        refine HR.ret ?_
        refine HR.block ?_
        refine HR.then ?_
        refine HR.ret1 _ Tryz.results19 rfl (fun w hw => ?_)
        exact .inl ⟨by rw [he]; decide, by rw [he], hw⟩
      · replace t2 : allSmallB l = true := by simpa using t2
        have he : addE l vars = 0 := by unfold addE; rw [if_neg (by omega), if_neg (by rw [t2]; decide)]
        refine H.keep [(0, _), (1, _)] ⟨rfl, rfl, trivial⟩ ?_
        refine HN.skip ?_
        refine HN.block ?_
        refine HN.then ?_
        refine H.seq ?_
        refine H.regionA (Hp w0 [] [] []) Tryz.mixed (stab_hp _ _ _ _) ?_
        refine H.take (i := 0) rfl (by kernel_rfl) (by kernel_rfl) (by kernel_rfl) (fun _ _ _ h => h) (fun w hw => hw.base) (ye_move rfl) rfl rfl (by decide) ?_
        refine H.take (i := 1) rfl (by kernel_rfl) (by kernel_rfl) (by kernel_rfl) (fun _ _ _ h => h) (fun w hw => hw.base) (ye_move rfl) rfl rfl (by decide) ?_
        refine H.take (i := 2) rfl (by kernel_rfl) (by kernel_rfl) (by kernel_rfl) (fun _ _ _ h => h) (fun w hw => hw.base) (ye_nilCheck rfl) rfl rfl (by decide) ?_
        refine H.take (i := 3) rfl (by kernel_rfl) (by kernel_rfl) (by kernel_rfl) (fun _ _ _ h => h) (fun w hw => hw.base) (ye_fieldAddr _ fa94_0 rfl) rfl rfl (by decide) ?_
        refine H.take (i := 4) rfl (by kernel_rfl) (by kernel_rfl) (by kernel_rfl) (fun _ _ _ h => h) (fun w hw => hw.base) (ye_fieldAddr _ fa92_1 rfl) rfl rfl (by decide) ?_
        refine H.take (i := 6) rfl (by kernel_rfl) (by kernel_rfl) (by kernel_rfl) (fun _ _ _ h => h) (fun w hw => hw.base) (ye_move rfl) rfl rfl (by decide) ?_
        refine H.two (i := 5) (j := 7) rfl rfl (by kernel_rfl) ?_ ?_
        · refine H.q (yl_load (v := rv) Tryz.isAgg37 rfl (fun w hw => by first | exact hw.cell 0 rfl rfl | exact hw.cell 1 rfl rfl)) rfl rfl (by decide) ?_
          refine H.on (fun w hw => hw.base) ?_
          refine H.one (i := 7) rfl (by kernel_rfl) ?_
          refine H.call (α := Value) (xs := [.tmp 28]) (fun v => v) (fun _ => True) (fun v => [rowI v l]) (fun _ => []) Tryz.call51 rfl (by decide) (fun w hw => (clone_any l _ w (by omega) (hv w hw)).mono fun e w' h => by obtain ⟨v, h1, h2⟩ := h; exact ⟨v, h1, trivial, h2, fun _ hh => by cases hh⟩) (fun cv _ => ?_)
          refine H.pull (fun w hw => rowI_open (hw.row 0 rfl)) (fun ho => ?_)
          obtain ⟨adc, capc, bc, rfl, hcapc, hadc, hsc⟩ := ho
          refine H.on (fun w hw => hw.base) ?_
          refine H.one (i := 8) rfl (by kernel_rfl) ?_
          refine H.buildSlice (bs37 _ _ _) rfl (by decide) (fun b30 hb30 => ?_)
          refine H.on (fun w hw => hw.base) ?_
          refine H.one (i := 9) rfl (by kernel_rfl) ?_
          refine H.append 1 [.slice adc l.length capc] el37 rfl rfl rfl rfl (fun w hw => newsN (hw.blk 0 rfl)) (by simp [Value.oneCell']) (by simp only; omega) (by decide) (by decide) (fun v31 => ?_)
          refine H.pull (fun w hw => Rw.isSlice (v := v31) (len := rows.length + 1) (hw.row 1 rfl)) (fun ho => ?_)
          obtain ⟨ad31, cap31, rfl⟩ := ho
          refine H.cls (Hp w0 (minerB bm vars rv :: L) (minerRw (.slice ad31 (rows.length + 1) cap31) (rows ++ [(.slice adc l.length capc, l)]) :: (rowsR (rows ++ [(.slice adc l.length capc, l)]) ++ R)) F) (fun w hw => ?_) ?_
          · have e1 : minerRw (.slice ad31 (rows.length + 1) cap31) (rows ++ [(.slice adc l.length capc, l)]) = ⟨.slice ad31 (rows.length + 1) cap31, rows.length + 1, 23, 1, rows.map (·.1) ++ [.slice adc l.length capc]⟩ := by simp [minerRw]
            have e2 : rowsR [(Value.slice adc l.length capc, l)] = [rowI (.slice adc l.length capc) l] := rfl
            rw [e1, rowsR_append, e2]
            exact (hw.drop).permR (by classical exact List.perm_iff_count.2 (fun x => by simp only [List.set_cons_zero, List.set_cons_succ, List.count_append, List.count_cons, List.count_nil, List.cons_append, List.nil_append]; omega))
          refine H.on (fun w hw => hw.base) ?_
          refine H.take (i := 10) rfl (by kernel_rfl) (by kernel_rfl) (by kernel_rfl) (fun _ _ _ h => h) (fun w hw => hw.base) (ye_nilCheck rfl) rfl rfl (by decide) ?_
          refine H.take (i := 11) rfl (by kernel_rfl) (by kernel_rfl) (by kernel_rfl) (fun _ _ _ h => h) (fun w hw => hw.base) (ye_fieldAddr _ fa94_0 rfl) rfl rfl (by decide) ?_
          refine H.take (i := 12) rfl (by kernel_rfl) (by kernel_rfl) (by kernel_rfl) (fun _ _ _ h => h) (fun w hw => hw.base) (ye_fieldAddr _ fa92_1 rfl) rfl rfl (by decide) ?_
          refine H.one (i := 13) rfl (by kernel_rfl) ?_
          refine H.store1 0 rfl rfl rfl rfl Tryz.sizeOf37 rfl rfl ?_
          refine H.on (fun w hw => hw.base) ?_
          refine H.over (by kernel_rfl) ?_
          refine HN.keep [] trivial ?_
          refine HN.then ?_
          refine H.seq ?_
          refine H.region ?_
          refine H.q (yl_assign rfl) rfl rfl (by decide) ?_
          refine HN.done ?_
          refine HN.keep [(4, _)] ⟨rfl, trivial⟩ ?_
          refine HN.then ?_
          refine HR.ret ?_
          refine HR.ret1 _ Tryz.results19 rfl (fun w hw => ?_)
          exact .inr ⟨he, rfl, _, _, hw⟩
        · refine H.call (α := Value) (xs := [.tmp 28]) (fun v => v) (fun _ => True) (fun v => [rowI v l]) (fun _ => []) Tryz.call51 rfl (by decide) (fun w hw => (clone_any l _ w (by omega) (hv w hw)).mono fun e w' h => by obtain ⟨v, h1, h2⟩ := h; exact ⟨v, h1, trivial, h2, fun _ hh => by cases hh⟩) (fun cv _ => ?_)
          refine H.pull (fun w hw => rowI_open (hw.row 0 rfl)) (fun ho => ?_)
          obtain ⟨adc, capc, bc, rfl, hcapc, hadc, hsc⟩ := ho
          refine H.on (fun w hw => hw.base) ?_
          refine H.two (i := 5) (j := 8) rfl rfl (by kernel_rfl) ?_ ?_
          · refine H.q (yl_load (v := rv) Tryz.isAgg37 rfl (fun w hw => by first | exact hw.cell 0 rfl rfl | exact hw.cell 1 rfl rfl)) rfl rfl (by decide) ?_
            refine H.on (fun w hw => hw.base) ?_
            refine H.one (i := 8) rfl (by kernel_rfl) ?_
            refine H.buildSlice (bs37 _ _ _) rfl (by decide) (fun b30 hb30 => ?_)
            refine H.on (fun w hw => hw.base) ?_
            refine H.one (i := 9) rfl (by kernel_rfl) ?_
            refine H.append 1 [.slice adc l.length capc] el37 rfl rfl rfl rfl (fun w hw => newsN (hw.blk 0 rfl)) (by simp [Value.oneCell']) (by simp only; omega) (by decide) (by decide) (fun v31 => ?_)
            refine H.pull (fun w hw => Rw.isSlice (v := v31) (len := rows.length + 1) (hw.row 1 rfl)) (fun ho => ?_)
            obtain ⟨ad31, cap31, rfl⟩ := ho
            refine H.cls (Hp w0 (minerB bm vars rv :: L) (minerRw (.slice ad31 (rows.length + 1) cap31) (rows ++ [(.slice adc l.length capc, l)]) :: (rowsR (rows ++ [(.slice adc l.length capc, l)]) ++ R)) F) (fun w hw => ?_) ?_
            · have e1 : minerRw (.slice ad31 (rows.length + 1) cap31) (rows ++ [(.slice adc l.length capc, l)]) = ⟨.slice ad31 (rows.length + 1) cap31, rows.length + 1, 23, 1, rows.map (·.1) ++ [.slice adc l.length capc]⟩ := by simp [minerRw]
              have e2 : rowsR [(Value.slice adc l.length capc, l)] = [rowI (.slice adc l.length capc) l] := rfl
              rw [e1, rowsR_append, e2]
              exact (hw.drop).permR (by classical exact List.perm_iff_count.2 (fun x => by simp only [List.set_cons_zero, List.set_cons_succ, List.count_append, List.count_cons, List.count_nil, List.cons_append, List.nil_append]; omega))
            refine H.on (fun w hw => hw.base) ?_
            refine H.take (i := 10) rfl (by kernel_rfl) (by kernel_rfl) (by kernel_rfl) (fun _ _ _ h => h) (fun w hw => hw.base) (ye_nilCheck rfl) rfl rfl (by decide) ?_
            refine H.take (i := 11) rfl (by kernel_rfl) (by kernel_rfl) (by kernel_rfl) (fun _ _ _ h => h) (fun w hw => hw.base) (ye_fieldAddr _ fa94_0 rfl) rfl rfl (by decide) ?_
            refine H.take (i := 12) rfl (by kernel_rfl) (by kernel_rfl) (by kernel_rfl) (fun _ _ _ h => h) (fun w hw => hw.base) (ye_fieldAddr _ fa92_1 rfl) rfl rfl (by decide) ?_
            refine H.one (i := 13) rfl (by kernel_rfl) ?_
            refine H.store1 0 rfl rfl rfl rfl Tryz.sizeOf37 rfl rfl ?_
            refine H.on (fun w hw => hw.base) ?_
            refine H.over (by kernel_rfl) ?_
            refine HN.keep [] trivial ?_
            refine HN.then ?_
            refine H.seq ?_
            refine H.region ?_
            refine H.q (yl_assign rfl) rfl rfl (by decide) ?_
            refine HN.done ?_
            refine HN.keep [(4, _)] ⟨rfl, trivial⟩ ?_
            refine HN.then ?_
            refine HR.ret ?_
            refine HR.ret1 _ Tryz.results19 rfl (fun w hw => ?_)
            exact .inr ⟨he, rfl, _, _, hw⟩
          · refine H.buildSlice (bs37 _ _ _) rfl (by decide) (fun b30 hb30 => ?_)
            refine H.on (fun w hw => hw.base) ?_
            refine H.one (i := 5) rfl (by kernel_rfl) ?_
            refine H.q (yl_load (v := rv) Tryz.isAgg37 rfl (fun w hw => by first | exact hw.cell 0 rfl rfl | exact hw.cell 1 rfl rfl)) rfl rfl (by decide) ?_
            refine H.on (fun w hw => hw.base) ?_
            refine H.one (i := 9) rfl (by kernel_rfl) ?_
            refine H.append 1 [.slice adc l.length capc] el37 rfl rfl rfl rfl (fun w hw => newsN (hw.blk 0 rfl)) (by simp [Value.oneCell']) (by simp only; omega) (by decide) (by decide) (fun v31 => ?_)
            refine H.pull (fun w hw => Rw.isSlice (v := v31) (len := rows.length + 1) (hw.row 1 rfl)) (fun ho => ?_)
            obtain ⟨ad31, cap31, rfl⟩ := ho
            refine H.cls (Hp w0 (minerB bm vars rv :: L) (minerRw (.slice ad31 (rows.length + 1) cap31) (rows ++ [(.slice adc l.length capc, l)]) :: (rowsR (rows ++ [(.slice adc l.length capc, l)]) ++ R)) F) (fun w hw => ?_) ?_
            · have e1 : minerRw (.slice ad31 (rows.length + 1) cap31) (rows ++ [(.slice adc l.length capc, l)]) = ⟨.slice ad31 (rows.length + 1) cap31, rows.length + 1, 23, 1, rows.map (·.1) ++ [.slice adc l.length capc]⟩ := by simp [minerRw]
              have e2 : rowsR [(Value.slice adc l.length capc, l)] = [rowI (.slice adc l.length capc) l] := rfl
              rw [e1, rowsR_append, e2]
              exact (hw.drop).permR (by classical exact List.perm_iff_count.2 (fun x => by simp only [List.set_cons_zero, List.set_cons_succ, List.count_append, List.count_cons, List.count_nil, List.cons_append, List.nil_append]; omega))
            refine H.on (fun w hw => hw.base) ?_
            refine H.take (i := 10) rfl (by kernel_rfl) (by kernel_rfl) (by kernel_rfl) (fun _ _ _ h => h) (fun w hw => hw.base) (ye_nilCheck rfl) rfl rfl (by decide) ?_
            refine H.take (i := 11) rfl (by kernel_rfl) (by kernel_rfl) (by kernel_rfl) (fun _ _ _ h => h) (fun w hw => hw.base) (ye_fieldAddr _ fa94_0 rfl) rfl rfl (by decide) ?_
            refine H.take (i := 12) rfl (by kernel_rfl) (by kernel_rfl) (by kernel_rfl) (fun _ _ _ h => h) (fun w hw => hw.base) (ye_fieldAddr _ fa92_1 rfl) rfl rfl (by decide) ?_
            refine H.one (i := 13) rfl (by kernel_rfl) ?_
            refine H.store1 0 rfl rfl rfl rfl Tryz.sizeOf37 rfl rfl ?_
            refine H.on (fun w hw => hw.base) ?_
            refine H.over (by kernel_rfl) ?_
            refine HN.keep [] trivial ?_
            refine HN.then ?_
            refine H.seq ?_
            refine H.region ?_
            refine H.q (yl_assign rfl) rfl rfl (by decide) ?_
            refine HN.done ?_
            refine HN.keep [(4, _)] ⟨rfl, trivial⟩ ?_
            refine HN.then ?_
            refine HR.ret ?_
            refine HR.ret1 _ Tryz.results19 rfl (fun w hw => ?_)
            exact .inr ⟨he, rfl, _, _, hw⟩

end Go.Proofs.YtgbgddmbooaddaaGreatDoor

namespace Go.Proofs.YtgbgddmbooaddaaGreatDoor
open Go.RowKit

structure MZ where
  k : Nat
  rv : Value
  new : List (Value × List Int)

def followE (x : Inv) (vars : Nat) (rows : List (List Int)) : Bool × Int := if chk x vars ≠ 0 then (false, chk x vars) else (rows.all (fun r => holdsR x r), 0)

set_option maxRecDepth 100000 in
theorem followsC_any (x : Inv) (sv : Value) (row : List Int) (ev : Value) (b3 : Nat) (w0 : World) (hl : x.set.length ≤ 4611686018427387904) (hv : IsInts w0 sv x.set) (hr : row.length ≤ 1000000) (hrv : IsInts w0 ev row) (hch : chk x row.length = 0) (hsm : allSmallB row = true) (hb : w0.heap[b3]? = some (.cells [.int .u8 x.kind, .int .i64 x.a, .int .i64 x.b, .int .i64 x.k, .int .i64 x.m, sv].toArray 25)) : Calls Tryz.prog 53 #[ev, .pointer (some ⟨b3, 0, none⟩)] w0 fun e w' => e = .returned (.bool (!holdsR x row)) ∧ Ext w0 w' := by
  refine enterA 8 Tryz.func53 rfl Tryz.ntmps53 rfl (Hp w0 [] [] []) (Hp.init _) ?_
  refine H.seq ?_
  refine H.region ?_
  refine H.q (yl_assign rfl) rfl rfl (by decide) ?_
  refine HN.done ?_
  refine HN.keep [(0, _), (1, _)] ⟨rfl, rfl, trivial⟩ ?_
  refine HN.then ?_
  refine H.seq ?_
  refine H.region ?_
  refine H.q (yl_loadAgg _ Tryz.isAgg25 Tryz.sizeOf25 rfl (fun w hw => cells_of_blk (blk_ext hw.ext hb)) rfl) rfl rfl (by decide) ?_
  refine H.q (yl_move rfl) rfl rfl (by decide) ?_
  refine H.q (yl_call (xs := [.tmp 4, .tmp 5]) Tryz.call54 (stab_hp _ _ _ _) rfl (fun w hw => hold_any x sv w hl (hv.ext hw.ext) row ev (by omega) (hrv.ext hw.ext) hch hsm)) rfl rfl (by decide) ?_
  refine H.q (yl_not rfl) rfl rfl (by decide) ?_
  refine H.q (yl_assign rfl) rfl rfl (by decide) ?_
  refine HN.done ?_
  refine HN.keep [(3, _)] ⟨rfl, trivial⟩ ?_
  refine HN.then ?_
  refine HR.ret ?_
  refine HR.ret1 _ Tryz.results53 rfl (fun w hw => ?_)
  exact ⟨rfl, hw.ext⟩


theorem allSmall_of {l : List Int} (h : ∀ x ∈ l, smallB x = true) : allSmallB l = true := List.all_eq_true.2 h

set_option maxRecDepth 100000 in
theorem follows_any (bm vars : Nat) (rv : Value) (rows : List (Value × List Int)) (w0 : World) (ht : Tbl w0 bm vars rv rows) (hv1 : 1 ≤ vars) (hv8 : vars ≤ 8) (x : Inv) (sv : Value) (hl : x.set.length ≤ 4611686018427387904) (hv : IsInts w0 sv x.set) : Calls Tryz.prog 20 #[.pointer (some ⟨bm, 0, none⟩), .agg [.int .u8 x.kind, .int .i64 x.a, .int .i64 x.b, .int .i64 x.k, .int .i64 x.m, sv].toArray] w0 fun e w' => e = .returned (.tuple #[.bool (followE x vars (rowsE rows)).1, .int .i64 (followE x vars (rowsE rows)).2]) ∧ Ext w0 w' := by
  have hvt : decide ((0 : Int) < (vars : Int)) = true := decide_eq_true (by omega)
  refine enterA 28 Tryz.func20 rfl Tryz.ntmps20 rfl (Hp w0 [] [] []) (Hp.init _) ?_
  refine H.seq ?_
  refine H.region ?_
  refine H.boxA rfl (by decide) (fun b3 hb3 => ?_)
  refine H.q (yl_assign rfl) rfl rfl (by decide) ?_
  refine H.q (yl_assign rfl) rfl rfl (by decide) ?_
  refine HN.done ?_
  refine HN.keep [(0, _), (3, _)] ⟨rfl, rfl, trivial⟩ ?_
  refine HN.then ?_
  refine H.seq ?_
  refine H.seq ?_
  refine H.region ?_
  refine H.q (yl_move rfl) rfl rfl (by decide) ?_
  refine H.q (yl_call (xs := [.tmp 7]) Tryz.call49 (stab_hp _ _ _ _) rfl (fun w hw => there_any bm vars w (cell_ext hw.ext ht.var))) rfl rfl (by decide) ?_
  refine H.q (yl_not rfl) rfl rfl (by decide) ?_
  refine HN.done ?_
  refine HN.keep [(0, _), (3, _), (9, _)] ⟨rfl, rfl, rfl, trivial⟩ ?_
  refine HN.then ?_
  refine H.cond _ rfl (fun t0 => ?_) (fun t0 => ?_)
  · rw [hvt] at t0; exact absurd t0 (by decide)
    done
  · refine H.keep [(0, _), (3, _)] ⟨rfl, rfl, trivial⟩ ?_
    refine HN.skip ?_
    refine HN.then ?_
    refine H.seq ?_
    refine H.seq ?_
    refine H.regionQ Tryz.mixed (by kernel_rfl) (stab_hp _ _ _ _) ?_
    refine G.q (yl_loadAgg _ Tryz.isAgg25 Tryz.sizeOf25 rfl (fun w hw => cells_of_blk (hw.blk 0 rfl)) rfl) rfl rfl (by decide) ?_
    refine G.q (yl_move rfl) rfl rfl (by decide) ?_
    refine G.q (yl_nilCheck rfl) rfl rfl (by decide) ?_
    refine G.q (yl_fieldAddr _ fa94_0 rfl) rfl rfl (by decide) ?_
    refine G.q (yl_fieldAddr _ fa92_0 rfl) rfl rfl (by decide) ?_
    refine G.q (yl_load Tryz.isAgg3 rfl (fun w hw => cell_ext hw.ext ht.var)) rfl rfl (by decide) ?_
    refine G.q (yl_call (xs := [.tmp 10, .tmp 15]) Tryz.call28 (stab_hp _ _ _ _) rfl (fun w hw => check_any (vars : Int) x sv w hl (hv.ext hw.ext))) rfl rfl (by decide) ?_
    refine G.q (yl_assign rfl) rfl rfl (by decide) ?_
    refine HN.doneG ?_
    refine HN.keep [(0, _), (3, _), (6, _)] ⟨rfl, rfl, rfl, trivial⟩ ?_
    refine HN.then ?_
    refine H.seq ?_
    refine H.region ?_
    refine H.q (yl_move rfl) rfl rfl (by decide) ?_
    refine H.q (yl_neq rfl rfl) rfl rfl (by decide) ?_
    refine HN.done ?_
    refine HN.keep [(0, _), (3, _), (6, _), (18, _)] ⟨rfl, rfl, rfl, rfl, trivial⟩ ?_
    refine HN.then ?_
    refine H.cond _ rfl (fun t1 => ?_) (fun t1 => ?_)
    · simp only [decide_eq_true_eq] at t1
      refine H.keep [(6, _)] ⟨rfl, trivial⟩ ?_
      refine H.seq ?_
      refine H.region ?_
      refine H.q (yl_move rfl) rfl rfl (by decide) ?_
      refine H.q (yl_assign rfl) rfl rfl (by decide) ?_
      refine H.q (yl_assign rfl) rfl rfl (by decide) ?_
      refine HN.done ?_
      refine HN.keep [(4, _), (5, _)] ⟨rfl, rfl, trivial⟩ ?_
      refine HN.then ?_
      refine HR.ret ?_
      refine HR.then ?_
      refine HR.ret2 _ _ Tryz.results20 rfl rfl (fun w hw => ?_)
      refine ⟨?_, hw.ext⟩
      unfold followE
      rw [if_pos t1]
    · replace t1 := of_decide_eq_false t1
      simp only [ne_eq, Decidable.not_not] at t1
      refine H.keep [(0, _), (3, _)] ⟨rfl, rfl, trivial⟩ ?_
      refine HN.skip ?_
      refine HN.then ?_
      refine H.seq ?_
      refine H.region ?_
      refine H.q (yl_move rfl) rfl rfl (by decide) ?_
      refine H.q (yl_nilCheck rfl) rfl rfl (by decide) ?_
      refine H.q (yl_fieldAddr _ fa94_0 rfl) rfl rfl (by decide) ?_
      refine H.q (yl_fieldAddr _ fa92_1 rfl) rfl rfl (by decide) ?_
      refine H.q (yl_load Tryz.isAgg37 rfl (fun w hw => cell_ext hw.ext ht.cell)) rfl rfl (by decide) ?_
      refine H.q (yl_makeFunc (xs := [.tmp 3]) rfl) rfl rfl (by decide) ?_
      refine H.q (yl_call (xs := [.tmp 24, .tmp 25]) Tryz.call52 (stab_hp _ _ _ _) rfl (fun w hw => idxRC_any (fun p : Value × List Int => p.1) 53 [.pointer (some ⟨b3, 0, none⟩)] (fun p => !holdsR x p.2) rows rv w (by have := ht.max; omega) (ht.isr.ext hw.ext).1 Tryz.call53 (fun j hj w' he => followsC_any x sv rows[j].2 rows[j].1 b3 w' hl ((hv.ext hw.ext).ext he) (by rw [ht.len _ (List.getElem_mem hj)]; omega) (((ht.isr.ext hw.ext).2 _ (List.getElem_mem hj)).ext he) (by rw [ht.len _ (List.getElem_mem hj)]; exact t1) (allSmall_of (ht.small _ (List.getElem_mem hj))) (blk_ext he (hw.blk 0 rfl))))) rfl rfl (by decide) ?_
      refine H.q (yl_not rfl) rfl rfl (by decide) ?_
      refine H.q (yl_assign rfl) rfl rfl (by decide) ?_
      refine H.q (yl_assign rfl) rfl rfl (by decide) ?_
      refine HN.done ?_
      refine HN.keep [(4, _), (5, _)] ⟨rfl, rfl, trivial⟩ ?_
      refine HN.then ?_
      refine HR.ret ?_
      refine HR.ret2 _ _ Tryz.results20 rfl rfl (fun w hw => ?_)
      refine ⟨?_, hw.ext⟩
      unfold followE
      rw [if_neg (not_not_intro t1)]
      have e1 : (rowsE rows).all (fun r => holdsR x r) = !rows.any (fun p => !holdsR x p.2) := by
        rw [List.all_map, List.any_eq_not_all_not]
        simp [Function.comp_def]
      rw [e1]

end Go.Proofs.YtgbgddmbooaddaaGreatDoor

namespace Go.Proofs.YtgbgddmbooaddaaGreatDoor
open Go.RowKit Go.MapKept

theorem Hp.join {w0 w w' : World} {L L' : List BP} {R R' : List Rw} {F : List BP} (h : Hp w0 L R F w) (k : Hp w L' R' [] w') : Hp w0 (L' ++ L) (R' ++ R) F w' := by
  have s := h.step k.ext
  have hp : (owned (L' ++ L) (R' ++ R)).Perm (owned L' R' ++ owned L R) := by
    unfold owned
    rw [List.map_append, List.filterMap_append, List.append_assoc, List.append_assoc]
    refine List.Perm.append_left _ ?_
    rw [← List.append_assoc, ← List.append_assoc]
    exact List.Perm.append_right _ List.perm_append_comm
  refine ⟨s.ext, fun p hp => ?_, fun r hr => ?_, s.fgn, hp.nodup_iff.2 (List.nodup_append.2 ⟨k.nodup, h.nodup, fun x hx y hy e => ?_⟩), fun b hb => ?_, fun b hb p hpF => ?_⟩
  · rcases List.mem_append.1 hp with hp | hp
    · exact k.own p hp
    · exact s.own p hp
  · rcases List.mem_append.1 hr with hr | hr
    · exact k.rows r hr
    · exact s.rows r hr
  · have h1 := k.low x hx
    have h2 := h.lt hy
    omega
  · rcases List.mem_append.1 (hp.mem_iff.1 hb) with hb | hb
    · exact Nat.le_trans h.ext.size (k.low b hb)
    · exact h.low b hb
  · rcases List.mem_append.1 (hp.mem_iff.1 hb) with hb | hb
    · have h1 := k.low b hb
      have h2 := h.fgn_lt hpF
      omega
    · exact h.apart b hb p hpF
section
variable {P : Program} {n : Nat} {e : Env} {C S : World → Prop} {d : Option Tmp} {t : TypeId} {p : String} {af : Array Edge} {g : Option (Nat × Bool)}
/-- 'p == nil' of a pointer. -/
theorem yl_ptrEql {ty ty' T : TypeId} {x : Operand} {ad : Option Addr} (hu : P.underlying ty = some (.pointer T)) (hx : eev e x = some (.pointer ad)) : Yl P C n e ⟨d, .binOp .eql ty x (.const (.pointer none)) ty', t, p, af, g⟩ (.bool ad.isNone) :=
  Yl.val fun ac w hf _ => by
    have h3 : ac.eval (.const (.pointer none)) = .pointer none := rfl
    have e1 : ∀ (k : Nat) (a : Addr), (Op.equalIn (k + 1) ty (.pointer (some a)) (.pointer none)).run P w = .ok false w := fun k a => by simp [Op.equalIn, run_underlying hu]
    have e2 : ∀ k : Nat, (Op.equalIn (k + 1) ty (.pointer none) (.pointer none)).run P w = .ok true w := fun k => by simp [Op.equalIn, run_underlying hu]
    have f1 : ∀ a : Addr, (binOp .eql ty (.pointer (some a)) (.pointer none)).run P w = .ok (.bool false) w := fun a => by
      simp only [binOp]
      simp [Op.equal, Op.maxDepth, e1 9999]
    have f2 : (binOp .eql ty (.pointer none) (.pointer none)).run P w = .ok (.bool true) w := by
      simp only [binOp]
      simp [Op.equal, Op.maxDepth, e2 9999]
    simp only [execOp, hf.ev hx, h3]
    cases ad with
    | none => simp [eqGuard, f2]
    | some a => simp [eqGuard, f1]
end

/-! ### What lies in a block -/
theorem sl_blk {w : World} {b el : Nat} {xs : List Value} (h : w.heap[b]? = some (.cells xs.toArray el)) (n : Nat) (hn : n = xs.length) : IsSl w (.slice (some ⟨b, 0, none⟩) n n) xs := by
  subst hn
  exact ⟨_, _, b, 0, rfl, Nat.le_refl _, fun j x hj => ⟨rfl, by rw [Nat.zero_add]; exact cell_of_blk h (by simpa using hj)⟩⟩
theorem flatN {sz : Nat} : ∀ (css : List (List Value)), (∀ cs ∈ css, cs.length = sz) → ∀ (j : Nat) (cs : List Value), css[j]? = some cs → ∀ (i : Nat) (u : Value), cs[i]? = some u → css.flatten[j * sz + i]? = some u := by
  intro css
  induction css with
  | nil => intro _ j cs hj; simp at hj
  | cons c css ih =>
    intro hl j cs hj i u hu
    have hc : c.length = sz := hl c (by simp)
    cases j with
    | zero =>
      simp only [List.getElem?_cons_zero, Option.some.injEq] at hj
      subst hj
      have hi := (List.getElem?_eq_some_iff.1 hu).1
      rw [List.flatten_cons, Nat.zero_mul, Nat.zero_add, List.getElem?_append_left hi]
      exact hu
    | succ j =>
      simp only [List.getElem?_cons_succ] at hj
      have := ih (fun cs h => hl cs (List.mem_cons_of_mem _ h)) j cs hj i u hu
      rw [List.flatten_cons, List.getElem?_append_right (by rw [hc, Nat.succ_mul]; omega), ← this]
      congr 1
      rw [hc, Nat.succ_mul]
      omega
theorem sz_row {w : World} {v : Value} {el sz : Nat} {css : List (List Value)} (hsz : 0 < sz) (hl : ∀ cs ∈ css, cs.length = sz) (h : Rw.ok w ⟨v, css.length, el, sz, css.flatten⟩) : IsSz w v sz css := by
  obtain ⟨ad, cap, b, h1, h2, h3, h4⟩ := Rw.open h
  refine ⟨ad, cap, b, 0, h1, h2, fun j cs hj => ?_⟩
  have hc : cs.length = sz := hl cs (List.mem_of_getElem? hj)
  have h0 : cs[0]? = some cs[0] := List.getElem?_eq_getElem (by omega)
  refine ⟨(h4 w h _ _ (flatN css hl j cs hj 0 _ h0)).1, fun i u hi => ?_⟩
  rw [Nat.zero_add]
  exact (h4 w h _ _ (flatN css hl j cs hj i u hi)).2
theorem sz_blk {w : World} {b el sz : Nat} {css : List (List Value)} (hl : ∀ cs ∈ css, cs.length = sz) (h : w.heap[b]? = some (.cells css.flatten.toArray el)) (n : Nat) (hn : n = css.length) : IsSz w (.slice (some ⟨b, 0, none⟩) n n) sz css := by
  subst hn
  refine ⟨_, _, b, 0, rfl, Nat.le_refl _, fun j cs hj => ⟨rfl, fun i u hi => ?_⟩⟩
  rw [Nat.zero_add]
  exact cell_of_blk h (by simpa using flatN css hl j cs hj i u hi)
theorem cells6 (ls : List (Value × Inv)) : ∀ cs ∈ ls.map cellsI, cs.length = 6 := fun cs h => by
  obtain ⟨p, _, rfl⟩ := List.mem_map.1 h
  rfl
theorem claims_row {w : World} {v : Value} {ls : List (Value × Inv)} (h : Rw.ok w (claimsRw v ls)) (hs : ∀ r ∈ setsR ls, r.ok w) : IsClaims w v ls :=
  ⟨sz_row (by decide) (cells6 ls) (by rw [List.length_map]; exact h), fun p hp => IsInts.of_row (hs _ (List.mem_map.2 ⟨p, hp, rfl⟩))⟩
theorem rows_row {w : World} {v : Value} {rows : List (Value × List Int)} (h : Rw.ok w (minerRw v rows)) (hs : ∀ r ∈ rowsR rows, r.ok w) : IsRows w v rows :=
  ⟨Rw.isSl h rfl, fun p hp => IsInts.of_row (hs _ (List.mem_map.2 ⟨p, hp, rfl⟩))⟩
theorem Tbl.of {w : World} {bm vars : Nat} {rv : Value} {rows : List (Value × List Int)} (hb : w.heap[bm]? = some (.cells #[.int .i64 (vars : Int), rv] 94)) (hr : Rw.ok w (minerRw rv rows)) (hs : ∀ r ∈ rowsR rows, r.ok w)
    (hlen : ∀ p ∈ rows, p.2.length = vars) (hmax : rows.length ≤ 1000) (hsm : ∀ p ∈ rows, allSmallB p.2 = true) : Tbl w bm vars rv rows :=
  ⟨cell_of_blk hb rfl, cell_of_blk hb rfl, rows_row hr hs, hlen, by omega, fun p hp x hx => List.all_eq_true.1 (hsm p hp) x hx⟩
theorem sortI_eq {l m : List Int} (hp : l.Perm m) (hs : m.Pairwise fun x y => x ≤ y) : sortI l = m := by
  refine List.Perm.eq_of_pairwise (le := fun x y : Int => x ≤ y) (fun a b _ _ h1 h2 => by omega) (sortI_sorted l) hs ((List.mergeSort_perm l _).trans hp)
end Go.Proofs.YtgbgddmbooaddaaGreatDoor

namespace Go.Proofs.YtgbgddmbooaddaaGreatDoor
open Go.RowKit

def exRows : List (List Int) := [[1, 2], [3, 6], [2, 4]]
def exWant : List Inv := [⟨3, 0, 0, 1, 0, []⟩, ⟨4, 0, 0, 3, 0, []⟩, ⟨2, 0, 0, 0, 0, [1, 2, 3]⟩, ⟨3, 1, 0, 2, 0, []⟩, ⟨4, 1, 0, 6, 0, []⟩, ⟨2, 1, 0, 0, 0, [2, 4, 6]⟩, ⟨9, 0, 1, 0, 0, []⟩, ⟨11, 0, 1, 2, 0, []⟩]
theorem ex_f0 : factsE exRows 0 = [1, 2, 3] := sortI_eq (by decide) (by decide)
theorem ex_f1 : factsE exRows 1 = [2, 4, 6] := sortI_eq (by decide) (by decide)
theorem ex_claims : claimsE exRows 2 1 = exWant := by
  rw [claimsE_eq (by decide)]
  have e : claimsA exRows 2 = (aloneE (factsE exRows 0) (0 : Nat) ++ aloneE (factsE exRows 1) (1 : Nat)) ++ (if (factsE exRows 0).length > 1 ∧ (factsE exRows 1).length > 1 then coupleE exRows (factsE exRows 0) (factsE exRows 1) (0 : Nat) (1 : Nat) else []) := by
    simp [claimsA, aloneA, pairA, pairE, List.range_succ]
  rw [e, ex_f0, ex_f1]
  rfl
theorem ex_write : writeE ⟨6, 0, 0, 1, 4, []⟩ [[120]] = ([120, 32, 37, 32, 52, 32, 61, 61, 32, 49], 0) := by kernel_rfl
theorem ex_read : readL [121, 32, 61, 61, 32, 45, 50, 32, 42, 32, 120, 32, 43, 32, 55] [[120], [121]] = (⟨11, 0, 1, -2, 7, []⟩, 0) := by kernel_rfl
end Go.Proofs.YtgbgddmbooaddaaGreatDoor

namespace Go.Proofs.YtgbgddmbooaddaaGreatDoor
open Go.RowKit

theorem bd25_03 (k x : Int) (w : World) : (Instr.build 25 [(0, .int .u8 k), (3, .int .i64 x)].toArray).run Tryz.prog w = .ok (.agg [.int .u8 k, .int .i64 0, .int .i64 0, .int .i64 x, .int .i64 0, .slice none 0 0].toArray) w := by kernel_rfl
theorem bd25_05 (k : Int) (ad : Option Addr) (n c : Nat) (w : World) : (Instr.build 25 [(0, .int .u8 k), (5, .slice ad n c)].toArray).run Tryz.prog w = .ok (.agg [.int .u8 k, .int .i64 0, .int .i64 0, .int .i64 0, .int .i64 0, .slice ad n c].toArray) w := by kernel_rfl
theorem bd25_02 (k b : Int) (w : World) : (Instr.build 25 [(0, .int .u8 k), (2, .int .i64 b)].toArray).run Tryz.prog w = .ok (.agg [.int .u8 k, .int .i64 0, .int .i64 b, .int .i64 0, .int .i64 0, .slice none 0 0].toArray) w := by kernel_rfl
theorem bd25_023 (k b x : Int) (w : World) : (Instr.build 25 [(0, .int .u8 k), (2, .int .i64 b), (3, .int .i64 x)].toArray).run Tryz.prog w = .ok (.agg [.int .u8 k, .int .i64 0, .int .i64 b, .int .i64 x, .int .i64 0, .slice none 0 0].toArray) w := by kernel_rfl
theorem bd25_034 (k x m : Int) (w : World) : (Instr.build 25 [(0, .int .u8 k), (3, .int .i64 x), (4, .int .i64 m)].toArray).run Tryz.prog w = .ok (.agg [.int .u8 k, .int .i64 0, .int .i64 0, .int .i64 x, .int .i64 m, .slice none 0 0].toArray) w := by kernel_rfl
theorem bd25_0234 (k b x m : Int) (w : World) : (Instr.build 25 [(0, .int .u8 k), (2, .int .i64 b), (3, .int .i64 x), (4, .int .i64 m)].toArray).run Tryz.prog w = .ok (.agg [.int .u8 k, .int .i64 0, .int .i64 b, .int .i64 x, .int .i64 m, .slice none 0 0].toArray) w := by kernel_rfl
theorem bs23_2 (a b : Int) (w : World) : (Instr.buildSlice 23 2 [(0, .int .i64 a), (1, .int .i64 b)].toArray).run Tryz.prog w = .ok (.slice (some ⟨w.heap.size, 0, none⟩) 2 2) (w.alloc (.cells [.int .i64 a, .int .i64 b].toArray 2)) := by kernel_rfl
theorem bs23_3 (a b c : Int) (w : World) : (Instr.buildSlice 23 3 [(0, .int .i64 a), (1, .int .i64 b), (2, .int .i64 c)].toArray).run Tryz.prog w = .ok (.slice (some ⟨w.heap.size, 0, none⟩) 3 3) (w.alloc (.cells [.int .i64 a, .int .i64 b, .int .i64 c].toArray 2)) := by kernel_rfl
theorem bs37_3 (a : Option Addr) (n c : Nat) (a2 : Option Addr) (n2 c2 : Nat) (a3 : Option Addr) (n3 c3 : Nat) (w : World) : (Instr.buildSlice 37 3 [(0, .slice a n c), (1, .slice a2 n2 c2), (2, .slice a3 n3 c3)].toArray).run Tryz.prog w = .ok (.slice (some ⟨w.heap.size, 0, none⟩) 3 3) (w.alloc (.cells [.slice a n c, .slice a2 n2 c2, .slice a3 n3 c3].toArray 23)) := by kernel_rfl
theorem bs26_2 (s u : ByteArray) (w : World) : (Instr.buildSlice 26 2 [(0, .string s), (1, .string u)].toArray).run Tryz.prog w = .ok (.slice (some ⟨w.heap.size, 0, none⟩) 2 2) (w.alloc (.cells [.string s, .string u].toArray 9)) := by kernel_rfl
theorem bs28_8 (ad1 : Option Addr) (c1 : Nat) (ad2 : Option Addr) (c2 : Nat) (w : World) : (Instr.buildSlice 28 8 [(0, .agg [.int .u8 3, .int .i64 0, .int .i64 0, .int .i64 1, .int .i64 0, .slice none 0 0].toArray), (1, .agg [.int .u8 4, .int .i64 0, .int .i64 0, .int .i64 3, .int .i64 0, .slice none 0 0].toArray), (2, .agg [.int .u8 2, .int .i64 0, .int .i64 0, .int .i64 0, .int .i64 0, .slice ad1 3 c1].toArray), (3, .agg [.int .u8 3, .int .i64 1, .int .i64 0, .int .i64 2, .int .i64 0, .slice none 0 0].toArray), (4, .agg [.int .u8 4, .int .i64 1, .int .i64 0, .int .i64 6, .int .i64 0, .slice none 0 0].toArray), (5, .agg [.int .u8 2, .int .i64 1, .int .i64 0, .int .i64 0, .int .i64 0, .slice ad2 3 c2].toArray), (6, .agg [.int .u8 9, .int .i64 0, .int .i64 1, .int .i64 0, .int .i64 0, .slice none 0 0].toArray), (7, .agg [.int .u8 11, .int .i64 0, .int .i64 1, .int .i64 2, .int .i64 0, .slice none 0 0].toArray)].toArray).run Tryz.prog w = .ok (.slice (some ⟨w.heap.size, 0, none⟩) 8 8) (w.alloc (.cells [.int .u8 3, .int .i64 0, .int .i64 0, .int .i64 1, .int .i64 0, .slice none 0 0, .int .u8 4, .int .i64 0, .int .i64 0, .int .i64 3, .int .i64 0, .slice none 0 0, .int .u8 2, .int .i64 0, .int .i64 0, .int .i64 0, .int .i64 0, .slice ad1 3 c1, .int .u8 3, .int .i64 1, .int .i64 0, .int .i64 2, .int .i64 0, .slice none 0 0, .int .u8 4, .int .i64 1, .int .i64 0, .int .i64 6, .int .i64 0, .slice none 0 0, .int .u8 2, .int .i64 1, .int .i64 0, .int .i64 0, .int .i64 0, .slice ad2 3 c2, .int .u8 9, .int .i64 0, .int .i64 1, .int .i64 0, .int .i64 0, .slice none 0 0, .int .u8 11, .int .i64 0, .int .i64 1, .int .i64 2, .int .i64 0, .slice none 0 0].toArray 25)) := by kernel_rfl
theorem newOk_any (vars : Nat) (w : World) (h1 : 1 ≤ vars) (h8 : vars ≤ 8) : Calls Tryz.prog 17 #[.int .i64 (vars : Int)] w fun e w' => ∃ bm, e = .returned (.tuple #[.pointer (some ⟨bm, 0, none⟩), .int .i64 0]) ∧ Hp w [minerB bm vars (.slice none 0 0)] [] [] w' :=
  (new_any (vars : Int) w).mono fun e w' h => by
    rcases h with ⟨h, _⟩ | ⟨h, _⟩ | ⟨_, _, bm, h2, h3⟩
    · omega
    · omega
    · exact ⟨bm, h2, h3⟩


def exLb (b20 b21 b22 b23 : Nat) : List BP := [(b23, ex (.cells [.slice (some ⟨b20, 0, none⟩) 2 2, .slice (some ⟨b21, 0, none⟩) 2 2, .slice (some ⟨b22, 0, none⟩) 2 2].toArray 23)), (b22, ex (.cells [.int .i64 2, .int .i64 4].toArray 2)), (b21, ex (.cells [.int .i64 3, .int .i64 6].toArray 2)), (b20, ex (.cells [.int .i64 1, .int .i64 2].toArray 2))]
def exSv (b20 b21 b22 k : Nat) : Value := ([.slice (some ⟨b20, 0, none⟩) 2 2, .slice (some ⟨b21, 0, none⟩) 2 2, .slice (some ⟨b22, 0, none⟩) 2 2].getD k (.slice none 0 0))
theorem exSv_ints {w0 w : World} {p : BP} {R : List Rw} {b20 b21 b22 b23 k : Nat} (hk : k = 0 ∨ k = 1 ∨ k = 2) (hw : Hp w0 (p :: exLb b20 b21 b22 b23) R [] w) : IsInts w (exSv b20 b21 b22 k) (exRows.getD k []) := by
  rcases hk with rfl | rfl | rfl
  · exact sl_blk (hw.blk 4 rfl) 2 rfl
  · exact sl_blk (hw.blk 3 rfl) 2 rfl
  · exact sl_blk (hw.blk 2 rfl) 2 rfl
theorem exSv_cell {w0 w : World} {p : BP} {R : List Rw} {b20 b21 b22 b23 k : Nat} (hk : k = 0 ∨ k = 1 ∨ k = 2) (hw : Hp w0 (p :: exLb b20 b21 b22 b23) R [] w) : w.cell? ⟨b23, 0 + k, none⟩ = some (exSv b20 b21 b22 k) := by
  rcases hk with rfl | rfl | rfl <;> exact hw.cell 1 rfl rfl
theorem ex_add {k : Nat} (hk : k = 0 ∨ k = 1 ∨ k = 2) : addE (exRows.getD k []) 2 = 0 ∧ (exRows.getD k []).length ≤ 1000 ∧ exRows.take (k + 1) = exRows.take k ++ [exRows.getD k []] := by
  rcases hk with rfl | rfl | rfl <;> exact ⟨by decide, by decide, rfl⟩
theorem ex_len : ∀ r, r ∈ exRows → r.length = 2 := by decide
theorem ex_small : ∀ r, r ∈ exRows → allSmallB r = true := by decide
theorem ex_sets : ∀ x, x ∈ exWant → x.set.length ≤ 4611686018427387904 := by
  intro x hx
  simp only [exWant, List.mem_cons, List.not_mem_nil, or_false] at hx
  rcases hx with rfl | rfl | rfl | rfl | rfl | rfl | rfl | rfl <;> decide

set_option maxRecDepth 100000 in
theorem learns_any (w0 : World) (hvars : Vars w0) : Calls Tryz.prog 11 #[] w0 fun e w' => e = .returned (.bool true) ∧ Ext w0 w' := by
  refine enterA 85 Tryz.func11 rfl Tryz.ntmps11 rfl (Hp w0 [] [] []) (Hp.init _) ?_
  refine H.seq ?_
  refine H.region ?_
  refine H.q (yl_assign rfl) rfl rfl (by decide) ?_
  refine HN.done ?_
  refine HN.keep [] trivial ?_
  refine HN.then ?_
  refine H.seq ?_
  refine H.region ?_
  refine H.callX (α := Nat) (xs := [.const (.int .i64 2)]) (fun bm => .tuple #[.pointer (some ⟨bm, 0, none⟩), .int .i64 0]) (fun _ => True) (fun bm => Hp w0 [minerB bm 2 (.slice none 0 0)] [minerRw (.slice none 0 0) []] []) Tryz.call17 rfl (by decide) (fun w hw => (newOk_any 2 w (by decide) (by decide)).mono fun e w' h => by obtain ⟨bm, h1, h2⟩ := h; exact ⟨bm, h1, trivial, (hw.join h2).rowNil 23 1⟩) (fun bm _ => ?_)
  refine H.q (yl_move rfl) rfl rfl (by decide) ?_
  refine H.q (yl_extract _ rfl rfl) rfl rfl (by decide) ?_
  refine H.q (yl_extract _ rfl rfl) rfl rfl (by decide) ?_
  refine H.q (yl_assign rfl) rfl rfl (by decide) ?_
  refine H.q (yl_assign rfl) rfl rfl (by decide) ?_
  refine HN.done ?_
  refine HN.keep [(1, _), (2, _)] ⟨rfl, rfl, trivial⟩ ?_
  refine HN.then ?_
  refine H.seq ?_
  refine H.seq ?_
  refine H.region ?_
  refine H.q (yl_move rfl) rfl rfl (by decide) ?_
  refine H.q (yl_neq rfl rfl) rfl rfl (by decide) ?_
  refine H.q (yl_move rfl) rfl rfl (by decide) ?_
  refine H.qg (wn_f rfl rfl (by decide) rfl) (fun hg => yl_sub [(1, _)] ⟨rfl, trivial⟩ (yl_move rfl)) rfl (by decide) ?_
  refine H.qg (wn_f rfl rfl (by decide) rfl) (fun hg => yl_sub [(17, _)] ⟨slT rfl hg, trivial⟩ (yl_ptrEql Tryz.underlying38 rfl)) rfl (by decide) ?_
  refine H.q (yl_or rfl rfl) rfl rfl (by decide) ?_
  refine HN.done ?_
  refine HN.keep [(1, _), (19, _)] ⟨rfl, rfl, trivial⟩ ?_
  refine HN.then ?_
  refine H.cond _ rfl (fun t0 => ?_) (fun t0 => ?_)
  · simp at t0
    done
  · refine H.keep [(1, _)] ⟨rfl, trivial⟩ ?_
    refine HN.skip ?_
    refine HN.then ?_
    refine H.seq ?_
    refine H.region ?_
    refine H.buildSlice (bs23_2 _ _) rfl (by decide) (fun b20 hb20 => ?_)
    refine H.buildSlice (bs23_2 _ _) rfl (by decide) (fun b21 hb21 => ?_)
    refine H.buildSlice (bs23_2 _ _) rfl (by decide) (fun b22 hb22 => ?_)
    refine H.buildSlice (bs37_3 _ _ _ _ _ _ _ _ _) rfl (by decide) (fun b23 hb23 => ?_)
    refine H.q (yl_assign rfl) rfl rfl (by decide) ?_
    refine HN.done ?_
    refine HN.keep [(1, _), (3, _)] ⟨rfl, rfl, trivial⟩ ?_
    refine HN.cls (Hp w0 (minerB bm 2 (.slice none 0 0) :: (exLb b20 b21 b22 b23)) (minerRw (.slice none 0 0) [] :: (rowsR [] ++ [])) []) (fun w hw => hw.permL (by unfold exLb; classical exact List.perm_iff_count.2 (fun x => by simp only [List.count_cons, List.count_nil]; omega))) ?_
    refine HN.then ?_
    refine H.seq ?_
    refine H.seq ?_
    refine H.region ?_
    refine H.q (yl_assign rfl) rfl rfl (by decide) ?_
    refine HN.done ?_
    refine HN.keep [(1, _), (3, _), (4, _)] ⟨rfl, rfl, rfl, trivial⟩ ?_
    refine HN.then ?_
    refine H.block ?_
    refine H.loop (fun z : MZ => [(1, .pointer (some ⟨bm, 0, none⟩)), (3, .slice (some ⟨b23, 0, none⟩) 3 3), (4, .int .i64 (z.k : Int))]) (fun z => z.k ≤ 3 ∧ z.new.map (·.2) = exRows.take z.k) (fun z => Hp w0 (minerB bm 2 z.rv :: (exLb b20 b21 b22 b23)) (minerRw z.rv z.new :: (rowsR z.new ++ [])) []) (fun z => 3 - z.k) ⟨0, .slice none 0 0, []⟩ ⟨Nat.zero_le _, rfl⟩ ⟨rfl, rfl, rfl, trivial⟩ (fun w hw => hw) (fun z hI0 => ?_)
    obtain ⟨k, rvz, new⟩ := z
    obtain ⟨hI, hnew⟩ := hI0
    simp only at hI hnew
    have hnl : new.length = k := by have := congrArg List.length hnew; simp [exRows] at this; omega
    refine H.seq ?_
    refine H.seq ?_
    refine H.region ?_
    refine H.q (yl_move rfl) rfl rfl (by decide) ?_
    refine H.q (yl_move rfl) rfl rfl (by decide) ?_
    refine H.q (yl_len rfl Tryz.underlying37 rfl) rfl rfl (by decide) ?_
    refine H.q (yl_lss rfl rfl) rfl rfl (by decide) ?_
    refine HN.done ?_
    refine HN.keep [(1, _), (3, _), (4, _), (27, _)] ⟨rfl, rfl, rfl, rfl, trivial⟩ ?_
    refine HN.then ?_
    refine H.cond _ rfl (fun t1 => ?_) (fun t1 => ?_)
    · replace t1 := of_decide_eq_true t1
      have hlt : k < 3 := by have : (k : Int) < 3 := t1; omega
      have hk3 : k = 0 ∨ k = 1 ∨ k = 2 := by omega
      refine H.keep [(1, _), (3, _), (4, _)] ⟨rfl, rfl, rfl, trivial⟩ ?_
      refine HN.skip ?_
      refine HN.then ?_
      refine H.seq ?_
      refine H.block ?_
      refine H.seq ?_
      refine H.region ?_
      refine H.q (yl_move rfl) rfl rfl (by decide) ?_
      refine H.q (yl_move rfl) rfl rfl (by decide) ?_
      refine H.q (yl_move rfl) rfl rfl (by decide) ?_
      refine H.q (yl_ix k Tryz.underlying37 Tryz.sizeOf23 rfl rfl rfl rfl hlt) rfl rfl (by decide) ?_
      refine H.q (yl_load (v := (exSv b20 b21 b22 k)) Tryz.isAgg23 rfl (fun w hw => exSv_cell hk3 hw)) rfl rfl (by decide) ?_
      refine H.callX (α := Value × List (Value × List Int)) (xs := [.tmp 30, .tmp 34]) (fun _ => .int .i64 0) (fun q => q.2.map (·.2) = exRows.take (k + 1)) (fun q => Hp w0 (minerB bm 2 q.1 :: (exLb b20 b21 b22 b23)) (minerRw q.1 q.2 :: (rowsR q.2 ++ [])) []) Tryz.call19 rfl (by decide) (fun w hw => (add_any (exRows.getD k []) (exSv b20 b21 b22 k) bm 2 rvz new w0 (exLb b20 b21 b22 b23) [] [] w (by omega) (by decide) (ex_add hk3).2.1 (fun w' hw' => exSv_ints hk3 hw') hw).mono fun e w' h => by
        have h0 := (ex_add hk3).1
        rcases h with ⟨h, _⟩ | ⟨_, h1, rv', cv, h2⟩
        · exact absurd h0 h
        · exact ⟨(rv', new ++ [(cv, exRows.getD k [])]), h1, by simp only [List.map_append, hnew]; exact (ex_add hk3).2.2.symm, h2⟩) (fun q hq => ?_)
      refine H.q (yl_neq rfl rfl) rfl rfl (by decide) ?_
      refine HN.done ?_
      refine HN.keep [(1, _), (3, _), (4, _), (36, _)] ⟨rfl, rfl, rfl, rfl, trivial⟩ ?_
      refine HN.then ?_
      refine H.cond _ rfl (fun t2 => ?_) (fun t2 => ?_)
      · simp at t2
        done
      · refine H.keep [(1, _), (3, _), (4, _)] ⟨rfl, rfl, rfl, trivial⟩ ?_
        refine HN.skip ?_
        refine HN.block ?_
        refine HN.then ?_
        refine H.region ?_
        refine H.q (yl_move rfl) rfl rfl (by decide) ?_
        refine H.q (yl_add rfl rfl _ rfl (by omega)) rfl rfl (by decide) ?_
        refine H.q (yl_assign rfl) rfl rfl (by decide) ?_
        refine HN.done ?_
        refine HN.keep [(1, _), (3, _), (4, _)] ⟨rfl, rfl, rfl, trivial⟩ ?_
        refine HN.then ?_
        exact H.at ⟨k + 1, q.1, q.2⟩ ⟨⟨hlt, hq⟩, by simp only; omega⟩ ⟨rfl, rfl, rfl, trivial⟩ (fun w hw => hw)
    · replace t1 := of_decide_eq_false t1
      have hk : k = 3 := by have : ¬ (k : Int) < 3 := t1; omega
      subst hk
      have hrows : rowsE new = exRows := hnew
      refine H.pull (fun w hw => Rw.isSlice (v := rvz) (len := new.length) (hw.row 0 rfl)) (fun ho => ?_)
      obtain ⟨adr, capr, rfl⟩ := ho
      refine H.keep [(1, _)] ⟨rfl, trivial⟩ ?_
      refine HX.exit ?_
      refine HX.then ?_
      refine HX.then ?_
      refine HX.hit ?_
      refine HN.then ?_
      refine H.seq ?_
      refine H.region ?_
      refine H.q (yl_build (bd25_03 _ _) rfl) rfl rfl (by decide) ?_
      refine H.q (yl_build (bd25_03 _ _) rfl) rfl rfl (by decide) ?_
      refine H.buildSlice (bs23_3 _ _ _) rfl (by decide) (fun b39 hb39 => ?_)
      refine H.q (yl_build (bd25_05 _ _ _ _) rfl) rfl rfl (by decide) ?_
      refine H.q (yl_build (bd25_013 _ _ _) rfl) rfl rfl (by decide) ?_
      refine H.q (yl_build (bd25_013 _ _ _) rfl) rfl rfl (by decide) ?_
      refine H.buildSlice (bs23_3 _ _ _) rfl (by decide) (fun b43 hb43 => ?_)
      refine H.q (yl_build (bd25_015 _ _ _ _ _) rfl) rfl rfl (by decide) ?_
      refine H.q (yl_build (bd25_02 _ _) rfl) rfl rfl (by decide) ?_
      refine H.q (yl_build (bd25_023 _ _ _) rfl) rfl rfl (by decide) ?_
      refine H.buildSlice (bs28_8 _ _ _ _) rfl (by decide) (fun b47 hb47 => ?_)
      refine H.q (yl_assign rfl) rfl rfl (by decide) ?_
      refine HN.done ?_
      refine HN.keep [(1, _), (5, _)] ⟨rfl, rfl, trivial⟩ ?_
      refine HN.then ?_
      refine H.seq ?_
      refine H.region ?_
      refine H.q (yl_build (bd25_034 _ _ _) rfl) rfl rfl (by decide) ?_
      refine H.buildSlice (bs26 _) rfl (by decide) (fun b50 hb50 => ?_)
      refine H.q (yl_to (yl_call (xs := [.tmp 49, .tmp 50]) Tryz.call12 (stab_hp _ _ _ _) rfl (fun w hw => write_any ⟨6, 0, 0, 1, 4, []⟩ (.slice none 0 0) [[120]] (.slice (some ⟨b50, 0, none⟩) 1 1) w (by decide) (ints_nil w) (by decide) (by decide) (sl_blk (hw.blk 0 rfl) 1 rfl) (hvars.ext hw.ext))) (by rw [ex_write])) rfl rfl (by decide) ?_
      refine H.q (yl_move rfl) rfl rfl (by decide) ?_
      refine H.q (yl_extract _ rfl rfl) rfl rfl (by decide) ?_
      refine H.q (yl_extract _ rfl rfl) rfl rfl (by decide) ?_
      refine H.q (yl_assign rfl) rfl rfl (by decide) ?_
      refine H.q (yl_assign rfl) rfl rfl (by decide) ?_
      refine HN.done ?_
      refine HN.keep [(1, _), (5, _), (6, _), (7, _)] ⟨rfl, rfl, rfl, rfl, trivial⟩ ?_
      refine HN.then ?_
      refine H.seq ?_
      refine H.region ?_
      refine H.buildSlice (bs26_2 _ _) rfl (by decide) (fun b55 hb55 => ?_)
      refine H.call (α := Value) (xs := [.const (.string ⟨#[121, 32, 61, 61, 32, 45, 50, 32, 42, 32, 120, 32, 43, 32, 55]⟩), .tmp 55]) (fun sv => .tuple #[.agg (cellsI (sv, ⟨11, 0, 1, -2, 7, []⟩)).toArray, .int .i64 0]) (fun sv => ∃ ad cap, sv = .slice ad 0 cap) (fun _ => []) (fun _ => []) Tryz.call14 rfl (by decide) (fun w hw => (read_any [121, 32, 61, 61, 32, 45, 50, 32, 42, 32, 120, 32, 43, 32, 55] [[120], [121]] (.slice (some ⟨b55, 0, none⟩) 2 2) w (by decide) (by decide) (by decide) (sl_blk (hw.blk 0 rfl) 2 rfl) (hvars.ext hw.ext)).mono fun e w' h => by
        obtain ⟨sv, h1, h2, h3, _⟩ := h
        rw [ex_read] at h1 h3
        obtain ⟨ad, cap, bb, o, h4, _⟩ := h3
        exact ⟨sv, h1, ⟨ad, cap, h4⟩, Hp.ofExt h2, fun _ hh => by cases hh⟩) (fun sv hsv => ?_)
      obtain ⟨ads, caps, rfl⟩ := hsv
      refine H.q (yl_move rfl) rfl rfl (by decide) ?_
      refine H.q (yl_extract _ rfl rfl) rfl rfl (by decide) ?_
      refine H.q (yl_extract _ rfl rfl) rfl rfl (by decide) ?_
      refine H.allocA Tryz.zeroValue25 (by decide) (fun b8 hb8 => ?_)
      refine H.storeA 0 rfl rfl rfl Tryz.sizeOf25 rfl rfl ?_
      refine H.q (yl_assign rfl) rfl rfl (by decide) ?_
      refine HN.done ?_
      refine HN.keep [(1, _), (5, _), (6, _), (7, _), (8, _), (9, _)] ⟨rfl, rfl, rfl, rfl, rfl, rfl, trivial⟩ ?_
      refine HN.then ?_
      refine H.seq ?_
      refine H.region ?_
      refine H.q (yl_move rfl) rfl rfl (by decide) ?_
      refine H.call (α := Value × List (Value × Inv)) (xs := [.tmp 59, .const (.int .i64 1)]) (fun q => q.1) (fun q => q.2.map (·.2) = exWant) (fun q => claimsRw q.1 q.2 :: setsR q.2) (fun _ => []) Tryz.call24 rfl (by decide) (fun w hw => (claims_any bm 2 (.slice adr new.length capr) new w (Tbl.of (hw.blk 6 rfl) (hw.row 0 rfl) (fun r hr => hw.rows r (List.mem_cons_of_mem _ (List.mem_append.2 (.inl hr)))) (fun p hp => ex_len p.2 (hrows ▸ List.mem_map.2 ⟨p, hp, rfl⟩)) (by omega) (fun p hp => ex_small p.2 (hrows ▸ List.mem_map.2 ⟨p, hp, rfl⟩))) (by decide) (by decide) 1).mono fun e w' h => by obtain ⟨v, l, h1, h2, h3⟩ := h; exact ⟨(v, l), h1, by rw [h2, hrows]; exact ex_claims, h3, fun _ hh => by cases hh⟩) (fun q hq => ?_)
      obtain ⟨u, l2⟩ := q
      simp only at hq
      have hsets : ∀ p ∈ l2, p.2.set.length ≤ 4611686018427387904 := fun p hp => ex_sets p.2 (hq ▸ List.mem_map.2 ⟨p, hp, rfl⟩)
      have hl28 : l2.length = 8 := by have := congrArg List.length hq; simpa [exWant] using this
      refine H.q (yl_move rfl) rfl rfl (by decide) ?_
      refine H.q (yl_to (yl_call (xs := [.tmp 60, .tmp 61]) Tryz.call23 (stab_hp _ _ _ _) rfl (fun w hw => sameAll_any l2 [(.slice none 0 0, ⟨3, 0, 0, 1, 0, []⟩), (.slice none 0 0, ⟨4, 0, 0, 3, 0, []⟩), (.slice (some ⟨b39, 0, none⟩) 3 3, ⟨2, 0, 0, 0, 0, [1, 2, 3]⟩), (.slice none 0 0, ⟨3, 1, 0, 2, 0, []⟩), (.slice none 0 0, ⟨4, 1, 0, 6, 0, []⟩), (.slice (some ⟨b43, 0, none⟩) 3 3, ⟨2, 1, 0, 0, 0, [2, 4, 6]⟩), (.slice none 0 0, ⟨9, 0, 1, 0, 0, []⟩), (.slice none 0 0, ⟨11, 0, 1, 2, 0, []⟩)] u (.slice (some ⟨b47, 0, none⟩) 8 8) w (by omega) (by simp) hsets (by intro p hp; simp only [List.mem_cons, List.not_mem_nil, or_false] at hp; rcases hp with rfl | rfl | rfl | rfl | rfl | rfl | rfl | rfl <;> simp) (claims_row (hw.row 0 rfl) (fun r hr => hw.rows r (List.mem_append.2 (.inl (List.mem_cons_of_mem _ hr))))) ⟨sz_blk (cells6 _) (hw.blk 3 rfl) 8 rfl, by
        intro p hp
        simp only [List.mem_cons, List.not_mem_nil, or_false] at hp
        rcases hp with rfl | rfl | rfl | rfl | rfl | rfl | rfl | rfl
        · exact ints_nil w
        · exact ints_nil w
        · exact sl_blk (hw.blk 5 rfl) 3 rfl
        · exact ints_nil w
        · exact ints_nil w
        · exact sl_blk (hw.blk 4 rfl) 3 rfl
        · exact ints_nil w
        · exact ints_nil w⟩)) (show Value.bool _ = Value.bool true by rw [hq]; rfl)) rfl rfl (by decide) ?_
      refine H.q (yl_move rfl) rfl rfl (by decide) ?_
      refine H.qg (wn_t rfl rfl (by decide) rfl) (fun hg => yl_sub [(1, _)] ⟨rfl, trivial⟩ (yl_move rfl)) rfl (by decide) ?_
      refine H.qg (wn_t rfl rfl (by decide) rfl) (fun hg => yl_sub [(64, _)] ⟨slT rfl hg, trivial⟩ (yl_to (yl_call (xs := [.tmp 64]) Tryz.call22 (stab_hp _ _ _ _) rfl (fun w hw => rows_any bm 2 adr new.length capr w (by decide) (hw.cell 6 rfl rfl) (hw.cell 6 rfl rfl))) (show Value.int .i64 (new.length : Int) = .int .i64 3 by rw [hnl]; rfl))) rfl (by decide) ?_
      refine H.qg (wn_t rfl rfl (by decide) rfl) (fun hg => yl_sub [(65, _)] ⟨slT rfl hg, trivial⟩ (yl_eql rfl rfl)) rfl (by decide) ?_
      refine H.q (yl_and rfl rfl) rfl rfl (by decide) ?_
      refine H.q (yl_move rfl) rfl rfl (by decide) ?_
      refine H.qg (wn_t rfl rfl (by decide) rfl) (fun hg => yl_sub [(7, _)] ⟨rfl, trivial⟩ (yl_move rfl)) rfl (by decide) ?_
      refine H.qg (wn_t rfl rfl (by decide) rfl) (fun hg => yl_sub [(69, _)] ⟨slT rfl hg, trivial⟩ (yl_eql rfl rfl)) rfl (by decide) ?_
      refine H.q (yl_and rfl rfl) rfl rfl (by decide) ?_
      refine H.q (yl_move rfl) rfl rfl (by decide) ?_
      refine H.qg (wn_t rfl rfl (by decide) rfl) (fun hg => yl_sub [(6, _)] ⟨rfl, trivial⟩ (yl_move rfl)) rfl (by decide) ?_
      refine H.qg (wn_t rfl rfl (by decide) rfl) (fun hg => yl_sub [(73, _)] ⟨slT rfl hg, trivial⟩ (yl_seqlL rfl rfl)) rfl (by decide) ?_
      refine H.q (yl_and rfl rfl) rfl rfl (by decide) ?_
      refine H.q (yl_move rfl) rfl rfl (by decide) ?_
      refine H.qg (wn_t rfl rfl (by decide) rfl) (fun hg => yl_sub [(9, _)] ⟨rfl, trivial⟩ (yl_move rfl)) rfl (by decide) ?_
      refine H.qg (wn_t rfl rfl (by decide) rfl) (fun hg => yl_sub [(77, _)] ⟨slT rfl hg, trivial⟩ (yl_eql rfl rfl)) rfl (by decide) ?_
      refine H.q (yl_and rfl rfl) rfl rfl (by decide) ?_
      refine H.q (yl_move rfl) rfl rfl (by decide) ?_
      refine H.qg (wn_t rfl rfl (by decide) rfl) (fun hg => yl_sub [(8, _)] ⟨rfl, trivial⟩ (yl_loadAgg _ Tryz.isAgg25 Tryz.sizeOf25 rfl (fun w hw => cells_of_blk (hw.blk 0 rfl)) rfl)) rfl (by decide) ?_
      refine H.qg (wn_t rfl rfl (by decide) rfl) (fun hg => yl_build (bd25_0234 _ _ _ _) rfl) rfl (by decide) ?_
      refine H.qg (wn_t rfl rfl (by decide) rfl) (fun hg => yl_sub [(81, _), (82, _)] ⟨slT rfl hg, slT rfl hg, trivial⟩ (yl_to (yl_call (xs := [.tmp 81, .tmp 82]) Tryz.call16 (stab_hp _ _ _ _) rfl (fun w hw => same_any ⟨11, 0, 1, -2, 7, []⟩ ⟨11, 0, 1, -2, 7, []⟩ (.slice ads 0 caps) (.slice none 0 0) w (by decide) (by decide) ⟨ads, caps, 0, 0, rfl, Nat.zero_le _, fun j x hj => by simp at hj⟩ (ints_nil w))) (show Value.bool _ = Value.bool true from rfl))) rfl (by decide) ?_
      refine H.q (yl_and rfl rfl) rfl rfl (by decide) ?_
      refine H.q (yl_assign rfl) rfl rfl (by decide) ?_
      refine HN.done ?_
      refine HN.keep [(0, _)] ⟨rfl, trivial⟩ ?_
      refine HN.then ?_
      refine HR.ret ?_
      refine HR.ret1 _ Tryz.results11 rfl (fun w hw => ?_)
      exact ⟨by simp, hw.ext⟩

end Go.Proofs.YtgbgddmbooaddaaGreatDoor

namespace Go.Proofs.YtgbgddmbooaddaaGreatDoor
open Go.RowKit


theorem strs_nil (w : World) : IsStrs w (.slice none 0 0) [] := ⟨none, 0, 0, 0, rfl, Nat.le_refl _, fun j x hj => by simp at hj⟩
theorem wide_sets {l : List Inv} {rows : List (List Int)} {names : List (List UInt8)} (h : wideB l rows names = false) : l.length ≤ 40 ∧ ∀ x ∈ l, x.set.length ≤ 20 := by
  unfold wideB at h
  simp only [Bool.or_eq_false_iff, decide_eq_false_iff_not, List.any_eq_false, decide_eq_true_eq] at h
  exact ⟨by omega, fun x hx => by have := h.2.1.1 x hx; omega⟩
theorem wide_rows {l : List Inv} {rows : List (List Int)} {names : List (List UInt8)} (h : wideB l rows names = false) : rows.length ≤ 40 ∧ ∀ r ∈ rows, r.length ≤ 20 := by
  unfold wideB at h
  simp only [Bool.or_eq_false_iff, decide_eq_false_iff_not, List.any_eq_false, decide_eq_true_eq] at h
  exact ⟨by omega, fun x hx => by have := h.2.1.2 x hx; omega⟩
end Go.Proofs.YtgbgddmbooaddaaGreatDoor

namespace Go.Proofs.YtgbgddmbooaddaaGreatDoor
open Go.ChangeShapes Go.WideShapes Go.ChangeAt Go.RowKit

abbrev laid7 : List (String × DataW Unit) := Rows.learnTextsRow.laid
set_option maxRecDepth 100000 in
theorem vars_of {W : World} (h : laidMetH Tryz.prog laid7 W) (hs : W.ShapedOpen Tryz.prog) : Vars W := by
  rw [MakeChecks.laidMetH_plain _ _ _ (by kernel_rfl)] at h
  obtain ⟨ps, ⟨g0, t0, cs0, f0, p0, q0, _, _, _, _, ⟨g1, t1, cs1, f1, p1, q1, _, _, _, _, ⟨g2, t2, cs2, f2, p2, q2, hg2, ht2, hv2, hd2, ⟨g3, t3, cs3, f3, p3, q3, _, _, _, _, ⟨g4, t4, cs4, f4, p4, q4, hg4, ht4, hv4, hd4, ⟨g5, t5, cs5, f5, p5, q5, hg5, ht5, hv5, hd5, _, _⟩, _⟩, _⟩, _⟩, _⟩, _⟩, _, _⟩ := h
  obtain rfl := Option.some.inj ((show Tryz.prog.globalNamed "internal/strconv.uint64pow10" = some 0 by kernel_rfl).symm.trans hg2)
  obtain rfl := Option.some.inj ((show (Tryz.prog.globals[0]?).map (·.type) = some 167 by kernel_rfl).symm.trans ht2)
  obtain rfl := Option.some.inj ((show Tryz.prog.globalNamed "strconv.ErrRange" = some 7 by kernel_rfl).symm.trans hg4)
  obtain rfl := Option.some.inj ((show (Tryz.prog.globals[7]?).map (·.type) = some 157 by kernel_rfl).symm.trans ht4)
  obtain rfl := Option.some.inj ((show Tryz.prog.globalNamed "strconv.ErrSyntax" = some 6 by kernel_rfl).symm.trans hg5)
  obtain rfl := Option.some.inj ((show (Tryz.prog.globals[6]?).map (·.type) = some 157 by kernel_rfl).symm.trans ht5)
  obtain ⟨_, u4, v4, e4, _, _⟩ := iface_of_trod Tryz.underlying157 hd4
  obtain ⟨_, u5, v5, e5, _, _⟩ := iface_of_trod Tryz.underlying157 hd5
  refine ⟨?_, ⟨u5, v5, ?_⟩, ⟨u4, v4, ?_⟩, ?_⟩
  · have e2 : cs2.toList = Lib.pow10Tab.map fun z => Value.int .u64 z :=
      Lib.cells_of_tab (k := .u64) (zs := Lib.pow10Tab) Tryz.underlying167 Tryz.underlying121 (by kernel_rfl) (by kernel_rfl) hd2
    unfold Lib.TabIs
    rw [hv2, ← e2]
  · rw [hv5, ← e5]
  · rw [hv4, ← e4]
  · exact cell_of_shapedOpen_int (g := 1) (t := 3) (zero := #[.int .i64 0]) hs (of_decide_eq_true (by kernel_rfl)) (by kernel_rfl) rfl (by kernel_rfl) (by kernel_rfl) Tryz.underlying3
end Go.Proofs.YtgbgddmbooaddaaGreatDoor

namespace Go.Proofs.YtgbgddmbooaddaaGreatDoor
open Go.ChangeShapes Go.WideShapes Go.ChangeAt Go.RowKit Go.Deep
set_option maxRecDepth 100000

section
variable {H : Type} {enc : TypeId × Value → H} {P : Program} {w : World} {base : Nat} {spare : Nat → Bool} {held : Bool} {fuel : Nat} {t e : TypeId} {cs : List Value} {x : DataW H × List MemPlace}
theorem rd_int {k : IntKind} (ht : P.underlying t = some (.int k)) (h : DataW.trod enc P w base spare held fuel t cs = some x) : ∃ n, cs = [.int k n] := by
  cases fuel with
  | zero => simp [DataW.trod] at h
  | succ fuel =>
    match cs with
    | [] => simp [DataW.trod, ht] at h
    | _ :: _ :: _ => simp [DataW.trod, ht] at h
    | [c] =>
      cases c <;> simp [DataW.trod, ht] at h
      rename_i k' n
      obtain ⟨⟨rfl, _⟩, _⟩ := h
      exact ⟨n, rfl⟩
theorem build_list {α : Type} {Q : Nat → α → Prop} : ∀ n, (∀ i, i < n → ∃ c, Q i c) → ∃ l : List α, l.length = n ∧ ∀ i c, l[i]? = some c → Q i c
  | 0, _ => ⟨[], rfl, fun i c h => by simp at h⟩
  | n + 1, h => by
    obtain ⟨l, hl, hq⟩ := build_list n (fun i hi => h i (by omega))
    obtain ⟨c, hc⟩ := h n (by omega)
    refine ⟨l ++ [c], by simp [hl], fun i d hd => ?_⟩
    rw [List.getElem?_append] at hd
    split at hd
    · exact hq i d hd
    · rename_i hi
      have : i = n := by
        have := (List.getElem?_eq_some_iff.1 hd).1
        simp at this
        omega
      subst this
      rw [hl, Nat.sub_self] at hd
      simp only [List.getElem?_cons_zero, Option.some.injEq] at hd
      exact hd ▸ hc
theorem rd_slice {sz : Nat} (ht : P.underlying t = some (.slice e)) (hc : P.cellsOf e = sz) (h0 : 0 < sz) (h : DataW.trod enc P w base spare held fuel t cs = some x) :
    ∃ v css, cs = [v] ∧ IsSz w v sz css ∧ ∀ c ∈ css, c.length = sz ∧ ∃ n y, DataW.trod enc P w base spare held n e c = some y := by
  rcases open_slice ht h with ⟨rfl, _⟩ | ⟨a, len, cap, m, n, D, Pl, rfl, hb, hl, hm, hmm, _, hx⟩
  · exact ⟨_, [], rfl, ⟨none, 0, 0, 0, rfl, Nat.le_refl _, fun j c hj => by simp at hj⟩, fun c hc => by cases hc⟩
  · have hlm : len ≤ m := by rw [hmm]; split <;> omega
    obtain ⟨css, hcl, hq⟩ := build_list (Q := fun i cs' => w.cells? base (a.add (i * P.cellsOf e)) (P.cellsOf e) = some cs' ∧ DataW.trod enc P w base spare held n e cs' = some (D i, Pl i)) len (fun i hi => hx i (by omega))
    have cell : ∀ j c, css[j]? = some c → c.length = sz ∧ ∀ i u, c[i]? = some u → w.cell? ((a.add (j * sz)).add i) = some u := fun j c hj => by
      have h1 := (hq j c hj).1
      rw [hc] at h1
      unfold World.cells? at h1
      split at h1
      · have hlen : c.length = sz := by have := Lib.mapM_length h1; simpa using this
        refine ⟨hlen, fun i u hi => ?_⟩
        have hi' : i < sz := by rw [← hlen]; exact (List.getElem?_eq_some_iff.1 hi).1
        obtain ⟨b, hb1, hb2⟩ := Lib.mapM_at h1 i i (by simp [hi'])
        rw [hi] at hb1
        cases hb1
        exact hb2
      · cases h1
    subst hcl
    refine ⟨_, css, rfl, ?_, fun c hcm => ?_⟩
    · obtain ⟨b, o, spot⟩ := a
      refine ⟨some ⟨b, o, spot⟩, cap, b, o, rfl, hl, fun j c hj => ?_⟩
      have hspot : spot = none := by
        have hpos : 0 < css.length := Nat.lt_of_le_of_lt (Nat.zero_le _) (List.getElem?_eq_some_iff.1 hj).1
        obtain ⟨k1, k2⟩ := cell 0 css[0] (List.getElem?_eq_getElem hpos)
        have k3 := k2 0 _ (List.getElem?_eq_getElem (by omega))
        simpa [Addr.add] using World.cell?_spot k3
      subst hspot
      refine ⟨rfl, fun i u hi => ?_⟩
      have := (cell j c hj).2 i u hi
      rw [add_at, add_at] at this
      exact this
    · obtain ⟨j, hj⟩ := List.getElem?_of_mem hcm
      exact ⟨(cell j c hj).1, n, _, (hq j c hj).2⟩
end

section
variable {H : Type} {enc : TypeId × Value → H} {w : World} {base : Nat} {spare : Nat → Bool} {held : Bool} {fuel : Nat} {cs : List Value} {x : DataW H × List MemPlace}
theorem one_of_sz {v : Value} {css : List (List Value)} (h : IsSz w v 1 css) {xs : List Value} (hx : css = xs.map fun x => [x]) : IsSl w v xs := by
  subst hx
  obtain ⟨ad, cap, b, o, h1, h2, h3⟩ := h
  refine ⟨ad, cap, b, o, by simpa using h1, by simpa using h2, fun j x hj => ?_⟩
  have := h3 j [x] (by simp [hj])
  refine ⟨this.1, ?_⟩
  have h4 := this.2 0 x rfl
  simpa using h4
theorem list_of {α β : Type} {f : β → α} : ∀ (l : List α), (∀ a ∈ l, ∃ b, a = f b) → ∃ m : List β, l = m.map f
  | [], _ => ⟨[], rfl⟩
  | a :: l, h => by
    obtain ⟨b, rfl⟩ := h a (by simp)
    obtain ⟨m, rfl⟩ := list_of l (fun a ha => h a (List.mem_cons_of_mem _ ha))
    exact ⟨b :: m, rfl⟩
theorem Tryz.cells2 : Tryz.prog.cellsOf 2 = 1 := by kernel_rfl
theorem Tryz.cells23 : Tryz.prog.cellsOf 23 = 1 := by kernel_rfl
theorem Tryz.cells25 : Tryz.prog.cellsOf 25 = 6 := by kernel_rfl
theorem Tryz.cells3 : Tryz.prog.cellsOf 3 = 1 := by kernel_rfl
theorem Tryz.cells22 : Tryz.prog.cellsOf 22 = 1 := by kernel_rfl
theorem rd23 (h : DataW.trod enc Tryz.prog w base spare held fuel 23 cs = some x) : ∃ v l, cs = [v] ∧ IsInts w v l := by
  obtain ⟨v, css, rfl, h1, h2⟩ := rd_slice Tryz.underlying23 Tryz.cells2 (by decide) h
  obtain ⟨l, rfl⟩ := list_of (f := fun n : Int => [Value.int .i64 n]) css (fun c hc => by
    obtain ⟨_, n, y, h3⟩ := h2 c hc
    exact rd_int Tryz.underlying2 h3)
  exact ⟨v, l, rfl, one_of_sz h1 (by rw [List.map_map]; rfl)⟩
theorem rd37 (h : DataW.trod enc Tryz.prog w base spare held fuel 37 cs = some x) : ∃ v l, cs = [v] ∧ IsRows w v l := by
  obtain ⟨v, css, rfl, h1, h2⟩ := rd_slice Tryz.underlying37 Tryz.cells23 (by decide) h
  have h4 : ∀ c ∈ css, ∃ p : { p : Value × List Int // IsInts w p.1 p.2 }, c = [p.1.1] := fun c hc => by
    obtain ⟨_, n, y, h3⟩ := h2 c hc
    obtain ⟨v', l', rfl, h5⟩ := rd23 h3
    exact ⟨⟨(v', l'), h5⟩, rfl⟩
  obtain ⟨m, rfl⟩ := list_of (f := fun p : { p : Value × List Int // IsInts w p.1 p.2 } => [p.1.1]) css h4
  refine ⟨v, m.map (·.1), rfl, one_of_sz h1 (by simp [List.map_map, Function.comp_def]), fun p hp => ?_⟩
  obtain ⟨q, _, rfl⟩ := List.mem_map.1 hp
  exact q.2
theorem rd25 (h : DataW.trod enc Tryz.prog w base spare held fuel 25 cs = some x) : ∃ p : Value × Inv, cs = cellsI p ∧ IsInts w p.1 p.2.set := by
  cases fuel with
  | zero => simp [DataW.trod] at h
  | succ fuel =>
    simp only [DataW.trod, Tryz.underlying25, Tryz.cells25] at h
    split at h
    · rename_i hl
      obtain ⟨xs, hxs, _⟩ := Option.map_eq_some_iff.1 h
      have at_ : ∀ (i : Nat) (f : Field), (#[_, _, _, _, _, _] : Array Field).toList[i]? = some f → ∃ y, DataW.trod enc Tryz.prog w base spare held fuel f.type ((cs.drop f.offset).take (Tryz.prog.cellsOf f.type)) = some y := fun i f hf => by
        obtain ⟨b, _, hb⟩ := Lib.mapM_at hxs i f hf
        exact ⟨b, hb⟩
      match cs, hl with
      | [c0, c1, c2, c3, c4, c5], _ =>
        obtain ⟨y0, h0⟩ := at_ 0 _ rfl
        obtain ⟨y1, h1⟩ := at_ 1 _ rfl
        obtain ⟨y2, h2⟩ := at_ 2 _ rfl
        obtain ⟨y3, h3⟩ := at_ 3 _ rfl
        obtain ⟨y4, h4⟩ := at_ 4 _ rfl
        obtain ⟨y5, h5⟩ := at_ 5 _ rfl
        simp only [Tryz.cells22, Tryz.cells3, Tryz.cells2, Tryz.cells23, List.drop, List.take] at h0 h1 h2 h3 h4 h5
        obtain ⟨n0, e0⟩ := rd_int Tryz.underlying22 h0
        obtain ⟨n1, e1⟩ := rd_int Tryz.underlying3 h1
        obtain ⟨n2, e2⟩ := rd_int Tryz.underlying3 h2
        obtain ⟨n3, e3⟩ := rd_int Tryz.underlying2 h3
        obtain ⟨n4, e4⟩ := rd_int Tryz.underlying2 h4
        obtain ⟨v, l, e5, h6⟩ := rd23 h5
        simp only [List.cons.injEq, and_true] at e0 e1 e2 e3 e4 e5
        subst e0 e1 e2 e3 e4 e5
        exact ⟨(_, ⟨n0, n1, n2, n3, n4, l⟩), rfl, h6⟩
    · cases h
theorem rd28 (h : DataW.trod enc Tryz.prog w base spare held fuel 28 cs = some x) : ∃ v l, cs = [v] ∧ IsClaims w v l := by
  obtain ⟨v, css, rfl, h1, h2⟩ := rd_slice Tryz.underlying28 Tryz.cells25 (by decide) h
  have h4 : ∀ c ∈ css, ∃ p : { p : Value × Inv // IsInts w p.1 p.2.set }, c = cellsI p.1 := fun c hc => by
    obtain ⟨_, n, y, h3⟩ := h2 c hc
    obtain ⟨p, hp, h5⟩ := rd25 h3
    exact ⟨⟨p, h5⟩, hp⟩
  obtain ⟨m, rfl⟩ := list_of (f := fun p : { p : Value × Inv // IsInts w p.1 p.2.set } => cellsI p.1) css h4
  refine ⟨v, m.map (·.1), rfl, by rw [List.map_map]; exact h1, fun p hp => ?_⟩
  obtain ⟨q, _, rfl⟩ := List.mem_map.1 hp
  exact q.2
end

section
variable {H : Type} {enc : TypeId × Value → H} {w : World} {base : Nat} {spare : Nat → Bool} {held : Bool} {v : Value} {d : DataW H} {p : List MemPlace} {b0 b1 : Nat}
theorem arg_rows (ho : Value.okWide Tryz.prog w .any b0 37 v) (h : DataW.Trod enc Tryz.prog w base spare held 37 v d p) : ∃ l, IsRows w v l := by
  obtain ⟨a, n, c, rfl⟩ := okWide_slice Tryz.underlying37 ho
  obtain ⟨f, h⟩ := h
  obtain ⟨v', l, h1, h2⟩ := rd37 h
  simp [Value.cells] at h1
  subst h1
  exact ⟨l, h2⟩
theorem arg_claims (ho : Value.okWide Tryz.prog w .any b0 28 v) (h : DataW.Trod enc Tryz.prog w base spare held 28 v d p) : ∃ l, IsClaims w v l := by
  obtain ⟨a, n, c, rfl⟩ := okWide_slice Tryz.underlying28 ho
  obtain ⟨f, h⟩ := h
  obtain ⟨v', l, h1, h2⟩ := rd28 h
  simp [Value.cells] at h1
  subst h1
  exact ⟨l, h2⟩
end
end Go.Proofs.YtgbgddmbooaddaaGreatDoor

namespace Go.Proofs.YtgbgddmbooaddaaGreatDoor
open Go.ChangeShapes Go.WideShapes Go.ChangeAt Go.RowKit

theorem frozen_ext {w w' : World} (h : Ext w w') {b off : Nat} (hb : b < w.heap.size) : w'.frozen? ⟨b, off, none⟩ = w.frozen? ⟨b, off, none⟩ := by
  unfold World.frozen?
  rw [h.block b hb]

/-- What a law's call leaves: true; the arguments read as they did. -/
theorem post_of_ext {H : Type} {enc : TypeId × Value → H} {P : Program} {f : Func} {s : ChangeSpec} {handsOn again : Bool} {W W' : World} {args : Array Value} {v : Value} {ds : List (DataW H)} {before : List MemPlace} (he : Ext W W')
    (hW : DataW.Whole enc P f.params.toList s.vars false W args.toList ds [] before)
    (hres : ∀ (b : Nat) (sp : Nat → Bool) (hd : Bool), DataW.TrodAll enc P W' b sp hd f.resultTypes.toList (v.resultList f.resultTypes.size) (s.fn H (ds ++ [])).results [])
    (hargs : ∀ sp : Nat → Bool, (∀ p ∈ before, sp p.block = true) → DataW.TrodAll enc P W' 0 sp true f.params.toList args.toList (s.fn H (ds ++ [])).args before)
    (hvars : ∀ sp : Nat → Bool, DataW.TrodVars enc P W' sp s.vars (s.fn H (ds ++ [])).vars [])
    (hok : ∀ (j : Nat) (t : TypeId) (r : Value), f.resultTypes[j]? = some t → (v.resultList f.resultTypes.size)[j]? = some r → Value.okWide P W' .any 0 t r) :
    s.post enc P f false true handsOn again W args v W' := by
  have old : ∀ p ∈ before, (fun b => decide (b < W.heap.size)) p.block = true := fun p hp => by simpa using hW.lt p hp
  refine ⟨ds, [], before, [], before, [], hW, hres _ _ _, hargs _ old, hvars _, Below.frame he _, fun _ => ?_⟩
  have nf : W.noneFrozen before := by obtain ⟨_, _, _, _, _, h, _⟩ := hW; exact h
  have all := trodAll_append (hargs (fun _ => true) (fun _ _ => rfl)) (hres 0 (fun _ => true) true)
  rw [List.nil_append] at all
  exact ⟨hok, _, _, before, ⟨before, [], all, hvars _, (List.append_nil _).symm, fun b off hp => by rw [frozen_ext he (show b < W.heap.size from hW.lt _ hp)]; exact nf b off hp, fun h => by cases h⟩, fun p hp _ => hp⟩

/-- The row's step, with the listed variables and the world's shape at hand. -/
theorem handed_both {H : Type} {enc : TypeId × Value → H} {a : Assume} {C : Checked} {os : Os} {f : FuncId} {fn : Func} {s : ChangeSpec} {conds : List PathCond} {apart fresh handsOn again : Bool} {X : World → Array Value → Prop}
    (hX : ∀ (w w' : World) (args : Array Value), w.heap = w'.heap → X w args → X w' args)
    (own : ownKnob C.prog.godebug = none) (started : os.Started) (noInit : C.prog.inits.idxOf? f = none) (hfn : C.prog.funcs[f]? = some fn)
    (wit : ∃ (w : World) (tape : Tape) (i : Input), w.os = os ∧ (w.forCall tape i).Shaped C.prog ∧ i.vars = [] ∧ Input.okWide C.prog (w.forCall tape i) .any w.heap.size f i ∧
      ((s.pre enc C.prog fn conds apart (w.forCall tape i).memory i.args ∧ X (w.forCall tape i).memory i.args) ∧ sizedMet enc C.prog fn (OpenSpec.ofChange s) apart (w.forCall tape i).memory i.args) ∧ a.holds C.prog (lone (Frame.enter C.prog f i.args .normal) [] (w.forCall tape i)))
    (con : ∀ (W : World) (base : Nat) (args : Array Value) (ds gs : List (DataW H)) (before : List MemPlace),
      (∀ (j : Nat) t v, fn.params[j]? = some t → args[j]? = some v → Value.okWide C.prog W .any base t v) →
      DataW.Whole enc C.prog fn.params.toList s.vars apart W args.toList ds gs before → X W args → W.ShapedOpen C.prog →
      Calls C.prog f args W fun e W' => ∃ v, e = .returned v ∧ s.post enc C.prog fn apart fresh handsOn again W args v W') :
    ReturnsInHanded a C os f .any (fun w args => (s.pre enc C.prog fn conds apart w args ∧ X w args) ∧ sizedMet enc C.prog fn (OpenSpec.ofChange s) apart w args) (s.post enc C.prog fn apart fresh handsOn again) :=
  returnsInHanded_of_calls own started noInit wit fun w tape i _ hsh _ hok hpre _ => by
    obtain ⟨_, _, _, fn', hfn', _, _, _, _, hval⟩ := hok
    cases Option.some.inj (hfn'.symm.trans hfn)
    obtain ⟨⟨⟨ds, gs, before, hw, _⟩, hx⟩, _⟩ := hpre
    refine (con (w.forCall tape i) w.heap.size i.args ds gs before hval (DataW.Whole.of_heap (w' := w.forCall tape i) (by rfl) hw) (hX _ _ _ (by rfl) hx) hsh).mono fun e W' h => ?_
    obtain ⟨v, rfl, hp⟩ := h
    exact ChangeSpec.post_blind hp

theorem seatOwn : ownKnob Tryz.prog.godebug = none := by kernel_rfl
end Go.Proofs.YtgbgddmbooaddaaGreatDoor

namespace Go.Proofs.YtgbgddmbooaddaaGreatDoor
open Go.RowKit


def rowE (l : List Int) (vars : Int) : Int := if (l.length : Int) ≠ vars then 1 else if allSmallB l = false then 3 else 0
theorem rowE_add (l : List Int) (vars : Nat) : rowE l vars = addE l vars := by
  unfold rowE addE
  by_cases h : l.length = vars
  · rw [if_neg (show ¬ ((l.length : Int) ≠ (vars : Int)) by omega), if_neg (show ¬ (l.length ≠ vars) by omega)]
  · rw [if_pos (show (l.length : Int) ≠ (vars : Int) by omega), if_pos h]
theorem rowE_ok {l : List Int} {vars : Int} (h : rowE l vars = 0) : (l.length : Int) = vars ∧ allSmallB l = true := by
  unfold rowE at h
  split at h
  · simp at h
  split at h
  · simp at h
  rename_i h1 h2
  exact ⟨by simpa using h1, by simpa using h2⟩

set_option maxRecDepth 100000 in
theorem row_any (l : List Int) (sv : Value) (vars : Int) (w0 : World) (hl : l.length ≤ 1000000) (hv : IsInts w0 sv l) : Calls Tryz.prog 18 #[sv, .int .i64 vars] w0 fun e w' => e = .returned (.int .i64 (rowE l vars)) ∧ Ext w0 w' := by
  obtain ⟨ad, cap, b, o, rfl, hcap, hs⟩ := ints_open hv
  refine enterA 22 Tryz.func18 rfl Tryz.ntmps18 rfl (Hp w0 [] [] []) (Hp.init _) ?_
  refine H.seq ?_
  refine H.region ?_
  refine H.q (yl_assign rfl) rfl rfl (by decide) ?_
  refine HN.done ?_
  refine HN.keep [(0, _), (1, _)] ⟨rfl, rfl, trivial⟩ ?_
  refine HN.then ?_
  refine H.seq ?_
  refine H.seq ?_
  refine H.region ?_
  refine H.q (yl_move rfl) rfl rfl (by decide) ?_
  refine H.q (yl_len rfl Tryz.underlying23 rfl) rfl rfl (by decide) ?_
  refine H.q (yl_move rfl) rfl rfl (by decide) ?_
  refine H.q (yl_neq rfl rfl) rfl rfl (by decide) ?_
  refine HN.done ?_
  refine HN.keep [(0, _), (9, _)] ⟨rfl, rfl, trivial⟩ ?_
  refine HN.then ?_
  refine H.cond _ rfl (fun t0 => ?_) (fun t0 => ?_)
  · replace t0 := of_decide_eq_true t0
    refine H.keep [] trivial ?_
    refine H.seq ?_
    refine H.region ?_
    refine H.q (yl_assign rfl) rfl rfl (by decide) ?_
    refine HN.done ?_
    refine HN.keep [(4, _)] ⟨rfl, trivial⟩ ?_
    refine HN.then ?_
    refine HR.ret ?_
    refine HR.then ?_
    refine HR.ret1 _ Tryz.results18 rfl (fun w hw => ?_)
    refine ⟨?_, hw.ext⟩
    unfold rowE
    rw [if_pos t0]
  · replace t0 := of_decide_eq_false t0
    refine H.keep [(0, _)] ⟨rfl, trivial⟩ ?_
    refine HN.skip ?_
    refine HN.then ?_
    refine H.seq ?_
    refine H.seq ?_
    refine H.region ?_
    refine H.q (yl_assign rfl) rfl rfl (by decide) ?_
    refine HN.done ?_
    refine HN.keep [(0, _), (5, _)] ⟨rfl, rfl, trivial⟩ ?_
    refine HN.then ?_
    refine H.block ?_
    refine H.loop (fun k : Nat => [(0, .slice ad l.length cap), (5, .int .i64 (k : Int))]) (fun k => k ≤ l.length ∧ ∀ j, j < k → smallB (l.getD j 0) = true) (fun _ => Hp w0 [] [] []) (fun k => l.length - k) 0 ⟨Nat.zero_le _, fun j hj => absurd hj (Nat.not_lt_zero _)⟩ ⟨rfl, rfl, trivial⟩ (fun w hw => hw) (fun k hI => ?_)
    refine H.seq ?_
    refine H.seq ?_
    refine H.region ?_
    refine H.q (yl_move rfl) rfl rfl (by decide) ?_
    refine H.q (yl_move rfl) rfl rfl (by decide) ?_
    refine H.q (yl_len rfl Tryz.underlying23 rfl) rfl rfl (by decide) ?_
    refine H.q (yl_lss rfl rfl) rfl rfl (by decide) ?_
    refine HN.done ?_
    refine HN.keep [(0, _), (5, _), (13, _)] ⟨rfl, rfl, rfl, trivial⟩ ?_
    refine HN.then ?_
    refine H.cond _ rfl (fun t1 => ?_) (fun t1 => ?_)
    · replace t1 := of_decide_eq_true t1
      have hlt : k < l.length := by omega
      refine H.keep [(0, _), (5, _)] ⟨rfl, rfl, trivial⟩ ?_
      refine HN.skip ?_
      refine HN.then ?_
      refine H.seq ?_
      refine H.block ?_
      refine H.seq ?_
      refine H.region ?_
      refine H.q (yl_move rfl) rfl rfl (by decide) ?_
      refine H.q (yl_move rfl) rfl rfl (by decide) ?_
      refine H.q (yl_ix k Tryz.underlying23 Tryz.sizeOf2 (hs k hlt).1 rfl rfl rfl hlt) rfl rfl (by decide) ?_
      refine H.q (yl_load Tryz.isAgg2 rfl (fun w hw => cell_ext hw.ext (hs k hlt).2)) rfl rfl (by decide) ?_
      refine H.q (yl_call (xs := [.tmp 19]) Tryz.call48 (stab_hp _ _ _ _) rfl (fun w hw => plain_any _ w)) rfl rfl (by decide) ?_
      refine H.q (yl_not rfl) rfl rfl (by decide) ?_
      refine HN.done ?_
      refine HN.keep [(0, _), (5, _), (21, _)] ⟨rfl, rfl, rfl, trivial⟩ ?_
      refine HN.then ?_
      refine H.cond _ rfl (fun t2 => ?_) (fun t2 => ?_)
      · replace t2 : smallB (l.getD k 0) = false := by simpa using t2
        refine H.keep [] trivial ?_
        refine H.seq ?_
        refine H.region ?_
        refine H.q (yl_assign rfl) rfl rfl (by decide) ?_
        refine HN.done ?_
        refine HN.keep [(4, _)] ⟨rfl, trivial⟩ ?_
        refine HN.then ?_
        refine HR.ret ?_
        refine HR.block ?_
        refine HR.then ?_
        refine HR.then ?_
        refine HR.block ?_
        refine HR.then ?_
        refine HR.ret1 _ Tryz.results18 rfl (fun w hw => ?_)
        refine ⟨?_, hw.ext⟩
        unfold rowE
        rw [if_neg t0, if_pos (allSmall_no hlt t2)]
      · replace t2 : smallB (l.getD k 0) = true := by simpa using t2
        refine H.keep [(0, _), (5, _)] ⟨rfl, rfl, trivial⟩ ?_
        refine HN.skip ?_
        refine HN.block ?_
        refine HN.then ?_
        refine H.region ?_
        refine H.q (yl_move rfl) rfl rfl (by decide) ?_
        refine H.q (yl_add rfl rfl ((k : Int) + 1) rfl (by omega)) rfl rfl (by decide) ?_
        refine H.q (yl_assign rfl) rfl rfl (by decide) ?_
        refine HN.done ?_
        refine HN.keep [(0, _), (5, _)] ⟨rfl, rfl, trivial⟩ ?_
        refine HN.then ?_
        exact H.at (k + 1) ⟨⟨by omega, fun j hj => by
          by_cases hjk : j = k
          · subst hjk; exact t2
          · exact hI.2 j (by omega)⟩, by omega⟩ ⟨rfl, rfl, trivial⟩ (fun w hw => hw)
    · replace t1 := of_decide_eq_false t1
      have hkl : k = l.length := by omega
      subst hkl
      refine H.keep [] trivial ?_
      refine HX.exit ?_
      refine HX.then ?_
      refine HX.then ?_
      refine HX.hit ?_
      refine HN.then ?_
      refine H.seq ?_
      refine H.region ?_
      refine H.q (yl_assign rfl) rfl rfl (by decide) ?_
      refine HN.done ?_
      refine HN.keep [(4, _)] ⟨rfl, trivial⟩ ?_
      refine HN.then ?_
      refine HR.ret ?_
      refine HR.ret1 _ Tryz.results18 rfl (fun w hw => ?_)
      refine ⟨?_, hw.ext⟩
      unfold rowE
      rw [if_neg t0, if_neg (by rw [allSmall_yes hI.2]; decide)]

end Go.Proofs.YtgbgddmbooaddaaGreatDoor

namespace Go.Proofs.YtgbgddmbooaddaaGreatDoor
open Go.RowKit

theorem chk_mk {x : Inv} {vars : Int} (hv : 1 ≤ vars) (hv8 : vars ≤ 8) (hk : kindB x.kind = true) (hp : placeB x vars = true) (hn : numE x = 0) (hb : sameB x (bareI x) = true) : chk x vars = 0 := by
  unfold chk
  rw [if_neg (by omega), if_neg (by omega), if_neg (by rw [hk]; decide), if_neg (by rw [hp]; decide), if_pos hn, if_pos hb]
theorem numE_mk {x : Inv} (h1 : smallB x.k = true) (h2 : smallB x.m = true) (h3 : allSmallB x.set = true) (h4 : x.kind = 2 → 2 ≤ x.set.length ∧ x.set.length ≤ 3 ∧ risingB x.set = true) (h5 : x.kind = 6 → 2 ≤ x.m ∧ 0 ≤ x.k ∧ x.k < x.m) : numE x = 0 := by
  unfold numE
  rw [if_pos (by rw [h1, h2, h3]; rfl)]
  by_cases h2k : x.kind = 2
  · obtain ⟨a, b, c⟩ := h4 h2k
    have e1 : (hasSB x.kind && (decide ((x.set.length : Int) < 2) || decide (3 < (x.set.length : Int)) || !risingB x.set)) = false := by
      rw [c, decide_eq_false (show ¬ (x.set.length : Int) < 2 by omega), decide_eq_false (show ¬ (3 : Int) < x.set.length by omega)]
      simp
    rw [if_neg (by rw [e1]; decide), if_neg (by simp [h2k])]
  · have e1 : hasSB x.kind = false := by simp [hasSB, h2k]
    rw [if_neg (by rw [e1]; simp)]
    by_cases h6k : x.kind = 6
    · obtain ⟨a, b, c⟩ := h5 h6k
      rw [if_neg]
      rw [decide_eq_false (show ¬ x.m < 2 by omega), decide_eq_false (show ¬ x.k < 0 by omega), decide_eq_false (show ¬ x.m ≤ x.k by omega)]
      simp
    · rw [if_neg (by simp [h6k])]
theorem modI_emod {n m : Int} (h : 0 < m) : modI n m = n % m := by
  unfold modI
  have h1 : n.tmod m + m = (n.tmod m + m) := rfl
  have hlt := Int.tmod_lt_of_pos n h
  have hgt := Int.lt_tmod_of_pos n h
  rw [Int.tmod_eq_emod_of_nonneg (by omega), Int.add_emod_right]
  exact Int.emod_eq_emod_iff_emod_sub_eq_zero.2 (by
    have := Int.dvd_sub_self_of_tmod_eq (a := n) (b := m) (c := n.tmod m) rfl
    have h2 : m ∣ n.tmod m - n := by
      have h3 := Int.dvd_neg.2 this
      rwa [Int.neg_sub] at h3
    exact Int.emod_eq_zero_of_dvd h2)
theorem gcdE_left {a b : Int} (h : 0 ≤ a) : gcdE a b ∣ a := by
  have : ((Nat.gcd a.toNat b.toNat : Nat) : Int) ∣ ((a.toNat : Nat) : Int) := Int.natCast_dvd_natCast.2 (Nat.gcd_dvd_left _ _)
  rwa [Int.toNat_of_nonneg h] at this
theorem gcdE_right {a b : Int} (h : 0 ≤ b) : gcdE a b ∣ b := by
  have : ((Nat.gcd a.toNat b.toNat : Nat) : Int) ∣ ((b.toNat : Nat) : Int) := Int.natCast_dvd_natCast.2 (Nat.gcd_dvd_right _ _)
  rwa [Int.toNat_of_nonneg h] at this
/-- Ascending, no number twice. -/
abbrev Asc (c : List Int) : Prop := c.Pairwise fun x y => x < y
theorem asc_step {c : List Int} (h : Asc c) {k : Nat} (hk : k + 1 < c.length) : c.getD k 0 < c.getD (k + 1) 0 := by
  have := List.pairwise_iff_getElem.1 h k (k + 1) (by omega) hk (by omega)
  simpa [List.getD, hk, show k < c.length by omega] using this
theorem asc_bounds {c : List Int} (h : Asc c) {y : Int} (hy : y ∈ c) : loE c ≤ y ∧ y ≤ hiE c := by
  obtain ⟨j, hj, rfl⟩ := List.getElem_of_mem hy
  have h0 : loE c = c[0]'(by omega) := by simp [loE, List.getD, show 0 < c.length by omega]
  have h1 : hiE c = c[c.length - 1]'(by omega) := by simp [hiE, List.getD, show c.length - 1 < c.length by omega]
  rw [h0, h1]
  constructor
  · by_cases hj0 : j = 0
    · subst hj0; omega
    · have := List.pairwise_iff_getElem.1 h 0 j (by omega) hj (by omega)
      omega
  · by_cases hjl : j = c.length - 1
    · subst hjl; omega
    · have := List.pairwise_iff_getElem.1 h j (c.length - 1) hj (by omega) (by omega)
      omega
theorem step_dvd {c : List Int} (h : Asc c) : ∀ k, k + 1 ≤ c.length → ∀ j, j < k → stepE c k ∣ c.getD (j + 1) 0 - c.getD j 0
  | 0, _, j, hj => absurd hj (Nat.not_lt_zero _)
  | k + 1, hk, j, hj => by
    have hs := asc_step h (k := k) (by omega)
    show gcdE (stepE c k) (c.getD (k + 1) 0 - c.getD k 0) ∣ _
    by_cases hjk : j = k
    · subst hjk; exact gcdE_right (by omega)
    · exact Int.dvd_trans (gcdE_left (stepE_nonneg c k)) (step_dvd h k (by omega) j (by omega))
theorem step_low {c : List Int} (h : Asc c) {y : Int} (hy : y ∈ c) : stepE c (c.length - 1) ∣ y - loE c := by
  obtain ⟨j, hj, rfl⟩ := List.getElem_of_mem hy
  have key : ∀ j, j < c.length → stepE c (c.length - 1) ∣ c.getD j 0 - loE c := by
    intro j
    induction j with
    | zero => intro _; unfold loE; rw [Int.sub_self]; exact Int.dvd_zero _
    | succ j ih =>
      intro hj
      have h1 := ih (by omega)
      have h2 := step_dvd h (c.length - 1) (by omega) j (by omega)
      have h3 := Int.dvd_add h2 h1
      rwa [show c.getD (j + 1) 0 - c.getD j 0 + (c.getD j 0 - loE c) = c.getD (j + 1) 0 - loE c by omega] at h3
  have := key j hj
  simpa [List.getD, hj] using this
theorem rising_asc {c : List Int} (h : Asc c) : risingB c = true := by
  unfold risingB
  rw [List.all_eq_true]
  intro j hj
  rw [List.mem_range] at hj
  have := asc_step h (k := j) (by omega)
  simpa using this
theorem lo_mem {c : List Int} (h : 0 < c.length) : loE c ∈ c := by unfold loE; exact getD_mem h
theorem hi_mem {c : List Int} (h : 0 < c.length) : hiE c ∈ c := by unfold hiE; exact getD_mem (by omega)
theorem zero_small : smallB 0 = true := by decide
/-- The claims about one variable. -/
theorem alone_ok {c : List Int} {a vars : Nat} (h : Asc c) (hsm : ∀ y ∈ c, smallB y = true) (h0 : 0 < c.length) (hv1 : 1 ≤ vars) (hv8 : vars ≤ 8) (ha : a < vars) : ∀ x ∈ aloneE c a, chk x vars = 0 ∧ x.a = a ∧ x.kind ≤ 6 ∧ ∀ y ∈ c, ∀ z, holdsB x y z = true := by
  have hlo := hsm _ (lo_mem h0)
  have hhi := hsm _ (hi_mem h0)
  have place : ∀ x : Inv, x.a = a → x.kind ≤ 6 → placeB x vars = true := fun x hxa hk => by
    have e1 : twoB x.kind = false := by simp [twoB]; omega
    have e2 : turnB x = false := by simp [turnB]; omega
    simp only [placeB, outB, e1, e2, hxa]
    simp
    omega
  intro x hx
  unfold aloneE at hx
  split at hx
  · rename_i h1
    rw [List.mem_singleton] at hx
    subst hx
    refine ⟨chk_mk (by omega) (by omega) (by simp [kindB]) (place _ rfl (by simp [])) (numE_mk hlo zero_small rfl (fun h => absurd h (by simp [])) (fun h => absurd h (by simp []))) (by simp [sameB, bareI, twoB, hasKB, hasMB, hasSB]), rfl, (by simp []), fun y hy z => ?_⟩
    obtain ⟨b1, b2⟩ := asc_bounds h hy
    have : hiE c = loE c := by unfold hiE loE; rw [show c.length - 1 = 0 by omega]
    have : y = loE c := by omega
    simp [holdsB, this]
  · rename_i h1
    simp only [List.mem_append, List.mem_cons, List.not_mem_nil, or_false] at hx
    rcases hx with (((rfl | rfl) | hx) | hx) | hx
    · refine ⟨chk_mk (by omega) (by omega) (by simp [kindB]) (place _ rfl (by simp [])) (numE_mk hlo zero_small rfl (fun h => absurd h (by simp [])) (fun h => absurd h (by simp []))) (by simp [sameB, bareI, twoB, hasKB, hasMB, hasSB]), rfl, (by simp []), fun y hy z => ?_⟩
      have := (asc_bounds h hy).1
      simpa [holdsB] using this
    · refine ⟨chk_mk (by omega) (by omega) (by simp [kindB]) (place _ rfl (by simp [])) (numE_mk hhi zero_small rfl (fun h => absurd h (by simp [])) (fun h => absurd h (by simp []))) (by simp [sameB, bareI, twoB, hasKB, hasMB, hasSB]), rfl, (by simp []), fun y hy z => ?_⟩
      have := (asc_bounds h hy).2
      simpa [holdsB] using this
    · split at hx
      · rename_i h3
        rw [List.mem_singleton] at hx
        subst hx
        refine ⟨chk_mk (by omega) (by omega) (by simp [kindB]) (place _ rfl (by simp [])) (numE_mk zero_small zero_small (List.all_eq_true.2 hsm) (fun _ => ⟨by simp only; omega, by simp only; omega, rising_asc h⟩) (fun h => absurd h (by simp []))) (by simp [sameB, bareI, twoB, hasKB, hasMB, hasSB]), rfl, (by simp []), fun y hy z => ?_⟩
        simp [holdsB, hy]
      · cases hx
    · split at hx
      · rename_i h3
        rw [List.mem_singleton] at hx
        subst hx
        refine ⟨chk_mk (by omega) (by omega) (by simp [kindB]) (place _ rfl (by simp [])) (numE_mk zero_small zero_small rfl (fun h => absurd h (by simp [])) (fun h => absurd h (by simp []))) (by simp [sameB, bareI, twoB, hasKB, hasMB, hasSB]), rfl, (by simp []), fun y hy z => ?_⟩
        simp only [Bool.and_eq_true, Bool.not_eq_true', List.any_eq_false, decide_eq_true_eq] at h3
        have : y ≠ 0 := fun e => h3.1.1 y hy e.symm
        simp [holdsB, this]
      · cases hx
    · split at hx
      · cases hx
      · rename_i h3
        split at hx
        · rename_i h4
          rw [List.mem_singleton] at hx
          subst hx
          simp only [Bool.and_eq_true, decide_eq_true_eq] at h4
          have hpos : 0 < stepE c (c.length - 1) := by omega
          have e1 := modI_emod (n := loE c) hpos
          have b1 := Int.emod_nonneg (loE c) (show stepE c (c.length - 1) ≠ 0 by omega)
          have b2 := Int.emod_lt_of_pos (loE c) hpos
          refine ⟨chk_mk (by omega) (by omega) (by simp [kindB]) (place _ rfl (by simp [])) (numE_mk (by rw [smallB]; simp only [e1, Bool.and_eq_true, decide_eq_true_eq]; omega) (by rw [smallB]; simp only [Bool.and_eq_true, decide_eq_true_eq]; omega) rfl (fun h => absurd h (by simp [])) (fun _ => ⟨h4.1, by simp only [e1]; omega, by simp only [e1]; omega⟩)) (by simp [sameB, bareI, twoB, hasKB, hasMB, hasSB]), rfl, (by simp []), fun y hy z => ?_⟩
          have hd := step_low h hy
          have : modI y (stepE c (c.length - 1)) = modI (loE c) (stepE c (c.length - 1)) := by
            rw [e1, modI_emod hpos]
            exact Int.emod_eq_emod_iff_emod_sub_eq_zero.2 (Int.emod_eq_zero_of_dvd hd)
          simp [holdsB, this]
        · cases hx
end Go.Proofs.YtgbgddmbooaddaaGreatDoor

namespace Go.Proofs.YtgbgddmbooaddaaGreatDoor
open Go.RowKit

def Okr (rows : List (List Int)) (vars : Nat) : Prop := ∀ r ∈ rows, r.length = vars ∧ allSmallB r = true
theorem Okr.small {rows : List (List Int)} {vars : Nat} (h : Okr rows vars) : ∀ r ∈ rows, ∀ x ∈ r, smallB x = true := fun r hr x hx => List.all_eq_true.1 (h r hr).2 x hx
theorem place_two {x : Inv} {vars p q : Nat} (ha : x.a = p) (hb : x.b = q) (hpv : p < vars) (hqv : q < vars) (hne : p ≠ q) (ht : x.kind = 7 ∨ x.kind = 8 → p < q) : placeB x vars = true := by
  unfold placeB outB turnB
  rw [ha, hb]
  have e1 : decide ((p : Int) < 0) = false := decide_eq_false (by omega)
  have e2 : decide ((vars : Int) ≤ p) = false := decide_eq_false (by omega)
  have e3 : decide ((q : Int) < 0) = false := decide_eq_false (by omega)
  have e4 : decide ((vars : Int) ≤ q) = false := decide_eq_false (by omega)
  have e5 : decide ((p : Int) = q) = false := decide_eq_false (by omega)
  rw [e1, e2, e3, e4, e5]
  by_cases h7 : x.kind = 7 ∨ x.kind = 8
  · have := ht h7
    have e6 : decide ((q : Int) ≤ p) = false := decide_eq_false (by omega)
    rw [e6]
    simp
  · have e6 : (decide (x.kind = 7) || decide (x.kind = 8)) = false := by simp; omega
    rw [e6]
    simp
theorem chk_two {k : Int} {vars p q : Nat} {K M : Int} (hk : 7 ≤ k ∧ k ≤ 11) (hv1 : 1 ≤ vars) (hv8 : vars ≤ 8) (hpv : p < vars) (hqv : q < vars) (hne : p ≠ q) (ht : k = 7 ∨ k = 8 → p < q) (hK : smallB K = true) (hM : smallB M = true) (h0 : k ≠ 11 → K = 0 ∧ M = 0) : chk ⟨k, p, q, K, M, []⟩ vars = 0 := by
  refine chk_mk (by omega) (by omega) (by simp [kindB]; omega) (place_two rfl rfl hpv hqv hne ht) (numE_mk hK hM rfl (fun h => ?_) (fun h => ?_)) ?_
  · simp only at h; omega
  · simp only at h; omega
  · have e1 : twoB k = true := by simp [twoB]; omega
    have e3 : hasSB k = false := by simp [hasSB]; omega
    by_cases h11 : k = 11
    · subst h11
      simp [sameB, bareI, twoB, hasKB, hasMB, hasSB]
    · obtain ⟨rfl, rfl⟩ := h0 h11
      simp [sameB, bareI, e1, e3]
theorem linE_some {P : List (Int × Int)} {a b : Int} {x : Inv} (h : linE P a b = some x) : ∃ K M, x = ⟨11, a, b, K, M, []⟩ ∧ smallB K = true ∧ smallB M = true ∧ ∀ r ∈ P, r.2 = K * r.1 + M := by
  unfold linE at h
  rw [Option.bind_eq_some_iff] at h
  obtain ⟨q, _, h⟩ := h
  unfold linT at h
  split at h
  · cases h
  split at h
  · cases h
  rename_i h2
  split at h
  · cases h
  rename_i h3
  split at h
  · rename_i h4
    simp only [Option.some.injEq] at h
    subst h
    refine ⟨_, _, rfl, by simpa using h2, by simpa using h3, fun r hr => ?_⟩
    have := List.all_eq_true.1 h4 r hr
    simpa using this
  · cases h
theorem all_pts {rows : List (List Int)} {a b : Nat} {f : Int × Int → Bool} (h : (ptsL rows a b).all f = true) : ∀ r ∈ rows, f (r.getD a 0, r.getD b 0) = true := fun r hr =>
  List.all_eq_true.1 h _ (List.mem_map.2 ⟨r, hr, rfl⟩)
theorem order_ok {rows : List (List Int)} {ca cb : List Int} {a b vars : Nat} (hv1 : 1 ≤ vars) (hv8 : vars ≤ 8) (hb : b < vars) (hab : a < b) : ∀ x ∈ orderE (ptsL rows a b) ca cb a b, chk x vars = 0 ∧ ∀ r ∈ rows, holdsR x r = true := by
  intro x hx
  unfold orderE at hx
  split at hx
  · rename_i h1
    split at hx
    · cases hx
    · rw [List.mem_singleton] at hx
      subst hx
      exact ⟨chk_two (by omega) hv1 hv8 (by omega) hb (by omega) (by omega) zero_small zero_small (fun _ => ⟨rfl, rfl⟩), fun r hr => by simpa [holdsR, holdsB] using all_pts h1 r hr⟩
  split at hx
  · rename_i h1
    split at hx
    · cases hx
    · rw [List.mem_singleton] at hx
      subst hx
      exact ⟨chk_two (by omega) hv1 hv8 hb (by omega) (by omega) (by omega) zero_small zero_small (fun _ => ⟨rfl, rfl⟩), fun r hr => by simpa [holdsR, holdsB] using all_pts h1 r hr⟩
  split at hx
  · rename_i h1
    split at hx
    · cases hx
    · rw [List.mem_singleton] at hx
      subst hx
      exact ⟨chk_two (by omega) hv1 hv8 (by omega) hb (by omega) (by omega) zero_small zero_small (fun _ => ⟨rfl, rfl⟩), fun r hr => by simpa [holdsR, holdsB] using all_pts h1 r hr⟩
  split at hx
  · rename_i h1
    split at hx
    · cases hx
    · rw [List.mem_singleton] at hx
      subst hx
      exact ⟨chk_two (by omega) hv1 hv8 hb (by omega) (by omega) (by omega) zero_small zero_small (fun _ => ⟨rfl, rfl⟩), fun r hr => by simpa [holdsR, holdsB] using all_pts h1 r hr⟩
  split at hx
  · rename_i h1
    rw [List.mem_singleton] at hx
    subst hx
    exact ⟨chk_two (by omega) hv1 hv8 (by omega) hb (by omega) (fun _ => hab) zero_small zero_small (fun _ => ⟨rfl, rfl⟩), fun r hr => by simpa [holdsR, holdsB] using all_pts h1 r hr⟩
  · cases hx
theorem couple_ok {rows : List (List Int)} {ca cb : List Int} {a b vars : Nat} (hv1 : 1 ≤ vars) (hv8 : vars ≤ 8) (hb : b < vars) (hab : a < b) : ∀ x ∈ coupleE rows ca cb a b, chk x vars = 0 ∧ ∀ r ∈ rows, holdsR x r = true := by
  intro x hx
  cases h1 : (ptsL rows a b).all (fun p => decide (p.1 = p.2)) with
  | true =>
    unfold coupleE at hx
    rw [if_pos h1, List.mem_singleton] at hx
    subst hx
    exact ⟨chk_two (by omega) hv1 hv8 (by omega) hb (by omega) (fun _ => hab) zero_small zero_small (fun _ => ⟨rfl, rfl⟩), fun r hr => by simpa [holdsR, holdsB] using all_pts h1 r hr⟩
  | false =>
    rw [couple_eq h1] at hx
    rcases List.mem_append.1 hx with hx | hx
    · exact order_ok hv1 hv8 hb hab x hx
    · split at hx
      · cases hx
      · cases h2 : linE (setD (ptsL rows a b)) a b with
        | some y =>
          rw [h2] at hx
          simp only [List.mem_singleton] at hx
          subst hx
          obtain ⟨K, M, rfl, hK, hM, hall⟩ := linE_some h2
          refine ⟨chk_two (by omega) hv1 hv8 (by omega) hb (by omega) (by omega) hK hM (fun h => absurd rfl h), fun r hr => ?_⟩
          have := hall (r.getD a 0, r.getD b 0) (mem_setD.2 (List.mem_map.2 ⟨r, hr, rfl⟩))
          simpa [holdsR, holdsB] using this
        | none =>
          rw [h2] at hx
          simp only at hx
          cases h3 : linE (swapL (setD (ptsL rows a b))) b a with
          | some y =>
            rw [h3] at hx
            simp only [List.mem_singleton] at hx
            subst hx
            obtain ⟨K, M, rfl, hK, hM, hall⟩ := linE_some h3
            refine ⟨chk_two (by omega) hv1 hv8 hb (by omega) (by omega) (by omega) hK hM (fun h => absurd rfl h), fun r hr => ?_⟩
            have := hall (r.getD b 0, r.getD a 0) (List.mem_map.2 ⟨(r.getD a 0, r.getD b 0), mem_setD.2 (List.mem_map.2 ⟨r, hr, rfl⟩), rfl⟩)
            simpa [holdsR, holdsB] using this
          | none =>
            rw [h3] at hx
            simp at hx
theorem claims_ok {rows : List (List Int)} {vars : Nat} (hv1 : 1 ≤ vars) (hv8 : vars ≤ 8) (hok : Okr rows vars) (support : Int) : ∀ x ∈ claimsE rows vars support, chk x vars = 0 ∧ ∀ r ∈ rows, holdsR x r = true := by
  intro x hx
  by_cases hs : (rows.length : Int) = 0 ∨ (rows.length : Int) < support
  · unfold claimsE at hx
    rw [if_pos hs] at hx
    cases hx
  · rw [claimsE_eq hs] at hx
    have hpos : 0 < rows.length := by omega
    rcases List.mem_append.1 hx with hx | hx
    · obtain ⟨a, ha, hx⟩ := List.mem_flatMap.1 hx
      rw [List.mem_range] at ha
      obtain ⟨h1, h2, h3, h4⟩ := alone_ok (facts_lt rows a) (facts_small hok.small a) (facts_pos hpos a) hv1 hv8 ha x hx
      refine ⟨h1, fun r hr => ?_⟩
      unfold holdsR
      rw [h2]
      exact h4 _ (facts_mem.2 (List.mem_map.2 ⟨r, hr, rfl⟩)) _
    · obtain ⟨a, ha, hx⟩ := List.mem_flatMap.1 hx
      rw [List.mem_range] at ha
      obtain ⟨b, hb, hx⟩ := List.mem_flatMap.1 hx
      have hb2 : a < b ∧ b < vars := by
        obtain ⟨j, hj, rfl⟩ := List.getElem_of_mem hb
        simp at hj ⊢
        omega
      unfold pairE at hx
      split at hx
      · exact couple_ok hv1 hv8 hb2.2 hb2.1 x hx
      · cases hx
end Go.Proofs.YtgbgddmbooaddaaGreatDoor

namespace Go.Proofs.YtgbgddmbooaddaaGreatDoor
open Go.RowKit


/-- A table as the laws have it. -/
theorem mined_tbl {w : World} {bm vars : Nat} {rv : Value} {new : List (Value × List Int)} {rows : List (List Int)} (hnew : new.map (·.2) = rows) (hok : Okr rows vars) (hmax : rows.length ≤ 500) (hb : w.heap[bm]? = some (.cells #[.int .i64 (vars : Int), rv] 94)) (hr : Rw.ok w (minerRw rv new)) (hs : ∀ r ∈ rowsR new, r.ok w) : Tbl w bm vars rv new :=
  Tbl.of hb hr hs (fun p hp => (hok p.2 (hnew ▸ List.mem_map.2 ⟨p, hp, rfl⟩)).1) (by have := congrArg List.length hnew; rw [List.length_map] at this; omega) (fun p hp => (hok p.2 (hnew ▸ List.mem_map.2 ⟨p, hp, rfl⟩)).2)
theorem claimsRw_open {w : World} {v : Value} {l : List (Value × Inv)} (h : Rw.ok w (claimsRw v l)) : ∃ ad cap b, v = .slice ad l.length cap ∧ l.length ≤ cap ∧ (∀ i, i < l.length → ad = some ⟨b, 0, none⟩) ∧ ∀ w', Rw.ok w' (claimsRw v l) → ∀ i (hi : i < l.length) j u, (cellsI l[i])[j]? = some u → w'.cell? ((⟨b, 0 + i * 6, none⟩ : Addr).add j) = some u := by
  obtain ⟨ad, cap, b, h1, h2, h3, h4⟩ := Rw.open h
  have key : ∀ i (hi : i < l.length) j u, (cellsI l[i])[j]? = some u → ((l.map cellsI).flatten)[i * 6 + j]? = some u := fun i hi j u hu => flatN _ (cells6 l) i (cellsI l[i]) (by simp [hi]) j u hu
  refine ⟨ad, cap, b, h1, h2, fun i hi => (h4 w h _ _ (key i hi 0 _ rfl)).1, fun w' hw' i hi j u hu => ?_⟩
  rw [add_at, Nat.zero_add]
  exact (h4 w' hw' _ _ (key i hi j u hu)).2
theorem chk_set {x : Inv} {vars : Int} (h : chk x vars = 0) : x.set.length ≤ 4611686018427387904 := by
  obtain ⟨_, _, _, _, h5, h6⟩ := chk_zero h
  by_cases hk : x.kind = 2
  · have := (numE_zero h5).2.2.2.1 (by simp [hasSB, hk])
    omega
  · simp only [sameB, bareI, hasSB, hk, decide_false, Bool.false_eq_true, if_false, Bool.and_eq_true, decide_eq_true_eq] at h6
    rw [h6.2]
    simp
end Go.Proofs.YtgbgddmbooaddaaGreatDoor

namespace Go.Proofs.YtgbgddmbooaddaaGreatDoor
open Go.RowKit


section
variable {P : Program} {n : Nat} {e : Env} {C : World → Prop} {d : Option Tmp} {t : TypeId} {p : String} {af : Array Edge} {g : Option (Nat × Bool)}
end
/-- The least and the greatest value of a column. -/
structure BZ where
  k : Nat
  lo : Int
  hi : Int
structure BZ.inv (col : List Int) (z : BZ) : Prop where
  k : z.k ≤ col.length
  lo : z.lo ∈ col
  hi : z.hi ∈ col
  all : ∀ y ∈ col.take z.k, z.lo ≤ y ∧ y ≤ z.hi
theorem BZ.next {col : List Int} {z : BZ} (h : z.inv col) (hk : z.k < col.length) : BZ.inv col ⟨z.k + 1, if col.getD z.k 0 < z.lo then col.getD z.k 0 else z.lo, if col.getD z.k 0 > z.hi then col.getD z.k 0 else z.hi⟩ := by
  have hy : col.getD z.k 0 ∈ col := getD_mem hk
  have he : col[z.k] = col.getD z.k 0 := by simp [List.getD, hk]
  refine ⟨hk, ?_, ?_, fun y hy => ?_⟩
  · simp only; split
    · exact hy
    · exact h.lo
  · simp only; split
    · exact hy
    · exact h.hi
  · simp only at hy ⊢
    rw [List.take_succ_eq_append_getElem hk, List.mem_append, List.mem_singleton, he] at hy
    rcases hy with hy | hy
    · have := h.all y hy
      constructor <;> split <;> omega
    · subst hy
      constructor <;> split <;> omega
theorem BZ.done {rows : List (List Int)} {a : Nat} {z : BZ} (h : z.inv (colL rows a)) (hk : z.k = (colL rows a).length) : z.lo = loE (factsE rows a) ∧ z.hi = hiE (factsE rows a) := by
  have hall := h.all
  rw [hk, List.take_length] at hall
  have hA := facts_lt rows a
  have h1 : z.lo ∈ factsE rows a := facts_mem.2 h.lo
  have h2 : z.hi ∈ factsE rows a := facts_mem.2 h.hi
  have h0 : 0 < (factsE rows a).length := List.length_pos_of_mem h1
  have b1 := asc_bounds hA h1
  have b2 := asc_bounds hA h2
  have c1 := hall _ (facts_mem.1 (lo_mem h0))
  have c2 := hall _ (facts_mem.1 (hi_mem h0))
  omega


end Go.Proofs.YtgbgddmbooaddaaGreatDoor

namespace Go.Proofs.YtgbgddmbooaddaaGreatDoor
open Go.RowKit

theorem map_same {α β : Type} {l m : List α} (f : α → β) (h : ∀ x, x ∈ l ↔ x ∈ m) : ∀ y, y ∈ l.map f ↔ y ∈ m.map f := fun y => by
  constructor
  · intro hy; obtain ⟨x, hx, rfl⟩ := List.mem_map.1 hy; exact List.mem_map.2 ⟨x, (h x).1 hx, rfl⟩
  · intro hy; obtain ⟨x, hx, rfl⟩ := List.mem_map.1 hy; exact List.mem_map.2 ⟨x, (h x).2 hx, rfl⟩
/-- When there is a linear claim: two first values, and all points on one line with plain numbers. -/
def OnLine (P : List (Int × Int)) (K M : Int) : Prop := smallB K = true ∧ smallB M = true ∧ ∀ r ∈ P, r.2 = K * r.1 + M
theorem linE_of {P : List (Int × Int)} {a b K M : Int} (h : OnLine P K M) (h2 : ∃ p ∈ P, ∃ q ∈ P, p.1 ≠ q.1) : linE P a b = some ⟨11, a, b, K, M, []⟩ := by
  obtain ⟨hK, hM, hall⟩ := h
  obtain ⟨p, hp, q, hq, hpq⟩ := h2
  have hpos : 0 < P.length := List.length_pos_of_mem hp
  have h0 := getD0_mem hpos
  have e0 := hall _ h0
  have hex : ∃ q ∈ P, decide (q.1 ≠ (P.getD 0 (0, 0)).1) = true := by
    by_cases h1 : p.1 = (P.getD 0 (0, 0)).1
    · exact ⟨q, hq, by simp only [decide_eq_true_eq]; rw [← h1]; exact fun e => hpq e.symm⟩
    · exact ⟨p, hp, by simpa using h1⟩
  obtain ⟨s, hs⟩ : ∃ s, P.find? (fun q => decide (q.1 ≠ (P.getD 0 (0, 0)).1)) = some s := by
    obtain ⟨q, hq, hd⟩ := hex
    cases hf : P.find? (fun q => decide (q.1 ≠ (P.getD 0 (0, 0)).1)) with
    | none => rw [List.find?_eq_none] at hf; exact absurd hd (hf q hq)
    | some s => exact ⟨s, rfl⟩
  have hsm := List.mem_of_find?_eq_some hs
  have hsd : s.1 ≠ (P.getD 0 (0, 0)).1 := by simpa using List.find?_some hs
  have es := hall _ hsm
  unfold linE
  rw [hs]
  show linT _ P a b s = _
  have hd : s.1 - (P.getD 0 (0, 0)).1 ≠ 0 := by omega
  have hdiff : s.2 - (P.getD 0 (0, 0)).2 = K * (s.1 - (P.getD 0 (0, 0)).1) := by rw [es, e0, Int.mul_sub]; omega
  have hmod : (s.2 - (P.getD 0 (0, 0)).2).tmod (s.1 - (P.getD 0 (0, 0)).1) = 0 := by rw [hdiff]; exact Int.mul_tmod_left _ _
  have hdiv : (s.2 - (P.getD 0 (0, 0)).2).tdiv (s.1 - (P.getD 0 (0, 0)).1) = K := by rw [hdiff]; exact Int.mul_tdiv_cancel _ hd
  have hm : (P.getD 0 (0, 0)).2 - K * (P.getD 0 (0, 0)).1 = M := by omega
  unfold linT
  rw [if_neg (not_not_intro hmod), hdiv, hm, if_neg (by rw [hK]; decide), if_neg (by rw [hM]; decide), if_pos]
  rw [List.all_eq_true]
  intro r hr
  simpa using hall r hr
theorem linE_two {P : List (Int × Int)} {a b : Int} {x : Inv} (h : linE P a b = some x) : ∃ p ∈ P, ∃ q ∈ P, p.1 ≠ q.1 := by
  unfold linE at h
  rw [Option.bind_eq_some_iff] at h
  obtain ⟨q, hq, _⟩ := h
  have hqm := List.mem_of_find?_eq_some hq
  have hqd : q.1 ≠ (P.getD 0 (0, 0)).1 := by simpa using List.find?_some hq
  exact ⟨q, hqm, _, getD0_mem (List.length_pos_of_mem hqm), hqd⟩
theorem linE_same {P P' : List (Int × Int)} (h : ∀ r, r ∈ P ↔ r ∈ P') (a b : Int) : linE P a b = linE P' a b := by
  have key : ∀ {P P' : List (Int × Int)}, (∀ r, r ∈ P ↔ r ∈ P') → ∀ x, linE P a b = some x → linE P' a b = some x := fun h x hx => by
    obtain ⟨p, hp, q, hq, hpq⟩ := linE_two hx
    obtain ⟨K, M, rfl, hK, hM, hall⟩ := linE_some hx
    exact linE_of ⟨hK, hM, fun r hr => hall r ((h r).2 hr)⟩ ⟨p, (h p).1 hp, q, (h q).1 hq, hpq⟩
  cases h1 : linE P a b with
  | some x => exact (key h x h1).symm
  | none =>
    cases h2 : linE P' a b with
    | none => rfl
    | some x => rw [key (fun r => (h r).symm) x h2] at h1; cases h1
end Go.Proofs.YtgbgddmbooaddaaGreatDoor

namespace Go.Proofs.YtgbgddmbooaddaaGreatDoor
open Go.RowKit


theorem yl_bneq {P : Program} {C : World → Prop} {n : Nat} {e : Env} {d : Option Tmp} {t : TypeId} {p : String} {af : Array Edge} {g : Option (Nat × Bool)} {x y : Operand} {a b : Bool} {tx ty : TypeId} (hu : P.underlying tx = some .bool) (hx : eev e x = some (.bool a)) (hy : eev e y = some (.bool b)) : Yl P C n e ⟨d, .binOp .neq tx x y ty, t, p, af, g⟩ (.bool (a != b)) :=
  Yl.val fun ac w hf _ => by
    have e1 : ∀ k : Nat, (Op.equalIn (k + 1) tx (.bool a) (.bool b)).run P w = .ok (a == b) w := fun k => by simp [Op.equalIn, run_underlying hu]
    have f1 : (binOp .neq tx (.bool a) (.bool b)).run P w = .ok (.bool (!(a == b))) w := by
      simp only [binOp]
      simp [Op.equal, Op.maxDepth, e1 9999]
    simp only [execOp, hf.ev hx, hf.ev hy]
    simp [eqGuard, f1, bne]

end Go.Proofs.YtgbgddmbooaddaaGreatDoor

namespace Go.Proofs.YtgbgddmbooaddaaGreatDoor
open Go.RowKit

section
variable {P : Program} {n : Nat} {e : Env} {C S : World → Prop} {Q : Exit → Act → World → Prop} {ops : Array Oper} {rest : List Oper}
/-- The guard lets by. -/
theorem H.unguard {d : Option Tmp} {op : Op} {t : TypeId} {p : String} {af : Array Edge} {gd : Nat × Bool} {g : Bool} (hw : Wn ops n e ⟨d, op, t, p, af, some gd⟩ g) (hg : g = true) (h : H n e C (wpList P ops Q (⟨d, op, t, p, af, none⟩ :: rest))) : H n e C (wpList P ops Q (⟨d, op, t, p, af, some gd⟩ :: rest)) := by
  intro a w hf hc
  subst hg
  have h1 := h a w hf hc
  unfold wpList at h1 ⊢
  have e1 : Region.wanted (⟨d, op, t, p, af, some gd⟩ : Oper) (yielded ops a.tmps) = true := hw a hf
  have e2 : Region.wanted (⟨d, op, t, p, af, none⟩ : Oper) (yielded ops a.tmps) = true := by simp [Region.wanted]
  rw [if_pos e2] at h1
  rw [if_pos e1]
  exact h1
variable {d : Option Tmp} {t : TypeId} {p : String} {af : Array Edge} {g : Option (Nat × Bool)}
theorem ye_slfrom {x lo : Operand} {ty el sz len cap : Nat} {ad : Option Addr} {k1 : IntKind} {a : Int} (i : Nat) (hu : P.underlying ty = some (.slice el)) (hsz : ∀ w, (sizeOf el).run P w = .ok sz w) (hx : eev e x = some (.slice ad len cap)) (hlo : eev e lo = some (.int k1 a)) (ha : a = (i : Int)) (hi : i ≤ len) (_hlc : len ≤ cap) :
    Ye P S n e ⟨d, .slice ty x (some lo) none none, t, p, af, g⟩ (.slice (if cap = i then ad else ad.map (·.add (i * sz))) (len - i) (cap - i)) :=
  fun ac w hf _ => by
    subst ha
    cases ad <;> simp [execOp, hf.ev hx, hf.ev hlo, Instr.sliceAt, Instr.slice, run_underlying hu, Instr.sliceBounds, Instr.sliceBound, asIntOf, hsz w, hi, Result.andThen] <;> split <;> simp_all
theorem ye_slto {x hi : Operand} {ty el sz len cap : Nat} {ad : Option Addr} {k1 : IntKind} {a : Int} (i : Nat) (hu : P.underlying ty = some (.slice el)) (hsz : ∀ w, (sizeOf el).run P w = .ok sz w) (hx : eev e x = some (.slice ad len cap)) (hhi : eev e hi = some (.int k1 a)) (ha : a = (i : Int)) (hic : i ≤ cap) :
    Ye P S n e ⟨d, .slice ty x none (some hi) none, t, p, af, g⟩ (.slice (if cap = 0 then ad else ad.map (·.add (0 * sz))) i cap) :=
  fun ac w hf _ => by
    subst ha
    cases ad <;> simp [execOp, hf.ev hx, hf.ev hhi, Instr.sliceAt, Instr.slice, run_underlying hu, Instr.sliceBounds, Instr.sliceBound, asIntOf, hsz w, hic, Result.andThen] <;> split <;> simp_all
end
end Go.Proofs.YtgbgddmbooaddaaGreatDoor

namespace Go.Proofs.YtgbgddmbooaddaaGreatDoor
open Go.RowKit


section
variable {P : Program} {n : Nat} {e : Env} {S : World → Prop} {d : Option Tmp} {t : TypeId} {p : String} {af : Array Edge} {g : Option (Nat × Bool)}
end
theorem sl_news {w : World} {ad : Option Addr} {n cap : Nat} {xs : List Value} (h : IsSl w (.slice ad n cap) xs) : ∀ j u, xs[j]? = some u → ∃ a, ad = some a ∧ w.cell? (a.add j) = some u := fun j u hj => by
  obtain ⟨ad', cap', b, o, h1, _, h3⟩ := h
  simp only [Value.slice.injEq] at h1
  obtain ⟨rfl, _, _⟩ := h1
  obtain ⟨k1, k2⟩ := h3 j u hj
  exact ⟨_, k1, by rw [add_at]; exact k2⟩
theorem sl_from {w : World} {ad : Option Addr} {n cap : Nat} {xs : List Value} (h : IsSl w (.slice ad n cap) xs) (i : Nat) (hi : i ≤ xs.length) : IsSl w (.slice (if cap = i then ad else ad.map (·.add (i * 1))) (n - i) (cap - i)) (xs.drop i) := by
  obtain ⟨ad', cap', b, o, h1, h2, h3⟩ := h
  simp only [Value.slice.injEq] at h1
  obtain ⟨rfl, rfl, rfl⟩ := h1
  refine ⟨_, _, b, o + i, by rw [List.length_drop], by rw [List.length_drop]; omega, fun j x hj => ?_⟩
  rw [List.getElem?_drop] at hj
  obtain ⟨k1, k2⟩ := h3 (i + j) x hj
  have hlt : i + j < xs.length := (List.getElem?_eq_some_iff.1 hj).1
  refine ⟨?_, by rw [Nat.add_assoc]; exact k2⟩
  rw [if_neg (by omega), k1]
  simp [add_at]
theorem sl_to {w : World} {ad : Option Addr} {n cap : Nat} {xs : List Value} (h : IsSl w (.slice ad n cap) xs) (i : Nat) (hi : i ≤ xs.length) : IsSl w (.slice (if cap = 0 then ad else ad.map (·.add (0 * 1))) i cap) (xs.take i) := by
  obtain ⟨ad', cap', b, o, h1, h2, h3⟩ := h
  simp only [Value.slice.injEq] at h1
  obtain ⟨rfl, rfl, rfl⟩ := h1
  refine ⟨_, _, b, o, by rw [List.length_take, Nat.min_eq_left hi], by rw [List.length_take]; omega, fun j x hj => ?_⟩
  rw [List.getElem?_take] at hj
  split at hj
  · obtain ⟨k1, k2⟩ := h3 j x hj
    refine ⟨?_, k2⟩
    rw [k1]
    simp [add_at]
  · cases hj
theorem claims_sets {ls : List (Value × Inv)} {rows : List (List Int)} {vars : Nat} (hv1 : 1 ≤ vars) (hv8 : vars ≤ 8) (hok : Okr rows vars) {support : Int} (h : ls.map (·.2) = claimsE rows vars support) : ∀ p ∈ ls, p.2.set.length ≤ 4611686018427387904 := fun p hp =>
  chk_set (claims_ok hv1 hv8 hok support p.2 (h ▸ List.mem_map.2 ⟨p, hp, rfl⟩)).1
theorem claims_small {rows : List (List Int)} {vars : Nat} (hv8 : vars ≤ 8) (support : Int) : (claimsE rows vars support).length ≤ 1000 := by
  unfold claimsE
  split
  · simp
  · have key : ∀ {α : Type} (l : List α) (f : α → List Inv) (k : Nat), (∀ x ∈ l, (f x).length ≤ k) → (l.flatMap f).length ≤ k * l.length := by
      intro α l f k h
      induction l with
      | nil => simp
      | cons a l ih =>
        rw [List.flatMap_cons, List.length_append, List.length_cons, Nat.mul_succ]
        have h1 := h a (by simp)
        have h2 := ih fun x hx => h x (List.mem_cons_of_mem _ hx)
        omega
    rw [List.length_append]
    have h1 := key (List.range vars) (fun a => aloneE (factsE rows a) a) 6 (fun a _ => alone_len _ _)
    have h2 := key (pairsL vars) (fun p => if (factsE rows p.1).length > 1 ∧ (factsE rows p.2).length > 1 then coupleE rows (factsE rows p.1) (factsE rows p.2) p.1 p.2 else []) 2 (fun p _ => by
      split
      · exact couple_len _ _ _ _ _
      · simp)
    have h3 : (pairsL vars).length ≤ 64 := by
      have : vars = 0 ∨ vars = 1 ∨ vars = 2 ∨ vars = 3 ∨ vars = 4 ∨ vars = 5 ∨ vars = 6 ∨ vars = 7 ∨ vars = 8 := by omega
      rcases this with rfl | rfl | rfl | rfl | rfl | rfl | rfl | rfl | rfl <;> decide
    rw [List.length_range] at h1
    omega
theorem sameAll_refl (l : List Inv) : sameAllB l l = true := by
  induction l with
  | nil => rfl
  | cons x l ih => simp [sameAllB, sameB_refl, ih]

end Go.Proofs.YtgbgddmbooaddaaGreatDoor

namespace Go.Proofs.YtgbgddmbooaddaaGreatDoor
open Go.RowKit


/-- Rows of one length, with plain numbers. -/
structure RTbl (w : World) (vars : Nat) (rv : Value) (rows : List (Value × List Int)) : Prop where
  isr : IsRows w rv rows
  len : ∀ p ∈ rows, p.2.length = vars
  max : rows.length ≤ 1000000
  small : ∀ p ∈ rows, ∀ x ∈ p.2, smallB x = true
theorem RTbl.ext {w w' : World} {vars : Nat} {rv : Value} {rows : List (Value × List Int)} (h : RTbl w vars rv rows) (k : Ext w w') : RTbl w' vars rv rows := ⟨h.isr.ext k, h.len, h.max, h.small⟩


theorem all_one {rows : List (Value × List Int)} {f : List Int → Bool} {k : Nat} (hlt : k < rows.length) (h : f rows[k].2 = false) : (rowsE rows).all f = false := by
  rw [List.all_eq_false]
  exact ⟨rows[k].2, List.mem_map.2 ⟨_, List.getElem_mem hlt, rfl⟩, by rw [h]; decide⟩
theorem all_step {rows : List (Value × List Int)} {f : List Int → Bool} {k : Nat} (hlt : k < rows.length) (h0 : ((rowsE rows).take k).all f = true) (h : f rows[k].2 = true) : ((rowsE rows).take (k + 1)).all f = true := by
  rw [all_take (by simpa using hlt), h0]
  simpa using h

set_option maxRecDepth 100000 in
theorem refAll_any (vars : Nat) (rv : Value) (rows : List (Value × List Int)) (w0 : World) (ht : RTbl w0 vars rv rows) (x : Inv) (sv : Value) (hl : x.set.length ≤ 4611686018427387904) (hv : IsInts w0 sv x.set) (hch : chk x vars = 0) : Calls Tryz.prog 92 #[.agg [.int .u8 x.kind, .int .i64 x.a, .int .i64 x.b, .int .i64 x.k, .int .i64 x.m, sv].toArray, rv] w0 fun e w' => e = .returned (.bool ((rowsE rows).all (holdsR x))) ∧ Ext w0 w' := by
  obtain ⟨adr, capr, br, orr, rfl, hcapr, hsr⟩ := rows_open ht.isr
  have hmax := ht.max
  obtain ⟨ad, cap, b, o, rfl, hcap, hs⟩ := ints_open hv
  refine enterA 19 Tryz.func92 rfl Tryz.ntmps92 rfl (Hp w0 [] [] []) (Hp.init _) ?_
  refine H.seq ?_
  refine H.region ?_
  refine H.boxA rfl (by decide) (fun b2 hb2 => ?_)
  refine H.q (yl_assign rfl) rfl rfl (by decide) ?_
  refine HN.done ?_
  refine HN.keep [(1, _), (2, _)] ⟨rfl, rfl, trivial⟩ ?_
  refine HN.then ?_
  refine H.seq ?_
  refine H.seq ?_
  refine H.region ?_
  refine H.q (yl_assign rfl) rfl rfl (by decide) ?_
  refine HN.done ?_
  refine HN.keep [(1, _), (2, _), (5, _)] ⟨rfl, rfl, rfl, trivial⟩ ?_
  refine HN.then ?_
  refine H.block ?_
  refine H.loop (fun k : Nat => [(1, .slice adr rows.length capr), (2, .pointer (some ⟨b2, 0, none⟩)), (5, .int .i64 (k : Int))]) (fun k => k ≤ rows.length ∧ ((rowsE rows).take k).all (holdsR x) = true) (fun _ => Hp w0 [(b2, ex (.cells #[.int .u8 x.kind, .int .i64 x.a, .int .i64 x.b, .int .i64 x.k, .int .i64 x.m, .slice ad x.set.length cap] 25))] [] []) (fun k => rows.length - k) 0 ⟨Nat.zero_le _, rfl⟩ ⟨rfl, rfl, rfl, trivial⟩ (fun w hw => hw) (fun k hI => ?_)
  obtain ⟨hk, hI⟩ := hI
  refine H.seq ?_
  refine H.seq ?_
  refine H.region ?_
  refine H.q (yl_move rfl) rfl rfl (by decide) ?_
  refine H.q (yl_move rfl) rfl rfl (by decide) ?_
  refine H.q (yl_len rfl Tryz.underlying37 rfl) rfl rfl (by decide) ?_
  refine H.q (yl_lss rfl rfl) rfl rfl (by decide) ?_
  refine HN.done ?_
  refine HN.keep [(1, _), (2, _), (5, _), (9, _)] ⟨rfl, rfl, rfl, rfl, trivial⟩ ?_
  refine HN.then ?_
  refine H.cond _ rfl (fun t0 => ?_) (fun t0 => ?_)
  · simp only [decide_eq_true_eq] at t0
    have hlt : k < rows.length := by omega
    refine H.keep [(1, _), (2, _), (5, _)] ⟨rfl, rfl, rfl, trivial⟩ ?_
    refine HN.skip ?_
    refine HN.then ?_
    refine H.seq ?_
    refine H.block ?_
    refine H.seq ?_
    refine H.regionQ Tryz.mixed (by kernel_rfl) (stab_hp _ _ _ _) ?_
    refine G.q (yl_loadAgg _ Tryz.isAgg25 Tryz.sizeOf25 rfl (fun w hw => cells_of_blk (hw.blk 0 rfl)) rfl) rfl rfl (by decide) ?_
    refine G.q (yl_move rfl) rfl rfl (by decide) ?_
    refine G.q (yl_move rfl) rfl rfl (by decide) ?_
    refine G.q (yl_ix k Tryz.underlying37 Tryz.sizeOf23 (hsr k hlt).1 rfl rfl rfl hlt) rfl rfl (by decide) ?_
    refine G.q (yl_load Tryz.isAgg23 rfl (fun w hw => cell_ext hw.ext (hsr k hlt).2.1)) rfl rfl (by decide) ?_
    refine G.q (yl_call (xs := [.tmp 12, .tmp 16]) Tryz.call55 (stab_hp _ _ _ _) rfl (fun w hw => refHold_any x (.slice ad x.set.length cap) w hl (hv.ext hw.ext) rows[k].2 rows[k].1 (by rw [ht.len _ (List.getElem_mem hlt)]; have h9 := chk_zero hch; omega) ((hsr k hlt).2.2.ext hw.ext) (by rw [ht.len _ (List.getElem_mem hlt)]; exact hch) (allSmall_of (ht.small _ (List.getElem_mem hlt))))) rfl rfl (by decide) ?_
    refine G.q (yl_not rfl) rfl rfl (by decide) ?_
    refine HN.doneG ?_
    refine HN.keep [(1, _), (2, _), (5, _), (18, _)] ⟨rfl, rfl, rfl, rfl, trivial⟩ ?_
    refine HN.then ?_
    refine H.cond _ rfl (fun t1 => ?_) (fun t1 => ?_)
    · replace t1 : holdsR x rows[k].2 = false := by simpa using t1
      refine H.keep [] trivial ?_
      refine H.seq ?_
      refine H.region ?_
      refine H.q (yl_assign rfl) rfl rfl (by decide) ?_
      refine HN.done ?_
      refine HN.keep [(4, _)] ⟨rfl, trivial⟩ ?_
      refine HN.then ?_
      refine HR.ret ?_
      refine HR.block ?_
      refine HR.then ?_
      refine HR.then ?_
      refine HR.block ?_
      refine HR.then ?_
      refine HR.ret1 _ Tryz.results92 rfl (fun w hw => ?_)
      exact ⟨by rw [all_one hlt t1], hw.ext⟩
    · replace t1 : holdsR x rows[k].2 = true := by simpa using t1
      refine H.keep [(1, _), (2, _), (5, _)] ⟨rfl, rfl, rfl, trivial⟩ ?_
      refine HN.skip ?_
      refine HN.block ?_
      refine HN.then ?_
      refine H.region ?_
      refine H.q (yl_move rfl) rfl rfl (by decide) ?_
      refine H.q (yl_add rfl rfl ((k : Int) + 1) rfl (by omega)) rfl rfl (by decide) ?_
      refine H.q (yl_assign rfl) rfl rfl (by decide) ?_
      refine HN.done ?_
      refine HN.keep [(1, _), (2, _), (5, _)] ⟨rfl, rfl, rfl, trivial⟩ ?_
      refine HN.then ?_
      exact H.at (k + 1) ⟨⟨hlt, all_step hlt hI t1⟩, by omega⟩ ⟨rfl, rfl, rfl, trivial⟩ (fun w hw => hw)
  · simp only [decide_eq_false_iff_not] at t0
    have hkl : k = rows.length := by omega
    subst hkl
    refine H.keep [] trivial ?_
    refine HX.exit ?_
    refine HX.then ?_
    refine HX.then ?_
    refine HX.hit ?_
    refine HN.then ?_
    refine H.seq ?_
    refine H.region ?_
    refine H.q (yl_assign rfl) rfl rfl (by decide) ?_
    refine HN.done ?_
    refine HN.keep [(4, _)] ⟨rfl, trivial⟩ ?_
    refine HN.then ?_
    refine HR.ret ?_
    refine HR.ret1 _ Tryz.results92 rfl (fun w hw => ?_)
    rw [show rows.length = (rowsE rows).length by simp, List.take_length] at hI
    exact ⟨by rw [hI], hw.ext⟩

set_option maxRecDepth 100000 in
theorem refFollows_any (vars : Nat) (rv : Value) (rows : List (Value × List Int)) (w0 : World) (ht : RTbl w0 vars rv rows) (x : Inv) (sv : Value) (hl : x.set.length ≤ 4611686018427387904) (hv : IsInts w0 sv x.set) : Calls Tryz.prog 21 #[.agg [.int .u8 x.kind, .int .i64 x.a, .int .i64 x.b, .int .i64 x.k, .int .i64 x.m, sv].toArray, .int .i64 (vars : Int), rv] w0 fun e w' => e = .returned (.tuple #[.bool (followE x vars (rowsE rows)).1, .int .i64 (followE x vars (rowsE rows)).2]) ∧ Ext w0 w' := by
  obtain ⟨adr, capr, br, orr, rfl, hcapr, hsr⟩ := rows_open ht.isr
  have hmax := ht.max
  obtain ⟨ad, cap, b, o, rfl, hcap, hs⟩ := ints_open hv
  refine enterA 29 Tryz.func21 rfl Tryz.ntmps21 rfl (Hp w0 [] [] []) (Hp.init _) ?_
  refine H.seq ?_
  refine H.region ?_
  refine H.boxA rfl (by decide) (fun b3 hb3 => ?_)
  refine H.q (yl_assign rfl) rfl rfl (by decide) ?_
  refine H.q (yl_assign rfl) rfl rfl (by decide) ?_
  refine HN.done ?_
  refine HN.keep [(1, _), (2, _), (3, _)] ⟨rfl, rfl, rfl, trivial⟩ ?_
  refine HN.then ?_
  refine H.seq ?_
  refine H.region ?_
  refine H.q (yl_loadAgg _ Tryz.isAgg25 Tryz.sizeOf25 rfl (fun w hw => cells_of_blk (hw.blk 0 rfl)) rfl) rfl rfl (by decide) ?_
  refine H.q (yl_move rfl) rfl rfl (by decide) ?_
  refine H.q (yl_call (xs := [.tmp 10, .tmp 11]) Tryz.call30 (stab_hp _ _ _ _) rfl (fun w hw => refCheck_any (vars : Int) x (.slice ad x.set.length cap) w hl (hv.ext hw.ext))) rfl rfl (by decide) ?_
  refine H.q (yl_assign rfl) rfl rfl (by decide) ?_
  refine HN.done ?_
  refine HN.keep [(2, _), (3, _), (8, _)] ⟨rfl, rfl, rfl, trivial⟩ ?_
  refine HN.then ?_
  refine H.seq ?_
  refine H.seq ?_
  refine H.region ?_
  refine H.q (yl_move rfl) rfl rfl (by decide) ?_
  refine H.q (yl_neq rfl rfl) rfl rfl (by decide) ?_
  refine HN.done ?_
  refine HN.keep [(2, _), (3, _), (8, _), (14, _)] ⟨rfl, rfl, rfl, rfl, trivial⟩ ?_
  refine HN.then ?_
  refine H.cond _ rfl (fun t0 => ?_) (fun t0 => ?_)
  · simp only [decide_eq_true_eq] at t0
    refine H.keep [(8, _)] ⟨rfl, trivial⟩ ?_
    refine H.seq ?_
    refine H.region ?_
    refine H.q (yl_move rfl) rfl rfl (by decide) ?_
    refine H.q (yl_assign rfl) rfl rfl (by decide) ?_
    refine H.q (yl_assign rfl) rfl rfl (by decide) ?_
    refine HN.done ?_
    refine HN.keep [(6, _), (7, _)] ⟨rfl, rfl, trivial⟩ ?_
    refine HN.then ?_
    refine HR.ret ?_
    refine HR.then ?_
    refine HR.ret2 _ _ Tryz.results21 rfl rfl (fun w hw => ?_)
    refine ⟨?_, hw.ext⟩
    unfold followE
    rw [if_pos (by simpa using t0)]
  · replace t0 := of_decide_eq_false t0
    have hch : chk x vars = 0 := by simpa using t0
    refine H.keep [(2, _), (3, _)] ⟨rfl, rfl, trivial⟩ ?_
    refine HN.skip ?_
    refine HN.then ?_
    refine H.seq ?_
    refine H.seq ?_
    refine H.region ?_
    refine H.q (yl_assign rfl) rfl rfl (by decide) ?_
    refine HN.done ?_
    refine HN.keep [(2, _), (3, _), (9, _)] ⟨rfl, rfl, rfl, trivial⟩ ?_
    refine HN.then ?_
    refine H.block ?_
    refine H.loop (fun k : Nat => [(2, .slice adr rows.length capr), (3, .pointer (some ⟨b3, 0, none⟩)), (9, .int .i64 (k : Int))]) (fun k => k ≤ rows.length ∧ ((rowsE rows).take k).all (holdsR x) = true) (fun _ => Hp w0 [(b3, ex (.cells #[.int .u8 x.kind, .int .i64 x.a, .int .i64 x.b, .int .i64 x.k, .int .i64 x.m, .slice ad x.set.length cap] 25))] [] []) (fun k => rows.length - k) 0 ⟨Nat.zero_le _, rfl⟩ ⟨rfl, rfl, rfl, trivial⟩ (fun w hw => hw) (fun k hI => ?_)
    obtain ⟨hk, hI⟩ := hI
    refine H.seq ?_
    refine H.seq ?_
    refine H.region ?_
    refine H.q (yl_move rfl) rfl rfl (by decide) ?_
    refine H.q (yl_move rfl) rfl rfl (by decide) ?_
    refine H.q (yl_len rfl Tryz.underlying37 rfl) rfl rfl (by decide) ?_
    refine H.q (yl_lss rfl rfl) rfl rfl (by decide) ?_
    refine HN.done ?_
    refine HN.keep [(2, _), (3, _), (9, _), (19, _)] ⟨rfl, rfl, rfl, rfl, trivial⟩ ?_
    refine HN.then ?_
    refine H.cond _ rfl (fun t1 => ?_) (fun t1 => ?_)
    · simp only [decide_eq_true_eq] at t1
      have hlt : k < rows.length := by omega
      refine H.keep [(2, _), (3, _), (9, _)] ⟨rfl, rfl, rfl, trivial⟩ ?_
      refine HN.skip ?_
      refine HN.then ?_
      refine H.seq ?_
      refine H.block ?_
      refine H.seq ?_
      refine H.regionQ Tryz.mixed (by kernel_rfl) (stab_hp _ _ _ _) ?_
      refine G.q (yl_loadAgg _ Tryz.isAgg25 Tryz.sizeOf25 rfl (fun w hw => cells_of_blk (hw.blk 0 rfl)) rfl) rfl rfl (by decide) ?_
      refine G.q (yl_move rfl) rfl rfl (by decide) ?_
      refine G.q (yl_move rfl) rfl rfl (by decide) ?_
      refine G.q (yl_ix k Tryz.underlying37 Tryz.sizeOf23 (hsr k hlt).1 rfl rfl rfl hlt) rfl rfl (by decide) ?_
      refine G.q (yl_load Tryz.isAgg23 rfl (fun w hw => cell_ext hw.ext (hsr k hlt).2.1)) rfl rfl (by decide) ?_
      refine G.q (yl_call (xs := [.tmp 22, .tmp 26]) Tryz.call55 (stab_hp _ _ _ _) rfl (fun w hw => refHold_any x (.slice ad x.set.length cap) w hl (hv.ext hw.ext) rows[k].2 rows[k].1 (by rw [ht.len _ (List.getElem_mem hlt)]; have h9 := chk_zero hch; omega) ((hsr k hlt).2.2.ext hw.ext) (by rw [ht.len _ (List.getElem_mem hlt)]; exact hch) (allSmall_of (ht.small _ (List.getElem_mem hlt))))) rfl rfl (by decide) ?_
      refine G.q (yl_not rfl) rfl rfl (by decide) ?_
      refine HN.doneG ?_
      refine HN.keep [(2, _), (3, _), (9, _), (28, _)] ⟨rfl, rfl, rfl, rfl, trivial⟩ ?_
      refine HN.then ?_
      refine H.cond _ rfl (fun t2 => ?_) (fun t2 => ?_)
      · replace t2 : holdsR x rows[k].2 = false := by simpa using t2
        refine H.keep [] trivial ?_
        refine H.seq ?_
        refine H.region ?_
        refine H.q (yl_assign rfl) rfl rfl (by decide) ?_
        refine H.q (yl_assign rfl) rfl rfl (by decide) ?_
        refine HN.done ?_
        refine HN.keep [(6, _), (7, _)] ⟨rfl, rfl, trivial⟩ ?_
        refine HN.then ?_
        refine HR.ret ?_
        refine HR.block ?_
        refine HR.then ?_
        refine HR.then ?_
        refine HR.block ?_
        refine HR.then ?_
        refine HR.ret2 _ _ Tryz.results21 rfl rfl (fun w hw => ?_)
        refine ⟨?_, hw.ext⟩
        unfold followE
        rw [if_neg (not_not_intro hch), all_one hlt t2]
      · replace t2 : holdsR x rows[k].2 = true := by simpa using t2
        refine H.keep [(2, _), (3, _), (9, _)] ⟨rfl, rfl, rfl, trivial⟩ ?_
        refine HN.skip ?_
        refine HN.block ?_
        refine HN.then ?_
        refine H.region ?_
        refine H.q (yl_move rfl) rfl rfl (by decide) ?_
        refine H.q (yl_add rfl rfl ((k : Int) + 1) rfl (by omega)) rfl rfl (by decide) ?_
        refine H.q (yl_assign rfl) rfl rfl (by decide) ?_
        refine HN.done ?_
        refine HN.keep [(2, _), (3, _), (9, _)] ⟨rfl, rfl, rfl, trivial⟩ ?_
        refine HN.then ?_
        exact H.at (k + 1) ⟨⟨hlt, all_step hlt hI t2⟩, by omega⟩ ⟨rfl, rfl, rfl, trivial⟩ (fun w hw => hw)
    · simp only [decide_eq_false_iff_not] at t1
      have hkl : k = rows.length := by omega
      subst hkl
      refine H.keep [] trivial ?_
      refine HX.exit ?_
      refine HX.then ?_
      refine HX.then ?_
      refine HX.hit ?_
      refine HN.then ?_
      refine H.seq ?_
      refine H.region ?_
      refine H.q (yl_assign rfl) rfl rfl (by decide) ?_
      refine H.q (yl_assign rfl) rfl rfl (by decide) ?_
      refine HN.done ?_
      refine HN.keep [(6, _), (7, _)] ⟨rfl, rfl, trivial⟩ ?_
      refine HN.then ?_
      refine HR.ret ?_
      refine HR.ret2 _ _ Tryz.results21 rfl rfl (fun w hw => ?_)
      rw [show rows.length = (rowsE rows).length by simp, List.take_length] at hI
      refine ⟨?_, hw.ext⟩
      unfold followE
      rw [if_neg (not_not_intro hch), hI]

set_option maxRecDepth 100000 in
theorem refDivisor_any (a b : Int) (ha : 0 ≤ a) (hb : 0 ≤ b) (w0 : World) : Calls Tryz.prog 91 #[.int .i64 a, .int .i64 b] w0 fun e w' => e = .returned (.int .i64 (gcdE a b)) ∧ Ext w0 w' := by
  refine enterA 12 Tryz.func91 rfl Tryz.ntmps91 rfl (Hp w0 [] [] []) (Hp.init _) ?_
  refine H.seq ?_
  refine H.region ?_
  refine H.q (yl_assign rfl) rfl rfl (by decide) ?_
  refine HN.done ?_
  refine HN.keep [(0, _), (1, _)] ⟨rfl, rfl, trivial⟩ ?_
  refine HN.then ?_
  refine H.seq ?_
  refine H.block ?_
  refine H.loop (fun z : Int × Int => [(0, .int .i64 z.1), (1, .int .i64 z.2)]) (fun z => 0 ≤ z.1 ∧ 0 ≤ z.2 ∧ gcdE z.1 z.2 = gcdE a b) (fun _ => Hp w0 [] [] []) (fun z => z.2.toNat) (a, b) ⟨ha, hb, rfl⟩ ⟨rfl, rfl, trivial⟩ (fun w hw => hw) (fun z hz => ?_)
  refine H.seq ?_
  refine H.seq ?_
  refine H.region ?_
  refine H.q (yl_move rfl) rfl rfl (by decide) ?_
  refine H.q (yl_neq rfl rfl) rfl rfl (by decide) ?_
  refine HN.done ?_
  refine HN.keep [(0, _), (1, _), (6, _)] ⟨rfl, rfl, rfl, trivial⟩ ?_
  refine HN.then ?_
  refine H.cond _ rfl (fun t0 => ?_) (fun t0 => ?_)
  · simp only [decide_eq_true_eq] at t0
    obtain ⟨hz1, hz2, hz3⟩ := hz
    refine H.keep [(0, _), (1, _)] ⟨rfl, rfl, trivial⟩ ?_
    refine HN.skip ?_
    refine HN.then ?_
    refine H.block ?_
    refine H.regionQ Tryz.mixed (by kernel_rfl) (stab_hp _ _ _ _) ?_
    refine G.q (yl_move rfl) rfl rfl (by decide) ?_
    refine G.q (yl_move rfl) rfl rfl (by decide) ?_
    refine G.q (yl_move rfl) rfl rfl (by decide) ?_
    refine G.q (yl_rem rfl rfl t0) rfl rfl (by decide) ?_
    refine G.q (yl_assign rfl) rfl rfl (by decide) ?_
    refine G.q (yl_assign rfl) rfl rfl (by decide) ?_
    refine HN.doneG ?_
    refine HN.keep [(0, _), (1, _)] ⟨rfl, rfl, trivial⟩ ?_
    refine HN.block ?_
    refine HN.then ?_
    have hm : z.1.tmod z.2 = z.1 % z.2 := Int.tmod_eq_emod_of_nonneg hz1
    have h0 : 0 < z.2 := by omega
    have hm1 := Int.emod_nonneg z.1 t0
    have hm2 := Int.emod_lt_of_pos z.1 h0
    refine H.at (z.2, z.1.tmod z.2) ⟨⟨hz2, by rw [hm]; exact hm1, ?_⟩, by rw [hm]; simp only; omega⟩ ⟨rfl, rfl, trivial⟩ (fun w hw => hw)
    rw [← hz3, hm]
    unfold gcdE
    rw [Int.toNat_emod hz1 hz2, Nat.gcd_comm z.2.toNat, ← Nat.gcd_rec, Nat.gcd_comm]
  · replace t0 : z.2 = 0 := by simpa using t0
    obtain ⟨hz1, hz2, hz3⟩ := hz
    refine H.keep [(0, _)] ⟨rfl, trivial⟩ ?_
    refine HX.exit ?_
    refine HX.then ?_
    refine HX.then ?_
    refine HX.hit ?_
    refine HN.then ?_
    refine H.seq ?_
    refine H.region ?_
    refine H.q (yl_move rfl) rfl rfl (by decide) ?_
    refine H.q (yl_assign rfl) rfl rfl (by decide) ?_
    refine HN.done ?_
    refine HN.keep [(4, _)] ⟨rfl, trivial⟩ ?_
    refine HN.then ?_
    refine HR.ret ?_
    refine HR.ret1 _ Tryz.results91 rfl (fun w hw => ?_)
    refine ⟨?_, hw.ext⟩
    rw [← hz3, t0]
    unfold gcdE
    simp only [Int.toNat_zero, Nat.gcd_zero_right]
    rw [Int.toNat_of_nonneg hz1]

end Go.Proofs.YtgbgddmbooaddaaGreatDoor

namespace Go.Proofs.YtgbgddmbooaddaaGreatDoor
open Go.RowKit


theorem H.toRow {n : Nat} {e : Env} {w0 : World} {L : List BP} {R : List Rw} {F : List BP} {K : Act → World → Prop} {b el : Nat} {cs : List Value} (m sz : Nat) (hn : cs.length = m * sz) (hm : m ≤ maxLen) (h : H n e (Hp w0 L (⟨.slice (some ⟨b, 0, none⟩) m m, m, el, sz, cs⟩ :: R) F) K) : H n e (Hp w0 ((b, ex (.cells cs.toArray el)) :: L) R F) K := H.cls _ (fun _ hw => hw.toRow hn hm) h
theorem ints_oneCell (l : List Int) : ∀ u ∈ l.map (Value.int .i64 ·), u.oneCell' = true := fun u hu => by
  obtain ⟨x, _, rfl⟩ := List.mem_map.1 hu
  rfl
structure OZ where
  k : Nat
  v : Value
  out : List Int
/-- The column so far: rising, and which numbers are in it. -/
structure Rise (col out : List Int) : Prop where
  up : out.Pairwise fun x y => x < y
  mem : ∀ x, x ∈ out ↔ x ∈ col
theorem Rise.nodup {col out : List Int} (h : Rise col out) : out.Nodup := h.up.imp fun h e => by omega
theorem Rise.len {col out : List Int} (h : Rise col out) : out.length ≤ col.length := by
  have h1 := List.Nodup.length_le_of_subset h.nodup (fun x hx => (h.mem x).1 hx)
  exact h1
theorem Rise.facts {rows : List (List Int)} {a : Nat} {out : List Int} (h : Rise (colL rows a) out) : out = factsE rows a := by
  refine (sortI_eq ?_ (h.up.imp fun h => Int.le_of_lt h)).symm
  exact (List.perm_ext_iff_of_nodup (nodup_setD _) h.nodup).2 fun x => by rw [mem_setD, h.mem]
theorem Rise.getD {col out : List Int} (h : Rise col out) {i j : Nat} (hij : i < j) (hj : j < out.length) : out.getD i 0 < out.getD j 0 := by
  have := List.pairwise_iff_getElem.1 h.up i j (by omega) hj hij
  simpa [List.getD, show i < out.length by omega, hj] using this
theorem Rise.same {col out : List Int} (h : Rise col out) {v : Int} (hv : v ∈ out) : Rise (col ++ [v]) out := ⟨h.up, fun x => by
  rw [h.mem, List.mem_append, List.mem_singleton]
  constructor
  · exact .inl
  · rintro (h1 | rfl)
    · exact h1
    · exact (h.mem x).1 hv⟩
theorem Rise.ins {col out : List Int} (h : Rise col out) {v : Int} {i : Nat} (hi : i ≤ out.length) (hlo : ∀ j, j < i → out.getD j 0 < v) (hhi : i < out.length → v < out.getD i 0) : Rise (col ++ [v]) (out.take i ++ [v] ++ out.drop i) := by
  have hdrop : ∀ x ∈ out.drop i, v < x := fun x hx => by
    obtain ⟨j, hj⟩ := List.getElem?_of_mem hx
    rw [List.getElem?_drop] at hj
    obtain ⟨hlt, rfl⟩ := List.getElem?_eq_some_iff.1 hj
    have h1 := hhi (by omega)
    have e1 : out[i + j] = out.getD (i + j) 0 := by simp [List.getD, hlt]
    rw [e1]
    by_cases hj0 : j = 0
    · subst hj0; exact h1
    · have := h.getD (show i < i + j by omega) hlt; omega
  have htake : ∀ x ∈ out.take i, x < v := fun x hx => by
    obtain ⟨j, hj⟩ := List.getElem?_of_mem hx
    rw [List.getElem?_take] at hj
    split at hj
    · rename_i hji
      obtain ⟨hlt, rfl⟩ := List.getElem?_eq_some_iff.1 hj
      have := hlo j hji
      simpa [List.getD, hlt] using this
    · cases hj
  have hsplit := h.up
  rw [← List.take_append_drop i out, List.pairwise_append] at hsplit
  obtain ⟨p1, p2, p3⟩ := hsplit
  refine ⟨?_, fun x => ?_⟩
  · rw [List.pairwise_append, List.pairwise_append]
    refine ⟨⟨p1, List.pairwise_singleton _ _, fun a ha b hb => ?_⟩, p2, fun a ha b hb => ?_⟩
    · rw [List.mem_singleton] at hb; subst hb; exact htake a ha
    · rcases List.mem_append.1 ha with ha | ha
      · exact p3 a ha b hb
      · rw [List.mem_singleton] at ha; subst ha; exact hdrop b hb
  · rw [List.mem_append, List.mem_append, List.mem_append, ← h.mem, List.mem_singleton]
    have e1 : x ∈ out ↔ x ∈ out.take i ∨ x ∈ out.drop i := by
      rw [← List.mem_append, List.take_append_drop]
    rw [e1]
    constructor
    · rintro ((h1 | h1) | h1)
      · exact .inl (.inl h1)
      · exact .inr h1
      · exact .inl (.inr h1)
    · rintro ((h1 | h1) | h1)
      · exact .inl (.inl h1)
      · exact .inr h1
      · exact .inl (.inr h1)

set_option maxRecDepth 100000 in
theorem refColumn_any (vars : Nat) (rv : Value) (rows : List (Value × List Int)) (w0 : World) (ht : RTbl w0 vars rv rows) (a : Nat) (ha : a < vars) : Calls Tryz.prog 60 #[rv, .int .i64 (a : Int)] w0 fun e w' => ∃ v, e = .returned v ∧ Hp w0 [] [rowI v (factsE (rowsE rows) a)] [] w' := by
  obtain ⟨adr, capr, br, orr, rfl, hcapr, hsr⟩ := rows_open ht.isr
  have hmax := ht.max
  refine enterA 61 Tryz.func60 rfl Tryz.ntmps60 rfl (Hp w0 [] [] []) (Hp.init _) ?_
  refine H.seq ?_
  refine H.region ?_
  refine H.q (yl_assign rfl) rfl rfl (by decide) ?_
  refine HN.done ?_
  refine HN.keep [(0, _), (1, _)] ⟨rfl, rfl, trivial⟩ ?_
  refine HN.then ?_
  refine H.seq ?_
  refine H.region ?_
  refine H.q (yl_assign rfl) rfl rfl (by decide) ?_
  refine HN.done ?_
  refine HN.keep [(0, _), (1, _), (5, _)] ⟨rfl, rfl, rfl, trivial⟩ ?_
  refine HN.then ?_
  refine H.seq ?_
  refine H.seq ?_
  refine H.region ?_
  refine H.q (yl_assign rfl) rfl rfl (by decide) ?_
  refine HN.done ?_
  refine HN.keep [(0, _), (1, _), (5, _), (6, _)] ⟨rfl, rfl, rfl, rfl, trivial⟩ ?_
  refine HN.then ?_
  refine H.block ?_
  refine H.loop (fun z : OZ => [(0, .slice adr rows.length capr), (1, .int .i64 (a : Int)), (5, z.v), (6, .int .i64 (z.k : Int))]) (fun z => z.k ≤ rows.length ∧ Rise ((colL (rowsE rows) a).take z.k) z.out) (fun z => Hp w0 [] [rowI z.v z.out] []) (fun z => rows.length - z.k) ⟨0, .slice none 0 0, []⟩ ⟨Nat.zero_le _, .nil, fun x => Iff.rfl⟩ ⟨rfl, rfl, rfl, rfl, trivial⟩ (fun w hw => hw.rowNil 2 1) (fun z hI => ?_)
  obtain ⟨k, v, out⟩ := z
  obtain ⟨hk, hR⟩ := hI
  simp only at hk hR
  have hol := hR.len
  rw [List.length_take, colL_len, List.length_map] at hol
  refine H.seq ?_
  refine H.seq ?_
  refine H.region ?_
  refine H.q (yl_move rfl) rfl rfl (by decide) ?_
  refine H.q (yl_move rfl) rfl rfl (by decide) ?_
  refine H.q (yl_len rfl Tryz.underlying37 rfl) rfl rfl (by decide) ?_
  refine H.q (yl_lss rfl rfl) rfl rfl (by decide) ?_
  refine HN.done ?_
  refine HN.keep [(0, _), (1, _), (5, _), (6, _), (12, _)] ⟨rfl, rfl, rfl, rfl, rfl, trivial⟩ ?_
  refine HN.then ?_
  refine H.cond _ rfl (fun t0 => ?_) (fun t0 => ?_)
  · simp only [decide_eq_true_eq] at t0
    have hlt : k < rows.length := by omega
    obtain ⟨h1, h2, h3⟩ := hsr k hlt
    obtain ⟨adx, capx, bx, ox, h4, hcapx, hsx⟩ := ints_open h3
    have hla : a < rows[k].2.length := by rw [ht.len _ (List.getElem_mem hlt)]; exact ha
    have hcol : (colL (rowsE rows) a).take (k + 1) = (colL (rowsE rows) a).take k ++ [(rows[k].2.getD a 0)] := by rw [colL_take (by simpa using hlt)]; simp
    refine H.pull (fun w hw => rowI_open (v := v) (l := out) (hw.row 0 rfl)) (fun ho => ?_)
    obtain ⟨ado, capo, bo, rfl, hcapo, hado, hso⟩ := ho
    refine H.keep [(0, _), (1, _), (5, _), (6, _)] ⟨rfl, rfl, rfl, rfl, trivial⟩ ?_
    refine HN.skip ?_
    refine HN.then ?_
    refine H.seqCut (fun z : OZ => [(0, .slice adr rows.length capr), (1, .int .i64 (a : Int)), (5, z.v), (6, .int .i64 (k : Int))]) (fun z => fun w => Hp w0 [] [rowI z.v z.out] [] w ∧ Rise ((colL (rowsE rows) a).take (k + 1)) z.out) ?_ (fun z => ?_)
    · refine H.block ?_
      refine H.seq ?_
      refine H.region ?_
      refine H.q (yl_move rfl) rfl rfl (by decide) ?_
      refine H.q (yl_move rfl) rfl rfl (by decide) ?_
      refine H.q (yl_ix k Tryz.underlying37 Tryz.sizeOf23 h1 rfl rfl rfl hlt) rfl rfl (by decide) ?_
      refine H.q (yl_load Tryz.isAgg23 rfl (fun w hw => (cell_ext hw.ext h2).trans (by rw [h4]))) rfl rfl (by decide) ?_
      refine H.q (yl_move rfl) rfl rfl (by decide) ?_
      refine H.q (yl_ix a Tryz.underlying23 Tryz.sizeOf2 (hsx a hla).1 rfl rfl rfl hla) rfl rfl (by decide) ?_
      refine H.q (yl_load Tryz.isAgg2 rfl (fun w hw => cell_ext hw.ext (hsx a hla).2)) rfl rfl (by decide) ?_
      refine H.q (yl_assign rfl) rfl rfl (by decide) ?_
      refine HN.done ?_
      refine HN.keep [(0, _), (1, _), (5, _), (6, _), (7, _)] ⟨rfl, rfl, rfl, rfl, rfl, trivial⟩ ?_
      refine HN.then ?_
      refine H.seq ?_
      refine H.region ?_
      refine H.q (yl_assign rfl) rfl rfl (by decide) ?_
      refine HN.done ?_
      refine HN.keep [(0, _), (1, _), (5, _), (6, _), (7, _), (8, _)] ⟨rfl, rfl, rfl, rfl, rfl, rfl, trivial⟩ ?_
      refine HN.then ?_
      refine H.seq ?_
      refine H.block ?_
      refine H.loop (fun i : Nat => [(0, .slice adr rows.length capr), (1, .int .i64 (a : Int)), (5, .slice ado out.length capo), (6, .int .i64 (k : Int)), (7, .int .i64 (rows[k].2.getD a 0)), (8, .int .i64 (i : Int))]) (fun i => i ≤ out.length ∧ ∀ j, j < i → out.getD j 0 < (rows[k].2.getD a 0)) (fun _ => Hp w0 [] [rowI (.slice ado out.length capo) out] []) (fun i => out.length - i) 0 ⟨Nat.zero_le _, fun j hj => absurd hj (Nat.not_lt_zero _)⟩ ⟨rfl, rfl, rfl, rfl, rfl, rfl, trivial⟩ (fun w hw => hw) (fun i hI => ?_)
      obtain ⟨hi, hlo⟩ := hI
      refine H.seq ?_
      refine H.seq ?_
      refine H.region ?_
      refine H.q (yl_move rfl) rfl rfl (by decide) ?_
      refine H.q (yl_move rfl) rfl rfl (by decide) ?_
      refine H.q (yl_len rfl Tryz.underlying23 rfl) rfl rfl (by decide) ?_
      refine H.q (yl_lss rfl rfl) rfl rfl (by decide) ?_
      refine H.q (yl_move rfl) rfl rfl (by decide) ?_
      refine H.qg (wn_t rfl rfl (by decide) rfl) (fun hg => yl_sub [(5, _)] ⟨rfl, trivial⟩ (yl_move rfl)) rfl (by decide) ?_
      refine H.qg (wn_t rfl rfl (by decide) rfl) (fun hg => yl_sub [(8, _)] ⟨rfl, trivial⟩ (yl_move rfl)) rfl (by decide) ?_
      refine H.qg (wn_t rfl rfl (by decide) rfl) (fun hg => yl_sub [(27, _), (28, _)] ⟨slT rfl hg, slT rfl hg, trivial⟩ (yl_ix i Tryz.underlying23 Tryz.sizeOf2 (hado (Nat.lt_of_le_of_lt (Nat.zero_le _) (show i < out.length by have h9 := of_decide_eq_true hg; omega))) rfl rfl rfl (show i < out.length by have h9 := of_decide_eq_true hg; omega))) rfl (by decide) ?_
      refine H.qg (wn_t rfl rfl (by decide) rfl) (fun hg => yl_sub [(29, _)] ⟨slT rfl hg, trivial⟩ (yl_load (v := .int .i64 (out.getD i 0)) Tryz.isAgg2 rfl (fun w hw => hso w (hw.row 0 rfl) i (show i < out.length by have h9 := of_decide_eq_true hg; omega)))) rfl (by decide) ?_
      refine H.qg (wn_t rfl rfl (by decide) rfl) (fun hg => yl_sub [(7, _)] ⟨rfl, trivial⟩ (yl_move rfl)) rfl (by decide) ?_
      refine H.qg (wn_t rfl rfl (by decide) rfl) (fun hg => yl_sub [(30, _), (31, _)] ⟨slT rfl hg, slT rfl hg, trivial⟩ (yl_lss rfl rfl)) rfl (by decide) ?_
      refine H.q (yl_and rfl rfl) rfl rfl (by decide) ?_
      refine HN.done ?_
      refine HN.keep [(0, _), (1, _), (5, _), (6, _), (7, _), (8, _), (33, _)] ⟨rfl, rfl, rfl, rfl, rfl, rfl, rfl, trivial⟩ ?_
      refine HN.then ?_
      refine H.cond _ rfl (fun t1 => ?_) (fun t1 => ?_)
      · have t2 := t1
        simp only [Bool.and_eq_true, decide_eq_true_eq] at t2
        refine H.keep [(0, _), (1, _), (5, _), (6, _), (7, _), (8, _)] ⟨rfl, rfl, rfl, rfl, rfl, rfl, trivial⟩ ?_
        refine HN.skip ?_
        refine HN.then ?_
        refine H.block ?_
        refine H.region ?_
        refine H.q (yl_move rfl) rfl rfl (by decide) ?_
        refine H.q (yl_add rfl rfl ((i : Int) + 1) rfl (by omega)) rfl rfl (by decide) ?_
        refine H.q (yl_assign rfl) rfl rfl (by decide) ?_
        refine HN.done ?_
        refine HN.keep [(0, _), (1, _), (5, _), (6, _), (7, _), (8, _)] ⟨rfl, rfl, rfl, rfl, rfl, rfl, trivial⟩ ?_
        refine HN.block ?_
        refine HN.then ?_
        exact H.at (i + 1) ⟨⟨by omega, fun j hj => by
          by_cases hji : j = i
          · subst hji; exact t2.2
          · exact hlo j (by omega)⟩, by omega⟩ ⟨rfl, rfl, rfl, rfl, rfl, rfl, trivial⟩ (fun w hw => hw)
      · have hstop : i < out.length → (rows[k].2.getD a 0) ≤ out.getD i 0 := fun h => by
          simp only [Bool.and_eq_false_iff, decide_eq_false_iff_not] at t1
          omega
        refine H.keep [(0, _), (1, _), (5, _), (6, _), (7, _), (8, _)] ⟨rfl, rfl, rfl, rfl, rfl, rfl, trivial⟩ ?_
        refine HX.exit ?_
        refine HX.then ?_
        refine HX.then ?_
        refine HX.hit ?_
        refine HN.then ?_
        refine H.seq ?_
        refine H.region ?_
        refine H.q (yl_move rfl) rfl rfl (by decide) ?_
        refine H.q (yl_move rfl) rfl rfl (by decide) ?_
        refine H.q (yl_len rfl Tryz.underlying23 rfl) rfl rfl (by decide) ?_
        refine H.q (yl_eql rfl rfl) rfl rfl (by decide) ?_
        refine H.q (yl_move rfl) rfl rfl (by decide) ?_
        refine H.qg (wn_f rfl rfl (by decide) rfl) (fun hg => yl_sub [(5, _)] ⟨rfl, trivial⟩ (yl_move rfl)) rfl (by decide) ?_
        refine H.qg (wn_f rfl rfl (by decide) rfl) (fun hg => yl_sub [(8, _)] ⟨rfl, trivial⟩ (yl_move rfl)) rfl (by decide) ?_
        refine H.qg (wn_f rfl rfl (by decide) rfl) (fun hg => yl_sub [(41, _), (42, _)] ⟨slT rfl hg, slT rfl hg, trivial⟩ (yl_ix i Tryz.underlying23 Tryz.sizeOf2 (hado (Nat.lt_of_le_of_lt (Nat.zero_le _) (show i < out.length from by have h9 : ¬ ((i : Int) = (out.length : Int)) := (by simpa using hg); omega))) rfl rfl rfl (show i < out.length from by have h9 : ¬ ((i : Int) = (out.length : Int)) := (by simpa using hg); omega))) rfl (by decide) ?_
        refine H.qg (wn_f rfl rfl (by decide) rfl) (fun hg => yl_sub [(43, _)] ⟨slT rfl hg, trivial⟩ (yl_load (v := .int .i64 (out.getD i 0)) Tryz.isAgg2 rfl (fun w hw => hso w (hw.row 0 rfl) i (show i < out.length from by have h9 : ¬ ((i : Int) = (out.length : Int)) := (by simpa using hg); omega)))) rfl (by decide) ?_
        refine H.qg (wn_f rfl rfl (by decide) rfl) (fun hg => yl_sub [(7, _)] ⟨rfl, trivial⟩ (yl_move rfl)) rfl (by decide) ?_
        refine H.qg (wn_f rfl rfl (by decide) rfl) (fun hg => yl_sub [(44, _), (45, _)] ⟨slT rfl hg, slT rfl hg, trivial⟩ (yl_neq rfl rfl)) rfl (by decide) ?_
        refine H.q (yl_or rfl rfl) rfl rfl (by decide) ?_
        refine HN.done ?_
        refine HN.keep [(0, _), (1, _), (5, _), (6, _), (7, _), (8, _), (47, _)] ⟨rfl, rfl, rfl, rfl, rfl, rfl, rfl, trivial⟩ ?_
        refine HN.then ?_
        refine H.cond _ rfl (fun t2 => ?_) (fun t2 => ?_)
        · have hhi : i < out.length → (rows[k].2.getD a 0) < out.getD i 0 := fun h => by
            have h8 := hstop h
            simp only [Bool.or_eq_true, decide_eq_true_eq] at t2
            omega
          have hins := hR.ins hi hlo hhi
          refine H.keep [(0, _), (1, _), (5, _), (6, _), (7, _), (8, _)] ⟨rfl, rfl, rfl, rfl, rfl, rfl, trivial⟩ ?_
          refine H.regionA (Hp w0 [] [] []) Tryz.mixed (stab_hp _ _ _ _) ?_
          refine H.take (i := 1) rfl (by kernel_rfl) (by kernel_rfl) (by kernel_rfl) (fun _ _ _ h => h) (fun w hw => hw.base) (ye_move rfl) rfl rfl (by decide) ?_
          refine H.take (i := 2) rfl (by kernel_rfl) (by kernel_rfl) (by kernel_rfl) (fun _ _ _ h => h) (fun w hw => hw.base) (ye_move rfl) rfl rfl (by decide) ?_
          refine H.take (i := 3) rfl (by kernel_rfl) (by kernel_rfl) (by kernel_rfl) (fun _ _ _ h => h) (fun w hw => hw.base) (ye_slto i Tryz.underlying23 Tryz.sizeOf2 rfl rfl rfl (by omega)) rfl rfl (by decide) ?_
          refine H.take (i := 5) rfl (by kernel_rfl) (by kernel_rfl) (by kernel_rfl) (fun _ _ _ h => h) (fun w hw => hw.base) (ye_move rfl) rfl rfl (by decide) ?_
          refine H.take (i := 8) rfl (by kernel_rfl) (by kernel_rfl) (by kernel_rfl) (fun _ _ _ h => h) (fun w hw => hw.base) (ye_move rfl) rfl rfl (by decide) ?_
          refine H.take (i := 9) rfl (by kernel_rfl) (by kernel_rfl) (by kernel_rfl) (fun _ _ _ h => h) (fun w hw => hw.base) (ye_move rfl) rfl rfl (by decide) ?_
          refine H.take (i := 10) rfl (by kernel_rfl) (by kernel_rfl) (by kernel_rfl) (fun _ _ _ h => h) (fun w hw => hw.base) (ye_slfrom i Tryz.underlying23 Tryz.sizeOf2 rfl rfl rfl hi hcapo) rfl rfl (by decide) ?_
          refine H.two (i := 0) (j := 6) rfl rfl (by kernel_rfl) ?_ ?_
          · refine H.buildSlice (parts := []) (ps := []) bs23_0 rfl (by decide) (fun b48 hb48 => ?_)
            refine H.toRow 0 1 rfl (by decide) ?_
            refine H.on (fun w hw => hw.base) ?_
            refine H.two (i := 4) (j := 6) rfl rfl (by kernel_rfl) ?_ ?_
            · refine H.append 0 ((out.take i).map (.int .i64 ·)) el23 rfl rfl rfl (by simp; omega) (fun w hw => by rw [List.map_take]; exact sl_news (sl_to (Rw.isSl (hw.row 1 rfl) rfl) i (by rw [List.length_map]; exact hi))) (ints_oneCell _) (by simp only; omega) (by decide) (by decide) (fun v52 => ?_)
              refine H.on (fun w hw => hw.base) ?_
              refine H.one (i := 6) rfl (by kernel_rfl) ?_
              refine H.buildSlice (bs23 _) rfl (by decide) (fun b54 hb54 => ?_)
              refine H.on (fun w hw => hw.base) ?_
              refine H.one (i := 7) rfl (by kernel_rfl) ?_
              refine H.append 0 [.int .i64 (rows[k].2.getD a 0)] el23 rfl rfl rfl rfl (fun w hw => news1 (hw.blk 0 rfl)) (by simp [Value.oneCell']) (by simp only; omega) (by decide) (by decide) (fun v55 => ?_)
              refine H.on (fun w hw => hw.base) ?_
              refine H.one (i := 11) rfl (by kernel_rfl) ?_
              refine H.append 0 ((out.drop i).map (.int .i64 ·)) el23 rfl rfl rfl (by simp) (fun w hw => by rw [List.map_drop]; exact sl_news (sl_from (Rw.isSl (hw.row 1 rfl) rfl) i (by rw [List.length_map]; exact hi))) (ints_oneCell _) (by simp only; omega) (by decide) (by decide) (fun v59 => ?_)
              refine H.on (fun w hw => hw.base) ?_
              refine H.take (i := 12) rfl (by kernel_rfl) (by kernel_rfl) (by kernel_rfl) (fun _ _ _ h => h) (fun w hw => hw.base) (ye_assign rfl) rfl rfl (by decide) ?_
              refine H.over (by kernel_rfl) ?_
              refine HN.keep [(0, _), (1, _), (5, _), (6, _)] ⟨rfl, rfl, rfl, rfl, trivial⟩ ?_
              refine HN.block ?_
              refine HN.then ?_
              refine H.at' ⟨(k : Nat), v59, (out.take i ++ [(rows[k].2.getD a 0)] ++ out.drop i)⟩ ⟨rfl, rfl, rfl, rfl, trivial⟩ (fun w hw => ?_)
              have e1 : rowI v59 (out.take i ++ [(rows[k].2.getD a 0)] ++ out.drop i) = ⟨v59, 0 + i + 1 + (out.length - i), 2, 1, [] ++ (out.take i).map (.int .i64 ·) ++ [.int .i64 (rows[k].2.getD a 0)] ++ (out.drop i).map (.int .i64 ·)⟩ := by simp [rowI]; omega
              refine ⟨?_, by rw [hcol]; exact hins⟩
              rw [e1]
              have h2 := hw.drop.permR (List.Perm.swap _ _ _)
              exact h2.dropR
            · refine H.buildSlice (bs23 _) rfl (by decide) (fun b54 hb54 => ?_)
              refine H.on (fun w hw => hw.base) ?_
              refine H.one (i := 4) rfl (by kernel_rfl) ?_
              refine H.append 0 ((out.take i).map (.int .i64 ·)) el23 rfl rfl rfl (by simp; omega) (fun w hw => by rw [List.map_take]; exact sl_news (sl_to (Rw.isSl (hw.row 1 rfl) rfl) i (by rw [List.length_map]; exact hi))) (ints_oneCell _) (by simp only; omega) (by decide) (by decide) (fun v52 => ?_)
              refine H.on (fun w hw => hw.base) ?_
              refine H.one (i := 7) rfl (by kernel_rfl) ?_
              refine H.append 0 [.int .i64 (rows[k].2.getD a 0)] el23 rfl rfl rfl rfl (fun w hw => news1 (hw.blk 0 rfl)) (by simp [Value.oneCell']) (by simp only; omega) (by decide) (by decide) (fun v55 => ?_)
              refine H.on (fun w hw => hw.base) ?_
              refine H.one (i := 11) rfl (by kernel_rfl) ?_
              refine H.append 0 ((out.drop i).map (.int .i64 ·)) el23 rfl rfl rfl (by simp) (fun w hw => by rw [List.map_drop]; exact sl_news (sl_from (Rw.isSl (hw.row 1 rfl) rfl) i (by rw [List.length_map]; exact hi))) (ints_oneCell _) (by simp only; omega) (by decide) (by decide) (fun v59 => ?_)
              refine H.on (fun w hw => hw.base) ?_
              refine H.take (i := 12) rfl (by kernel_rfl) (by kernel_rfl) (by kernel_rfl) (fun _ _ _ h => h) (fun w hw => hw.base) (ye_assign rfl) rfl rfl (by decide) ?_
              refine H.over (by kernel_rfl) ?_
              refine HN.keep [(0, _), (1, _), (5, _), (6, _)] ⟨rfl, rfl, rfl, rfl, trivial⟩ ?_
              refine HN.block ?_
              refine HN.then ?_
              refine H.at' ⟨(k : Nat), v59, (out.take i ++ [(rows[k].2.getD a 0)] ++ out.drop i)⟩ ⟨rfl, rfl, rfl, rfl, trivial⟩ (fun w hw => ?_)
              have e1 : rowI v59 (out.take i ++ [(rows[k].2.getD a 0)] ++ out.drop i) = ⟨v59, 0 + i + 1 + (out.length - i), 2, 1, [] ++ (out.take i).map (.int .i64 ·) ++ [.int .i64 (rows[k].2.getD a 0)] ++ (out.drop i).map (.int .i64 ·)⟩ := by simp [rowI]; omega
              refine ⟨?_, by rw [hcol]; exact hins⟩
              rw [e1]
              have h2 := hw.drop.permR (List.Perm.swap _ _ _)
              exact h2.dropR
          · refine H.buildSlice (bs23 _) rfl (by decide) (fun b54 hb54 => ?_)
            refine H.on (fun w hw => hw.base) ?_
            refine H.one (i := 0) rfl (by kernel_rfl) ?_
            refine H.buildSlice (parts := []) (ps := []) bs23_0 rfl (by decide) (fun b48 hb48 => ?_)
            refine H.toRow 0 1 rfl (by decide) ?_
            refine H.on (fun w hw => hw.base) ?_
            refine H.one (i := 4) rfl (by kernel_rfl) ?_
            refine H.append 0 ((out.take i).map (.int .i64 ·)) el23 rfl rfl rfl (by simp; omega) (fun w hw => by rw [List.map_take]; exact sl_news (sl_to (Rw.isSl (hw.row 1 rfl) rfl) i (by rw [List.length_map]; exact hi))) (ints_oneCell _) (by simp only; omega) (by decide) (by decide) (fun v52 => ?_)
            refine H.on (fun w hw => hw.base) ?_
            refine H.one (i := 7) rfl (by kernel_rfl) ?_
            refine H.append 0 [.int .i64 (rows[k].2.getD a 0)] el23 rfl rfl rfl rfl (fun w hw => news1 (hw.blk 0 rfl)) (by simp [Value.oneCell']) (by simp only; omega) (by decide) (by decide) (fun v55 => ?_)
            refine H.on (fun w hw => hw.base) ?_
            refine H.one (i := 11) rfl (by kernel_rfl) ?_
            refine H.append 0 ((out.drop i).map (.int .i64 ·)) el23 rfl rfl rfl (by simp) (fun w hw => by rw [List.map_drop]; exact sl_news (sl_from (Rw.isSl (hw.row 1 rfl) rfl) i (by rw [List.length_map]; exact hi))) (ints_oneCell _) (by simp only; omega) (by decide) (by decide) (fun v59 => ?_)
            refine H.on (fun w hw => hw.base) ?_
            refine H.take (i := 12) rfl (by kernel_rfl) (by kernel_rfl) (by kernel_rfl) (fun _ _ _ h => h) (fun w hw => hw.base) (ye_assign rfl) rfl rfl (by decide) ?_
            refine H.over (by kernel_rfl) ?_
            refine HN.keep [(0, _), (1, _), (5, _), (6, _)] ⟨rfl, rfl, rfl, rfl, trivial⟩ ?_
            refine HN.block ?_
            refine HN.then ?_
            refine H.at' ⟨(k : Nat), v59, (out.take i ++ [(rows[k].2.getD a 0)] ++ out.drop i)⟩ ⟨rfl, rfl, rfl, rfl, trivial⟩ (fun w hw => ?_)
            have e1 : rowI v59 (out.take i ++ [(rows[k].2.getD a 0)] ++ out.drop i) = ⟨v59, 0 + i + 1 + (out.length - i), 2, 1, [] ++ (out.take i).map (.int .i64 ·) ++ [.int .i64 (rows[k].2.getD a 0)] ++ (out.drop i).map (.int .i64 ·)⟩ := by simp [rowI]; omega
            refine ⟨?_, by rw [hcol]; exact hins⟩
            rw [e1]
            have h2 := hw.drop.permR (List.Perm.swap _ _ _)
            exact h2.dropR
        · have hin : (rows[k].2.getD a 0) ∈ out := by
            simp only [Bool.or_eq_false_iff, decide_eq_false_iff_not] at t2
            have hlti : i < out.length := by omega
            have e1 : out.getD i 0 = (rows[k].2.getD a 0) := by omega
            rw [← e1]
            exact getD_mem hlti
          have hsame := hR.same hin
          refine H.keep [(0, _), (1, _), (5, _), (6, _)] ⟨rfl, rfl, rfl, rfl, trivial⟩ ?_
          refine HN.skip ?_
          refine HN.block ?_
          refine HN.then ?_
          refine H.at' ⟨(k : Nat), .slice ado out.length capo, out⟩ ⟨rfl, rfl, rfl, rfl, trivial⟩ (fun w hw => ⟨hw, by rw [hcol]; exact hsame⟩)
    · refine H.pull (fun w hw => hw.2) (fun hR2 => ?_)
      refine H.cls (Hp w0 [] [rowI z.v z.out] []) (fun w hw => hw.1) ?_
      refine H.region ?_
      refine H.q (yl_move rfl) rfl rfl (by decide) ?_
      refine H.q (yl_add rfl rfl ((k : Int) + 1) rfl (by omega)) rfl rfl (by decide) ?_
      refine H.q (yl_assign rfl) rfl rfl (by decide) ?_
      refine HN.done ?_
      refine HN.keep [(0, _), (1, _), (5, _), (6, _)] ⟨rfl, rfl, rfl, rfl, trivial⟩ ?_
      refine HN.then ?_
      exact H.at ⟨k + 1, z.v, z.out⟩ ⟨⟨hlt, hR2⟩, by simp only; omega⟩ ⟨rfl, rfl, rfl, rfl, trivial⟩ (fun w hw => hw)
  · simp only [decide_eq_false_iff_not] at t0
    have hkl : k = rows.length := by omega
    refine H.keep [(5, _)] ⟨rfl, trivial⟩ ?_
    refine HX.exit ?_
    refine HX.then ?_
    refine HX.then ?_
    refine HX.hit ?_
    refine HN.then ?_
    refine H.seq ?_
    refine H.region ?_
    refine H.q (yl_move rfl) rfl rfl (by decide) ?_
    refine H.q (yl_assign rfl) rfl rfl (by decide) ?_
    refine HN.done ?_
    refine HN.keep [(4, _)] ⟨rfl, trivial⟩ ?_
    refine HN.then ?_
    refine HR.ret ?_
    refine HR.ret1 _ Tryz.results60 rfl (fun w hw => ?_)
    have e1 : (colL (rowsE rows) a).take k = (colL (rowsE rows) a) := List.take_of_length_le (by rw [colL_len, List.length_map]; omega)
    rw [e1] at hR
    have e2 := hR.facts
    rw [e2] at hw
    exact ⟨v, rfl, hw⟩

end Go.Proofs.YtgbgddmbooaddaaGreatDoor

