/-
  Common ground of the proofs over this seat, part 2: Walks: CheckClaim; the claims of the kinds; Walks: is a claim true of a row?; Lists of claims, of rows, of names in memory; what a loop leaves behind.
-/
import Derived.Maps.Keyed
import Derived.Test.YtgbgddmbooaddaaGreatDoorBaseA
namespace Go.Proofs.YtgbgddmbooaddaaGreatDoor
open Go.RowKit

set_option maxRecDepth 100000 in
theorem check_any (vars : Int) (x : Inv) (sv : Value) (w0 : World) (hl : x.set.length ≤ 4611686018427387904) (hv : IsInts w0 sv x.set) : Calls Tryz.prog 28 #[(.agg [.int .u8 x.kind, .int .i64 x.a, .int .i64 x.b, .int .i64 x.k, .int .i64 x.m, sv].toArray), .int .i64 vars] w0 fun e w' => e = .returned (.int .i64 (chk x vars)) ∧ Ext w0 w' := by
  obtain ⟨ad, cap, b, o, rfl, hcap, hs⟩ := ints_open hv
  refine enterA 162 Tryz.func28 rfl Tryz.ntmps28 rfl (Hp w0 [] [] []) (Hp.init _) ?_
  refine H.seq ?_
  refine H.region ?_
  refine H.boxA rfl (by decide) (fun b2 hb2 => ?_)
  refine H.q (yl_assign rfl) rfl rfl (by decide) ?_
  refine HN.done ?_
  refine HN.keep [(1, _), (2, _)] ⟨rfl, rfl, trivial⟩ ?_
  refine HN.then ?_
  refine H.seq ?_
  refine H.block ?_
  refine H.seq ?_
  refine H.region ?_
  refine H.q (yl_move rfl) rfl rfl (by decide) ?_
  refine H.q (yl_lss rfl rfl) rfl rfl (by decide) ?_
  refine H.q (yl_assign rfl) rfl rfl (by decide) ?_
  refine HN.done ?_
  refine HN.keep [(1, _), (2, _), (10, _)] ⟨rfl, rfl, rfl, trivial⟩ ?_
  refine HN.then ?_
  refine H.cond _ rfl (fun t0 => ?_) (fun t0 => ?_)
  · refine H.keep [] trivial ?_
    refine H.seq ?_
    refine H.region ?_
    refine H.q (yl_assign rfl) rfl rfl (by decide) ?_
    refine HN.done ?_
    refine HN.keep [(4, _)] ⟨rfl, trivial⟩ ?_
    refine HN.then ?_
    refine HR.ret ?_
    refine HR.block ?_
    refine HR.then ?_
    refine HR.ret1 _ Tryz.results28 rfl (fun w hw => ?_)
    exact ⟨by rw [chk_low t0], hw.ext⟩
  · refine H.keep [(1, _), (2, _)] ⟨rfl, rfl, trivial⟩ ?_
    refine H.seq ?_
    refine H.region ?_
    refine H.q (yl_move rfl) rfl rfl (by decide) ?_
    refine H.q (yl_gtr rfl rfl) rfl rfl (by decide) ?_
    refine H.q (yl_assign rfl) rfl rfl (by decide) ?_
    refine HN.done ?_
    refine HN.keep [(1, _), (2, _), (13, _)] ⟨rfl, rfl, rfl, trivial⟩ ?_
    refine HN.then ?_
    refine H.cond _ rfl (fun t1 => ?_) (fun t1 => ?_)
    · refine H.keep [] trivial ?_
      refine H.seq ?_
      refine H.region ?_
      refine H.q (yl_assign rfl) rfl rfl (by decide) ?_
      refine HN.done ?_
      refine HN.keep [(4, _)] ⟨rfl, trivial⟩ ?_
      refine HN.then ?_
      refine HR.ret ?_
      refine HR.block ?_
      refine HR.then ?_
      refine HR.ret1 _ Tryz.results28 rfl (fun w hw => ?_)
      exact ⟨by rw [chk_high t0 t1], hw.ext⟩
    · refine H.keep [(1, _), (2, _)] ⟨rfl, rfl, trivial⟩ ?_
      refine HN.skip ?_
      refine HN.block ?_
      refine HN.then ?_
      refine H.seq ?_
      refine H.region ?_
      refine H.q (yl_loadAgg _ Tryz.isAgg25 Tryz.sizeOf25 rfl (fun w hw => cells_of_blk (hw.blk 0 rfl)) rfl) rfl rfl (by decide) ?_
      refine H.q (yl_call (xs := [.tmp 16]) Tryz.call39 (stab_hp _ _ _ _) rfl (fun w hw => claimOf_any x ad x.set.length cap w)) rfl rfl (by decide) ?_
      refine H.q (yl_assign rfl) rfl rfl (by decide) ?_
      refine HN.done ?_
      refine HN.keep [(1, _), (2, _), (5, _)] ⟨rfl, rfl, rfl, trivial⟩ ?_
      refine HN.then ?_
      refine H.seq ?_
      refine H.seq ?_
      refine H.region ?_
      refine H.q (yl_move rfl) rfl rfl (by decide) ?_
      refine H.q (yl_ifaceNil (T := claimT x.kind) (v := claimA x (.slice ad x.set.length cap)) Tryz.underlying68 rfl) rfl rfl (by decide) ?_
      refine HN.done ?_
      refine HN.keep [(1, _), (2, _), (5, _), (19, _)] ⟨rfl, rfl, rfl, rfl, trivial⟩ ?_
      refine HN.then ?_
      refine H.cond _ rfl (fun t2 => ?_) (fun t2 => ?_)
      · refine H.keep [] trivial ?_
        refine H.seq ?_
        refine H.region ?_
        refine H.q (yl_assign rfl) rfl rfl (by decide) ?_
        refine HN.done ?_
        refine HN.keep [(4, _)] ⟨rfl, trivial⟩ ?_
        refine HN.then ?_
        refine HR.ret ?_
        refine HR.then ?_
        refine HR.ret1 _ Tryz.results28 rfl (fun w hw => ?_)
        exact ⟨by rw [chk_kind t0 t1 (claimT_none (by simpa using t2))], hw.ext⟩
      · have hk := claimT_some (show ¬ claimT x.kind = 0 by simpa using t2)
        refine H.keep [(1, _), (2, _), (5, .iface (claimT x.kind) (claimA x (.slice ad x.set.length cap)))] ⟨rfl, rfl, congrArg some (if_neg (by simpa using t2)), trivial⟩ ?_
        refine H.keep [(1, _), (2, _), (5, _)] ⟨rfl, rfl, rfl, trivial⟩ ?_
        refine HN.skip ?_
        refine HN.then ?_
        refine H.seq ?_
        refine H.region ?_
        refine H.q (yl_move rfl) rfl rfl (by decide) ?_
        refine H.q (yl_call (xs := [.tmp 21]) Tryz.call62 (stab_hp _ _ _ _) rfl (fun w hw => fields_any x.kind _ w hk)) rfl rfl (by decide) ?_
        refine H.q (yl_move rfl) rfl rfl (by decide) ?_
        refine H.q (yl_extract _ rfl rfl) rfl rfl (by decide) ?_
        refine H.q (yl_extract _ rfl rfl) rfl rfl (by decide) ?_
        refine H.q (yl_extract _ rfl rfl) rfl rfl (by decide) ?_
        refine H.q (yl_extract _ rfl rfl) rfl rfl (by decide) ?_
        refine H.q (yl_assign rfl) rfl rfl (by decide) ?_
        refine H.q (yl_assign rfl) rfl rfl (by decide) ?_
        refine H.q (yl_assign rfl) rfl rfl (by decide) ?_
        refine H.q (yl_assign rfl) rfl rfl (by decide) ?_
        refine HN.done ?_
        refine HN.keep [(1, _), (2, _), (6, _), (7, _), (8, _), (9, _)] ⟨rfl, rfl, rfl, rfl, rfl, rfl, trivial⟩ ?_
        refine HN.then ?_
        refine H.seq ?_
        refine H.seq ?_
        refine H.region ?_
        refine H.q (yl_fieldAddr _ fa25_1 rfl) rfl rfl (by decide) ?_
        refine H.q (yl_load Tryz.isAgg3 rfl (fun w hw => hw.cell 0 rfl rfl)) rfl rfl (by decide) ?_
        refine H.q (yl_lss rfl rfl) rfl rfl (by decide) ?_
        refine H.q (yl_move rfl) rfl rfl (by decide) ?_
        refine H.qg (wn_f rfl rfl (by decide) rfl) (fun hg => yl_sub [(2, _)] ⟨rfl, trivial⟩ (yl_fieldAddr _ fa25_1 rfl)) rfl (by decide) ?_
        refine H.qg (wn_f rfl rfl (by decide) rfl) (fun hg => yl_sub [(31, _)] ⟨slT rfl hg, trivial⟩ (yl_load Tryz.isAgg3 rfl (fun w hw => hw.cell 0 rfl rfl))) rfl (by decide) ?_
        refine H.qg (wn_f rfl rfl (by decide) rfl) (fun hg => yl_sub [(1, _)] ⟨rfl, trivial⟩ (yl_move rfl)) rfl (by decide) ?_
        refine H.qg (wn_f rfl rfl (by decide) rfl) (fun hg => yl_sub [(32, _), (33, _)] ⟨slT rfl hg, slT rfl hg, trivial⟩ (yl_geq rfl rfl)) rfl (by decide) ?_
        refine H.q (yl_or rfl rfl) rfl rfl (by decide) ?_
        refine H.q (yl_move rfl) rfl rfl (by decide) ?_
        refine H.qg (wn_f rfl rfl (by decide) rfl) (fun hg => yl_sub [(6, _)] ⟨rfl, trivial⟩ (yl_move rfl)) rfl (by decide) ?_
        refine H.qg (wn_f rfl rfl (by decide) rfl) (fun hg => yl_sub [(37, _)] ⟨slT rfl hg, trivial⟩ (yl_move rfl)) rfl (by decide) ?_
        refine H.qg (wn_gt rfl rfl (by decide) rfl) (fun hg => yl_sub [(2, _)] ⟨rfl, trivial⟩ (yl_fieldAddr _ fa25_2 rfl)) rfl (by decide) ?_
        refine H.qg (wn_gt rfl rfl (by decide) rfl) (fun hg => yl_sub [(39, _)] ⟨slT rfl hg, trivial⟩ (yl_load Tryz.isAgg3 rfl (fun w hw => hw.cell 0 rfl rfl))) rfl (by decide) ?_
        refine H.qg (wn_gt rfl rfl (by decide) rfl) (fun hg => yl_sub [(40, _)] ⟨slT rfl hg, trivial⟩ (yl_lss rfl rfl)) rfl (by decide) ?_
        refine H.qg (wn_gt rfl rfl (by decide) rfl) (fun hg => yl_sub [(41, _)] ⟨slT rfl hg, trivial⟩ (yl_move rfl)) rfl (by decide) ?_
        refine H.qg (wn_gf rfl rfl (by decide) rfl) (fun hg => yl_sub [(2, _)] ⟨rfl, trivial⟩ (yl_fieldAddr _ fa25_2 rfl)) rfl (by decide) ?_
        refine H.qg (wn_gf rfl rfl (by decide) rfl) (fun hg => yl_sub [(43, _)] ⟨slT rfl hg, trivial⟩ (yl_load Tryz.isAgg3 rfl (fun w hw => hw.cell 0 rfl rfl))) rfl (by decide) ?_
        refine H.qg (wn_gf rfl rfl (by decide) rfl) (fun hg => yl_sub [(1, _)] ⟨rfl, trivial⟩ (yl_move rfl)) rfl (by decide) ?_
        refine H.qg (wn_gf rfl rfl (by decide) rfl) (fun hg => yl_sub [(44, _), (45, _)] ⟨slT rfl hg, slT rfl hg, trivial⟩ (yl_geq rfl rfl)) rfl (by decide) ?_
        refine H.qg (wn_gt rfl rfl (by decide) rfl) (fun hg => yl_sub [(42, _), (46, _)] ⟨slT rfl hg, slA rfl hg, trivial⟩ (yl_or rfl rfl)) rfl (by decide) ?_
        refine H.qg (wn_gt rfl rfl (by decide) rfl) (fun hg => yl_sub [(47, _)] ⟨slT rfl hg, trivial⟩ (yl_move rfl)) rfl (by decide) ?_
        refine H.qg (wn_gf rfl rfl (by decide) rfl) (fun hg => yl_sub [(2, _)] ⟨rfl, trivial⟩ (yl_fieldAddr _ fa25_1 rfl)) rfl (by decide) ?_
        refine H.qg (wn_gf rfl rfl (by decide) rfl) (fun hg => yl_sub [(49, _)] ⟨slT rfl hg, trivial⟩ (yl_load Tryz.isAgg3 rfl (fun w hw => hw.cell 0 rfl rfl))) rfl (by decide) ?_
        refine H.qg (wn_gf rfl rfl (by decide) rfl) (fun hg => yl_sub [(2, _)] ⟨rfl, trivial⟩ (yl_fieldAddr _ fa25_2 rfl)) rfl (by decide) ?_
        refine H.qg (wn_gf rfl rfl (by decide) rfl) (fun hg => yl_sub [(51, _)] ⟨slT rfl hg, trivial⟩ (yl_load Tryz.isAgg3 rfl (fun w hw => hw.cell 0 rfl rfl))) rfl (by decide) ?_
        refine H.qg (wn_gf rfl rfl (by decide) rfl) (fun hg => yl_sub [(50, _), (52, _)] ⟨slT rfl hg, slT rfl hg, trivial⟩ (yl_eql rfl rfl)) rfl (by decide) ?_
        refine H.qg (wn_gt rfl rfl (by decide) rfl) (fun hg => yl_sub [(48, _), (53, _)] ⟨slT rfl hg, slA rfl hg, trivial⟩ (yl_or rfl rfl)) rfl (by decide) ?_
        refine H.qg (wn_f rfl rfl (by decide) rfl) (fun hg => yl_sub [(38, _), (54, _)] ⟨slT rfl hg, slA rfl hg, trivial⟩ (yl_and rfl rfl)) rfl (by decide) ?_
        refine H.q (yl_or rfl rfl) rfl rfl (by decide) ?_
        refine HN.done ?_
        refine HN.keep [(2, _), (6, _), (7, _), (8, _), (9, _), (56, _)] ⟨rfl, rfl, rfl, rfl, rfl, rfl, trivial⟩ ?_
        refine HN.then ?_
        refine H.cond _ rfl (fun t3 => ?_) (fun t3 => ?_)
        · have hp : placeB x vars = false := place_out t3
          refine H.keep [] trivial ?_
          refine H.seq ?_
          refine H.region ?_
          refine H.q (yl_assign rfl) rfl rfl (by decide) ?_
          refine HN.done ?_
          refine HN.keep [(4, _)] ⟨rfl, trivial⟩ ?_
          refine HN.then ?_
          refine HR.ret ?_
          refine HR.then ?_
          refine HR.ret1 _ Tryz.results28 rfl (fun w hw => ?_)
          exact ⟨by rw [chk_place t0 t1 hk hp], hw.ext⟩
        · refine H.keep [(2, _), (6, _), (7, _), (8, _), (9, _)] ⟨rfl, rfl, rfl, rfl, rfl, trivial⟩ ?_
          refine HN.skip ?_
          refine HN.then ?_
          refine H.seq ?_
          refine H.seq ?_
          refine H.region ?_
          refine H.q (yl_fieldAddr _ fa25_0 rfl) rfl rfl (by decide) ?_
          refine H.q (yl_load Tryz.isAgg22 rfl (fun w hw => hw.cell 0 rfl rfl)) rfl rfl (by decide) ?_
          refine H.q (yl_eql rfl rfl) rfl rfl (by decide) ?_
          refine H.q (yl_move rfl) rfl rfl (by decide) ?_
          refine H.qg (wn_f rfl rfl (by decide) rfl) (fun hg => yl_sub [(2, _)] ⟨rfl, trivial⟩ (yl_fieldAddr _ fa25_0 rfl)) rfl (by decide) ?_
          refine H.qg (wn_f rfl rfl (by decide) rfl) (fun hg => yl_sub [(61, _)] ⟨slT rfl hg, trivial⟩ (yl_load Tryz.isAgg22 rfl (fun w hw => hw.cell 0 rfl rfl))) rfl (by decide) ?_
          refine H.qg (wn_f rfl rfl (by decide) rfl) (fun hg => yl_sub [(62, _)] ⟨slT rfl hg, trivial⟩ (yl_eql rfl rfl)) rfl (by decide) ?_
          refine H.q (yl_or rfl rfl) rfl rfl (by decide) ?_
          refine H.q (yl_move rfl) rfl rfl (by decide) ?_
          refine H.qg (wn_t rfl rfl (by decide) rfl) (fun hg => yl_sub [(2, _)] ⟨rfl, trivial⟩ (yl_fieldAddr _ fa25_1 rfl)) rfl (by decide) ?_
          refine H.qg (wn_t rfl rfl (by decide) rfl) (fun hg => yl_sub [(66, _)] ⟨slT rfl hg, trivial⟩ (yl_load Tryz.isAgg3 rfl (fun w hw => hw.cell 0 rfl rfl))) rfl (by decide) ?_
          refine H.qg (wn_t rfl rfl (by decide) rfl) (fun hg => yl_sub [(2, _)] ⟨rfl, trivial⟩ (yl_fieldAddr _ fa25_2 rfl)) rfl (by decide) ?_
          refine H.qg (wn_t rfl rfl (by decide) rfl) (fun hg => yl_sub [(68, _)] ⟨slT rfl hg, trivial⟩ (yl_load Tryz.isAgg3 rfl (fun w hw => hw.cell 0 rfl rfl))) rfl (by decide) ?_
          refine H.qg (wn_t rfl rfl (by decide) rfl) (fun hg => yl_sub [(67, _), (69, _)] ⟨slT rfl hg, slT rfl hg, trivial⟩ (yl_geq rfl rfl)) rfl (by decide) ?_
          refine H.q (yl_and rfl rfl) rfl rfl (by decide) ?_
          refine HN.done ?_
          refine HN.keep [(2, _), (6, _), (7, _), (8, _), (9, _), (71, _)] ⟨rfl, rfl, rfl, rfl, rfl, rfl, trivial⟩ ?_
          refine HN.then ?_
          refine H.cond _ rfl (fun t4 => ?_) (fun t4 => ?_)
          · have hp : placeB x vars = false := place_turn t4
            refine H.keep [] trivial ?_
            refine H.seq ?_
            refine H.region ?_
            refine H.q (yl_assign rfl) rfl rfl (by decide) ?_
            refine HN.done ?_
            refine HN.keep [(4, _)] ⟨rfl, trivial⟩ ?_
            refine HN.then ?_
            refine HR.ret ?_
            refine HR.then ?_
            refine HR.ret1 _ Tryz.results28 rfl (fun w hw => ?_)
            exact ⟨by rw [chk_place t0 t1 hk hp], hw.ext⟩
          · have hp : placeB x vars = true := place_in t3 t4
            refine H.keep [(2, _), (6, _), (7, _), (8, _), (9, _)] ⟨rfl, rfl, rfl, rfl, rfl, trivial⟩ ?_
            refine HN.skip ?_
            refine HN.then ?_
            refine H.seq ?_
            refine H.seq ?_
            refine H.region ?_
            refine H.q (yl_fieldAddr _ fa25_3 rfl) rfl rfl (by decide) ?_
            refine H.q (yl_load Tryz.isAgg2 rfl (fun w hw => hw.cell 0 rfl rfl)) rfl rfl (by decide) ?_
            refine H.q (yl_call (xs := [.tmp 73]) Tryz.call63 (stab_hp _ _ _ _) rfl (fun w hw => small_any _ w)) rfl rfl (by decide) ?_
            refine H.q (yl_not rfl) rfl rfl (by decide) ?_
            refine H.q (yl_move rfl) rfl rfl (by decide) ?_
            refine H.qg (wn_f rfl rfl (by decide) rfl) (fun hg => yl_sub [(2, _)] ⟨rfl, trivial⟩ (yl_fieldAddr _ fa25_4 rfl)) rfl (by decide) ?_
            refine H.qg (wn_f rfl rfl (by decide) rfl) (fun hg => yl_sub [(77, _)] ⟨slT rfl hg, trivial⟩ (yl_load Tryz.isAgg2 rfl (fun w hw => hw.cell 0 rfl rfl))) rfl (by decide) ?_
            refine H.qg (wn_f rfl rfl (by decide) rfl) (fun hg => yl_sub [(78, _)] ⟨slT rfl hg, trivial⟩ (yl_call (xs := [.tmp 78]) Tryz.call63 (stab_hp _ _ _ _) rfl (fun w hw => small_any _ w))) rfl (by decide) ?_
            refine H.qg (wn_f rfl rfl (by decide) rfl) (fun hg => yl_sub [(79, _)] ⟨slT rfl hg, trivial⟩ (yl_not rfl)) rfl (by decide) ?_
            refine H.q (yl_or rfl rfl) rfl rfl (by decide) ?_
            refine H.q (yl_move rfl) rfl rfl (by decide) ?_
            refine H.qg (wn_f rfl rfl (by decide) rfl) (fun hg => yl_sub [(2, _)] ⟨rfl, trivial⟩ (yl_fieldAddr _ fa25_5 rfl)) rfl (by decide) ?_
            refine H.qg (wn_f rfl rfl (by decide) rfl) (fun hg => yl_sub [(83, _)] ⟨slT rfl hg, trivial⟩ (yl_load Tryz.isAgg23 rfl (fun w hw => hw.cell 0 rfl rfl))) rfl (by decide) ?_
            refine H.qg (wn_f rfl rfl (by decide) rfl) (fun hg => yl_sub [(84, _)] ⟨slT rfl hg, trivial⟩ (yl_call (xs := [.tmp 84]) Tryz.call50 (stab_hp _ _ _ _) rfl (fun w hw => allSmall_any x.set (.slice ad x.set.length cap) w hl (hv.ext hw.ext)))) rfl (by decide) ?_
            refine H.qg (wn_f rfl rfl (by decide) rfl) (fun hg => yl_sub [(85, _)] ⟨slT rfl hg, trivial⟩ (yl_not rfl)) rfl (by decide) ?_
            refine H.q (yl_or rfl rfl) rfl rfl (by decide) ?_
            refine HN.done ?_
            refine HN.keep [(2, _), (6, _), (7, _), (8, _), (9, _), (87, _)] ⟨rfl, rfl, rfl, rfl, rfl, rfl, trivial⟩ ?_
            refine HN.then ?_
            refine H.cond _ rfl (fun t5 => ?_) (fun t5 => ?_)
            · have hn : numE x = 3 := numE_small (by simp only [Bool.or_eq_true, Bool.not_eq_true'] at t5; rcases t5 with (h | h) | h <;> simp [h])
              refine H.keep [] trivial ?_
              refine H.seq ?_
              refine H.region ?_
              refine H.q (yl_assign rfl) rfl rfl (by decide) ?_
              refine HN.done ?_
              refine HN.keep [(4, _)] ⟨rfl, trivial⟩ ?_
              refine HN.then ?_
              refine HR.ret ?_
              refine HR.then ?_
              refine HR.ret1 _ Tryz.results28 rfl (fun w hw => ?_)
              exact ⟨by rw [chk_num t0 t1 hk hp (by rw [hn]; decide), hn], hw.ext⟩
            · have hs5 : (smallB x.k && smallB x.m && allSmallB x.set) = true := by simp only [Bool.or_eq_false_iff, Bool.not_eq_false'] at t5; simp [t5]
              refine H.keep [(2, _), (6, _), (7, _), (8, _), (9, _)] ⟨rfl, rfl, rfl, rfl, rfl, trivial⟩ ?_
              refine HN.skip ?_
              refine HN.then ?_
              refine H.seq ?_
              refine H.seq ?_
              refine H.region ?_
              refine H.q (yl_move rfl) rfl rfl (by decide) ?_
              refine H.q (yl_move rfl) rfl rfl (by decide) ?_
              refine H.qg (wn_t rfl rfl (by decide) rfl) (fun hg => yl_sub [(2, _)] ⟨rfl, trivial⟩ (yl_fieldAddr _ fa25_5 rfl)) rfl (by decide) ?_
              refine H.qg (wn_t rfl rfl (by decide) rfl) (fun hg => yl_sub [(90, _)] ⟨slT rfl hg, trivial⟩ (yl_load Tryz.isAgg23 rfl (fun w hw => hw.cell 0 rfl rfl))) rfl (by decide) ?_
              refine H.qg (wn_t rfl rfl (by decide) rfl) (fun hg => yl_sub [(91, _)] ⟨slT rfl hg, trivial⟩ (yl_len rfl Tryz.underlying23 rfl)) rfl (by decide) ?_
              refine H.qg (wn_t rfl rfl (by decide) rfl) (fun hg => yl_sub [(92, _)] ⟨slT rfl hg, trivial⟩ (yl_lss rfl rfl)) rfl (by decide) ?_
              refine H.qg (wn_t rfl rfl (by decide) rfl) (fun hg => yl_sub [(93, _)] ⟨slT rfl hg, trivial⟩ (yl_move rfl)) rfl (by decide) ?_
              refine H.qg (wn_gf rfl rfl (by decide) rfl) (fun hg => yl_sub [(2, _)] ⟨rfl, trivial⟩ (yl_fieldAddr _ fa25_5 rfl)) rfl (by decide) ?_
              refine H.qg (wn_gf rfl rfl (by decide) rfl) (fun hg => yl_sub [(95, _)] ⟨slT rfl hg, trivial⟩ (yl_load Tryz.isAgg23 rfl (fun w hw => hw.cell 0 rfl rfl))) rfl (by decide) ?_
              refine H.qg (wn_gf rfl rfl (by decide) rfl) (fun hg => yl_sub [(96, _)] ⟨slT rfl hg, trivial⟩ (yl_len rfl Tryz.underlying23 rfl)) rfl (by decide) ?_
              refine H.qg (wn_gf rfl rfl (by decide) rfl) (fun hg => yl_sub [(97, _)] ⟨slT rfl hg, trivial⟩ (yl_gtr rfl rfl)) rfl (by decide) ?_
              refine H.qg (wn_t rfl rfl (by decide) rfl) (fun hg => yl_sub [(94, _), (98, _)] ⟨slT rfl hg, slA rfl hg, trivial⟩ (yl_or rfl rfl)) rfl (by decide) ?_
              refine H.qg (wn_t rfl rfl (by decide) rfl) (fun hg => yl_sub [(99, _)] ⟨slT rfl hg, trivial⟩ (yl_move rfl)) rfl (by decide) ?_
              refine H.qg (wn_gf rfl rfl (by decide) rfl) (fun hg => yl_sub [(2, _)] ⟨rfl, trivial⟩ (yl_fieldAddr _ fa25_5 rfl)) rfl (by decide) ?_
              refine H.qg (wn_gf rfl rfl (by decide) rfl) (fun hg => yl_sub [(101, _)] ⟨slT rfl hg, trivial⟩ (yl_load Tryz.isAgg23 rfl (fun w hw => hw.cell 0 rfl rfl))) rfl (by decide) ?_
              refine H.qg (wn_gf rfl rfl (by decide) rfl) (fun hg => yl_sub [(102, _)] ⟨slT rfl hg, trivial⟩ (yl_call (xs := [.tmp 102]) Tryz.call64 (stab_hp _ _ _ _) rfl (fun w hw => rising_any x.set (.slice ad x.set.length cap) w hl (hv.ext hw.ext)))) rfl (by decide) ?_
              refine H.qg (wn_gf rfl rfl (by decide) rfl) (fun hg => yl_sub [(103, _)] ⟨slT rfl hg, trivial⟩ (yl_not rfl)) rfl (by decide) ?_
              refine H.qg (wn_t rfl rfl (by decide) rfl) (fun hg => yl_sub [(100, _), (104, _)] ⟨slT rfl hg, slA rfl hg, trivial⟩ (yl_or rfl rfl)) rfl (by decide) ?_
              refine H.q (yl_and rfl rfl) rfl rfl (by decide) ?_
              refine HN.done ?_
              refine HN.keep [(2, _), (6, _), (7, _), (8, _), (9, _), (106, _)] ⟨rfl, rfl, rfl, rfl, rfl, rfl, trivial⟩ ?_
              refine HN.then ?_
              refine H.cond _ rfl (fun t6 => ?_) (fun t6 => ?_)
              · have hn : numE x = 1 := numE_set hs5 t6
                refine H.keep [] trivial ?_
                refine H.seq ?_
                refine H.region ?_
                refine H.q (yl_assign rfl) rfl rfl (by decide) ?_
                refine HN.done ?_
                refine HN.keep [(4, _)] ⟨rfl, trivial⟩ ?_
                refine HN.then ?_
                refine HR.ret ?_
                refine HR.then ?_
                refine HR.ret1 _ Tryz.results28 rfl (fun w hw => ?_)
                exact ⟨by rw [chk_num t0 t1 hk hp (by rw [hn]; decide), hn], hw.ext⟩
              · refine H.keep [(2, _), (6, _), (7, _), (8, _), (9, _)] ⟨rfl, rfl, rfl, rfl, rfl, trivial⟩ ?_
                refine HN.skip ?_
                refine HN.then ?_
                refine H.seq ?_
                refine H.seq ?_
                refine H.region ?_
                refine H.q (yl_fieldAddr _ fa25_0 rfl) rfl rfl (by decide) ?_
                refine H.q (yl_load Tryz.isAgg22 rfl (fun w hw => hw.cell 0 rfl rfl)) rfl rfl (by decide) ?_
                refine H.q (yl_eql rfl rfl) rfl rfl (by decide) ?_
                refine H.q (yl_move rfl) rfl rfl (by decide) ?_
                refine H.qg (wn_t rfl rfl (by decide) rfl) (fun hg => yl_sub [(2, _)] ⟨rfl, trivial⟩ (yl_fieldAddr _ fa25_4 rfl)) rfl (by decide) ?_
                refine H.qg (wn_t rfl rfl (by decide) rfl) (fun hg => yl_sub [(111, _)] ⟨slT rfl hg, trivial⟩ (yl_load Tryz.isAgg2 rfl (fun w hw => hw.cell 0 rfl rfl))) rfl (by decide) ?_
                refine H.qg (wn_t rfl rfl (by decide) rfl) (fun hg => yl_sub [(112, _)] ⟨slT rfl hg, trivial⟩ (yl_lss rfl rfl)) rfl (by decide) ?_
                refine H.qg (wn_t rfl rfl (by decide) rfl) (fun hg => yl_sub [(113, _)] ⟨slT rfl hg, trivial⟩ (yl_move rfl)) rfl (by decide) ?_
                refine H.qg (wn_gf rfl rfl (by decide) rfl) (fun hg => yl_sub [(2, _)] ⟨rfl, trivial⟩ (yl_fieldAddr _ fa25_3 rfl)) rfl (by decide) ?_
                refine H.qg (wn_gf rfl rfl (by decide) rfl) (fun hg => yl_sub [(115, _)] ⟨slT rfl hg, trivial⟩ (yl_load Tryz.isAgg2 rfl (fun w hw => hw.cell 0 rfl rfl))) rfl (by decide) ?_
                refine H.qg (wn_gf rfl rfl (by decide) rfl) (fun hg => yl_sub [(116, _)] ⟨slT rfl hg, trivial⟩ (yl_lss rfl rfl)) rfl (by decide) ?_
                refine H.qg (wn_t rfl rfl (by decide) rfl) (fun hg => yl_sub [(114, _), (117, _)] ⟨slT rfl hg, slA rfl hg, trivial⟩ (yl_or rfl rfl)) rfl (by decide) ?_
                refine H.qg (wn_t rfl rfl (by decide) rfl) (fun hg => yl_sub [(118, _)] ⟨slT rfl hg, trivial⟩ (yl_move rfl)) rfl (by decide) ?_
                refine H.qg (wn_gf rfl rfl (by decide) rfl) (fun hg => yl_sub [(2, _)] ⟨rfl, trivial⟩ (yl_fieldAddr _ fa25_3 rfl)) rfl (by decide) ?_
                refine H.qg (wn_gf rfl rfl (by decide) rfl) (fun hg => yl_sub [(120, _)] ⟨slT rfl hg, trivial⟩ (yl_load Tryz.isAgg2 rfl (fun w hw => hw.cell 0 rfl rfl))) rfl (by decide) ?_
                refine H.qg (wn_gf rfl rfl (by decide) rfl) (fun hg => yl_sub [(2, _)] ⟨rfl, trivial⟩ (yl_fieldAddr _ fa25_4 rfl)) rfl (by decide) ?_
                refine H.qg (wn_gf rfl rfl (by decide) rfl) (fun hg => yl_sub [(122, _)] ⟨slT rfl hg, trivial⟩ (yl_load Tryz.isAgg2 rfl (fun w hw => hw.cell 0 rfl rfl))) rfl (by decide) ?_
                refine H.qg (wn_gf rfl rfl (by decide) rfl) (fun hg => yl_sub [(121, _), (123, _)] ⟨slT rfl hg, slT rfl hg, trivial⟩ (yl_geq rfl rfl)) rfl (by decide) ?_
                refine H.qg (wn_t rfl rfl (by decide) rfl) (fun hg => yl_sub [(119, _), (124, _)] ⟨slT rfl hg, slA rfl hg, trivial⟩ (yl_or rfl rfl)) rfl (by decide) ?_
                refine H.q (yl_and rfl rfl) rfl rfl (by decide) ?_
                refine HN.done ?_
                refine HN.keep [(2, _), (6, _), (7, _), (8, _), (9, _), (126, _)] ⟨rfl, rfl, rfl, rfl, rfl, rfl, trivial⟩ ?_
                refine HN.then ?_
                refine H.cond _ rfl (fun t7 => ?_) (fun t7 => ?_)
                · have hn : numE x = 1 := numE_mod hs5 t6 t7
                  refine H.keep [] trivial ?_
                  refine H.seq ?_
                  refine H.region ?_
                  refine H.q (yl_assign rfl) rfl rfl (by decide) ?_
                  refine HN.done ?_
                  refine HN.keep [(4, _)] ⟨rfl, trivial⟩ ?_
                  refine HN.then ?_
                  refine HR.ret ?_
                  refine HR.then ?_
                  refine HR.ret1 _ Tryz.results28 rfl (fun w hw => ?_)
                  exact ⟨by rw [chk_num t0 t1 hk hp (by rw [hn]; decide), hn], hw.ext⟩
                · have hn : numE x = 0 := numE_ok hs5 t6 t7
                  refine H.keep [(2, _), (6, _), (7, _), (8, _), (9, _)] ⟨rfl, rfl, rfl, rfl, rfl, trivial⟩ ?_
                  refine HN.skip ?_
                  refine HN.then ?_
                  refine H.seq ?_
                  refine H.seq ?_
                  refine H.region ?_
                  refine H.q (yl_move rfl) rfl rfl (by decide) ?_
                  refine H.q (yl_not rfl) rfl rfl (by decide) ?_
                  refine H.q (yl_move rfl) rfl rfl (by decide) ?_
                  refine H.qg (wn_t rfl rfl (by decide) rfl) (fun hg => yl_sub [(2, _)] ⟨rfl, trivial⟩ (yl_fieldAddr _ fa25_2 rfl)) rfl (by decide) ?_
                  refine H.qg (wn_t rfl rfl (by decide) rfl) (fun hg => yl_sub [(130, _)] ⟨slT rfl hg, trivial⟩ (yl_load Tryz.isAgg3 rfl (fun w hw => hw.cell 0 rfl rfl))) rfl (by decide) ?_
                  refine H.qg (wn_t rfl rfl (by decide) rfl) (fun hg => yl_sub [(131, _)] ⟨slT rfl hg, trivial⟩ (yl_neq rfl rfl)) rfl (by decide) ?_
                  refine H.q (yl_and rfl rfl) rfl rfl (by decide) ?_
                  refine H.q (yl_move rfl) rfl rfl (by decide) ?_
                  refine H.qg (wn_f rfl rfl (by decide) rfl) (fun hg => yl_sub [(7, _)] ⟨rfl, trivial⟩ (yl_move rfl)) rfl (by decide) ?_
                  refine H.qg (wn_f rfl rfl (by decide) rfl) (fun hg => yl_sub [(135, _)] ⟨slT rfl hg, trivial⟩ (yl_not rfl)) rfl (by decide) ?_
                  refine H.qg (wn_f rfl rfl (by decide) rfl) (fun hg => yl_sub [(136, _)] ⟨slT rfl hg, trivial⟩ (yl_move rfl)) rfl (by decide) ?_
                  refine H.qg (wn_gt rfl rfl (by decide) rfl) (fun hg => yl_sub [(2, _)] ⟨rfl, trivial⟩ (yl_fieldAddr _ fa25_3 rfl)) rfl (by decide) ?_
                  refine H.qg (wn_gt rfl rfl (by decide) rfl) (fun hg => yl_sub [(138, _)] ⟨slT rfl hg, trivial⟩ (yl_load Tryz.isAgg2 rfl (fun w hw => hw.cell 0 rfl rfl))) rfl (by decide) ?_
                  refine H.qg (wn_gt rfl rfl (by decide) rfl) (fun hg => yl_sub [(139, _)] ⟨slT rfl hg, trivial⟩ (yl_neq rfl rfl)) rfl (by decide) ?_
                  refine H.qg (wn_f rfl rfl (by decide) rfl) (fun hg => yl_sub [(137, _), (140, _)] ⟨slT rfl hg, slA rfl hg, trivial⟩ (yl_and rfl rfl)) rfl (by decide) ?_
                  refine H.q (yl_or rfl rfl) rfl rfl (by decide) ?_
                  refine H.q (yl_move rfl) rfl rfl (by decide) ?_
                  refine H.qg (wn_f rfl rfl (by decide) rfl) (fun hg => yl_sub [(8, _)] ⟨rfl, trivial⟩ (yl_move rfl)) rfl (by decide) ?_
                  refine H.qg (wn_f rfl rfl (by decide) rfl) (fun hg => yl_sub [(144, _)] ⟨slT rfl hg, trivial⟩ (yl_not rfl)) rfl (by decide) ?_
                  refine H.qg (wn_f rfl rfl (by decide) rfl) (fun hg => yl_sub [(145, _)] ⟨slT rfl hg, trivial⟩ (yl_move rfl)) rfl (by decide) ?_
                  refine H.qg (wn_gt rfl rfl (by decide) rfl) (fun hg => yl_sub [(2, _)] ⟨rfl, trivial⟩ (yl_fieldAddr _ fa25_4 rfl)) rfl (by decide) ?_
                  refine H.qg (wn_gt rfl rfl (by decide) rfl) (fun hg => yl_sub [(147, _)] ⟨slT rfl hg, trivial⟩ (yl_load Tryz.isAgg2 rfl (fun w hw => hw.cell 0 rfl rfl))) rfl (by decide) ?_
                  refine H.qg (wn_gt rfl rfl (by decide) rfl) (fun hg => yl_sub [(148, _)] ⟨slT rfl hg, trivial⟩ (yl_neq rfl rfl)) rfl (by decide) ?_
                  refine H.qg (wn_f rfl rfl (by decide) rfl) (fun hg => yl_sub [(146, _), (149, _)] ⟨slT rfl hg, slA rfl hg, trivial⟩ (yl_and rfl rfl)) rfl (by decide) ?_
                  refine H.q (yl_or rfl rfl) rfl rfl (by decide) ?_
                  refine H.q (yl_move rfl) rfl rfl (by decide) ?_
                  refine H.qg (wn_f rfl rfl (by decide) rfl) (fun hg => yl_sub [(9, _)] ⟨rfl, trivial⟩ (yl_move rfl)) rfl (by decide) ?_
                  refine H.qg (wn_f rfl rfl (by decide) rfl) (fun hg => yl_sub [(153, _)] ⟨slT rfl hg, trivial⟩ (yl_not rfl)) rfl (by decide) ?_
                  refine H.qg (wn_f rfl rfl (by decide) rfl) (fun hg => yl_sub [(154, _)] ⟨slT rfl hg, trivial⟩ (yl_move rfl)) rfl (by decide) ?_
                  refine H.qg (wn_gt rfl rfl (by decide) rfl) (fun hg => yl_sub [(2, _)] ⟨rfl, trivial⟩ (yl_fieldAddr _ fa25_5 rfl)) rfl (by decide) ?_
                  refine H.qg (wn_gt rfl rfl (by decide) rfl) (fun hg => yl_sub [(156, _)] ⟨slT rfl hg, trivial⟩ (yl_load Tryz.isAgg23 rfl (fun w hw => hw.cell 0 rfl rfl))) rfl (by decide) ?_
                  refine H.qg (wn_gt rfl rfl (by decide) rfl) (fun hg => yl_sub [(157, _)] ⟨slT rfl hg, trivial⟩ (yl_len rfl Tryz.underlying23 rfl)) rfl (by decide) ?_
                  refine H.qg (wn_gt rfl rfl (by decide) rfl) (fun hg => yl_sub [(158, _)] ⟨slT rfl hg, trivial⟩ (yl_gtr rfl rfl)) rfl (by decide) ?_
                  refine H.qg (wn_f rfl rfl (by decide) rfl) (fun hg => yl_sub [(155, _), (159, _)] ⟨slT rfl hg, slA rfl hg, trivial⟩ (yl_and rfl rfl)) rfl (by decide) ?_
                  refine H.q (yl_or rfl rfl) rfl rfl (by decide) ?_
                  refine HN.done ?_
                  refine HN.keep [(161, _)] ⟨rfl, trivial⟩ ?_
                  refine HN.then ?_
                  refine H.cond _ rfl (fun t8 => ?_) (fun t8 => ?_)
                  · refine H.keep [] trivial ?_
                    refine H.seq ?_
                    refine H.region ?_
                    refine H.q (yl_assign rfl) rfl rfl (by decide) ?_
                    refine HN.done ?_
                    refine HN.keep [(4, _)] ⟨rfl, trivial⟩ ?_
                    refine HN.then ?_
                    refine HR.ret ?_
                    refine HR.then ?_
                    refine HR.ret1 _ Tryz.results28 rfl (fun w hw => ?_)
                    exact ⟨by rw [chk_same t0 t1 hk hp hn, sameB_bare, show strayB x = true from t8]; rfl, hw.ext⟩
                  · refine H.keep [] trivial ?_
                    refine HN.skip ?_
                    refine HN.then ?_
                    refine H.seq ?_
                    refine H.region ?_
                    refine H.q (yl_assign rfl) rfl rfl (by decide) ?_
                    refine HN.done ?_
                    refine HN.keep [(4, _)] ⟨rfl, trivial⟩ ?_
                    refine HN.then ?_
                    refine HR.ret ?_
                    refine HR.ret1 _ Tryz.results28 rfl (fun w hw => ?_)
                    exact ⟨by rw [chk_same t0 t1 hk hp hn, sameB_bare, show strayB x = false from t8]; rfl, hw.ext⟩

set_option maxRecDepth 100000 in
theorem refCheck_any (vars : Int) (x : Inv) (sv : Value) (w0 : World) (hl : x.set.length ≤ 4611686018427387904) (hv : IsInts w0 sv x.set) : Calls Tryz.prog 30 #[(.agg [.int .u8 x.kind, .int .i64 x.a, .int .i64 x.b, .int .i64 x.k, .int .i64 x.m, sv].toArray), .int .i64 vars] w0 fun e w' => e = .returned (.int .i64 (chk x vars)) ∧ Ext w0 w' := by
  obtain ⟨ad, cap, b, o, rfl, hcap, hs⟩ := ints_open hv
  refine enterA 79 Tryz.func30 rfl Tryz.ntmps30 rfl (Hp w0 [] [] []) (Hp.init _) ?_
  refine H.seq ?_
  refine H.region ?_
  refine H.boxA rfl (by decide) (fun b2 hb2 => ?_)
  refine H.q (yl_assign rfl) rfl rfl (by decide) ?_
  refine HN.done ?_
  refine HN.keep [(1, _), (2, _)] ⟨rfl, rfl, trivial⟩ ?_
  refine HN.then ?_
  refine H.seq ?_
  refine H.block ?_
  refine H.seq ?_
  refine H.region ?_
  refine H.q (yl_move rfl) rfl rfl (by decide) ?_
  refine H.q (yl_lss rfl rfl) rfl rfl (by decide) ?_
  refine H.q (yl_assign rfl) rfl rfl (by decide) ?_
  refine HN.done ?_
  refine HN.keep [(1, _), (2, _), (6, _)] ⟨rfl, rfl, rfl, trivial⟩ ?_
  refine HN.then ?_
  refine H.cond _ rfl (fun t0 => ?_) (fun t0 => ?_)
  · refine H.keep [] trivial ?_
    refine H.seq ?_
    refine H.region ?_
    refine H.q (yl_assign rfl) rfl rfl (by decide) ?_
    refine HN.done ?_
    refine HN.keep [(4, _)] ⟨rfl, trivial⟩ ?_
    refine HN.then ?_
    refine HR.ret ?_
    refine HR.block ?_
    refine HR.then ?_
    refine HR.ret1 _ Tryz.results30 rfl (fun w hw => ?_)
    exact ⟨by rw [chk_low t0], hw.ext⟩
  · refine H.keep [(1, _), (2, _)] ⟨rfl, rfl, trivial⟩ ?_
    refine H.seq ?_
    refine H.region ?_
    refine H.q (yl_move rfl) rfl rfl (by decide) ?_
    refine H.q (yl_gtr rfl rfl) rfl rfl (by decide) ?_
    refine H.q (yl_assign rfl) rfl rfl (by decide) ?_
    refine HN.done ?_
    refine HN.keep [(1, _), (2, _), (9, _)] ⟨rfl, rfl, rfl, trivial⟩ ?_
    refine HN.then ?_
    refine H.cond _ rfl (fun t1 => ?_) (fun t1 => ?_)
    · refine H.keep [] trivial ?_
      refine H.seq ?_
      refine H.region ?_
      refine H.q (yl_assign rfl) rfl rfl (by decide) ?_
      refine HN.done ?_
      refine HN.keep [(4, _)] ⟨rfl, trivial⟩ ?_
      refine HN.then ?_
      refine HR.ret ?_
      refine HR.block ?_
      refine HR.then ?_
      refine HR.ret1 _ Tryz.results30 rfl (fun w hw => ?_)
      exact ⟨by rw [chk_high t0 t1], hw.ext⟩
    · refine H.keep [(1, _), (2, _)] ⟨rfl, rfl, trivial⟩ ?_
      refine H.seq ?_
      refine H.region ?_
      refine H.q (yl_fieldAddr _ fa25_0 rfl) rfl rfl (by decide) ?_
      refine H.q (yl_load Tryz.isAgg22 rfl (fun w hw => hw.cell 0 rfl rfl)) rfl rfl (by decide) ?_
      refine H.q (yl_lss rfl rfl) rfl rfl (by decide) ?_
      refine H.q (yl_move rfl) rfl rfl (by decide) ?_
      refine H.qg (wn_f rfl rfl (by decide) rfl) (fun hg => yl_sub [(2, _)] ⟨rfl, trivial⟩ (yl_fieldAddr _ fa25_0 rfl)) rfl (by decide) ?_
      refine H.qg (wn_f rfl rfl (by decide) rfl) (fun hg => yl_sub [(17, _)] ⟨slT rfl hg, trivial⟩ (yl_load Tryz.isAgg22 rfl (fun w hw => hw.cell 0 rfl rfl))) rfl (by decide) ?_
      refine H.qg (wn_f rfl rfl (by decide) rfl) (fun hg => yl_sub [(18, _)] ⟨slT rfl hg, trivial⟩ (yl_gtr rfl rfl)) rfl (by decide) ?_
      refine H.q (yl_or rfl rfl) rfl rfl (by decide) ?_
      refine H.q (yl_assign rfl) rfl rfl (by decide) ?_
      refine HN.done ?_
      refine HN.keep [(1, _), (2, _), (12, _)] ⟨rfl, rfl, rfl, trivial⟩ ?_
      refine HN.then ?_
      refine H.cond _ rfl (fun t2 => ?_) (fun t2 => ?_)
      · have hk : kindB x.kind = false := by simp only [Bool.or_eq_true, decide_eq_true_eq] at t2; simp only [kindB, Bool.and_eq_false_iff, decide_eq_false_iff_not]; omega
        refine H.keep [] trivial ?_
        refine H.seq ?_
        refine H.region ?_
        refine H.q (yl_assign rfl) rfl rfl (by decide) ?_
        refine HN.done ?_
        refine HN.keep [(4, _)] ⟨rfl, trivial⟩ ?_
        refine HN.then ?_
        refine HR.ret ?_
        refine HR.block ?_
        refine HR.then ?_
        refine HR.ret1 _ Tryz.results30 rfl (fun w hw => ?_)
        exact ⟨by rw [chk_kind t0 t1 hk], hw.ext⟩
      · have hk : kindB x.kind = true := by simp only [Bool.or_eq_false_iff, decide_eq_false_iff_not] at t2; simp only [kindB, Bool.and_eq_true, decide_eq_true_eq]; omega
        refine H.keep [(1, _), (2, _)] ⟨rfl, rfl, trivial⟩ ?_
        refine H.seq ?_
        refine H.region ?_
        refine H.q (yl_fieldAddr _ fa25_1 rfl) rfl rfl (by decide) ?_
        refine H.q (yl_load Tryz.isAgg3 rfl (fun w hw => hw.cell 0 rfl rfl)) rfl rfl (by decide) ?_
        refine H.q (yl_lss rfl rfl) rfl rfl (by decide) ?_
        refine H.q (yl_move rfl) rfl rfl (by decide) ?_
        refine H.qg (wn_f rfl rfl (by decide) rfl) (fun hg => yl_sub [(2, _)] ⟨rfl, trivial⟩ (yl_fieldAddr _ fa25_1 rfl)) rfl (by decide) ?_
        refine H.qg (wn_f rfl rfl (by decide) rfl) (fun hg => yl_sub [(26, _)] ⟨slT rfl hg, trivial⟩ (yl_load Tryz.isAgg3 rfl (fun w hw => hw.cell 0 rfl rfl))) rfl (by decide) ?_
        refine H.qg (wn_f rfl rfl (by decide) rfl) (fun hg => yl_sub [(1, _)] ⟨rfl, trivial⟩ (yl_move rfl)) rfl (by decide) ?_
        refine H.qg (wn_f rfl rfl (by decide) rfl) (fun hg => yl_sub [(27, _), (28, _)] ⟨slT rfl hg, slT rfl hg, trivial⟩ (yl_geq rfl rfl)) rfl (by decide) ?_
        refine H.q (yl_or rfl rfl) rfl rfl (by decide) ?_
        refine H.q (yl_assign rfl) rfl rfl (by decide) ?_
        refine HN.done ?_
        refine HN.keep [(1, _), (2, _), (21, _)] ⟨rfl, rfl, rfl, trivial⟩ ?_
        refine HN.then ?_
        refine H.cond _ rfl (fun t3 => ?_) (fun t3 => ?_)
        · have hp : placeB x vars = false := place_out (by unfold outB; rw [t3]; rfl)
          refine H.keep [] trivial ?_
          refine H.seq ?_
          refine H.region ?_
          refine H.q (yl_assign rfl) rfl rfl (by decide) ?_
          refine HN.done ?_
          refine HN.keep [(4, _)] ⟨rfl, trivial⟩ ?_
          refine HN.then ?_
          refine HR.ret ?_
          refine HR.block ?_
          refine HR.then ?_
          refine HR.ret1 _ Tryz.results30 rfl (fun w hw => ?_)
          exact ⟨by rw [chk_place t0 t1 hk hp], hw.ext⟩
        · refine H.keep [(1, _), (2, _)] ⟨rfl, rfl, trivial⟩ ?_
          refine H.seq ?_
          refine H.region ?_
          refine H.q (yl_fieldAddr _ fa25_0 rfl) rfl rfl (by decide) ?_
          refine H.q (yl_load Tryz.isAgg22 rfl (fun w hw => hw.cell 0 rfl rfl)) rfl rfl (by decide) ?_
          refine H.q (yl_call (xs := [.tmp 33]) Tryz.call65 (stab_hp _ _ _ _) rfl (fun w hw => two_any _ w)) rfl rfl (by decide) ?_
          refine H.q (yl_move rfl) rfl rfl (by decide) ?_
          refine H.qg (wn_t rfl rfl (by decide) rfl) (fun hg => yl_sub [(2, _)] ⟨rfl, trivial⟩ (yl_fieldAddr _ fa25_2 rfl)) rfl (by decide) ?_
          refine H.qg (wn_t rfl rfl (by decide) rfl) (fun hg => yl_sub [(36, _)] ⟨slT rfl hg, trivial⟩ (yl_load Tryz.isAgg3 rfl (fun w hw => hw.cell 0 rfl rfl))) rfl (by decide) ?_
          refine H.qg (wn_t rfl rfl (by decide) rfl) (fun hg => yl_sub [(37, _)] ⟨slT rfl hg, trivial⟩ (yl_lss rfl rfl)) rfl (by decide) ?_
          refine H.qg (wn_t rfl rfl (by decide) rfl) (fun hg => yl_sub [(38, _)] ⟨slT rfl hg, trivial⟩ (yl_move rfl)) rfl (by decide) ?_
          refine H.qg (wn_gf rfl rfl (by decide) rfl) (fun hg => yl_sub [(2, _)] ⟨rfl, trivial⟩ (yl_fieldAddr _ fa25_2 rfl)) rfl (by decide) ?_
          refine H.qg (wn_gf rfl rfl (by decide) rfl) (fun hg => yl_sub [(40, _)] ⟨slT rfl hg, trivial⟩ (yl_load Tryz.isAgg3 rfl (fun w hw => hw.cell 0 rfl rfl))) rfl (by decide) ?_
          refine H.qg (wn_gf rfl rfl (by decide) rfl) (fun hg => yl_sub [(1, _)] ⟨rfl, trivial⟩ (yl_move rfl)) rfl (by decide) ?_
          refine H.qg (wn_gf rfl rfl (by decide) rfl) (fun hg => yl_sub [(41, _), (42, _)] ⟨slT rfl hg, slT rfl hg, trivial⟩ (yl_geq rfl rfl)) rfl (by decide) ?_
          refine H.qg (wn_t rfl rfl (by decide) rfl) (fun hg => yl_sub [(39, _), (43, _)] ⟨slT rfl hg, slA rfl hg, trivial⟩ (yl_or rfl rfl)) rfl (by decide) ?_
          refine H.qg (wn_t rfl rfl (by decide) rfl) (fun hg => yl_sub [(44, _)] ⟨slT rfl hg, trivial⟩ (yl_move rfl)) rfl (by decide) ?_
          refine H.qg (wn_gf rfl rfl (by decide) rfl) (fun hg => yl_sub [(2, _)] ⟨rfl, trivial⟩ (yl_fieldAddr _ fa25_1 rfl)) rfl (by decide) ?_
          refine H.qg (wn_gf rfl rfl (by decide) rfl) (fun hg => yl_sub [(46, _)] ⟨slT rfl hg, trivial⟩ (yl_load Tryz.isAgg3 rfl (fun w hw => hw.cell 0 rfl rfl))) rfl (by decide) ?_
          refine H.qg (wn_gf rfl rfl (by decide) rfl) (fun hg => yl_sub [(2, _)] ⟨rfl, trivial⟩ (yl_fieldAddr _ fa25_2 rfl)) rfl (by decide) ?_
          refine H.qg (wn_gf rfl rfl (by decide) rfl) (fun hg => yl_sub [(48, _)] ⟨slT rfl hg, trivial⟩ (yl_load Tryz.isAgg3 rfl (fun w hw => hw.cell 0 rfl rfl))) rfl (by decide) ?_
          refine H.qg (wn_gf rfl rfl (by decide) rfl) (fun hg => yl_sub [(47, _), (49, _)] ⟨slT rfl hg, slT rfl hg, trivial⟩ (yl_eql rfl rfl)) rfl (by decide) ?_
          refine H.qg (wn_t rfl rfl (by decide) rfl) (fun hg => yl_sub [(45, _), (50, _)] ⟨slT rfl hg, slA rfl hg, trivial⟩ (yl_or rfl rfl)) rfl (by decide) ?_
          refine H.q (yl_and rfl rfl) rfl rfl (by decide) ?_
          refine H.q (yl_assign rfl) rfl rfl (by decide) ?_
          refine HN.done ?_
          refine HN.keep [(2, _), (31, _)] ⟨rfl, rfl, trivial⟩ ?_
          refine HN.then ?_
          refine H.cond _ rfl (fun t4 => ?_) (fun t4 => ?_)
          · have hp : placeB x vars = false := place_out (by unfold outB; rw [t4, Bool.or_true])
            refine H.keep [] trivial ?_
            refine H.seq ?_
            refine H.region ?_
            refine H.q (yl_assign rfl) rfl rfl (by decide) ?_
            refine HN.done ?_
            refine HN.keep [(4, _)] ⟨rfl, trivial⟩ ?_
            refine HN.then ?_
            refine HR.ret ?_
            refine HR.block ?_
            refine HR.then ?_
            refine HR.ret1 _ Tryz.results30 rfl (fun w hw => ?_)
            exact ⟨by rw [chk_place t0 t1 hk hp], hw.ext⟩
          · have ho : outB x vars = false := by unfold outB; rw [t3, t4]; rfl
            refine H.keep [(2, _)] ⟨rfl, trivial⟩ ?_
            refine H.seq ?_
            refine H.region ?_
            refine H.q (yl_fieldAddr _ fa25_0 rfl) rfl rfl (by decide) ?_
            refine H.q (yl_load Tryz.isAgg22 rfl (fun w hw => hw.cell 0 rfl rfl)) rfl rfl (by decide) ?_
            refine H.q (yl_eql rfl rfl) rfl rfl (by decide) ?_
            refine H.q (yl_move rfl) rfl rfl (by decide) ?_
            refine H.qg (wn_f rfl rfl (by decide) rfl) (fun hg => yl_sub [(2, _)] ⟨rfl, trivial⟩ (yl_fieldAddr _ fa25_0 rfl)) rfl (by decide) ?_
            refine H.qg (wn_f rfl rfl (by decide) rfl) (fun hg => yl_sub [(58, _)] ⟨slT rfl hg, trivial⟩ (yl_load Tryz.isAgg22 rfl (fun w hw => hw.cell 0 rfl rfl))) rfl (by decide) ?_
            refine H.qg (wn_f rfl rfl (by decide) rfl) (fun hg => yl_sub [(59, _)] ⟨slT rfl hg, trivial⟩ (yl_eql rfl rfl)) rfl (by decide) ?_
            refine H.q (yl_or rfl rfl) rfl rfl (by decide) ?_
            refine H.q (yl_move rfl) rfl rfl (by decide) ?_
            refine H.qg (wn_t rfl rfl (by decide) rfl) (fun hg => yl_sub [(2, _)] ⟨rfl, trivial⟩ (yl_fieldAddr _ fa25_1 rfl)) rfl (by decide) ?_
            refine H.qg (wn_t rfl rfl (by decide) rfl) (fun hg => yl_sub [(63, _)] ⟨slT rfl hg, trivial⟩ (yl_load Tryz.isAgg3 rfl (fun w hw => hw.cell 0 rfl rfl))) rfl (by decide) ?_
            refine H.qg (wn_t rfl rfl (by decide) rfl) (fun hg => yl_sub [(2, _)] ⟨rfl, trivial⟩ (yl_fieldAddr _ fa25_2 rfl)) rfl (by decide) ?_
            refine H.qg (wn_t rfl rfl (by decide) rfl) (fun hg => yl_sub [(65, _)] ⟨slT rfl hg, trivial⟩ (yl_load Tryz.isAgg3 rfl (fun w hw => hw.cell 0 rfl rfl))) rfl (by decide) ?_
            refine H.qg (wn_t rfl rfl (by decide) rfl) (fun hg => yl_sub [(64, _), (66, _)] ⟨slT rfl hg, slT rfl hg, trivial⟩ (yl_gtr rfl rfl)) rfl (by decide) ?_
            refine H.q (yl_and rfl rfl) rfl rfl (by decide) ?_
            refine H.q (yl_assign rfl) rfl rfl (by decide) ?_
            refine HN.done ?_
            refine HN.keep [(2, _), (53, _)] ⟨rfl, rfl, trivial⟩ ?_
            refine HN.then ?_
            refine H.cond _ rfl (fun t5 => ?_) (fun t5 => ?_)
            · have hp : placeB x vars = false := place_turn (by simp only [turnB, Bool.and_eq_true, decide_eq_true_eq] at t5 ⊢; exact ⟨t5.1, by omega⟩)
              refine H.keep [] trivial ?_
              refine H.seq ?_
              refine H.region ?_
              refine H.q (yl_assign rfl) rfl rfl (by decide) ?_
              refine HN.done ?_
              refine HN.keep [(4, _)] ⟨rfl, trivial⟩ ?_
              refine HN.then ?_
              refine HR.ret ?_
              refine HR.block ?_
              refine HR.then ?_
              refine HR.ret1 _ Tryz.results30 rfl (fun w hw => ?_)
              exact ⟨by rw [chk_place t0 t1 hk hp], hw.ext⟩
            · have hp : placeB x vars = true := place_in ho (by
                cases hq : (decide (x.kind = 7) || decide (x.kind = 8))
                · simp [turnB, hq]
                · rw [hq] at t5
                  have h2 : twoB x.kind = true := by simp only [Bool.or_eq_true, decide_eq_true_eq] at hq; simp only [twoB, Bool.and_eq_true, decide_eq_true_eq]; omega
                  simp only [h2, Bool.true_and, Bool.or_eq_false_iff, decide_eq_false_iff_not] at t4 t5
                  simp only [turnB, hq, Bool.true_and, decide_eq_false_iff_not]
                  omega)
              refine H.keep [(2, _)] ⟨rfl, trivial⟩ ?_
              refine HN.skip ?_
              refine HN.block ?_
              refine HN.then ?_
              refine H.seq ?_
              refine H.region ?_
              refine H.q (yl_loadAgg _ Tryz.isAgg25 Tryz.sizeOf25 rfl (fun w hw => cells_of_blk (hw.blk 0 rfl)) rfl) rfl rfl (by decide) ?_
              refine H.q (yl_call (xs := [.tmp 69]) Tryz.call66 (stab_hp _ _ _ _) rfl (fun w hw => numbers_any x (.slice ad x.set.length cap) w hl (hv.ext hw.ext))) rfl rfl (by decide) ?_
              refine H.q (yl_assign rfl) rfl rfl (by decide) ?_
              refine HN.done ?_
              refine HN.keep [(2, _), (5, _)] ⟨rfl, rfl, trivial⟩ ?_
              refine HN.then ?_
              refine H.seq ?_
              refine H.seq ?_
              refine H.region ?_
              refine H.q (yl_move rfl) rfl rfl (by decide) ?_
              refine H.q (yl_neq rfl rfl) rfl rfl (by decide) ?_
              refine HN.done ?_
              refine HN.keep [(2, _), (5, _), (72, _)] ⟨rfl, rfl, rfl, trivial⟩ ?_
              refine HN.then ?_
              refine H.cond _ rfl (fun t6 => ?_) (fun t6 => ?_)
              · have hn : numE x ≠ 0 := by simpa using t6
                refine H.keep [(5, _)] ⟨rfl, trivial⟩ ?_
                refine H.seq ?_
                refine H.region ?_
                refine H.q (yl_move rfl) rfl rfl (by decide) ?_
                refine H.q (yl_assign rfl) rfl rfl (by decide) ?_
                refine HN.done ?_
                refine HN.keep [(4, _)] ⟨rfl, trivial⟩ ?_
                refine HN.then ?_
                refine HR.ret ?_
                refine HR.then ?_
                refine HR.ret1 _ Tryz.results30 rfl (fun w hw => ?_)
                exact ⟨by rw [chk_num t0 t1 hk hp hn], hw.ext⟩
              · have hn : numE x = 0 := by simpa using t6
                refine H.keep [(2, _)] ⟨rfl, trivial⟩ ?_
                refine HN.skip ?_
                refine HN.then ?_
                refine H.seq ?_
                refine H.seq ?_
                refine H.regionQ Tryz.mixed (by kernel_rfl) (stab_hp _ _ _ _) ?_
                refine G.q (yl_loadAgg _ Tryz.isAgg25 Tryz.sizeOf25 rfl (fun w hw => cells_of_blk (hw.blk 0 rfl)) rfl) rfl rfl (by decide) ?_
                refine G.q (yl_loadAgg _ Tryz.isAgg25 Tryz.sizeOf25 rfl (fun w hw => cells_of_blk (hw.blk 0 rfl)) rfl) rfl rfl (by decide) ?_
                refine G.q (yl_call (xs := [.tmp 75]) Tryz.call67 (stab_hp _ _ _ _) rfl (fun w hw => bare_any x ad x.set.length cap w)) rfl rfl (by decide) ?_
                refine G.q (yl_call (xs := [.tmp 74, .tmp 76]) Tryz.call16 (stab_hp _ _ _ _) rfl (fun w hw => same_any x (bareI x) (.slice ad x.set.length cap) (.slice (if hasSB x.kind = true then ad else none) (if hasSB x.kind = true then x.set.length else 0) (if hasSB x.kind = true then cap else 0)) w hl (by unfold bareI; cases hasSB x.kind <;> simp [hl]) (hv.ext hw.ext) (ints_bare (hasSB x.kind) (hv.ext hw.ext)))) rfl rfl (by decide) ?_
                refine G.q (yl_not rfl) rfl rfl (by decide) ?_
                refine HN.doneG ?_
                refine HN.keep [(78, _)] ⟨rfl, trivial⟩ ?_
                refine HN.then ?_
                refine H.cond _ rfl (fun t7 => ?_) (fun t7 => ?_)
                · refine H.keep [] trivial ?_
                  refine H.seq ?_
                  refine H.region ?_
                  refine H.q (yl_assign rfl) rfl rfl (by decide) ?_
                  refine HN.done ?_
                  refine HN.keep [(4, _)] ⟨rfl, trivial⟩ ?_
                  refine HN.then ?_
                  refine HR.ret ?_
                  refine HR.then ?_
                  refine HR.ret1 _ Tryz.results30 rfl (fun w hw => ?_)
                  exact ⟨by rw [chk_same t0 t1 hk hp hn, show sameB x (bareI x) = false by simpa using t7]; rfl, hw.ext⟩
                · refine H.keep [] trivial ?_
                  refine HN.skip ?_
                  refine HN.then ?_
                  refine H.seq ?_
                  refine H.region ?_
                  refine H.q (yl_assign rfl) rfl rfl (by decide) ?_
                  refine HN.done ?_
                  refine HN.keep [(4, _)] ⟨rfl, trivial⟩ ?_
                  refine HN.then ?_
                  refine HR.ret ?_
                  refine HR.ret1 _ Tryz.results30 rfl (fun w hw => ?_)
                  exact ⟨by rw [chk_same t0 t1 hk hp hn, show sameB x (bareI x) = true by simpa using t7]; rfl, hw.ext⟩

set_option maxRecDepth 100000 in
theorem index_any (l : List Int) (sv : Value) (n : Int) (w0 : World) (hl : l.length ≤ 4611686018427387904) (hv : IsInts w0 sv l) : Calls Tryz.prog 112 #[sv, .int .i64 n] w0 fun e w' => e = .returned (.int .i64 (idxP (fun y => decide (n = y)) l)) ∧ Ext w0 w' := by
  obtain ⟨ad, cap, b, o, rfl, hcap, hs⟩ := ints_open hv
  refine enterA 19 Tryz.func112 rfl Tryz.ntmps112 rfl (Hp w0 [] [] []) (Hp.init _) ?_
  refine H.seq ?_
  refine H.region ?_
  refine H.q (yl_assign rfl) rfl rfl (by decide) ?_
  refine HN.done ?_
  refine HN.keep [(0, _), (1, _)] ⟨rfl, rfl, trivial⟩ ?_
  refine HN.then ?_
  refine H.seq ?_
  refine H.seq ?_
  refine H.region ?_
  refine H.q (yl_move rfl) rfl rfl (by decide) ?_
  refine H.q (yl_len rfl Tryz.underlying23 rfl) rfl rfl (by decide) ?_
  refine H.q (yl_move rfl) rfl rfl (by decide) ?_
  refine HN.done ?_
  refine HN.keep [(0, _), (1, _), (7, _), (8, _)] ⟨rfl, rfl, rfl, rfl, trivial⟩ ?_
  refine HN.then ?_
  refine H.block ?_
  refine H.loop (fun k : Nat => [(0, .slice ad l.length cap), (1, .int .i64 n), (7, .int .i64 (l.length : Int)), (8, .int .i64 (k : Int))]) (fun k => k ≤ l.length ∧ ∀ j (hj : j < k) (hj2 : j < l.length), ¬ n = l[j]) (fun _ => Hp w0 [] [] []) (fun k => l.length - k) 0 ⟨Nat.zero_le _, fun j hj => by omega⟩ ⟨rfl, rfl, rfl, rfl, trivial⟩ (fun w hw => hw) (fun k hI => ?_)
  obtain ⟨hk0, hk1⟩ := hI
  refine H.seq ?_
  refine H.region ?_
  refine H.q (yl_lss rfl rfl) rfl rfl (by decide) ?_
  refine HN.done ?_
  refine HN.keep [(0, _), (1, _), (7, _), (8, _), (9, _)] ⟨rfl, rfl, rfl, rfl, rfl, trivial⟩ ?_
  refine HN.then ?_
  refine H.seq ?_
  refine H.cond _ rfl (fun t0 => ?_) (fun t0 => ?_)
  · simp only [decide_eq_true_eq] at t0; have hk : k < l.length := by omega
    have hgd : l.getD k 0 = l[k] := by simp [List.getD, hk]
    refine H.keep [(0, _), (1, _), (7, _), (8, _)] ⟨rfl, rfl, rfl, rfl, trivial⟩ ?_
    refine HN.skip ?_
    refine HN.then ?_
    refine H.seq ?_
    refine H.block ?_
    refine H.seq ?_
    refine H.region ?_
    refine H.q (yl_move rfl) rfl rfl (by decide) ?_
    refine H.q (yl_assign rfl) rfl rfl (by decide) ?_
    refine HN.done ?_
    refine HN.keep [(0, _), (1, _), (5, _), (7, _), (8, _)] ⟨rfl, rfl, rfl, rfl, rfl, trivial⟩ ?_
    refine HN.then ?_
    refine H.seq ?_
    refine H.region ?_
    refine H.q (yl_move rfl) rfl rfl (by decide) ?_
    refine H.q (yl_move rfl) rfl rfl (by decide) ?_
    refine H.q (yl_move rfl) rfl rfl (by decide) ?_
    refine H.q (yl_ix k Tryz.underlying23 Tryz.sizeOf2 (hs k hk).1 rfl rfl rfl hk) rfl rfl (by decide) ?_
    refine H.q (yl_load (v := .int .i64 l[k]) Tryz.isAgg2 rfl (fun w hw => by rw [← hgd]; exact cell_ext hw.ext (hs k hk).2)) rfl rfl (by decide) ?_
    refine H.q (yl_eql rfl rfl) rfl rfl (by decide) ?_
    refine HN.done ?_
    refine HN.keep [(0, _), (1, _), (5, _), (7, _), (8, _), (16, _)] ⟨rfl, rfl, rfl, rfl, rfl, rfl, trivial⟩ ?_
    refine HN.then ?_
    refine H.cond _ rfl (fun t1 => ?_) (fun t1 => ?_)
    · simp only [decide_eq_true_eq] at t1
      refine H.keep [(5, _)] ⟨rfl, trivial⟩ ?_
      refine H.seq ?_
      refine H.region ?_
      refine H.q (yl_move rfl) rfl rfl (by decide) ?_
      refine H.q (yl_assign rfl) rfl rfl (by decide) ?_
      refine HN.done ?_
      refine HN.keep [(4, _)] ⟨rfl, trivial⟩ ?_
      refine HN.then ?_
      refine HR.ret ?_
      refine HR.block ?_
      refine HR.then ?_
      refine HR.then ?_
      refine HR.block ?_
      refine HR.then ?_
      refine HR.ret1 _ Tryz.results112 rfl (fun w hw => ?_)
      exact ⟨by rw [idxP_hit k hk (decide_eq_true t1) fun j hj => decide_eq_false (hk1 j hj (by omega))], hw.ext⟩
    · simp only [decide_eq_false_iff_not] at t1
      refine H.keep [(0, _), (1, _), (7, _), (8, _)] ⟨rfl, rfl, rfl, rfl, trivial⟩ ?_
      refine HN.skip ?_
      refine HN.block ?_
      refine HN.then ?_
      refine H.region ?_
      refine H.q (yl_add rfl rfl _ rfl (by omega)) rfl rfl (by decide) ?_
      refine H.q (yl_move rfl) rfl rfl (by decide) ?_
      refine HN.done ?_
      refine HN.keep [(0, _), (1, _), (7, _), (8, _)] ⟨rfl, rfl, rfl, rfl, trivial⟩ ?_
      refine HN.then ?_
      have hn : ∀ j (hj : j < k + 1) (hj2 : j < l.length), ¬ n = l[j] := fun j hj hj2 => by
        by_cases h : j < k
        · exact hk1 j h hj2
        · obtain rfl : j = k := by omega
          exact t1
      exact H.at (k + 1) ⟨⟨by omega, hn⟩, by omega⟩ ⟨rfl, rfl, rfl, rfl, trivial⟩ (fun w hw => hw)
  · simp only [decide_eq_false_iff_not] at t0
    refine H.keep [] trivial ?_
    refine HX.exit ?_
    refine HX.then ?_
    refine HX.then ?_
    refine HX.hit ?_
    refine HN.then ?_
    refine H.seq ?_
    refine H.region ?_
    refine H.q (yl_assign rfl) rfl rfl (by decide) ?_
    refine HN.done ?_
    refine HN.keep [(4, _)] ⟨rfl, trivial⟩ ?_
    refine HN.then ?_
    refine HR.ret ?_
    refine HR.ret1 _ Tryz.results112 rfl (fun w hw => ?_)
    exact ⟨by rw [idxP_miss (p := fun y => decide (n = y)) fun j hj => decide_eq_false (hk1 j (by omega) hj)], hw.ext⟩

set_option maxRecDepth 100000 in
theorem contains_any (l : List Int) (sv : Value) (n : Int) (w0 : World) (hl : l.length ≤ 4611686018427387904) (hv : IsInts w0 sv l) : Calls Tryz.prog 86 #[sv, .int .i64 n] w0 fun e w' => e = .returned (.bool (l.any fun y => decide (n = y))) ∧ Ext w0 w' := by
  refine enterA 9 Tryz.func86 rfl Tryz.ntmps86 rfl (Hp w0 [] [] []) (Hp.init _) ?_
  refine H.seq ?_
  refine H.region ?_
  refine H.q (yl_assign rfl) rfl rfl (by decide) ?_
  refine HN.done ?_
  refine HN.keep [(0, _), (1, _)] ⟨rfl, rfl, trivial⟩ ?_
  refine HN.then ?_
  refine H.seq ?_
  refine H.region ?_
  refine H.q (yl_move rfl) rfl rfl (by decide) ?_
  refine H.q (yl_move rfl) rfl rfl (by decide) ?_
  refine H.q (yl_call (xs := [.tmp 5, .tmp 6]) Tryz.call112 (stab_hp _ _ _ _) rfl (fun w hw => index_any l sv n w hl (hv.ext hw.ext))) rfl rfl (by decide) ?_
  refine H.q (yl_geq rfl rfl) rfl rfl (by decide) ?_
  refine H.q (yl_assign rfl) rfl rfl (by decide) ?_
  refine HN.done ?_
  refine HN.keep [(4, _)] ⟨rfl, trivial⟩ ?_
  refine HN.then ?_
  refine HR.ret ?_
  refine HR.ret1 _ Tryz.results86 rfl (fun w hw => ?_)
  exact ⟨by rw [← idxP_any], hw.ext⟩

set_option maxRecDepth 100000 in
theorem modulo_any (n m : Int) (w0 : World) (hm : 1 ≤ m) (hm2 : m ≤ 2147483647) : Calls Tryz.prog 88 #[.int .i64 n, .int .i64 m] w0 fun e w' => e = .returned (.int .i64 (modI n m)) ∧ Ext w0 w' := by
  have hb := tmod_lt1 (n := n) hm
  refine enterA 12 Tryz.func88 rfl Tryz.ntmps88 rfl (Hp w0 [] [] []) (Hp.init _) ?_
  refine H.seq ?_
  refine H.region ?_
  refine H.q (yl_assign rfl) rfl rfl (by decide) ?_
  refine HN.done ?_
  refine HN.keep [(0, _), (1, _)] ⟨rfl, rfl, trivial⟩ ?_
  refine HN.then ?_
  refine H.seq ?_
  refine H.region ?_
  refine H.q (yl_move rfl) rfl rfl (by decide) ?_
  refine H.q (yl_move rfl) rfl rfl (by decide) ?_
  refine H.q (yl_rem rfl rfl (by omega)) rfl rfl (by decide) ?_
  refine H.q (yl_move rfl) rfl rfl (by decide) ?_
  refine H.q (yl_add rfl rfl _ rfl (by omega)) rfl rfl (by decide) ?_
  refine H.q (yl_move rfl) rfl rfl (by decide) ?_
  refine H.q (yl_rem rfl rfl (by omega)) rfl rfl (by decide) ?_
  refine H.q (yl_assign rfl) rfl rfl (by decide) ?_
  refine HN.done ?_
  refine HN.keep [(4, _)] ⟨rfl, trivial⟩ ?_
  refine HN.then ?_
  refine HR.ret ?_
  refine HR.ret1 _ Tryz.results88 rfl (fun w hw => ?_)
  exact ⟨rfl, hw.ext⟩

set_option maxRecDepth 100000 in
theorem Modulo_any (n m : Int) (w0 : World) (hm : 1 ≤ m) (hm2 : m ≤ 2147483647) : Calls Tryz.prog 81 #[.int .i64 n, .int .i64 m] w0 fun e w' => e = .returned (.int .i64 (modI n m)) ∧ Ext w0 w' := by
  have hb := tmod_lt1 (n := n) hm
  refine enterA 12 Tryz.func81 rfl Tryz.ntmps81 rfl (Hp w0 [] [] []) (Hp.init _) ?_
  refine H.seq ?_
  refine H.region ?_
  refine H.q (yl_assign rfl) rfl rfl (by decide) ?_
  refine HN.done ?_
  refine HN.keep [(0, _), (1, _)] ⟨rfl, rfl, trivial⟩ ?_
  refine HN.then ?_
  refine H.seq ?_
  refine H.region ?_
  refine H.q (yl_move rfl) rfl rfl (by decide) ?_
  refine H.q (yl_move rfl) rfl rfl (by decide) ?_
  refine H.q (yl_rem rfl rfl (by omega)) rfl rfl (by decide) ?_
  refine H.q (yl_move rfl) rfl rfl (by decide) ?_
  refine H.q (yl_add rfl rfl _ rfl (by omega)) rfl rfl (by decide) ?_
  refine H.q (yl_move rfl) rfl rfl (by decide) ?_
  refine H.q (yl_rem rfl rfl (by omega)) rfl rfl (by decide) ?_
  refine H.q (yl_assign rfl) rfl rfl (by decide) ?_
  refine HN.done ?_
  refine HN.keep [(4, _)] ⟨rfl, trivial⟩ ?_
  refine HN.then ?_
  refine HR.ret ?_
  refine HR.ret1 _ Tryz.results81 rfl (fun w hw => ?_)
  exact ⟨rfl, hw.ext⟩

set_option maxRecDepth 100000 in
theorem m177_any (x : Inv) (a b : Int) (sv : Value) (w0 : World) (hl : x.set.length ≤ 4611686018427387904) (hv : IsInts w0 sv x.set) (hx : Safe x) (ha : smallB a = true) (hk : x.kind = 1) : Calls Tryz.prog 177 #[.agg [.int .i64 x.k].toArray, .int .i64 a, .int .i64 b] w0 fun e w' => e = .returned (.bool (holdsB x a b)) ∧ Ext w0 w' := by
  refine enterA 11 Tryz.func177 rfl Tryz.ntmps177 rfl (Hp w0 [] [] []) (Hp.init _) ?_
  refine H.seq ?_
  refine H.region ?_
  refine H.boxA rfl (by decide) (fun b3 hb3 => ?_)
  refine H.q (yl_assign rfl) rfl rfl (by decide) ?_
  refine HN.done ?_
  refine HN.keep [(1, _), (3, _)] ⟨rfl, rfl, trivial⟩ ?_
  refine HN.then ?_
  refine H.seq ?_
  refine H.region ?_
  refine H.q (yl_move rfl) rfl rfl (by decide) ?_
  refine H.q (yl_fieldAddr _ fa71_0 rfl) rfl rfl (by decide) ?_
  refine H.q (yl_load Tryz.isAgg2 rfl (fun w hw => hw.cell 0 rfl rfl)) rfl rfl (by decide) ?_
  refine H.q (yl_eql rfl rfl) rfl rfl (by decide) ?_
  refine H.q (yl_assign rfl) rfl rfl (by decide) ?_
  refine HN.done ?_
  refine HN.keep [(6, _)] ⟨rfl, trivial⟩ ?_
  refine HN.then ?_
  refine HR.ret ?_
  refine HR.ret1 _ Tryz.results177 rfl (fun w hw => ?_)
  refine ⟨?_, hw.ext⟩
  simp [holdsB, hk]

set_option maxRecDepth 100000 in
theorem m178_any (x : Inv) (a b : Int) (sv : Value) (w0 : World) (hl : x.set.length ≤ 4611686018427387904) (hv : IsInts w0 sv x.set) (hx : Safe x) (ha : smallB a = true) (hk : x.kind = 2) : Calls Tryz.prog 178 #[.agg [sv].toArray, .int .i64 a, .int .i64 b] w0 fun e w' => e = .returned (.bool (holdsB x a b)) ∧ Ext w0 w' := by
  obtain ⟨ad, cap, b0, o, rfl, hcap, hs⟩ := ints_open hv
  refine enterA 11 Tryz.func178 rfl Tryz.ntmps178 rfl (Hp w0 [] [] []) (Hp.init _) ?_
  refine H.seq ?_
  refine H.region ?_
  refine H.boxA rfl (by decide) (fun b3 hb3 => ?_)
  refine H.q (yl_assign rfl) rfl rfl (by decide) ?_
  refine HN.done ?_
  refine HN.keep [(1, _), (3, _)] ⟨rfl, rfl, trivial⟩ ?_
  refine HN.then ?_
  refine H.seq ?_
  refine H.region ?_
  refine H.q (yl_fieldAddr _ fa73_0 rfl) rfl rfl (by decide) ?_
  refine H.q (yl_load Tryz.isAgg23 rfl (fun w hw => hw.cell 0 rfl rfl)) rfl rfl (by decide) ?_
  refine H.q (yl_move rfl) rfl rfl (by decide) ?_
  refine H.q (yl_call (xs := [.tmp 8, .tmp 9]) Tryz.call86 (stab_hp _ _ _ _) rfl (fun w hw => contains_any x.set (.slice ad x.set.length cap) a w hl (hv.ext hw.ext))) rfl rfl (by decide) ?_
  refine H.q (yl_assign rfl) rfl rfl (by decide) ?_
  refine HN.done ?_
  refine HN.keep [(6, _)] ⟨rfl, trivial⟩ ?_
  refine HN.then ?_
  refine HR.ret ?_
  refine HR.ret1 _ Tryz.results178 rfl (fun w hw => ?_)
  refine ⟨?_, hw.ext⟩
  simp [holdsB, hk]

set_option maxRecDepth 100000 in
theorem m179_any (x : Inv) (a b : Int) (sv : Value) (w0 : World) (hl : x.set.length ≤ 4611686018427387904) (hv : IsInts w0 sv x.set) (hx : Safe x) (ha : smallB a = true) (hk : x.kind = 3) : Calls Tryz.prog 179 #[.agg [.int .i64 x.k].toArray, .int .i64 a, .int .i64 b] w0 fun e w' => e = .returned (.bool (holdsB x a b)) ∧ Ext w0 w' := by
  refine enterA 11 Tryz.func179 rfl Tryz.ntmps179 rfl (Hp w0 [] [] []) (Hp.init _) ?_
  refine H.seq ?_
  refine H.region ?_
  refine H.boxA rfl (by decide) (fun b3 hb3 => ?_)
  refine H.q (yl_assign rfl) rfl rfl (by decide) ?_
  refine HN.done ?_
  refine HN.keep [(1, _), (3, _)] ⟨rfl, rfl, trivial⟩ ?_
  refine HN.then ?_
  refine H.seq ?_
  refine H.region ?_
  refine H.q (yl_move rfl) rfl rfl (by decide) ?_
  refine H.q (yl_fieldAddr _ fa74_0 rfl) rfl rfl (by decide) ?_
  refine H.q (yl_load Tryz.isAgg2 rfl (fun w hw => hw.cell 0 rfl rfl)) rfl rfl (by decide) ?_
  refine H.q (yl_geq rfl rfl) rfl rfl (by decide) ?_
  refine H.q (yl_assign rfl) rfl rfl (by decide) ?_
  refine HN.done ?_
  refine HN.keep [(6, _)] ⟨rfl, trivial⟩ ?_
  refine HN.then ?_
  refine HR.ret ?_
  refine HR.ret1 _ Tryz.results179 rfl (fun w hw => ?_)
  refine ⟨?_, hw.ext⟩
  simp [holdsB, hk]

set_option maxRecDepth 100000 in
theorem m180_any (x : Inv) (a b : Int) (sv : Value) (w0 : World) (hl : x.set.length ≤ 4611686018427387904) (hv : IsInts w0 sv x.set) (hx : Safe x) (ha : smallB a = true) (hk : x.kind = 4) : Calls Tryz.prog 180 #[.agg [.int .i64 x.k].toArray, .int .i64 a, .int .i64 b] w0 fun e w' => e = .returned (.bool (holdsB x a b)) ∧ Ext w0 w' := by
  refine enterA 11 Tryz.func180 rfl Tryz.ntmps180 rfl (Hp w0 [] [] []) (Hp.init _) ?_
  refine H.seq ?_
  refine H.region ?_
  refine H.boxA rfl (by decide) (fun b3 hb3 => ?_)
  refine H.q (yl_assign rfl) rfl rfl (by decide) ?_
  refine HN.done ?_
  refine HN.keep [(1, _), (3, _)] ⟨rfl, rfl, trivial⟩ ?_
  refine HN.then ?_
  refine H.seq ?_
  refine H.region ?_
  refine H.q (yl_move rfl) rfl rfl (by decide) ?_
  refine H.q (yl_fieldAddr _ fa75_0 rfl) rfl rfl (by decide) ?_
  refine H.q (yl_load Tryz.isAgg2 rfl (fun w hw => hw.cell 0 rfl rfl)) rfl rfl (by decide) ?_
  refine H.q (yl_leq rfl rfl) rfl rfl (by decide) ?_
  refine H.q (yl_assign rfl) rfl rfl (by decide) ?_
  refine HN.done ?_
  refine HN.keep [(6, _)] ⟨rfl, trivial⟩ ?_
  refine HN.then ?_
  refine HR.ret ?_
  refine HR.ret1 _ Tryz.results180 rfl (fun w hw => ?_)
  refine ⟨?_, hw.ext⟩
  simp [holdsB, hk]

set_option maxRecDepth 100000 in
theorem m181_any (x : Inv) (a b : Int) (sv : Value) (w0 : World) (hl : x.set.length ≤ 4611686018427387904) (hv : IsInts w0 sv x.set) (hx : Safe x) (ha : smallB a = true) (hk : x.kind = 5) : Calls Tryz.prog 181 #[.agg [].toArray, .int .i64 a, .int .i64 b] w0 fun e w' => e = .returned (.bool (holdsB x a b)) ∧ Ext w0 w' := by
  refine enterA 9 Tryz.func181 rfl Tryz.ntmps181 rfl (Hp w0 [] [] []) (Hp.init _) ?_
  refine H.seq ?_
  refine H.region ?_
  refine H.boxA rfl (by decide) (fun b3 hb3 => ?_)
  refine H.q (yl_assign rfl) rfl rfl (by decide) ?_
  refine HN.done ?_
  refine HN.keep [(1, _)] ⟨rfl, trivial⟩ ?_
  refine HN.then ?_
  refine H.seq ?_
  refine H.region ?_
  refine H.q (yl_move rfl) rfl rfl (by decide) ?_
  refine H.q (yl_neq rfl rfl) rfl rfl (by decide) ?_
  refine H.q (yl_assign rfl) rfl rfl (by decide) ?_
  refine HN.done ?_
  refine HN.keep [(6, _)] ⟨rfl, trivial⟩ ?_
  refine HN.then ?_
  refine HR.ret ?_
  refine HR.ret1 _ Tryz.results181 rfl (fun w hw => ?_)
  refine ⟨?_, hw.ext⟩
  simp [holdsB, hk]

set_option maxRecDepth 100000 in
theorem m182_any (x : Inv) (a b : Int) (sv : Value) (w0 : World) (hl : x.set.length ≤ 4611686018427387904) (hv : IsInts w0 sv x.set) (hx : Safe x) (ha : smallB a = true) (hk : x.kind = 6) : Calls Tryz.prog 182 #[.agg [.int .i64 x.k, .int .i64 x.m].toArray, .int .i64 a, .int .i64 b] w0 fun e w' => e = .returned (.bool (holdsB x a b)) ∧ Ext w0 w' := by
  refine enterA 14 Tryz.func182 rfl Tryz.ntmps182 rfl (Hp w0 [] [] []) (Hp.init _) ?_
  refine H.seq ?_
  refine H.region ?_
  refine H.boxA rfl (by decide) (fun b3 hb3 => ?_)
  refine H.q (yl_assign rfl) rfl rfl (by decide) ?_
  refine HN.done ?_
  refine HN.keep [(1, _), (3, _)] ⟨rfl, rfl, trivial⟩ ?_
  refine HN.then ?_
  refine H.seq ?_
  refine H.regionQ Tryz.mixed (by kernel_rfl) (stab_hp _ _ _ _) ?_
  refine G.q (yl_move rfl) rfl rfl (by decide) ?_
  refine G.q (yl_fieldAddr _ fa79_1 rfl) rfl rfl (by decide) ?_
  refine G.q (yl_load Tryz.isAgg2 rfl (fun w hw => hw.cell 0 rfl rfl)) rfl rfl (by decide) ?_
  refine G.q (yl_call (xs := [.tmp 7, .tmp 9]) Tryz.call88 (stab_hp _ _ _ _) rfl (fun w hw => modulo_any a x.m w (by have := hx.2.2 hk; omega) (small_le hx.2.1).2)) rfl rfl (by decide) ?_
  refine G.q (yl_fieldAddr _ fa79_0 rfl) rfl rfl (by decide) ?_
  refine G.q (yl_load Tryz.isAgg2 rfl (fun w hw => hw.cell 0 rfl rfl)) rfl rfl (by decide) ?_
  refine G.q (yl_eql rfl rfl) rfl rfl (by decide) ?_
  refine G.q (yl_assign rfl) rfl rfl (by decide) ?_
  refine HN.doneG ?_
  refine HN.keep [(6, _)] ⟨rfl, trivial⟩ ?_
  refine HN.then ?_
  refine HR.ret ?_
  refine HR.ret1 _ Tryz.results182 rfl (fun w hw => ?_)
  refine ⟨?_, hw.ext⟩
  simp [holdsB, hk]

set_option maxRecDepth 100000 in
theorem m183_any (x : Inv) (a b : Int) (sv : Value) (w0 : World) (hl : x.set.length ≤ 4611686018427387904) (hv : IsInts w0 sv x.set) (hx : Safe x) (ha : smallB a = true) (hk : x.kind = 7) : Calls Tryz.prog 183 #[.agg [].toArray, .int .i64 a, .int .i64 b] w0 fun e w' => e = .returned (.bool (holdsB x a b)) ∧ Ext w0 w' := by
  refine enterA 10 Tryz.func183 rfl Tryz.ntmps183 rfl (Hp w0 [] [] []) (Hp.init _) ?_
  refine H.seq ?_
  refine H.region ?_
  refine H.boxA rfl (by decide) (fun b3 hb3 => ?_)
  refine H.q (yl_assign rfl) rfl rfl (by decide) ?_
  refine HN.done ?_
  refine HN.keep [(1, _), (2, _)] ⟨rfl, rfl, trivial⟩ ?_
  refine HN.then ?_
  refine H.seq ?_
  refine H.region ?_
  refine H.q (yl_move rfl) rfl rfl (by decide) ?_
  refine H.q (yl_move rfl) rfl rfl (by decide) ?_
  refine H.q (yl_eql rfl rfl) rfl rfl (by decide) ?_
  refine H.q (yl_assign rfl) rfl rfl (by decide) ?_
  refine HN.done ?_
  refine HN.keep [(6, _)] ⟨rfl, trivial⟩ ?_
  refine HN.then ?_
  refine HR.ret ?_
  refine HR.ret1 _ Tryz.results183 rfl (fun w hw => ?_)
  refine ⟨?_, hw.ext⟩
  simp [holdsB, hk]

set_option maxRecDepth 100000 in
theorem m184_any (x : Inv) (a b : Int) (sv : Value) (w0 : World) (hl : x.set.length ≤ 4611686018427387904) (hv : IsInts w0 sv x.set) (hx : Safe x) (ha : smallB a = true) (hk : x.kind = 8) : Calls Tryz.prog 184 #[.agg [].toArray, .int .i64 a, .int .i64 b] w0 fun e w' => e = .returned (.bool (holdsB x a b)) ∧ Ext w0 w' := by
  refine enterA 10 Tryz.func184 rfl Tryz.ntmps184 rfl (Hp w0 [] [] []) (Hp.init _) ?_
  refine H.seq ?_
  refine H.region ?_
  refine H.boxA rfl (by decide) (fun b3 hb3 => ?_)
  refine H.q (yl_assign rfl) rfl rfl (by decide) ?_
  refine HN.done ?_
  refine HN.keep [(1, _), (2, _)] ⟨rfl, rfl, trivial⟩ ?_
  refine HN.then ?_
  refine H.seq ?_
  refine H.region ?_
  refine H.q (yl_move rfl) rfl rfl (by decide) ?_
  refine H.q (yl_move rfl) rfl rfl (by decide) ?_
  refine H.q (yl_neq rfl rfl) rfl rfl (by decide) ?_
  refine H.q (yl_assign rfl) rfl rfl (by decide) ?_
  refine HN.done ?_
  refine HN.keep [(6, _)] ⟨rfl, trivial⟩ ?_
  refine HN.then ?_
  refine HR.ret ?_
  refine HR.ret1 _ Tryz.results184 rfl (fun w hw => ?_)
  refine ⟨?_, hw.ext⟩
  simp [holdsB, hk]

set_option maxRecDepth 100000 in
theorem m185_any (x : Inv) (a b : Int) (sv : Value) (w0 : World) (hl : x.set.length ≤ 4611686018427387904) (hv : IsInts w0 sv x.set) (hx : Safe x) (ha : smallB a = true) (hk : x.kind = 9) : Calls Tryz.prog 185 #[.agg [].toArray, .int .i64 a, .int .i64 b] w0 fun e w' => e = .returned (.bool (holdsB x a b)) ∧ Ext w0 w' := by
  refine enterA 10 Tryz.func185 rfl Tryz.ntmps185 rfl (Hp w0 [] [] []) (Hp.init _) ?_
  refine H.seq ?_
  refine H.region ?_
  refine H.boxA rfl (by decide) (fun b3 hb3 => ?_)
  refine H.q (yl_assign rfl) rfl rfl (by decide) ?_
  refine HN.done ?_
  refine HN.keep [(1, _), (2, _)] ⟨rfl, rfl, trivial⟩ ?_
  refine HN.then ?_
  refine H.seq ?_
  refine H.region ?_
  refine H.q (yl_move rfl) rfl rfl (by decide) ?_
  refine H.q (yl_move rfl) rfl rfl (by decide) ?_
  refine H.q (yl_lss rfl rfl) rfl rfl (by decide) ?_
  refine H.q (yl_assign rfl) rfl rfl (by decide) ?_
  refine HN.done ?_
  refine HN.keep [(6, _)] ⟨rfl, trivial⟩ ?_
  refine HN.then ?_
  refine HR.ret ?_
  refine HR.ret1 _ Tryz.results185 rfl (fun w hw => ?_)
  refine ⟨?_, hw.ext⟩
  simp [holdsB, hk]

set_option maxRecDepth 100000 in
theorem m186_any (x : Inv) (a b : Int) (sv : Value) (w0 : World) (hl : x.set.length ≤ 4611686018427387904) (hv : IsInts w0 sv x.set) (hx : Safe x) (ha : smallB a = true) (hk : x.kind = 10) : Calls Tryz.prog 186 #[.agg [].toArray, .int .i64 a, .int .i64 b] w0 fun e w' => e = .returned (.bool (holdsB x a b)) ∧ Ext w0 w' := by
  refine enterA 10 Tryz.func186 rfl Tryz.ntmps186 rfl (Hp w0 [] [] []) (Hp.init _) ?_
  refine H.seq ?_
  refine H.region ?_
  refine H.boxA rfl (by decide) (fun b3 hb3 => ?_)
  refine H.q (yl_assign rfl) rfl rfl (by decide) ?_
  refine HN.done ?_
  refine HN.keep [(1, _), (2, _)] ⟨rfl, rfl, trivial⟩ ?_
  refine HN.then ?_
  refine H.seq ?_
  refine H.region ?_
  refine H.q (yl_move rfl) rfl rfl (by decide) ?_
  refine H.q (yl_move rfl) rfl rfl (by decide) ?_
  refine H.q (yl_leq rfl rfl) rfl rfl (by decide) ?_
  refine H.q (yl_assign rfl) rfl rfl (by decide) ?_
  refine HN.done ?_
  refine HN.keep [(6, _)] ⟨rfl, trivial⟩ ?_
  refine HN.then ?_
  refine HR.ret ?_
  refine HR.ret1 _ Tryz.results186 rfl (fun w hw => ?_)
  refine ⟨?_, hw.ext⟩
  simp [holdsB, hk]

set_option maxRecDepth 100000 in
theorem m187_any (x : Inv) (a b : Int) (sv : Value) (w0 : World) (hl : x.set.length ≤ 4611686018427387904) (hv : IsInts w0 sv x.set) (hx : Safe x) (ha : smallB a = true) (hk : x.kind = 11) : Calls Tryz.prog 187 #[.agg [.int .i64 x.k, .int .i64 x.m].toArray, .int .i64 a, .int .i64 b] w0 fun e w' => e = .returned (.bool (holdsB x a b)) ∧ Ext w0 w' := by
  have h1 := mul_small hx.1 ha
  have h2 := small_le hx.2.1
  refine enterA 16 Tryz.func187 rfl Tryz.ntmps187 rfl (Hp w0 [] [] []) (Hp.init _) ?_
  refine H.seq ?_
  refine H.region ?_
  refine H.boxA rfl (by decide) (fun b3 hb3 => ?_)
  refine H.q (yl_assign rfl) rfl rfl (by decide) ?_
  refine HN.done ?_
  refine HN.keep [(1, _), (2, _), (3, _)] ⟨rfl, rfl, rfl, trivial⟩ ?_
  refine HN.then ?_
  refine H.seq ?_
  refine H.region ?_
  refine H.q (yl_move rfl) rfl rfl (by decide) ?_
  refine H.q (yl_fieldAddr _ fa119_0 rfl) rfl rfl (by decide) ?_
  refine H.q (yl_load Tryz.isAgg2 rfl (fun w hw => hw.cell 0 rfl rfl)) rfl rfl (by decide) ?_
  refine H.q (yl_move rfl) rfl rfl (by decide) ?_
  refine H.q (yl_mul rfl rfl _ rfl (by omega)) rfl rfl (by decide) ?_
  refine H.q (yl_fieldAddr _ fa119_1 rfl) rfl rfl (by decide) ?_
  refine H.q (yl_load Tryz.isAgg2 rfl (fun w hw => hw.cell 0 rfl rfl)) rfl rfl (by decide) ?_
  refine H.q (yl_add rfl rfl _ rfl (by omega)) rfl rfl (by decide) ?_
  refine H.q (yl_eql rfl rfl) rfl rfl (by decide) ?_
  refine H.q (yl_assign rfl) rfl rfl (by decide) ?_
  refine HN.done ?_
  refine HN.keep [(6, _)] ⟨rfl, trivial⟩ ?_
  refine HN.then ?_
  refine HR.ret ?_
  refine HR.ret1 _ Tryz.results187 rfl (fun w hw => ?_)
  refine ⟨?_, hw.ext⟩
  simp [holdsB, hk]

end Go.Proofs.YtgbgddmbooaddaaGreatDoor

namespace Go.Proofs.YtgbgddmbooaddaaGreatDoor
open Go.RowKit


theorem claim_method (x : Inv) (ad : Option Addr) (n cap : Nat) (hk : kindB x.kind = true) (w : World) : (method (Tryz.prog.types.size + Made.depth) (claimT x.kind) (claimA x (.slice ad n cap)) "sleuth/learn.holds").run Tryz.prog w = .ok (claimM x.kind, claimA x (.slice ad n cap)) w := by
  obtain ⟨kd, a, b, k, m, set⟩ := x
  rcases kind_cases hk with h | h | h | h | h | h | h | h | h | h | h <;> simp only at h <;> subst h <;> kernel_rfl
theorem claim_nilAhead (x : Inv) (ad : Option Addr) (n cap : Nat) (hk : kindB x.kind = true) (w : World) : (nilAhead (Tryz.prog.types.size + Made.depth) (claimT x.kind) (claimA x (.slice ad n cap)) "sleuth/learn.holds").run Tryz.prog w = .ok (some false) w := by
  obtain ⟨kd, a, b, k, m, set⟩ := x
  rcases kind_cases hk with h | h | h | h | h | h | h | h | h | h | h <;> simp only at h <;> subst h <;> kernel_rfl
theorem claim_call {k : Int} (hk : kindB k = true) (args : Array Value) (w : World) : (callFunc (claimM k) args).run Tryz.prog w = .ok (.enter (claimM k) args) w := by
  rcases kind_cases hk with rfl | rfl | rfl | rfl | rfl | rfl | rfl | rfl | rfl | rfl | rfl
  · exact Tryz.call177 args w
  · exact Tryz.call178 args w
  · exact Tryz.call179 args w
  · exact Tryz.call180 args w
  · exact Tryz.call181 args w
  · exact Tryz.call182 args w
  · exact Tryz.call183 args w
  · exact Tryz.call184 args w
  · exact Tryz.call185 args w
  · exact Tryz.call186 args w
  · exact Tryz.call187 args w
theorem claim_holds (x : Inv) (a b : Int) (sv : Value) (w0 : World) (hl : x.set.length ≤ 4611686018427387904) (hv : IsInts w0 sv x.set) (hx : Safe x) (ha : smallB a = true) (hk : kindB x.kind = true) : Calls Tryz.prog (claimM x.kind) #[claimA x sv, .int .i64 a, .int .i64 b] w0 fun e w' => e = .returned (.bool (holdsB x a b)) ∧ Ext w0 w' := by
  rcases kind_cases hk with h | h | h | h | h | h | h | h | h | h | h
  · have := m177_any x a b sv w0 hl hv hx ha h; rw [show claimM x.kind = 177 by rw [h]; rfl, show claimA x sv = .agg [.int .i64 x.k].toArray by simp [claimA, h]]; exact this
  · have := m178_any x a b sv w0 hl hv hx ha h; rw [show claimM x.kind = 178 by rw [h]; rfl, show claimA x sv = .agg [sv].toArray by simp [claimA, h]]; exact this
  · have := m179_any x a b sv w0 hl hv hx ha h; rw [show claimM x.kind = 179 by rw [h]; rfl, show claimA x sv = .agg [.int .i64 x.k].toArray by simp [claimA, h]]; exact this
  · have := m180_any x a b sv w0 hl hv hx ha h; rw [show claimM x.kind = 180 by rw [h]; rfl, show claimA x sv = .agg [.int .i64 x.k].toArray by simp [claimA, h]]; exact this
  · have := m181_any x a b sv w0 hl hv hx ha h; rw [show claimM x.kind = 181 by rw [h]; rfl, show claimA x sv = .agg [].toArray by simp [claimA, h]]; exact this
  · have := m182_any x a b sv w0 hl hv hx ha h; rw [show claimM x.kind = 182 by rw [h]; rfl, show claimA x sv = .agg [.int .i64 x.k, .int .i64 x.m].toArray by simp [claimA, h]]; exact this
  · have := m183_any x a b sv w0 hl hv hx ha h; rw [show claimM x.kind = 183 by rw [h]; rfl, show claimA x sv = .agg [].toArray by simp [claimA, h]]; exact this
  · have := m184_any x a b sv w0 hl hv hx ha h; rw [show claimM x.kind = 184 by rw [h]; rfl, show claimA x sv = .agg [].toArray by simp [claimA, h]]; exact this
  · have := m185_any x a b sv w0 hl hv hx ha h; rw [show claimM x.kind = 185 by rw [h]; rfl, show claimA x sv = .agg [].toArray by simp [claimA, h]]; exact this
  · have := m186_any x a b sv w0 hl hv hx ha h; rw [show claimM x.kind = 186 by rw [h]; rfl, show claimA x sv = .agg [].toArray by simp [claimA, h]]; exact this
  · have := m187_any x a b sv w0 hl hv hx ha h; rw [show claimM x.kind = 187 by rw [h]; rfl, show claimA x sv = .agg [.int .i64 x.k, .int .i64 x.m].toArray by simp [claimA, h]]; exact this
theorem claimOf_some (x : Inv) (ad : Option Addr) (sn cap : Nat) (w0 : World) (hk : kindB x.kind = true) : Calls Tryz.prog 39 #[.agg [.int .u8 x.kind, .int .i64 x.a, .int .i64 x.b, .int .i64 x.k, .int .i64 x.m, .slice ad sn cap].toArray] w0 fun e w' => e = .returned (.iface (claimT x.kind) (claimA x (.slice ad sn cap))) ∧ Ext w0 w' := by
  have h := claimOf_any x ad sn cap w0
  rwa [if_neg (fun h0 => by rw [claimT_none h0] at hk; cases hk)] at h

set_option maxRecDepth 100000 in
theorem hold_any (x : Inv) (sv : Value) (w0 : World) (hl : x.set.length ≤ 4611686018427387904) (hv : IsInts w0 sv x.set) (row : List Int) (rv : Value) (hr : row.length ≤ 4611686018427387904) (hrv : IsInts w0 rv row) (hch : chk x row.length = 0) (hsm : allSmallB row = true) : Calls Tryz.prog 54 #[(.agg [.int .u8 x.kind, .int .i64 x.a, .int .i64 x.b, .int .i64 x.k, .int .i64 x.m, sv].toArray), rv] w0 fun e w' => e = .returned (.bool (holdsR x row)) ∧ Ext w0 w' := by
  obtain ⟨ad, cap, b, o, rfl, hcap, hs⟩ := ints_open hv
  obtain ⟨ad1, cap1, b1, o1, rfl, hcap1, hs1⟩ := ints_open hrv
  obtain ⟨ha0, ha1, hb0, hb1⟩ := chk_in hch
  have hsafe := chk_safe hch
  have hk := (chk_zero hch).2.2.1
  have hla : x.a.toNat < row.length := by omega
  have hlb : x.b.toNat < row.length := by omega
  have hsa : smallB (row.getD x.a.toNat 0) = true := allSmall_get hsm hla
  refine enterA 21 Tryz.func54 rfl Tryz.ntmps54 rfl (Hp w0 [] [] []) (Hp.init _) ?_
  refine H.seq ?_
  refine H.region ?_
  refine H.boxA rfl (by decide) (fun b2 hb2 => ?_)
  refine H.q (yl_assign rfl) rfl rfl (by decide) ?_
  refine HN.done ?_
  refine HN.keep [(1, _), (2, _)] ⟨rfl, rfl, trivial⟩ ?_
  refine HN.then ?_
  refine H.seq ?_
  refine H.regionQ Tryz.mixed (by kernel_rfl) (stab_hp _ _ _ _) ?_
  refine G.q (yl_loadAgg _ Tryz.isAgg25 Tryz.sizeOf25 rfl (fun w hw => cells_of_blk (hw.blk 0 rfl)) rfl) rfl rfl (by decide) ?_
  refine G.q (yl_call (xs := [.tmp 5]) Tryz.call39 (stab_hp _ _ _ _) rfl (fun w hw => claimOf_some x ad x.set.length cap w hk)) rfl rfl (by decide) ?_
  refine G.q (yl_move rfl) rfl rfl (by decide) ?_
  refine G.q (yl_fieldAddr _ fa25_1 rfl) rfl rfl (by decide) ?_
  refine G.q (yl_load Tryz.isAgg3 rfl (fun w hw => hw.cell 0 rfl rfl)) rfl rfl (by decide) ?_
  refine G.q (yl_ix x.a.toNat Tryz.underlying23 Tryz.sizeOf2 (hs1 x.a.toNat hla).1 rfl rfl (by omega) hla) rfl rfl (by decide) ?_
  refine G.q (yl_load Tryz.isAgg2 rfl (fun w hw => cell_ext hw.ext (hs1 x.a.toNat hla).2)) rfl rfl (by decide) ?_
  refine G.q (yl_move rfl) rfl rfl (by decide) ?_
  refine G.q (yl_fieldAddr _ fa25_2 rfl) rfl rfl (by decide) ?_
  refine G.q (yl_load Tryz.isAgg3 rfl (fun w hw => hw.cell 0 rfl rfl)) rfl rfl (by decide) ?_
  refine G.q (yl_ix x.b.toNat Tryz.underlying23 Tryz.sizeOf2 (hs1 x.b.toNat hlb).1 rfl rfl (by omega) hlb) rfl rfl (by decide) ?_
  refine G.q (yl_load Tryz.isAgg2 rfl (fun w hw => cell_ext hw.ext (hs1 x.b.toNat hlb).2)) rfl rfl (by decide) ?_
  refine G.q (yl_makeMethod rfl) rfl rfl (by decide) ?_
  refine G.q (yl_nilCheckM rfl (claim_nilAhead x ad x.set.length cap hk)) rfl rfl (by decide) ?_
  refine G.q (yl_move rfl) rfl rfl (by decide) ?_
  refine G.q (yl_invoke (xs := [.tmp 11, .tmp 16]) rfl (claim_method x ad x.set.length cap hk) (claim_call hk) (stab_hp _ _ _ _) rfl (fun w hw => claim_holds x _ _ (.slice ad x.set.length cap) w hl (hv.ext hw.ext) hsafe hsa hk)) rfl rfl (by decide) ?_
  refine G.q (yl_assign rfl) rfl rfl (by decide) ?_
  refine HN.doneG ?_
  refine HN.keep [(4, _)] ⟨rfl, trivial⟩ ?_
  refine HN.then ?_
  refine HR.ret ?_
  refine HR.ret1 _ Tryz.results54 rfl (fun w hw => ?_)
  exact ⟨rfl, hw.ext⟩

set_option maxRecDepth 100000 in
theorem refHold_any (x : Inv) (sv : Value) (w0 : World) (hl : x.set.length ≤ 4611686018427387904) (hv : IsInts w0 sv x.set) (row : List Int) (rv : Value) (hr : row.length ≤ 4611686018427387904) (hrv : IsInts w0 rv row) (hch : chk x row.length = 0) (hsm : allSmallB row = true) : Calls Tryz.prog 55 #[(.agg [.int .u8 x.kind, .int .i64 x.a, .int .i64 x.b, .int .i64 x.k, .int .i64 x.m, sv].toArray), rv] w0 fun e w' => e = .returned (.bool (holdsR x row)) ∧ Ext w0 w' := by
  obtain ⟨ad, cap, b, o, rfl, hcap, hs⟩ := ints_open hv
  obtain ⟨ad1, cap1, b1, o1, rfl, hcap1, hs1⟩ := ints_open hrv
  obtain ⟨ha0, ha1, hb0, hb1⟩ := chk_in hch
  have hsafe := chk_safe hch
  have hk := (chk_zero hch).2.2.1
  have hla : x.a.toNat < row.length := by omega
  have hlb : x.b.toNat < row.length := by omega
  have hsa : smallB (row.getD x.a.toNat 0) = true := allSmall_get hsm hla
  refine enterA 96 Tryz.func55 rfl Tryz.ntmps55 rfl (Hp w0 [] [] []) (Hp.init _) ?_
  refine H.seq ?_
  refine H.region ?_
  refine H.boxA rfl (by decide) (fun b2 hb2 => ?_)
  refine H.q (yl_assign rfl) rfl rfl (by decide) ?_
  refine HN.done ?_
  refine HN.keep [(1, _), (2, _)] ⟨rfl, rfl, trivial⟩ ?_
  refine HN.then ?_
  refine H.seq ?_
  refine H.regionQ Tryz.mixed (by kernel_rfl) (stab_hp _ _ _ _) ?_
  refine G.q (yl_move rfl) rfl rfl (by decide) ?_
  refine G.q (yl_fieldAddr _ fa25_1 rfl) rfl rfl (by decide) ?_
  refine G.q (yl_load Tryz.isAgg3 rfl (fun w hw => hw.cell 0 rfl rfl)) rfl rfl (by decide) ?_
  refine G.q (yl_ix x.a.toNat Tryz.underlying23 Tryz.sizeOf2 (hs1 x.a.toNat hla).1 rfl rfl (by omega) hla) rfl rfl (by decide) ?_
  refine G.q (yl_load Tryz.isAgg2 rfl (fun w hw => cell_ext hw.ext (hs1 x.a.toNat hla).2)) rfl rfl (by decide) ?_
  refine G.q (yl_move rfl) rfl rfl (by decide) ?_
  refine G.q (yl_fieldAddr _ fa25_2 rfl) rfl rfl (by decide) ?_
  refine G.q (yl_load Tryz.isAgg3 rfl (fun w hw => hw.cell 0 rfl rfl)) rfl rfl (by decide) ?_
  refine G.q (yl_ix x.b.toNat Tryz.underlying23 Tryz.sizeOf2 (hs1 x.b.toNat hlb).1 rfl rfl (by omega) hlb) rfl rfl (by decide) ?_
  refine G.q (yl_load Tryz.isAgg2 rfl (fun w hw => cell_ext hw.ext (hs1 x.b.toNat hlb).2)) rfl rfl (by decide) ?_
  refine G.q (yl_assign rfl) rfl rfl (by decide) ?_
  refine G.q (yl_assign rfl) rfl rfl (by decide) ?_
  refine HN.doneG ?_
  refine HN.keep [(2, _), (5, _), (6, _)] ⟨rfl, rfl, rfl, trivial⟩ ?_
  refine HN.then ?_
  refine H.seq ?_
  refine H.seq ?_
  refine H.region ?_
  refine H.q (yl_fieldAddr _ fa25_0 rfl) rfl rfl (by decide) ?_
  refine H.q (yl_load Tryz.isAgg22 rfl (fun w hw => hw.cell 0 rfl rfl)) rfl rfl (by decide) ?_
  refine HN.done ?_
  refine HN.keep [(2, _), (5, _), (6, _), (19, _)] ⟨rfl, rfl, rfl, rfl, trivial⟩ ?_
  refine HN.then ?_
  refine H.block ?_
  refine H.seq ?_
  refine H.region ?_
  refine H.q (yl_eql rfl rfl) rfl rfl (by decide) ?_
  refine H.q (yl_assign rfl) rfl rfl (by decide) ?_
  refine HN.done ?_
  refine HN.keep [(2, _), (5, _), (6, _), (19, _), (20, _)] ⟨rfl, rfl, rfl, rfl, rfl, trivial⟩ ?_
  refine HN.then ?_
  refine H.cond _ rfl (fun t0 => ?_) (fun t0 => ?_)
  · refine H.keep [(2, _), (5, _)] ⟨rfl, rfl, trivial⟩ ?_
    refine H.seq ?_
    refine H.region ?_
    refine H.q (yl_move rfl) rfl rfl (by decide) ?_
    refine H.q (yl_fieldAddr _ fa25_3 rfl) rfl rfl (by decide) ?_
    refine H.q (yl_load Tryz.isAgg2 rfl (fun w hw => hw.cell 0 rfl rfl)) rfl rfl (by decide) ?_
    refine H.q (yl_eql rfl rfl) rfl rfl (by decide) ?_
    refine H.q (yl_assign rfl) rfl rfl (by decide) ?_
    refine HN.done ?_
    refine HN.keep [(4, _)] ⟨rfl, trivial⟩ ?_
    refine HN.then ?_
    refine HR.ret ?_
    refine HR.block ?_
    refine HR.then ?_
    refine HR.ret1 _ Tryz.results55 rfl (fun w hw => ?_)
    refine ⟨?_, hw.ext⟩
    clear hw
    simp only [decide_eq_true_eq, decide_eq_false_iff_not] at *
    simp [holdsR, holdsB, *]
  · refine H.keep [(2, _), (5, _), (6, _), (19, _)] ⟨rfl, rfl, rfl, rfl, trivial⟩ ?_
    refine H.seq ?_
    refine H.region ?_
    refine H.q (yl_eql rfl rfl) rfl rfl (by decide) ?_
    refine H.q (yl_assign rfl) rfl rfl (by decide) ?_
    refine HN.done ?_
    refine HN.keep [(2, _), (5, _), (6, _), (19, _), (26, _)] ⟨rfl, rfl, rfl, rfl, rfl, trivial⟩ ?_
    refine HN.then ?_
    refine H.cond _ rfl (fun t1 => ?_) (fun t1 => ?_)
    · refine H.keep [(2, _), (5, _)] ⟨rfl, rfl, trivial⟩ ?_
      refine H.seq ?_
      refine H.seq ?_
      refine H.region ?_
      refine H.q (yl_assign rfl) rfl rfl (by decide) ?_
      refine HN.done ?_
      refine HN.keep [(2, _), (5, _), (7, _)] ⟨rfl, rfl, rfl, trivial⟩ ?_
      refine HN.then ?_
      refine H.block ?_
      refine H.loop (fun k : Nat => [(2, .pointer (some ⟨b2, 0, none⟩)), (5, .int .i64 (row.getD x.a.toNat 0)), (7, .int .i64 (k : Int))]) (fun k => k ≤ x.set.length ∧ ∀ j (hj : j < k) (hj2 : j < x.set.length), ¬ row.getD x.a.toNat 0 = x.set[j]) (fun _ => Hp w0 [(b2, ex (.cells [.int .u8 x.kind, .int .i64 x.a, .int .i64 x.b, .int .i64 x.k, .int .i64 x.m, .slice ad x.set.length cap].toArray 25))] [] []) (fun k => x.set.length - k) 0 ⟨Nat.zero_le _, fun j hj => by omega⟩ ⟨rfl, rfl, rfl, trivial⟩ (fun w hw => hw) (fun k hI => ?_)
      obtain ⟨hk0, hk1⟩ := hI
      refine H.seq ?_
      refine H.seq ?_
      refine H.region ?_
      refine H.q (yl_move rfl) rfl rfl (by decide) ?_
      refine H.q (yl_fieldAddr _ fa25_5 rfl) rfl rfl (by decide) ?_
      refine H.q (yl_load Tryz.isAgg23 rfl (fun w hw => hw.cell 0 rfl rfl)) rfl rfl (by decide) ?_
      refine H.q (yl_len rfl Tryz.underlying23 rfl) rfl rfl (by decide) ?_
      refine H.q (yl_lss rfl rfl) rfl rfl (by decide) ?_
      refine HN.done ?_
      refine HN.keep [(2, _), (5, _), (7, _), (32, _)] ⟨rfl, rfl, rfl, rfl, trivial⟩ ?_
      refine HN.then ?_
      refine H.cond _ rfl (fun t2 => ?_) (fun t2 => ?_)
      · simp only [decide_eq_true_eq] at t2; have hj : k < x.set.length := by omega
        have hgd : x.set.getD k 0 = x.set[k] := by simp [List.getD, hj]
        refine H.keep [(2, _), (5, _), (7, _)] ⟨rfl, rfl, rfl, trivial⟩ ?_
        refine HN.skip ?_
        refine HN.then ?_
        refine H.seq ?_
        refine H.block ?_
        refine H.seq ?_
        refine H.region ?_
        refine H.q (yl_fieldAddr _ fa25_5 rfl) rfl rfl (by decide) ?_
        refine H.q (yl_load Tryz.isAgg23 rfl (fun w hw => hw.cell 0 rfl rfl)) rfl rfl (by decide) ?_
        refine H.q (yl_move rfl) rfl rfl (by decide) ?_
        refine H.q (yl_ix k Tryz.underlying23 Tryz.sizeOf2 (hs k hj).1 rfl rfl rfl hj) rfl rfl (by decide) ?_
        refine H.q (yl_load (v := .int .i64 x.set[k]) Tryz.isAgg2 rfl (fun w hw => by rw [← hgd]; exact cell_ext hw.ext (hs k hj).2)) rfl rfl (by decide) ?_
        refine H.q (yl_move rfl) rfl rfl (by decide) ?_
        refine H.q (yl_eql rfl rfl) rfl rfl (by decide) ?_
        refine HN.done ?_
        refine HN.keep [(2, _), (5, _), (7, _), (41, _)] ⟨rfl, rfl, rfl, rfl, trivial⟩ ?_
        refine HN.then ?_
        refine H.cond _ rfl (fun t3 => ?_) (fun t3 => ?_)
        · simp only [decide_eq_true_eq] at t3
          refine H.keep [] trivial ?_
          refine H.seq ?_
          refine H.region ?_
          refine H.q (yl_assign rfl) rfl rfl (by decide) ?_
          refine HN.done ?_
          refine HN.keep [(4, _)] ⟨rfl, trivial⟩ ?_
          refine HN.then ?_
          refine HR.ret ?_
          refine HR.block ?_
          refine HR.then ?_
          refine HR.then ?_
          refine HR.block ?_
          refine HR.then ?_
          refine HR.block ?_
          refine HR.then ?_
          refine HR.ret1 _ Tryz.results55 rfl (fun w hw => ?_)
          refine ⟨?_, hw.ext⟩
          simp only [decide_eq_true_eq] at t1
          simp only [holdsR, holdsB, t1]
          exact congrArg (fun b => Ending.returned (.bool b)) (List.any_eq_true.2 ⟨x.set[k], List.getElem_mem hj, decide_eq_true t3.symm⟩).symm
        · simp only [decide_eq_false_iff_not] at t3
          refine H.keep [(2, _), (5, _), (7, _)] ⟨rfl, rfl, rfl, trivial⟩ ?_
          refine HN.skip ?_
          refine HN.block ?_
          refine HN.then ?_
          refine H.region ?_
          refine H.q (yl_move rfl) rfl rfl (by decide) ?_
          refine H.q (yl_add rfl rfl _ rfl (by omega)) rfl rfl (by decide) ?_
          refine H.q (yl_assign rfl) rfl rfl (by decide) ?_
          refine HN.done ?_
          refine HN.keep [(2, _), (5, _), (7, _)] ⟨rfl, rfl, rfl, trivial⟩ ?_
          refine HN.then ?_
          have hn : ∀ j (hj : j < k + 1) (hj2 : j < x.set.length), ¬ row.getD x.a.toNat 0 = x.set[j] := fun j hj hj2 => by
            by_cases h : j < k
            · exact hk1 j h hj2
            · obtain rfl : j = k := by omega
              exact fun h => t3 h.symm
          exact H.at (k + 1) ⟨⟨by omega, hn⟩, by omega⟩ ⟨rfl, rfl, rfl, trivial⟩ (fun w hw => hw)
      · simp only [decide_eq_false_iff_not] at t2
        refine H.keep [] trivial ?_
        refine HX.exit ?_
        refine HX.then ?_
        refine HX.then ?_
        refine HX.hit ?_
        refine HN.then ?_
        refine H.seq ?_
        refine H.region ?_
        refine H.q (yl_assign rfl) rfl rfl (by decide) ?_
        refine HN.done ?_
        refine HN.keep [(4, _)] ⟨rfl, trivial⟩ ?_
        refine HN.then ?_
        refine HR.ret ?_
        refine HR.block ?_
        refine HR.then ?_
        refine HR.ret1 _ Tryz.results55 rfl (fun w hw => ?_)
        refine ⟨?_, hw.ext⟩
        simp only [decide_eq_true_eq] at t1
        simp only [holdsR, holdsB, t1]
        exact congrArg (fun b => Ending.returned (.bool b)) (List.any_eq_false.2 fun y hy => by
          obtain ⟨j, hj, rfl⟩ := List.getElem_of_mem hy
          simpa using hk1 j (by omega) hj).symm
    · refine H.keep [(2, _), (5, _), (6, _), (19, _)] ⟨rfl, rfl, rfl, rfl, trivial⟩ ?_
      refine H.seq ?_
      refine H.region ?_
      refine H.q (yl_eql rfl rfl) rfl rfl (by decide) ?_
      refine H.q (yl_assign rfl) rfl rfl (by decide) ?_
      refine HN.done ?_
      refine HN.keep [(2, _), (5, _), (6, _), (19, _), (42, _)] ⟨rfl, rfl, rfl, rfl, rfl, trivial⟩ ?_
      refine HN.then ?_
      refine H.cond _ rfl (fun t4 => ?_) (fun t4 => ?_)
      · refine H.keep [(2, _), (5, _)] ⟨rfl, rfl, trivial⟩ ?_
        refine H.seq ?_
        refine H.region ?_
        refine H.q (yl_move rfl) rfl rfl (by decide) ?_
        refine H.q (yl_fieldAddr _ fa25_3 rfl) rfl rfl (by decide) ?_
        refine H.q (yl_load Tryz.isAgg2 rfl (fun w hw => hw.cell 0 rfl rfl)) rfl rfl (by decide) ?_
        refine H.q (yl_geq rfl rfl) rfl rfl (by decide) ?_
        refine H.q (yl_assign rfl) rfl rfl (by decide) ?_
        refine HN.done ?_
        refine HN.keep [(4, _)] ⟨rfl, trivial⟩ ?_
        refine HN.then ?_
        refine HR.ret ?_
        refine HR.block ?_
        refine HR.then ?_
        refine HR.ret1 _ Tryz.results55 rfl (fun w hw => ?_)
        refine ⟨?_, hw.ext⟩
        clear hw
        simp only [decide_eq_true_eq, decide_eq_false_iff_not] at *
        simp [holdsR, holdsB, *]
      · refine H.keep [(2, _), (5, _), (6, _), (19, _)] ⟨rfl, rfl, rfl, rfl, trivial⟩ ?_
        refine H.seq ?_
        refine H.region ?_
        refine H.q (yl_eql rfl rfl) rfl rfl (by decide) ?_
        refine H.q (yl_assign rfl) rfl rfl (by decide) ?_
        refine HN.done ?_
        refine HN.keep [(2, _), (5, _), (6, _), (19, _), (48, _)] ⟨rfl, rfl, rfl, rfl, rfl, trivial⟩ ?_
        refine HN.then ?_
        refine H.cond _ rfl (fun t5 => ?_) (fun t5 => ?_)
        · refine H.keep [(2, _), (5, _)] ⟨rfl, rfl, trivial⟩ ?_
          refine H.seq ?_
          refine H.region ?_
          refine H.q (yl_move rfl) rfl rfl (by decide) ?_
          refine H.q (yl_fieldAddr _ fa25_3 rfl) rfl rfl (by decide) ?_
          refine H.q (yl_load Tryz.isAgg2 rfl (fun w hw => hw.cell 0 rfl rfl)) rfl rfl (by decide) ?_
          refine H.q (yl_leq rfl rfl) rfl rfl (by decide) ?_
          refine H.q (yl_assign rfl) rfl rfl (by decide) ?_
          refine HN.done ?_
          refine HN.keep [(4, _)] ⟨rfl, trivial⟩ ?_
          refine HN.then ?_
          refine HR.ret ?_
          refine HR.block ?_
          refine HR.then ?_
          refine HR.ret1 _ Tryz.results55 rfl (fun w hw => ?_)
          refine ⟨?_, hw.ext⟩
          clear hw
          simp only [decide_eq_true_eq, decide_eq_false_iff_not] at *
          simp [holdsR, holdsB, *]
        · refine H.keep [(2, _), (5, _), (6, _), (19, _)] ⟨rfl, rfl, rfl, rfl, trivial⟩ ?_
          refine H.seq ?_
          refine H.region ?_
          refine H.q (yl_eql rfl rfl) rfl rfl (by decide) ?_
          refine H.q (yl_assign rfl) rfl rfl (by decide) ?_
          refine HN.done ?_
          refine HN.keep [(2, _), (5, _), (6, _), (19, _), (54, _)] ⟨rfl, rfl, rfl, rfl, rfl, trivial⟩ ?_
          refine HN.then ?_
          refine H.cond _ rfl (fun t6 => ?_) (fun t6 => ?_)
          · refine H.keep [(5, _)] ⟨rfl, trivial⟩ ?_
            refine H.seq ?_
            refine H.region ?_
            refine H.q (yl_move rfl) rfl rfl (by decide) ?_
            refine H.q (yl_neq rfl rfl) rfl rfl (by decide) ?_
            refine H.q (yl_assign rfl) rfl rfl (by decide) ?_
            refine HN.done ?_
            refine HN.keep [(4, _)] ⟨rfl, trivial⟩ ?_
            refine HN.then ?_
            refine HR.ret ?_
            refine HR.block ?_
            refine HR.then ?_
            refine HR.ret1 _ Tryz.results55 rfl (fun w hw => ?_)
            refine ⟨?_, hw.ext⟩
            clear hw
            simp only [decide_eq_true_eq, decide_eq_false_iff_not] at *
            simp [holdsR, holdsB, *]
          · refine H.keep [(2, _), (5, _), (6, _), (19, _)] ⟨rfl, rfl, rfl, rfl, trivial⟩ ?_
            refine H.seq ?_
            refine H.region ?_
            refine H.q (yl_eql rfl rfl) rfl rfl (by decide) ?_
            refine H.q (yl_assign rfl) rfl rfl (by decide) ?_
            refine HN.done ?_
            refine HN.keep [(2, _), (5, _), (6, _), (19, _), (58, _)] ⟨rfl, rfl, rfl, rfl, rfl, trivial⟩ ?_
            refine HN.then ?_
            refine H.cond _ rfl (fun t7 => ?_) (fun t7 => ?_)
            · refine H.keep [(2, _), (5, _)] ⟨rfl, rfl, trivial⟩ ?_
              refine H.seq ?_
              refine H.regionQ Tryz.mixed (by kernel_rfl) (stab_hp _ _ _ _) ?_
              refine G.q (yl_move rfl) rfl rfl (by decide) ?_
              refine G.q (yl_fieldAddr _ fa25_4 rfl) rfl rfl (by decide) ?_
              refine G.q (yl_load Tryz.isAgg2 rfl (fun w hw => hw.cell 0 rfl rfl)) rfl rfl (by decide) ?_
              refine G.q (yl_call (xs := [.tmp 60, .tmp 62]) Tryz.call81 (stab_hp _ _ _ _) rfl (fun w hw => Modulo_any _ x.m w (by have := hsafe.2.2 (by simpa using t7); omega) (small_le hsafe.2.1).2)) rfl rfl (by decide) ?_
              refine G.q (yl_fieldAddr _ fa25_3 rfl) rfl rfl (by decide) ?_
              refine G.q (yl_load Tryz.isAgg2 rfl (fun w hw => hw.cell 0 rfl rfl)) rfl rfl (by decide) ?_
              refine G.q (yl_eql rfl rfl) rfl rfl (by decide) ?_
              refine G.q (yl_assign rfl) rfl rfl (by decide) ?_
              refine HN.doneG ?_
              refine HN.keep [(4, _)] ⟨rfl, trivial⟩ ?_
              refine HN.then ?_
              refine HR.ret ?_
              refine HR.block ?_
              refine HR.then ?_
              refine HR.ret1 _ Tryz.results55 rfl (fun w hw => ?_)
              refine ⟨?_, hw.ext⟩
              clear hw
              simp only [decide_eq_true_eq, decide_eq_false_iff_not] at *
              simp [holdsR, holdsB, *]
            · refine H.keep [(2, _), (5, _), (6, _), (19, _)] ⟨rfl, rfl, rfl, rfl, trivial⟩ ?_
              refine H.seq ?_
              refine H.region ?_
              refine H.q (yl_eql rfl rfl) rfl rfl (by decide) ?_
              refine H.q (yl_assign rfl) rfl rfl (by decide) ?_
              refine HN.done ?_
              refine HN.keep [(2, _), (5, _), (6, _), (19, _), (67, _)] ⟨rfl, rfl, rfl, rfl, rfl, trivial⟩ ?_
              refine HN.then ?_
              refine H.cond _ rfl (fun t8 => ?_) (fun t8 => ?_)
              · refine H.keep [(5, _), (6, _)] ⟨rfl, rfl, trivial⟩ ?_
                refine H.seq ?_
                refine H.region ?_
                refine H.q (yl_move rfl) rfl rfl (by decide) ?_
                refine H.q (yl_move rfl) rfl rfl (by decide) ?_
                refine H.q (yl_eql rfl rfl) rfl rfl (by decide) ?_
                refine H.q (yl_assign rfl) rfl rfl (by decide) ?_
                refine HN.done ?_
                refine HN.keep [(4, _)] ⟨rfl, trivial⟩ ?_
                refine HN.then ?_
                refine HR.ret ?_
                refine HR.block ?_
                refine HR.then ?_
                refine HR.ret1 _ Tryz.results55 rfl (fun w hw => ?_)
                refine ⟨?_, hw.ext⟩
                clear hw
                simp only [decide_eq_true_eq, decide_eq_false_iff_not] at *
                simp [holdsR, holdsB, *]
              · refine H.keep [(2, _), (5, _), (6, _), (19, _)] ⟨rfl, rfl, rfl, rfl, trivial⟩ ?_
                refine H.seq ?_
                refine H.region ?_
                refine H.q (yl_eql rfl rfl) rfl rfl (by decide) ?_
                refine H.q (yl_assign rfl) rfl rfl (by decide) ?_
                refine HN.done ?_
                refine HN.keep [(2, _), (5, _), (6, _), (19, _), (72, _)] ⟨rfl, rfl, rfl, rfl, rfl, trivial⟩ ?_
                refine HN.then ?_
                refine H.cond _ rfl (fun t9 => ?_) (fun t9 => ?_)
                · refine H.keep [(5, _), (6, _)] ⟨rfl, rfl, trivial⟩ ?_
                  refine H.seq ?_
                  refine H.region ?_
                  refine H.q (yl_move rfl) rfl rfl (by decide) ?_
                  refine H.q (yl_move rfl) rfl rfl (by decide) ?_
                  refine H.q (yl_neq rfl rfl) rfl rfl (by decide) ?_
                  refine H.q (yl_assign rfl) rfl rfl (by decide) ?_
                  refine HN.done ?_
                  refine HN.keep [(4, _)] ⟨rfl, trivial⟩ ?_
                  refine HN.then ?_
                  refine HR.ret ?_
                  refine HR.block ?_
                  refine HR.then ?_
                  refine HR.ret1 _ Tryz.results55 rfl (fun w hw => ?_)
                  refine ⟨?_, hw.ext⟩
                  clear hw
                  simp only [decide_eq_true_eq, decide_eq_false_iff_not] at *
                  simp [holdsR, holdsB, *]
                · refine H.keep [(2, _), (5, _), (6, _), (19, _)] ⟨rfl, rfl, rfl, rfl, trivial⟩ ?_
                  refine H.seq ?_
                  refine H.region ?_
                  refine H.q (yl_eql rfl rfl) rfl rfl (by decide) ?_
                  refine H.q (yl_assign rfl) rfl rfl (by decide) ?_
                  refine HN.done ?_
                  refine HN.keep [(2, _), (5, _), (6, _), (19, _), (77, _)] ⟨rfl, rfl, rfl, rfl, rfl, trivial⟩ ?_
                  refine HN.then ?_
                  refine H.cond _ rfl (fun t10 => ?_) (fun t10 => ?_)
                  · refine H.keep [(5, _), (6, _)] ⟨rfl, rfl, trivial⟩ ?_
                    refine H.seq ?_
                    refine H.region ?_
                    refine H.q (yl_move rfl) rfl rfl (by decide) ?_
                    refine H.q (yl_move rfl) rfl rfl (by decide) ?_
                    refine H.q (yl_lss rfl rfl) rfl rfl (by decide) ?_
                    refine H.q (yl_assign rfl) rfl rfl (by decide) ?_
                    refine HN.done ?_
                    refine HN.keep [(4, _)] ⟨rfl, trivial⟩ ?_
                    refine HN.then ?_
                    refine HR.ret ?_
                    refine HR.block ?_
                    refine HR.then ?_
                    refine HR.ret1 _ Tryz.results55 rfl (fun w hw => ?_)
                    refine ⟨?_, hw.ext⟩
                    clear hw
                    simp only [decide_eq_true_eq, decide_eq_false_iff_not] at *
                    simp [holdsR, holdsB, *]
                  · refine H.keep [(2, _), (5, _), (6, _), (19, _)] ⟨rfl, rfl, rfl, rfl, trivial⟩ ?_
                    refine H.seq ?_
                    refine H.region ?_
                    refine H.q (yl_eql rfl rfl) rfl rfl (by decide) ?_
                    refine H.q (yl_assign rfl) rfl rfl (by decide) ?_
                    refine HN.done ?_
                    refine HN.keep [(2, _), (5, _), (6, _), (82, _)] ⟨rfl, rfl, rfl, rfl, trivial⟩ ?_
                    refine HN.then ?_
                    refine H.cond _ rfl (fun t11 => ?_) (fun t11 => ?_)
                    · refine H.keep [(5, _), (6, _)] ⟨rfl, rfl, trivial⟩ ?_
                      refine H.seq ?_
                      refine H.region ?_
                      refine H.q (yl_move rfl) rfl rfl (by decide) ?_
                      refine H.q (yl_move rfl) rfl rfl (by decide) ?_
                      refine H.q (yl_leq rfl rfl) rfl rfl (by decide) ?_
                      refine H.q (yl_assign rfl) rfl rfl (by decide) ?_
                      refine HN.done ?_
                      refine HN.keep [(4, _)] ⟨rfl, trivial⟩ ?_
                      refine HN.then ?_
                      refine HR.ret ?_
                      refine HR.block ?_
                      refine HR.then ?_
                      refine HR.ret1 _ Tryz.results55 rfl (fun w hw => ?_)
                      refine ⟨?_, hw.ext⟩
                      clear hw
                      simp only [decide_eq_true_eq, decide_eq_false_iff_not] at *
                      simp [holdsR, holdsB, *]
                    · refine H.keep [(2, _), (5, _), (6, _)] ⟨rfl, rfl, rfl, trivial⟩ ?_
                      refine HN.skip ?_
                      refine HN.block ?_
                      refine HN.then ?_
                      refine H.seq ?_
                      have h1 := mul_small hsafe.1 hsa
                      have h2 := small_le hsafe.2.1
                      refine H.region ?_
                      refine H.q (yl_move rfl) rfl rfl (by decide) ?_
                      refine H.q (yl_fieldAddr _ fa25_3 rfl) rfl rfl (by decide) ?_
                      refine H.q (yl_load Tryz.isAgg2 rfl (fun w hw => hw.cell 0 rfl rfl)) rfl rfl (by decide) ?_
                      refine H.q (yl_move rfl) rfl rfl (by decide) ?_
                      refine H.q (yl_mul rfl rfl _ rfl (by omega)) rfl rfl (by decide) ?_
                      refine H.q (yl_fieldAddr _ fa25_4 rfl) rfl rfl (by decide) ?_
                      refine H.q (yl_load Tryz.isAgg2 rfl (fun w hw => hw.cell 0 rfl rfl)) rfl rfl (by decide) ?_
                      refine H.q (yl_add rfl rfl _ rfl (by omega)) rfl rfl (by decide) ?_
                      refine H.q (yl_eql rfl rfl) rfl rfl (by decide) ?_
                      refine H.q (yl_assign rfl) rfl rfl (by decide) ?_
                      refine HN.done ?_
                      refine HN.keep [(4, _)] ⟨rfl, trivial⟩ ?_
                      refine HN.then ?_
                      refine HR.ret ?_
                      refine HR.ret1 _ Tryz.results55 rfl (fun w hw => ?_)
                      refine ⟨?_, hw.ext⟩
                      clear hw
                      simp only [decide_eq_true_eq, decide_eq_false_iff_not] at *
                      simp [holdsR, holdsB, *]

set_option maxRecDepth 100000 in
theorem holdE_any (x : Inv) (sv : Value) (w0 : World) (hl : x.set.length ≤ 4611686018427387904) (hv : IsInts w0 sv x.set) (row : List Int) (rv : Value) (hr : row.length ≤ 4611686018427387904) (hrv : IsInts w0 rv row) : Calls Tryz.prog 29 #[(.agg [.int .u8 x.kind, .int .i64 x.a, .int .i64 x.b, .int .i64 x.k, .int .i64 x.m, sv].toArray), rv] w0 fun e w' => e = .returned (.tuple #[.bool (holdE x row).1, .int .i64 (holdE x row).2]) ∧ Ext w0 w' := by
  obtain ⟨ad, cap, b, o, rfl, hcap, hs⟩ := ints_open hv
  obtain ⟨ad1, cap1, b1, o1, rfl, hcap1, hs1⟩ := ints_open hrv
  refine enterA 20 Tryz.func29 rfl Tryz.ntmps29 rfl (Hp w0 [] [] []) (Hp.init _) ?_
  refine H.seq ?_
  refine H.region ?_
  refine H.boxA rfl (by decide) (fun b2 hb2 => ?_)
  refine H.q (yl_assign rfl) rfl rfl (by decide) ?_
  refine H.q (yl_assign rfl) rfl rfl (by decide) ?_
  refine HN.done ?_
  refine HN.keep [(1, _), (2, _)] ⟨rfl, rfl, trivial⟩ ?_
  refine HN.then ?_
  refine H.seq ?_
  refine H.seq ?_
  refine H.region ?_
  refine H.q (yl_loadAgg _ Tryz.isAgg25 Tryz.sizeOf25 rfl (fun w hw => cells_of_blk (hw.blk 0 rfl)) rfl) rfl rfl (by decide) ?_
  refine H.q (yl_move rfl) rfl rfl (by decide) ?_
  refine H.q (yl_len rfl Tryz.underlying23 rfl) rfl rfl (by decide) ?_
  refine H.q (yl_call (xs := [.tmp 7, .tmp 9]) Tryz.call28 (stab_hp _ _ _ _) rfl (fun w hw => check_any (row.length : Int) x (.slice ad x.set.length cap) w hl (hv.ext hw.ext))) rfl rfl (by decide) ?_
  refine H.q (yl_assign rfl) rfl rfl (by decide) ?_
  refine HN.done ?_
  refine HN.keep [(1, _), (2, _), (6, _)] ⟨rfl, rfl, rfl, trivial⟩ ?_
  refine HN.then ?_
  refine H.seq ?_
  refine H.region ?_
  refine H.q (yl_move rfl) rfl rfl (by decide) ?_
  refine H.q (yl_neq rfl rfl) rfl rfl (by decide) ?_
  refine HN.done ?_
  refine HN.keep [(1, _), (2, _), (6, _), (12, _)] ⟨rfl, rfl, rfl, rfl, trivial⟩ ?_
  refine HN.then ?_
  refine H.cond _ rfl (fun t0 => ?_) (fun t0 => ?_)
  · simp only [ne_eq, decide_not, Bool.not_eq_true', decide_eq_false_iff_not] at t0
    refine H.keep [(6, _)] ⟨rfl, trivial⟩ ?_
    refine H.seq ?_
    refine H.region ?_
    refine H.q (yl_move rfl) rfl rfl (by decide) ?_
    refine H.q (yl_assign rfl) rfl rfl (by decide) ?_
    refine H.q (yl_assign rfl) rfl rfl (by decide) ?_
    refine HN.done ?_
    refine HN.keep [(4, _), (5, _)] ⟨rfl, rfl, trivial⟩ ?_
    refine HN.then ?_
    refine HR.ret ?_
    refine HR.then ?_
    refine HR.ret2 _ _ Tryz.results29 rfl rfl (fun w hw => ?_)
    exact ⟨by simp [holdE, t0], hw.ext⟩
  · simp only [ne_eq, decide_not, Bool.not_eq_false', decide_eq_true_eq] at t0
    refine H.keep [(1, _), (2, _)] ⟨rfl, rfl, trivial⟩ ?_
    refine HN.skip ?_
    refine HN.then ?_
    refine H.seq ?_
    refine H.seq ?_
    refine H.region ?_
    refine H.q (yl_move rfl) rfl rfl (by decide) ?_
    refine H.q (yl_call (xs := [.tmp 14]) Tryz.call50 (stab_hp _ _ _ _) rfl (fun w hw => allSmall_any row (.slice ad1 row.length cap1) w hr (hrv.ext hw.ext))) rfl rfl (by decide) ?_
    refine H.q (yl_not rfl) rfl rfl (by decide) ?_
    refine HN.done ?_
    refine HN.keep [(1, _), (2, _), (16, _)] ⟨rfl, rfl, rfl, trivial⟩ ?_
    refine HN.then ?_
    refine H.cond _ rfl (fun t1 => ?_) (fun t1 => ?_)
    · refine H.keep [] trivial ?_
      refine H.seq ?_
      refine H.region ?_
      refine H.q (yl_assign rfl) rfl rfl (by decide) ?_
      refine H.q (yl_assign rfl) rfl rfl (by decide) ?_
      refine HN.done ?_
      refine HN.keep [(4, _), (5, _)] ⟨rfl, rfl, trivial⟩ ?_
      refine HN.then ?_
      refine HR.ret ?_
      refine HR.then ?_
      refine HR.ret2 _ _ Tryz.results29 rfl rfl (fun w hw => ?_)
      exact ⟨by simp only [Bool.not_eq_true'] at t1; simp [holdE, t0, t1], hw.ext⟩
    · refine H.keep [(1, _), (2, _)] ⟨rfl, rfl, trivial⟩ ?_
      refine HN.skip ?_
      refine HN.then ?_
      refine H.seq ?_
      refine H.region ?_
      refine H.q (yl_loadAgg _ Tryz.isAgg25 Tryz.sizeOf25 rfl (fun w hw => cells_of_blk (hw.blk 0 rfl)) rfl) rfl rfl (by decide) ?_
      refine H.q (yl_move rfl) rfl rfl (by decide) ?_
      refine H.q (yl_call (xs := [.tmp 17, .tmp 18]) Tryz.call54 (stab_hp _ _ _ _) rfl (fun w hw => hold_any x (.slice ad x.set.length cap) w hl (hv.ext hw.ext) row (.slice ad1 row.length cap1) hr (hrv.ext hw.ext) t0 (by simpa using t1))) rfl rfl (by decide) ?_
      refine H.q (yl_assign rfl) rfl rfl (by decide) ?_
      refine H.q (yl_assign rfl) rfl rfl (by decide) ?_
      refine HN.done ?_
      refine HN.keep [(4, _), (5, _)] ⟨rfl, rfl, trivial⟩ ?_
      refine HN.then ?_
      refine HR.ret ?_
      refine HR.ret2 _ _ Tryz.results29 rfl rfl (fun w hw => ?_)
      exact ⟨by simp only [Bool.not_eq_false'] at t1; simp [holdE, t0, t1], hw.ext⟩

set_option maxRecDepth 100000 in
theorem refHoldE_any (x : Inv) (sv : Value) (w0 : World) (hl : x.set.length ≤ 4611686018427387904) (hv : IsInts w0 sv x.set) (row : List Int) (rv : Value) (hr : row.length ≤ 4611686018427387904) (hrv : IsInts w0 rv row) : Calls Tryz.prog 31 #[(.agg [.int .u8 x.kind, .int .i64 x.a, .int .i64 x.b, .int .i64 x.k, .int .i64 x.m, sv].toArray), rv] w0 fun e w' => e = .returned (.tuple #[.bool (holdE x row).1, .int .i64 (holdE x row).2]) ∧ Ext w0 w' := by
  obtain ⟨ad, cap, b, o, rfl, hcap, hs⟩ := ints_open hv
  obtain ⟨ad1, cap1, b1, o1, rfl, hcap1, hs1⟩ := ints_open hrv
  refine enterA 30 Tryz.func31 rfl Tryz.ntmps31 rfl (Hp w0 [] [] []) (Hp.init _) ?_
  refine H.seq ?_
  refine H.region ?_
  refine H.boxA rfl (by decide) (fun b2 hb2 => ?_)
  refine H.q (yl_assign rfl) rfl rfl (by decide) ?_
  refine H.q (yl_assign rfl) rfl rfl (by decide) ?_
  refine HN.done ?_
  refine HN.keep [(1, _), (2, _)] ⟨rfl, rfl, trivial⟩ ?_
  refine HN.then ?_
  refine H.seq ?_
  refine H.region ?_
  refine H.q (yl_loadAgg _ Tryz.isAgg25 Tryz.sizeOf25 rfl (fun w hw => cells_of_blk (hw.blk 0 rfl)) rfl) rfl rfl (by decide) ?_
  refine H.q (yl_move rfl) rfl rfl (by decide) ?_
  refine H.q (yl_len rfl Tryz.underlying23 rfl) rfl rfl (by decide) ?_
  refine H.q (yl_call (xs := [.tmp 8, .tmp 10]) Tryz.call30 (stab_hp _ _ _ _) rfl (fun w hw => refCheck_any (row.length : Int) x (.slice ad x.set.length cap) w hl (hv.ext hw.ext))) rfl rfl (by decide) ?_
  refine H.q (yl_assign rfl) rfl rfl (by decide) ?_
  refine HN.done ?_
  refine HN.keep [(1, _), (2, _), (6, _)] ⟨rfl, rfl, rfl, trivial⟩ ?_
  refine HN.then ?_
  refine H.seq ?_
  refine H.seq ?_
  refine H.region ?_
  refine H.q (yl_move rfl) rfl rfl (by decide) ?_
  refine H.q (yl_neq rfl rfl) rfl rfl (by decide) ?_
  refine HN.done ?_
  refine HN.keep [(1, _), (2, _), (6, _), (13, _)] ⟨rfl, rfl, rfl, rfl, trivial⟩ ?_
  refine HN.then ?_
  refine H.cond _ rfl (fun t0 => ?_) (fun t0 => ?_)
  · simp only [ne_eq, decide_not, Bool.not_eq_true', decide_eq_false_iff_not] at t0
    refine H.keep [(6, _)] ⟨rfl, trivial⟩ ?_
    refine H.seq ?_
    refine H.region ?_
    refine H.q (yl_move rfl) rfl rfl (by decide) ?_
    refine H.q (yl_assign rfl) rfl rfl (by decide) ?_
    refine H.q (yl_assign rfl) rfl rfl (by decide) ?_
    refine HN.done ?_
    refine HN.keep [(4, _), (5, _)] ⟨rfl, rfl, trivial⟩ ?_
    refine HN.then ?_
    refine HR.ret ?_
    refine HR.then ?_
    refine HR.ret2 _ _ Tryz.results31 rfl rfl (fun w hw => ?_)
    exact ⟨by simp [holdE, t0], hw.ext⟩
  · simp only [ne_eq, decide_not, Bool.not_eq_false', decide_eq_true_eq] at t0
    refine H.keep [(1, _), (2, _)] ⟨rfl, rfl, trivial⟩ ?_
    refine HN.skip ?_
    refine HN.then ?_
    refine H.seq ?_
    refine H.seq ?_
    refine H.region ?_
    refine H.q (yl_assign rfl) rfl rfl (by decide) ?_
    refine HN.done ?_
    refine HN.keep [(1, _), (2, _), (7, _)] ⟨rfl, rfl, rfl, trivial⟩ ?_
    refine HN.then ?_
    refine H.block ?_
    refine H.loop (fun k : Nat => [(1, .slice ad1 row.length cap1), (2, .pointer (some ⟨b2, 0, none⟩)), (7, .int .i64 (k : Int))]) (fun k => k ≤ row.length ∧ ∀ j, j < k → smallB (row.getD j 0) = true) (fun _ => Hp w0 [(b2, ex (.cells [.int .u8 x.kind, .int .i64 x.a, .int .i64 x.b, .int .i64 x.k, .int .i64 x.m, .slice ad x.set.length cap].toArray 25))] [] []) (fun k => row.length - k) 0 ⟨Nat.zero_le _, fun j hj => by omega⟩ ⟨rfl, rfl, rfl, trivial⟩ (fun w hw => hw) (fun k hI => ?_)
    obtain ⟨hk0, hk1⟩ := hI
    refine H.seq ?_
    refine H.seq ?_
    refine H.region ?_
    refine H.q (yl_move rfl) rfl rfl (by decide) ?_
    refine H.q (yl_move rfl) rfl rfl (by decide) ?_
    refine H.q (yl_len rfl Tryz.underlying23 rfl) rfl rfl (by decide) ?_
    refine H.q (yl_lss rfl rfl) rfl rfl (by decide) ?_
    refine HN.done ?_
    refine HN.keep [(1, _), (2, _), (7, _), (18, _)] ⟨rfl, rfl, rfl, rfl, trivial⟩ ?_
    refine HN.then ?_
    refine H.cond _ rfl (fun t1 => ?_) (fun t1 => ?_)
    · simp only [decide_eq_true_eq] at t1; have hj : k < row.length := by omega
      refine H.keep [(1, _), (2, _), (7, _)] ⟨rfl, rfl, rfl, trivial⟩ ?_
      refine HN.skip ?_
      refine HN.then ?_
      refine H.seq ?_
      refine H.block ?_
      refine H.seq ?_
      refine H.region ?_
      refine H.q (yl_move rfl) rfl rfl (by decide) ?_
      refine H.q (yl_move rfl) rfl rfl (by decide) ?_
      refine H.q (yl_ix k Tryz.underlying23 Tryz.sizeOf2 (hs1 k hj).1 rfl rfl rfl hj) rfl rfl (by decide) ?_
      refine H.q (yl_load Tryz.isAgg2 rfl (fun w hw => cell_ext hw.ext (hs1 k hj).2)) rfl rfl (by decide) ?_
      refine H.q (yl_call (xs := [.tmp 24]) Tryz.call48 (stab_hp _ _ _ _) rfl (fun w hw => plain_any _ w)) rfl rfl (by decide) ?_
      refine H.q (yl_not rfl) rfl rfl (by decide) ?_
      refine HN.done ?_
      refine HN.keep [(1, _), (2, _), (7, _), (26, _)] ⟨rfl, rfl, rfl, rfl, trivial⟩ ?_
      refine HN.then ?_
      refine H.cond _ rfl (fun t2 => ?_) (fun t2 => ?_)
      · simp only [Bool.not_eq_true'] at t2
        have hsm : allSmallB row = false := allSmall_no hj t2
        refine H.keep [] trivial ?_
        refine H.seq ?_
        refine H.region ?_
        refine H.q (yl_assign rfl) rfl rfl (by decide) ?_
        refine H.q (yl_assign rfl) rfl rfl (by decide) ?_
        refine HN.done ?_
        refine HN.keep [(4, _), (5, _)] ⟨rfl, rfl, trivial⟩ ?_
        refine HN.then ?_
        refine HR.ret ?_
        refine HR.block ?_
        refine HR.then ?_
        refine HR.then ?_
        refine HR.block ?_
        refine HR.then ?_
        refine HR.ret2 _ _ Tryz.results31 rfl rfl (fun w hw => ?_)
        exact ⟨by simp [holdE, t0, hsm], hw.ext⟩
      · simp only [Bool.not_eq_false'] at t2
        refine H.keep [(1, _), (2, _), (7, _)] ⟨rfl, rfl, rfl, trivial⟩ ?_
        refine HN.skip ?_
        refine HN.block ?_
        refine HN.then ?_
        refine H.region ?_
        refine H.q (yl_move rfl) rfl rfl (by decide) ?_
        refine H.q (yl_add rfl rfl _ rfl (by omega)) rfl rfl (by decide) ?_
        refine H.q (yl_assign rfl) rfl rfl (by decide) ?_
        refine HN.done ?_
        refine HN.keep [(1, _), (2, _), (7, _)] ⟨rfl, rfl, rfl, trivial⟩ ?_
        refine HN.then ?_
        have hn : ∀ j, j < k + 1 → smallB (row.getD j 0) = true := fun j hj => by
          by_cases h : j < k
          · exact hk1 j h
          · obtain rfl : j = k := by omega
            exact t2
        exact H.at (k + 1) ⟨⟨by omega, hn⟩, by omega⟩ ⟨rfl, rfl, rfl, trivial⟩ (fun w hw => hw)
    · simp only [decide_eq_false_iff_not] at t1
      have hsm : allSmallB row = true := allSmall_yes fun j hj => hk1 j (by omega)
      refine H.keep [(1, _), (2, _)] ⟨rfl, rfl, trivial⟩ ?_
      refine HX.exit ?_
      refine HX.then ?_
      refine HX.then ?_
      refine HX.hit ?_
      refine HN.then ?_
      refine H.seq ?_
      refine H.region ?_
      refine H.q (yl_loadAgg _ Tryz.isAgg25 Tryz.sizeOf25 rfl (fun w hw => cells_of_blk (hw.blk 0 rfl)) rfl) rfl rfl (by decide) ?_
      refine H.q (yl_move rfl) rfl rfl (by decide) ?_
      refine H.q (yl_call (xs := [.tmp 27, .tmp 28]) Tryz.call55 (stab_hp _ _ _ _) rfl (fun w hw => refHold_any x (.slice ad x.set.length cap) w hl (hv.ext hw.ext) row (.slice ad1 row.length cap1) hr (hrv.ext hw.ext) t0 hsm)) rfl rfl (by decide) ?_
      refine H.q (yl_assign rfl) rfl rfl (by decide) ?_
      refine H.q (yl_assign rfl) rfl rfl (by decide) ?_
      refine HN.done ?_
      refine HN.keep [(4, _), (5, _)] ⟨rfl, rfl, trivial⟩ ?_
      refine HN.then ?_
      refine HR.ret ?_
      refine HR.ret2 _ _ Tryz.results31 rfl rfl (fun w hw => ?_)
      exact ⟨by simp [holdE, t0, hsm], hw.ext⟩

end Go.Proofs.YtgbgddmbooaddaaGreatDoor

namespace Go.Proofs.YtgbgddmbooaddaaGreatDoor
open Go.RowKit

theorem Hp.drop {w0 : World} {p : BP} {L : List BP} {R : List Rw} {F : List BP} {w : World} (h : Hp w0 (p :: L) R F w) : Hp w0 L R F w where
  ext := h.ext
  own := fun q hq => h.own q (List.mem_cons_of_mem _ hq)
  rows := h.rows
  fgn := h.fgn
  nodup := (List.nodup_cons.1 (show (p.1 :: owned L R).Nodup from h.nodup)).2
  low := fun b hb => h.low b (show b ∈ p.1 :: owned L R from List.mem_cons_of_mem _ hb)
  apart := fun b hb => h.apart b (show b ∈ p.1 :: owned L R from List.mem_cons_of_mem _ hb)
theorem Hp.drop' {w0 : World} {L : List BP} {R : List Rw} {F F' : List BP} {w : World} (h : Hp w0 L R (F' ++ F) w) : Hp w0 L R F w where
  ext := h.ext
  own := h.own
  rows := h.rows
  fgn := fun q hq => h.fgn q (List.mem_append.2 (.inr hq))
  nodup := h.nodup
  low := h.low
  apart := fun b hb p hp => h.apart b hb p (List.mem_append.2 (.inr hp))

/-- A slice whose elements have 'sz' cells each. -/
def IsSz (w : World) (v : Value) (sz : Nat) (css : List (List Value)) : Prop :=
  ∃ ad cap b o, v = .slice ad css.length cap ∧ css.length ≤ cap ∧ ∀ j cs, css[j]? = some cs → ad = some ⟨b, o, none⟩ ∧ ∀ i u, cs[i]? = some u → w.cell? ⟨b, o + j * sz + i, none⟩ = some u
theorem IsSz.ext {w w' : World} {v : Value} {sz : Nat} {css : List (List Value)} (h : IsSz w v sz css) (k : Ext w w') : IsSz w' v sz css := by
  obtain ⟨ad, cap, b, o, h1, h2, h3⟩ := h
  exact ⟨ad, cap, b, o, h1, h2, fun j cs hj => ⟨(h3 j cs hj).1, fun i u hi => cell_ext k ((h3 j cs hj).2 i u hi)⟩⟩

/-- The cells of a claim; first the value of its Set. -/
abbrev cellsI (p : Value × Inv) : List Value := [.int .u8 p.2.kind, .int .i64 p.2.a, .int .i64 p.2.b, .int .i64 p.2.k, .int .i64 p.2.m, p.1]
def IsClaims (w : World) (v : Value) (l : List (Value × Inv)) : Prop := IsSz w v 6 (l.map cellsI) ∧ ∀ p ∈ l, IsInts w p.1 p.2.set
theorem IsClaims.ext {w w' : World} {v : Value} {l : List (Value × Inv)} (h : IsClaims w v l) (k : Ext w w') : IsClaims w' v l := ⟨h.1.ext k, fun p hp => (h.2 p hp).ext k⟩
theorem claims_open {w : World} {v : Value} {l : List (Value × Inv)} (h : IsClaims w v l) : ∃ ad cap b o, v = .slice ad l.length cap ∧ l.length ≤ cap ∧ ∀ j (hj : j < l.length), ad = some ⟨b, o, none⟩ ∧ (∀ i u, (cellsI l[j])[i]? = some u → w.cell? ((⟨b, o + j * 6, none⟩ : Addr).add i) = some u) ∧ IsInts w l[j].1 l[j].2.set := by
  obtain ⟨⟨ad, cap, b, o, h1, h2, h3⟩, h4⟩ := h
  simp only [List.length_map] at h1 h2
  refine ⟨ad, cap, b, o, h1, h2, fun j hj => ?_⟩
  have := h3 j (cellsI l[j]) (by simp [hj])
  exact ⟨this.1, fun i u hi => by rw [add_at]; exact this.2 i u hi, h4 _ (List.getElem_mem hj)⟩
theorem one_cells {w : World} {p : Value × Inv} (h : IsInts w p.1 p.2.set) : (cellsI p).all Value.oneCell' = true := by
  obtain ⟨ad, cap, b, o, h, _⟩ := h
  simp only [cellsI, h]
  rfl
theorem cells_ext {w w' : World} (h : Ext w w') {ad : Addr} {cs : List Value} (hc : ∀ j v, cs[j]? = some v → w.cell? (ad.add j) = some v) : ∀ j v, cs[j]? = some v → w'.cell? (ad.add j) = some v := fun j v hj => cell_ext h (hc j v hj)

def IsRows (w : World) (v : Value) (l : List (Value × List Int)) : Prop := IsSl w v (l.map (·.1)) ∧ ∀ p ∈ l, IsInts w p.1 p.2
theorem IsRows.ext {w w' : World} {v : Value} {l : List (Value × List Int)} (h : IsRows w v l) (k : Ext w w') : IsRows w' v l := ⟨h.1.ext k, fun p hp => (h.2 p hp).ext k⟩
theorem rows_open {w : World} {v : Value} {l : List (Value × List Int)} (h : IsRows w v l) : ∃ ad cap b o, v = .slice ad l.length cap ∧ l.length ≤ cap ∧ ∀ j (hj : j < l.length), ad = some ⟨b, o, none⟩ ∧ w.cell? ⟨b, o + j, none⟩ = some l[j].1 ∧ IsInts w l[j].1 l[j].2 := by
  obtain ⟨ad, cap, b, o, h1, h2, h3⟩ := sl_open (fun p : Value × List Int => p.1) h.1
  exact ⟨ad, cap, b, o, h1, h2, fun j hj => ⟨(h3 j hj).1, (h3 j hj).2, h.2 _ (List.getElem_mem hj)⟩⟩

abbrev strV (l : List UInt8) : Value := .string ⟨l.toArray⟩
/-- A slice of strings. -/
abbrev IsStrs (w : World) (v : Value) (l : List (List UInt8)) : Prop := IsSl w v (l.map strV)

theorem drop_cons {α : Type} {l : List α} {k : Nat} (h : k < l.length) : l.drop k = l[k] :: l.drop (k + 1) := List.drop_eq_getElem_cons h
end Go.Proofs.YtgbgddmbooaddaaGreatDoor

namespace Go.Proofs.YtgbgddmbooaddaaGreatDoor
open Go.RowKit

set_option maxRecDepth 100000 in
theorem first_any (l : List (Value × Inv)) (lv : Value) (w0 : World) (hl : l.length ≤ 4611686018427387904) (hls : ∀ p ∈ l, p.2.set.length ≤ 4611686018427387904) (hlv : IsClaims w0 lv l) (rows : List (Value × List Int)) (rv : Value) (hr : rows.length ≤ 4611686018427387904) (hrs : ∀ p ∈ rows, p.2.length ≤ 4611686018427387904) (hrv : IsRows w0 rv rows) : Calls Tryz.prog 32 #[lv, rv] w0 fun e w' => e = .returned (.tuple #[.int .i64 (firstE (l.map (·.2)) (rows.map (·.2))).1, .int .i64 (firstE (l.map (·.2)) (rows.map (·.2))).2.1, .int .i64 (firstE (l.map (·.2)) (rows.map (·.2))).2.2]) ∧ Ext w0 w' := by
  obtain ⟨ad, cap, b, o, rfl, hcap, hs⟩ := claims_open hlv
  obtain ⟨ad1, cap1, b1, o1, rfl, hcap1, hs1⟩ := rows_open hrv
  refine enterA 42 Tryz.func32 rfl Tryz.ntmps32 rfl (Hp w0 [] [] []) (Hp.init _) ?_
  refine H.seq ?_
  refine H.region ?_
  refine H.q (yl_assign rfl) rfl rfl (by decide) ?_
  refine H.q (yl_assign rfl) rfl rfl (by decide) ?_
  refine H.q (yl_assign rfl) rfl rfl (by decide) ?_
  refine HN.done ?_
  refine HN.keep [(0, _), (1, _)] ⟨rfl, rfl, trivial⟩ ?_
  refine HN.then ?_
  refine H.seq ?_
  refine H.seq ?_
  refine H.region ?_
  refine H.q (yl_move rfl) rfl rfl (by decide) ?_
  refine H.q (yl_len rfl Tryz.underlying37 rfl) rfl rfl (by decide) ?_
  refine H.q (yl_move rfl) rfl rfl (by decide) ?_
  refine HN.done ?_
  refine HN.keep [(0, _), (13, _), (14, _), (15, _)] ⟨rfl, rfl, rfl, rfl, trivial⟩ ?_
  refine HN.then ?_
  refine H.block ?_
  refine H.loop (fun i : Nat => [(0, .slice ad l.length cap), (13, .slice ad1 rows.length cap1), (14, .int .i64 (rows.length : Int)), (15, .int .i64 (i : Int))]) (fun i => i ≤ rows.length ∧ firstR (l.map (·.2)) i ((rows.map (·.2)).drop i) = firstR (l.map (·.2)) 0 (rows.map (·.2))) (fun _ => Hp w0 [] [] []) (fun i => rows.length - i) 0 ⟨Nat.zero_le _, rfl⟩ ⟨rfl, rfl, rfl, rfl, trivial⟩ (fun w hw => hw) (fun i hI => ?_)
  obtain ⟨hi0, hi1⟩ := hI
  refine H.seq ?_
  refine H.region ?_
  refine H.q (yl_lss rfl rfl) rfl rfl (by decide) ?_
  refine HN.done ?_
  refine HN.keep [(0, _), (13, _), (14, _), (15, _), (16, _)] ⟨rfl, rfl, rfl, rfl, rfl, trivial⟩ ?_
  refine HN.then ?_
  refine H.seq ?_
  refine H.cond _ rfl (fun t0 => ?_) (fun t0 => ?_)
  · simp only [decide_eq_true_eq] at t0; have hi : i < rows.length := by omega
    have hy := hs1 i hi
    have hdr : (rows.map (·.2)).drop i = rows[i].2 :: (rows.map (·.2)).drop (i + 1) := by rw [drop_cons (by simpa using hi)]; simp
    rw [hdr] at hi1
    refine H.keep [(0, _), (13, _), (14, _), (15, _)] ⟨rfl, rfl, rfl, rfl, trivial⟩ ?_
    refine HN.skip ?_
    refine HN.then ?_
    refine H.seq ?_
    refine H.block ?_
    refine H.seq ?_
    refine H.region ?_
    refine H.q (yl_move rfl) rfl rfl (by decide) ?_
    refine H.q (yl_ix i Tryz.underlying37 Tryz.sizeOf23 hy.1 rfl rfl rfl hi) rfl rfl (by decide) ?_
    refine H.q (yl_load Tryz.isAgg23 rfl (fun w hw => cell_ext hw.ext hy.2.1)) rfl rfl (by decide) ?_
    refine H.q (yl_assign rfl) rfl rfl (by decide) ?_
    refine H.q (yl_assign rfl) rfl rfl (by decide) ?_
    refine HN.done ?_
    refine HN.keep [(0, _), (7, _), (8, _), (13, _), (14, _), (15, _)] ⟨rfl, rfl, rfl, rfl, rfl, rfl, trivial⟩ ?_
    refine HN.then ?_
    refine H.seq ?_
    refine H.region ?_
    refine H.q (yl_move rfl) rfl rfl (by decide) ?_
    refine H.q (yl_len rfl Tryz.underlying28 rfl) rfl rfl (by decide) ?_
    refine H.q (yl_move rfl) rfl rfl (by decide) ?_
    refine HN.done ?_
    refine HN.keep [(0, _), (7, _), (8, _), (13, _), (14, _), (15, _), (20, _), (21, _), (22, _)] ⟨rfl, rfl, rfl, rfl, rfl, rfl, rfl, rfl, rfl, trivial⟩ ?_
    refine HN.then ?_
    refine H.block ?_
    refine H.loop (fun k : Nat => [(0, .slice ad l.length cap), (7, .int .i64 (i : Int)), (8, rows[i].1), (13, .slice ad1 rows.length cap1), (14, .int .i64 (rows.length : Int)), (15, .int .i64 (i : Int)), (20, .slice ad l.length cap), (21, .int .i64 (l.length : Int)), (22, .int .i64 (k : Int))]) (fun k => k ≤ l.length ∧ firstC i rows[i].2 k ((l.map (·.2)).drop k) = firstC i rows[i].2 0 (l.map (·.2))) (fun _ => Hp w0 [] [] []) (fun k => l.length - k) 0 ⟨Nat.zero_le _, rfl⟩ ⟨rfl, rfl, rfl, rfl, rfl, rfl, rfl, rfl, rfl, trivial⟩ (fun w hw => hw) (fun k hI => ?_)
    obtain ⟨hk0, hk1⟩ := hI
    refine H.seq ?_
    refine H.region ?_
    refine H.q (yl_lss rfl rfl) rfl rfl (by decide) ?_
    refine HN.done ?_
    refine HN.keep [(0, _), (7, _), (8, _), (13, _), (14, _), (15, _), (20, _), (21, _), (22, _), (23, _)] ⟨rfl, rfl, rfl, rfl, rfl, rfl, rfl, rfl, rfl, rfl, trivial⟩ ?_
    refine HN.then ?_
    refine H.seq ?_
    refine H.cond _ rfl (fun t1 => ?_) (fun t1 => ?_)
    · simp only [decide_eq_true_eq] at t1; have hk : k < l.length := by omega
      have hx := hs k hk
      have hdl : (l.map (·.2)).drop k = l[k].2 :: (l.map (·.2)).drop (k + 1) := by rw [drop_cons (by simpa using hk)]; simp
      rw [hdl] at hk1
      refine H.keep [(0, _), (7, _), (8, _), (13, _), (14, _), (15, _), (20, _), (21, _), (22, _)] ⟨rfl, rfl, rfl, rfl, rfl, rfl, rfl, rfl, rfl, trivial⟩ ?_
      refine HN.skip ?_
      refine HN.then ?_
      refine H.seq ?_
      refine H.block ?_
      refine H.seq ?_
      refine H.region ?_
      refine H.q (yl_move rfl) rfl rfl (by decide) ?_
      refine H.q (yl_index' k 6 Tryz.underlying28 Tryz.sizeOf25 hx.1 rfl rfl rfl hk) rfl rfl (by decide) ?_
      refine H.q (yl_loadAgg (cellsI l[k]) Tryz.isAgg25 Tryz.sizeOf25 rfl (fun w hw => cells_ext hw.ext hx.2.1) rfl) rfl rfl (by decide) ?_
      refine H.allocA Tryz.zeroValue25 (by decide) (fun b10 hb10 => ?_)
      refine H.q (yl_assign rfl) rfl rfl (by decide) ?_
      refine H.storeA 0 rfl rfl (one_cells hx.2.2) Tryz.sizeOf25 rfl rfl ?_
      refine HN.done ?_
      refine HN.keep [(0, _), (7, _), (8, _), (9, _), (10, _), (13, _), (14, _), (15, _), (20, _), (21, _), (22, _)] ⟨rfl, rfl, rfl, rfl, rfl, rfl, rfl, rfl, rfl, rfl, rfl, trivial⟩ ?_
      refine HN.then ?_
      refine H.seq ?_
      refine H.region ?_
      refine H.q (yl_loadAgg _ Tryz.isAgg25 Tryz.sizeOf25 rfl (fun w hw => cells_of_blk (hw.blk 0 rfl)) rfl) rfl rfl (by decide) ?_
      refine H.q (yl_move rfl) rfl rfl (by decide) ?_
      refine H.q (yl_call (xs := [.tmp 28, .tmp 29]) Tryz.call29 (stab_hp _ _ _ _) rfl (fun w hw => holdE_any l[k].2 l[k].1 w (hls _ (List.getElem_mem hk)) (hx.2.2.ext hw.ext) rows[i].2 rows[i].1 (hrs _ (List.getElem_mem hi)) (hy.2.2.ext hw.ext))) rfl rfl (by decide) ?_
      refine H.q (yl_move rfl) rfl rfl (by decide) ?_
      refine H.q (yl_extract _ rfl rfl) rfl rfl (by decide) ?_
      refine H.q (yl_extract _ rfl rfl) rfl rfl (by decide) ?_
      refine H.q (yl_assign rfl) rfl rfl (by decide) ?_
      refine H.q (yl_assign rfl) rfl rfl (by decide) ?_
      refine HN.done ?_
      refine HN.keep [(0, _), (7, _), (8, _), (9, _), (11, _), (12, _), (13, _), (14, _), (15, _), (20, _), (21, _), (22, _)] ⟨rfl, rfl, rfl, rfl, rfl, rfl, rfl, rfl, rfl, rfl, rfl, rfl, trivial⟩ ?_
      refine HN.then ?_
      refine H.seq ?_
      refine H.seq ?_
      refine H.region ?_
      refine H.q (yl_move rfl) rfl rfl (by decide) ?_
      refine H.q (yl_neq rfl rfl) rfl rfl (by decide) ?_
      refine HN.done ?_
      refine HN.keep [(0, _), (7, _), (8, _), (9, _), (11, _), (12, _), (13, _), (14, _), (15, _), (20, _), (21, _), (22, _), (34, _)] ⟨rfl, rfl, rfl, rfl, rfl, rfl, rfl, rfl, rfl, rfl, rfl, rfl, rfl, trivial⟩ ?_
      refine HN.then ?_
      refine H.cond _ rfl (fun t2 => ?_) (fun t2 => ?_)
      · simp only [ne_eq, decide_not, Bool.not_eq_true', decide_eq_false_iff_not] at t2
        refine H.keep [(12, _)] ⟨rfl, trivial⟩ ?_
        refine H.seq ?_
        refine H.region ?_
        refine H.q (yl_move rfl) rfl rfl (by decide) ?_
        refine H.q (yl_assign rfl) rfl rfl (by decide) ?_
        refine H.q (yl_assign rfl) rfl rfl (by decide) ?_
        refine H.q (yl_assign rfl) rfl rfl (by decide) ?_
        refine HN.done ?_
        refine HN.keep [(4, _), (5, _), (6, _)] ⟨rfl, rfl, rfl, trivial⟩ ?_
        refine HN.then ?_
        refine HR.ret ?_
        refine HR.then ?_
        refine HR.block ?_
        refine HR.then ?_
        refine HR.then ?_
        refine HR.block ?_
        refine HR.block ?_
        refine HR.then ?_
        refine HR.then ?_
        refine HR.block ?_
        refine HR.then ?_
        refine HR.ret3 _ _ _ Tryz.results32 rfl rfl rfl (fun w hw => ?_)
        rw [firstC_err t2] at hk1
        rw [firstR_some hk1.symm] at hi1
        exact ⟨by simp only [firstE, ← hi1, Option.getD_some] <;> rfl, hw.ext⟩
      · simp only [ne_eq, decide_not, Bool.not_eq_false', decide_eq_true_eq] at t2
        refine H.keep [(0, _), (7, _), (8, _), (9, _), (11, _), (13, _), (14, _), (15, _), (20, _), (21, _), (22, _)] ⟨rfl, rfl, rfl, rfl, rfl, rfl, rfl, rfl, rfl, rfl, rfl, trivial⟩ ?_
        refine HN.skip ?_
        refine HN.then ?_
        refine H.seq ?_
        refine H.region ?_
        refine H.q (yl_move rfl) rfl rfl (by decide) ?_
        refine H.q (yl_not rfl) rfl rfl (by decide) ?_
        refine HN.done ?_
        refine HN.keep [(0, _), (7, _), (8, _), (9, _), (13, _), (14, _), (15, _), (20, _), (21, _), (22, _), (37, _)] ⟨rfl, rfl, rfl, rfl, rfl, rfl, rfl, rfl, rfl, rfl, rfl, trivial⟩ ?_
        refine HN.then ?_
        refine H.cond _ rfl (fun t3 => ?_) (fun t3 => ?_)
        · simp only [Bool.not_eq_true'] at t3
          refine H.keep [(7, _), (9, _)] ⟨rfl, rfl, trivial⟩ ?_
          refine H.seq ?_
          refine H.region ?_
          refine H.q (yl_move rfl) rfl rfl (by decide) ?_
          refine H.q (yl_move rfl) rfl rfl (by decide) ?_
          refine H.q (yl_assign rfl) rfl rfl (by decide) ?_
          refine H.q (yl_assign rfl) rfl rfl (by decide) ?_
          refine H.q (yl_assign rfl) rfl rfl (by decide) ?_
          refine HN.done ?_
          refine HN.keep [(4, _), (5, _), (6, _)] ⟨rfl, rfl, rfl, trivial⟩ ?_
          refine HN.then ?_
          refine HR.ret ?_
          refine HR.block ?_
          refine HR.then ?_
          refine HR.then ?_
          refine HR.block ?_
          refine HR.block ?_
          refine HR.then ?_
          refine HR.then ?_
          refine HR.block ?_
          refine HR.then ?_
          refine HR.ret3 _ _ _ Tryz.results32 rfl rfl rfl (fun w hw => ?_)
          rw [firstC_no t2 t3] at hk1
          rw [firstR_some hk1.symm] at hi1
          exact ⟨by simp only [firstE, ← hi1, Option.getD_some] <;> rfl, hw.ext⟩
        · simp only [Bool.not_eq_false'] at t3
          rw [firstC_yes t2 t3] at hk1
          refine H.keep [(0, _), (7, _), (8, _), (13, _), (14, _), (15, _), (20, _), (21, _), (22, _)] ⟨rfl, rfl, rfl, rfl, rfl, rfl, rfl, rfl, rfl, trivial⟩ ?_
          refine HN.skip ?_
          refine HN.block ?_
          refine HN.then ?_
          refine H.region ?_
          refine H.q (yl_add rfl rfl _ rfl (by omega)) rfl rfl (by decide) ?_
          refine H.q (yl_move rfl) rfl rfl (by decide) ?_
          refine HN.done ?_
          refine HN.keep [(0, _), (7, _), (8, _), (13, _), (14, _), (15, _), (20, _), (21, _), (22, _)] ⟨rfl, rfl, rfl, rfl, rfl, rfl, rfl, rfl, rfl, trivial⟩ ?_
          refine HN.then ?_
          exact H.at (k + 1) ⟨⟨by omega, by simpa using hk1⟩, by omega⟩ ⟨rfl, rfl, rfl, rfl, rfl, rfl, rfl, rfl, rfl, trivial⟩ (fun w hw => hw.drop)
    · simp only [decide_eq_false_iff_not] at t1
      have hz : firstC i rows[i].2 0 (l.map (·.2)) = none := by rw [← hk1, List.drop_eq_nil_of_le (by simp; omega)]; rfl
      rw [firstR_none hz] at hi1
      refine H.keep [(0, _), (13, _), (14, _), (15, _)] ⟨rfl, rfl, rfl, rfl, trivial⟩ ?_
      refine HX.exit ?_
      refine HX.then ?_
      refine HX.then ?_
      refine HX.hit ?_
      refine HN.block ?_
      refine HN.then ?_
      refine H.region ?_
      refine H.q (yl_add rfl rfl _ rfl (by omega)) rfl rfl (by decide) ?_
      refine H.q (yl_move rfl) rfl rfl (by decide) ?_
      refine HN.done ?_
      refine HN.keep [(0, _), (13, _), (14, _), (15, _)] ⟨rfl, rfl, rfl, rfl, trivial⟩ ?_
      refine HN.then ?_
      exact H.at (i + 1) ⟨⟨by omega, by simpa using hi1⟩, by omega⟩ ⟨rfl, rfl, rfl, rfl, trivial⟩ (fun w hw => hw)
  · simp only [decide_eq_false_iff_not] at t0
    have hz : firstR (l.map (·.2)) 0 (rows.map (·.2)) = none := by rw [← hi1, List.drop_eq_nil_of_le (by simp; omega)]; rfl
    refine H.keep [] trivial ?_
    refine HX.exit ?_
    refine HX.then ?_
    refine HX.then ?_
    refine HX.hit ?_
    refine HN.then ?_
    refine H.seq ?_
    refine H.region ?_
    refine H.q (yl_assign rfl) rfl rfl (by decide) ?_
    refine H.q (yl_assign rfl) rfl rfl (by decide) ?_
    refine H.q (yl_assign rfl) rfl rfl (by decide) ?_
    refine HN.done ?_
    refine HN.keep [(4, _), (5, _), (6, _)] ⟨rfl, rfl, rfl, trivial⟩ ?_
    refine HN.then ?_
    refine HR.ret ?_
    refine HR.ret3 _ _ _ Tryz.results32 rfl rfl rfl (fun w hw => ?_)
    exact ⟨by simp only [firstE, hz, Option.getD_none], hw.ext⟩

set_option maxRecDepth 100000 in
theorem refFirst_any (l : List (Value × Inv)) (lv : Value) (w0 : World) (hl : l.length ≤ 4611686018427387904) (hls : ∀ p ∈ l, p.2.set.length ≤ 4611686018427387904) (hlv : IsClaims w0 lv l) (rows : List (Value × List Int)) (rv : Value) (hr : rows.length ≤ 4611686018427387904) (hrs : ∀ p ∈ rows, p.2.length ≤ 4611686018427387904) (hrv : IsRows w0 rv rows) : Calls Tryz.prog 33 #[lv, rv] w0 fun e w' => e = .returned (.tuple #[.int .i64 (firstE (l.map (·.2)) (rows.map (·.2))).1, .int .i64 (firstE (l.map (·.2)) (rows.map (·.2))).2.1, .int .i64 (firstE (l.map (·.2)) (rows.map (·.2))).2.2]) ∧ Ext w0 w' := by
  obtain ⟨ad, cap, b, o, rfl, hcap, hs⟩ := claims_open hlv
  obtain ⟨ad1, cap1, b1, o1, rfl, hcap1, hs1⟩ := rows_open hrv
  refine enterA 42 Tryz.func33 rfl Tryz.ntmps33 rfl (Hp w0 [] [] []) (Hp.init _) ?_
  refine H.seq ?_
  refine H.region ?_
  refine H.q (yl_assign rfl) rfl rfl (by decide) ?_
  refine H.q (yl_assign rfl) rfl rfl (by decide) ?_
  refine H.q (yl_assign rfl) rfl rfl (by decide) ?_
  refine HN.done ?_
  refine HN.keep [(0, _), (1, _)] ⟨rfl, rfl, trivial⟩ ?_
  refine HN.then ?_
  refine H.seq ?_
  refine H.seq ?_
  refine H.region ?_
  refine H.q (yl_assign rfl) rfl rfl (by decide) ?_
  refine HN.done ?_
  refine HN.keep [(0, _), (1, _), (7, _)] ⟨rfl, rfl, rfl, trivial⟩ ?_
  refine HN.then ?_
  refine H.block ?_
  refine H.loop (fun i : Nat => [(0, .slice ad l.length cap), (1, .slice ad1 rows.length cap1), (7, .int .i64 (i : Int))]) (fun i => i ≤ rows.length ∧ firstR (l.map (·.2)) i ((rows.map (·.2)).drop i) = firstR (l.map (·.2)) 0 (rows.map (·.2))) (fun _ => Hp w0 [] [] []) (fun i => rows.length - i) 0 ⟨Nat.zero_le _, rfl⟩ ⟨rfl, rfl, rfl, trivial⟩ (fun w hw => hw) (fun i hI => ?_)
  obtain ⟨hi0, hi1⟩ := hI
  refine H.seq ?_
  refine H.seq ?_
  refine H.region ?_
  refine H.q (yl_move rfl) rfl rfl (by decide) ?_
  refine H.q (yl_move rfl) rfl rfl (by decide) ?_
  refine H.q (yl_len rfl Tryz.underlying37 rfl) rfl rfl (by decide) ?_
  refine H.q (yl_lss rfl rfl) rfl rfl (by decide) ?_
  refine HN.done ?_
  refine HN.keep [(0, _), (1, _), (7, _), (14, _)] ⟨rfl, rfl, rfl, rfl, trivial⟩ ?_
  refine HN.then ?_
  refine H.cond _ rfl (fun t0 => ?_) (fun t0 => ?_)
  · simp only [decide_eq_true_eq] at t0; have hi : i < rows.length := by omega
    have hy := hs1 i hi
    have hdr : (rows.map (·.2)).drop i = rows[i].2 :: (rows.map (·.2)).drop (i + 1) := by rw [drop_cons (by simpa using hi)]; simp
    rw [hdr] at hi1
    refine H.keep [(0, _), (1, _), (7, _)] ⟨rfl, rfl, rfl, trivial⟩ ?_
    refine HN.skip ?_
    refine HN.then ?_
    refine H.seq ?_
    refine H.block ?_
    refine H.seq ?_
    refine H.region ?_
    refine H.q (yl_assign rfl) rfl rfl (by decide) ?_
    refine HN.done ?_
    refine HN.keep [(0, _), (1, _), (7, _), (8, _)] ⟨rfl, rfl, rfl, rfl, trivial⟩ ?_
    refine HN.then ?_
    refine H.block ?_
    refine H.loop (fun k : Nat => [(0, .slice ad l.length cap), (1, .slice ad1 rows.length cap1), (7, .int .i64 (i : Int)), (8, .int .i64 (k : Int))]) (fun k => k ≤ l.length ∧ firstC i rows[i].2 k ((l.map (·.2)).drop k) = firstC i rows[i].2 0 (l.map (·.2))) (fun _ => Hp w0 [] [] []) (fun k => l.length - k) 0 ⟨Nat.zero_le _, rfl⟩ ⟨rfl, rfl, rfl, rfl, trivial⟩ (fun w hw => hw) (fun k hI => ?_)
    obtain ⟨hk0, hk1⟩ := hI
    refine H.seq ?_
    refine H.seq ?_
    refine H.region ?_
    refine H.q (yl_move rfl) rfl rfl (by decide) ?_
    refine H.q (yl_move rfl) rfl rfl (by decide) ?_
    refine H.q (yl_len rfl Tryz.underlying28 rfl) rfl rfl (by decide) ?_
    refine H.q (yl_lss rfl rfl) rfl rfl (by decide) ?_
    refine HN.done ?_
    refine HN.keep [(0, _), (1, _), (7, _), (8, _), (20, _)] ⟨rfl, rfl, rfl, rfl, rfl, trivial⟩ ?_
    refine HN.then ?_
    refine H.cond _ rfl (fun t1 => ?_) (fun t1 => ?_)
    · simp only [decide_eq_true_eq] at t1; have hk : k < l.length := by omega
      have hx := hs k hk
      have hdl : (l.map (·.2)).drop k = l[k].2 :: (l.map (·.2)).drop (k + 1) := by rw [drop_cons (by simpa using hk)]; simp
      rw [hdl] at hk1
      refine H.keep [(0, _), (1, _), (7, _), (8, _)] ⟨rfl, rfl, rfl, rfl, trivial⟩ ?_
      refine HN.skip ?_
      refine HN.then ?_
      refine H.seq ?_
      refine H.block ?_
      refine H.seq ?_
      refine H.regionQ Tryz.mixed (by kernel_rfl) (stab_hp _ _ _ _) ?_
      refine G.q (yl_move rfl) rfl rfl (by decide) ?_
      refine G.q (yl_move rfl) rfl rfl (by decide) ?_
      refine G.q (yl_index' k 6 Tryz.underlying28 Tryz.sizeOf25 hx.1 rfl rfl rfl hk) rfl rfl (by decide) ?_
      refine G.q (yl_loadAgg (cellsI l[k]) Tryz.isAgg25 Tryz.sizeOf25 rfl (fun w hw => cells_ext hw.ext hx.2.1) rfl) rfl rfl (by decide) ?_
      refine G.q (yl_move rfl) rfl rfl (by decide) ?_
      refine G.q (yl_move rfl) rfl rfl (by decide) ?_
      refine G.q (yl_ix i Tryz.underlying37 Tryz.sizeOf23 hy.1 rfl rfl rfl hi) rfl rfl (by decide) ?_
      refine G.q (yl_load Tryz.isAgg23 rfl (fun w hw => cell_ext hw.ext hy.2.1)) rfl rfl (by decide) ?_
      refine G.q (yl_call (xs := [.tmp 27, .tmp 31]) Tryz.call31 (stab_hp _ _ _ _) rfl (fun w hw => refHoldE_any l[k].2 l[k].1 w (hls _ (List.getElem_mem hk)) (hx.2.2.ext hw.ext) rows[i].2 rows[i].1 (hrs _ (List.getElem_mem hi)) (hy.2.2.ext hw.ext))) rfl rfl (by decide) ?_
      refine G.q (yl_move rfl) rfl rfl (by decide) ?_
      refine G.q (yl_extract _ rfl rfl) rfl rfl (by decide) ?_
      refine G.q (yl_extract _ rfl rfl) rfl rfl (by decide) ?_
      refine G.q (yl_assign rfl) rfl rfl (by decide) ?_
      refine G.q (yl_assign rfl) rfl rfl (by decide) ?_
      refine HN.doneG ?_
      refine HN.keep [(0, _), (1, _), (7, _), (8, _), (9, _), (10, _)] ⟨rfl, rfl, rfl, rfl, rfl, rfl, trivial⟩ ?_
      refine HN.then ?_
      refine H.seq ?_
      refine H.seq ?_
      refine H.region ?_
      refine H.q (yl_move rfl) rfl rfl (by decide) ?_
      refine H.q (yl_neq rfl rfl) rfl rfl (by decide) ?_
      refine HN.done ?_
      refine HN.keep [(0, _), (1, _), (7, _), (8, _), (9, _), (10, _), (36, _)] ⟨rfl, rfl, rfl, rfl, rfl, rfl, rfl, trivial⟩ ?_
      refine HN.then ?_
      refine H.cond _ rfl (fun t2 => ?_) (fun t2 => ?_)
      · simp only [ne_eq, decide_not, Bool.not_eq_true', decide_eq_false_iff_not] at t2
        refine H.keep [(10, _)] ⟨rfl, trivial⟩ ?_
        refine H.seq ?_
        refine H.region ?_
        refine H.q (yl_move rfl) rfl rfl (by decide) ?_
        refine H.q (yl_assign rfl) rfl rfl (by decide) ?_
        refine H.q (yl_assign rfl) rfl rfl (by decide) ?_
        refine H.q (yl_assign rfl) rfl rfl (by decide) ?_
        refine HN.done ?_
        refine HN.keep [(4, _), (5, _), (6, _)] ⟨rfl, rfl, rfl, trivial⟩ ?_
        refine HN.then ?_
        refine HR.ret ?_
        refine HR.then ?_
        refine HR.block ?_
        refine HR.then ?_
        refine HR.then ?_
        refine HR.block ?_
        refine HR.block ?_
        refine HR.then ?_
        refine HR.then ?_
        refine HR.block ?_
        refine HR.then ?_
        refine HR.ret3 _ _ _ Tryz.results33 rfl rfl rfl (fun w hw => ?_)
        rw [firstC_err t2] at hk1
        rw [firstR_some hk1.symm] at hi1
        exact ⟨by simp only [firstE, ← hi1, Option.getD_some] <;> rfl, hw.ext⟩
      · simp only [ne_eq, decide_not, Bool.not_eq_false', decide_eq_true_eq] at t2
        refine H.keep [(0, _), (1, _), (7, _), (8, _), (9, _)] ⟨rfl, rfl, rfl, rfl, rfl, trivial⟩ ?_
        refine HN.skip ?_
        refine HN.then ?_
        refine H.seq ?_
        refine H.region ?_
        refine H.q (yl_move rfl) rfl rfl (by decide) ?_
        refine H.q (yl_not rfl) rfl rfl (by decide) ?_
        refine HN.done ?_
        refine HN.keep [(0, _), (1, _), (7, _), (8, _), (39, _)] ⟨rfl, rfl, rfl, rfl, rfl, trivial⟩ ?_
        refine HN.then ?_
        refine H.cond _ rfl (fun t3 => ?_) (fun t3 => ?_)
        · simp only [Bool.not_eq_true'] at t3
          refine H.keep [(7, _), (8, _)] ⟨rfl, rfl, trivial⟩ ?_
          refine H.seq ?_
          refine H.region ?_
          refine H.q (yl_move rfl) rfl rfl (by decide) ?_
          refine H.q (yl_move rfl) rfl rfl (by decide) ?_
          refine H.q (yl_assign rfl) rfl rfl (by decide) ?_
          refine H.q (yl_assign rfl) rfl rfl (by decide) ?_
          refine H.q (yl_assign rfl) rfl rfl (by decide) ?_
          refine HN.done ?_
          refine HN.keep [(4, _), (5, _), (6, _)] ⟨rfl, rfl, rfl, trivial⟩ ?_
          refine HN.then ?_
          refine HR.ret ?_
          refine HR.block ?_
          refine HR.then ?_
          refine HR.then ?_
          refine HR.block ?_
          refine HR.block ?_
          refine HR.then ?_
          refine HR.then ?_
          refine HR.block ?_
          refine HR.then ?_
          refine HR.ret3 _ _ _ Tryz.results33 rfl rfl rfl (fun w hw => ?_)
          rw [firstC_no t2 t3] at hk1
          rw [firstR_some hk1.symm] at hi1
          exact ⟨by simp only [firstE, ← hi1, Option.getD_some] <;> rfl, hw.ext⟩
        · simp only [Bool.not_eq_false'] at t3
          rw [firstC_yes t2 t3] at hk1
          refine H.keep [(0, _), (1, _), (7, _), (8, _)] ⟨rfl, rfl, rfl, rfl, trivial⟩ ?_
          refine HN.skip ?_
          refine HN.block ?_
          refine HN.then ?_
          refine H.region ?_
          refine H.q (yl_move rfl) rfl rfl (by decide) ?_
          refine H.q (yl_add rfl rfl _ rfl (by omega)) rfl rfl (by decide) ?_
          refine H.q (yl_assign rfl) rfl rfl (by decide) ?_
          refine HN.done ?_
          refine HN.keep [(0, _), (1, _), (7, _), (8, _)] ⟨rfl, rfl, rfl, rfl, trivial⟩ ?_
          refine HN.then ?_
          exact H.at (k + 1) ⟨⟨by omega, by simpa using hk1⟩, by omega⟩ ⟨rfl, rfl, rfl, rfl, trivial⟩ (fun w hw => hw)
    · simp only [decide_eq_false_iff_not] at t1
      have hz : firstC i rows[i].2 0 (l.map (·.2)) = none := by rw [← hk1, List.drop_eq_nil_of_le (by simp; omega)]; rfl
      rw [firstR_none hz] at hi1
      refine H.keep [(0, _), (1, _), (7, _)] ⟨rfl, rfl, rfl, trivial⟩ ?_
      refine HX.exit ?_
      refine HX.then ?_
      refine HX.then ?_
      refine HX.hit ?_
      refine HN.block ?_
      refine HN.then ?_
      refine H.region ?_
      refine H.q (yl_move rfl) rfl rfl (by decide) ?_
      refine H.q (yl_add rfl rfl _ rfl (by omega)) rfl rfl (by decide) ?_
      refine H.q (yl_assign rfl) rfl rfl (by decide) ?_
      refine HN.done ?_
      refine HN.keep [(0, _), (1, _), (7, _)] ⟨rfl, rfl, rfl, trivial⟩ ?_
      refine HN.then ?_
      exact H.at (i + 1) ⟨⟨by omega, by simpa using hi1⟩, by omega⟩ ⟨rfl, rfl, rfl, trivial⟩ (fun w hw => hw)
  · simp only [decide_eq_false_iff_not] at t0
    have hz : firstR (l.map (·.2)) 0 (rows.map (·.2)) = none := by rw [← hi1, List.drop_eq_nil_of_le (by simp; omega)]; rfl
    refine H.keep [] trivial ?_
    refine HX.exit ?_
    refine HX.then ?_
    refine HX.then ?_
    refine HX.hit ?_
    refine HN.then ?_
    refine H.seq ?_
    refine H.region ?_
    refine H.q (yl_assign rfl) rfl rfl (by decide) ?_
    refine H.q (yl_assign rfl) rfl rfl (by decide) ?_
    refine H.q (yl_assign rfl) rfl rfl (by decide) ?_
    refine HN.done ?_
    refine HN.keep [(4, _), (5, _), (6, _)] ⟨rfl, rfl, rfl, trivial⟩ ?_
    refine HN.then ?_
    refine HR.ret ?_
    refine HR.ret3 _ _ _ Tryz.results33 rfl rfl rfl (fun w hw => ?_)
    exact ⟨by simp only [firstE, hz, Option.getD_none], hw.ext⟩

set_option maxRecDepth 100000 in
theorem sameAll_any (l m : List (Value × Inv)) (lv mv : Value) (w0 : World) (hl : l.length ≤ 4611686018427387904) (hm : m.length ≤ 4611686018427387904) (hls : ∀ p ∈ l, p.2.set.length ≤ 4611686018427387904) (hms : ∀ p ∈ m, p.2.set.length ≤ 4611686018427387904) (hlv : IsClaims w0 lv l) (hmv : IsClaims w0 mv m) : Calls Tryz.prog 23 #[lv, mv] w0 fun e w' => e = .returned (.bool (sameAllB (l.map (·.2)) (m.map (·.2)))) ∧ Ext w0 w' := by
  obtain ⟨ad, cap, b, o, rfl, hcap, hs⟩ := claims_open hlv
  obtain ⟨ad1, cap1, b1, o1, rfl, hcap1, hs1⟩ := claims_open hmv
  refine enterA 27 Tryz.func23 rfl Tryz.ntmps23 rfl (Hp w0 [] [] []) (Hp.init _) ?_
  refine H.seq ?_
  refine H.region ?_
  refine H.q (yl_assign rfl) rfl rfl (by decide) ?_
  refine HN.done ?_
  refine HN.keep [(0, _), (1, _)] ⟨rfl, rfl, trivial⟩ ?_
  refine HN.then ?_
  refine H.seq ?_
  refine H.seq ?_
  refine H.region ?_
  refine H.q (yl_move rfl) rfl rfl (by decide) ?_
  refine H.q (yl_len rfl Tryz.underlying28 rfl) rfl rfl (by decide) ?_
  refine H.q (yl_move rfl) rfl rfl (by decide) ?_
  refine H.q (yl_len rfl Tryz.underlying28 rfl) rfl rfl (by decide) ?_
  refine H.q (yl_neq rfl rfl) rfl rfl (by decide) ?_
  refine HN.done ?_
  refine HN.keep [(0, _), (1, _), (10, _)] ⟨rfl, rfl, rfl, trivial⟩ ?_
  refine HN.then ?_
  refine H.cond _ rfl (fun t0 => ?_) (fun t0 => ?_)
  · simp only [ne_eq, decide_not, Bool.not_eq_true', decide_eq_false_iff_not] at t0
    refine H.keep [] trivial ?_
    refine H.seq ?_
    refine H.region ?_
    refine H.q (yl_assign rfl) rfl rfl (by decide) ?_
    refine HN.done ?_
    refine HN.keep [(4, _)] ⟨rfl, trivial⟩ ?_
    refine HN.then ?_
    refine HR.ret ?_
    refine HR.then ?_
    refine HR.ret1 _ Tryz.results23 rfl (fun w hw => ?_)
    exact ⟨by rw [sameAllB_len (by simp; omega)], hw.ext⟩
  · simp only [ne_eq, decide_not, Bool.not_eq_false', decide_eq_true_eq] at t0
    have hlen : l.length = m.length := by omega
    refine H.keep [(0, _), (1, _)] ⟨rfl, rfl, trivial⟩ ?_
    refine HN.skip ?_
    refine HN.then ?_
    refine H.seq ?_
    refine H.seq ?_
    refine H.region ?_
    refine H.q (yl_assign rfl) rfl rfl (by decide) ?_
    refine HN.done ?_
    refine HN.keep [(0, _), (1, _), (5, _)] ⟨rfl, rfl, rfl, trivial⟩ ?_
    refine HN.then ?_
    refine H.block ?_
    refine H.loop (fun k : Nat => [(0, .slice ad l.length cap), (1, .slice ad1 m.length cap1), (5, .int .i64 (k : Int))]) (fun k => k ≤ l.length ∧ sameAllB ((l.map (·.2)).drop k) ((m.map (·.2)).drop k) = sameAllB (l.map (·.2)) (m.map (·.2))) (fun _ => Hp w0 [] [] []) (fun i => l.length - i) 0 ⟨Nat.zero_le _, rfl⟩ ⟨rfl, rfl, rfl, trivial⟩ (fun w hw => hw) (fun k hI => ?_)
    obtain ⟨hk0, hk1⟩ := hI
    refine H.seq ?_
    refine H.seq ?_
    refine H.region ?_
    refine H.q (yl_move rfl) rfl rfl (by decide) ?_
    refine H.q (yl_move rfl) rfl rfl (by decide) ?_
    refine H.q (yl_len rfl Tryz.underlying28 rfl) rfl rfl (by decide) ?_
    refine H.q (yl_lss rfl rfl) rfl rfl (by decide) ?_
    refine HN.done ?_
    refine HN.keep [(0, _), (1, _), (5, _), (14, _)] ⟨rfl, rfl, rfl, rfl, trivial⟩ ?_
    refine HN.then ?_
    refine H.cond _ rfl (fun t1 => ?_) (fun t1 => ?_)
    · simp only [decide_eq_true_eq] at t1; have hk : k < l.length := by omega
      have hk' : k < m.length := by omega
      have hx := hs k hk
      have hy := hs1 k hk'
      rw [show (l.map (·.2)).drop k = l[k].2 :: (l.map (·.2)).drop (k + 1) by rw [drop_cons (by simpa using hk)]; simp, show (m.map (·.2)).drop k = m[k].2 :: (m.map (·.2)).drop (k + 1) by rw [drop_cons (by simpa using hk')]; simp, sameAllB] at hk1
      refine H.keep [(0, _), (1, _), (5, _)] ⟨rfl, rfl, rfl, trivial⟩ ?_
      refine HN.skip ?_
      refine HN.then ?_
      refine H.seq ?_
      refine H.block ?_
      refine H.seq ?_
      refine H.regionQ Tryz.mixed (by kernel_rfl) (stab_hp _ _ _ _) ?_
      refine G.q (yl_move rfl) rfl rfl (by decide) ?_
      refine G.q (yl_move rfl) rfl rfl (by decide) ?_
      refine G.q (yl_index' k 6 Tryz.underlying28 Tryz.sizeOf25 hx.1 rfl rfl rfl hk) rfl rfl (by decide) ?_
      refine G.q (yl_loadAgg (cellsI l[k]) Tryz.isAgg25 Tryz.sizeOf25 rfl (fun w hw => cells_ext hw.ext hx.2.1) rfl) rfl rfl (by decide) ?_
      refine G.q (yl_move rfl) rfl rfl (by decide) ?_
      refine G.q (yl_move rfl) rfl rfl (by decide) ?_
      refine G.q (yl_index' k 6 Tryz.underlying28 Tryz.sizeOf25 hy.1 rfl rfl rfl hk') rfl rfl (by decide) ?_
      refine G.q (yl_loadAgg (cellsI m[k]) Tryz.isAgg25 Tryz.sizeOf25 rfl (fun w hw => cells_ext hw.ext hy.2.1) rfl) rfl rfl (by decide) ?_
      refine G.q (yl_call (xs := [.tmp 20, .tmp 24]) Tryz.call16 (stab_hp _ _ _ _) rfl (fun w hw => same_any l[k].2 m[k].2 l[k].1 m[k].1 w (hls _ (List.getElem_mem hk)) (hms _ (List.getElem_mem hk')) (hx.2.2.ext hw.ext) (hy.2.2.ext hw.ext))) rfl rfl (by decide) ?_
      refine G.q (yl_not rfl) rfl rfl (by decide) ?_
      refine HN.doneG ?_
      refine HN.keep [(0, _), (1, _), (5, _), (26, _)] ⟨rfl, rfl, rfl, rfl, trivial⟩ ?_
      refine HN.then ?_
      refine H.cond _ rfl (fun t2 => ?_) (fun t2 => ?_)
      · simp only [Bool.not_eq_true'] at t2
        rw [t2, Bool.false_and] at hk1
        refine H.keep [] trivial ?_
        refine H.seq ?_
        refine H.region ?_
        refine H.q (yl_assign rfl) rfl rfl (by decide) ?_
        refine HN.done ?_
        refine HN.keep [(4, _)] ⟨rfl, trivial⟩ ?_
        refine HN.then ?_
        refine HR.ret ?_
        refine HR.block ?_
        refine HR.then ?_
        refine HR.then ?_
        refine HR.block ?_
        refine HR.then ?_
        refine HR.ret1 _ Tryz.results23 rfl (fun w hw => ?_)
        exact ⟨by rw [← hk1], hw.ext⟩
      · simp only [Bool.not_eq_false'] at t2
        rw [t2, Bool.true_and] at hk1
        refine H.keep [(0, _), (1, _), (5, _)] ⟨rfl, rfl, rfl, trivial⟩ ?_
        refine HN.skip ?_
        refine HN.block ?_
        refine HN.then ?_
        refine H.region ?_
        refine H.q (yl_move rfl) rfl rfl (by decide) ?_
        refine H.q (yl_add rfl rfl _ rfl (by omega)) rfl rfl (by decide) ?_
        refine H.q (yl_assign rfl) rfl rfl (by decide) ?_
        refine HN.done ?_
        refine HN.keep [(0, _), (1, _), (5, _)] ⟨rfl, rfl, rfl, trivial⟩ ?_
        refine HN.then ?_
        exact H.at (k + 1) ⟨⟨by omega, hk1⟩, by omega⟩ ⟨rfl, rfl, rfl, trivial⟩ (fun w hw => hw)
    · simp only [decide_eq_false_iff_not] at t1
      rw [List.drop_eq_nil_of_le (by simp; omega), List.drop_eq_nil_of_le (by simp; omega)] at hk1
      refine H.keep [] trivial ?_
      refine HX.exit ?_
      refine HX.then ?_
      refine HX.then ?_
      refine HX.hit ?_
      refine HN.then ?_
      refine H.seq ?_
      refine H.region ?_
      refine H.q (yl_assign rfl) rfl rfl (by decide) ?_
      refine HN.done ?_
      refine HN.keep [(4, _)] ⟨rfl, trivial⟩ ?_
      refine HN.then ?_
      refine HR.ret ?_
      refine HR.ret1 _ Tryz.results23 rfl (fun w hw => ?_)
      exact ⟨by rw [← hk1]; rfl, hw.ext⟩

set_option maxRecDepth 100000 in
theorem wide_any (l : List (Value × Inv)) (lv : Value) (rows : List (Value × List Int)) (rv : Value) (names : List (List UInt8)) (nv : Value) (w0 : World) (hlv : IsClaims w0 lv l) (hrv : IsRows w0 rv rows) (hnv : IsStrs w0 nv names) : Calls Tryz.prog 10 #[lv, rv, nv] w0 fun e w' => e = .returned (.bool (wideB (l.map (·.2)) (rows.map (·.2)) names)) ∧ Ext w0 w' := by
  obtain ⟨ad, cap, b, o, rfl, hcap, hs⟩ := claims_open hlv
  obtain ⟨ad1, cap1, b1, o1, rfl, hcap1, hs1⟩ := rows_open hrv
  obtain ⟨ad2, cap2, b2, o2, rfl, hcap2, hs2⟩ := sl_open strV hnv
  refine enterA 60 Tryz.func10 rfl Tryz.ntmps10 rfl (Hp w0 [] [] []) (Hp.init _) ?_
  refine H.seq ?_
  refine H.region ?_
  refine H.q (yl_assign rfl) rfl rfl (by decide) ?_
  refine HN.done ?_
  refine HN.keep [(0, _), (1, _), (2, _)] ⟨rfl, rfl, rfl, trivial⟩ ?_
  refine HN.then ?_
  refine H.seq ?_
  refine H.seq ?_
  refine H.region ?_
  refine H.q (yl_move rfl) rfl rfl (by decide) ?_
  refine H.q (yl_len rfl Tryz.underlying28 rfl) rfl rfl (by decide) ?_
  refine H.q (yl_gtr rfl rfl) rfl rfl (by decide) ?_
  refine H.q (yl_move rfl) rfl rfl (by decide) ?_
  refine H.qg (wn_f rfl rfl (by decide) rfl) (fun hg => yl_sub [(1, _)] ⟨rfl, trivial⟩ (yl_move rfl)) rfl (by decide) ?_
  refine H.qg (wn_f rfl rfl (by decide) rfl) (fun hg => yl_sub [(14, _)] ⟨slT rfl hg, trivial⟩ (yl_len rfl Tryz.underlying37 rfl)) rfl (by decide) ?_
  refine H.qg (wn_f rfl rfl (by decide) rfl) (fun hg => yl_sub [(15, _)] ⟨slT rfl hg, trivial⟩ (yl_gtr rfl rfl)) rfl (by decide) ?_
  refine H.q (yl_or rfl rfl) rfl rfl (by decide) ?_
  refine H.q (yl_move rfl) rfl rfl (by decide) ?_
  refine H.qg (wn_f rfl rfl (by decide) rfl) (fun hg => yl_sub [(2, _)] ⟨rfl, trivial⟩ (yl_move rfl)) rfl (by decide) ?_
  refine H.qg (wn_f rfl rfl (by decide) rfl) (fun hg => yl_sub [(19, _)] ⟨slT rfl hg, trivial⟩ (yl_len rfl Tryz.underlying26 rfl)) rfl (by decide) ?_
  refine H.qg (wn_f rfl rfl (by decide) rfl) (fun hg => yl_sub [(20, _)] ⟨slT rfl hg, trivial⟩ (yl_gtr rfl rfl)) rfl (by decide) ?_
  refine H.q (yl_or rfl rfl) rfl rfl (by decide) ?_
  refine HN.done ?_
  refine HN.keep [(0, _), (1, _), (2, _), (22, _)] ⟨rfl, rfl, rfl, rfl, trivial⟩ ?_
  refine HN.then ?_
  refine H.cond _ rfl (fun t0 => ?_) (fun t0 => ?_)
  · refine H.keep [] trivial ?_
    refine H.seq ?_
    refine H.region ?_
    refine H.q (yl_assign rfl) rfl rfl (by decide) ?_
    refine HN.done ?_
    refine HN.keep [(6, _)] ⟨rfl, trivial⟩ ?_
    refine HN.then ?_
    refine HR.ret ?_
    refine HR.then ?_
    refine HR.ret1 _ Tryz.results10 rfl (fun w hw => ?_)
    exact ⟨by simp [wideB, t0], hw.ext⟩
  · simp only [Bool.or_eq_false_iff, decide_eq_false_iff_not] at t0
    refine H.keep [(0, _), (1, _), (2, _)] ⟨rfl, rfl, rfl, trivial⟩ ?_
    refine HN.skip ?_
    refine HN.then ?_
    refine H.seq ?_
    refine H.seq ?_
    refine H.region ?_
    refine H.q (yl_assign rfl) rfl rfl (by decide) ?_
    refine HN.done ?_
    refine HN.keep [(0, _), (1, _), (2, _), (7, _)] ⟨rfl, rfl, rfl, rfl, trivial⟩ ?_
    refine HN.then ?_
    refine H.block ?_
    refine H.loop (fun k : Nat => [(0, .slice ad l.length cap), (1, .slice ad1 rows.length cap1), (2, .slice ad2 names.length cap2), (7, .int .i64 (k : Int))]) (fun k => k ≤ l.length ∧ ∀ j (hj : j < k) (hj2 : j < l.length), ¬ (20 : Int) < l[j].2.set.length) (fun _ => Hp w0 [] [] []) (fun i => l.length - i) 0 ⟨Nat.zero_le _, fun j hj => by omega⟩ ⟨rfl, rfl, rfl, rfl, trivial⟩ (fun w hw => hw) (fun k hI => ?_)
    obtain ⟨hk0, hk1⟩ := hI
    refine H.seq ?_
    refine H.seq ?_
    refine H.region ?_
    refine H.q (yl_move rfl) rfl rfl (by decide) ?_
    refine H.q (yl_move rfl) rfl rfl (by decide) ?_
    refine H.q (yl_len rfl Tryz.underlying28 rfl) rfl rfl (by decide) ?_
    refine H.q (yl_lss rfl rfl) rfl rfl (by decide) ?_
    refine HN.done ?_
    refine HN.keep [(0, _), (1, _), (2, _), (7, _), (26, _)] ⟨rfl, rfl, rfl, rfl, rfl, trivial⟩ ?_
    refine HN.then ?_
    refine H.cond _ rfl (fun t1 => ?_) (fun t1 => ?_)
    · simp only [decide_eq_true_eq] at t1; have hk : k < l.length := by omega
      have hx := hs k hk
      obtain ⟨ad3, cap3, b3, o3, hv3, hcap3, hs3⟩ := ints_open hx.2.2
      refine H.keep [(0, _), (1, _), (2, _), (7, _)] ⟨rfl, rfl, rfl, rfl, trivial⟩ ?_
      refine HN.skip ?_
      refine HN.then ?_
      refine H.seq ?_
      refine H.block ?_
      refine H.seq ?_
      refine H.region ?_
      refine H.q (yl_move rfl) rfl rfl (by decide) ?_
      refine H.q (yl_move rfl) rfl rfl (by decide) ?_
      refine H.q (yl_index' k 6 Tryz.underlying28 Tryz.sizeOf25 hx.1 rfl rfl rfl hk) rfl rfl (by decide) ?_
      refine H.q (yl_fieldAddr _ fa25_5 rfl) rfl rfl (by decide) ?_
      refine H.q (yl_load (v := .slice ad3 l[k].2.set.length cap3) Tryz.isAgg23 rfl (fun w hw => by have := hx.2.1 5 l[k].1 rfl; rw [add_at] at this; rw [← hv3]; exact cell_ext hw.ext this)) rfl rfl (by decide) ?_
      refine H.q (yl_len rfl Tryz.underlying23 rfl) rfl rfl (by decide) ?_
      refine H.q (yl_gtr rfl rfl) rfl rfl (by decide) ?_
      refine HN.done ?_
      refine HN.keep [(0, _), (1, _), (2, _), (7, _), (35, _)] ⟨rfl, rfl, rfl, rfl, rfl, trivial⟩ ?_
      refine HN.then ?_
      refine H.cond _ rfl (fun t2 => ?_) (fun t2 => ?_)
      · simp only [decide_eq_true_eq] at t2
        refine H.keep [] trivial ?_
        refine H.seq ?_
        refine H.region ?_
        refine H.q (yl_assign rfl) rfl rfl (by decide) ?_
        refine HN.done ?_
        refine HN.keep [(6, _)] ⟨rfl, trivial⟩ ?_
        refine HN.then ?_
        refine HR.ret ?_
        refine HR.block ?_
        refine HR.then ?_
        refine HR.then ?_
        refine HR.block ?_
        refine HR.then ?_
        refine HR.ret1 _ Tryz.results10 rfl (fun w hw => ?_)
        refine ⟨?_, hw.ext⟩
        rw [wideB_claim (List.mem_map.2 ⟨l[k], List.getElem_mem hk, rfl⟩) t2]
      · simp only [decide_eq_false_iff_not] at t2
        refine H.keep [(0, _), (1, _), (2, _), (7, _)] ⟨rfl, rfl, rfl, rfl, trivial⟩ ?_
        refine HN.skip ?_
        refine HN.block ?_
        refine HN.then ?_
        refine H.region ?_
        refine H.q (yl_move rfl) rfl rfl (by decide) ?_
        refine H.q (yl_add rfl rfl _ rfl (by omega)) rfl rfl (by decide) ?_
        refine H.q (yl_assign rfl) rfl rfl (by decide) ?_
        refine HN.done ?_
        refine HN.keep [(0, _), (1, _), (2, _), (7, _)] ⟨rfl, rfl, rfl, rfl, trivial⟩ ?_
        refine HN.then ?_
        have hn : ∀ j (hj : j < k + 1) (hj2 : j < _), ¬ (20 : Int) < l[j].2.set.length := fun j hj hj2 => by
          by_cases h : j < k
          · exact hk1 j h hj2
          · obtain rfl : j = k := by omega
            exact t2
        exact H.at (k + 1) ⟨⟨by omega, hn⟩, by omega⟩ ⟨rfl, rfl, rfl, rfl, trivial⟩ (fun w hw => hw)
    · simp only [decide_eq_false_iff_not] at t1
      have hA := fun (p : Value × Inv) (hp : p ∈ l) => (show ¬ (20 : Int) < p.2.set.length from by obtain ⟨j, hj, rfl⟩ := List.getElem_of_mem hp; exact hk1 j (by omega) hj)
      refine H.keep [(1, _), (2, _)] ⟨rfl, rfl, trivial⟩ ?_
      refine HX.exit ?_
      refine HX.then ?_
      refine HX.then ?_
      refine HX.hit ?_
      refine HN.then ?_
      refine H.seq ?_
      refine H.seq ?_
      refine H.region ?_
      refine H.q (yl_assign rfl) rfl rfl (by decide) ?_
      refine HN.done ?_
      refine HN.keep [(1, _), (2, _), (8, _)] ⟨rfl, rfl, rfl, trivial⟩ ?_
      refine HN.then ?_
      refine H.block ?_
      refine H.loop (fun k : Nat => [(1, .slice ad1 rows.length cap1), (2, .slice ad2 names.length cap2), (8, .int .i64 (k : Int))]) (fun k => k ≤ rows.length ∧ ∀ j (hj : j < k) (hj2 : j < rows.length), ¬ (20 : Int) < rows[j].2.length) (fun _ => Hp w0 [] [] []) (fun i => rows.length - i) 0 ⟨Nat.zero_le _, fun j hj => by omega⟩ ⟨rfl, rfl, rfl, trivial⟩ (fun w hw => hw) (fun k hI => ?_)
      obtain ⟨hk0, hk1⟩ := hI
      refine H.seq ?_
      refine H.seq ?_
      refine H.region ?_
      refine H.q (yl_move rfl) rfl rfl (by decide) ?_
      refine H.q (yl_move rfl) rfl rfl (by decide) ?_
      refine H.q (yl_len rfl Tryz.underlying37 rfl) rfl rfl (by decide) ?_
      refine H.q (yl_lss rfl rfl) rfl rfl (by decide) ?_
      refine HN.done ?_
      refine HN.keep [(1, _), (2, _), (8, _), (39, _)] ⟨rfl, rfl, rfl, rfl, trivial⟩ ?_
      refine HN.then ?_
      refine H.cond _ rfl (fun t3 => ?_) (fun t3 => ?_)
      · simp only [decide_eq_true_eq] at t3; have hk : k < rows.length := by omega
        have hx := hs1 k hk
        obtain ⟨ad3, cap3, b3, o3, hv3, hcap3, hs3⟩ := ints_open hx.2.2
        refine H.keep [(1, _), (2, _), (8, _)] ⟨rfl, rfl, rfl, trivial⟩ ?_
        refine HN.skip ?_
        refine HN.then ?_
        refine H.seq ?_
        refine H.block ?_
        refine H.seq ?_
        refine H.region ?_
        refine H.q (yl_move rfl) rfl rfl (by decide) ?_
        refine H.q (yl_move rfl) rfl rfl (by decide) ?_
        refine H.q (yl_ix k Tryz.underlying37 Tryz.sizeOf23 hx.1 rfl rfl rfl hk) rfl rfl (by decide) ?_
        refine H.q (yl_load (v := .slice ad3 rows[k].2.length cap3) Tryz.isAgg23 rfl (fun w hw => by rw [← hv3]; exact cell_ext hw.ext hx.2.1)) rfl rfl (by decide) ?_
        refine H.q (yl_len rfl Tryz.underlying23 rfl) rfl rfl (by decide) ?_
        refine H.q (yl_gtr rfl rfl) rfl rfl (by decide) ?_
        refine HN.done ?_
        refine HN.keep [(1, _), (2, _), (8, _), (47, _)] ⟨rfl, rfl, rfl, rfl, trivial⟩ ?_
        refine HN.then ?_
        refine H.cond _ rfl (fun t4 => ?_) (fun t4 => ?_)
        · simp only [decide_eq_true_eq] at t4
          refine H.keep [] trivial ?_
          refine H.seq ?_
          refine H.region ?_
          refine H.q (yl_assign rfl) rfl rfl (by decide) ?_
          refine HN.done ?_
          refine HN.keep [(6, _)] ⟨rfl, trivial⟩ ?_
          refine HN.then ?_
          refine HR.ret ?_
          refine HR.block ?_
          refine HR.then ?_
          refine HR.then ?_
          refine HR.block ?_
          refine HR.then ?_
          refine HR.ret1 _ Tryz.results10 rfl (fun w hw => ?_)
          refine ⟨?_, hw.ext⟩
          rw [wideB_row (List.mem_map.2 ⟨rows[k], List.getElem_mem hk, rfl⟩) t4]
        · simp only [decide_eq_false_iff_not] at t4
          refine H.keep [(1, _), (2, _), (8, _)] ⟨rfl, rfl, rfl, trivial⟩ ?_
          refine HN.skip ?_
          refine HN.block ?_
          refine HN.then ?_
          refine H.region ?_
          refine H.q (yl_move rfl) rfl rfl (by decide) ?_
          refine H.q (yl_add rfl rfl _ rfl (by omega)) rfl rfl (by decide) ?_
          refine H.q (yl_assign rfl) rfl rfl (by decide) ?_
          refine HN.done ?_
          refine HN.keep [(1, _), (2, _), (8, _)] ⟨rfl, rfl, rfl, trivial⟩ ?_
          refine HN.then ?_
          have hn : ∀ j (hj : j < k + 1) (hj2 : j < _), ¬ (20 : Int) < rows[j].2.length := fun j hj hj2 => by
            by_cases h : j < k
            · exact hk1 j h hj2
            · obtain rfl : j = k := by omega
              exact t4
          exact H.at (k + 1) ⟨⟨by omega, hn⟩, by omega⟩ ⟨rfl, rfl, rfl, trivial⟩ (fun w hw => hw)
      · simp only [decide_eq_false_iff_not] at t3
        have hB := fun (p : Value × List Int) (hp : p ∈ rows) => (show ¬ (20 : Int) < p.2.length from by obtain ⟨j, hj, rfl⟩ := List.getElem_of_mem hp; exact hk1 j (by omega) hj)
        refine H.keep [(2, _)] ⟨rfl, trivial⟩ ?_
        refine HX.exit ?_
        refine HX.then ?_
        refine HX.then ?_
        refine HX.hit ?_
        refine HN.then ?_
        refine H.seq ?_
        refine H.seq ?_
        refine H.region ?_
        refine H.q (yl_assign rfl) rfl rfl (by decide) ?_
        refine HN.done ?_
        refine HN.keep [(2, _), (9, _)] ⟨rfl, rfl, trivial⟩ ?_
        refine HN.then ?_
        refine H.block ?_
        refine H.loop (fun k : Nat => [(2, .slice ad2 names.length cap2), (9, .int .i64 (k : Int))]) (fun k => k ≤ names.length ∧ ∀ j (hj : j < k) (hj2 : j < names.length), ¬ (40 : Int) < names[j].length) (fun _ => Hp w0 [] [] []) (fun i => names.length - i) 0 ⟨Nat.zero_le _, fun j hj => by omega⟩ ⟨rfl, rfl, trivial⟩ (fun w hw => hw) (fun k hI => ?_)
        obtain ⟨hk0, hk1⟩ := hI
        refine H.seq ?_
        refine H.seq ?_
        refine H.region ?_
        refine H.q (yl_move rfl) rfl rfl (by decide) ?_
        refine H.q (yl_move rfl) rfl rfl (by decide) ?_
        refine H.q (yl_len rfl Tryz.underlying26 rfl) rfl rfl (by decide) ?_
        refine H.q (yl_lss rfl rfl) rfl rfl (by decide) ?_
        refine HN.done ?_
        refine HN.keep [(2, _), (9, _), (51, _)] ⟨rfl, rfl, rfl, trivial⟩ ?_
        refine HN.then ?_
        refine H.cond _ rfl (fun t5 => ?_) (fun t5 => ?_)
        · simp only [decide_eq_true_eq] at t5; have hk : k < names.length := by omega
          have hx := hs2 k hk
          refine H.keep [(2, _), (9, _)] ⟨rfl, rfl, trivial⟩ ?_
          refine HN.skip ?_
          refine HN.then ?_
          refine H.seq ?_
          refine H.block ?_
          refine H.seq ?_
          refine H.region ?_
          refine H.q (yl_move rfl) rfl rfl (by decide) ?_
          refine H.q (yl_move rfl) rfl rfl (by decide) ?_
          refine H.q (yl_ix k Tryz.underlying26 Tryz.sizeOf9 hx.1 rfl rfl rfl hk) rfl rfl (by decide) ?_
          refine H.q (yl_load Tryz.isAgg9 rfl (fun w hw => cell_ext hw.ext hx.2)) rfl rfl (by decide) ?_
          refine H.q (yl_slen rfl Tryz.underlying9 rfl) rfl rfl (by decide) ?_
          refine H.q (yl_gtr rfl rfl) rfl rfl (by decide) ?_
          refine HN.done ?_
          refine HN.keep [(2, _), (9, _), (59, _)] ⟨rfl, rfl, rfl, trivial⟩ ?_
          refine HN.then ?_
          refine H.cond _ rfl (fun t6 => ?_) (fun t6 => ?_)
          · have t6 : (40 : Int) < names[k].length := of_decide_eq_true t6
            refine H.keep [] trivial ?_
            refine H.seq ?_
            refine H.region ?_
            refine H.q (yl_assign rfl) rfl rfl (by decide) ?_
            refine HN.done ?_
            refine HN.keep [(6, _)] ⟨rfl, trivial⟩ ?_
            refine HN.then ?_
            refine HR.ret ?_
            refine HR.block ?_
            refine HR.then ?_
            refine HR.then ?_
            refine HR.block ?_
            refine HR.then ?_
            refine HR.ret1 _ Tryz.results10 rfl (fun w hw => ?_)
            refine ⟨?_, hw.ext⟩
            rw [wideB_name (List.getElem_mem hk) t6]
          · have t6 : ¬ (40 : Int) < names[k].length := of_decide_eq_false t6
            refine H.keep [(2, _), (9, _)] ⟨rfl, rfl, trivial⟩ ?_
            refine HN.skip ?_
            refine HN.block ?_
            refine HN.then ?_
            refine H.region ?_
            refine H.q (yl_move rfl) rfl rfl (by decide) ?_
            refine H.q (yl_add rfl rfl _ rfl (by omega)) rfl rfl (by decide) ?_
            refine H.q (yl_assign rfl) rfl rfl (by decide) ?_
            refine HN.done ?_
            refine HN.keep [(2, _), (9, _)] ⟨rfl, rfl, trivial⟩ ?_
            refine HN.then ?_
            have hn : ∀ j (hj : j < k + 1) (hj2 : j < _), ¬ (40 : Int) < names[j].length := fun j hj hj2 => by
              by_cases h : j < k
              · exact hk1 j h hj2
              · obtain rfl : j = k := by omega
                exact t6
            exact H.at (k + 1) ⟨⟨by omega, hn⟩, by omega⟩ ⟨rfl, rfl, trivial⟩ (fun w hw => hw)
        · simp only [decide_eq_false_iff_not] at t5
          refine H.keep [] trivial ?_
          refine HX.exit ?_
          refine HX.then ?_
          refine HX.then ?_
          refine HX.hit ?_
          refine HN.then ?_
          refine H.seq ?_
          refine H.region ?_
          refine H.q (yl_assign rfl) rfl rfl (by decide) ?_
          refine HN.done ?_
          refine HN.keep [(6, _)] ⟨rfl, trivial⟩ ?_
          refine HN.then ?_
          refine HR.ret ?_
          refine HR.ret1 _ Tryz.results10 rfl (fun w hw => ?_)
          refine ⟨?_, hw.ext⟩
          rw [wideB_no (by simpa using t0.1.1) (by simpa using t0.1.2) t0.2 (fun x hx => by obtain ⟨p, hp, rfl⟩ := List.mem_map.1 hx; exact hA p hp) (fun x hx => by obtain ⟨p, hp, rfl⟩ := List.mem_map.1 hx; exact hB p hp) (fun x hx => by obtain ⟨j, hj, rfl⟩ := List.getElem_of_mem hx; exact hk1 j (by omega) hj)]

end Go.Proofs.YtgbgddmbooaddaaGreatDoor

namespace Go.Proofs.YtgbgddmbooaddaaGreatDoor
open Go.RowKit Go.MapKept

/-- What holds in every world of the class, and speaks of none. -/
theorem H.pull {n : Nat} {e : Env} {C : World → Prop} {K : Act → World → Prop} {p : Prop} (h : ∀ w, C w → p) (h2 : p → H n e C K) : H n e C K := fun a w hf hc => h2 (h w hc) a w hf hc
theorem HN.cls {n : Nat} {e : Env} {C : World → Prop} {Q : Exit → Act → World → Prop} (C1 : World → Prop) (hs : ∀ w, C w → C1 w) (h : HN n e C1 Q) : HN n e C Q := H.cls C1 hs h
theorem HN.pull {n : Nat} {e : Env} {C : World → Prop} {Q : Exit → Act → World → Prop} {p : Prop} (h : ∀ w, C w → p) (h2 : p → HN n e C Q) : HN n e C Q := H.pull h h2
theorem stab_and {C D : World → Prop} (h : Stab C) (k : Stab D) : Stab fun w => C w ∧ D w := fun w w' hc he => ⟨h w w' hc.1 he, k w w' hc.2 he⟩
theorem stab_imp {D : World → Prop} {p : Prop} (k : Stab D) : Stab fun w => p → D w := fun w w' hc he hp => k w w' (hc hp) he

theorem yl_to {P : Program} {C : World → Prop} {n : Nat} {e : Env} {o : Oper} {v v' : Value} (h : Yl P C n e o v) (he : v = v') : Yl P C n e o v' := he ▸ h

/-! ### Rows of one's own -/
/-- How a row's value looks, and how its elements are read. -/
theorem Rw.open {w : World} {r : Rw} (h : r.ok w) : ∃ ad cap b, r.v = .slice ad r.len cap ∧ r.len ≤ cap ∧ r.xs.length = r.len * r.sz ∧ ∀ w', r.ok w' → ∀ j u, r.xs[j]? = some u → ad = some ⟨b, 0, none⟩ ∧ w'.cell? ⟨b, j, none⟩ = some u := by
  obtain ⟨h1, ⟨h2, h3⟩ | ⟨g, cap, cur, h3, h4, h5, h6, h7, h8, h9⟩⟩ := h
  · refine ⟨none, 0, 0, by rw [h2, h3], by omega, h1, fun w' _ j u hj => ?_⟩
    rw [h3, Nat.zero_mul] at h1
    rw [List.length_eq_zero_iff.1 h1] at hj
    simp at hj
  · refine ⟨some ⟨g, 0, none⟩, cap, g, h3, h6, h1, fun w' hw' j u hj => ⟨rfl, ?_⟩⟩
    obtain ⟨k1, ⟨k2, k3⟩ | ⟨g', cap', cur', k3, k4, k5, k6, k7, k8, k9⟩⟩ := hw'
    · rw [h3] at k2; cases k2
    · rw [h3] at k3
      simp only [Value.slice.injEq, Option.some.injEq, Addr.mk.injEq, and_true, true_and] at k3
      obtain ⟨rfl, rfl⟩ := k3
      refine cell_of_blk k5 ?_
      have : (cur'.toList.take (r.len * r.sz))[j]? = some u := by rw [k9]; exact hj
      rw [List.getElem?_take] at this
      split at this
      · simpa using this
      · cases this
/-- The same of a list of one-cell elements. -/
theorem Rw.open1 {α : Type} (enc : α → Value) {w : World} {v : Value} {el : TypeId} {l : List α} (h : Rw.ok w ⟨v, l.length, el, 1, l.map enc⟩) :
    ∃ ad cap b, v = .slice ad l.length cap ∧ l.length ≤ cap ∧ ∀ w', Rw.ok w' ⟨v, l.length, el, 1, l.map enc⟩ → ∀ j (hj : j < l.length), ad = some ⟨b, 0, none⟩ ∧ w'.cell? ⟨b, 0 + j, none⟩ = some (enc l[j]) := by
  obtain ⟨ad, cap, b, h1, h2, h3, h4⟩ := Rw.open h
  exact ⟨ad, cap, b, h1, h2, fun w' hw' j hj => by rw [Nat.zero_add]; exact h4 w' hw' j (enc l[j]) (by simp [hj])⟩
theorem Rw.isSl {w : World} {r : Rw} (h : r.ok w) (hs : r.sz = 1) : IsSl w r.v r.xs := by
  obtain ⟨ad, cap, b, h1, h2, h3, h4⟩ := Rw.open h
  rw [hs, Nat.mul_one] at h3
  exact ⟨ad, cap, b, 0, by rw [h3]; exact h1, by rw [h3]; exact h2, fun j x hj => by rw [Nat.zero_add]; exact h4 w h j x hj⟩

section
variable {w0 : World} {L : List BP} {R : List Rw} {F : List BP} {w : World}
theorem Hp.row (h : Hp w0 L R F w) (i : Nat) {r : Rw} (hi : R[i]? = some r) : r.ok w := h.rows r (List.mem_of_getElem? hi)
/-- No slice yet. -/
theorem Hp.rowNil (h : Hp w0 L R F w) (el sz : Nat) : Hp w0 L (⟨.slice none 0 0, 0, el, sz, []⟩ :: R) F w where
  ext := h.ext
  own := h.own
  rows := fun r hr => by
    rcases List.mem_cons.1 hr with rfl | hr
    · exact ⟨by simp, .inl ⟨rfl, rfl⟩⟩
    · exact h.rows r hr
  fgn := h.fgn
  nodup := h.nodup
  low := h.low
  apart := h.apart
theorem owned_row (L : List BP) (r : Rw) (R : List Rw) {b : Nat} (hb : r.blk = some b) : (owned L (r :: R)).Perm (b :: owned L R) := by
  unfold owned
  rw [List.filterMap_cons_some hb]
  exact List.perm_middle
/-- A block that is a whole slice becomes a row. -/
theorem Hp.toRow {b el n sz : Nat} {cs : List Value} (h : Hp w0 ((b, ex (.cells cs.toArray el)) :: L) R F w) (hn : cs.length = n * sz) (hm : n ≤ maxLen) : Hp w0 L (⟨.slice (some ⟨b, 0, none⟩) n n, n, el, sz, cs⟩ :: R) F w where
  ext := h.ext
  own := fun q hq => h.own q (List.mem_cons_of_mem _ hq)
  rows := fun r hr => by
    rcases List.mem_cons.1 hr with rfl | hr
    · refine ⟨hn, .inr ⟨b, n, cs.toArray, rfl, Nat.zero_le _, h.blk 0 rfl, Nat.le_refl _, hm, by simpa using hn, ?_⟩⟩
      rw [← hn]
      simp
    · exact h.rows r hr
  fgn := h.fgn
  nodup := (owned_row L _ R rfl).nodup_iff.2 h.nodup
  low := fun c hc => h.low c ((owned_row L _ R rfl).mem_iff.1 hc)
  apart := fun c hc => h.apart c ((owned_row L _ R rfl).mem_iff.1 hc)
theorem Hp.dropR {r : Rw} (h : Hp w0 L (r :: R) F w) : Hp w0 L R F w := by
  have hsub : ∀ c, c ∈ owned L R → c ∈ owned L (r :: R) := fun c hc => by
    unfold owned at hc ⊢
    rcases List.mem_append.1 hc with hc | hc
    · exact List.mem_append.2 (.inl hc)
    · refine List.mem_append.2 (.inr ?_)
      obtain ⟨q, hq, hq2⟩ := List.mem_filterMap.1 hc
      exact List.mem_filterMap.2 ⟨q, List.mem_cons_of_mem _ hq, hq2⟩
  refine ⟨h.ext, h.own, fun q hq => h.rows q (List.mem_cons_of_mem _ hq), h.fgn, ?_, fun b hb => h.low b (hsub b hb), fun b hb => h.apart b (hsub b hb)⟩
  refine List.Nodup.sublist ?_ h.nodup
  unfold owned
  exact List.Sublist.append_left ((List.sublist_cons_self r R).filterMap _) _
theorem owned_set {i : Nat} {r : Rw} (h : Hp w0 L R F w) (hi : R[i]? = some r) (r' : Rw) (hb : ∀ b, r'.blk = some b → r.blk = some b ∨ w.heap.size ≤ b) :
    (owned L (R.set i r')).Nodup ∧ ∀ b, b ∈ owned L (R.set i r') → b ∈ owned L R ∨ w.heap.size ≤ b := by
  have hil : i < R.length := (List.getElem?_eq_some_iff.1 hi).1
  have hsplit : R = R.take i ++ r :: R.drop (i + 1) := by
    have : R[i] = r := (List.getElem?_eq_some_iff.1 hi).2
    rw [← this, ← List.drop_eq_getElem_cons hil, List.take_append_drop]
  have hset : R.set i r' = R.take i ++ r' :: R.drop (i + 1) := List.set_eq_take_append_cons_drop.trans (if_pos hil)
  have hmem : ∀ b, r.blk = some b → b ∈ owned L R := fun b hb => List.mem_append.2 (.inr (List.mem_filterMap.2 ⟨r, List.mem_of_getElem? hi, hb⟩))
  have nd := h.nodup
  have perm : ∀ (x : Rw), (owned L (R.take i ++ x :: R.drop (i + 1))).Perm ((x.blk).toList ++ owned L (R.take i ++ R.drop (i + 1))) := fun x => by
    unfold owned
    rw [List.filterMap_append, List.filterMap_append]
    cases hx : x.blk with
    | none => rw [List.filterMap_cons_none hx]; exact List.Perm.refl _
    | some b =>
      rw [List.filterMap_cons_some hx, ← List.append_assoc]
      simp only [Option.toList_some, List.singleton_append, List.cons_append, ← List.append_assoc]
      exact List.perm_middle
  have p0 := perm r
  have p1 := perm r'
  rw [← hsplit] at p0
  rw [← hset] at p1
  have nd0 := p0.nodup_iff.1 nd
  have nd1 : (owned L (R.take i ++ R.drop (i + 1))).Nodup := (List.nodup_append.1 nd0).2.1
  have in0 : ∀ b, b ∈ owned L (R.take i ++ R.drop (i + 1)) → b ∈ owned L R := fun b hb => p0.mem_iff.2 (List.mem_append.2 (.inr hb))
  refine ⟨p1.nodup_iff.2 ?_, fun c hc => ?_⟩
  · cases hx : r'.blk with
    | none => simpa using nd1
    | some b =>
      refine List.nodup_cons.2 ⟨fun hm => ?_, nd1⟩
      rcases hb b hx with h1 | h1
      · have := (List.nodup_append.1 nd0).2.2 b (by simp [h1]) b hm
        exact this rfl
      · have := h.lt (in0 b hm)
        omega
  · rcases List.mem_append.1 (p1.mem_iff.1 hc) with h1 | h1
    · cases hx : r'.blk with
      | none => rw [hx] at h1; simp at h1
      | some d =>
        rw [hx] at h1
        simp at h1
        subst h1
        rcases hb _ hx with h2 | h2
        · exact .inl (hmem _ h2)
        · exact .inr h2
    · exact .inl (in0 c h1)
/-- The row number i is another one; of the rest nothing has turned. -/
theorem Hp.grow {w' : World} (h : Hp w0 L R F w) (i : Nat) {r : Rw} (hi : R[i]? = some r) (r' : Rw) (hg : w.grownBy w' r.blk) (hok : r'.ok w') (hb : ∀ b, r'.blk = some b → r.blk = some b ∨ w.heap.size ≤ b) : Hp w0 L (R.set i r') F w' := by
  obtain ⟨nd, hsub⟩ := owned_set h hi r' hb
  have hmem : ∀ b, r.blk = some b → b ∈ owned L R := fun b hb => List.mem_append.2 (.inr (List.mem_filterMap.2 ⟨r, List.mem_of_getElem? hi, hb⟩))
  refine ⟨⟨hg.os.trans h.ext.os, hg.tape.trans h.ext.tape, hg.output.trans h.ext.output, Nat.le_trans h.ext.size hg.size, fun k hk => ?_⟩, fun p hp => ?_, fun q hq => ?_, fun p hp => ?_, nd, fun b hb => ?_, fun b hb p hp => ?_⟩
  · rw [hg.block k (Nat.lt_of_lt_of_le hk h.ext.size) (fun e => by have := h.low k (hmem k e.symm); omega)]
    exact h.ext.block k hk
  · obtain ⟨o, ho, hp2⟩ := h.own p hp
    refine ⟨o, ?_, hp2⟩
    rw [hg.block p.1 (blk_lt ho) (fun e => ?_)]
    · exact ho
    · exact (List.nodup_append.1 h.nodup).2.2 p.1 (List.mem_map.2 ⟨p, hp, rfl⟩) p.1 (List.mem_filterMap.2 ⟨r, List.mem_of_getElem? hi, e.symm⟩) rfl
  · obtain ⟨j, hj⟩ := List.getElem?_of_mem hq
    rw [List.getElem?_set] at hj
    split at hj
    · split at hj
      · simp only [Option.some.injEq] at hj; exact hj ▸ hok
      · cases hj
    · rename_i hij
      have hq' := h.rows q (List.mem_of_getElem? hj)
      refine Rw.ok_blk hq' fun b hqb => hg.block b (Rw.lt hq' hqb) fun e => ?_
      have nd2 := (List.nodup_append.1 h.nodup).2.1
      have hil : i < R.length := (List.getElem?_eq_some_iff.1 hi).1
      have hjl : j < R.length := (List.getElem?_eq_some_iff.1 hj).1
      have : ∀ (l : List Rw) (i j : Nat), i < j → l[i]? = some r → l[j]? = some q → ¬ (l.filterMap Rw.blk).Nodup := by
        intro l
        induction l with
        | nil => intro i j _ h1; simp at h1
        | cons a l ih =>
          intro i j hij h1 h2 hnd
          cases j with
          | zero => omega
          | succ j =>
            simp only [List.getElem?_cons_succ] at h2
            cases i with
            | zero =>
              simp only [List.getElem?_cons_zero, Option.some.injEq] at h1
              subst h1
              rw [List.filterMap_cons_some e.symm] at hnd
              exact (List.nodup_cons.1 hnd).1 (List.mem_filterMap.2 ⟨q, List.mem_of_getElem? h2, hqb⟩)
            | succ i =>
              simp only [List.getElem?_cons_succ] at h1
              refine ih i j (by omega) h1 h2 (List.Nodup.sublist ?_ hnd)
              exact (List.sublist_cons_self a l).filterMap _
      have that : ∀ (l : List Rw) (i j : Nat), i < j → l[i]? = some q → l[j]? = some r → ¬ (l.filterMap Rw.blk).Nodup := by
        intro l
        induction l with
        | nil => intro i j _ h1; simp at h1
        | cons a l ih =>
          intro i j hij h1 h2 hnd
          cases j with
          | zero => omega
          | succ j =>
            simp only [List.getElem?_cons_succ] at h2
            cases i with
            | zero =>
              simp only [List.getElem?_cons_zero, Option.some.injEq] at h1
              subst h1
              rw [List.filterMap_cons_some hqb] at hnd
              exact (List.nodup_cons.1 hnd).1 (List.mem_filterMap.2 ⟨r, List.mem_of_getElem? h2, e.symm⟩)
            | succ i =>
              simp only [List.getElem?_cons_succ] at h1
              refine ih i j (by omega) h1 h2 (List.Nodup.sublist ?_ hnd)
              exact (List.sublist_cons_self a l).filterMap _
      rcases Nat.lt_or_gt_of_ne hij with hlt | hgt
      · exact this R i j hlt hi hj nd2
      · exact that R j i hgt hj hi nd2
  · obtain ⟨o, ho, hp2⟩ := h.fgn p hp
    refine ⟨o, ?_, hp2⟩
    rw [hg.block p.1 (blk_lt ho) (fun e => h.apart p.1 (hmem p.1 e.symm) p hp rfl)]
    exact ho
  · rcases hsub b hb with h1 | h1
    · exact h.low b h1
    · exact Nat.le_trans h.ext.size h1
  · rcases hsub b hb with h1 | h1
    · exact h.apart b h1 p hp
    · have := h.fgn_lt hp
      omega
end

section
variable {P : Program} {n : Nat} {e : Env} {w0 : World} {L : List BP} {R : List Rw} {F : List BP} {Q : Exit → Act → World → Prop} {ops : Array Oper} {rest : List Oper}
theorem run_append_mine (w : World) (t ty e : TypeId) (i : TypeInfo) (z : Value) (size bytes : Nat) (ht : P.underlying t = some (.slice e)) (hi : P.info? e = some i) (hz : i.zero = some z)
    (hsize : i.size = size) (hby : i.bytes = bytes) (hzs : z.cells.size = size) (hsz : 0 < size) (v : Value) (n : Nat) (xs : List Value) (hown : w.ownsRow 0 e size v n xs)
    (ad : Option Addr) (m c : Nat) (news : List Value) (hl : news.length = m * size) (hnews : ∀ j u, news[j]? = some u → ∃ a, ad = some a ∧ w.cell? (a.add j) = some u) (h1 : ∀ u ∈ news, u.oneCell' = true)
    (h63 : n + m ≤ maxLen) (hbytes : (n + m) * bytes ≤ 140737488355328) :
    ∃ v' w', (Builtin.append_ #[t, t] ty #[v, .slice ad m c]).run P w = .ok v' w' ∧ w'.ownsRow 0 e size v' (n + m) (xs ++ news) ∧ w.grownBy w' v.ownBlock ∧ ∀ b, v'.ownBlock = some b → v.ownBlock = some b ∨ w.heap.size ≤ b := by
  cases ad with
  | none =>
    have hn : news = [] := by
      cases news with
      | nil => rfl
      | cons u r => obtain ⟨a, h, _⟩ := hnews 0 u rfl; cases h
    subst hn
    have hm : m = 0 := by
      rcases Nat.mul_eq_zero.1 (show m * size = 0 by simpa using hl.symm) with h | h
      · exact h
      · omega
    subst hm
    refine ⟨v, w, ?_, by simpa using hown, ⟨rfl, rfl, rfl, Nat.le_refl _, fun _ _ _ => rfl⟩, fun b hb => .inl hb⟩
    obtain ⟨_, ⟨rfl, rfl⟩ | ⟨g, cap, cur, rfl, _, _, hc, _⟩⟩ := hown
    · simp [Builtin.append_, run_underlying ht, sizeOf, typeInfo, hi, Builtin.lenOf, Builtin.firstCells, loadCells, loadCellsFrom]
    · simp [Builtin.append_, run_underlying ht, sizeOf, typeInfo, hi, Builtin.lenOf, Builtin.firstCells, loadCells, loadCellsFrom, hc, storeCells]
  | some a =>
    have hnews' : ∀ j u, news[j]? = some u → w.cell? (a.add j) = some u := fun j u hj => by
      obtain ⟨a', h, h2⟩ := hnews j u hj
      cases h
      exact h2
    obtain ⟨v', w', hr, h2, h3, h4⟩ := run_append_own (P := P) w 0 t ty e i z size bytes ht hi hz hsize hby hzs hsz v n xs hown a m c news hl hnews' h1 h63 hbytes (Nat.zero_le _)
    refine ⟨v', w', hr, h2, h3, fun b hb => ?_⟩
    have hsmall : n + m ≤ 9223372036854775807 := by simp only [maxLen] at h63; omega
    subst hsize
    subst hby
    obtain ⟨hlen, ⟨rfl, rfl⟩ | ⟨g, cap, cur, rfl, _, hg, hc, hcm, hcs, _⟩⟩ := hown
    · by_cases hm : m = 0
      · have := h4.2 ⟨rfl, hm⟩
        subst this
        simp [Value.ownBlock] at hb
      · have hr2 := run_append_nil (P := P) w t ty e i z ht hi hz a m c news hl hnews' (by omega) (by omega) (by simp only [Nat.zero_add] at hbytes; omega)
        rw [hr] at hr2
        simp only [Result.ok.injEq] at hr2
        rw [hr2.1] at hb
        simp [Value.ownBlock] at hb
        exact .inr (by omega)
    · by_cases hroom : n + m ≤ cap
      · have hfit : n * i.size + news.length ≤ cur.size := by rw [hl, hcs, ← Nat.add_mul]; exact Nat.mul_le_mul_right _ hroom
        have hr2 := run_append_room (P := P) w t ty e i ht hi g n cap cur hg a m c news hl hnews' h1 hroom hfit
        rw [hr] at hr2
        simp only [Result.ok.injEq] at hr2
        rw [hr2.1] at hb
        exact .inl hb
      · have holds : ∀ j u, xs[j]? = some u → w.cell? ((⟨g, 0, none⟩ : Addr).add j) = some u := World.ownsRow.cells (w := w) ⟨hlen, .inr ⟨g, cap, cur, rfl, Nat.zero_le _, hg, hc, hcm, hcs, by assumption⟩⟩ (g := g) rfl
        have hr2 := run_append_grow (P := P) w t ty e i z ht hi hz ⟨g, 0, none⟩ n cap xs hlen holds a m c news hl hnews' (by omega) (by omega) (growslice_fits (by omega) hbytes)
        rw [hr] at hr2
        simp only [Result.ok.injEq] at hr2
        rw [hr2.1] at hb
        simp [Value.ownBlock] at hb
        exact .inr (by omega)

/-- What the program's table says of an element's type: its zero value, its cells, its bytes. -/
structure El (P : Program) (t e : TypeId) (z : Value) (size bytes : Nat) : Prop where
  ht : P.underlying t = some (.slice e)
  hi : (P.info? e).map (fun i => (i.zero, i.size, i.bytes)) = some (some z, size, bytes)
  hzs : z.cells.size = size
  hsz : 0 < size

/-- 'append' to the row number i. -/
theorem H.append {s x : Operand} {ty bytes d m c : Nat} {z : Value} {t : TypeId} {p : String} {af : Array Edge} (i : Nat) {r : Rw} {ad : Option Addr} (news : List Value) (E : El P ty r.el z r.sz bytes) (hi : R[i]? = some r)
    (hs : eev e s = some r.v) (hx : eev e x = some (.slice ad m c)) (hl : news.length = m * r.sz) (hnews : ∀ w, Hp w0 L R F w → ∀ j u, news[j]? = some u → ∃ a, ad = some a ∧ w.cell? (a.add j) = some u) (h1 : ∀ u ∈ news, u.oneCell' = true)
    (h63 : r.len + m ≤ 1000000000) (hby : bytes ≤ 100000) (hn : d < n)
    (h : ∀ v', H n ((d, v') :: e) (Hp w0 L (R.set i ⟨v', r.len + m, r.el, r.sz, r.xs ++ news⟩) F) (wpList P ops Q rest)) :
    H n e (Hp w0 L R F) (wpList P ops Q (⟨some d, .call { callee := .builtin .append, args := #[s, x], argTypes := #[ty, ty] }, t, p, af, none⟩ :: rest)) := by
  intro a w hf hc
  refine wpList_plain rfl fun K hK => ?_
  obtain ⟨info, hinfo, hz, hsize, hbytes⟩ : ∃ i, P.info? r.el = some i ∧ i.zero = some z ∧ i.size = r.sz ∧ i.bytes = bytes := by
    obtain ⟨i, hi, hzz⟩ := Option.map_eq_some_iff.1 E.hi
    simp only [Prod.mk.injEq] at hzz
    exact ⟨i, hi, hzz.1, hzz.2.1, hzz.2.2⟩
  have hb : (r.len + m) * bytes ≤ 140737488355328 := Nat.le_trans (Nat.mul_le_mul h63 hby) (by decide)
  obtain ⟨v', w', hr, h2, h3, h4⟩ := run_append_mine (P := P) w ty t r.el info z r.sz bytes E.ht hinfo hz hsize hbytes E.hzs E.hsz r.v r.len r.xs (hc.row i hi) ad m c news hl (hnews w hc) h1 (by simp only [maxLen]; omega) hb
  have hr' : (execOp a.eval ⟨some d, .call { callee := .builtin .append, args := #[s, x], argTypes := #[ty, ty] }, t, p, af, none⟩).run P w = .ok (.value v') w' := by
    simp [execOp, resolve, invoke, builtin, hf.ev hs, hf.ev hx, hr]
  unfold Oper.wp
  rw [hr']
  exact hK _ _ (h v' _ _ (hf.put hn _) (hc.grow i hi ⟨v', r.len + m, r.el, r.sz, r.xs ++ news⟩ h3 h2 h4))
end

/-! ### Maps -/
/-- A key's type: the keys that 'D' describes are found by their values. -/
structure KL (P : Program) (kt : TypeId) (D : Value → Prop) : Prop where
  check : ∀ (w : World) (em : Bool) {v : Value}, D v → (Instr.checkKey em 10000 kt v).run P w = .ok () w
  find : ∀ (w : World) {x : Value}, D x → ∀ es : List MapEntry, (∀ e ∈ es, D e.key) →
    ((Instr.findKey kt x es).run P w = .ok none w ∧ ∀ e ∈ es, e.key ≠ x) ∨ ∃ j e, (Instr.findKey kt x es).run P w = .ok (some (j, e.val)) w ∧ es[j]? = some e ∧ e.key = x
  stays : ∀ (w : World) {v : Value}, D v → (Instr.keyThatStays v v).run P w = .ok v w
theorem KL.of {P : Program} {kt : TypeId} {D : Value → Prop} (K : Maps.Keyed P kt) (h : ∀ v, D v → ∃ l, keyOf P kt v = some l) : KL P kt D where
  check w em _ hv := let ⟨_, hl⟩ := h _ hv; K.check w em hl
  find w _ hx es hes := let ⟨_, hl⟩ := h _ hx; K.find w hl es fun e he => h _ (hes e he)
  stays w _ hv := let ⟨_, hl⟩ := h _ hv; K.stays w hl

section
variable {κ β : Type} [DecidableEq κ]
/-- Entries, the oldest first. -/
def mget (l : List (κ × β)) (k : κ) : Option β := (l.find? fun p => decide (p.1 = k)).map (·.2)
def mput (l : List (κ × β)) (k : κ) (v : β) : List (κ × β) := if l.any (fun p => decide (p.1 = k)) then l.map (fun p => if p.1 = k then (k, v) else p) else l ++ [(k, v)]
/-- The object is a map with these entries. -/
def IsMap (ke : κ → Value) (ve : β → Value) (l : List (κ × β)) (o : Obj) : Prop := ∃ es clock, o = .map es clock ∧ Stamped es clock ∧ es.toList.map (fun x => (x.key, x.val)) = l.map fun p => (ke p.1, ve p.2)
end

theorem map_at {κ β : Type} {ke : κ → Value} {ve : β → Value} {l : List (κ × β)} {es : List MapEntry} (h : es.map (fun x => (x.key, x.val)) = l.map fun p => (ke p.1, ve p.2)) {j : Nat} {x : MapEntry} (hj : es[j]? = some x) : ∃ p, l[j]? = some p ∧ x.key = ke p.1 ∧ x.val = ve p.2 := by
  have h1 : (es.map (fun x => (x.key, x.val)))[j]? = some (x.key, x.val) := by simp [hj]
  rw [h] at h1
  simp only [List.getElem?_map, Option.map_eq_some_iff] at h1
  obtain ⟨p, hp, hq⟩ := h1
  simp only [Prod.mk.injEq] at hq
  exact ⟨p, hp, hq.1.symm, hq.2.symm⟩
theorem map_mem {κ β : Type} {ke : κ → Value} {ve : β → Value} {l : List (κ × β)} {es : List MapEntry} (h : es.map (fun x => (x.key, x.val)) = l.map fun p => (ke p.1, ve p.2)) {x : MapEntry} (hx : x ∈ es) : ∃ p ∈ l, x.key = ke p.1 ∧ x.val = ve p.2 := by
  obtain ⟨j, hj⟩ := List.getElem?_of_mem hx
  obtain ⟨p, hp, h2⟩ := map_at h hj
  exact ⟨p, List.mem_of_getElem? hp, h2⟩
theorem map_mem' {κ β : Type} {ke : κ → Value} {ve : β → Value} {l : List (κ × β)} {es : List MapEntry} (h : es.map (fun x => (x.key, x.val)) = l.map fun p => (ke p.1, ve p.2)) {p : κ × β} (hp : p ∈ l) : ∃ x ∈ es, x.key = ke p.1 ∧ x.val = ve p.2 := by
  have : (ke p.1, ve p.2) ∈ es.map (fun x => (x.key, x.val)) := by rw [h]; exact List.mem_map.2 ⟨p, hp, rfl⟩
  obtain ⟨x, hx, hq⟩ := List.mem_map.1 this
  simp only [Prod.mk.injEq] at hq
  exact ⟨x, hx, hq.1, hq.2⟩

section
variable {P : Program} {n : Nat} {e : Env} {w0 : World} {L : List BP} {R : List Rw} {F : List BP} {Q : Exit → Act → World → Prop} {ops : Array Oper} {rest : List Oper}
variable {κ β : Type}

theorem H.makeMap (ke : κ → Value) (ve : β → Value) {ty d : Nat} {t : TypeId} {p : String} {af : Array Edge} (hn : d < n)
    (h : ∀ b, w0.heap.size ≤ b → H n ((d, .map (some b)) :: e) (Hp w0 ((b, IsMap ke ve []) :: L) R F) (wpList P ops Q rest)) :
    H n e (Hp w0 L R F) (wpList P ops Q (⟨some d, .makeMap ty none, t, p, af, none⟩ :: rest)) := by
  intro a w hf hc
  refine wpList_plain rfl fun K hK => ?_
  have hr : (execOp a.eval ⟨some d, .makeMap ty none, t, p, af, none⟩).run P w = .ok (.value (.map (some w.heap.size))) (w.alloc (.map #[] 0)) := by
    simp [execOp, Instr.makeMap, newObj]
    rfl
  unfold Oper.wp
  rw [hr]
  refine hK _ _ (h w.heap.size hc.ext.size _ _ (hf.put hn _) ?_)
  have k := hc.alloc (.map #[] 0)
  exact ⟨k.ext, fun q hq => by
    rcases List.mem_cons.1 hq with rfl | hq
    · exact ⟨_, blk_alloc w _, #[], 0, rfl, stamped_empty 0, rfl⟩
    · exact k.own q (List.mem_cons_of_mem _ hq), k.rows, k.fgn, k.nodup, k.low, k.apart⟩

variable [DecidableEq κ]
/-- 'm[k]'. -/
theorem yl_lookup {ke : κ → Value} {ve : β → Value} {l : List (κ × β)} {mty kt et : TypeId} {D : Value → Prop} {d : Option Tmp} {t : TypeId} {p : String} {af : Array Edge} {g : Option (Nat × Bool)} {x y : Operand} {b : Nat} {zero : Value} (i : Nat) (k : κ) (K : KL P kt D) (hm : P.underlying mty = some (.map kt et))
    (hz : ∀ w, (zeroValue et).run P w = .ok zero w) (hinj : ∀ a b, ke a = ke b → a = b) (hD : ∀ p ∈ l, D (ke p.1)) (hk : D (ke k)) (hL : L[i]? = some (b, IsMap ke ve l)) (hx : eev e x = some (.map (some b))) (hy : eev e y = some (ke k)) :
    Yl P (Hp w0 L R F) n e ⟨d, .lookup mty x y false, t, p, af, g⟩ ((mget l k).elim zero ve) :=
  Yl.val fun a w hf hc => by
    obtain ⟨o, ho, es, clock, rfl, hst, hes⟩ := hc.own _ (List.mem_of_getElem? hL)
    replace ho : w.heap[b]? = some (.map es clock) := ho
    have hkeys : ∀ e ∈ es.toList, D e.key := fun e he => by
      obtain ⟨p, hp, h1, _⟩ := map_mem hes he
      rw [h1]; exact hD p hp
    simp only [execOp, hf.ev hx, hf.ev hy]
    rcases K.find w hk es.toList hkeys with ⟨h1, h2⟩ | ⟨j, e0, h1, h2, h3⟩
    · have : mget l k = none := by
        simp only [mget, Option.map_eq_none_iff, List.find?_eq_none, decide_eq_true_eq]
        intro q hq he
        obtain ⟨x, hx, hx1, _⟩ := map_mem' hes hq
        exact h2 x hx (by rw [hx1, he])
      simp [Instr.lookup, run_underlying hm, MapKept.run_getObj_map ho, K.check w _ hk, h1, hz w, this, Result.andThen]
    · obtain ⟨q, hq, hq1, hq2⟩ := map_at hes h2
      have hqk : q.1 = k := hinj _ _ (by rw [← hq1, h3])
      have : mget l k = some q.2 := by
        unfold mget
        cases hf : l.find? (fun p => decide (p.1 = k)) with
        | none =>
          rw [List.find?_eq_none] at hf
          exact absurd (by simpa using hqk) (hf q (List.mem_of_getElem? hq))
        | some q' =>
          have hq'k : q'.1 = k := by simpa using List.find?_some hf
          have hmem := List.mem_of_find?_eq_some hf
          obtain ⟨j', hj'⟩ := List.getElem?_of_mem hmem
          have hlt : j < es.toList.length := (List.getElem?_eq_some_iff.1 h2).1
          have hll : es.toList.length = l.length := by simpa using congrArg List.length hes
          have hlt' : j' < es.toList.length := by rw [hll]; exact (List.getElem?_eq_some_iff.1 hj').1
          have hnd := hst.2.2
          have e1 : (es.toList.map (·.key))[j]? = some (ke k) := by simp only [List.getElem?_map, h2, Option.map_some, h3]
          have e2 : (es.toList.map (·.key))[j']? = some (ke k) := by
            obtain ⟨q2, hq2', hq21, _⟩ := map_at hes (List.getElem?_eq_getElem hlt')
            rw [hj'] at hq2'
            cases hq2'
            simp only [List.getElem?_map, List.getElem?_eq_getElem hlt', Option.map_some, hq21, hq'k]
          have : j = j' := (List.getElem?_inj (by simpa using hlt) hnd).1 (by rw [e1, e2])
          subst this
          rw [hq] at hj'
          cases hj'
          rfl
      simp [Instr.lookup, run_underlying hm, MapKept.run_getObj_map ho, K.check w _ hk, h1, this, hq2, Result.andThen]

/-- 'm[k] = v'. -/
theorem H.mapUpdate {ke : κ → Value} {ve : β → Value} {l : List (κ × β)} {mty kt et : TypeId} {D : Value → Prop} {t : TypeId} {p : String} {af : Array Edge} {x y z : Operand} {b : Nat} (i : Nat) (k : κ) (v : β) (K : KL P kt D) (hm : P.underlying mty = some (.map kt et))
    (hinj : ∀ a b, ke a = ke b → a = b) (hD : ∀ p ∈ l, D (ke p.1)) (hk : D (ke k)) (hL : L[i]? = some (b, IsMap ke ve l)) (hx : eev e x = some (.map (some b))) (hy : eev e y = some (ke k)) (hz : eev e z = some (ve v))
    (h : H n e (Hp w0 (L.set i (b, IsMap ke ve (mput l k v))) R F) (wpList P ops Q rest)) :
    H n e (Hp w0 L R F) (wpList P ops Q (⟨none, .mapUpdate mty x y z, t, p, af, none⟩ :: rest)) := by
  intro a w hf hc
  refine wpList_plain rfl fun KK hK => ?_
  obtain ⟨o, ho, es, clock, rfl, hst, hes⟩ := hc.own _ (List.mem_of_getElem? hL)
  replace ho : w.heap[b]? = some (.map es clock) := ho
  have hkeys : ∀ e ∈ es.toList, D e.key := fun e he => by
    obtain ⟨p, hp, h1, _⟩ := map_mem hes he
    rw [h1]; exact hD p hp
  rcases K.find w hk es.toList hkeys with ⟨h1, h2⟩ | ⟨j, e0, h1, h2, h3⟩
  · have hr : (execOp a.eval ⟨none, .mapUpdate mty x y z, t, p, af, none⟩).run P w = .ok .skip { w with heap := w.heap.setIfInBounds b (.map (es.push { key := ke k, val := ve v, born := clock }) (clock + 1)) } := by
      simp [execOp, hf.ev hx, hf.ev hy, hf.ev hz, Instr.mapUpdate, run_underlying hm, MapKept.run_getObj_map ho, K.check w _ hk, h1, MapKept.run_setObj_map _ ho, Result.andThen]
    unfold Oper.wp
    rw [hr]
    refine hK _ _ (h _ _ hf (hc.store i _ hL rfl rfl rfl (by simp) (heap_set ho).1 ?_ (heap_set ho).2))
    refine ⟨_, _, rfl, stamped_push hst h2, ?_⟩
    have hno : l.any (fun p => decide (p.1 = k)) = false := List.any_eq_false.2 fun q hq => by
      simp only [decide_eq_true_eq]
      intro he
      obtain ⟨x, hx, hx1, _⟩ := map_mem' hes hq
      exact h2 x hx (by rw [hx1, he])
    simp [mput, hno, hes]
  · have hj : es[j]? = some e0 := by simpa using h2
    have hr : (execOp a.eval ⟨none, .mapUpdate mty x y z, t, p, af, none⟩).run P w = .ok .skip { w with heap := w.heap.setIfInBounds b (.map (es.modify j fun e => { e with key := ke k, val := ve v }) clock) } := by
      simp [execOp, hf.ev hx, hf.ev hy, hf.ev hz, Instr.mapUpdate, run_underlying hm, MapKept.run_getObj_map ho, K.check w _ hk, h1, hj, h3, K.stays w hk, MapKept.run_setObj_map _ ho, Result.andThen]
    unfold Oper.wp
    rw [hr]
    have hkey : ∀ e', es[j]? = some e' → ({ e' with key := ke k, val := ve v } : MapEntry).key = e'.key := fun e' he' => by rw [hj] at he'; cases he'; exact h3.symm
    refine hK _ _ (h _ _ hf (hc.store i _ hL rfl rfl rfl (by simp) (heap_set ho).1 ?_ (heap_set ho).2))
    refine ⟨_, _, rfl, stamped_modify hst _ _ (fun _ _ => rfl) (fun e' _ he' => hkey e' he'), ?_⟩
    obtain ⟨q, hq, hq1, hq2⟩ := map_at hes h2
    have hqk : q.1 = k := hinj _ _ (by rw [← hq1, h3])
    have hyes : l.any (fun p => decide (p.1 = k)) = true := List.any_eq_true.2 ⟨q, List.mem_of_getElem? hq, by simpa using hqk⟩
    rw [mput, if_pos hyes]
    apply List.ext_getElem?
    intro m
    rw [Array.toList_modify, List.getElem?_map, List.getElem?_modify]
    simp only [List.getElem?_map]
    have hm2 := congrArg (fun l => l[m]?) hes
    simp only [List.getElem?_map] at hm2
    by_cases hjm : j = m
    · subst hjm
      simp only [h2, hq, Option.map_some, if_pos hqk, if_true]
      rfl
    · simp only [if_neg hjm, Option.map_id', id]
      cases hlm : l[m]? with
      | none => rw [hlm] at hm2; simpa using hm2
      | some q' =>
        rw [hlm] at hm2
        have : q'.1 ≠ k := fun he => by
          have hnd := hst.2.2
          have e1 : (es.toList.map (·.key))[j]? = some (ke k) := by simp only [List.getElem?_map, h2, Option.map_some, h3]
          have e2 : (es.toList.map (·.key))[m]? = some (ke k) := by
            simp only [Option.map_some, Option.map_eq_some_iff, Prod.mk.injEq] at hm2
            obtain ⟨x, hx, hx1, _⟩ := hm2
            simp only [List.getElem?_map, hx, Option.map_some, hx1, he]
          have hlt : j < (es.toList.map (·.key)).length := (List.getElem?_eq_some_iff.1 e1).1
          exact hjm ((List.getElem?_inj hlt hnd).1 (by rw [e1, e2]))
        simp only [Option.map_some, if_neg this]
        simpa using hm2
end

/-! ### Parts of strings -/
section
variable {P : Program} {n : Nat} {e : Env} {C : World → Prop} {d : Option Tmp} {t : TypeId} {p : String} {af : Array Edge} {g : Option (Nat × Bool)}
theorem extract_list (l : List UInt8) (a b : Nat) : (⟨l.toArray⟩ : ByteArray).extract a b = ⟨((l.drop a).take (b - a)).toArray⟩ := by
  apply ByteArray.ext
  simp [ByteArray.data_extract, List.extract_eq_take_drop]
/-- 's[a:b]'. -/
theorem yl_sslice {x lo hi : Operand} {ty : TypeId} {l : List UInt8} {k1 k2 : IntKind} {a b : Int} (i j : Nat) (hu : P.underlying ty = some .string) (hx : eev e x = some (strV l)) (hlo : eev e lo = some (.int k1 a)) (hhi : eev e hi = some (.int k2 b)) (ha : a = (i : Int)) (hb : b = (j : Int)) (hij : i ≤ j) (hj : j ≤ l.length) :
    Yl P C n e ⟨d, .slice ty x (some lo) (some hi) none, t, p, af, g⟩ (strV ((l.drop i).take (j - i))) :=
  Yl.val fun ac w hf _ => by
    subst ha
    subst hb
    have hsz : (⟨l.toArray⟩ : ByteArray).size = l.length := rfl
    simp [execOp, hf.ev hx, hf.ev hlo, hf.ev hhi, Instr.sliceAt, strV, Instr.slice, run_underlying hu, Instr.sliceBounds, Instr.sliceBound, asIntOf, hsz, hij, hj, Result.andThen, extract_list]
/-- 'len(s)'. -/
theorem yl_slenL {x : Operand} {l : List UInt8} {ty : TypeId} {ats : Array TypeId} (hat : ats[0]? = some ty) (hu : P.underlying ty = some .string) (hx : eev e x = some (strV l)) :
    Yl P C n e ⟨d, .call { callee := .builtin .len, args := #[x], argTypes := ats }, t, p, af, g⟩ (.int .i64 (l.length : Int)) := yl_slen hat hu hx
/-- 's[i]'. -/
theorem yl_six {x ix : Operand} {ty : Nat} {l : List UInt8} {k : IntKind} {i : Int} (j : Nat) (hu : P.underlying ty = some .string) (hx : eev e x = some (strV l)) (hi : eev e ix = some (.int k i)) (hj : i = (j : Int)) (hl : j < l.length) :
    Yl P C n e ⟨d, .index ty x ix, t, p, af, g⟩ (.int .u8 ((l.getD j 0).toNat : Int)) := yl_sindex j (l.getD j 0) hu hx hi hj (by simp [List.getD, hl])
end

/-- A call under a guard, which hands over a new block. -/
theorem H.callG {P : Program} {n : Nat} {e : Env} {C : World → Prop} {Q : Exit → Act → World → Prop} {ops : Array Oper} {rest : List Oper} {f : FuncId} {xs : List Operand} {vs : List Value} {d : Nat} {t : TypeId} {p : String} {af : Array Edge} {ats : Array TypeId} {g : Bool} {gd : Nat × Bool} {α : Type} (z0 : α) (v : α → Value) (X : α → World → Prop)
    (hw : Wn ops n e ⟨some d, .call { callee := .value (.func f), args := xs.toArray, argTypes := ats }, t, p, af, some gd⟩ g) (hen : ∀ args w, (callFunc f args).run P w = .ok (.enter f args) w)
    (hx : eevs e xs = some vs) (hst : Stab C) (hn : d < n) (hc : g = true → ∀ w, C w → Calls P f vs.toArray w fun en w' => ∃ z, en = .returned (v z) ∧ Ext w w' ∧ X z w')
    (h : ∀ z, H n ((d, gv g (v z)) :: e) (fun w => C w ∧ (g = true → X z w)) (wpList P ops Q rest)) :
    H n e C (wpList P ops Q (⟨some d, .call { callee := .value (.func f), args := xs.toArray, argTypes := ats }, t, p, af, some gd⟩ :: rest)) := by
  intro a w hf hcw
  refine wpList_step fun K hK => ?_
  rw [hw a hf]
  cases g with
  | true =>
    simp only [if_true]
    have h1 : (List.map a.eval xs) = vs := hf.evs hx
    have hr : (execOp a.eval ⟨some d, .call { callee := .value (.func f), args := xs.toArray, argTypes := ats }, t, p, af, some gd⟩).run P w = .ok (.enter f vs.toArray) w := by
      simp [execOp, resolve, h1, Act.eval, Deferred.ofValue, invoke, hen]
    unfold Oper.wp
    rw [hr]
    refine (hc rfl w hcw).mono fun en w' hh => ?_
    obtain ⟨z, rfl, he, hX⟩ := hh
    exact hK _ _ (h z _ _ (hf.put hn _) ⟨hst w w' hcw he, fun _ => hX⟩)
  | false =>
    simp only [Bool.false_eq_true, if_false]
    exact hK _ _ (h z0 _ w (hf.put hn undef) ⟨hcw, fun hh => by cases hh⟩)
end Go.Proofs.YtgbgddmbooaddaaGreatDoor

namespace Go.Proofs.YtgbgddmbooaddaaGreatDoor

def kwL : List (List UInt8) := [[102, 117, 110], [108, 101, 116], [105, 102], [101, 108, 115, 101], [119, 104, 105, 108, 101], [114, 101, 116, 117, 114, 110], [116, 104, 114, 111, 119], [116, 114, 121], [99, 97, 116, 99, 104], [115, 112, 97, 119, 110], [106, 111, 105, 110], [108, 111, 99, 107], [117, 110, 108, 111, 99, 107], [112, 114, 105, 110, 116], [97, 115, 115, 101, 114, 116], [110, 101, 119], [108, 101, 110], [105, 110, 112, 117, 116], [99, 108, 111, 99, 107], [102, 110]]
def lowB (c : Int) : Bool := decide (97 ≤ c) && decide (c ≤ 122)
def digB (c : Int) : Bool := decide (48 ≤ c) && decide (c ≤ 57)
def wordB (c : Int) : Bool := ((lowB c || (decide (65 ≤ c) && decide (c ≤ 90))) || digB c) || decide (c = 95)
def frontB (s : List UInt8) : Bool := ((decide ((s.length : Int) = 0) || decide ((16 : Int) < s.length)) || !lowB ((s.getD 0 0).toNat : Int)) || kwL.any (fun y => decide (s = y))
def nameB (s : List UInt8) : Bool := !frontB s && s.all (fun c => wordB (c.toNat : Int))
theorem nameB_front {s : List UInt8} (h : frontB s = true) : nameB s = false := by simp [nameB, h]
theorem nameB_no {s : List UInt8} (j : Nat) (hj : j < s.length) (h : wordB ((s.getD j 0).toNat : Int) = false) : nameB s = false := by
  have : s.all (fun c => wordB (c.toNat : Int)) = false := List.all_eq_false.2 ⟨s[j], List.getElem_mem hj, by simpa [List.getD, hj] using h⟩
  simp [nameB, this]
theorem nameB_yes {s : List UInt8} (h0 : frontB s = false) (h : ∀ j, j < s.length → wordB ((s.getD j 0).toNat : Int) = true) : nameB s = true := by
  have : s.all (fun c => wordB (c.toNat : Int)) = true := List.all_eq_true.2 fun x hx => by
    obtain ⟨j, hj, rfl⟩ := List.getElem_of_mem hx
    simpa [List.getD, hj] using h j hj
  simp [nameB, this, h0]
theorem any_comm (s : List UInt8) (l : List (List UInt8)) : (l.any fun y => decide (y = s)) = l.any fun y => decide (s = y) := by
  congr 1
  funext y
  exact decide_eq_decide.2 ⟨Eq.symm, Eq.symm⟩

/-- All of them are names, and they differ. -/
def goodB (l : List (List UInt8)) : Bool := l.all nameB && decide l.Nodup
def namedE (l : List (List UInt8)) : Int := if goodB l then 0 else 1
theorem namedE_bad {l : List (List UInt8)} (k : Nat) (hk : k < l.length) (h : nameB l[k] = false) : namedE l = 1 := by
  have : l.all nameB = false := List.all_eq_false.2 ⟨l[k], List.getElem_mem hk, by simp [h]⟩
  simp [namedE, goodB, this]
theorem namedE_twice {l : List (List UInt8)} (j k : Nat) (hjk : j < k) (hk : k < l.length) (h : l[j] = l[k]) : namedE l = 1 := by
  have : ¬ l.Nodup := fun hn => List.pairwise_iff_getElem.1 hn j k (by omega) hk hjk h
  simp [namedE, goodB, this]
theorem namedE_good {l : List (List UInt8)} (h : ∀ k (hk : k < l.length), nameB l[k] = true) (h2 : ∀ j k (hjk : j < k) (hk : k < l.length), l[j]'(by omega) ≠ l[k]) : namedE l = 0 := by
  have h1 : l.all nameB = true := List.all_eq_true.2 fun x hx => by
    obtain ⟨j, hj, rfl⟩ := List.getElem_of_mem hx
    exact h j hj
  have h3 : l.Nodup := List.pairwise_iff_getElem.2 fun i j hi hj hij => h2 i j hij hj
  simp [namedE, goodB, h1, h3]
end Go.Proofs.YtgbgddmbooaddaaGreatDoor

namespace Go.Proofs.YtgbgddmbooaddaaGreatDoor
open Go.RowKit


def kwP : List (Nat × Value) := (List.range 20).zip (kwL.map strV)
theorem bs_kw (w : World) : (Instr.buildSlice 26 20 kwP.toArray).run Tryz.prog w = .ok (.slice (some ⟨w.heap.size, 0, none⟩) 20 20) (w.alloc (.cells (kwL.map strV).toArray 9)) := by kernel_rfl
theorem isStrs_blk {w : World} {b : Nat} {l : List (List UInt8)} {n : Nat} (hn : l.length = n) (h : w.heap[b]? = some (.cells (l.map strV).toArray 9)) : IsStrs w (.slice (some ⟨b, 0, none⟩) n n) l :=
  ⟨some ⟨b, 0, none⟩, n, b, 0, by simp [hn], by simp [hn], fun j x hj => ⟨rfl, cell_of_blk h (by simpa using hj)⟩⟩
theorem Tryz.keyed9 : KL Tryz.prog 9 fun v => ∃ l : List UInt8, v = strV l ∧ l.length ≤ 1000 :=
  KL.of (Maps.string_keyed Tryz.underlying9) fun v ⟨l, hv, hl⟩ => by
    subst hv
    exact ⟨_, WideMaps.keyOf_string_mk Tryz.underlying9 (show l.length ≤ maxLen by simp only [maxLen]; omega)⟩
theorem strV_inj (a b : List UInt8) (h : strV a = strV b) : a = b := by
  simp only [strV, Value.string.injEq, ByteArray.mk.injEq] at h
  simpa using congrArg Array.toList h


theorem decide_len0 (s : List UInt8) : decide (s = []) = decide ((s.length : Int) = 0) := decide_eq_decide.2 ⟨fun h => by simp [h], fun h => List.length_eq_zero_iff.1 (by omega)⟩

set_option maxRecDepth 100000 in
theorem letter_any (c : Int) (w0 : World) : Calls Tryz.prog 94 #[.int .u8 c] w0 fun e w' => e = .returned (.bool (lowB c)) ∧ Ext w0 w' := by
  refine enterA 9 Tryz.func94 rfl Tryz.ntmps94 rfl (Hp w0 [] [] []) (Hp.init _) ?_
  refine H.seq ?_
  refine H.region ?_
  refine H.q (yl_assign rfl) rfl rfl (by decide) ?_
  refine HN.done ?_
  refine HN.keep [(0, _)] ⟨rfl, trivial⟩ ?_
  refine HN.then ?_
  refine H.seq ?_
  refine H.region ?_
  refine H.q (yl_move rfl) rfl rfl (by decide) ?_
  refine H.q (yl_geq rfl rfl) rfl rfl (by decide) ?_
  refine H.q (yl_move rfl) rfl rfl (by decide) ?_
  refine H.qg (wn_t rfl rfl (by decide) rfl) (fun hg => yl_sub [(0, _)] ⟨rfl, trivial⟩ (yl_move rfl)) rfl (by decide) ?_
  refine H.qg (wn_t rfl rfl (by decide) rfl) (fun hg => yl_sub [(6, _)] ⟨slT rfl hg, trivial⟩ (yl_leq rfl rfl)) rfl (by decide) ?_
  refine H.q (yl_and rfl rfl) rfl rfl (by decide) ?_
  refine H.q (yl_assign rfl) rfl rfl (by decide) ?_
  refine HN.done ?_
  refine HN.keep [(2, _)] ⟨rfl, trivial⟩ ?_
  refine HN.then ?_
  refine HR.ret ?_
  refine HR.ret1 _ Tryz.results94 rfl (fun w hw => ?_)
  exact ⟨rfl, hw.ext⟩

set_option maxRecDepth 100000 in
theorem refSmall_any (c : Int) (w0 : World) : Calls Tryz.prog 101 #[.int .u8 c] w0 fun e w' => e = .returned (.bool (lowB c)) ∧ Ext w0 w' := by
  refine enterA 9 Tryz.func101 rfl Tryz.ntmps101 rfl (Hp w0 [] [] []) (Hp.init _) ?_
  refine H.seq ?_
  refine H.region ?_
  refine H.q (yl_assign rfl) rfl rfl (by decide) ?_
  refine HN.done ?_
  refine HN.keep [(0, _)] ⟨rfl, trivial⟩ ?_
  refine HN.then ?_
  refine H.seq ?_
  refine H.region ?_
  refine H.q (yl_move rfl) rfl rfl (by decide) ?_
  refine H.q (yl_geq rfl rfl) rfl rfl (by decide) ?_
  refine H.q (yl_move rfl) rfl rfl (by decide) ?_
  refine H.qg (wn_t rfl rfl (by decide) rfl) (fun hg => yl_sub [(0, _)] ⟨rfl, trivial⟩ (yl_move rfl)) rfl (by decide) ?_
  refine H.qg (wn_t rfl rfl (by decide) rfl) (fun hg => yl_sub [(6, _)] ⟨slT rfl hg, trivial⟩ (yl_leq rfl rfl)) rfl (by decide) ?_
  refine H.q (yl_and rfl rfl) rfl rfl (by decide) ?_
  refine H.q (yl_assign rfl) rfl rfl (by decide) ?_
  refine HN.done ?_
  refine HN.keep [(2, _)] ⟨rfl, trivial⟩ ?_
  refine HN.then ?_
  refine HR.ret ?_
  refine HR.ret1 _ Tryz.results101 rfl (fun w hw => ?_)
  exact ⟨rfl, hw.ext⟩

set_option maxRecDepth 100000 in
theorem refDigit_any (c : Int) (w0 : World) : Calls Tryz.prog 118 #[.int .u8 c] w0 fun e w' => e = .returned (.bool (digB c)) ∧ Ext w0 w' := by
  refine enterA 9 Tryz.func118 rfl Tryz.ntmps118 rfl (Hp w0 [] [] []) (Hp.init _) ?_
  refine H.seq ?_
  refine H.region ?_
  refine H.q (yl_assign rfl) rfl rfl (by decide) ?_
  refine HN.done ?_
  refine HN.keep [(0, _)] ⟨rfl, trivial⟩ ?_
  refine HN.then ?_
  refine H.seq ?_
  refine H.region ?_
  refine H.q (yl_move rfl) rfl rfl (by decide) ?_
  refine H.q (yl_geq rfl rfl) rfl rfl (by decide) ?_
  refine H.q (yl_move rfl) rfl rfl (by decide) ?_
  refine H.qg (wn_t rfl rfl (by decide) rfl) (fun hg => yl_sub [(0, _)] ⟨rfl, trivial⟩ (yl_move rfl)) rfl (by decide) ?_
  refine H.qg (wn_t rfl rfl (by decide) rfl) (fun hg => yl_sub [(6, _)] ⟨slT rfl hg, trivial⟩ (yl_leq rfl rfl)) rfl (by decide) ?_
  refine H.q (yl_and rfl rfl) rfl rfl (by decide) ?_
  refine H.q (yl_assign rfl) rfl rfl (by decide) ?_
  refine HN.done ?_
  refine HN.keep [(2, _)] ⟨rfl, trivial⟩ ?_
  refine HN.then ?_
  refine HR.ret ?_
  refine HR.ret1 _ Tryz.results118 rfl (fun w hw => ?_)
  exact ⟨rfl, hw.ext⟩

set_option maxRecDepth 100000 in
theorem wordByte_any (c : Int) (w0 : World) : Calls Tryz.prog 96 #[.int .u8 c] w0 fun e w' => e = .returned (.bool (wordB c)) ∧ Ext w0 w' := by
  refine enterA 25 Tryz.func96 rfl Tryz.ntmps96 rfl (Hp w0 [] [] []) (Hp.init _) ?_
  refine H.seq ?_
  refine H.region ?_
  refine H.q (yl_assign rfl) rfl rfl (by decide) ?_
  refine HN.done ?_
  refine HN.keep [(0, _)] ⟨rfl, trivial⟩ ?_
  refine HN.then ?_
  refine H.seq ?_
  refine H.region ?_
  refine H.q (yl_move rfl) rfl rfl (by decide) ?_
  refine H.q (yl_call (xs := [.tmp 3]) Tryz.call94 (stab_hp _ _ _ _) rfl (fun w hw => letter_any _ w)) rfl rfl (by decide) ?_
  refine H.q (yl_move rfl) rfl rfl (by decide) ?_
  refine H.qg (wn_f rfl rfl (by decide) rfl) (fun hg => yl_sub [(0, _)] ⟨rfl, trivial⟩ (yl_move rfl)) rfl (by decide) ?_
  refine H.qg (wn_f rfl rfl (by decide) rfl) (fun hg => yl_sub [(6, _)] ⟨slT rfl hg, trivial⟩ (yl_geq rfl rfl)) rfl (by decide) ?_
  refine H.qg (wn_f rfl rfl (by decide) rfl) (fun hg => yl_sub [(7, _)] ⟨slT rfl hg, trivial⟩ (yl_move rfl)) rfl (by decide) ?_
  refine H.qg (wn_gt rfl rfl (by decide) rfl) (fun hg => yl_sub [(0, _)] ⟨rfl, trivial⟩ (yl_move rfl)) rfl (by decide) ?_
  refine H.qg (wn_gt rfl rfl (by decide) rfl) (fun hg => yl_sub [(9, _)] ⟨slT rfl hg, trivial⟩ (yl_leq rfl rfl)) rfl (by decide) ?_
  refine H.qg (wn_f rfl rfl (by decide) rfl) (fun hg => yl_sub [(8, _), (10, _)] ⟨slT rfl hg, slA rfl hg, trivial⟩ (yl_and rfl rfl)) rfl (by decide) ?_
  refine H.q (yl_or rfl rfl) rfl rfl (by decide) ?_
  refine H.q (yl_move rfl) rfl rfl (by decide) ?_
  refine H.qg (wn_f rfl rfl (by decide) rfl) (fun hg => yl_sub [(0, _)] ⟨rfl, trivial⟩ (yl_move rfl)) rfl (by decide) ?_
  refine H.qg (wn_f rfl rfl (by decide) rfl) (fun hg => yl_sub [(14, _)] ⟨slT rfl hg, trivial⟩ (yl_geq rfl rfl)) rfl (by decide) ?_
  refine H.qg (wn_f rfl rfl (by decide) rfl) (fun hg => yl_sub [(15, _)] ⟨slT rfl hg, trivial⟩ (yl_move rfl)) rfl (by decide) ?_
  refine H.qg (wn_gt rfl rfl (by decide) rfl) (fun hg => yl_sub [(0, _)] ⟨rfl, trivial⟩ (yl_move rfl)) rfl (by decide) ?_
  refine H.qg (wn_gt rfl rfl (by decide) rfl) (fun hg => yl_sub [(17, _)] ⟨slT rfl hg, trivial⟩ (yl_leq rfl rfl)) rfl (by decide) ?_
  refine H.qg (wn_f rfl rfl (by decide) rfl) (fun hg => yl_sub [(16, _), (18, _)] ⟨slT rfl hg, slA rfl hg, trivial⟩ (yl_and rfl rfl)) rfl (by decide) ?_
  refine H.q (yl_or rfl rfl) rfl rfl (by decide) ?_
  refine H.q (yl_move rfl) rfl rfl (by decide) ?_
  refine H.qg (wn_f rfl rfl (by decide) rfl) (fun hg => yl_sub [(0, _)] ⟨rfl, trivial⟩ (yl_move rfl)) rfl (by decide) ?_
  refine H.qg (wn_f rfl rfl (by decide) rfl) (fun hg => yl_sub [(22, _)] ⟨slT rfl hg, trivial⟩ (yl_eql rfl rfl)) rfl (by decide) ?_
  refine H.q (yl_or rfl rfl) rfl rfl (by decide) ?_
  refine H.q (yl_assign rfl) rfl rfl (by decide) ?_
  refine HN.done ?_
  refine HN.keep [(2, _)] ⟨rfl, trivial⟩ ?_
  refine HN.then ?_
  refine HR.ret ?_
  refine HR.ret1 _ Tryz.results96 rfl (fun w hw => ?_)
  exact ⟨rfl, hw.ext⟩

set_option maxRecDepth 100000 in
theorem refPart_any (c : Int) (w0 : World) : Calls Tryz.prog 104 #[.int .u8 c] w0 fun e w' => e = .returned (.bool (wordB c)) ∧ Ext w0 w' := by
  refine enterA 21 Tryz.func104 rfl Tryz.ntmps104 rfl (Hp w0 [] [] []) (Hp.init _) ?_
  refine H.seq ?_
  refine H.region ?_
  refine H.q (yl_assign rfl) rfl rfl (by decide) ?_
  refine HN.done ?_
  refine HN.keep [(0, _)] ⟨rfl, trivial⟩ ?_
  refine HN.then ?_
  refine H.seq ?_
  refine H.region ?_
  refine H.q (yl_move rfl) rfl rfl (by decide) ?_
  refine H.q (yl_call (xs := [.tmp 3]) Tryz.call101 (stab_hp _ _ _ _) rfl (fun w hw => refSmall_any _ w)) rfl rfl (by decide) ?_
  refine H.q (yl_move rfl) rfl rfl (by decide) ?_
  refine H.qg (wn_f rfl rfl (by decide) rfl) (fun hg => yl_sub [(0, _)] ⟨rfl, trivial⟩ (yl_move rfl)) rfl (by decide) ?_
  refine H.qg (wn_f rfl rfl (by decide) rfl) (fun hg => yl_sub [(6, _)] ⟨slT rfl hg, trivial⟩ (yl_geq rfl rfl)) rfl (by decide) ?_
  refine H.qg (wn_f rfl rfl (by decide) rfl) (fun hg => yl_sub [(7, _)] ⟨slT rfl hg, trivial⟩ (yl_move rfl)) rfl (by decide) ?_
  refine H.qg (wn_gt rfl rfl (by decide) rfl) (fun hg => yl_sub [(0, _)] ⟨rfl, trivial⟩ (yl_move rfl)) rfl (by decide) ?_
  refine H.qg (wn_gt rfl rfl (by decide) rfl) (fun hg => yl_sub [(9, _)] ⟨slT rfl hg, trivial⟩ (yl_leq rfl rfl)) rfl (by decide) ?_
  refine H.qg (wn_f rfl rfl (by decide) rfl) (fun hg => yl_sub [(8, _), (10, _)] ⟨slT rfl hg, slA rfl hg, trivial⟩ (yl_and rfl rfl)) rfl (by decide) ?_
  refine H.q (yl_or rfl rfl) rfl rfl (by decide) ?_
  refine H.q (yl_move rfl) rfl rfl (by decide) ?_
  refine H.qg (wn_f rfl rfl (by decide) rfl) (fun hg => yl_sub [(0, _)] ⟨rfl, trivial⟩ (yl_move rfl)) rfl (by decide) ?_
  refine H.qg (wn_f rfl rfl (by decide) rfl) (fun hg => yl_sub [(14, _)] ⟨slT rfl hg, trivial⟩ (yl_call (xs := [.tmp 14]) Tryz.call118 (stab_hp _ _ _ _) rfl (fun w hw => refDigit_any _ w))) rfl (by decide) ?_
  refine H.q (yl_or rfl rfl) rfl rfl (by decide) ?_
  refine H.q (yl_move rfl) rfl rfl (by decide) ?_
  refine H.qg (wn_f rfl rfl (by decide) rfl) (fun hg => yl_sub [(0, _)] ⟨rfl, trivial⟩ (yl_move rfl)) rfl (by decide) ?_
  refine H.qg (wn_f rfl rfl (by decide) rfl) (fun hg => yl_sub [(18, _)] ⟨slT rfl hg, trivial⟩ (yl_eql rfl rfl)) rfl (by decide) ?_
  refine H.q (yl_or rfl rfl) rfl rfl (by decide) ?_
  refine H.q (yl_assign rfl) rfl rfl (by decide) ?_
  refine HN.done ?_
  refine HN.keep [(2, _)] ⟨rfl, trivial⟩ ?_
  refine HN.then ?_
  refine HR.ret ?_
  refine HR.ret1 _ Tryz.results104 rfl (fun w hw => ?_)
  exact ⟨rfl, hw.ext⟩

set_option maxRecDepth 100000 in
theorem sIndex_any (l : List (List UInt8)) (sv : Value) (s : List UInt8) (w0 : World) (hl : l.length ≤ 4611686018427387904) (hv : IsStrs w0 sv l) : Calls Tryz.prog 74 #[sv, strV s] w0 fun e w' => e = .returned (.int .i64 (idxP (fun y => decide (s = y)) l)) ∧ Ext w0 w' := by
  obtain ⟨ad, cap, b, o, rfl, hcap, hs⟩ := sl_open strV hv
  refine enterA 19 Tryz.func74 rfl Tryz.ntmps74 rfl (Hp w0 [] [] []) (Hp.init _) ?_
  refine H.seq ?_
  refine H.region ?_
  refine H.q (yl_assign rfl) rfl rfl (by decide) ?_
  refine HN.done ?_
  refine HN.keep [(0, _), (1, _)] ⟨rfl, rfl, trivial⟩ ?_
  refine HN.then ?_
  refine H.seq ?_
  refine H.seq ?_
  refine H.region ?_
  refine H.q (yl_move rfl) rfl rfl (by decide) ?_
  refine H.q (yl_len rfl Tryz.underlying26 rfl) rfl rfl (by decide) ?_
  refine H.q (yl_move rfl) rfl rfl (by decide) ?_
  refine HN.done ?_
  refine HN.keep [(0, _), (1, _), (7, _), (8, _)] ⟨rfl, rfl, rfl, rfl, trivial⟩ ?_
  refine HN.then ?_
  refine H.block ?_
  refine H.loop (fun k : Nat => [(0, .slice ad l.length cap), (1, strV s), (7, .int .i64 (l.length : Int)), (8, .int .i64 (k : Int))]) (fun k => k ≤ l.length ∧ ∀ j (hj : j < k) (hj2 : j < l.length), ¬ s = l[j]) (fun _ => Hp w0 [] [] []) (fun k => l.length - k) 0 ⟨Nat.zero_le _, fun j hj => by omega⟩ ⟨rfl, rfl, rfl, rfl, trivial⟩ (fun w hw => hw) (fun k hI => ?_)
  obtain ⟨hk0, hk1⟩ := hI
  refine H.seq ?_
  refine H.region ?_
  refine H.q (yl_lss rfl rfl) rfl rfl (by decide) ?_
  refine HN.done ?_
  refine HN.keep [(0, _), (1, _), (7, _), (8, _), (9, _)] ⟨rfl, rfl, rfl, rfl, rfl, trivial⟩ ?_
  refine HN.then ?_
  refine H.seq ?_
  refine H.cond _ rfl (fun t0 => ?_) (fun t0 => ?_)
  · simp only [decide_eq_true_eq] at t0; have hk : k < l.length := by omega
    refine H.keep [(0, _), (1, _), (7, _), (8, _)] ⟨rfl, rfl, rfl, rfl, trivial⟩ ?_
    refine HN.skip ?_
    refine HN.then ?_
    refine H.seq ?_
    refine H.block ?_
    refine H.seq ?_
    refine H.region ?_
    refine H.q (yl_move rfl) rfl rfl (by decide) ?_
    refine H.q (yl_assign rfl) rfl rfl (by decide) ?_
    refine HN.done ?_
    refine HN.keep [(0, _), (1, _), (5, _), (7, _), (8, _)] ⟨rfl, rfl, rfl, rfl, rfl, trivial⟩ ?_
    refine HN.then ?_
    refine H.seq ?_
    refine H.region ?_
    refine H.q (yl_move rfl) rfl rfl (by decide) ?_
    refine H.q (yl_move rfl) rfl rfl (by decide) ?_
    refine H.q (yl_move rfl) rfl rfl (by decide) ?_
    refine H.q (yl_ix k Tryz.underlying26 Tryz.sizeOf9 (hs k hk).1 rfl rfl rfl hk) rfl rfl (by decide) ?_
    refine H.q (yl_load Tryz.isAgg9 rfl (fun w hw => cell_ext hw.ext (hs k hk).2)) rfl rfl (by decide) ?_
    refine H.q (yl_seqlL rfl rfl) rfl rfl (by decide) ?_
    refine HN.done ?_
    refine HN.keep [(0, _), (1, _), (5, _), (7, _), (8, _), (16, _)] ⟨rfl, rfl, rfl, rfl, rfl, rfl, trivial⟩ ?_
    refine HN.then ?_
    refine H.cond _ rfl (fun t1 => ?_) (fun t1 => ?_)
    · simp only [decide_eq_true_eq] at t1
      refine H.keep [(5, _)] ⟨rfl, trivial⟩ ?_
      refine H.seq ?_
      refine H.region ?_
      refine H.q (yl_move rfl) rfl rfl (by decide) ?_
      refine H.q (yl_assign rfl) rfl rfl (by decide) ?_
      refine HN.done ?_
      refine HN.keep [(4, _)] ⟨rfl, trivial⟩ ?_
      refine HN.then ?_
      refine HR.ret ?_
      refine HR.block ?_
      refine HR.then ?_
      refine HR.then ?_
      refine HR.block ?_
      refine HR.then ?_
      refine HR.ret1 _ Tryz.results74 rfl (fun w hw => ?_)
      exact ⟨by rw [idxP_hit k hk (decide_eq_true t1) fun j hj => decide_eq_false (hk1 j hj (by omega))], hw.ext⟩
    · simp only [decide_eq_false_iff_not] at t1
      refine H.keep [(0, _), (1, _), (7, _), (8, _)] ⟨rfl, rfl, rfl, rfl, trivial⟩ ?_
      refine HN.skip ?_
      refine HN.block ?_
      refine HN.then ?_
      refine H.region ?_
      refine H.q (yl_add rfl rfl _ rfl (by omega)) rfl rfl (by decide) ?_
      refine H.q (yl_move rfl) rfl rfl (by decide) ?_
      refine HN.done ?_
      refine HN.keep [(0, _), (1, _), (7, _), (8, _)] ⟨rfl, rfl, rfl, rfl, trivial⟩ ?_
      refine HN.then ?_
      have hn : ∀ j (hj : j < k + 1) (hj2 : j < l.length), ¬ s = l[j] := fun j hj hj2 => by
        by_cases h : j < k
        · exact hk1 j h hj2
        · obtain rfl : j = k := by omega
          exact t1
      exact H.at (k + 1) ⟨⟨by omega, hn⟩, by omega⟩ ⟨rfl, rfl, rfl, rfl, trivial⟩ (fun w hw => hw)
  · simp only [decide_eq_false_iff_not] at t0
    refine H.keep [] trivial ?_
    refine HX.exit ?_
    refine HX.then ?_
    refine HX.then ?_
    refine HX.hit ?_
    refine HN.then ?_
    refine H.seq ?_
    refine H.region ?_
    refine H.q (yl_assign rfl) rfl rfl (by decide) ?_
    refine HN.done ?_
    refine HN.keep [(4, _)] ⟨rfl, trivial⟩ ?_
    refine HN.then ?_
    refine HR.ret ?_
    refine HR.ret1 _ Tryz.results74 rfl (fun w hw => ?_)
    exact ⟨by rw [idxP_miss (p := (fun y => decide (s = y))) fun j hj => decide_eq_false (hk1 j (by omega) hj)], hw.ext⟩

set_option maxRecDepth 100000 in
theorem refIn_any (l : List (List UInt8)) (sv : Value) (s : List UInt8) (w0 : World) (hl : l.length ≤ 4611686018427387904) (hv : IsStrs w0 sv l) : Calls Tryz.prog 102 #[sv, strV s] w0 fun e w' => e = .returned (.int .i64 (idxP (fun y => decide (y = s)) l)) ∧ Ext w0 w' := by
  obtain ⟨ad, cap, b, o, rfl, hcap, hs⟩ := sl_open strV hv
  refine enterA 19 Tryz.func102 rfl Tryz.ntmps102 rfl (Hp w0 [] [] []) (Hp.init _) ?_
  refine H.seq ?_
  refine H.region ?_
  refine H.q (yl_assign rfl) rfl rfl (by decide) ?_
  refine HN.done ?_
  refine HN.keep [(0, _), (1, _)] ⟨rfl, rfl, trivial⟩ ?_
  refine HN.then ?_
  refine H.seq ?_
  refine H.seq ?_
  refine H.region ?_
  refine H.q (yl_assign rfl) rfl rfl (by decide) ?_
  refine HN.done ?_
  refine HN.keep [(0, _), (1, _), (5, _)] ⟨rfl, rfl, rfl, trivial⟩ ?_
  refine HN.then ?_
  refine H.block ?_
  refine H.loop (fun k : Nat => [(0, .slice ad l.length cap), (1, strV s), (5, .int .i64 (k : Int))]) (fun k => k ≤ l.length ∧ ∀ j (hj : j < k) (hj2 : j < l.length), ¬ l[j] = s) (fun _ => Hp w0 [] [] []) (fun k => l.length - k) 0 ⟨Nat.zero_le _, fun j hj => by omega⟩ ⟨rfl, rfl, rfl, trivial⟩ (fun w hw => hw) (fun k hI => ?_)
  obtain ⟨hk0, hk1⟩ := hI
  refine H.seq ?_
  refine H.seq ?_
  refine H.region ?_
  refine H.q (yl_move rfl) rfl rfl (by decide) ?_
  refine H.q (yl_move rfl) rfl rfl (by decide) ?_
  refine H.q (yl_len rfl Tryz.underlying26 rfl) rfl rfl (by decide) ?_
  refine H.q (yl_lss rfl rfl) rfl rfl (by decide) ?_
  refine HN.done ?_
  refine HN.keep [(0, _), (1, _), (5, _), (9, _)] ⟨rfl, rfl, rfl, rfl, trivial⟩ ?_
  refine HN.then ?_
  refine H.cond _ rfl (fun t0 => ?_) (fun t0 => ?_)
  · simp only [decide_eq_true_eq] at t0; have hk : k < l.length := by omega
    refine H.keep [(0, _), (1, _), (5, _)] ⟨rfl, rfl, rfl, trivial⟩ ?_
    refine HN.skip ?_
    refine HN.then ?_
    refine H.seq ?_
    refine H.block ?_
    refine H.seq ?_
    refine H.region ?_
    refine H.q (yl_move rfl) rfl rfl (by decide) ?_
    refine H.q (yl_move rfl) rfl rfl (by decide) ?_
    refine H.q (yl_ix k Tryz.underlying26 Tryz.sizeOf9 (hs k hk).1 rfl rfl rfl hk) rfl rfl (by decide) ?_
    refine H.q (yl_load Tryz.isAgg9 rfl (fun w hw => cell_ext hw.ext (hs k hk).2)) rfl rfl (by decide) ?_
    refine H.q (yl_move rfl) rfl rfl (by decide) ?_
    refine H.q (yl_seqlL rfl rfl) rfl rfl (by decide) ?_
    refine HN.done ?_
    refine HN.keep [(0, _), (1, _), (5, _), (17, _)] ⟨rfl, rfl, rfl, rfl, trivial⟩ ?_
    refine HN.then ?_
    refine H.cond _ rfl (fun t1 => ?_) (fun t1 => ?_)
    · simp only [decide_eq_true_eq] at t1
      refine H.keep [(5, _)] ⟨rfl, trivial⟩ ?_
      refine H.seq ?_
      refine H.region ?_
      refine H.q (yl_move rfl) rfl rfl (by decide) ?_
      refine H.q (yl_assign rfl) rfl rfl (by decide) ?_
      refine HN.done ?_
      refine HN.keep [(4, _)] ⟨rfl, trivial⟩ ?_
      refine HN.then ?_
      refine HR.ret ?_
      refine HR.block ?_
      refine HR.then ?_
      refine HR.then ?_
      refine HR.block ?_
      refine HR.then ?_
      refine HR.ret1 _ Tryz.results102 rfl (fun w hw => ?_)
      exact ⟨by rw [idxP_hit k hk (decide_eq_true t1) fun j hj => decide_eq_false (hk1 j hj (by omega))], hw.ext⟩
    · simp only [decide_eq_false_iff_not] at t1
      refine H.keep [(0, _), (1, _), (5, _)] ⟨rfl, rfl, rfl, trivial⟩ ?_
      refine HN.skip ?_
      refine HN.block ?_
      refine HN.then ?_
      refine H.region ?_
      refine H.q (yl_move rfl) rfl rfl (by decide) ?_
      refine H.q (yl_add rfl rfl _ rfl (by omega)) rfl rfl (by decide) ?_
      refine H.q (yl_assign rfl) rfl rfl (by decide) ?_
      refine HN.done ?_
      refine HN.keep [(0, _), (1, _), (5, _)] ⟨rfl, rfl, rfl, trivial⟩ ?_
      refine HN.then ?_
      have hn : ∀ j (hj : j < k + 1) (hj2 : j < l.length), ¬ l[j] = s := fun j hj hj2 => by
        by_cases h : j < k
        · exact hk1 j h hj2
        · obtain rfl : j = k := by omega
          exact t1
      exact H.at (k + 1) ⟨⟨by omega, hn⟩, by omega⟩ ⟨rfl, rfl, rfl, trivial⟩ (fun w hw => hw)
  · simp only [decide_eq_false_iff_not] at t0
    refine H.keep [] trivial ?_
    refine HX.exit ?_
    refine HX.then ?_
    refine HX.then ?_
    refine HX.hit ?_
    refine HN.then ?_
    refine H.seq ?_
    refine H.region ?_
    refine H.q (yl_assign rfl) rfl rfl (by decide) ?_
    refine HN.done ?_
    refine HN.keep [(4, _)] ⟨rfl, trivial⟩ ?_
    refine HN.then ?_
    refine HR.ret ?_
    refine HR.ret1 _ Tryz.results102 rfl (fun w hw => ?_)
    exact ⟨by rw [idxP_miss (p := (fun y => decide (y = s))) fun j hj => decide_eq_false (hk1 j (by omega) hj)], hw.ext⟩

set_option maxRecDepth 100000 in
theorem refAt_any (l : List (List UInt8)) (sv : Value) (s : List UInt8) (w0 : World) (hl : l.length ≤ 4611686018427387904) (hv : IsStrs w0 sv l) : Calls Tryz.prog 46 #[sv, strV s] w0 fun e w' => e = .returned (.int .i64 (idxP (fun y => decide (y = s)) l)) ∧ Ext w0 w' := by
  obtain ⟨ad, cap, b, o, rfl, hcap, hs⟩ := sl_open strV hv
  refine enterA 19 Tryz.func46 rfl Tryz.ntmps46 rfl (Hp w0 [] [] []) (Hp.init _) ?_
  refine H.seq ?_
  refine H.region ?_
  refine H.q (yl_assign rfl) rfl rfl (by decide) ?_
  refine HN.done ?_
  refine HN.keep [(0, _), (1, _)] ⟨rfl, rfl, trivial⟩ ?_
  refine HN.then ?_
  refine H.seq ?_
  refine H.seq ?_
  refine H.region ?_
  refine H.q (yl_assign rfl) rfl rfl (by decide) ?_
  refine HN.done ?_
  refine HN.keep [(0, _), (1, _), (5, _)] ⟨rfl, rfl, rfl, trivial⟩ ?_
  refine HN.then ?_
  refine H.block ?_
  refine H.loop (fun k : Nat => [(0, .slice ad l.length cap), (1, strV s), (5, .int .i64 (k : Int))]) (fun k => k ≤ l.length ∧ ∀ j (hj : j < k) (hj2 : j < l.length), ¬ l[j] = s) (fun _ => Hp w0 [] [] []) (fun k => l.length - k) 0 ⟨Nat.zero_le _, fun j hj => by omega⟩ ⟨rfl, rfl, rfl, trivial⟩ (fun w hw => hw) (fun k hI => ?_)
  obtain ⟨hk0, hk1⟩ := hI
  refine H.seq ?_
  refine H.seq ?_
  refine H.region ?_
  refine H.q (yl_move rfl) rfl rfl (by decide) ?_
  refine H.q (yl_move rfl) rfl rfl (by decide) ?_
  refine H.q (yl_len rfl Tryz.underlying26 rfl) rfl rfl (by decide) ?_
  refine H.q (yl_lss rfl rfl) rfl rfl (by decide) ?_
  refine HN.done ?_
  refine HN.keep [(0, _), (1, _), (5, _), (9, _)] ⟨rfl, rfl, rfl, rfl, trivial⟩ ?_
  refine HN.then ?_
  refine H.cond _ rfl (fun t0 => ?_) (fun t0 => ?_)
  · simp only [decide_eq_true_eq] at t0; have hk : k < l.length := by omega
    refine H.keep [(0, _), (1, _), (5, _)] ⟨rfl, rfl, rfl, trivial⟩ ?_
    refine HN.skip ?_
    refine HN.then ?_
    refine H.seq ?_
    refine H.block ?_
    refine H.seq ?_
    refine H.region ?_
    refine H.q (yl_move rfl) rfl rfl (by decide) ?_
    refine H.q (yl_move rfl) rfl rfl (by decide) ?_
    refine H.q (yl_ix k Tryz.underlying26 Tryz.sizeOf9 (hs k hk).1 rfl rfl rfl hk) rfl rfl (by decide) ?_
    refine H.q (yl_load Tryz.isAgg9 rfl (fun w hw => cell_ext hw.ext (hs k hk).2)) rfl rfl (by decide) ?_
    refine H.q (yl_move rfl) rfl rfl (by decide) ?_
    refine H.q (yl_seqlL rfl rfl) rfl rfl (by decide) ?_
    refine HN.done ?_
    refine HN.keep [(0, _), (1, _), (5, _), (17, _)] ⟨rfl, rfl, rfl, rfl, trivial⟩ ?_
    refine HN.then ?_
    refine H.cond _ rfl (fun t1 => ?_) (fun t1 => ?_)
    · simp only [decide_eq_true_eq] at t1
      refine H.keep [(5, _)] ⟨rfl, trivial⟩ ?_
      refine H.seq ?_
      refine H.region ?_
      refine H.q (yl_move rfl) rfl rfl (by decide) ?_
      refine H.q (yl_assign rfl) rfl rfl (by decide) ?_
      refine HN.done ?_
      refine HN.keep [(4, _)] ⟨rfl, trivial⟩ ?_
      refine HN.then ?_
      refine HR.ret ?_
      refine HR.block ?_
      refine HR.then ?_
      refine HR.then ?_
      refine HR.block ?_
      refine HR.then ?_
      refine HR.ret1 _ Tryz.results46 rfl (fun w hw => ?_)
      exact ⟨by rw [idxP_hit k hk (decide_eq_true t1) fun j hj => decide_eq_false (hk1 j hj (by omega))], hw.ext⟩
    · simp only [decide_eq_false_iff_not] at t1
      refine H.keep [(0, _), (1, _), (5, _)] ⟨rfl, rfl, rfl, trivial⟩ ?_
      refine HN.skip ?_
      refine HN.block ?_
      refine HN.then ?_
      refine H.region ?_
      refine H.q (yl_move rfl) rfl rfl (by decide) ?_
      refine H.q (yl_add rfl rfl _ rfl (by omega)) rfl rfl (by decide) ?_
      refine H.q (yl_assign rfl) rfl rfl (by decide) ?_
      refine HN.done ?_
      refine HN.keep [(0, _), (1, _), (5, _)] ⟨rfl, rfl, rfl, trivial⟩ ?_
      refine HN.then ?_
      have hn : ∀ j (hj : j < k + 1) (hj2 : j < l.length), ¬ l[j] = s := fun j hj hj2 => by
        by_cases h : j < k
        · exact hk1 j h hj2
        · obtain rfl : j = k := by omega
          exact t1
      exact H.at (k + 1) ⟨⟨by omega, hn⟩, by omega⟩ ⟨rfl, rfl, rfl, trivial⟩ (fun w hw => hw)
  · simp only [decide_eq_false_iff_not] at t0
    refine H.keep [] trivial ?_
    refine HX.exit ?_
    refine HX.then ?_
    refine HX.then ?_
    refine HX.hit ?_
    refine HN.then ?_
    refine H.seq ?_
    refine H.region ?_
    refine H.q (yl_assign rfl) rfl rfl (by decide) ?_
    refine HN.done ?_
    refine HN.keep [(4, _)] ⟨rfl, trivial⟩ ?_
    refine HN.then ?_
    refine HR.ret ?_
    refine HR.ret1 _ Tryz.results46 rfl (fun w hw => ?_)
    exact ⟨by rw [idxP_miss (p := (fun y => decide (y = s))) fun j hj => decide_eq_false (hk1 j (by omega) hj)], hw.ext⟩

set_option maxRecDepth 100000 in
theorem sContains_any (l : List (List UInt8)) (sv : Value) (s : List UInt8) (w0 : World) (hl : l.length ≤ 4611686018427387904) (hv : IsStrs w0 sv l) : Calls Tryz.prog 43 #[sv, strV s] w0 fun e w' => e = .returned (.bool (l.any fun y => decide (s = y))) ∧ Ext w0 w' := by
  refine enterA 9 Tryz.func43 rfl Tryz.ntmps43 rfl (Hp w0 [] [] []) (Hp.init _) ?_
  refine H.seq ?_
  refine H.region ?_
  refine H.q (yl_assign rfl) rfl rfl (by decide) ?_
  refine HN.done ?_
  refine HN.keep [(0, _), (1, _)] ⟨rfl, rfl, trivial⟩ ?_
  refine HN.then ?_
  refine H.seq ?_
  refine H.region ?_
  refine H.q (yl_move rfl) rfl rfl (by decide) ?_
  refine H.q (yl_move rfl) rfl rfl (by decide) ?_
  refine H.q (yl_call (xs := [.tmp 5, .tmp 6]) Tryz.call74 (stab_hp _ _ _ _) rfl (fun w hw => sIndex_any l sv s w hl (hv.ext hw.ext))) rfl rfl (by decide) ?_
  refine H.q (yl_geq rfl rfl) rfl rfl (by decide) ?_
  refine H.q (yl_assign rfl) rfl rfl (by decide) ?_
  refine HN.done ?_
  refine HN.keep [(4, _)] ⟨rfl, trivial⟩ ?_
  refine HN.then ?_
  refine HR.ret ?_
  refine HR.ret1 _ Tryz.results43 rfl (fun w hw => ?_)
  exact ⟨by rw [← idxP_any], hw.ext⟩

set_option maxRecDepth 100000 in
theorem keyword_any (s : List UInt8) (w0 : World) : Calls Tryz.prog 95 #[strV s] w0 fun e w' => e = .returned (.bool (kwL.any fun y => decide (s = y))) ∧ Ext w0 w' := by
  refine enterA 6 Tryz.func95 rfl Tryz.ntmps95 rfl (Hp w0 [] [] []) (Hp.init _) ?_
  refine H.seq ?_
  refine H.region ?_
  refine H.q (yl_assign rfl) rfl rfl (by decide) ?_
  refine HN.done ?_
  refine HN.keep [(0, _)] ⟨rfl, trivial⟩ ?_
  refine HN.then ?_
  refine H.seq ?_
  refine H.region ?_
  refine H.buildSlice bs_kw rfl (by decide) (fun b3 hb3 => ?_)
  refine H.q (yl_move rfl) rfl rfl (by decide) ?_
  refine H.q (yl_call (xs := [.tmp 3, .tmp 4]) Tryz.call43 (stab_hp _ _ _ _) rfl (fun w hw => sContains_any kwL (.slice (some ⟨b3, 0, none⟩) 20 20) s w (by decide) (isStrs_blk rfl (hw.blk 0 rfl)))) rfl rfl (by decide) ?_
  refine H.q (yl_assign rfl) rfl rfl (by decide) ?_
  refine HN.done ?_
  refine HN.keep [(2, _)] ⟨rfl, trivial⟩ ?_
  refine HN.then ?_
  refine HR.ret ?_
  refine HR.ret1 _ Tryz.results95 rfl (fun w hw => ?_)
  exact ⟨rfl, hw.ext⟩

set_option maxRecDepth 100000 in
theorem refKeywords_any (w0 : World) : Calls Tryz.prog 103 #[] w0 fun e w' => ∃ b : Nat, e = .returned (.slice (some ⟨b, 0, none⟩) 20 20) ∧ Ext w0 w' ∧ w'.heap[b]? = some (.cells (kwL.map strV).toArray 9) := by
  refine enterA 2 Tryz.func103 rfl Tryz.ntmps103 rfl (Hp w0 [] [] []) (Hp.init _) ?_
  refine H.seq ?_
  refine H.region ?_
  refine H.q (yl_assign rfl) rfl rfl (by decide) ?_
  refine HN.done ?_
  refine HN.keep [] trivial ?_
  refine HN.then ?_
  refine H.seq ?_
  refine H.region ?_
  refine H.buildSlice bs_kw rfl (by decide) (fun b1 hb1 => ?_)
  refine H.q (yl_assign rfl) rfl rfl (by decide) ?_
  refine HN.done ?_
  refine HN.keep [(0, _)] ⟨rfl, trivial⟩ ?_
  refine HN.then ?_
  refine HR.ret ?_
  refine HR.ret1 _ Tryz.results103 rfl (fun w hw => ?_)
  exact ⟨b1, rfl, hw.ext, hw.blk 0 rfl⟩

set_option maxRecDepth 100000 in
theorem name_any (s : List UInt8) (w0 : World) (hl : s.length ≤ 4611686018427387904) : Calls Tryz.prog 69 #[strV s] w0 fun e w' => e = .returned (.bool (nameB s)) ∧ Ext w0 w' := by
  refine enterA 33 Tryz.func69 rfl Tryz.ntmps69 rfl (Hp w0 [] [] []) (Hp.init _) ?_
  refine H.seq ?_
  refine H.region ?_
  refine H.q (yl_assign rfl) rfl rfl (by decide) ?_
  refine HN.done ?_
  refine HN.keep [(0, _)] ⟨rfl, trivial⟩ ?_
  refine HN.then ?_
  refine H.seq ?_
  refine H.seq ?_
  refine H.region ?_
  refine H.q (yl_move rfl) rfl rfl (by decide) ?_
  refine H.q (yl_slenL rfl Tryz.underlying9 rfl) rfl rfl (by decide) ?_
  refine H.q (yl_eql rfl rfl) rfl rfl (by decide) ?_
  refine H.q (yl_move rfl) rfl rfl (by decide) ?_
  refine H.qg (wn_f rfl rfl (by decide) rfl) (fun hg => yl_sub [(0, _)] ⟨rfl, trivial⟩ (yl_move rfl)) rfl (by decide) ?_
  refine H.qg (wn_f rfl rfl (by decide) rfl) (fun hg => yl_sub [(8, _)] ⟨slT rfl hg, trivial⟩ (yl_slenL rfl Tryz.underlying9 rfl)) rfl (by decide) ?_
  refine H.qg (wn_f rfl rfl (by decide) rfl) (fun hg => yl_sub [(9, _)] ⟨slT rfl hg, trivial⟩ (yl_gtr rfl rfl)) rfl (by decide) ?_
  refine H.q (yl_or rfl rfl) rfl rfl (by decide) ?_
  refine H.q (yl_move rfl) rfl rfl (by decide) ?_
  refine H.qg (wn_f rfl rfl (by decide) rfl) (fun hg => yl_sub [(0, _)] ⟨rfl, trivial⟩ (yl_move rfl)) rfl (by decide) ?_
  refine H.qg (wn_f rfl rfl (by decide) rfl) (fun hg => yl_sub [(13, _)] ⟨slT rfl hg, trivial⟩ (yl_six 0 Tryz.underlying9 rfl rfl rfl (by simp only [Bool.not_eq_true', Bool.or_eq_false_iff, decide_eq_false_iff_not] at hg; omega))) rfl (by decide) ?_
  refine H.qg (wn_f rfl rfl (by decide) rfl) (fun hg => yl_sub [(14, _)] ⟨slT rfl hg, trivial⟩ (yl_call (xs := [.tmp 14]) Tryz.call94 (stab_hp _ _ _ _) rfl (fun w hw => letter_any _ w))) rfl (by decide) ?_
  refine H.qg (wn_f rfl rfl (by decide) rfl) (fun hg => yl_sub [(15, _)] ⟨slT rfl hg, trivial⟩ (yl_not rfl)) rfl (by decide) ?_
  refine H.q (yl_or rfl rfl) rfl rfl (by decide) ?_
  refine H.q (yl_move rfl) rfl rfl (by decide) ?_
  refine H.qg (wn_f rfl rfl (by decide) rfl) (fun hg => yl_sub [(0, _)] ⟨rfl, trivial⟩ (yl_move rfl)) rfl (by decide) ?_
  refine H.qg (wn_f rfl rfl (by decide) rfl) (fun hg => yl_sub [(19, _)] ⟨slT rfl hg, trivial⟩ (yl_call (xs := [.tmp 19]) Tryz.call95 (stab_hp _ _ _ _) rfl (fun w hw => keyword_any s w))) rfl (by decide) ?_
  refine H.q (yl_or rfl rfl) rfl rfl (by decide) ?_
  refine HN.done ?_
  refine HN.keep [(0, _), (21, _)] ⟨rfl, rfl, trivial⟩ ?_
  refine HN.then ?_
  refine H.cond _ rfl (fun t0 => ?_) (fun t0 => ?_)
  · refine H.keep [] trivial ?_
    refine H.seq ?_
    refine H.region ?_
    refine H.q (yl_assign rfl) rfl rfl (by decide) ?_
    refine HN.done ?_
    refine HN.keep [(2, _)] ⟨rfl, trivial⟩ ?_
    refine HN.then ?_
    refine HR.ret ?_
    refine HR.then ?_
    refine HR.ret1 _ Tryz.results69 rfl (fun w hw => ?_)
    exact ⟨by rw [nameB_front (s := s) t0], hw.ext⟩
  · refine H.keep [(0, _)] ⟨rfl, trivial⟩ ?_
    refine HN.skip ?_
    refine HN.then ?_
    refine H.seq ?_
    refine H.seq ?_
    refine H.region ?_
    refine H.q (yl_move rfl) rfl rfl (by decide) ?_
    refine H.q (yl_slenL rfl Tryz.underlying9 rfl) rfl rfl (by decide) ?_
    refine H.q (yl_move rfl) rfl rfl (by decide) ?_
    refine HN.done ?_
    refine HN.keep [(0, _), (23, _), (24, _)] ⟨rfl, rfl, rfl, trivial⟩ ?_
    refine HN.then ?_
    refine H.block ?_
    refine H.loop (fun k : Nat => [(0, strV s), (23, .int .i64 (s.length : Int)), (24, .int .i64 (k : Int))]) (fun k => k ≤ s.length ∧ ∀ j, j < k → wordB ((s.getD j 0).toNat : Int) = true) (fun _ => Hp w0 [] [] []) (fun k => s.length - k) 0 ⟨Nat.zero_le _, fun j hj => by omega⟩ ⟨rfl, rfl, rfl, trivial⟩ (fun w hw => hw) (fun k hI => ?_)
    obtain ⟨hk0, hk1⟩ := hI
    refine H.seq ?_
    refine H.region ?_
    refine H.q (yl_lss rfl rfl) rfl rfl (by decide) ?_
    refine HN.done ?_
    refine HN.keep [(0, _), (23, _), (24, _), (25, _)] ⟨rfl, rfl, rfl, rfl, trivial⟩ ?_
    refine HN.then ?_
    refine H.seq ?_
    refine H.cond _ rfl (fun t1 => ?_) (fun t1 => ?_)
    · simp only [decide_eq_true_eq] at t1; have hk : k < s.length := by omega
      refine H.keep [(0, _), (23, _), (24, _)] ⟨rfl, rfl, rfl, trivial⟩ ?_
      refine HN.skip ?_
      refine HN.then ?_
      refine H.seq ?_
      refine H.block ?_
      refine H.seq ?_
      refine H.region ?_
      refine H.q (yl_move rfl) rfl rfl (by decide) ?_
      refine H.q (yl_assign rfl) rfl rfl (by decide) ?_
      refine HN.done ?_
      refine HN.keep [(0, _), (3, _), (23, _), (24, _)] ⟨rfl, rfl, rfl, rfl, trivial⟩ ?_
      refine HN.then ?_
      refine H.seq ?_
      refine H.region ?_
      refine H.q (yl_move rfl) rfl rfl (by decide) ?_
      refine H.q (yl_move rfl) rfl rfl (by decide) ?_
      refine H.q (yl_six k Tryz.underlying9 rfl rfl rfl hk) rfl rfl (by decide) ?_
      refine H.q (yl_call (xs := [.tmp 29]) Tryz.call96 (stab_hp _ _ _ _) rfl (fun w hw => wordByte_any _ w)) rfl rfl (by decide) ?_
      refine H.q (yl_not rfl) rfl rfl (by decide) ?_
      refine HN.done ?_
      refine HN.keep [(0, _), (23, _), (24, _), (31, _)] ⟨rfl, rfl, rfl, rfl, trivial⟩ ?_
      refine HN.then ?_
      refine H.cond _ rfl (fun t2 => ?_) (fun t2 => ?_)
      · simp only [Bool.not_eq_true'] at t2
        refine H.keep [] trivial ?_
        refine H.seq ?_
        refine H.region ?_
        refine H.q (yl_assign rfl) rfl rfl (by decide) ?_
        refine HN.done ?_
        refine HN.keep [(2, _)] ⟨rfl, trivial⟩ ?_
        refine HN.then ?_
        refine HR.ret ?_
        refine HR.block ?_
        refine HR.then ?_
        refine HR.then ?_
        refine HR.block ?_
        refine HR.then ?_
        refine HR.ret1 _ Tryz.results69 rfl (fun w hw => ?_)
        exact ⟨by rw [nameB_no k hk t2], hw.ext⟩
      · simp only [Bool.not_eq_false'] at t2
        refine H.keep [(0, _), (23, _), (24, _)] ⟨rfl, rfl, rfl, trivial⟩ ?_
        refine HN.skip ?_
        refine HN.block ?_
        refine HN.then ?_
        refine H.region ?_
        refine H.q (yl_add rfl rfl _ rfl (by omega)) rfl rfl (by decide) ?_
        refine H.q (yl_move rfl) rfl rfl (by decide) ?_
        refine HN.done ?_
        refine HN.keep [(0, _), (23, _), (24, _)] ⟨rfl, rfl, rfl, trivial⟩ ?_
        refine HN.then ?_
        have hn : ∀ j, j < k + 1 → wordB ((s.getD j 0).toNat : Int) = true := fun j hj => by
          by_cases h : j < k
          · exact hk1 j h
          · obtain rfl : j = k := by omega
            exact t2
        exact H.at (k + 1) ⟨⟨by omega, hn⟩, by omega⟩ ⟨rfl, rfl, rfl, trivial⟩ (fun w hw => hw)
    · simp only [decide_eq_false_iff_not] at t1
      refine H.keep [] trivial ?_
      refine HX.exit ?_
      refine HX.then ?_
      refine HX.then ?_
      refine HX.hit ?_
      refine HN.then ?_
      refine H.seq ?_
      refine H.region ?_
      refine H.q (yl_assign rfl) rfl rfl (by decide) ?_
      refine HN.done ?_
      refine HN.keep [(2, _)] ⟨rfl, trivial⟩ ?_
      refine HN.then ?_
      refine HR.ret ?_
      refine HR.ret1 _ Tryz.results69 rfl (fun w hw => ?_)
      exact ⟨by rw [nameB_yes (s := s) t0 fun j hj => hk1 j (by omega)], hw.ext⟩

set_option maxRecDepth 100000 in
theorem refName_any (s : List UInt8) (w0 : World) (hl : s.length ≤ 4611686018427387904) : Calls Tryz.prog 71 #[strV s] w0 fun e w' => e = .returned (.bool (nameB s)) ∧ Ext w0 w' := by
  refine enterA 34 Tryz.func71 rfl Tryz.ntmps71 rfl (Hp w0 [] [] []) (Hp.init _) ?_
  refine H.seq ?_
  refine H.region ?_
  refine H.q (yl_assign rfl) rfl rfl (by decide) ?_
  refine HN.done ?_
  refine HN.keep [(0, _)] ⟨rfl, trivial⟩ ?_
  refine HN.then ?_
  refine H.seq ?_
  refine H.seq ?_
  refine H.region ?_
  refine H.q (yl_move rfl) rfl rfl (by decide) ?_
  refine H.q (yl_seqlL (l2 := []) rfl rfl) rfl rfl (by decide) ?_
  refine H.q (yl_move rfl) rfl rfl (by decide) ?_
  refine H.qg (wn_f rfl rfl (by decide) rfl) (fun hg => yl_sub [(0, _)] ⟨rfl, trivial⟩ (yl_move rfl)) rfl (by decide) ?_
  refine H.qg (wn_f rfl rfl (by decide) rfl) (fun hg => yl_sub [(7, _)] ⟨slT rfl hg, trivial⟩ (yl_slenL rfl Tryz.underlying9 rfl)) rfl (by decide) ?_
  refine H.qg (wn_f rfl rfl (by decide) rfl) (fun hg => yl_sub [(8, _)] ⟨slT rfl hg, trivial⟩ (yl_gtr rfl rfl)) rfl (by decide) ?_
  refine H.q (yl_or rfl rfl) rfl rfl (by decide) ?_
  refine H.q (yl_move rfl) rfl rfl (by decide) ?_
  refine H.qg (wn_f rfl rfl (by decide) rfl) (fun hg => yl_sub [(0, _)] ⟨rfl, trivial⟩ (yl_move rfl)) rfl (by decide) ?_
  refine H.qg (wn_f rfl rfl (by decide) rfl) (fun hg => yl_sub [(12, _)] ⟨slT rfl hg, trivial⟩ (yl_six 0 Tryz.underlying9 rfl rfl rfl (by simp only [Bool.not_eq_true', Bool.or_eq_false_iff, decide_eq_false_iff_not] at hg; exact List.length_pos_iff.2 hg.1))) rfl (by decide) ?_
  refine H.qg (wn_f rfl rfl (by decide) rfl) (fun hg => yl_sub [(13, _)] ⟨slT rfl hg, trivial⟩ (yl_call (xs := [.tmp 13]) Tryz.call101 (by first | exact stab_hp _ _ _ _ | exact stab_and (stab_hp _ _ _ _) (stab_imp fun w w' h k => blk_ext k h)) rfl (fun w hw => refSmall_any _ w))) rfl (by decide) ?_
  refine H.qg (wn_f rfl rfl (by decide) rfl) (fun hg => yl_sub [(14, _)] ⟨slT rfl hg, trivial⟩ (yl_not rfl)) rfl (by decide) ?_
  refine H.q (yl_or rfl rfl) rfl rfl (by decide) ?_
  refine H.q (yl_move rfl) rfl rfl (by decide) ?_
  refine H.callG (xs := []) 0 (fun b : Nat => .slice (some ⟨b, 0, none⟩) 20 20) (fun b w => w.heap[b]? = some (.cells (kwL.map strV).toArray 9)) (wn_f rfl rfl (by decide) rfl) Tryz.call103 rfl (stab_hp _ _ _ _) (by decide) (fun hg w hw => refKeywords_any w) (fun b18 => ?_)
  refine H.qg (wn_f rfl rfl (by decide) rfl) (fun hg => yl_sub [(0, _)] ⟨rfl, trivial⟩ (yl_move rfl)) rfl (by decide) ?_
  refine H.qg (wn_f rfl rfl (by decide) rfl) (fun hg => yl_sub [(18, _), (19, _)] ⟨slT rfl hg, slT rfl hg, trivial⟩ (yl_call (xs := [.tmp 18, .tmp 19]) Tryz.call102 (by first | exact stab_hp _ _ _ _ | exact stab_and (stab_hp _ _ _ _) (stab_imp fun w w' h k => blk_ext k h)) rfl (fun w hw => refIn_any kwL (.slice (some ⟨b18, 0, none⟩) 20 20) s w (by decide) (isStrs_blk rfl (hw.2 hg))))) rfl (by decide) ?_
  refine H.qg (wn_f rfl rfl (by decide) rfl) (fun hg => yl_sub [(20, _)] ⟨slT rfl hg, trivial⟩ (yl_geq rfl rfl)) rfl (by decide) ?_
  refine H.q (yl_or rfl rfl) rfl rfl (by decide) ?_
  refine HN.done ?_
  refine HN.keep [(0, _), (22, _)] ⟨rfl, rfl, trivial⟩ ?_
  refine HN.cls (Hp w0 [] [] []) (fun w hw => hw.1) ?_
  refine HN.then ?_
  refine H.cond _ rfl (fun t0 => ?_) (fun t0 => ?_)
  · refine H.keep [] trivial ?_
    refine H.seq ?_
    refine H.region ?_
    refine H.q (yl_assign rfl) rfl rfl (by decide) ?_
    refine HN.done ?_
    refine HN.keep [(2, _)] ⟨rfl, trivial⟩ ?_
    refine HN.then ?_
    refine HR.ret ?_
    refine HR.then ?_
    refine HR.ret1 _ Tryz.results71 rfl (fun w hw => ?_)
    exact ⟨by rw [nameB_front (s := s) (by rw [← t0, idxP_any, any_comm]; simp only [frontB, ← decide_len0]), ], hw.ext⟩
  · refine H.keep [(0, _)] ⟨rfl, trivial⟩ ?_
    refine HN.skip ?_
    refine HN.then ?_
    refine H.seq ?_
    refine H.seq ?_
    refine H.region ?_
    refine H.q (yl_assign rfl) rfl rfl (by decide) ?_
    refine HN.done ?_
    refine HN.keep [(0, _), (3, _)] ⟨rfl, rfl, trivial⟩ ?_
    refine HN.then ?_
    refine H.block ?_
    refine H.loop (fun k : Nat => [(0, strV s), (3, .int .i64 (k : Int))]) (fun k => k ≤ s.length ∧ ∀ j, j < k → wordB ((s.getD j 0).toNat : Int) = true) (fun _ => Hp w0 [] [] []) (fun k => s.length - k) 0 ⟨Nat.zero_le _, fun j hj => by omega⟩ ⟨rfl, rfl, trivial⟩ (fun w hw => hw) (fun k hI => ?_)
    obtain ⟨hk0, hk1⟩ := hI
    refine H.seq ?_
    refine H.seq ?_
    refine H.region ?_
    refine H.q (yl_move rfl) rfl rfl (by decide) ?_
    refine H.q (yl_move rfl) rfl rfl (by decide) ?_
    refine H.q (yl_slenL rfl Tryz.underlying9 rfl) rfl rfl (by decide) ?_
    refine H.q (yl_lss rfl rfl) rfl rfl (by decide) ?_
    refine HN.done ?_
    refine HN.keep [(0, _), (3, _), (26, _)] ⟨rfl, rfl, rfl, trivial⟩ ?_
    refine HN.then ?_
    refine H.cond _ rfl (fun t1 => ?_) (fun t1 => ?_)
    · simp only [decide_eq_true_eq] at t1; have hk : k < s.length := by omega
      refine H.keep [(0, _), (3, _)] ⟨rfl, rfl, trivial⟩ ?_
      refine HN.skip ?_
      refine HN.then ?_
      refine H.seq ?_
      refine H.block ?_
      refine H.seq ?_
      refine H.region ?_
      refine H.q (yl_move rfl) rfl rfl (by decide) ?_
      refine H.q (yl_move rfl) rfl rfl (by decide) ?_
      refine H.q (yl_six k Tryz.underlying9 rfl rfl rfl hk) rfl rfl (by decide) ?_
      refine H.q (yl_call (xs := [.tmp 31]) Tryz.call104 (by first | exact stab_hp _ _ _ _ | exact stab_and (stab_hp _ _ _ _) (stab_imp fun w w' h k => blk_ext k h)) rfl (fun w hw => refPart_any _ w)) rfl rfl (by decide) ?_
      refine H.q (yl_not rfl) rfl rfl (by decide) ?_
      refine HN.done ?_
      refine HN.keep [(0, _), (3, _), (33, _)] ⟨rfl, rfl, rfl, trivial⟩ ?_
      refine HN.then ?_
      refine H.cond _ rfl (fun t2 => ?_) (fun t2 => ?_)
      · simp only [Bool.not_eq_true'] at t2
        refine H.keep [] trivial ?_
        refine H.seq ?_
        refine H.region ?_
        refine H.q (yl_assign rfl) rfl rfl (by decide) ?_
        refine HN.done ?_
        refine HN.keep [(2, _)] ⟨rfl, trivial⟩ ?_
        refine HN.then ?_
        refine HR.ret ?_
        refine HR.block ?_
        refine HR.then ?_
        refine HR.then ?_
        refine HR.block ?_
        refine HR.then ?_
        refine HR.ret1 _ Tryz.results71 rfl (fun w hw => ?_)
        exact ⟨by rw [nameB_no k hk t2], hw.ext⟩
      · simp only [Bool.not_eq_false'] at t2
        refine H.keep [(0, _), (3, _)] ⟨rfl, rfl, trivial⟩ ?_
        refine HN.skip ?_
        refine HN.block ?_
        refine HN.then ?_
        refine H.region ?_
        refine H.q (yl_move rfl) rfl rfl (by decide) ?_
        refine H.q (yl_add rfl rfl _ rfl (by omega)) rfl rfl (by decide) ?_
        refine H.q (yl_assign rfl) rfl rfl (by decide) ?_
        refine HN.done ?_
        refine HN.keep [(0, _), (3, _)] ⟨rfl, rfl, trivial⟩ ?_
        refine HN.then ?_
        have hn : ∀ j, j < k + 1 → wordB ((s.getD j 0).toNat : Int) = true := fun j hj => by
          by_cases h : j < k
          · exact hk1 j h
          · obtain rfl : j = k := by omega
            exact t2
        exact H.at (k + 1) ⟨⟨by omega, hn⟩, by omega⟩ ⟨rfl, rfl, trivial⟩ (fun w hw => hw)
    · simp only [decide_eq_false_iff_not] at t1
      refine H.keep [] trivial ?_
      refine HX.exit ?_
      refine HX.then ?_
      refine HX.then ?_
      refine HX.hit ?_
      refine HN.then ?_
      refine H.seq ?_
      refine H.region ?_
      refine H.q (yl_assign rfl) rfl rfl (by decide) ?_
      refine HN.done ?_
      refine HN.keep [(2, _)] ⟨rfl, trivial⟩ ?_
      refine HN.then ?_
      refine HR.ret ?_
      refine HR.ret1 _ Tryz.results71 rfl (fun w hw => ?_)
      exact ⟨by rw [nameB_yes (s := s) (by rw [← t0, idxP_any, any_comm]; simp only [frontB, ← decide_len0]) fun j hj => hk1 j (by omega)], hw.ext⟩

end Go.Proofs.YtgbgddmbooaddaaGreatDoor

namespace Go.Proofs.YtgbgddmbooaddaaGreatDoor
open Go.RowKit


theorem take_len {α : Type} {l : List α} {k : Nat} (h : k < l.length) : l.take (k + 1) = l.take k ++ [l[k]] := List.take_succ_eq_append_getElem h
theorem mget_seen (l : List (List UInt8)) (s : List UInt8) : ((mget (l.map fun s => (s, true)) s).elim (.bool false) (Value.bool ·)) = .bool (l.any fun y => decide (y = s)) := by
  induction l with
  | nil => rfl
  | cons a l ih =>
    by_cases h : a = s
    · simp [mget, h]
    · simp only [List.map_cons, mget, List.any_cons, h, decide_false, Bool.false_or, List.find?_cons]
      exact ih
theorem mput_new (l : List (List UInt8)) (s : List UInt8) (h : (l.any fun y => decide (y = s)) = false) : mput (l.map fun s => (s, true)) s true = (l ++ [s]).map fun s => (s, true) := by
  have : ((l.map fun s => (s, true)).any fun p => decide (p.1 = s)) = false := by rw [List.any_map]; exact h
  simp [mput, this]

set_option maxRecDepth 100000 in
theorem named_any (l : List (List UInt8)) (sv : Value) (w0 : World) (hl : l.length ≤ 4611686018427387904) (hls : ∀ s ∈ l, s.length ≤ 1000) (hv : IsStrs w0 sv l) : Calls Tryz.prog 36 #[sv] w0 fun e w' => e = .returned (.int .i64 (namedE l)) ∧ Ext w0 w' := by
  obtain ⟨ad, cap, b, o, rfl, hcap, hs⟩ := sl_open strV hv
  refine enterA 24 Tryz.func36 rfl Tryz.ntmps36 rfl (Hp w0 [] [] []) (Hp.init _) ?_
  refine H.seq ?_
  refine H.region ?_
  refine H.q (yl_assign rfl) rfl rfl (by decide) ?_
  refine HN.done ?_
  refine HN.keep [(0, _)] ⟨rfl, trivial⟩ ?_
  refine HN.then ?_
  refine H.seq ?_
  refine H.region ?_
  refine H.makeMap strV (Value.bool ·) (by decide) (fun b6 hb6 => ?_)
  refine H.q (yl_assign rfl) rfl rfl (by decide) ?_
  refine HN.done ?_
  refine HN.keep [(0, _), (3, _)] ⟨rfl, rfl, trivial⟩ ?_
  refine HN.then ?_
  refine H.seq ?_
  refine H.seq ?_
  refine H.region ?_
  refine H.q (yl_move rfl) rfl rfl (by decide) ?_
  refine H.q (yl_len rfl Tryz.underlying26 rfl) rfl rfl (by decide) ?_
  refine H.q (yl_move rfl) rfl rfl (by decide) ?_
  refine HN.done ?_
  refine HN.keep [(3, _), (7, _), (8, _), (9, _)] ⟨rfl, rfl, rfl, rfl, trivial⟩ ?_
  refine HN.then ?_
  refine H.block ?_
  refine H.loop (fun k : Nat => [(3, .map (some b6)), (7, .slice ad l.length cap), (8, .int .i64 (l.length : Int)), (9, .int .i64 (k : Int))]) (fun k => k ≤ l.length ∧ (∀ j (hj : j < k) (hj2 : j < l.length), nameB l[j] = true) ∧ ∀ i j (hij : i < j) (hj : j < k) (hj2 : j < l.length), l[i] ≠ l[j]) (fun k => Hp w0 [(b6, IsMap strV (Value.bool ·) ((l.take k).map fun s => (s, true)))] [] []) (fun k => l.length - k) 0 ⟨Nat.zero_le _, fun j hj => by omega, fun i j _ hj => by omega⟩ ⟨rfl, rfl, rfl, rfl, trivial⟩ (fun w hw => hw) (fun k hI => ?_)
  obtain ⟨hk0, hk1, hk2⟩ := hI
  refine H.seq ?_
  refine H.region ?_
  refine H.q (yl_lss rfl rfl) rfl rfl (by decide) ?_
  refine HN.done ?_
  refine HN.keep [(3, _), (7, _), (8, _), (9, _), (10, _)] ⟨rfl, rfl, rfl, rfl, rfl, trivial⟩ ?_
  refine HN.then ?_
  refine H.seq ?_
  refine H.cond _ rfl (fun t0 => ?_) (fun t0 => ?_)
  · simp only [decide_eq_true_eq] at t0; have hk : k < l.length := by omega
    have hln : l[k].length ≤ 1000 := hls _ (List.getElem_mem hk)
    have hD : ∀ p ∈ (l.take k).map (fun s => (s, true)), ∃ t : List UInt8, strV p.1 = strV t ∧ t.length ≤ 1000 := fun p hp => by
      obtain ⟨s, hs, rfl⟩ := List.mem_map.1 hp
      exact ⟨s, rfl, hls s (List.mem_of_mem_take hs)⟩
    have hDk : ∃ t : List UInt8, strV l[k] = strV t ∧ t.length ≤ 1000 := ⟨_, rfl, hln⟩
    refine H.keep [(3, _), (7, _), (8, _), (9, _)] ⟨rfl, rfl, rfl, rfl, trivial⟩ ?_
    refine HN.skip ?_
    refine HN.then ?_
    refine H.seq ?_
    refine H.block ?_
    refine H.seq ?_
    refine H.region ?_
    refine H.q (yl_ix k Tryz.underlying26 Tryz.sizeOf9 (hs k hk).1 rfl rfl rfl hk) rfl rfl (by decide) ?_
    refine H.q (yl_load Tryz.isAgg9 rfl (fun w hw => cell_ext hw.ext (hs k hk).2)) rfl rfl (by decide) ?_
    refine H.q (yl_assign rfl) rfl rfl (by decide) ?_
    refine HN.done ?_
    refine HN.keep [(3, _), (5, _), (7, _), (8, _), (9, _)] ⟨rfl, rfl, rfl, rfl, rfl, trivial⟩ ?_
    refine HN.then ?_
    refine H.seq ?_
    refine H.seq ?_
    refine H.region ?_
    refine H.q (yl_move rfl) rfl rfl (by decide) ?_
    refine H.q (yl_call (xs := [.tmp 13]) Tryz.call69 (stab_hp _ _ _ _) rfl (fun w hw => name_any _ w (by omega))) rfl rfl (by decide) ?_
    refine H.q (yl_not rfl) rfl rfl (by decide) ?_
    refine H.q (yl_move rfl) rfl rfl (by decide) ?_
    refine H.qg (wn_f rfl rfl (by decide) rfl) (fun hg => yl_sub [(3, _)] ⟨rfl, trivial⟩ (yl_move rfl)) rfl (by decide) ?_
    refine H.qg (wn_f rfl rfl (by decide) rfl) (fun hg => yl_sub [(5, _)] ⟨rfl, trivial⟩ (yl_move rfl)) rfl (by decide) ?_
    refine H.qg (wn_f rfl rfl (by decide) rfl) (fun hg => yl_sub [(17, _), (18, _)] ⟨slT rfl hg, slT rfl hg, trivial⟩ (yl_to (yl_lookup (ve := (Value.bool ·)) 0 l[k] Tryz.keyed9 Tryz.underlying117 Tryz.zeroValue4 strV_inj hD hDk rfl rfl rfl) (mget_seen _ _))) rfl (by decide) ?_
    refine H.q (yl_or rfl rfl) rfl rfl (by decide) ?_
    refine HN.done ?_
    refine HN.keep [(3, _), (5, _), (7, _), (8, _), (9, _), (20, _)] ⟨rfl, rfl, rfl, rfl, rfl, rfl, trivial⟩ ?_
    refine HN.then ?_
    refine H.cond _ rfl (fun t1 => ?_) (fun t1 => ?_)
    · have hbad : namedE l = 1 := by
        rcases Bool.or_eq_true_iff.1 t1 with h | h
        · exact namedE_bad k hk (by simpa using h)
        · obtain ⟨y, hy, hyk⟩ := List.any_eq_true.1 h
          obtain ⟨j, hj, rfl⟩ := List.getElem_of_mem hy
          simp only [List.length_take] at hj
          simp only [decide_eq_true_eq, List.getElem_take] at hyk
          exact namedE_twice j k (by omega) hk hyk
      refine H.keep [] trivial ?_
      refine H.seq ?_
      refine H.region ?_
      refine H.q (yl_assign rfl) rfl rfl (by decide) ?_
      refine HN.done ?_
      refine HN.keep [(2, _)] ⟨rfl, trivial⟩ ?_
      refine HN.then ?_
      refine HR.ret ?_
      refine HR.then ?_
      refine HR.block ?_
      refine HR.then ?_
      refine HR.then ?_
      refine HR.block ?_
      refine HR.then ?_
      refine HR.ret1 _ Tryz.results36 rfl (fun w hw => ?_)
      exact ⟨by rw [hbad], hw.ext⟩
    · obtain ⟨h1, h2⟩ := Bool.or_eq_false_iff.1 t1
      simp only [Bool.not_eq_false'] at h1
      refine H.keep [(3, _), (5, _), (7, _), (8, _), (9, _)] ⟨rfl, rfl, rfl, rfl, rfl, trivial⟩ ?_
      refine HN.skip ?_
      refine HN.then ?_
      refine H.region ?_
      refine H.q (yl_move rfl) rfl rfl (by decide) ?_
      refine H.q (yl_move rfl) rfl rfl (by decide) ?_
      refine H.mapUpdate (ve := (Value.bool ·)) 0 l[k] true Tryz.keyed9 Tryz.underlying117 strV_inj hD hDk rfl rfl rfl rfl ?_
      refine HN.done ?_
      refine HN.keep [(3, _), (7, _), (8, _), (9, _)] ⟨rfl, rfl, rfl, rfl, trivial⟩ ?_
      refine HN.block ?_
      refine HN.then ?_
      refine H.region ?_
      refine H.q (yl_add rfl rfl _ rfl (by omega)) rfl rfl (by decide) ?_
      refine H.q (yl_move rfl) rfl rfl (by decide) ?_
      refine HN.done ?_
      refine HN.keep [(3, _), (7, _), (8, _), (9, _)] ⟨rfl, rfl, rfl, rfl, trivial⟩ ?_
      refine HN.then ?_
      have hn : ∀ j (hj : j < k + 1) (hj2 : j < l.length), nameB l[j] = true := fun j hj hj2 => by
        by_cases h : j < k
        · exact hk1 j h hj2
        · obtain rfl : j = k := by omega
          exact h1
      have hn2 : ∀ i j (hij : i < j) (hj : j < k + 1) (hj2 : j < l.length), l[i] ≠ l[j] := fun i j hij hj hj2 => by
        by_cases h : j < k
        · exact hk2 i j hij h hj2
        · obtain rfl : j = k := by omega
          have := List.any_eq_false.1 h2 l[i] (List.mem_iff_getElem.2 ⟨i, by simp; omega, by simp⟩)
          simpa using this
      refine H.at (k + 1) ⟨⟨by omega, hn, hn2⟩, by omega⟩ ⟨rfl, rfl, rfl, rfl, trivial⟩ (fun w hw => ?_)
      rw [take_len hk, ← mput_new _ _ h2]
      exact hw
  · simp only [decide_eq_false_iff_not] at t0
    refine H.keep [] trivial ?_
    refine HX.exit ?_
    refine HX.then ?_
    refine HX.then ?_
    refine HX.hit ?_
    refine HN.then ?_
    refine H.seq ?_
    refine H.region ?_
    refine H.q (yl_assign rfl) rfl rfl (by decide) ?_
    refine HN.done ?_
    refine HN.keep [(2, _)] ⟨rfl, trivial⟩ ?_
    refine HN.then ?_
    refine HR.ret ?_
    refine HR.ret1 _ Tryz.results36 rfl (fun w hw => ?_)
    exact ⟨by rw [namedE_good (fun j hj => hk1 j (by omega) hj) fun i j hij hj => hk2 i j hij (by omega) hj], hw.ext⟩

set_option maxRecDepth 100000 in
theorem refNamed_any (l : List (List UInt8)) (sv : Value) (w0 : World) (hl : l.length ≤ 4611686018427387904) (hls : ∀ s ∈ l, s.length ≤ 1000) (hv : IsStrs w0 sv l) : Calls Tryz.prog 40 #[sv] w0 fun e w' => e = .returned (.int .i64 (namedE l)) ∧ Ext w0 w' := by
  obtain ⟨ad, cap, b, o, rfl, hcap, hs⟩ := sl_open strV hv
  refine enterA 31 Tryz.func40 rfl Tryz.ntmps40 rfl (Hp w0 [] [] []) (Hp.init _) ?_
  refine H.seq ?_
  refine H.region ?_
  refine H.q (yl_assign rfl) rfl rfl (by decide) ?_
  refine HN.done ?_
  refine HN.keep [(0, _)] ⟨rfl, trivial⟩ ?_
  refine HN.then ?_
  refine H.seq ?_
  refine H.seq ?_
  refine H.region ?_
  refine H.q (yl_assign rfl) rfl rfl (by decide) ?_
  refine HN.done ?_
  refine HN.keep [(0, _), (3, _)] ⟨rfl, rfl, trivial⟩ ?_
  refine HN.then ?_
  refine H.block ?_
  refine H.loop (fun k : Nat => [(0, .slice ad l.length cap), (3, .int .i64 (k : Int))]) (fun k => k ≤ l.length ∧ (∀ j (hj : j < k) (hj2 : j < l.length), nameB l[j] = true) ∧ ∀ i j (hij : i < j) (hj : j < k) (hj2 : j < l.length), l[i] ≠ l[j]) (fun k => Hp w0 [] [] []) (fun k => l.length - k) 0 ⟨Nat.zero_le _, fun j hj => by omega, fun i j _ hj => by omega⟩ ⟨rfl, rfl, trivial⟩ (fun w hw => hw) (fun k hI => ?_)
  obtain ⟨hk0, hk1, hk2⟩ := hI
  refine H.seq ?_
  refine H.seq ?_
  refine H.region ?_
  refine H.q (yl_move rfl) rfl rfl (by decide) ?_
  refine H.q (yl_move rfl) rfl rfl (by decide) ?_
  refine H.q (yl_len rfl Tryz.underlying26 rfl) rfl rfl (by decide) ?_
  refine H.q (yl_lss rfl rfl) rfl rfl (by decide) ?_
  refine HN.done ?_
  refine HN.keep [(0, _), (3, _), (8, _)] ⟨rfl, rfl, rfl, trivial⟩ ?_
  refine HN.then ?_
  refine H.cond _ rfl (fun t0 => ?_) (fun t0 => ?_)
  · simp only [decide_eq_true_eq] at t0; have hk : k < l.length := by omega
    have hln : l[k].length ≤ 1000 := hls _ (List.getElem_mem hk)
    refine H.keep [(0, _), (3, _)] ⟨rfl, rfl, trivial⟩ ?_
    refine HN.skip ?_
    refine HN.then ?_
    refine H.seq ?_
    refine H.block ?_
    refine H.seq ?_
    refine H.seq ?_
    refine H.region ?_
    refine H.q (yl_move rfl) rfl rfl (by decide) ?_
    refine H.q (yl_move rfl) rfl rfl (by decide) ?_
    refine H.q (yl_ix k Tryz.underlying26 Tryz.sizeOf9 (hs k hk).1 rfl rfl rfl hk) rfl rfl (by decide) ?_
    refine H.q (yl_load Tryz.isAgg9 rfl (fun w hw => cell_ext hw.ext (hs k hk).2)) rfl rfl (by decide) ?_
    refine H.q (yl_call (xs := [.tmp 14]) Tryz.call71 (stab_hp _ _ _ _) rfl (fun w hw => refName_any _ w (by omega))) rfl rfl (by decide) ?_
    refine H.q (yl_not rfl) rfl rfl (by decide) ?_
    refine HN.done ?_
    refine HN.keep [(0, _), (3, _), (16, _)] ⟨rfl, rfl, rfl, trivial⟩ ?_
    refine HN.then ?_
    refine H.cond _ rfl (fun t1 => ?_) (fun t1 => ?_)
    · simp only [Bool.not_eq_true'] at t1
      refine H.keep [] trivial ?_
      refine H.seq ?_
      refine H.region ?_
      refine H.q (yl_assign rfl) rfl rfl (by decide) ?_
      refine HN.done ?_
      refine HN.keep [(2, _)] ⟨rfl, trivial⟩ ?_
      refine HN.then ?_
      refine HR.ret ?_
      refine HR.then ?_
      refine HR.block ?_
      refine HR.then ?_
      refine HR.then ?_
      refine HR.block ?_
      refine HR.then ?_
      refine HR.ret1 _ Tryz.results40 rfl (fun w hw => ?_)
      exact ⟨by rw [namedE_bad k hk t1], hw.ext⟩
    · simp only [Bool.not_eq_false'] at t1
      refine H.keep [(0, _), (3, _)] ⟨rfl, rfl, trivial⟩ ?_
      refine HN.skip ?_
      refine HN.then ?_
      refine H.seq ?_
      refine H.region ?_
      refine H.q (yl_assign rfl) rfl rfl (by decide) ?_
      refine HN.done ?_
      refine HN.keep [(0, _), (3, _), (4, _)] ⟨rfl, rfl, rfl, trivial⟩ ?_
      refine HN.then ?_
      refine H.block ?_
      refine H.loop (fun j : Nat => [(0, .slice ad l.length cap), (3, .int .i64 (k : Int)), (4, .int .i64 (j : Int))]) (fun j => j ≤ k ∧ ∀ i (hi : i < j) (hi2 : i < l.length), l[i] ≠ l[k]) (fun _ => Hp w0 [] [] []) (fun j => k - j) 0 ⟨Nat.zero_le _, fun j hj => by omega⟩ ⟨rfl, rfl, rfl, trivial⟩ (fun w hw => hw) (fun j hI => ?_)
      obtain ⟨hj0, hj1⟩ := hI
      refine H.seq ?_
      refine H.seq ?_
      refine H.region ?_
      refine H.q (yl_move rfl) rfl rfl (by decide) ?_
      refine H.q (yl_move rfl) rfl rfl (by decide) ?_
      refine H.q (yl_lss rfl rfl) rfl rfl (by decide) ?_
      refine HN.done ?_
      refine HN.keep [(0, _), (3, _), (4, _), (19, _)] ⟨rfl, rfl, rfl, rfl, trivial⟩ ?_
      refine HN.then ?_
      refine H.cond _ rfl (fun t2 => ?_) (fun t2 => ?_)
      · simp only [decide_eq_true_eq] at t2; have hj : j < k := by omega
        refine H.keep [(0, _), (3, _), (4, _)] ⟨rfl, rfl, rfl, trivial⟩ ?_
        refine HN.skip ?_
        refine HN.then ?_
        refine H.seq ?_
        refine H.block ?_
        refine H.seq ?_
        refine H.regionQ Tryz.mixed (by kernel_rfl) (stab_hp _ _ _ _) ?_
        refine G.q (yl_move rfl) rfl rfl (by decide) ?_
        refine G.q (yl_move rfl) rfl rfl (by decide) ?_
        refine G.q (yl_ix j Tryz.underlying26 Tryz.sizeOf9 (hs j (by omega)).1 rfl rfl rfl (by omega)) rfl rfl (by decide) ?_
        refine G.q (yl_load Tryz.isAgg9 rfl (fun w hw => cell_ext hw.ext (hs j (by omega)).2)) rfl rfl (by decide) ?_
        refine G.q (yl_move rfl) rfl rfl (by decide) ?_
        refine G.q (yl_move rfl) rfl rfl (by decide) ?_
        refine G.q (yl_ix k Tryz.underlying26 Tryz.sizeOf9 (hs k hk).1 rfl rfl rfl hk) rfl rfl (by decide) ?_
        refine G.q (yl_load Tryz.isAgg9 rfl (fun w hw => cell_ext hw.ext (hs k hk).2)) rfl rfl (by decide) ?_
        refine G.q (yl_seqlL rfl rfl) rfl rfl (by decide) ?_
        refine HN.doneG ?_
        refine HN.keep [(0, _), (3, _), (4, _), (30, _)] ⟨rfl, rfl, rfl, rfl, trivial⟩ ?_
        refine HN.then ?_
        refine H.cond _ rfl (fun t3 => ?_) (fun t3 => ?_)
        · simp only [decide_eq_true_eq] at t3
          refine H.keep [] trivial ?_
          refine H.seq ?_
          refine H.region ?_
          refine H.q (yl_assign rfl) rfl rfl (by decide) ?_
          refine HN.done ?_
          refine HN.keep [(2, _)] ⟨rfl, trivial⟩ ?_
          refine HN.then ?_
          refine HR.ret ?_
          refine HR.block ?_
          refine HR.then ?_
          refine HR.then ?_
          refine HR.block ?_
          refine HR.block ?_
          refine HR.then ?_
          refine HR.then ?_
          refine HR.block ?_
          refine HR.then ?_
          refine HR.ret1 _ Tryz.results40 rfl (fun w hw => ?_)
          exact ⟨by rw [namedE_twice j k hj hk t3], hw.ext⟩
        · simp only [decide_eq_false_iff_not] at t3
          refine H.keep [(0, _), (3, _), (4, _)] ⟨rfl, rfl, rfl, trivial⟩ ?_
          refine HN.skip ?_
          refine HN.block ?_
          refine HN.then ?_
          refine H.region ?_
          refine H.q (yl_move rfl) rfl rfl (by decide) ?_
          refine H.q (yl_add rfl rfl _ rfl (by omega)) rfl rfl (by decide) ?_
          refine H.q (yl_assign rfl) rfl rfl (by decide) ?_
          refine HN.done ?_
          refine HN.keep [(0, _), (3, _), (4, _)] ⟨rfl, rfl, rfl, trivial⟩ ?_
          refine HN.then ?_
          have hn : ∀ i (hi : i < j + 1) (hi2 : i < l.length), l[i] ≠ l[k] := fun i hi hi2 => by
            by_cases h : i < j
            · exact hj1 i h hi2
            · obtain rfl : i = j := by omega
              exact t3
          exact H.at (j + 1) ⟨⟨by omega, hn⟩, by omega⟩ ⟨rfl, rfl, rfl, trivial⟩ (fun w hw => hw)
      · simp only [decide_eq_false_iff_not] at t2
        refine H.keep [(0, _), (3, _)] ⟨rfl, rfl, trivial⟩ ?_
        refine HX.exit ?_
        refine HX.then ?_
        refine HX.then ?_
        refine HX.hit ?_
        refine HN.block ?_
        refine HN.then ?_
        refine H.region ?_
        refine H.q (yl_move rfl) rfl rfl (by decide) ?_
        refine H.q (yl_add rfl rfl _ rfl (by omega)) rfl rfl (by decide) ?_
        refine H.q (yl_assign rfl) rfl rfl (by decide) ?_
        refine HN.done ?_
        refine HN.keep [(0, _), (3, _)] ⟨rfl, rfl, trivial⟩ ?_
        refine HN.then ?_
        have hn : ∀ j (hj : j < k + 1) (hj2 : j < l.length), nameB l[j] = true := fun j hj hj2 => by
          by_cases h : j < k
          · exact hk1 j h hj2
          · obtain rfl : j = k := by omega
            exact t1
        have hn2 : ∀ i m (hij : i < m) (hj : m < k + 1) (hj2 : m < l.length), l[i] ≠ l[m] := fun i m hij hj hj2 => by
          by_cases h : m < k
          · exact hk2 i m hij h hj2
          · obtain rfl : m = k := by omega
            exact hj1 i (by omega) (by omega)
        exact H.at (k + 1) ⟨⟨by omega, hn, hn2⟩, by omega⟩ ⟨rfl, rfl, trivial⟩ (fun w hw => hw)
  · simp only [decide_eq_false_iff_not] at t0
    refine H.keep [] trivial ?_
    refine HX.exit ?_
    refine HX.then ?_
    refine HX.then ?_
    refine HX.hit ?_
    refine HN.then ?_
    refine H.seq ?_
    refine H.region ?_
    refine H.q (yl_assign rfl) rfl rfl (by decide) ?_
    refine HN.done ?_
    refine HN.keep [(2, _)] ⟨rfl, trivial⟩ ?_
    refine HN.then ?_
    refine HR.ret ?_
    refine HR.ret1 _ Tryz.results40 rfl (fun w hw => ?_)
    exact ⟨by rw [namedE_good (fun j hj => hk1 j (by omega) hj) fun i j hij hj => hk2 i j hij (by omega) hj], hw.ext⟩

end Go.Proofs.YtgbgddmbooaddaaGreatDoor
