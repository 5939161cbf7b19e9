/-
  Common ground of the proofs over this seat, part 6: Walks: LearnClaims.
-/
import Derived.Test.YtgbgddmbooaddaaGreatDoorBaseE
namespace Go.Proofs.YtgbgddmbooaddaaGreatDoor
open Go.RowKit


theorem yl_bneq {P : Program} {C : World → Prop} {n : Nat} {e : Env} {d : Option Tmp} {t : TypeId} {p : String} {af : Array Edge} {g : Option (Nat × Bool)} {x y : Operand} {a b : Bool} {tx ty : TypeId} (hu : P.underlying tx = some .bool) (hx : eev e x = some (.bool a)) (hy : eev e y = some (.bool b)) : Yl P C n e ⟨d, .binOp .neq tx x y ty, t, p, af, g⟩ (.bool (a != b)) :=
  Yl.val fun ac w hf _ => by
    have e1 : ∀ k : Nat, (Op.equalIn (k + 1) tx (.bool a) (.bool b)).run P w = .ok (a == b) w := fun k => by simp [Op.equalIn, run_underlying hu]
    have f1 : (binOp .neq tx (.bool a) (.bool b)).run P w = .ok (.bool (!(a == b))) w := by
      simp only [binOp]
      simp [Op.equal, Op.maxDepth, e1 9999]
    simp only [execOp, hf.ev hx, hf.ev hy]
    simp [eqGuard, f1, bne]

set_option maxRecDepth 100000 in
theorem lclaims_any (l : List (Value × Inv)) (lv : Value) (rows : List (Value × List Int)) (rv : Value) (vars : Int) (w0 : World) (hvars : Vars w0) (hlv : IsClaims w0 lv l) (hrv : IsRows w0 rv rows) : Calls Tryz.prog 8 #[lv, rv, .int .i64 vars] w0 fun e w' => e = .returned (.bool true) ∧ Ext w0 w' := by
  obtain ⟨ad, cap, b, o, rfl, hcap, hs⟩ := claims_open hlv
  obtain ⟨adr, capr, br, orr, rfl, hcapr, hsr⟩ := rows_open hrv
  refine enterA 110 Tryz.func8 rfl Tryz.ntmps8 rfl (Hp w0 [] [] []) (Hp.init _) ?_
  refine H.seq ?_
  refine H.region ?_
  refine H.q (yl_assign rfl) rfl rfl (by decide) ?_
  refine HN.done ?_
  refine HN.keep [(0, _), (1, _), (2, _)] ⟨rfl, rfl, rfl, trivial⟩ ?_
  refine HN.then ?_
  refine H.seq ?_
  refine H.seq ?_
  refine H.region ?_
  refine H.q (yl_move rfl) rfl rfl (by decide) ?_
  refine H.q (yl_move rfl) rfl rfl (by decide) ?_
  refine H.q (yl_call (xs := [.tmp 19, .tmp 20, .const (.slice none 0 0)]) Tryz.call10 (stab_hp _ _ _ _) rfl (fun w hw => wide_any l (.slice ad l.length cap) rows (.slice adr rows.length capr) [] (.slice none 0 0) w (hlv.ext hw.ext) (hrv.ext hw.ext) (strs_nil w))) rfl rfl (by decide) ?_
  refine HN.done ?_
  refine HN.keep [(0, _), (1, _), (2, _), (21, _)] ⟨rfl, rfl, rfl, rfl, trivial⟩ ?_
  refine HN.then ?_
  refine H.cond _ rfl (fun t0 => ?_) (fun t0 => ?_)
  · refine H.keep [] trivial ?_
    refine H.seq ?_
    refine H.region ?_
    refine H.q (yl_call (xs := []) Tryz.call11 (stab_hp _ _ _ _) rfl (fun w hw => learns_any w (hvars.ext hw.ext))) rfl rfl (by decide) ?_
    refine H.q (yl_assign rfl) rfl rfl (by decide) ?_
    refine HN.done ?_
    refine HN.keep [(6, _)] ⟨rfl, trivial⟩ ?_
    refine HN.then ?_
    refine HR.ret ?_
    refine HR.then ?_
    refine HR.ret1 _ Tryz.results8 rfl (fun w hw => ?_)
    exact ⟨rfl, hw.ext⟩
  · have hw0 : wideB (l.map (·.2)) (rows.map (·.2)) [] = false := t0
    have hll := (wide_sets hw0).1
    have hrl := (wide_rows hw0).1
    rw [List.length_map] at hll hrl
    refine H.keep [(0, _), (1, _), (2, _)] ⟨rfl, rfl, rfl, trivial⟩ ?_
    refine HN.skip ?_
    refine HN.then ?_
    refine H.seq ?_
    refine H.seq ?_
    refine H.region ?_
    refine H.q (yl_assign rfl) rfl rfl (by decide) ?_
    refine HN.done ?_
    refine HN.keep [(0, _), (1, _), (2, _), (7, _)] ⟨rfl, rfl, rfl, rfl, trivial⟩ ?_
    refine HN.then ?_
    refine H.block ?_
    refine H.loop (fun i : Nat => [(0, .slice ad l.length cap), (1, .slice adr rows.length capr), (2, .int .i64 vars), (7, .int .i64 (i : Int))]) (fun i => i ≤ l.length) (fun _ => Hp w0 [] [] []) (fun i => l.length - i) 0 (Nat.zero_le _) ⟨rfl, rfl, rfl, rfl, trivial⟩ (fun w hw => hw) (fun i hI => ?_)
    refine H.seq ?_
    refine H.seq ?_
    refine H.region ?_
    refine H.q (yl_move rfl) rfl rfl (by decide) ?_
    refine H.q (yl_move rfl) rfl rfl (by decide) ?_
    refine H.q (yl_len rfl Tryz.underlying28 rfl) rfl rfl (by decide) ?_
    refine H.q (yl_lss rfl rfl) rfl rfl (by decide) ?_
    refine HN.done ?_
    refine HN.keep [(0, _), (1, _), (2, _), (7, _), (26, _)] ⟨rfl, rfl, rfl, rfl, rfl, trivial⟩ ?_
    refine HN.then ?_
    refine H.cond _ rfl (fun t1 => ?_) (fun t1 => ?_)
    · replace t1 := of_decide_eq_true t1
      have hlt : i < l.length := by omega
      refine H.keep [(0, _), (1, _), (2, _), (7, _)] ⟨rfl, rfl, rfl, rfl, trivial⟩ ?_
      refine HN.skip ?_
      refine HN.then ?_
      refine H.seq ?_
      refine H.block ?_
      refine H.seq ?_
      refine H.seq ?_
      refine H.regionQ Tryz.mixed (by kernel_rfl) (stab_hp _ _ _ _) ?_
      refine G.q (yl_move rfl) rfl rfl (by decide) ?_
      refine G.q (yl_move rfl) rfl rfl (by decide) ?_
      refine G.q (yl_index' i 6 Tryz.underlying28 Tryz.sizeOf25 (hs i hlt).1 rfl rfl rfl hlt) rfl rfl (by decide) ?_
      refine G.q (yl_loadAgg (cellsI l[i]) Tryz.isAgg25 Tryz.sizeOf25 rfl (fun w hw => cells_ext hw.ext (hs i hlt).2.1) rfl) rfl rfl (by decide) ?_
      refine G.q (yl_move rfl) rfl rfl (by decide) ?_
      refine G.q (yl_call (xs := [.tmp 32, .tmp 33]) Tryz.call28 (stab_hp _ _ _ _) rfl (fun w hw => check_any vars l[i].2 l[i].1 w (by have := (wide_sets hw0).2 l[i].2 (List.mem_map.2 ⟨l[i], List.getElem_mem hlt, rfl⟩); omega) ((hs i hlt).2.2.ext hw.ext))) rfl rfl (by decide) ?_
      refine G.q (yl_move rfl) rfl rfl (by decide) ?_
      refine G.q (yl_move rfl) rfl rfl (by decide) ?_
      refine G.q (yl_index' i 6 Tryz.underlying28 Tryz.sizeOf25 (hs i hlt).1 rfl rfl rfl hlt) rfl rfl (by decide) ?_
      refine G.q (yl_loadAgg (cellsI l[i]) Tryz.isAgg25 Tryz.sizeOf25 rfl (fun w hw => cells_ext hw.ext (hs i hlt).2.1) rfl) rfl rfl (by decide) ?_
      refine G.q (yl_move rfl) rfl rfl (by decide) ?_
      refine G.q (yl_call (xs := [.tmp 38, .tmp 39]) Tryz.call30 (stab_hp _ _ _ _) rfl (fun w hw => refCheck_any vars l[i].2 l[i].1 w (by have := (wide_sets hw0).2 l[i].2 (List.mem_map.2 ⟨l[i], List.getElem_mem hlt, rfl⟩); omega) ((hs i hlt).2.2.ext hw.ext))) rfl rfl (by decide) ?_
      refine G.q (yl_neq rfl rfl) rfl rfl (by decide) ?_
      refine HN.doneG ?_
      refine HN.keep [(0, _), (1, _), (2, _), (7, _), (41, _)] ⟨rfl, rfl, rfl, rfl, rfl, trivial⟩ ?_
      refine HN.then ?_
      refine H.cond _ rfl (fun t2 => ?_) (fun t2 => ?_)
      · simp at t2
        done
      · refine H.keep [(0, _), (1, _), (2, _), (7, _)] ⟨rfl, rfl, rfl, rfl, trivial⟩ ?_
        refine HN.skip ?_
        refine HN.then ?_
        refine H.seq ?_
        refine H.region ?_
        refine H.q (yl_assign rfl) rfl rfl (by decide) ?_
        refine HN.done ?_
        refine HN.keep [(0, _), (1, _), (2, _), (7, _), (8, _)] ⟨rfl, rfl, rfl, rfl, rfl, trivial⟩ ?_
        refine HN.then ?_
        refine H.block ?_
        refine H.loop (fun k : Nat => [(0, .slice ad l.length cap), (1, .slice adr rows.length capr), (2, .int .i64 vars), (7, .int .i64 (i : Int)), (8, .int .i64 (k : Int))]) (fun k => k ≤ rows.length) (fun _ => Hp w0 [] [] []) (fun k => rows.length - k) 0 (Nat.zero_le _) ⟨rfl, rfl, rfl, rfl, rfl, trivial⟩ (fun w hw => hw) (fun k hK => ?_)
        refine H.seq ?_
        refine H.seq ?_
        refine H.region ?_
        refine H.q (yl_move rfl) rfl rfl (by decide) ?_
        refine H.q (yl_move rfl) rfl rfl (by decide) ?_
        refine H.q (yl_len rfl Tryz.underlying37 rfl) rfl rfl (by decide) ?_
        refine H.q (yl_lss rfl rfl) rfl rfl (by decide) ?_
        refine HN.done ?_
        refine HN.keep [(0, _), (1, _), (2, _), (7, _), (8, _), (45, _)] ⟨rfl, rfl, rfl, rfl, rfl, rfl, trivial⟩ ?_
        refine HN.then ?_
        refine H.cond _ rfl (fun t3 => ?_) (fun t3 => ?_)
        · replace t3 := of_decide_eq_true t3
          have hltk : k < rows.length := by omega
          refine H.keep [(0, _), (1, _), (2, _), (7, _), (8, _)] ⟨rfl, rfl, rfl, rfl, rfl, trivial⟩ ?_
          refine HN.skip ?_
          refine HN.then ?_
          refine H.seq ?_
          refine H.block ?_
          refine H.seq ?_
          refine H.regionQ Tryz.mixed (by kernel_rfl) (stab_hp _ _ _ _) ?_
          refine G.q (yl_move rfl) rfl rfl (by decide) ?_
          refine G.q (yl_move rfl) rfl rfl (by decide) ?_
          refine G.q (yl_index' i 6 Tryz.underlying28 Tryz.sizeOf25 (hs i hlt).1 rfl rfl rfl hlt) rfl rfl (by decide) ?_
          refine G.q (yl_loadAgg (cellsI l[i]) Tryz.isAgg25 Tryz.sizeOf25 rfl (fun w hw => cells_ext hw.ext (hs i hlt).2.1) rfl) rfl rfl (by decide) ?_
          refine G.q (yl_move rfl) rfl rfl (by decide) ?_
          refine G.q (yl_move rfl) rfl rfl (by decide) ?_
          refine G.q (yl_ix k Tryz.underlying37 Tryz.sizeOf23 (hsr k hltk).1 rfl rfl rfl hltk) rfl rfl (by decide) ?_
          refine G.q (yl_load Tryz.isAgg23 rfl (fun w hw => cell_ext hw.ext (hsr k hltk).2.1)) rfl rfl (by decide) ?_
          refine G.q (yl_call (xs := [.tmp 52, .tmp 56]) Tryz.call29 (stab_hp _ _ _ _) rfl (fun w hw => holdE_any l[i].2 l[i].1 w (by have := (wide_sets hw0).2 l[i].2 (List.mem_map.2 ⟨l[i], List.getElem_mem hlt, rfl⟩); omega) ((hs i hlt).2.2.ext hw.ext) rows[k].2 rows[k].1 (by have := (wide_rows hw0).2 rows[k].2 (List.mem_map.2 ⟨rows[k], List.getElem_mem hltk, rfl⟩); omega) ((hsr k hltk).2.2.ext hw.ext))) rfl rfl (by decide) ?_
          refine G.q (yl_move rfl) rfl rfl (by decide) ?_
          refine G.q (yl_extract _ rfl rfl) rfl rfl (by decide) ?_
          refine G.q (yl_extract _ rfl rfl) rfl rfl (by decide) ?_
          refine G.q (yl_assign rfl) rfl rfl (by decide) ?_
          refine G.q (yl_assign rfl) rfl rfl (by decide) ?_
          refine HN.doneG ?_
          refine HN.keep [(0, _), (1, _), (2, _), (7, _), (8, _), (9, _), (10, _)] ⟨rfl, rfl, rfl, rfl, rfl, rfl, rfl, trivial⟩ ?_
          refine HN.then ?_
          refine H.seq ?_
          refine H.regionQ Tryz.mixed (by kernel_rfl) (stab_hp _ _ _ _) ?_
          refine G.q (yl_move rfl) rfl rfl (by decide) ?_
          refine G.q (yl_move rfl) rfl rfl (by decide) ?_
          refine G.q (yl_index' i 6 Tryz.underlying28 Tryz.sizeOf25 (hs i hlt).1 rfl rfl rfl hlt) rfl rfl (by decide) ?_
          refine G.q (yl_loadAgg (cellsI l[i]) Tryz.isAgg25 Tryz.sizeOf25 rfl (fun w hw => cells_ext hw.ext (hs i hlt).2.1) rfl) rfl rfl (by decide) ?_
          refine G.q (yl_move rfl) rfl rfl (by decide) ?_
          refine G.q (yl_move rfl) rfl rfl (by decide) ?_
          refine G.q (yl_ix k Tryz.underlying37 Tryz.sizeOf23 (hsr k hltk).1 rfl rfl rfl hltk) rfl rfl (by decide) ?_
          refine G.q (yl_load Tryz.isAgg23 rfl (fun w hw => cell_ext hw.ext (hsr k hltk).2.1)) rfl rfl (by decide) ?_
          refine G.q (yl_call (xs := [.tmp 64, .tmp 68]) Tryz.call31 (stab_hp _ _ _ _) rfl (fun w hw => refHoldE_any l[i].2 l[i].1 w (by have := (wide_sets hw0).2 l[i].2 (List.mem_map.2 ⟨l[i], List.getElem_mem hlt, rfl⟩); omega) ((hs i hlt).2.2.ext hw.ext) rows[k].2 rows[k].1 (by have := (wide_rows hw0).2 rows[k].2 (List.mem_map.2 ⟨rows[k], List.getElem_mem hltk, rfl⟩); omega) ((hsr k hltk).2.2.ext hw.ext))) rfl rfl (by decide) ?_
          refine G.q (yl_move rfl) rfl rfl (by decide) ?_
          refine G.q (yl_extract _ rfl rfl) rfl rfl (by decide) ?_
          refine G.q (yl_extract _ rfl rfl) rfl rfl (by decide) ?_
          refine G.q (yl_assign rfl) rfl rfl (by decide) ?_
          refine G.q (yl_assign rfl) rfl rfl (by decide) ?_
          refine HN.doneG ?_
          refine HN.keep [(0, _), (1, _), (2, _), (7, _), (8, _), (9, _), (10, _), (11, _), (12, _)] ⟨rfl, rfl, rfl, rfl, rfl, rfl, rfl, rfl, rfl, trivial⟩ ?_
          refine HN.then ?_
          refine H.seq ?_
          refine H.region ?_
          refine H.q (yl_move rfl) rfl rfl (by decide) ?_
          refine H.q (yl_move rfl) rfl rfl (by decide) ?_
          refine H.q (yl_bneq Tryz.underlying4 rfl rfl) rfl rfl (by decide) ?_
          refine H.q (yl_move rfl) rfl rfl (by decide) ?_
          refine H.qg (wn_f rfl rfl (by decide) rfl) (fun hg => yl_sub [(10, _)] ⟨rfl, trivial⟩ (yl_move rfl)) rfl (by decide) ?_
          refine H.qg (wn_f rfl rfl (by decide) rfl) (fun hg => yl_sub [(12, _)] ⟨rfl, trivial⟩ (yl_move rfl)) rfl (by decide) ?_
          refine H.qg (wn_f rfl rfl (by decide) rfl) (fun hg => yl_sub [(76, _), (77, _)] ⟨slT rfl hg, slT rfl hg, trivial⟩ (yl_neq rfl rfl)) rfl (by decide) ?_
          refine H.q (yl_or rfl rfl) rfl rfl (by decide) ?_
          refine HN.done ?_
          refine HN.keep [(0, _), (1, _), (2, _), (7, _), (8, _), (79, _)] ⟨rfl, rfl, rfl, rfl, rfl, rfl, trivial⟩ ?_
          refine HN.then ?_
          refine H.cond _ rfl (fun t4 => ?_) (fun t4 => ?_)
          · simp at t4
            done
          · refine H.keep [(0, _), (1, _), (2, _), (7, _), (8, _)] ⟨rfl, rfl, rfl, rfl, rfl, trivial⟩ ?_
            refine HN.skip ?_
            refine HN.block ?_
            refine HN.then ?_
            refine H.region ?_
            refine H.q (yl_move rfl) rfl rfl (by decide) ?_
            refine H.q (yl_add rfl rfl ((k : Int) + 1) rfl (by omega)) rfl rfl (by decide) ?_
            refine H.q (yl_assign rfl) rfl rfl (by decide) ?_
            refine HN.done ?_
            refine HN.keep [(0, _), (1, _), (2, _), (7, _), (8, _)] ⟨rfl, rfl, rfl, rfl, rfl, trivial⟩ ?_
            refine HN.then ?_
            exact H.at (k + 1) ⟨by omega, by omega⟩ ⟨rfl, rfl, rfl, rfl, rfl, trivial⟩ (fun w hw => hw)
        · skip
          refine H.keep [(0, _), (1, _), (2, _), (7, _)] ⟨rfl, rfl, rfl, rfl, trivial⟩ ?_
          refine HX.exit ?_
          refine HX.then ?_
          refine HX.then ?_
          refine HX.hit ?_
          refine HN.block ?_
          refine HN.then ?_
          refine H.region ?_
          refine H.q (yl_move rfl) rfl rfl (by decide) ?_
          refine H.q (yl_add rfl rfl ((i : Int) + 1) rfl (by omega)) rfl rfl (by decide) ?_
          refine H.q (yl_assign rfl) rfl rfl (by decide) ?_
          refine HN.done ?_
          refine HN.keep [(0, _), (1, _), (2, _), (7, _)] ⟨rfl, rfl, rfl, rfl, trivial⟩ ?_
          refine HN.then ?_
          exact H.at (i + 1) ⟨by omega, by omega⟩ ⟨rfl, rfl, rfl, rfl, trivial⟩ (fun w hw => hw)
    · skip
      refine H.keep [(0, _), (1, _)] ⟨rfl, rfl, trivial⟩ ?_
      refine HX.exit ?_
      refine HX.then ?_
      refine HX.then ?_
      refine HX.hit ?_
      refine HN.then ?_
      refine H.seq ?_
      refine H.region ?_
      refine H.q (yl_move rfl) rfl rfl (by decide) ?_
      refine H.q (yl_move rfl) rfl rfl (by decide) ?_
      refine H.q (yl_call (xs := [.tmp 81, .tmp 82]) Tryz.call32 (stab_hp _ _ _ _) rfl (fun w hw => first_any l (.slice ad l.length cap) w (by omega) (fun p hp => by have := (wide_sets hw0).2 p.2 (List.mem_map.2 ⟨p, hp, rfl⟩); omega) (hlv.ext hw.ext) rows (.slice adr rows.length capr) (by omega) (fun p hp => by have := (wide_rows hw0).2 p.2 (List.mem_map.2 ⟨p, hp, rfl⟩); omega) (hrv.ext hw.ext))) rfl rfl (by decide) ?_
      refine H.q (yl_move rfl) rfl rfl (by decide) ?_
      refine H.q (yl_extract _ rfl rfl) rfl rfl (by decide) ?_
      refine H.q (yl_extract _ rfl rfl) rfl rfl (by decide) ?_
      refine H.q (yl_extract _ rfl rfl) rfl rfl (by decide) ?_
      refine H.q (yl_assign rfl) rfl rfl (by decide) ?_
      refine H.q (yl_assign rfl) rfl rfl (by decide) ?_
      refine H.q (yl_assign rfl) rfl rfl (by decide) ?_
      refine HN.done ?_
      refine HN.keep [(0, _), (1, _), (13, _), (14, _), (15, _)] ⟨rfl, rfl, rfl, rfl, rfl, trivial⟩ ?_
      refine HN.then ?_
      refine H.seq ?_
      refine H.region ?_
      refine H.q (yl_move rfl) rfl rfl (by decide) ?_
      refine H.q (yl_move rfl) rfl rfl (by decide) ?_
      refine H.q (yl_call (xs := [.tmp 88, .tmp 89]) Tryz.call33 (stab_hp _ _ _ _) rfl (fun w hw => refFirst_any l (.slice ad l.length cap) w (by omega) (fun p hp => by have := (wide_sets hw0).2 p.2 (List.mem_map.2 ⟨p, hp, rfl⟩); omega) (hlv.ext hw.ext) rows (.slice adr rows.length capr) (by omega) (fun p hp => by have := (wide_rows hw0).2 p.2 (List.mem_map.2 ⟨p, hp, rfl⟩); omega) (hrv.ext hw.ext))) rfl rfl (by decide) ?_
      refine H.q (yl_move rfl) rfl rfl (by decide) ?_
      refine H.q (yl_extract _ rfl rfl) rfl rfl (by decide) ?_
      refine H.q (yl_extract _ rfl rfl) rfl rfl (by decide) ?_
      refine H.q (yl_extract _ rfl rfl) rfl rfl (by decide) ?_
      refine H.q (yl_assign rfl) rfl rfl (by decide) ?_
      refine H.q (yl_assign rfl) rfl rfl (by decide) ?_
      refine H.q (yl_assign rfl) rfl rfl (by decide) ?_
      refine HN.done ?_
      refine HN.keep [(13, _), (14, _), (15, _), (16, _), (17, _), (18, _)] ⟨rfl, rfl, rfl, rfl, rfl, rfl, trivial⟩ ?_
      refine HN.then ?_
      refine H.seq ?_
      refine H.region ?_
      refine H.q (yl_move rfl) rfl rfl (by decide) ?_
      refine H.q (yl_move rfl) rfl rfl (by decide) ?_
      refine H.q (yl_eql rfl rfl) rfl rfl (by decide) ?_
      refine H.q (yl_move rfl) rfl rfl (by decide) ?_
      refine H.qg (wn_t rfl rfl (by decide) rfl) (fun hg => yl_sub [(14, _)] ⟨rfl, trivial⟩ (yl_move rfl)) rfl (by decide) ?_
      refine H.qg (wn_t rfl rfl (by decide) rfl) (fun hg => yl_sub [(17, _)] ⟨rfl, trivial⟩ (yl_move rfl)) rfl (by decide) ?_
      refine H.qg (wn_t rfl rfl (by decide) rfl) (fun hg => yl_sub [(98, _), (99, _)] ⟨slT rfl hg, slT rfl hg, trivial⟩ (yl_eql rfl rfl)) rfl (by decide) ?_
      refine H.q (yl_and rfl rfl) rfl rfl (by decide) ?_
      refine H.q (yl_move rfl) rfl rfl (by decide) ?_
      refine H.qg (wn_t rfl rfl (by decide) rfl) (fun hg => yl_sub [(15, _)] ⟨rfl, trivial⟩ (yl_move rfl)) rfl (by decide) ?_
      refine H.qg (wn_t rfl rfl (by decide) rfl) (fun hg => yl_sub [(18, _)] ⟨rfl, trivial⟩ (yl_move rfl)) rfl (by decide) ?_
      refine H.qg (wn_t rfl rfl (by decide) rfl) (fun hg => yl_sub [(103, _), (104, _)] ⟨slT rfl hg, slT rfl hg, trivial⟩ (yl_eql rfl rfl)) rfl (by decide) ?_
      refine H.q (yl_and rfl rfl) rfl rfl (by decide) ?_
      refine H.q (yl_move rfl) rfl rfl (by decide) ?_
      refine H.qg (wn_t rfl rfl (by decide) rfl) (fun hg => yl_call (xs := []) Tryz.call11 (stab_hp _ _ _ _) rfl (fun w hw => learns_any w (hvars.ext hw.ext))) rfl (by decide) ?_
      refine H.q (yl_and rfl rfl) rfl rfl (by decide) ?_
      refine H.q (yl_assign rfl) rfl rfl (by decide) ?_
      refine HN.done ?_
      refine HN.keep [(6, _)] ⟨rfl, trivial⟩ ?_
      refine HN.then ?_
      refine HR.ret ?_
      refine HR.ret1 _ Tryz.results8 rfl (fun w hw => ?_)
      refine ⟨by simp, hw.ext⟩

end Go.Proofs.YtgbgddmbooaddaaGreatDoor
