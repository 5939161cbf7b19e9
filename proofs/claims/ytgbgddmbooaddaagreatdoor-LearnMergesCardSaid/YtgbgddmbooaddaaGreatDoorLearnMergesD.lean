/-
  Ground of the proof of LearnMerges, part 4: Walks: rows are merged, copied; what follows; The calculus, continued: what calls hand over; what lies in blocks of one's own; Plain law: the chapter's examples.
-/
import Derived.Test.YtgbgddmbooaddaaGreatDoorRows
import Derived.ProofKit
import Derived.OpenShut
import Derived.LaidMore
import Derived.Lay
import Derived.Lib.LaidTab
import Derived.Shelf.Vars
import Derived.HandedShaped
import Derived.Deep.Slices
import Derived.Carry
import Derived.SevenTiedAt
import Derived.Stop.Joined
import Derived.Test.YtgbgddmbooaddaaGreatDoorLearnMergesC
namespace Go.Proofs.YtgbgddmbooaddaaGreatDoor
open Go.RowKit

set_option maxRecDepth 100000 in
theorem there_nil (w0 : World) : Calls Tryz.prog 49 #[.pointer none] w0 fun e w' => e = .returned (.bool false) ∧ Ext w0 w' := by
  refine enterA 13 Tryz.func49 rfl Tryz.ntmps49 rfl (Hp w0 [] [] []) (Hp.init _) ?_
  refine H.seq ?_
  refine H.region ?_
  refine H.q (yl_assign rfl) rfl rfl (by decide) ?_
  refine HN.done ?_
  refine HN.keep [(0, _)] ⟨rfl, trivial⟩ ?_
  refine HN.then ?_
  refine H.seq ?_
  refine H.region ?_
  refine H.q (yl_move rfl) rfl rfl (by decide) ?_
  refine H.q (yl_ptrNeq Tryz.underlying38 rfl) rfl rfl (by decide) ?_
  refine H.q (yl_move rfl) rfl rfl (by decide) ?_
  refine H.qg (wn_t rfl rfl (by decide) rfl) (fun hg => yl_sub [(0, _)] ⟨rfl, trivial⟩ ((absurd hg (by decide) : Yl _ _ _ _ _ (.bool true)))) rfl (by decide) ?_
  refine H.qg (wn_t rfl rfl (by decide) rfl) (fun hg => yl_sub [(6, _)] ⟨slT rfl hg, trivial⟩ ((absurd hg (by decide) : Yl _ _ _ _ _ (.bool true)))) rfl (by decide) ?_
  refine H.qg (wn_t rfl rfl (by decide) rfl) (fun hg => yl_sub [(7, _)] ⟨slT rfl hg, trivial⟩ ((absurd hg (by decide) : Yl _ _ _ _ _ (.bool true)))) rfl (by decide) ?_
  refine H.qg (wn_t rfl rfl (by decide) rfl) (fun hg => yl_sub [(8, _)] ⟨slT rfl hg, trivial⟩ ((absurd hg (by decide) : Yl _ _ _ _ _ (.bool true)))) rfl (by decide) ?_
  refine H.qg (wn_t rfl rfl (by decide) rfl) (fun hg => yl_sub [(9, _)] ⟨slT rfl hg, trivial⟩ ((absurd hg (by decide) : Yl _ _ _ _ _ (.bool true)))) rfl (by decide) ?_
  refine H.qg (wn_t rfl rfl (by decide) rfl) (fun hg => yl_sub [(10, _)] ⟨slT rfl hg, trivial⟩ ((absurd hg (by decide) : Yl _ _ _ _ _ (.bool true)))) rfl (by decide) ?_
  refine H.q (yl_and rfl rfl) rfl rfl (by decide) ?_
  refine H.q (yl_assign rfl) rfl rfl (by decide) ?_
  refine HN.done ?_
  refine HN.keep [(2, _)] ⟨rfl, trivial⟩ ?_
  refine HN.then ?_
  refine HR.ret ?_
  refine HR.ret1 _ Tryz.results49 rfl (fun w hw => ?_)
  exact ⟨rfl, hw.ext⟩


structure MZ where
  k : Nat
  rv : Value
  new : List (Value × List Int)

set_option maxRecDepth 100000 in
theorem merge_any (bo : Nat) (rvo : Value) (rowso : List (Value × List Int)) (bm vars : Nat) (rv : Value) (rows : List (Value × List Int)) (w0 : World) (L : List BP) (R : List Rw) (F : List BP) (w : World) (hmax : rows.length ≤ 1000) (hv1 : 1 ≤ vars) (hmo : rowso.length ≤ 1000) (hov : ∀ w', Hp w0 (minerB bm vars rv :: L) (minerRw rv rows :: (rowsR rows ++ R)) F w' → w'.cell? ⟨bo, 0, none⟩ = some (.int .i64 (vars : Int))) (hoc : ∀ w', Hp w0 (minerB bm vars rv :: L) (minerRw rv rows :: (rowsR rows ++ R)) F w' → w'.cell? ⟨bo, 1, none⟩ = some rvo) (hor : ∀ w', Hp w0 (minerB bm vars rv :: L) (minerRw rv rows :: (rowsR rows ++ R)) F w' → IsSl w' rvo (rowso.map (·.1))) (hmem : ∀ p ∈ rowso, rowI p.1 p.2 ∈ rowsR rows ++ R) (hlen : ∀ p ∈ rowso, p.2.length ≤ 1000) (hw : Hp w0 (minerB bm vars rv :: L) (minerRw rv rows :: (rowsR rows ++ R)) F w) : Calls Tryz.prog 35 #[.pointer (some ⟨bm, 0, none⟩), .pointer (some ⟨bo, 0, none⟩)] w fun e w' => e = .returned (.int .i64 0) ∧ ∃ rv' new, new.map (·.2) = rowso.map (·.2) ∧ Hp w0 (minerB bm vars rv' :: L) (minerRw rv' (rows ++ new) :: (rowsR (rows ++ new) ++ R)) F w' := by
  have hvt : decide ((0 : Int) < (vars : Int)) = true := decide_eq_true (by omega)
  have hone : ∀ p ∈ rowso, p.1.oneCell' = true := fun p hp => by
    obtain ⟨ad, cap, h1⟩ := Rw.isSlice (hw.rows _ (List.mem_cons_of_mem _ (hmem p hp)))
    rw [h1]
    rfl
  refine enterA 51 Tryz.func35 rfl Tryz.ntmps35 rfl (Hp w0 (minerB bm vars rv :: L) (minerRw rv rows :: (rowsR rows ++ R)) F) hw ?_
  refine H.seq ?_
  refine H.region ?_
  refine H.q (yl_assign rfl) rfl rfl (by decide) ?_
  refine HN.done ?_
  refine HN.keep [(0, _), (1, _)] ⟨rfl, rfl, trivial⟩ ?_
  refine HN.then ?_
  -- branchy seq 0, live: [0, 1]
  refine H.seq ?_
  refine H.block ?_
  -- branchy seq 1, live: [0, 1, 7]
  refine H.seq ?_
  refine H.seq ?_
  refine H.region ?_
  refine H.q (yl_move rfl) rfl rfl (by decide) ?_
  refine H.q (yl_call (xs := [.tmp 8]) Tryz.call49 (stab_hp _ _ _ _) rfl (fun w hw => there_any bm vars w (hw.cell 0 rfl rfl))) rfl rfl (by decide) ?_
  refine H.q (yl_not rfl) rfl rfl (by decide) ?_
  refine H.q (yl_assign rfl) rfl rfl (by decide) ?_
  refine HN.done ?_
  refine HN.keep [(0, _), (1, _), (7, _)] ⟨rfl, rfl, rfl, trivial⟩ ?_
  refine HN.then ?_
  refine H.cond _ rfl (fun t0 => ?_) (fun t0 => ?_)
  · rw [hvt] at t0; exact absurd t0 (by decide)
    done
  · refine H.keep [(0, _), (1, _)] ⟨rfl, rfl, trivial⟩ ?_
    refine H.region ?_
    refine H.q (yl_move rfl) rfl rfl (by decide) ?_
    refine H.q (yl_call (xs := [.tmp 11]) Tryz.call49 (stab_hp _ _ _ _) rfl (fun w hw => there_any bo vars w (hov w hw))) rfl rfl (by decide) ?_
    refine H.q (yl_not rfl) rfl rfl (by decide) ?_
    refine H.q (yl_assign rfl) rfl rfl (by decide) ?_
    refine HN.done ?_
    refine HN.keep [(0, _), (1, _), (7, _)] ⟨rfl, rfl, rfl, trivial⟩ ?_
    refine HN.then ?_
    refine H.cond _ rfl (fun t1 => ?_) (fun t1 => ?_)
    · rw [hvt] at t1; exact absurd t1 (by decide)
      done
    · refine H.keep [(0, _), (1, _)] ⟨rfl, rfl, trivial⟩ ?_
      refine H.seq ?_
      refine H.regionQ Tryz.mixed (by kernel_rfl) (stab_hp _ _ _ _) ?_
      refine G.q (yl_move rfl) rfl rfl (by decide) ?_
      refine G.q (yl_nilCheck rfl) rfl rfl (by decide) ?_
      refine G.q (yl_fieldAddr _ fa94_0 rfl) rfl rfl (by decide) ?_
      refine G.q (yl_fieldAddr _ fa92_0 rfl) rfl rfl (by decide) ?_
      refine G.q (yl_load Tryz.isAgg3 rfl (fun w hw => hw.cell 0 rfl rfl)) rfl rfl (by decide) ?_
      refine G.q (yl_move rfl) rfl rfl (by decide) ?_
      refine G.q (yl_nilCheck rfl) rfl rfl (by decide) ?_
      refine G.q (yl_fieldAddr _ fa94_0 rfl) rfl rfl (by decide) ?_
      refine G.q (yl_fieldAddr _ fa92_0 rfl) rfl rfl (by decide) ?_
      refine G.q (yl_load Tryz.isAgg3 rfl hov) rfl rfl (by decide) ?_
      refine G.q (yl_neq rfl rfl) rfl rfl (by decide) ?_
      refine G.q (yl_assign rfl) rfl rfl (by decide) ?_
      refine HN.doneG ?_
      refine HN.keep [(0, _), (1, _), (14, _)] ⟨rfl, rfl, rfl, trivial⟩ ?_
      refine HN.then ?_
      refine H.cond _ rfl (fun t2 => ?_) (fun t2 => ?_)
      · simp at t2
        done
      · refine H.keep [(0, _), (1, _)] ⟨rfl, rfl, trivial⟩ ?_
        refine HN.skip ?_
        refine HN.block ?_
        refine HN.then ?_
        refine H.seq ?_
        refine H.seq ?_
        refine H.region ?_
        refine H.q (yl_move rfl) rfl rfl (by decide) ?_
        refine H.q (yl_nilCheck rfl) rfl rfl (by decide) ?_
        refine H.q (yl_fieldAddr _ fa94_0 rfl) rfl rfl (by decide) ?_
        refine H.q (yl_fieldAddr _ fa92_1 rfl) rfl rfl (by decide) ?_
        refine H.q (yl_load Tryz.isAgg37 rfl hoc) rfl rfl (by decide) ?_
        refine H.call (α := Value) (xs := [.tmp 30]) (fun v => v) (fun _ => True) (fun v => [minerRw v rowso]) (fun _ => []) Tryz.call68 rfl (by decide) (fun w hw => (clone37_any rowso rvo w (by omega) (hor w hw) hone).mono fun e w' h => by obtain ⟨v, h1, h2⟩ := h; exact ⟨v, h1, trivial, h2, fun _ hh => by cases hh⟩) (fun v31 _ => ?_)
        refine H.pull (fun w hw => Rw.open1 (v := v31) (l := rowso) (fun p : Value × List Int => p.1) (hw.row 0 rfl)) (fun ho => ?_)
        obtain ⟨adv, capv, bv, rfl, hcapv, hsv⟩ := ho
        refine H.q (yl_len rfl Tryz.underlying37 rfl) rfl rfl (by decide) ?_
        refine H.q (yl_move rfl) rfl rfl (by decide) ?_
        refine HN.done ?_
        refine HN.keep [(0, _), (31, _), (32, _), (33, _)] ⟨rfl, rfl, rfl, rfl, trivial⟩ ?_
        refine HN.then ?_
        refine H.block ?_
        refine H.loop (fun z : MZ => [(0, .pointer (some ⟨bm, 0, none⟩)), (31, (.slice adv rowso.length capv)), (32, .int .i64 (rowso.length : Int)), (33, .int .i64 (z.k : Int))]) (fun z => z.k ≤ rowso.length ∧ z.new.map (·.2) = (rowso.take z.k).map (·.2)) (fun z => Hp w0 (minerB bm vars z.rv :: L) (minerRw (.slice adv rowso.length capv) rowso :: minerRw z.rv (rows ++ z.new) :: (rowsR (rows ++ z.new) ++ R)) F) (fun z => rowso.length - z.k) ⟨0, rv, []⟩ ⟨Nat.zero_le _, rfl⟩ ⟨rfl, rfl, rfl, rfl, trivial⟩ (fun w hw => by rw [List.append_nil]; exact hw) (fun z hI0 => ?_)
        obtain ⟨k, rvz, new⟩ := z
        obtain ⟨hI, hnew⟩ := hI0
        simp only at hI hnew
        have hnl : new.length = k := by have := congrArg List.length hnew; simp at this; omega
        refine H.seq ?_
        refine H.region ?_
        refine H.q (yl_lss rfl rfl) rfl rfl (by decide) ?_
        refine HN.done ?_
        refine HN.keep [(0, _), (31, _), (32, _), (33, _), (34, _)] ⟨rfl, rfl, rfl, rfl, rfl, trivial⟩ ?_
        refine HN.then ?_
        refine H.seq ?_
        refine H.cond _ rfl (fun t3 => ?_) (fun t3 => ?_)
        · simp only [decide_eq_true_eq] at t3
          have hlt : k < rowso.length := by omega
          have hlk := hlen _ (List.getElem_mem hlt)
          have hmk : ∀ nw, rowI rowso[k].1 rowso[k].2 ∈ rowsR (rows ++ nw) ++ R := fun nw => by
            rcases List.mem_append.1 (hmem _ (List.getElem_mem hlt)) with h | h
            · rw [rowsR_append]; exact List.mem_append.2 (.inl (List.mem_append.2 (.inl h)))
            · exact List.mem_append.2 (.inr h)
          refine H.pull (fun w hw => (hsv w (hw.row 0 rfl) k hlt).1) (fun hadv => ?_)
          refine H.keep [(0, _), (31, _), (32, _), (33, _)] ⟨rfl, rfl, rfl, rfl, trivial⟩ ?_
          refine HN.skip ?_
          refine HN.then ?_
          refine H.seq ?_
          refine H.block ?_
          refine H.seq ?_
          refine H.region ?_
          refine H.q (yl_ix k Tryz.underlying37 Tryz.sizeOf23 hadv rfl rfl rfl hlt) rfl rfl (by decide) ?_
          refine H.q (yl_load Tryz.isAgg23 rfl (fun w hw => (hsv w (hw.row 0 rfl) k hlt).2)) rfl rfl (by decide) ?_
          refine H.q (yl_assign rfl) rfl rfl (by decide) ?_
          refine HN.done ?_
          refine HN.keep [(0, _), (6, _), (31, _), (32, _), (33, _)] ⟨rfl, rfl, rfl, rfl, rfl, trivial⟩ ?_
          refine HN.then ?_
          refine H.regionA (Hp w0 [] [] []) Tryz.mixed (stab_hp _ _ _ _) ?_
          refine H.take (i := 0) rfl (by kernel_rfl) (by kernel_rfl) (by kernel_rfl) (fun _ _ _ h => h) (fun w hw => hw.base) (ye_move rfl) rfl rfl (by decide) ?_
          refine H.take (i := 1) rfl (by kernel_rfl) (by kernel_rfl) (by kernel_rfl) (fun _ _ _ h => h) (fun w hw => hw.base) (ye_move rfl) rfl rfl (by decide) ?_
          refine H.take (i := 2) rfl (by kernel_rfl) (by kernel_rfl) (by kernel_rfl) (fun _ _ _ h => h) (fun w hw => hw.base) (ye_nilCheck rfl) rfl rfl (by decide) ?_
          refine H.take (i := 3) rfl (by kernel_rfl) (by kernel_rfl) (by kernel_rfl) (fun _ _ _ h => h) (fun w hw => hw.base) (ye_fieldAddr _ fa94_0 rfl) rfl rfl (by decide) ?_
          refine H.take (i := 4) rfl (by kernel_rfl) (by kernel_rfl) (by kernel_rfl) (fun _ _ _ h => h) (fun w hw => hw.base) (ye_fieldAddr _ fa92_1 rfl) rfl rfl (by decide) ?_
          refine H.take (i := 6) rfl (by kernel_rfl) (by kernel_rfl) (by kernel_rfl) (fun _ _ _ h => h) (fun w hw => hw.base) (ye_move rfl) rfl rfl (by decide) ?_
          refine H.two (i := 5) (j := 7) rfl rfl (by kernel_rfl) ?_ ?_
          · refine H.q (yl_load (v := rvz) Tryz.isAgg37 rfl (fun w hw => by first | exact hw.cell 0 rfl rfl | exact hw.cell 1 rfl rfl)) rfl rfl (by decide) ?_
            refine H.on (fun w hw => hw.base) ?_
            refine H.one (i := 7) rfl (by kernel_rfl) ?_
            refine H.call (α := Value) (xs := [.tmp 43]) (fun v => v) (fun _ => True) (fun v => [rowI v rowso[k].2]) (fun _ => []) Tryz.call51 rfl (by decide) (fun w hw => (clone_any rowso[k].2 _ w (by omega) (IsInts.of_row (hw.rows _ (List.mem_cons_of_mem _ (List.mem_cons_of_mem _ (hmk new)))))).mono fun e w' h => by obtain ⟨v, h1, h2⟩ := h; exact ⟨v, h1, trivial, h2, fun _ hh => by cases hh⟩) (fun cv _ => ?_)
            refine H.pull (fun w hw => rowI_open (hw.row 0 rfl)) (fun ho => ?_)
            obtain ⟨adc, capc, bc, rfl, hcapc, hadc, hsc⟩ := ho
            refine H.on (fun w hw => hw.base) ?_
            refine H.one (i := 8) rfl (by kernel_rfl) ?_
            refine H.buildSlice (bs37 _ _ _) rfl (by decide) (fun b45 hb45 => ?_)
            refine H.on (fun w hw => hw.base) ?_
            refine H.one (i := 9) rfl (by kernel_rfl) ?_
            refine H.append 2 [.slice adc rowso[k].2.length capc] el37 rfl rfl rfl rfl (fun w hw => newsN (hw.blk 0 rfl)) (by simp [Value.oneCell']) (by simp only [List.length_append]; omega) (by decide) (by decide) (fun v46 => ?_)
            refine H.pull (fun w hw => Rw.isSlice (v := v46) (len := (rows ++ new).length + 1) (hw.row 2 rfl)) (fun ho => ?_)
            obtain ⟨ad46, cap46, rfl⟩ := ho
            refine H.cls (Hp w0 (minerB bm vars rvz :: L) (minerRw (.slice adv rowso.length capv) rowso :: minerRw (.slice ad46 ((rows ++ new).length + 1) cap46) (rows ++ (new ++ [(Value.slice adc rowso[k].2.length capc, rowso[k].2)])) :: (rowsR (rows ++ (new ++ [(Value.slice adc rowso[k].2.length capc, rowso[k].2)])) ++ R)) F) (fun w hw => ?_) ?_
            · have e1 : minerRw (.slice ad46 ((rows ++ new).length + 1) cap46) (rows ++ (new ++ [(Value.slice adc rowso[k].2.length capc, rowso[k].2)])) = ⟨.slice ad46 ((rows ++ new).length + 1) cap46, (rows ++ new).length + 1, 23, 1, (rows ++ new).map (·.1) ++ [.slice adc rowso[k].2.length capc]⟩ := by simp [minerRw]; omega
              have e2 : rowsR [(Value.slice adc rowso[k].2.length capc, rowso[k].2)] = [rowI (.slice adc rowso[k].2.length capc) rowso[k].2] := rfl
              rw [e1, ← List.append_assoc, rowsR_append, e2]
              exact (hw.drop).permR (by classical exact List.perm_iff_count.2 (fun x => by simp only [rowsR_append, List.set_cons_zero, List.set_cons_succ, List.count_append, List.count_cons, List.count_nil, List.cons_append, List.nil_append]; omega))
            refine H.on (fun w hw => hw.base) ?_
            refine H.take (i := 10) rfl (by kernel_rfl) (by kernel_rfl) (by kernel_rfl) (fun _ _ _ h => h) (fun w hw => hw.base) (ye_nilCheck rfl) rfl rfl (by decide) ?_
            refine H.take (i := 11) rfl (by kernel_rfl) (by kernel_rfl) (by kernel_rfl) (fun _ _ _ h => h) (fun w hw => hw.base) (ye_fieldAddr _ fa94_0 rfl) rfl rfl (by decide) ?_
            refine H.take (i := 12) rfl (by kernel_rfl) (by kernel_rfl) (by kernel_rfl) (fun _ _ _ h => h) (fun w hw => hw.base) (ye_fieldAddr _ fa92_1 rfl) rfl rfl (by decide) ?_
            refine H.one (i := 13) rfl (by kernel_rfl) ?_
            refine H.store1 0 rfl rfl rfl rfl Tryz.sizeOf37 rfl rfl ?_
            refine H.on (fun w hw => hw.base) ?_
            refine H.over (by kernel_rfl) ?_
            refine HN.keep [(0, _), (31, _), (32, _), (33, _)] ⟨rfl, rfl, rfl, rfl, trivial⟩ ?_
            refine HN.block ?_
            refine HN.then ?_
            refine H.region ?_
            refine H.q (yl_add rfl rfl ((k : Int) + 1) rfl (by omega)) rfl rfl (by decide) ?_
            refine H.q (yl_move rfl) rfl rfl (by decide) ?_
            refine HN.done ?_
            refine HN.keep [(0, _), (31, _), (32, _), (33, _)] ⟨rfl, rfl, rfl, rfl, trivial⟩ ?_
            refine HN.then ?_
            refine H.at ⟨k + 1, .slice ad46 ((rows ++ new).length + 1) cap46, (new ++ [(Value.slice adc rowso[k].2.length capc, rowso[k].2)])⟩ ⟨⟨hlt, ?_⟩, by simp only; omega⟩ ⟨rfl, rfl, rfl, rfl, trivial⟩ (fun w hw => hw)
            simp only [List.map_append, hnew]
            rw [List.take_succ_eq_append_getElem hlt, List.map_append]
            rfl
          · refine H.call (α := Value) (xs := [.tmp 43]) (fun v => v) (fun _ => True) (fun v => [rowI v rowso[k].2]) (fun _ => []) Tryz.call51 rfl (by decide) (fun w hw => (clone_any rowso[k].2 _ w (by omega) (IsInts.of_row (hw.rows _ (List.mem_cons_of_mem _ (List.mem_cons_of_mem _ (hmk new)))))).mono fun e w' h => by obtain ⟨v, h1, h2⟩ := h; exact ⟨v, h1, trivial, h2, fun _ hh => by cases hh⟩) (fun cv _ => ?_)
            refine H.pull (fun w hw => rowI_open (hw.row 0 rfl)) (fun ho => ?_)
            obtain ⟨adc, capc, bc, rfl, hcapc, hadc, hsc⟩ := ho
            refine H.on (fun w hw => hw.base) ?_
            refine H.two (i := 5) (j := 8) rfl rfl (by kernel_rfl) ?_ ?_
            · refine H.q (yl_load (v := rvz) Tryz.isAgg37 rfl (fun w hw => by first | exact hw.cell 0 rfl rfl | exact hw.cell 1 rfl rfl)) rfl rfl (by decide) ?_
              refine H.on (fun w hw => hw.base) ?_
              refine H.one (i := 8) rfl (by kernel_rfl) ?_
              refine H.buildSlice (bs37 _ _ _) rfl (by decide) (fun b45 hb45 => ?_)
              refine H.on (fun w hw => hw.base) ?_
              refine H.one (i := 9) rfl (by kernel_rfl) ?_
              refine H.append 2 [.slice adc rowso[k].2.length capc] el37 rfl rfl rfl rfl (fun w hw => newsN (hw.blk 0 rfl)) (by simp [Value.oneCell']) (by simp only [List.length_append]; omega) (by decide) (by decide) (fun v46 => ?_)
              refine H.pull (fun w hw => Rw.isSlice (v := v46) (len := (rows ++ new).length + 1) (hw.row 2 rfl)) (fun ho => ?_)
              obtain ⟨ad46, cap46, rfl⟩ := ho
              refine H.cls (Hp w0 (minerB bm vars rvz :: L) (minerRw (.slice adv rowso.length capv) rowso :: minerRw (.slice ad46 ((rows ++ new).length + 1) cap46) (rows ++ (new ++ [(Value.slice adc rowso[k].2.length capc, rowso[k].2)])) :: (rowsR (rows ++ (new ++ [(Value.slice adc rowso[k].2.length capc, rowso[k].2)])) ++ R)) F) (fun w hw => ?_) ?_
              · have e1 : minerRw (.slice ad46 ((rows ++ new).length + 1) cap46) (rows ++ (new ++ [(Value.slice adc rowso[k].2.length capc, rowso[k].2)])) = ⟨.slice ad46 ((rows ++ new).length + 1) cap46, (rows ++ new).length + 1, 23, 1, (rows ++ new).map (·.1) ++ [.slice adc rowso[k].2.length capc]⟩ := by simp [minerRw]; omega
                have e2 : rowsR [(Value.slice adc rowso[k].2.length capc, rowso[k].2)] = [rowI (.slice adc rowso[k].2.length capc) rowso[k].2] := rfl
                rw [e1, ← List.append_assoc, rowsR_append, e2]
                exact (hw.drop).permR (by classical exact List.perm_iff_count.2 (fun x => by simp only [rowsR_append, List.set_cons_zero, List.set_cons_succ, List.count_append, List.count_cons, List.count_nil, List.cons_append, List.nil_append]; omega))
              refine H.on (fun w hw => hw.base) ?_
              refine H.take (i := 10) rfl (by kernel_rfl) (by kernel_rfl) (by kernel_rfl) (fun _ _ _ h => h) (fun w hw => hw.base) (ye_nilCheck rfl) rfl rfl (by decide) ?_
              refine H.take (i := 11) rfl (by kernel_rfl) (by kernel_rfl) (by kernel_rfl) (fun _ _ _ h => h) (fun w hw => hw.base) (ye_fieldAddr _ fa94_0 rfl) rfl rfl (by decide) ?_
              refine H.take (i := 12) rfl (by kernel_rfl) (by kernel_rfl) (by kernel_rfl) (fun _ _ _ h => h) (fun w hw => hw.base) (ye_fieldAddr _ fa92_1 rfl) rfl rfl (by decide) ?_
              refine H.one (i := 13) rfl (by kernel_rfl) ?_
              refine H.store1 0 rfl rfl rfl rfl Tryz.sizeOf37 rfl rfl ?_
              refine H.on (fun w hw => hw.base) ?_
              refine H.over (by kernel_rfl) ?_
              refine HN.keep [(0, _), (31, _), (32, _), (33, _)] ⟨rfl, rfl, rfl, rfl, trivial⟩ ?_
              refine HN.block ?_
              refine HN.then ?_
              refine H.region ?_
              refine H.q (yl_add rfl rfl ((k : Int) + 1) rfl (by omega)) rfl rfl (by decide) ?_
              refine H.q (yl_move rfl) rfl rfl (by decide) ?_
              refine HN.done ?_
              refine HN.keep [(0, _), (31, _), (32, _), (33, _)] ⟨rfl, rfl, rfl, rfl, trivial⟩ ?_
              refine HN.then ?_
              refine H.at ⟨k + 1, .slice ad46 ((rows ++ new).length + 1) cap46, (new ++ [(Value.slice adc rowso[k].2.length capc, rowso[k].2)])⟩ ⟨⟨hlt, ?_⟩, by simp only; omega⟩ ⟨rfl, rfl, rfl, rfl, trivial⟩ (fun w hw => hw)
              simp only [List.map_append, hnew]
              rw [List.take_succ_eq_append_getElem hlt, List.map_append]
              rfl
            · refine H.buildSlice (bs37 _ _ _) rfl (by decide) (fun b45 hb45 => ?_)
              refine H.on (fun w hw => hw.base) ?_
              refine H.one (i := 5) rfl (by kernel_rfl) ?_
              refine H.q (yl_load (v := rvz) Tryz.isAgg37 rfl (fun w hw => by first | exact hw.cell 0 rfl rfl | exact hw.cell 1 rfl rfl)) rfl rfl (by decide) ?_
              refine H.on (fun w hw => hw.base) ?_
              refine H.one (i := 9) rfl (by kernel_rfl) ?_
              refine H.append 2 [.slice adc rowso[k].2.length capc] el37 rfl rfl rfl rfl (fun w hw => newsN (hw.blk 0 rfl)) (by simp [Value.oneCell']) (by simp only [List.length_append]; omega) (by decide) (by decide) (fun v46 => ?_)
              refine H.pull (fun w hw => Rw.isSlice (v := v46) (len := (rows ++ new).length + 1) (hw.row 2 rfl)) (fun ho => ?_)
              obtain ⟨ad46, cap46, rfl⟩ := ho
              refine H.cls (Hp w0 (minerB bm vars rvz :: L) (minerRw (.slice adv rowso.length capv) rowso :: minerRw (.slice ad46 ((rows ++ new).length + 1) cap46) (rows ++ (new ++ [(Value.slice adc rowso[k].2.length capc, rowso[k].2)])) :: (rowsR (rows ++ (new ++ [(Value.slice adc rowso[k].2.length capc, rowso[k].2)])) ++ R)) F) (fun w hw => ?_) ?_
              · have e1 : minerRw (.slice ad46 ((rows ++ new).length + 1) cap46) (rows ++ (new ++ [(Value.slice adc rowso[k].2.length capc, rowso[k].2)])) = ⟨.slice ad46 ((rows ++ new).length + 1) cap46, (rows ++ new).length + 1, 23, 1, (rows ++ new).map (·.1) ++ [.slice adc rowso[k].2.length capc]⟩ := by simp [minerRw]; omega
                have e2 : rowsR [(Value.slice adc rowso[k].2.length capc, rowso[k].2)] = [rowI (.slice adc rowso[k].2.length capc) rowso[k].2] := rfl
                rw [e1, ← List.append_assoc, rowsR_append, e2]
                exact (hw.drop).permR (by classical exact List.perm_iff_count.2 (fun x => by simp only [rowsR_append, List.set_cons_zero, List.set_cons_succ, List.count_append, List.count_cons, List.count_nil, List.cons_append, List.nil_append]; omega))
              refine H.on (fun w hw => hw.base) ?_
              refine H.take (i := 10) rfl (by kernel_rfl) (by kernel_rfl) (by kernel_rfl) (fun _ _ _ h => h) (fun w hw => hw.base) (ye_nilCheck rfl) rfl rfl (by decide) ?_
              refine H.take (i := 11) rfl (by kernel_rfl) (by kernel_rfl) (by kernel_rfl) (fun _ _ _ h => h) (fun w hw => hw.base) (ye_fieldAddr _ fa94_0 rfl) rfl rfl (by decide) ?_
              refine H.take (i := 12) rfl (by kernel_rfl) (by kernel_rfl) (by kernel_rfl) (fun _ _ _ h => h) (fun w hw => hw.base) (ye_fieldAddr _ fa92_1 rfl) rfl rfl (by decide) ?_
              refine H.one (i := 13) rfl (by kernel_rfl) ?_
              refine H.store1 0 rfl rfl rfl rfl Tryz.sizeOf37 rfl rfl ?_
              refine H.on (fun w hw => hw.base) ?_
              refine H.over (by kernel_rfl) ?_
              refine HN.keep [(0, _), (31, _), (32, _), (33, _)] ⟨rfl, rfl, rfl, rfl, trivial⟩ ?_
              refine HN.block ?_
              refine HN.then ?_
              refine H.region ?_
              refine H.q (yl_add rfl rfl ((k : Int) + 1) rfl (by omega)) rfl rfl (by decide) ?_
              refine H.q (yl_move rfl) rfl rfl (by decide) ?_
              refine HN.done ?_
              refine HN.keep [(0, _), (31, _), (32, _), (33, _)] ⟨rfl, rfl, rfl, rfl, trivial⟩ ?_
              refine HN.then ?_
              refine H.at ⟨k + 1, .slice ad46 ((rows ++ new).length + 1) cap46, (new ++ [(Value.slice adc rowso[k].2.length capc, rowso[k].2)])⟩ ⟨⟨hlt, ?_⟩, by simp only; omega⟩ ⟨rfl, rfl, rfl, rfl, trivial⟩ (fun w hw => hw)
              simp only [List.map_append, hnew]
              rw [List.take_succ_eq_append_getElem hlt, List.map_append]
              rfl
        · simp only [decide_eq_false_iff_not] at t3
          have hkl : k = rowso.length := by omega
          rw [hkl, List.take_length] at hnew
          refine H.keep [] trivial ?_
          refine HX.exit ?_
          refine HX.then ?_
          refine HX.then ?_
          refine HX.hit ?_
          refine HN.then ?_
          refine H.seq ?_
          refine H.region ?_
          refine H.q (yl_assign rfl) rfl rfl (by decide) ?_
          refine HN.done ?_
          refine HN.keep [(4, _)] ⟨rfl, trivial⟩ ?_
          refine HN.then ?_
          refine HR.ret ?_
          refine HR.ret1 _ Tryz.results35 rfl (fun w hw => ?_)
          exact ⟨rfl, rvz, new, hnew, hw.dropR⟩

set_option maxRecDepth 100000 in
theorem mergeNil_any (bm vars : Nat) (rv : Value) (rows : List (Value × List Int)) (w0 : World) (L : List BP) (R : List Rw) (F : List BP) (w : World) (_hmax : rows.length ≤ 1000) (hv1 : 1 ≤ vars) (hw : Hp w0 (minerB bm vars rv :: L) (minerRw rv rows :: (rowsR rows ++ R)) F w) : Calls Tryz.prog 35 #[.pointer (some ⟨bm, 0, none⟩), .pointer none] w fun e w' => e = .returned (.int .i64 2) ∧ Hp w0 (minerB bm vars rv :: L) (minerRw rv rows :: (rowsR rows ++ R)) F w' := by
  have hvt : decide ((0 : Int) < (vars : Int)) = true := decide_eq_true (by omega)
  refine enterA 51 Tryz.func35 rfl Tryz.ntmps35 rfl (Hp w0 (minerB bm vars rv :: L) (minerRw rv rows :: (rowsR rows ++ R)) F) hw ?_
  refine H.seq ?_
  refine H.region ?_
  refine H.q (yl_assign rfl) rfl rfl (by decide) ?_
  refine HN.done ?_
  refine HN.keep [(0, _), (1, _)] ⟨rfl, rfl, trivial⟩ ?_
  refine HN.then ?_
  -- branchy seq 0, live: [0, 1]
  refine H.seq ?_
  refine H.block ?_
  -- branchy seq 1, live: [0, 1, 7]
  refine H.seq ?_
  refine H.seq ?_
  refine H.region ?_
  refine H.q (yl_move rfl) rfl rfl (by decide) ?_
  refine H.q (yl_call (xs := [.tmp 8]) Tryz.call49 (stab_hp _ _ _ _) rfl (fun w hw => there_any bm vars w (hw.cell 0 rfl rfl))) rfl rfl (by decide) ?_
  refine H.q (yl_not rfl) rfl rfl (by decide) ?_
  refine H.q (yl_assign rfl) rfl rfl (by decide) ?_
  refine HN.done ?_
  refine HN.keep [(0, _), (1, _), (7, _)] ⟨rfl, rfl, rfl, trivial⟩ ?_
  refine HN.then ?_
  refine H.cond _ rfl (fun t0 => ?_) (fun t0 => ?_)
  · rw [hvt] at t0; exact absurd t0 (by decide)
    done
  · refine H.keep [(0, _), (1, _)] ⟨rfl, rfl, trivial⟩ ?_
    refine H.region ?_
    refine H.q (yl_move rfl) rfl rfl (by decide) ?_
    refine H.q (yl_call (xs := [.tmp 11]) Tryz.call49 (stab_hp _ _ _ _) rfl (fun w hw => there_nil w)) rfl rfl (by decide) ?_
    refine H.q (yl_not rfl) rfl rfl (by decide) ?_
    refine H.q (yl_assign rfl) rfl rfl (by decide) ?_
    refine HN.done ?_
    refine HN.keep [(0, _), (1, _), (7, _)] ⟨rfl, rfl, rfl, trivial⟩ ?_
    refine HN.then ?_
    refine H.cond _ rfl (fun t1 => ?_) (fun t1 => ?_)
    · refine H.keep [] trivial ?_
      refine H.seq ?_
      refine H.region ?_
      refine H.q (yl_assign rfl) rfl rfl (by decide) ?_
      refine HN.done ?_
      refine HN.keep [(4, _)] ⟨rfl, trivial⟩ ?_
      refine HN.then ?_
      refine HR.ret ?_
      refine HR.block ?_
      refine HR.then ?_
      refine HR.ret1 _ Tryz.results35 rfl (fun w hw => ?_)
      exact ⟨rfl, hw⟩
    · cases t1
      done

set_option maxRecDepth 100000 in
theorem copy_any (bm vars : Nat) (rv : Value) (rows : List (Value × List Int)) (w0 : World) (L : List BP) (R : List Rw) (F : List BP) (w : World) (hmax : rows.length ≤ 1000) (hv1 : 1 ≤ vars) (hlen : ∀ p ∈ rows, p.2.length ≤ 1000) (hw : Hp w0 (minerB bm vars rv :: L) (minerRw rv rows :: (rowsR rows ++ R)) F w) : Calls Tryz.prog 34 #[.pointer (some ⟨bm, 0, none⟩)] w fun e w' => ∃ bc rv' new, e = .returned (.pointer (some ⟨bc, 0, none⟩)) ∧ new.map (·.2) = rows.map (·.2) ∧ Hp w0 (minerB bc vars rv' :: (minerB bm vars rv :: L)) (minerRw rv' new :: (rowsR new ++ (minerRw rv rows :: (rowsR rows ++ R)))) F w' := by
  have hvt : decide ((0 : Int) < (vars : Int)) = true := decide_eq_true (by omega)
  refine enterA 19 Tryz.func34 rfl Tryz.ntmps34 rfl (Hp w0 (minerB bm vars rv :: L) (minerRw rv rows :: (rowsR rows ++ R)) F) hw ?_
  refine H.seq ?_
  refine H.region ?_
  refine H.q (yl_assign rfl) rfl rfl (by decide) ?_
  refine HN.done ?_
  refine HN.keep [(0, _)] ⟨rfl, trivial⟩ ?_
  refine HN.then ?_
  refine H.seq ?_
  refine H.seq ?_
  refine H.region ?_
  refine H.q (yl_move rfl) rfl rfl (by decide) ?_
  refine H.q (yl_call (xs := [.tmp 4]) Tryz.call49 (stab_hp _ _ _ _) rfl (fun w hw => there_any bm vars w (hw.cell 0 rfl rfl))) rfl rfl (by decide) ?_
  refine H.q (yl_not rfl) rfl rfl (by decide) ?_
  refine HN.done ?_
  refine HN.keep [(0, _), (6, _)] ⟨rfl, rfl, trivial⟩ ?_
  refine HN.then ?_
  refine H.cond _ rfl (fun t0 => ?_) (fun t0 => ?_)
  · rw [hvt] at t0; exact absurd t0 (by decide)
    done
  · refine H.keep [(0, _)] ⟨rfl, trivial⟩ ?_
    refine HN.skip ?_
    refine HN.then ?_
    refine H.seq ?_
    refine H.region ?_
    refine H.q (yl_move rfl) rfl rfl (by decide) ?_
    refine H.q (yl_nilCheck rfl) rfl rfl (by decide) ?_
    refine H.q (yl_fieldAddr _ fa94_0 rfl) rfl rfl (by decide) ?_
    refine H.q (yl_fieldAddr _ fa92_0 rfl) rfl rfl (by decide) ?_
    refine H.q (yl_load Tryz.isAgg3 rfl (fun w hw => hw.cell 0 rfl rfl)) rfl rfl (by decide) ?_
    refine H.q (yl_build (bd92 _) rfl) rfl rfl (by decide) ?_
    refine H.q (yl_build (bd94 _ _ _ _) rfl) rfl rfl (by decide) ?_
    refine H.boxA rfl (by decide) (fun b14 hb14 => ?_)
    refine H.q (yl_assign rfl) rfl rfl (by decide) ?_
    refine HN.done ?_
    refine HN.keep [(0, _), (3, _)] ⟨rfl, rfl, trivial⟩ ?_
    refine HN.then ?_
    refine H.seq ?_
    refine H.region ?_
    refine H.q (yl_move rfl) rfl rfl (by decide) ?_
    refine H.q (yl_move rfl) rfl rfl (by decide) ?_
    refine H.cls (Hp w0 (minerB b14 vars (.slice none 0 0) :: (minerB bm vars rv :: L)) (minerRw (.slice none 0 0) [] :: (rowsR [] ++ (minerRw rv rows :: (rowsR rows ++ R)))) F) (fun w hw => hw.rowNil 23 1) ?_
    refine H.callX (α := Value × List (Value × List Int)) (xs := [.tmp 15, .tmp 16]) (fun _ => .int .i64 0) (fun q => q.2.map (·.2) = rows.map (·.2)) (fun q => Hp w0 (minerB b14 vars q.1 :: (minerB bm vars rv :: L)) (minerRw q.1 q.2 :: (rowsR q.2 ++ (minerRw rv rows :: (rowsR rows ++ R)))) F) Tryz.call35 rfl (by decide) (fun w hw => (merge_any bm rv rows b14 vars (.slice none 0 0) [] w0 (minerB bm vars rv :: L) (minerRw rv rows :: (rowsR rows ++ R)) F w (Nat.zero_le _) hv1 hmax (fun w' h => h.cell 1 rfl rfl) (fun w' h => h.cell 1 rfl rfl) (fun w' h => Rw.isSl (h.row 1 rfl) rfl) (fun p hp => List.mem_append.2 (.inr (List.mem_cons_of_mem _ (List.mem_append.2 (.inl (List.mem_map.2 ⟨p, hp, rfl⟩)))))) hlen hw).mono fun e w' h => by obtain ⟨h1, rv', new, h2, h3⟩ := h; exact ⟨(rv', new), h1, h2, h3⟩) (fun q hq => ?_)
    refine HN.done ?_
    refine HN.keep [(3, _)] ⟨rfl, trivial⟩ ?_
    refine HN.then ?_
    refine H.seq ?_
    refine H.region ?_
    refine H.q (yl_move rfl) rfl rfl (by decide) ?_
    refine H.q (yl_assign rfl) rfl rfl (by decide) ?_
    refine HN.done ?_
    refine HN.keep [(2, _)] ⟨rfl, trivial⟩ ?_
    refine HN.then ?_
    refine HR.ret ?_
    refine HR.ret1 _ Tryz.results34 rfl (fun w hw => ?_)
    exact ⟨b14, q.1, q.2, rfl, hq, hw⟩


def followE (x : Inv) (vars : Nat) (rows : List (List Int)) : Bool × Int := if chk x vars ≠ 0 then (false, chk x vars) else (rows.all (fun r => holdsR x r), 0)

set_option maxRecDepth 100000 in
theorem followsC_any (x : Inv) (sv : Value) (row : List Int) (ev : Value) (b3 : Nat) (w0 : World) (hl : x.set.length ≤ 4611686018427387904) (hv : IsInts w0 sv x.set) (hr : row.length ≤ 1000000) (hrv : IsInts w0 ev row) (hch : chk x row.length = 0) (hsm : allSmallB row = true) (hb : w0.heap[b3]? = some (.cells [.int .u8 x.kind, .int .i64 x.a, .int .i64 x.b, .int .i64 x.k, .int .i64 x.m, sv].toArray 25)) : Calls Tryz.prog 53 #[ev, .pointer (some ⟨b3, 0, none⟩)] w0 fun e w' => e = .returned (.bool (!holdsR x row)) ∧ Ext w0 w' := by
  refine enterA 8 Tryz.func53 rfl Tryz.ntmps53 rfl (Hp w0 [] [] []) (Hp.init _) ?_
  refine H.seq ?_
  refine H.region ?_
  refine H.q (yl_assign rfl) rfl rfl (by decide) ?_
  refine HN.done ?_
  refine HN.keep [(0, _), (1, _)] ⟨rfl, rfl, trivial⟩ ?_
  refine HN.then ?_
  refine H.seq ?_
  refine H.region ?_
  refine H.q (yl_loadAgg _ Tryz.isAgg25 Tryz.sizeOf25 rfl (fun w hw => cells_of_blk (blk_ext hw.ext hb)) rfl) rfl rfl (by decide) ?_
  refine H.q (yl_move rfl) rfl rfl (by decide) ?_
  refine H.q (yl_call (xs := [.tmp 4, .tmp 5]) Tryz.call54 (stab_hp _ _ _ _) rfl (fun w hw => hold_any x sv w hl (hv.ext hw.ext) row ev (by omega) (hrv.ext hw.ext) hch hsm)) rfl rfl (by decide) ?_
  refine H.q (yl_not rfl) rfl rfl (by decide) ?_
  refine H.q (yl_assign rfl) rfl rfl (by decide) ?_
  refine HN.done ?_
  refine HN.keep [(3, _)] ⟨rfl, trivial⟩ ?_
  refine HN.then ?_
  refine HR.ret ?_
  refine HR.ret1 _ Tryz.results53 rfl (fun w hw => ?_)
  exact ⟨rfl, hw.ext⟩


theorem allSmall_of {l : List Int} (h : ∀ x ∈ l, smallB x = true) : allSmallB l = true := List.all_eq_true.2 h

set_option maxRecDepth 100000 in
theorem follows_any (bm vars : Nat) (rv : Value) (rows : List (Value × List Int)) (w0 : World) (ht : Tbl w0 bm vars rv rows) (hv1 : 1 ≤ vars) (hv8 : vars ≤ 8) (x : Inv) (sv : Value) (hl : x.set.length ≤ 4611686018427387904) (hv : IsInts w0 sv x.set) : Calls Tryz.prog 20 #[.pointer (some ⟨bm, 0, none⟩), .agg [.int .u8 x.kind, .int .i64 x.a, .int .i64 x.b, .int .i64 x.k, .int .i64 x.m, sv].toArray] w0 fun e w' => e = .returned (.tuple #[.bool (followE x vars (rowsE rows)).1, .int .i64 (followE x vars (rowsE rows)).2]) ∧ Ext w0 w' := by
  have hvt : decide ((0 : Int) < (vars : Int)) = true := decide_eq_true (by omega)
  refine enterA 28 Tryz.func20 rfl Tryz.ntmps20 rfl (Hp w0 [] [] []) (Hp.init _) ?_
  refine H.seq ?_
  refine H.region ?_
  refine H.boxA rfl (by decide) (fun b3 hb3 => ?_)
  refine H.q (yl_assign rfl) rfl rfl (by decide) ?_
  refine H.q (yl_assign rfl) rfl rfl (by decide) ?_
  refine HN.done ?_
  refine HN.keep [(0, _), (3, _)] ⟨rfl, rfl, trivial⟩ ?_
  refine HN.then ?_
  refine H.seq ?_
  refine H.seq ?_
  refine H.region ?_
  refine H.q (yl_move rfl) rfl rfl (by decide) ?_
  refine H.q (yl_call (xs := [.tmp 7]) Tryz.call49 (stab_hp _ _ _ _) rfl (fun w hw => there_any bm vars w (cell_ext hw.ext ht.var))) rfl rfl (by decide) ?_
  refine H.q (yl_not rfl) rfl rfl (by decide) ?_
  refine HN.done ?_
  refine HN.keep [(0, _), (3, _), (9, _)] ⟨rfl, rfl, rfl, trivial⟩ ?_
  refine HN.then ?_
  refine H.cond _ rfl (fun t0 => ?_) (fun t0 => ?_)
  · rw [hvt] at t0; exact absurd t0 (by decide)
    done
  · refine H.keep [(0, _), (3, _)] ⟨rfl, rfl, trivial⟩ ?_
    refine HN.skip ?_
    refine HN.then ?_
    refine H.seq ?_
    refine H.seq ?_
    refine H.regionQ Tryz.mixed (by kernel_rfl) (stab_hp _ _ _ _) ?_
    refine G.q (yl_loadAgg _ Tryz.isAgg25 Tryz.sizeOf25 rfl (fun w hw => cells_of_blk (hw.blk 0 rfl)) rfl) rfl rfl (by decide) ?_
    refine G.q (yl_move rfl) rfl rfl (by decide) ?_
    refine G.q (yl_nilCheck rfl) rfl rfl (by decide) ?_
    refine G.q (yl_fieldAddr _ fa94_0 rfl) rfl rfl (by decide) ?_
    refine G.q (yl_fieldAddr _ fa92_0 rfl) rfl rfl (by decide) ?_
    refine G.q (yl_load Tryz.isAgg3 rfl (fun w hw => cell_ext hw.ext ht.var)) rfl rfl (by decide) ?_
    refine G.q (yl_call (xs := [.tmp 10, .tmp 15]) Tryz.call28 (stab_hp _ _ _ _) rfl (fun w hw => check_any (vars : Int) x sv w hl (hv.ext hw.ext))) rfl rfl (by decide) ?_
    refine G.q (yl_assign rfl) rfl rfl (by decide) ?_
    refine HN.doneG ?_
    refine HN.keep [(0, _), (3, _), (6, _)] ⟨rfl, rfl, rfl, trivial⟩ ?_
    refine HN.then ?_
    refine H.seq ?_
    refine H.region ?_
    refine H.q (yl_move rfl) rfl rfl (by decide) ?_
    refine H.q (yl_neq rfl rfl) rfl rfl (by decide) ?_
    refine HN.done ?_
    refine HN.keep [(0, _), (3, _), (6, _), (18, _)] ⟨rfl, rfl, rfl, rfl, trivial⟩ ?_
    refine HN.then ?_
    refine H.cond _ rfl (fun t1 => ?_) (fun t1 => ?_)
    · simp only [decide_eq_true_eq] at t1
      refine H.keep [(6, _)] ⟨rfl, trivial⟩ ?_
      refine H.seq ?_
      refine H.region ?_
      refine H.q (yl_move rfl) rfl rfl (by decide) ?_
      refine H.q (yl_assign rfl) rfl rfl (by decide) ?_
      refine H.q (yl_assign rfl) rfl rfl (by decide) ?_
      refine HN.done ?_
      refine HN.keep [(4, _), (5, _)] ⟨rfl, rfl, trivial⟩ ?_
      refine HN.then ?_
      refine HR.ret ?_
      refine HR.then ?_
      refine HR.ret2 _ _ Tryz.results20 rfl rfl (fun w hw => ?_)
      refine ⟨?_, hw.ext⟩
      unfold followE
      rw [if_pos t1]
    · replace t1 := of_decide_eq_false t1
      simp only [ne_eq, Decidable.not_not] at t1
      refine H.keep [(0, _), (3, _)] ⟨rfl, rfl, trivial⟩ ?_
      refine HN.skip ?_
      refine HN.then ?_
      refine H.seq ?_
      refine H.region ?_
      refine H.q (yl_move rfl) rfl rfl (by decide) ?_
      refine H.q (yl_nilCheck rfl) rfl rfl (by decide) ?_
      refine H.q (yl_fieldAddr _ fa94_0 rfl) rfl rfl (by decide) ?_
      refine H.q (yl_fieldAddr _ fa92_1 rfl) rfl rfl (by decide) ?_
      refine H.q (yl_load Tryz.isAgg37 rfl (fun w hw => cell_ext hw.ext ht.cell)) rfl rfl (by decide) ?_
      refine H.q (yl_makeFunc (xs := [.tmp 3]) rfl) rfl rfl (by decide) ?_
      refine H.q (yl_call (xs := [.tmp 24, .tmp 25]) Tryz.call52 (stab_hp _ _ _ _) rfl (fun w hw => idxRC_any (fun p : Value × List Int => p.1) 53 [.pointer (some ⟨b3, 0, none⟩)] (fun p => !holdsR x p.2) rows rv w (by have := ht.max; omega) (ht.isr.ext hw.ext).1 Tryz.call53 (fun j hj w' he => followsC_any x sv rows[j].2 rows[j].1 b3 w' hl ((hv.ext hw.ext).ext he) (by rw [ht.len _ (List.getElem_mem hj)]; omega) (((ht.isr.ext hw.ext).2 _ (List.getElem_mem hj)).ext he) (by rw [ht.len _ (List.getElem_mem hj)]; exact t1) (allSmall_of (ht.small _ (List.getElem_mem hj))) (blk_ext he (hw.blk 0 rfl))))) rfl rfl (by decide) ?_
      refine H.q (yl_not rfl) rfl rfl (by decide) ?_
      refine H.q (yl_assign rfl) rfl rfl (by decide) ?_
      refine H.q (yl_assign rfl) rfl rfl (by decide) ?_
      refine HN.done ?_
      refine HN.keep [(4, _), (5, _)] ⟨rfl, rfl, trivial⟩ ?_
      refine HN.then ?_
      refine HR.ret ?_
      refine HR.ret2 _ _ Tryz.results20 rfl rfl (fun w hw => ?_)
      refine ⟨?_, hw.ext⟩
      unfold followE
      rw [if_neg (not_not_intro t1)]
      have e1 : (rowsE rows).all (fun r => holdsR x r) = !rows.any (fun p => !holdsR x p.2) := by
        rw [List.all_map, List.any_eq_not_all_not]
        simp [Function.comp_def]
      rw [e1]

end Go.Proofs.YtgbgddmbooaddaaGreatDoor

namespace Go.Proofs.YtgbgddmbooaddaaGreatDoor
open Go.RowKit Go.MapKept

theorem Hp.join {w0 w w' : World} {L L' : List BP} {R R' : List Rw} {F : List BP} (h : Hp w0 L R F w) (k : Hp w L' R' [] w') : Hp w0 (L' ++ L) (R' ++ R) F w' := by
  have s := h.step k.ext
  have hp : (owned (L' ++ L) (R' ++ R)).Perm (owned L' R' ++ owned L R) := by
    unfold owned
    rw [List.map_append, List.filterMap_append, List.append_assoc, List.append_assoc]
    refine List.Perm.append_left _ ?_
    rw [← List.append_assoc, ← List.append_assoc]
    exact List.Perm.append_right _ List.perm_append_comm
  refine ⟨s.ext, fun p hp => ?_, fun r hr => ?_, s.fgn, hp.nodup_iff.2 (List.nodup_append.2 ⟨k.nodup, h.nodup, fun x hx y hy e => ?_⟩), fun b hb => ?_, fun b hb p hpF => ?_⟩
  · rcases List.mem_append.1 hp with hp | hp
    · exact k.own p hp
    · exact s.own p hp
  · rcases List.mem_append.1 hr with hr | hr
    · exact k.rows r hr
    · exact s.rows r hr
  · have h1 := k.low x hx
    have h2 := h.lt hy
    omega
  · rcases List.mem_append.1 (hp.mem_iff.1 hb) with hb | hb
    · exact Nat.le_trans h.ext.size (k.low b hb)
    · exact h.low b hb
  · rcases List.mem_append.1 (hp.mem_iff.1 hb) with hb | hb
    · have h1 := k.low b hb
      have h2 := h.fgn_lt hpF
      omega
    · exact h.apart b hb p hpF
section
variable {P : Program} {n : Nat} {e : Env} {C S : World → Prop} {d : Option Tmp} {t : TypeId} {p : String} {af : Array Edge} {g : Option (Nat × Bool)}
/-- 'p == nil' of a pointer. -/
theorem yl_ptrEql {ty ty' T : TypeId} {x : Operand} {ad : Option Addr} (hu : P.underlying ty = some (.pointer T)) (hx : eev e x = some (.pointer ad)) : Yl P C n e ⟨d, .binOp .eql ty x (.const (.pointer none)) ty', t, p, af, g⟩ (.bool ad.isNone) :=
  Yl.val fun ac w hf _ => by
    have h3 : ac.eval (.const (.pointer none)) = .pointer none := rfl
    have e1 : ∀ (k : Nat) (a : Addr), (Op.equalIn (k + 1) ty (.pointer (some a)) (.pointer none)).run P w = .ok false w := fun k a => by simp [Op.equalIn, run_underlying hu]
    have e2 : ∀ k : Nat, (Op.equalIn (k + 1) ty (.pointer none) (.pointer none)).run P w = .ok true w := fun k => by simp [Op.equalIn, run_underlying hu]
    have f1 : ∀ a : Addr, (binOp .eql ty (.pointer (some a)) (.pointer none)).run P w = .ok (.bool false) w := fun a => by
      simp only [binOp]
      simp [Op.equal, Op.maxDepth, e1 9999]
    have f2 : (binOp .eql ty (.pointer none) (.pointer none)).run P w = .ok (.bool true) w := by
      simp only [binOp]
      simp [Op.equal, Op.maxDepth, e2 9999]
    simp only [execOp, hf.ev hx, h3]
    cases ad with
    | none => simp [eqGuard, f2]
    | some a => simp [eqGuard, f1]
end

/-! ### What lies in a block -/
theorem sl_blk {w : World} {b el : Nat} {xs : List Value} (h : w.heap[b]? = some (.cells xs.toArray el)) (n : Nat) (hn : n = xs.length) : IsSl w (.slice (some ⟨b, 0, none⟩) n n) xs := by
  subst hn
  exact ⟨_, _, b, 0, rfl, Nat.le_refl _, fun j x hj => ⟨rfl, by rw [Nat.zero_add]; exact cell_of_blk h (by simpa using hj)⟩⟩
theorem flatN {sz : Nat} : ∀ (css : List (List Value)), (∀ cs ∈ css, cs.length = sz) → ∀ (j : Nat) (cs : List Value), css[j]? = some cs → ∀ (i : Nat) (u : Value), cs[i]? = some u → css.flatten[j * sz + i]? = some u := by
  intro css
  induction css with
  | nil => intro _ j cs hj; simp at hj
  | cons c css ih =>
    intro hl j cs hj i u hu
    have hc : c.length = sz := hl c (by simp)
    cases j with
    | zero =>
      simp only [List.getElem?_cons_zero, Option.some.injEq] at hj
      subst hj
      have hi := (List.getElem?_eq_some_iff.1 hu).1
      rw [List.flatten_cons, Nat.zero_mul, Nat.zero_add, List.getElem?_append_left hi]
      exact hu
    | succ j =>
      simp only [List.getElem?_cons_succ] at hj
      have := ih (fun cs h => hl cs (List.mem_cons_of_mem _ h)) j cs hj i u hu
      rw [List.flatten_cons, List.getElem?_append_right (by rw [hc, Nat.succ_mul]; omega), ← this]
      congr 1
      rw [hc, Nat.succ_mul]
      omega
theorem sz_row {w : World} {v : Value} {el sz : Nat} {css : List (List Value)} (hsz : 0 < sz) (hl : ∀ cs ∈ css, cs.length = sz) (h : Rw.ok w ⟨v, css.length, el, sz, css.flatten⟩) : IsSz w v sz css := by
  obtain ⟨ad, cap, b, h1, h2, h3, h4⟩ := Rw.open h
  refine ⟨ad, cap, b, 0, h1, h2, fun j cs hj => ?_⟩
  have hc : cs.length = sz := hl cs (List.mem_of_getElem? hj)
  have h0 : cs[0]? = some cs[0] := List.getElem?_eq_getElem (by omega)
  refine ⟨(h4 w h _ _ (flatN css hl j cs hj 0 _ h0)).1, fun i u hi => ?_⟩
  rw [Nat.zero_add]
  exact (h4 w h _ _ (flatN css hl j cs hj i u hi)).2
theorem sz_blk {w : World} {b el sz : Nat} {css : List (List Value)} (hl : ∀ cs ∈ css, cs.length = sz) (h : w.heap[b]? = some (.cells css.flatten.toArray el)) (n : Nat) (hn : n = css.length) : IsSz w (.slice (some ⟨b, 0, none⟩) n n) sz css := by
  subst hn
  refine ⟨_, _, b, 0, rfl, Nat.le_refl _, fun j cs hj => ⟨rfl, fun i u hi => ?_⟩⟩
  rw [Nat.zero_add]
  exact cell_of_blk h (by simpa using flatN css hl j cs hj i u hi)
theorem cells6 (ls : List (Value × Inv)) : ∀ cs ∈ ls.map cellsI, cs.length = 6 := fun cs h => by
  obtain ⟨p, _, rfl⟩ := List.mem_map.1 h
  rfl
theorem claims_row {w : World} {v : Value} {ls : List (Value × Inv)} (h : Rw.ok w (claimsRw v ls)) (hs : ∀ r ∈ setsR ls, r.ok w) : IsClaims w v ls :=
  ⟨sz_row (by decide) (cells6 ls) (by rw [List.length_map]; exact h), fun p hp => IsInts.of_row (hs _ (List.mem_map.2 ⟨p, hp, rfl⟩))⟩
theorem rows_row {w : World} {v : Value} {rows : List (Value × List Int)} (h : Rw.ok w (minerRw v rows)) (hs : ∀ r ∈ rowsR rows, r.ok w) : IsRows w v rows :=
  ⟨Rw.isSl h rfl, fun p hp => IsInts.of_row (hs _ (List.mem_map.2 ⟨p, hp, rfl⟩))⟩
theorem Tbl.of {w : World} {bm vars : Nat} {rv : Value} {rows : List (Value × List Int)} (hb : w.heap[bm]? = some (.cells #[.int .i64 (vars : Int), rv] 94)) (hr : Rw.ok w (minerRw rv rows)) (hs : ∀ r ∈ rowsR rows, r.ok w)
    (hlen : ∀ p ∈ rows, p.2.length = vars) (hmax : rows.length ≤ 1000) (hsm : ∀ p ∈ rows, allSmallB p.2 = true) : Tbl w bm vars rv rows :=
  ⟨cell_of_blk hb rfl, cell_of_blk hb rfl, rows_row hr hs, hlen, by omega, fun p hp x hx => List.all_eq_true.1 (hsm p hp) x hx⟩
theorem sortI_eq {l m : List Int} (hp : l.Perm m) (hs : m.Pairwise fun x y => x ≤ y) : sortI l = m := by
  refine List.Perm.eq_of_pairwise (le := fun x y : Int => x ≤ y) (fun a b _ _ h1 h2 => by omega) (sortI_sorted l) hs ((List.mergeSort_perm l _).trans hp)
end Go.Proofs.YtgbgddmbooaddaaGreatDoor

namespace Go.Proofs.YtgbgddmbooaddaaGreatDoor
open Go.RowKit

def exRows : List (List Int) := [[1, 2], [3, 6], [2, 4]]
def exWant : List Inv := [⟨3, 0, 0, 1, 0, []⟩, ⟨4, 0, 0, 3, 0, []⟩, ⟨2, 0, 0, 0, 0, [1, 2, 3]⟩, ⟨3, 1, 0, 2, 0, []⟩, ⟨4, 1, 0, 6, 0, []⟩, ⟨2, 1, 0, 0, 0, [2, 4, 6]⟩, ⟨9, 0, 1, 0, 0, []⟩, ⟨11, 0, 1, 2, 0, []⟩]
theorem ex_f0 : factsE exRows 0 = [1, 2, 3] := sortI_eq (by decide) (by decide)
theorem ex_f1 : factsE exRows 1 = [2, 4, 6] := sortI_eq (by decide) (by decide)
theorem ex_claims : claimsE exRows 2 1 = exWant := by
  rw [claimsE_eq (by decide)]
  have e : claimsA exRows 2 = (aloneE (factsE exRows 0) (0 : Nat) ++ aloneE (factsE exRows 1) (1 : Nat)) ++ (if (factsE exRows 0).length > 1 ∧ (factsE exRows 1).length > 1 then coupleE exRows (factsE exRows 0) (factsE exRows 1) (0 : Nat) (1 : Nat) else []) := by
    simp [claimsA, aloneA, pairA, pairE, List.range_succ]
  rw [e, ex_f0, ex_f1]
  rfl
theorem ex_write : writeE ⟨6, 0, 0, 1, 4, []⟩ [[120]] = ([120, 32, 37, 32, 52, 32, 61, 61, 32, 49], 0) := by kernel_rfl
theorem ex_read : readL [121, 32, 61, 61, 32, 45, 50, 32, 42, 32, 120, 32, 43, 32, 55] [[120], [121]] = (⟨11, 0, 1, -2, 7, []⟩, 0) := by kernel_rfl
end Go.Proofs.YtgbgddmbooaddaaGreatDoor

namespace Go.Proofs.YtgbgddmbooaddaaGreatDoor
open Go.RowKit

theorem bd25_03 (k x : Int) (w : World) : (Instr.build 25 [(0, .int .u8 k), (3, .int .i64 x)].toArray).run Tryz.prog w = .ok (.agg [.int .u8 k, .int .i64 0, .int .i64 0, .int .i64 x, .int .i64 0, .slice none 0 0].toArray) w := by kernel_rfl
theorem bd25_05 (k : Int) (ad : Option Addr) (n c : Nat) (w : World) : (Instr.build 25 [(0, .int .u8 k), (5, .slice ad n c)].toArray).run Tryz.prog w = .ok (.agg [.int .u8 k, .int .i64 0, .int .i64 0, .int .i64 0, .int .i64 0, .slice ad n c].toArray) w := by kernel_rfl
theorem bd25_02 (k b : Int) (w : World) : (Instr.build 25 [(0, .int .u8 k), (2, .int .i64 b)].toArray).run Tryz.prog w = .ok (.agg [.int .u8 k, .int .i64 0, .int .i64 b, .int .i64 0, .int .i64 0, .slice none 0 0].toArray) w := by kernel_rfl
theorem bd25_023 (k b x : Int) (w : World) : (Instr.build 25 [(0, .int .u8 k), (2, .int .i64 b), (3, .int .i64 x)].toArray).run Tryz.prog w = .ok (.agg [.int .u8 k, .int .i64 0, .int .i64 b, .int .i64 x, .int .i64 0, .slice none 0 0].toArray) w := by kernel_rfl
theorem bd25_034 (k x m : Int) (w : World) : (Instr.build 25 [(0, .int .u8 k), (3, .int .i64 x), (4, .int .i64 m)].toArray).run Tryz.prog w = .ok (.agg [.int .u8 k, .int .i64 0, .int .i64 0, .int .i64 x, .int .i64 m, .slice none 0 0].toArray) w := by kernel_rfl
theorem bd25_0234 (k b x m : Int) (w : World) : (Instr.build 25 [(0, .int .u8 k), (2, .int .i64 b), (3, .int .i64 x), (4, .int .i64 m)].toArray).run Tryz.prog w = .ok (.agg [.int .u8 k, .int .i64 0, .int .i64 b, .int .i64 x, .int .i64 m, .slice none 0 0].toArray) w := by kernel_rfl
theorem bs23_2 (a b : Int) (w : World) : (Instr.buildSlice 23 2 [(0, .int .i64 a), (1, .int .i64 b)].toArray).run Tryz.prog w = .ok (.slice (some ⟨w.heap.size, 0, none⟩) 2 2) (w.alloc (.cells [.int .i64 a, .int .i64 b].toArray 2)) := by kernel_rfl
theorem bs23_3 (a b c : Int) (w : World) : (Instr.buildSlice 23 3 [(0, .int .i64 a), (1, .int .i64 b), (2, .int .i64 c)].toArray).run Tryz.prog w = .ok (.slice (some ⟨w.heap.size, 0, none⟩) 3 3) (w.alloc (.cells [.int .i64 a, .int .i64 b, .int .i64 c].toArray 2)) := by kernel_rfl
theorem bs37_3 (a : Option Addr) (n c : Nat) (a2 : Option Addr) (n2 c2 : Nat) (a3 : Option Addr) (n3 c3 : Nat) (w : World) : (Instr.buildSlice 37 3 [(0, .slice a n c), (1, .slice a2 n2 c2), (2, .slice a3 n3 c3)].toArray).run Tryz.prog w = .ok (.slice (some ⟨w.heap.size, 0, none⟩) 3 3) (w.alloc (.cells [.slice a n c, .slice a2 n2 c2, .slice a3 n3 c3].toArray 23)) := by kernel_rfl
theorem bs26_2 (s u : ByteArray) (w : World) : (Instr.buildSlice 26 2 [(0, .string s), (1, .string u)].toArray).run Tryz.prog w = .ok (.slice (some ⟨w.heap.size, 0, none⟩) 2 2) (w.alloc (.cells [.string s, .string u].toArray 9)) := by kernel_rfl
theorem bs28_8 (ad1 : Option Addr) (c1 : Nat) (ad2 : Option Addr) (c2 : Nat) (w : World) : (Instr.buildSlice 28 8 [(0, .agg [.int .u8 3, .int .i64 0, .int .i64 0, .int .i64 1, .int .i64 0, .slice none 0 0].toArray), (1, .agg [.int .u8 4, .int .i64 0, .int .i64 0, .int .i64 3, .int .i64 0, .slice none 0 0].toArray), (2, .agg [.int .u8 2, .int .i64 0, .int .i64 0, .int .i64 0, .int .i64 0, .slice ad1 3 c1].toArray), (3, .agg [.int .u8 3, .int .i64 1, .int .i64 0, .int .i64 2, .int .i64 0, .slice none 0 0].toArray), (4, .agg [.int .u8 4, .int .i64 1, .int .i64 0, .int .i64 6, .int .i64 0, .slice none 0 0].toArray), (5, .agg [.int .u8 2, .int .i64 1, .int .i64 0, .int .i64 0, .int .i64 0, .slice ad2 3 c2].toArray), (6, .agg [.int .u8 9, .int .i64 0, .int .i64 1, .int .i64 0, .int .i64 0, .slice none 0 0].toArray), (7, .agg [.int .u8 11, .int .i64 0, .int .i64 1, .int .i64 2, .int .i64 0, .slice none 0 0].toArray)].toArray).run Tryz.prog w = .ok (.slice (some ⟨w.heap.size, 0, none⟩) 8 8) (w.alloc (.cells [.int .u8 3, .int .i64 0, .int .i64 0, .int .i64 1, .int .i64 0, .slice none 0 0, .int .u8 4, .int .i64 0, .int .i64 0, .int .i64 3, .int .i64 0, .slice none 0 0, .int .u8 2, .int .i64 0, .int .i64 0, .int .i64 0, .int .i64 0, .slice ad1 3 c1, .int .u8 3, .int .i64 1, .int .i64 0, .int .i64 2, .int .i64 0, .slice none 0 0, .int .u8 4, .int .i64 1, .int .i64 0, .int .i64 6, .int .i64 0, .slice none 0 0, .int .u8 2, .int .i64 1, .int .i64 0, .int .i64 0, .int .i64 0, .slice ad2 3 c2, .int .u8 9, .int .i64 0, .int .i64 1, .int .i64 0, .int .i64 0, .slice none 0 0, .int .u8 11, .int .i64 0, .int .i64 1, .int .i64 2, .int .i64 0, .slice none 0 0].toArray 25)) := by kernel_rfl
theorem newOk_any (vars : Nat) (w : World) (h1 : 1 ≤ vars) (h8 : vars ≤ 8) : Calls Tryz.prog 17 #[.int .i64 (vars : Int)] w fun e w' => ∃ bm, e = .returned (.tuple #[.pointer (some ⟨bm, 0, none⟩), .int .i64 0]) ∧ Hp w [minerB bm vars (.slice none 0 0)] [] [] w' :=
  (new_any (vars : Int) w).mono fun e w' h => by
    rcases h with ⟨h, _⟩ | ⟨h, _⟩ | ⟨_, _, bm, h2, h3⟩
    · omega
    · omega
    · exact ⟨bm, h2, h3⟩


def exLb (b20 b21 b22 b23 : Nat) : List BP := [(b23, ex (.cells [.slice (some ⟨b20, 0, none⟩) 2 2, .slice (some ⟨b21, 0, none⟩) 2 2, .slice (some ⟨b22, 0, none⟩) 2 2].toArray 23)), (b22, ex (.cells [.int .i64 2, .int .i64 4].toArray 2)), (b21, ex (.cells [.int .i64 3, .int .i64 6].toArray 2)), (b20, ex (.cells [.int .i64 1, .int .i64 2].toArray 2))]
def exSv (b20 b21 b22 k : Nat) : Value := ([.slice (some ⟨b20, 0, none⟩) 2 2, .slice (some ⟨b21, 0, none⟩) 2 2, .slice (some ⟨b22, 0, none⟩) 2 2].getD k (.slice none 0 0))
theorem exSv_ints {w0 w : World} {p : BP} {R : List Rw} {b20 b21 b22 b23 k : Nat} (hk : k = 0 ∨ k = 1 ∨ k = 2) (hw : Hp w0 (p :: exLb b20 b21 b22 b23) R [] w) : IsInts w (exSv b20 b21 b22 k) (exRows.getD k []) := by
  rcases hk with rfl | rfl | rfl
  · exact sl_blk (hw.blk 4 rfl) 2 rfl
  · exact sl_blk (hw.blk 3 rfl) 2 rfl
  · exact sl_blk (hw.blk 2 rfl) 2 rfl
theorem exSv_cell {w0 w : World} {p : BP} {R : List Rw} {b20 b21 b22 b23 k : Nat} (hk : k = 0 ∨ k = 1 ∨ k = 2) (hw : Hp w0 (p :: exLb b20 b21 b22 b23) R [] w) : w.cell? ⟨b23, 0 + k, none⟩ = some (exSv b20 b21 b22 k) := by
  rcases hk with rfl | rfl | rfl <;> exact hw.cell 1 rfl rfl
theorem ex_add {k : Nat} (hk : k = 0 ∨ k = 1 ∨ k = 2) : addE (exRows.getD k []) 2 = 0 ∧ (exRows.getD k []).length ≤ 1000 ∧ exRows.take (k + 1) = exRows.take k ++ [exRows.getD k []] := by
  rcases hk with rfl | rfl | rfl <;> exact ⟨by decide, by decide, rfl⟩
theorem ex_len : ∀ r, r ∈ exRows → r.length = 2 := by decide
theorem ex_small : ∀ r, r ∈ exRows → allSmallB r = true := by decide
theorem ex_sets : ∀ x, x ∈ exWant → x.set.length ≤ 4611686018427387904 := by
  intro x hx
  simp only [exWant, List.mem_cons, List.not_mem_nil, or_false] at hx
  rcases hx with rfl | rfl | rfl | rfl | rfl | rfl | rfl | rfl <;> decide

set_option maxRecDepth 100000 in
theorem learns_any (w0 : World) (hvars : Vars w0) : Calls Tryz.prog 11 #[] w0 fun e w' => e = .returned (.bool true) ∧ Ext w0 w' := by
  refine enterA 85 Tryz.func11 rfl Tryz.ntmps11 rfl (Hp w0 [] [] []) (Hp.init _) ?_
  refine H.seq ?_
  refine H.region ?_
  refine H.q (yl_assign rfl) rfl rfl (by decide) ?_
  refine HN.done ?_
  refine HN.keep [] trivial ?_
  refine HN.then ?_
  refine H.seq ?_
  refine H.region ?_
  refine H.callX (α := Nat) (xs := [.const (.int .i64 2)]) (fun bm => .tuple #[.pointer (some ⟨bm, 0, none⟩), .int .i64 0]) (fun _ => True) (fun bm => Hp w0 [minerB bm 2 (.slice none 0 0)] [minerRw (.slice none 0 0) []] []) Tryz.call17 rfl (by decide) (fun w hw => (newOk_any 2 w (by decide) (by decide)).mono fun e w' h => by obtain ⟨bm, h1, h2⟩ := h; exact ⟨bm, h1, trivial, (hw.join h2).rowNil 23 1⟩) (fun bm _ => ?_)
  refine H.q (yl_move rfl) rfl rfl (by decide) ?_
  refine H.q (yl_extract _ rfl rfl) rfl rfl (by decide) ?_
  refine H.q (yl_extract _ rfl rfl) rfl rfl (by decide) ?_
  refine H.q (yl_assign rfl) rfl rfl (by decide) ?_
  refine H.q (yl_assign rfl) rfl rfl (by decide) ?_
  refine HN.done ?_
  refine HN.keep [(1, _), (2, _)] ⟨rfl, rfl, trivial⟩ ?_
  refine HN.then ?_
  refine H.seq ?_
  refine H.seq ?_
  refine H.region ?_
  refine H.q (yl_move rfl) rfl rfl (by decide) ?_
  refine H.q (yl_neq rfl rfl) rfl rfl (by decide) ?_
  refine H.q (yl_move rfl) rfl rfl (by decide) ?_
  refine H.qg (wn_f rfl rfl (by decide) rfl) (fun hg => yl_sub [(1, _)] ⟨rfl, trivial⟩ (yl_move rfl)) rfl (by decide) ?_
  refine H.qg (wn_f rfl rfl (by decide) rfl) (fun hg => yl_sub [(17, _)] ⟨slT rfl hg, trivial⟩ (yl_ptrEql Tryz.underlying38 rfl)) rfl (by decide) ?_
  refine H.q (yl_or rfl rfl) rfl rfl (by decide) ?_
  refine HN.done ?_
  refine HN.keep [(1, _), (19, _)] ⟨rfl, rfl, trivial⟩ ?_
  refine HN.then ?_
  refine H.cond _ rfl (fun t0 => ?_) (fun t0 => ?_)
  · simp at t0
    done
  · refine H.keep [(1, _)] ⟨rfl, trivial⟩ ?_
    refine HN.skip ?_
    refine HN.then ?_
    refine H.seq ?_
    refine H.region ?_
    refine H.buildSlice (bs23_2 _ _) rfl (by decide) (fun b20 hb20 => ?_)
    refine H.buildSlice (bs23_2 _ _) rfl (by decide) (fun b21 hb21 => ?_)
    refine H.buildSlice (bs23_2 _ _) rfl (by decide) (fun b22 hb22 => ?_)
    refine H.buildSlice (bs37_3 _ _ _ _ _ _ _ _ _) rfl (by decide) (fun b23 hb23 => ?_)
    refine H.q (yl_assign rfl) rfl rfl (by decide) ?_
    refine HN.done ?_
    refine HN.keep [(1, _), (3, _)] ⟨rfl, rfl, trivial⟩ ?_
    refine HN.cls (Hp w0 (minerB bm 2 (.slice none 0 0) :: (exLb b20 b21 b22 b23)) (minerRw (.slice none 0 0) [] :: (rowsR [] ++ [])) []) (fun w hw => hw.permL (by unfold exLb; classical exact List.perm_iff_count.2 (fun x => by simp only [List.count_cons, List.count_nil]; omega))) ?_
    refine HN.then ?_
    refine H.seq ?_
    refine H.seq ?_
    refine H.region ?_
    refine H.q (yl_assign rfl) rfl rfl (by decide) ?_
    refine HN.done ?_
    refine HN.keep [(1, _), (3, _), (4, _)] ⟨rfl, rfl, rfl, trivial⟩ ?_
    refine HN.then ?_
    refine H.block ?_
    refine H.loop (fun z : MZ => [(1, .pointer (some ⟨bm, 0, none⟩)), (3, .slice (some ⟨b23, 0, none⟩) 3 3), (4, .int .i64 (z.k : Int))]) (fun z => z.k ≤ 3 ∧ z.new.map (·.2) = exRows.take z.k) (fun z => Hp w0 (minerB bm 2 z.rv :: (exLb b20 b21 b22 b23)) (minerRw z.rv z.new :: (rowsR z.new ++ [])) []) (fun z => 3 - z.k) ⟨0, .slice none 0 0, []⟩ ⟨Nat.zero_le _, rfl⟩ ⟨rfl, rfl, rfl, trivial⟩ (fun w hw => hw) (fun z hI0 => ?_)
    obtain ⟨k, rvz, new⟩ := z
    obtain ⟨hI, hnew⟩ := hI0
    simp only at hI hnew
    have hnl : new.length = k := by have := congrArg List.length hnew; simp [exRows] at this; omega
    refine H.seq ?_
    refine H.seq ?_
    refine H.region ?_
    refine H.q (yl_move rfl) rfl rfl (by decide) ?_
    refine H.q (yl_move rfl) rfl rfl (by decide) ?_
    refine H.q (yl_len rfl Tryz.underlying37 rfl) rfl rfl (by decide) ?_
    refine H.q (yl_lss rfl rfl) rfl rfl (by decide) ?_
    refine HN.done ?_
    refine HN.keep [(1, _), (3, _), (4, _), (27, _)] ⟨rfl, rfl, rfl, rfl, trivial⟩ ?_
    refine HN.then ?_
    refine H.cond _ rfl (fun t1 => ?_) (fun t1 => ?_)
    · replace t1 := of_decide_eq_true t1
      have hlt : k < 3 := by have : (k : Int) < 3 := t1; omega
      have hk3 : k = 0 ∨ k = 1 ∨ k = 2 := by omega
      refine H.keep [(1, _), (3, _), (4, _)] ⟨rfl, rfl, rfl, trivial⟩ ?_
      refine HN.skip ?_
      refine HN.then ?_
      refine H.seq ?_
      refine H.block ?_
      refine H.seq ?_
      refine H.region ?_
      refine H.q (yl_move rfl) rfl rfl (by decide) ?_
      refine H.q (yl_move rfl) rfl rfl (by decide) ?_
      refine H.q (yl_move rfl) rfl rfl (by decide) ?_
      refine H.q (yl_ix k Tryz.underlying37 Tryz.sizeOf23 rfl rfl rfl rfl hlt) rfl rfl (by decide) ?_
      refine H.q (yl_load (v := (exSv b20 b21 b22 k)) Tryz.isAgg23 rfl (fun w hw => exSv_cell hk3 hw)) rfl rfl (by decide) ?_
      refine H.callX (α := Value × List (Value × List Int)) (xs := [.tmp 30, .tmp 34]) (fun _ => .int .i64 0) (fun q => q.2.map (·.2) = exRows.take (k + 1)) (fun q => Hp w0 (minerB bm 2 q.1 :: (exLb b20 b21 b22 b23)) (minerRw q.1 q.2 :: (rowsR q.2 ++ [])) []) Tryz.call19 rfl (by decide) (fun w hw => (add_any (exRows.getD k []) (exSv b20 b21 b22 k) bm 2 rvz new w0 (exLb b20 b21 b22 b23) [] [] w (by omega) (by decide) (ex_add hk3).2.1 (fun w' hw' => exSv_ints hk3 hw') hw).mono fun e w' h => by
        have h0 := (ex_add hk3).1
        rcases h with ⟨h, _⟩ | ⟨_, h1, rv', cv, h2⟩
        · exact absurd h0 h
        · exact ⟨(rv', new ++ [(cv, exRows.getD k [])]), h1, by simp only [List.map_append, hnew]; exact (ex_add hk3).2.2.symm, h2⟩) (fun q hq => ?_)
      refine H.q (yl_neq rfl rfl) rfl rfl (by decide) ?_
      refine HN.done ?_
      refine HN.keep [(1, _), (3, _), (4, _), (36, _)] ⟨rfl, rfl, rfl, rfl, trivial⟩ ?_
      refine HN.then ?_
      refine H.cond _ rfl (fun t2 => ?_) (fun t2 => ?_)
      · simp at t2
        done
      · refine H.keep [(1, _), (3, _), (4, _)] ⟨rfl, rfl, rfl, trivial⟩ ?_
        refine HN.skip ?_
        refine HN.block ?_
        refine HN.then ?_
        refine H.region ?_
        refine H.q (yl_move rfl) rfl rfl (by decide) ?_
        refine H.q (yl_add rfl rfl _ rfl (by omega)) rfl rfl (by decide) ?_
        refine H.q (yl_assign rfl) rfl rfl (by decide) ?_
        refine HN.done ?_
        refine HN.keep [(1, _), (3, _), (4, _)] ⟨rfl, rfl, rfl, trivial⟩ ?_
        refine HN.then ?_
        exact H.at ⟨k + 1, q.1, q.2⟩ ⟨⟨hlt, hq⟩, by simp only; omega⟩ ⟨rfl, rfl, rfl, trivial⟩ (fun w hw => hw)
    · replace t1 := of_decide_eq_false t1
      have hk : k = 3 := by have : ¬ (k : Int) < 3 := t1; omega
      subst hk
      have hrows : rowsE new = exRows := hnew
      refine H.pull (fun w hw => Rw.isSlice (v := rvz) (len := new.length) (hw.row 0 rfl)) (fun ho => ?_)
      obtain ⟨adr, capr, rfl⟩ := ho
      refine H.keep [(1, _)] ⟨rfl, trivial⟩ ?_
      refine HX.exit ?_
      refine HX.then ?_
      refine HX.then ?_
      refine HX.hit ?_
      refine HN.then ?_
      refine H.seq ?_
      refine H.region ?_
      refine H.q (yl_build (bd25_03 _ _) rfl) rfl rfl (by decide) ?_
      refine H.q (yl_build (bd25_03 _ _) rfl) rfl rfl (by decide) ?_
      refine H.buildSlice (bs23_3 _ _ _) rfl (by decide) (fun b39 hb39 => ?_)
      refine H.q (yl_build (bd25_05 _ _ _ _) rfl) rfl rfl (by decide) ?_
      refine H.q (yl_build (bd25_013 _ _ _) rfl) rfl rfl (by decide) ?_
      refine H.q (yl_build (bd25_013 _ _ _) rfl) rfl rfl (by decide) ?_
      refine H.buildSlice (bs23_3 _ _ _) rfl (by decide) (fun b43 hb43 => ?_)
      refine H.q (yl_build (bd25_015 _ _ _ _ _) rfl) rfl rfl (by decide) ?_
      refine H.q (yl_build (bd25_02 _ _) rfl) rfl rfl (by decide) ?_
      refine H.q (yl_build (bd25_023 _ _ _) rfl) rfl rfl (by decide) ?_
      refine H.buildSlice (bs28_8 _ _ _ _) rfl (by decide) (fun b47 hb47 => ?_)
      refine H.q (yl_assign rfl) rfl rfl (by decide) ?_
      refine HN.done ?_
      refine HN.keep [(1, _), (5, _)] ⟨rfl, rfl, trivial⟩ ?_
      refine HN.then ?_
      refine H.seq ?_
      refine H.region ?_
      refine H.q (yl_build (bd25_034 _ _ _) rfl) rfl rfl (by decide) ?_
      refine H.buildSlice (bs26 _) rfl (by decide) (fun b50 hb50 => ?_)
      refine H.q (yl_to (yl_call (xs := [.tmp 49, .tmp 50]) Tryz.call12 (stab_hp _ _ _ _) rfl (fun w hw => write_any ⟨6, 0, 0, 1, 4, []⟩ (.slice none 0 0) [[120]] (.slice (some ⟨b50, 0, none⟩) 1 1) w (by decide) (ints_nil w) (by decide) (by decide) (sl_blk (hw.blk 0 rfl) 1 rfl) (hvars.ext hw.ext))) (by rw [ex_write])) rfl rfl (by decide) ?_
      refine H.q (yl_move rfl) rfl rfl (by decide) ?_
      refine H.q (yl_extract _ rfl rfl) rfl rfl (by decide) ?_
      refine H.q (yl_extract _ rfl rfl) rfl rfl (by decide) ?_
      refine H.q (yl_assign rfl) rfl rfl (by decide) ?_
      refine H.q (yl_assign rfl) rfl rfl (by decide) ?_
      refine HN.done ?_
      refine HN.keep [(1, _), (5, _), (6, _), (7, _)] ⟨rfl, rfl, rfl, rfl, trivial⟩ ?_
      refine HN.then ?_
      refine H.seq ?_
      refine H.region ?_
      refine H.buildSlice (bs26_2 _ _) rfl (by decide) (fun b55 hb55 => ?_)
      refine H.call (α := Value) (xs := [.const (.string ⟨#[121, 32, 61, 61, 32, 45, 50, 32, 42, 32, 120, 32, 43, 32, 55]⟩), .tmp 55]) (fun sv => .tuple #[.agg (cellsI (sv, ⟨11, 0, 1, -2, 7, []⟩)).toArray, .int .i64 0]) (fun sv => ∃ ad cap, sv = .slice ad 0 cap) (fun _ => []) (fun _ => []) Tryz.call14 rfl (by decide) (fun w hw => (read_any [121, 32, 61, 61, 32, 45, 50, 32, 42, 32, 120, 32, 43, 32, 55] [[120], [121]] (.slice (some ⟨b55, 0, none⟩) 2 2) w (by decide) (by decide) (by decide) (sl_blk (hw.blk 0 rfl) 2 rfl) (hvars.ext hw.ext)).mono fun e w' h => by
        obtain ⟨sv, h1, h2, h3, _⟩ := h
        rw [ex_read] at h1 h3
        obtain ⟨ad, cap, bb, o, h4, _⟩ := h3
        exact ⟨sv, h1, ⟨ad, cap, h4⟩, Hp.ofExt h2, fun _ hh => by cases hh⟩) (fun sv hsv => ?_)
      obtain ⟨ads, caps, rfl⟩ := hsv
      refine H.q (yl_move rfl) rfl rfl (by decide) ?_
      refine H.q (yl_extract _ rfl rfl) rfl rfl (by decide) ?_
      refine H.q (yl_extract _ rfl rfl) rfl rfl (by decide) ?_
      refine H.allocA Tryz.zeroValue25 (by decide) (fun b8 hb8 => ?_)
      refine H.storeA 0 rfl rfl rfl Tryz.sizeOf25 rfl rfl ?_
      refine H.q (yl_assign rfl) rfl rfl (by decide) ?_
      refine HN.done ?_
      refine HN.keep [(1, _), (5, _), (6, _), (7, _), (8, _), (9, _)] ⟨rfl, rfl, rfl, rfl, rfl, rfl, trivial⟩ ?_
      refine HN.then ?_
      refine H.seq ?_
      refine H.region ?_
      refine H.q (yl_move rfl) rfl rfl (by decide) ?_
      refine H.call (α := Value × List (Value × Inv)) (xs := [.tmp 59, .const (.int .i64 1)]) (fun q => q.1) (fun q => q.2.map (·.2) = exWant) (fun q => claimsRw q.1 q.2 :: setsR q.2) (fun _ => []) Tryz.call24 rfl (by decide) (fun w hw => (claims_any bm 2 (.slice adr new.length capr) new w (Tbl.of (hw.blk 6 rfl) (hw.row 0 rfl) (fun r hr => hw.rows r (List.mem_cons_of_mem _ (List.mem_append.2 (.inl hr)))) (fun p hp => ex_len p.2 (hrows ▸ List.mem_map.2 ⟨p, hp, rfl⟩)) (by omega) (fun p hp => ex_small p.2 (hrows ▸ List.mem_map.2 ⟨p, hp, rfl⟩))) (by decide) (by decide) 1).mono fun e w' h => by obtain ⟨v, l, h1, h2, h3⟩ := h; exact ⟨(v, l), h1, by rw [h2, hrows]; exact ex_claims, h3, fun _ hh => by cases hh⟩) (fun q hq => ?_)
      obtain ⟨u, l2⟩ := q
      simp only at hq
      have hsets : ∀ p ∈ l2, p.2.set.length ≤ 4611686018427387904 := fun p hp => ex_sets p.2 (hq ▸ List.mem_map.2 ⟨p, hp, rfl⟩)
      have hl28 : l2.length = 8 := by have := congrArg List.length hq; simpa [exWant] using this
      refine H.q (yl_move rfl) rfl rfl (by decide) ?_
      refine H.q (yl_to (yl_call (xs := [.tmp 60, .tmp 61]) Tryz.call23 (stab_hp _ _ _ _) rfl (fun w hw => sameAll_any l2 [(.slice none 0 0, ⟨3, 0, 0, 1, 0, []⟩), (.slice none 0 0, ⟨4, 0, 0, 3, 0, []⟩), (.slice (some ⟨b39, 0, none⟩) 3 3, ⟨2, 0, 0, 0, 0, [1, 2, 3]⟩), (.slice none 0 0, ⟨3, 1, 0, 2, 0, []⟩), (.slice none 0 0, ⟨4, 1, 0, 6, 0, []⟩), (.slice (some ⟨b43, 0, none⟩) 3 3, ⟨2, 1, 0, 0, 0, [2, 4, 6]⟩), (.slice none 0 0, ⟨9, 0, 1, 0, 0, []⟩), (.slice none 0 0, ⟨11, 0, 1, 2, 0, []⟩)] u (.slice (some ⟨b47, 0, none⟩) 8 8) w (by omega) (by simp) hsets (by intro p hp; simp only [List.mem_cons, List.not_mem_nil, or_false] at hp; rcases hp with rfl | rfl | rfl | rfl | rfl | rfl | rfl | rfl <;> simp) (claims_row (hw.row 0 rfl) (fun r hr => hw.rows r (List.mem_append.2 (.inl (List.mem_cons_of_mem _ hr))))) ⟨sz_blk (cells6 _) (hw.blk 3 rfl) 8 rfl, by
        intro p hp
        simp only [List.mem_cons, List.not_mem_nil, or_false] at hp
        rcases hp with rfl | rfl | rfl | rfl | rfl | rfl | rfl | rfl
        · exact ints_nil w
        · exact ints_nil w
        · exact sl_blk (hw.blk 5 rfl) 3 rfl
        · exact ints_nil w
        · exact ints_nil w
        · exact sl_blk (hw.blk 4 rfl) 3 rfl
        · exact ints_nil w
        · exact ints_nil w⟩)) (show Value.bool _ = Value.bool true by rw [hq]; rfl)) rfl rfl (by decide) ?_
      refine H.q (yl_move rfl) rfl rfl (by decide) ?_
      refine H.qg (wn_t rfl rfl (by decide) rfl) (fun hg => yl_sub [(1, _)] ⟨rfl, trivial⟩ (yl_move rfl)) rfl (by decide) ?_
      refine H.qg (wn_t rfl rfl (by decide) rfl) (fun hg => yl_sub [(64, _)] ⟨slT rfl hg, trivial⟩ (yl_to (yl_call (xs := [.tmp 64]) Tryz.call22 (stab_hp _ _ _ _) rfl (fun w hw => rows_any bm 2 adr new.length capr w (by decide) (hw.cell 6 rfl rfl) (hw.cell 6 rfl rfl))) (show Value.int .i64 (new.length : Int) = .int .i64 3 by rw [hnl]; rfl))) rfl (by decide) ?_
      refine H.qg (wn_t rfl rfl (by decide) rfl) (fun hg => yl_sub [(65, _)] ⟨slT rfl hg, trivial⟩ (yl_eql rfl rfl)) rfl (by decide) ?_
      refine H.q (yl_and rfl rfl) rfl rfl (by decide) ?_
      refine H.q (yl_move rfl) rfl rfl (by decide) ?_
      refine H.qg (wn_t rfl rfl (by decide) rfl) (fun hg => yl_sub [(7, _)] ⟨rfl, trivial⟩ (yl_move rfl)) rfl (by decide) ?_
      refine H.qg (wn_t rfl rfl (by decide) rfl) (fun hg => yl_sub [(69, _)] ⟨slT rfl hg, trivial⟩ (yl_eql rfl rfl)) rfl (by decide) ?_
      refine H.q (yl_and rfl rfl) rfl rfl (by decide) ?_
      refine H.q (yl_move rfl) rfl rfl (by decide) ?_
      refine H.qg (wn_t rfl rfl (by decide) rfl) (fun hg => yl_sub [(6, _)] ⟨rfl, trivial⟩ (yl_move rfl)) rfl (by decide) ?_
      refine H.qg (wn_t rfl rfl (by decide) rfl) (fun hg => yl_sub [(73, _)] ⟨slT rfl hg, trivial⟩ (yl_seqlL rfl rfl)) rfl (by decide) ?_
      refine H.q (yl_and rfl rfl) rfl rfl (by decide) ?_
      refine H.q (yl_move rfl) rfl rfl (by decide) ?_
      refine H.qg (wn_t rfl rfl (by decide) rfl) (fun hg => yl_sub [(9, _)] ⟨rfl, trivial⟩ (yl_move rfl)) rfl (by decide) ?_
      refine H.qg (wn_t rfl rfl (by decide) rfl) (fun hg => yl_sub [(77, _)] ⟨slT rfl hg, trivial⟩ (yl_eql rfl rfl)) rfl (by decide) ?_
      refine H.q (yl_and rfl rfl) rfl rfl (by decide) ?_
      refine H.q (yl_move rfl) rfl rfl (by decide) ?_
      refine H.qg (wn_t rfl rfl (by decide) rfl) (fun hg => yl_sub [(8, _)] ⟨rfl, trivial⟩ (yl_loadAgg _ Tryz.isAgg25 Tryz.sizeOf25 rfl (fun w hw => cells_of_blk (hw.blk 0 rfl)) rfl)) rfl (by decide) ?_
      refine H.qg (wn_t rfl rfl (by decide) rfl) (fun hg => yl_build (bd25_0234 _ _ _ _) rfl) rfl (by decide) ?_
      refine H.qg (wn_t rfl rfl (by decide) rfl) (fun hg => yl_sub [(81, _), (82, _)] ⟨slT rfl hg, slT rfl hg, trivial⟩ (yl_to (yl_call (xs := [.tmp 81, .tmp 82]) Tryz.call16 (stab_hp _ _ _ _) rfl (fun w hw => same_any ⟨11, 0, 1, -2, 7, []⟩ ⟨11, 0, 1, -2, 7, []⟩ (.slice ads 0 caps) (.slice none 0 0) w (by decide) (by decide) ⟨ads, caps, 0, 0, rfl, Nat.zero_le _, fun j x hj => by simp at hj⟩ (ints_nil w))) (show Value.bool _ = Value.bool true from rfl))) rfl (by decide) ?_
      refine H.q (yl_and rfl rfl) rfl rfl (by decide) ?_
      refine H.q (yl_assign rfl) rfl rfl (by decide) ?_
      refine HN.done ?_
      refine HN.keep [(0, _)] ⟨rfl, trivial⟩ ?_
      refine HN.then ?_
      refine HR.ret ?_
      refine HR.ret1 _ Tryz.results11 rfl (fun w hw => ?_)
      exact ⟨by simp, hw.ext⟩

end Go.Proofs.YtgbgddmbooaddaaGreatDoor

namespace Go.Proofs.YtgbgddmbooaddaaGreatDoor
open Go.RowKit


theorem strs_nil (w : World) : IsStrs w (.slice none 0 0) [] := ⟨none, 0, 0, 0, rfl, Nat.le_refl _, fun j x hj => by simp at hj⟩
theorem wide_sets {l : List Inv} {rows : List (List Int)} {names : List (List UInt8)} (h : wideB l rows names = false) : l.length ≤ 40 ∧ ∀ x ∈ l, x.set.length ≤ 20 := by
  unfold wideB at h
  simp only [Bool.or_eq_false_iff, decide_eq_false_iff_not, List.any_eq_false, decide_eq_true_eq] at h
  exact ⟨by omega, fun x hx => by have := h.2.1.1 x hx; omega⟩
theorem wide_rows {l : List Inv} {rows : List (List Int)} {names : List (List UInt8)} (h : wideB l rows names = false) : rows.length ≤ 40 ∧ ∀ r ∈ rows, r.length ≤ 20 := by
  unfold wideB at h
  simp only [Bool.or_eq_false_iff, decide_eq_false_iff_not, List.any_eq_false, decide_eq_true_eq] at h
  exact ⟨by omega, fun x hx => by have := h.2.1.2 x hx; omega⟩
theorem claims_blk1 {w : World} {b : Nat} {sv : Value} {x : Inv} (h : w.heap[b]? = some (.cells #[.int .u8 x.kind, .int .i64 x.a, .int .i64 x.b, .int .i64 x.k, .int .i64 x.m, sv] 25)) (hv : IsInts w sv x.set) : IsClaims w (.slice (some ⟨b, 0, none⟩) 1 1) [(sv, x)] :=
  ⟨sz_blk (cells6 [(sv, x)]) h 1 rfl, fun p hp => by rw [List.mem_singleton.1 hp]; exact hv⟩


end Go.Proofs.YtgbgddmbooaddaaGreatDoor

namespace Go.Proofs.YtgbgddmbooaddaaGreatDoor
open Go.ChangeShapes Go.WideShapes Go.ChangeAt Go.RowKit

abbrev laid7 : List (String × DataW Unit) := Rows.learnTextsRow.laid
set_option maxRecDepth 100000 in
theorem vars_of {W : World} (h : laidMetH Tryz.prog laid7 W) (hs : W.ShapedOpen Tryz.prog) : Vars W := by
  rw [MakeChecks.laidMetH_plain _ _ _ (by kernel_rfl)] at h
  obtain ⟨ps, ⟨g0, t0, cs0, f0, p0, q0, _, _, _, _, ⟨g1, t1, cs1, f1, p1, q1, _, _, _, _, ⟨g2, t2, cs2, f2, p2, q2, hg2, ht2, hv2, hd2, ⟨g3, t3, cs3, f3, p3, q3, _, _, _, _, ⟨g4, t4, cs4, f4, p4, q4, hg4, ht4, hv4, hd4, ⟨g5, t5, cs5, f5, p5, q5, hg5, ht5, hv5, hd5, _, _⟩, _⟩, _⟩, _⟩, _⟩, _⟩, _, _⟩ := h
  obtain rfl := Option.some.inj ((show Tryz.prog.globalNamed "internal/strconv.uint64pow10" = some 0 by kernel_rfl).symm.trans hg2)
  obtain rfl := Option.some.inj ((show (Tryz.prog.globals[0]?).map (·.type) = some 167 by kernel_rfl).symm.trans ht2)
  obtain rfl := Option.some.inj ((show Tryz.prog.globalNamed "strconv.ErrRange" = some 7 by kernel_rfl).symm.trans hg4)
  obtain rfl := Option.some.inj ((show (Tryz.prog.globals[7]?).map (·.type) = some 157 by kernel_rfl).symm.trans ht4)
  obtain rfl := Option.some.inj ((show Tryz.prog.globalNamed "strconv.ErrSyntax" = some 6 by kernel_rfl).symm.trans hg5)
  obtain rfl := Option.some.inj ((show (Tryz.prog.globals[6]?).map (·.type) = some 157 by kernel_rfl).symm.trans ht5)
  obtain ⟨_, u4, v4, e4, _, _⟩ := iface_of_trod Tryz.underlying157 hd4
  obtain ⟨_, u5, v5, e5, _, _⟩ := iface_of_trod Tryz.underlying157 hd5
  refine ⟨?_, ⟨u5, v5, ?_⟩, ⟨u4, v4, ?_⟩, ?_⟩
  · have e2 : cs2.toList = Lib.pow10Tab.map fun z => Value.int .u64 z :=
      Lib.cells_of_tab (k := .u64) (zs := Lib.pow10Tab) Tryz.underlying167 Tryz.underlying121 (by kernel_rfl) (by kernel_rfl) hd2
    unfold Lib.TabIs
    rw [hv2, ← e2]
  · rw [hv5, ← e5]
  · rw [hv4, ← e4]
  · exact cell_of_shapedOpen_int (g := 1) (t := 3) (zero := #[.int .i64 0]) hs (of_decide_eq_true (by kernel_rfl)) (by kernel_rfl) rfl (by kernel_rfl) (by kernel_rfl) Tryz.underlying3
end Go.Proofs.YtgbgddmbooaddaaGreatDoor

namespace Go.Proofs.YtgbgddmbooaddaaGreatDoor
open Go.ChangeShapes Go.WideShapes Go.ChangeAt Go.RowKit Go.Deep
set_option maxRecDepth 100000

section
variable {H : Type} {enc : TypeId × Value → H} {P : Program} {w : World} {base : Nat} {spare : Nat → Bool} {held : Bool} {fuel : Nat} {t e : TypeId} {cs : List Value} {x : DataW H × List MemPlace}
theorem rd_int {k : IntKind} (ht : P.underlying t = some (.int k)) (h : DataW.trod enc P w base spare held fuel t cs = some x) : ∃ n, cs = [.int k n] := by
  cases fuel with
  | zero => simp [DataW.trod] at h
  | succ fuel =>
    match cs with
    | [] => simp [DataW.trod, ht] at h
    | _ :: _ :: _ => simp [DataW.trod, ht] at h
    | [c] =>
      cases c <;> simp [DataW.trod, ht] at h
      rename_i k' n
      obtain ⟨⟨rfl, _⟩, _⟩ := h
      exact ⟨n, rfl⟩
theorem build_list {α : Type} {Q : Nat → α → Prop} : ∀ n, (∀ i, i < n → ∃ c, Q i c) → ∃ l : List α, l.length = n ∧ ∀ i c, l[i]? = some c → Q i c
  | 0, _ => ⟨[], rfl, fun i c h => by simp at h⟩
  | n + 1, h => by
    obtain ⟨l, hl, hq⟩ := build_list n (fun i hi => h i (by omega))
    obtain ⟨c, hc⟩ := h n (by omega)
    refine ⟨l ++ [c], by simp [hl], fun i d hd => ?_⟩
    rw [List.getElem?_append] at hd
    split at hd
    · exact hq i d hd
    · rename_i hi
      have : i = n := by
        have := (List.getElem?_eq_some_iff.1 hd).1
        simp at this
        omega
      subst this
      rw [hl, Nat.sub_self] at hd
      simp only [List.getElem?_cons_zero, Option.some.injEq] at hd
      exact hd ▸ hc
theorem rd_slice {sz : Nat} (ht : P.underlying t = some (.slice e)) (hc : P.cellsOf e = sz) (h0 : 0 < sz) (h : DataW.trod enc P w base spare held fuel t cs = some x) :
    ∃ v css, cs = [v] ∧ IsSz w v sz css ∧ ∀ c ∈ css, c.length = sz ∧ ∃ n y, DataW.trod enc P w base spare held n e c = some y := by
  rcases open_slice ht h with ⟨rfl, _⟩ | ⟨a, len, cap, m, n, D, Pl, rfl, hb, hl, hm, hmm, _, hx⟩
  · exact ⟨_, [], rfl, ⟨none, 0, 0, 0, rfl, Nat.le_refl _, fun j c hj => by simp at hj⟩, fun c hc => by cases hc⟩
  · have hlm : len ≤ m := by rw [hmm]; split <;> omega
    obtain ⟨css, hcl, hq⟩ := build_list (Q := fun i cs' => w.cells? base (a.add (i * P.cellsOf e)) (P.cellsOf e) = some cs' ∧ DataW.trod enc P w base spare held n e cs' = some (D i, Pl i)) len (fun i hi => hx i (by omega))
    have cell : ∀ j c, css[j]? = some c → c.length = sz ∧ ∀ i u, c[i]? = some u → w.cell? ((a.add (j * sz)).add i) = some u := fun j c hj => by
      have h1 := (hq j c hj).1
      rw [hc] at h1
      unfold World.cells? at h1
      split at h1
      · have hlen : c.length = sz := by have := Lib.mapM_length h1; simpa using this
        refine ⟨hlen, fun i u hi => ?_⟩
        have hi' : i < sz := by rw [← hlen]; exact (List.getElem?_eq_some_iff.1 hi).1
        obtain ⟨b, hb1, hb2⟩ := Lib.mapM_at h1 i i (by simp [hi'])
        rw [hi] at hb1
        cases hb1
        exact hb2
      · cases h1
    subst hcl
    refine ⟨_, css, rfl, ?_, fun c hcm => ?_⟩
    · obtain ⟨b, o, spot⟩ := a
      refine ⟨some ⟨b, o, spot⟩, cap, b, o, rfl, hl, fun j c hj => ?_⟩
      have hspot : spot = none := by
        have hpos : 0 < css.length := Nat.lt_of_le_of_lt (Nat.zero_le _) (List.getElem?_eq_some_iff.1 hj).1
        obtain ⟨k1, k2⟩ := cell 0 css[0] (List.getElem?_eq_getElem hpos)
        have k3 := k2 0 _ (List.getElem?_eq_getElem (by omega))
        simpa [Addr.add] using World.cell?_spot k3
      subst hspot
      refine ⟨rfl, fun i u hi => ?_⟩
      have := (cell j c hj).2 i u hi
      rw [add_at, add_at] at this
      exact this
    · obtain ⟨j, hj⟩ := List.getElem?_of_mem hcm
      exact ⟨(cell j c hj).1, n, _, (hq j c hj).2⟩
end

section
variable {H : Type} {enc : TypeId × Value → H} {w : World} {base : Nat} {spare : Nat → Bool} {held : Bool} {fuel : Nat} {cs : List Value} {x : DataW H × List MemPlace}
theorem one_of_sz {v : Value} {css : List (List Value)} (h : IsSz w v 1 css) {xs : List Value} (hx : css = xs.map fun x => [x]) : IsSl w v xs := by
  subst hx
  obtain ⟨ad, cap, b, o, h1, h2, h3⟩ := h
  refine ⟨ad, cap, b, o, by simpa using h1, by simpa using h2, fun j x hj => ?_⟩
  have := h3 j [x] (by simp [hj])
  refine ⟨this.1, ?_⟩
  have h4 := this.2 0 x rfl
  simpa using h4
theorem list_of {α β : Type} {f : β → α} : ∀ (l : List α), (∀ a ∈ l, ∃ b, a = f b) → ∃ m : List β, l = m.map f
  | [], _ => ⟨[], rfl⟩
  | a :: l, h => by
    obtain ⟨b, rfl⟩ := h a (by simp)
    obtain ⟨m, rfl⟩ := list_of l (fun a ha => h a (List.mem_cons_of_mem _ ha))
    exact ⟨b :: m, rfl⟩
theorem Tryz.cells2 : Tryz.prog.cellsOf 2 = 1 := by kernel_rfl
theorem Tryz.cells23 : Tryz.prog.cellsOf 23 = 1 := by kernel_rfl
theorem Tryz.cells25 : Tryz.prog.cellsOf 25 = 6 := by kernel_rfl
theorem Tryz.cells3 : Tryz.prog.cellsOf 3 = 1 := by kernel_rfl
theorem Tryz.cells22 : Tryz.prog.cellsOf 22 = 1 := by kernel_rfl
theorem rd23 (h : DataW.trod enc Tryz.prog w base spare held fuel 23 cs = some x) : ∃ v l, cs = [v] ∧ IsInts w v l := by
  obtain ⟨v, css, rfl, h1, h2⟩ := rd_slice Tryz.underlying23 Tryz.cells2 (by decide) h
  obtain ⟨l, rfl⟩ := list_of (f := fun n : Int => [Value.int .i64 n]) css (fun c hc => by
    obtain ⟨_, n, y, h3⟩ := h2 c hc
    exact rd_int Tryz.underlying2 h3)
  exact ⟨v, l, rfl, one_of_sz h1 (by rw [List.map_map]; rfl)⟩
theorem rd37 (h : DataW.trod enc Tryz.prog w base spare held fuel 37 cs = some x) : ∃ v l, cs = [v] ∧ IsRows w v l := by
  obtain ⟨v, css, rfl, h1, h2⟩ := rd_slice Tryz.underlying37 Tryz.cells23 (by decide) h
  have h4 : ∀ c ∈ css, ∃ p : { p : Value × List Int // IsInts w p.1 p.2 }, c = [p.1.1] := fun c hc => by
    obtain ⟨_, n, y, h3⟩ := h2 c hc
    obtain ⟨v', l', rfl, h5⟩ := rd23 h3
    exact ⟨⟨(v', l'), h5⟩, rfl⟩
  obtain ⟨m, rfl⟩ := list_of (f := fun p : { p : Value × List Int // IsInts w p.1 p.2 } => [p.1.1]) css h4
  refine ⟨v, m.map (·.1), rfl, one_of_sz h1 (by simp [List.map_map, Function.comp_def]), fun p hp => ?_⟩
  obtain ⟨q, _, rfl⟩ := List.mem_map.1 hp
  exact q.2
theorem rd25 (h : DataW.trod enc Tryz.prog w base spare held fuel 25 cs = some x) : ∃ p : Value × Inv, cs = cellsI p ∧ IsInts w p.1 p.2.set := by
  cases fuel with
  | zero => simp [DataW.trod] at h
  | succ fuel =>
    simp only [DataW.trod, Tryz.underlying25, Tryz.cells25] at h
    split at h
    · rename_i hl
      obtain ⟨xs, hxs, _⟩ := Option.map_eq_some_iff.1 h
      have at_ : ∀ (i : Nat) (f : Field), (#[_, _, _, _, _, _] : Array Field).toList[i]? = some f → ∃ y, DataW.trod enc Tryz.prog w base spare held fuel f.type ((cs.drop f.offset).take (Tryz.prog.cellsOf f.type)) = some y := fun i f hf => by
        obtain ⟨b, _, hb⟩ := Lib.mapM_at hxs i f hf
        exact ⟨b, hb⟩
      match cs, hl with
      | [c0, c1, c2, c3, c4, c5], _ =>
        obtain ⟨y0, h0⟩ := at_ 0 _ rfl
        obtain ⟨y1, h1⟩ := at_ 1 _ rfl
        obtain ⟨y2, h2⟩ := at_ 2 _ rfl
        obtain ⟨y3, h3⟩ := at_ 3 _ rfl
        obtain ⟨y4, h4⟩ := at_ 4 _ rfl
        obtain ⟨y5, h5⟩ := at_ 5 _ rfl
        simp only [Tryz.cells22, Tryz.cells3, Tryz.cells2, Tryz.cells23, List.drop, List.take] at h0 h1 h2 h3 h4 h5
        obtain ⟨n0, e0⟩ := rd_int Tryz.underlying22 h0
        obtain ⟨n1, e1⟩ := rd_int Tryz.underlying3 h1
        obtain ⟨n2, e2⟩ := rd_int Tryz.underlying3 h2
        obtain ⟨n3, e3⟩ := rd_int Tryz.underlying2 h3
        obtain ⟨n4, e4⟩ := rd_int Tryz.underlying2 h4
        obtain ⟨v, l, e5, h6⟩ := rd23 h5
        simp only [List.cons.injEq, and_true] at e0 e1 e2 e3 e4 e5
        subst e0 e1 e2 e3 e4 e5
        exact ⟨(_, ⟨n0, n1, n2, n3, n4, l⟩), rfl, h6⟩
    · cases h
end

section
variable {H : Type} {enc : TypeId × Value → H} {w : World} {base : Nat} {spare : Nat → Bool} {held : Bool} {v : Value} {d : DataW H} {p : List MemPlace} {b0 b1 : Nat}
theorem arg_rows (ho : Value.okWide Tryz.prog w .any b0 37 v) (h : DataW.Trod enc Tryz.prog w base spare held 37 v d p) : ∃ l, IsRows w v l := by
  obtain ⟨a, n, c, rfl⟩ := okWide_slice Tryz.underlying37 ho
  obtain ⟨f, h⟩ := h
  obtain ⟨v', l, h1, h2⟩ := rd37 h
  simp [Value.cells] at h1
  subst h1
  exact ⟨l, h2⟩
theorem arg_claim (ho : Value.okWide Tryz.prog w .any b0 25 v) (h : DataW.Trod enc Tryz.prog w base spare held 25 v d p) : ∃ (sv : Value) (x : Inv), v = .agg (cellsI (sv, x)).toArray ∧ IsInts w sv x.set := by
  obtain ⟨cs, rfl, _⟩ := okWide_struct Tryz.underlying25 ho
  obtain ⟨f, h⟩ := h
  obtain ⟨q, h1, h2⟩ := rd25 h
  refine ⟨q.1, q.2, ?_, h2⟩
  simp only [Value.cells] at h1
  rw [show (q.1, q.2) = q from rfl, ← h1]
end
end Go.Proofs.YtgbgddmbooaddaaGreatDoor

namespace Go.Proofs.YtgbgddmbooaddaaGreatDoor
open Go.ChangeShapes Go.WideShapes Go.ChangeAt Go.RowKit

theorem frozen_ext {w w' : World} (h : Ext w w') {b off : Nat} (hb : b < w.heap.size) : w'.frozen? ⟨b, off, none⟩ = w.frozen? ⟨b, off, none⟩ := by
  unfold World.frozen?
  rw [h.block b hb]

/-- What a law's call leaves: true; the arguments read as they did. -/
theorem post_of_ext {H : Type} {enc : TypeId × Value → H} {P : Program} {f : Func} {s : ChangeSpec} {handsOn again : Bool} {W W' : World} {args : Array Value} {v : Value} {ds : List (DataW H)} {before : List MemPlace} (he : Ext W W')
    (hW : DataW.Whole enc P f.params.toList s.vars false W args.toList ds [] before)
    (hres : ∀ (b : Nat) (sp : Nat → Bool) (hd : Bool), DataW.TrodAll enc P W' b sp hd f.resultTypes.toList (v.resultList f.resultTypes.size) (s.fn H (ds ++ [])).results [])
    (hargs : ∀ sp : Nat → Bool, (∀ p ∈ before, sp p.block = true) → DataW.TrodAll enc P W' 0 sp true f.params.toList args.toList (s.fn H (ds ++ [])).args before)
    (hvars : ∀ sp : Nat → Bool, DataW.TrodVars enc P W' sp s.vars (s.fn H (ds ++ [])).vars [])
    (hok : ∀ (j : Nat) (t : TypeId) (r : Value), f.resultTypes[j]? = some t → (v.resultList f.resultTypes.size)[j]? = some r → Value.okWide P W' .any 0 t r) :
    s.post enc P f false true handsOn again W args v W' := by
  have old : ∀ p ∈ before, (fun b => decide (b < W.heap.size)) p.block = true := fun p hp => by simpa using hW.lt p hp
  refine ⟨ds, [], before, [], before, [], hW, hres _ _ _, hargs _ old, hvars _, Below.frame he _, fun _ => ?_⟩
  have nf : W.noneFrozen before := by obtain ⟨_, _, _, _, _, h, _⟩ := hW; exact h
  have all := trodAll_append (hargs (fun _ => true) (fun _ _ => rfl)) (hres 0 (fun _ => true) true)
  rw [List.nil_append] at all
  exact ⟨hok, _, _, before, ⟨before, [], all, hvars _, (List.append_nil _).symm, fun b off hp => by rw [frozen_ext he (show b < W.heap.size from hW.lt _ hp)]; exact nf b off hp, fun h => by cases h⟩, fun p hp _ => hp⟩

/-- The row's step, with the listed variables and the world's shape at hand. -/
theorem handed_both {H : Type} {enc : TypeId × Value → H} {a : Assume} {C : Checked} {os : Os} {f : FuncId} {fn : Func} {s : ChangeSpec} {conds : List PathCond} {apart fresh handsOn again : Bool} {X : World → Array Value → Prop}
    (hX : ∀ (w w' : World) (args : Array Value), w.heap = w'.heap → X w args → X w' args)
    (own : ownKnob C.prog.godebug = none) (started : os.Started) (noInit : C.prog.inits.idxOf? f = none) (hfn : C.prog.funcs[f]? = some fn)
    (wit : ∃ (w : World) (tape : Tape) (i : Input), w.os = os ∧ (w.forCall tape i).Shaped C.prog ∧ i.vars = [] ∧ Input.okWide C.prog (w.forCall tape i) .any w.heap.size f i ∧
      ((s.pre enc C.prog fn conds apart (w.forCall tape i).memory i.args ∧ X (w.forCall tape i).memory i.args) ∧ sizedMet enc C.prog fn (OpenSpec.ofChange s) apart (w.forCall tape i).memory i.args) ∧ a.holds C.prog (lone (Frame.enter C.prog f i.args .normal) [] (w.forCall tape i)))
    (con : ∀ (W : World) (base : Nat) (args : Array Value) (ds gs : List (DataW H)) (before : List MemPlace),
      (∀ (j : Nat) t v, fn.params[j]? = some t → args[j]? = some v → Value.okWide C.prog W .any base t v) →
      DataW.Whole enc C.prog fn.params.toList s.vars apart W args.toList ds gs before → X W args → W.ShapedOpen C.prog →
      Calls C.prog f args W fun e W' => ∃ v, e = .returned v ∧ s.post enc C.prog fn apart fresh handsOn again W args v W') :
    ReturnsInHanded a C os f .any (fun w args => (s.pre enc C.prog fn conds apart w args ∧ X w args) ∧ sizedMet enc C.prog fn (OpenSpec.ofChange s) apart w args) (s.post enc C.prog fn apart fresh handsOn again) :=
  returnsInHanded_of_calls own started noInit wit fun w tape i _ hsh _ hok hpre _ => by
    obtain ⟨_, _, _, fn', hfn', _, _, _, _, hval⟩ := hok
    cases Option.some.inj (hfn'.symm.trans hfn)
    obtain ⟨⟨⟨ds, gs, before, hw, _⟩, hx⟩, _⟩ := hpre
    refine (con (w.forCall tape i) w.heap.size i.args ds gs before hval (DataW.Whole.of_heap (w' := w.forCall tape i) (by rfl) hw) (hX _ _ _ (by rfl) hx) hsh).mono fun e W' h => ?_
    obtain ⟨v, rfl, hp⟩ := h
    exact ChangeSpec.post_blind hp

theorem seatOwn : ownKnob Tryz.prog.godebug = none := by kernel_rfl
end Go.Proofs.YtgbgddmbooaddaaGreatDoor

namespace Go.Proofs.YtgbgddmbooaddaaGreatDoor
open Go.RowKit


def rowE (l : List Int) (vars : Int) : Int := if (l.length : Int) ≠ vars then 1 else if allSmallB l = false then 3 else 0
def validB (vars : Int) (rows : List (List Int)) : Bool := rows.all (fun r => decide (rowE r vars = 0)) && (decide (1 ≤ vars) && decide (vars ≤ 8))
theorem rowE_add (l : List Int) (vars : Nat) : rowE l vars = addE l vars := by
  unfold rowE addE
  by_cases h : l.length = vars
  · rw [if_neg (show ¬ ((l.length : Int) ≠ (vars : Int)) by omega), if_neg (show ¬ (l.length ≠ vars) by omega)]
  · rw [if_pos (show (l.length : Int) ≠ (vars : Int) by omega), if_pos h]
theorem rowE_ok {l : List Int} {vars : Int} (h : rowE l vars = 0) : (l.length : Int) = vars ∧ allSmallB l = true := by
  unfold rowE at h
  split at h
  · simp at h
  split at h
  · simp at h
  rename_i h1 h2
  exact ⟨by simpa using h1, by simpa using h2⟩

set_option maxRecDepth 100000 in
theorem row_any (l : List Int) (sv : Value) (vars : Int) (w0 : World) (hl : l.length ≤ 1000000) (hv : IsInts w0 sv l) : Calls Tryz.prog 18 #[sv, .int .i64 vars] w0 fun e w' => e = .returned (.int .i64 (rowE l vars)) ∧ Ext w0 w' := by
  obtain ⟨ad, cap, b, o, rfl, hcap, hs⟩ := ints_open hv
  refine enterA 22 Tryz.func18 rfl Tryz.ntmps18 rfl (Hp w0 [] [] []) (Hp.init _) ?_
  refine H.seq ?_
  refine H.region ?_
  refine H.q (yl_assign rfl) rfl rfl (by decide) ?_
  refine HN.done ?_
  refine HN.keep [(0, _), (1, _)] ⟨rfl, rfl, trivial⟩ ?_
  refine HN.then ?_
  refine H.seq ?_
  refine H.seq ?_
  refine H.region ?_
  refine H.q (yl_move rfl) rfl rfl (by decide) ?_
  refine H.q (yl_len rfl Tryz.underlying23 rfl) rfl rfl (by decide) ?_
  refine H.q (yl_move rfl) rfl rfl (by decide) ?_
  refine H.q (yl_neq rfl rfl) rfl rfl (by decide) ?_
  refine HN.done ?_
  refine HN.keep [(0, _), (9, _)] ⟨rfl, rfl, trivial⟩ ?_
  refine HN.then ?_
  refine H.cond _ rfl (fun t0 => ?_) (fun t0 => ?_)
  · replace t0 := of_decide_eq_true t0
    refine H.keep [] trivial ?_
    refine H.seq ?_
    refine H.region ?_
    refine H.q (yl_assign rfl) rfl rfl (by decide) ?_
    refine HN.done ?_
    refine HN.keep [(4, _)] ⟨rfl, trivial⟩ ?_
    refine HN.then ?_
    refine HR.ret ?_
    refine HR.then ?_
    refine HR.ret1 _ Tryz.results18 rfl (fun w hw => ?_)
    refine ⟨?_, hw.ext⟩
    unfold rowE
    rw [if_pos t0]
  · replace t0 := of_decide_eq_false t0
    refine H.keep [(0, _)] ⟨rfl, trivial⟩ ?_
    refine HN.skip ?_
    refine HN.then ?_
    refine H.seq ?_
    refine H.seq ?_
    refine H.region ?_
    refine H.q (yl_assign rfl) rfl rfl (by decide) ?_
    refine HN.done ?_
    refine HN.keep [(0, _), (5, _)] ⟨rfl, rfl, trivial⟩ ?_
    refine HN.then ?_
    refine H.block ?_
    refine H.loop (fun k : Nat => [(0, .slice ad l.length cap), (5, .int .i64 (k : Int))]) (fun k => k ≤ l.length ∧ ∀ j, j < k → smallB (l.getD j 0) = true) (fun _ => Hp w0 [] [] []) (fun k => l.length - k) 0 ⟨Nat.zero_le _, fun j hj => absurd hj (Nat.not_lt_zero _)⟩ ⟨rfl, rfl, trivial⟩ (fun w hw => hw) (fun k hI => ?_)
    refine H.seq ?_
    refine H.seq ?_
    refine H.region ?_
    refine H.q (yl_move rfl) rfl rfl (by decide) ?_
    refine H.q (yl_move rfl) rfl rfl (by decide) ?_
    refine H.q (yl_len rfl Tryz.underlying23 rfl) rfl rfl (by decide) ?_
    refine H.q (yl_lss rfl rfl) rfl rfl (by decide) ?_
    refine HN.done ?_
    refine HN.keep [(0, _), (5, _), (13, _)] ⟨rfl, rfl, rfl, trivial⟩ ?_
    refine HN.then ?_
    refine H.cond _ rfl (fun t1 => ?_) (fun t1 => ?_)
    · replace t1 := of_decide_eq_true t1
      have hlt : k < l.length := by omega
      refine H.keep [(0, _), (5, _)] ⟨rfl, rfl, trivial⟩ ?_
      refine HN.skip ?_
      refine HN.then ?_
      refine H.seq ?_
      refine H.block ?_
      refine H.seq ?_
      refine H.region ?_
      refine H.q (yl_move rfl) rfl rfl (by decide) ?_
      refine H.q (yl_move rfl) rfl rfl (by decide) ?_
      refine H.q (yl_ix k Tryz.underlying23 Tryz.sizeOf2 (hs k hlt).1 rfl rfl rfl hlt) rfl rfl (by decide) ?_
      refine H.q (yl_load Tryz.isAgg2 rfl (fun w hw => cell_ext hw.ext (hs k hlt).2)) rfl rfl (by decide) ?_
      refine H.q (yl_call (xs := [.tmp 19]) Tryz.call48 (stab_hp _ _ _ _) rfl (fun w hw => plain_any _ w)) rfl rfl (by decide) ?_
      refine H.q (yl_not rfl) rfl rfl (by decide) ?_
      refine HN.done ?_
      refine HN.keep [(0, _), (5, _), (21, _)] ⟨rfl, rfl, rfl, trivial⟩ ?_
      refine HN.then ?_
      refine H.cond _ rfl (fun t2 => ?_) (fun t2 => ?_)
      · replace t2 : smallB (l.getD k 0) = false := by simpa using t2
        refine H.keep [] trivial ?_
        refine H.seq ?_
        refine H.region ?_
        refine H.q (yl_assign rfl) rfl rfl (by decide) ?_
        refine HN.done ?_
        refine HN.keep [(4, _)] ⟨rfl, trivial⟩ ?_
        refine HN.then ?_
        refine HR.ret ?_
        refine HR.block ?_
        refine HR.then ?_
        refine HR.then ?_
        refine HR.block ?_
        refine HR.then ?_
        refine HR.ret1 _ Tryz.results18 rfl (fun w hw => ?_)
        refine ⟨?_, hw.ext⟩
        unfold rowE
        rw [if_neg t0, if_pos (allSmall_no hlt t2)]
      · replace t2 : smallB (l.getD k 0) = true := by simpa using t2
        refine H.keep [(0, _), (5, _)] ⟨rfl, rfl, trivial⟩ ?_
        refine HN.skip ?_
        refine HN.block ?_
        refine HN.then ?_
        refine H.region ?_
        refine H.q (yl_move rfl) rfl rfl (by decide) ?_
        refine H.q (yl_add rfl rfl ((k : Int) + 1) rfl (by omega)) rfl rfl (by decide) ?_
        refine H.q (yl_assign rfl) rfl rfl (by decide) ?_
        refine HN.done ?_
        refine HN.keep [(0, _), (5, _)] ⟨rfl, rfl, trivial⟩ ?_
        refine HN.then ?_
        exact H.at (k + 1) ⟨⟨by omega, fun j hj => by
          by_cases hjk : j = k
          · subst hjk; exact t2
          · exact hI.2 j (by omega)⟩, by omega⟩ ⟨rfl, rfl, trivial⟩ (fun w hw => hw)
    · replace t1 := of_decide_eq_false t1
      have hkl : k = l.length := by omega
      subst hkl
      refine H.keep [] trivial ?_
      refine HX.exit ?_
      refine HX.then ?_
      refine HX.then ?_
      refine HX.hit ?_
      refine HN.then ?_
      refine H.seq ?_
      refine H.region ?_
      refine H.q (yl_assign rfl) rfl rfl (by decide) ?_
      refine HN.done ?_
      refine HN.keep [(4, _)] ⟨rfl, trivial⟩ ?_
      refine HN.then ?_
      refine HR.ret ?_
      refine HR.ret1 _ Tryz.results18 rfl (fun w hw => ?_)
      refine ⟨?_, hw.ext⟩
      unfold rowE
      rw [if_neg t0, if_neg (by rw [allSmall_yes hI.2]; decide)]

set_option maxRecDepth 100000 in
theorem valid_any (vars : Int) (rows : List (Value × List Int)) (rv : Value) (w0 : World) (hmax : rows.length ≤ 1000) (hlen : ∀ p ∈ rows, p.2.length ≤ 1000) (hrv : IsRows w0 rv rows) : Calls Tryz.prog 26 #[.int .i64 vars, rv] w0 fun e w' => e = .returned (.bool (validB vars (rowsE rows))) ∧ Ext w0 w' := by
  obtain ⟨ad, cap, b, o, rfl, hcap, hs⟩ := rows_open hrv
  refine enterA 25 Tryz.func26 rfl Tryz.ntmps26 rfl (Hp w0 [] [] []) (Hp.init _) ?_
  refine H.seq ?_
  refine H.region ?_
  refine H.q (yl_assign rfl) rfl rfl (by decide) ?_
  refine HN.done ?_
  refine HN.keep [(0, _), (1, _)] ⟨rfl, rfl, trivial⟩ ?_
  refine HN.then ?_
  refine H.seq ?_
  refine H.seq ?_
  refine H.region ?_
  refine H.q (yl_assign rfl) rfl rfl (by decide) ?_
  refine HN.done ?_
  refine HN.keep [(0, _), (1, _), (5, _)] ⟨rfl, rfl, rfl, trivial⟩ ?_
  refine HN.then ?_
  refine H.block ?_
  refine H.loop (fun k : Nat => [(0, .int .i64 vars), (1, .slice ad rows.length cap), (5, .int .i64 (k : Int))]) (fun k => k ≤ rows.length ∧ ((rowsE rows).take k).all (fun r => decide (rowE r vars = 0)) = true) (fun _ => Hp w0 [] [] []) (fun k => rows.length - k) 0 ⟨Nat.zero_le _, rfl⟩ ⟨rfl, rfl, rfl, trivial⟩ (fun w hw => hw) (fun k hI => ?_)
  refine H.seq ?_
  refine H.seq ?_
  refine H.region ?_
  refine H.q (yl_move rfl) rfl rfl (by decide) ?_
  refine H.q (yl_move rfl) rfl rfl (by decide) ?_
  refine H.q (yl_len rfl Tryz.underlying37 rfl) rfl rfl (by decide) ?_
  refine H.q (yl_lss rfl rfl) rfl rfl (by decide) ?_
  refine HN.done ?_
  refine HN.keep [(0, _), (1, _), (5, _), (9, _)] ⟨rfl, rfl, rfl, rfl, trivial⟩ ?_
  refine HN.then ?_
  refine H.cond _ rfl (fun t0 => ?_) (fun t0 => ?_)
  · replace t0 := of_decide_eq_true t0
    have hlt : k < rows.length := by omega
    have hltE : k < (rowsE rows).length := by simpa using hlt
    have hk : (rowsE rows)[k] = rows[k].2 := by simp
    refine H.keep [(0, _), (1, _), (5, _)] ⟨rfl, rfl, rfl, trivial⟩ ?_
    refine HN.skip ?_
    refine HN.then ?_
    refine H.seq ?_
    refine H.block ?_
    refine H.seq ?_
    refine H.region ?_
    refine H.q (yl_move rfl) rfl rfl (by decide) ?_
    refine H.q (yl_move rfl) rfl rfl (by decide) ?_
    refine H.q (yl_ix k Tryz.underlying37 Tryz.sizeOf23 (hs k hlt).1 rfl rfl rfl hlt) rfl rfl (by decide) ?_
    refine H.q (yl_load Tryz.isAgg23 rfl (fun w hw => cell_ext hw.ext (hs k hlt).2.1)) rfl rfl (by decide) ?_
    refine H.q (yl_move rfl) rfl rfl (by decide) ?_
    refine H.q (yl_call (xs := [.tmp 15, .tmp 16]) Tryz.call18 (stab_hp _ _ _ _) rfl (fun w hw => row_any rows[k].2 rows[k].1 vars w (by have := hlen _ (List.getElem_mem hlt); omega) ((hs k hlt).2.2.ext hw.ext))) rfl rfl (by decide) ?_
    refine H.q (yl_neq rfl rfl) rfl rfl (by decide) ?_
    refine HN.done ?_
    refine HN.keep [(0, _), (1, _), (5, _), (18, _)] ⟨rfl, rfl, rfl, rfl, trivial⟩ ?_
    refine HN.then ?_
    refine H.cond _ rfl (fun t1 => ?_) (fun t1 => ?_)
    · replace t1 := of_decide_eq_true t1
      refine H.keep [] trivial ?_
      refine H.seq ?_
      refine H.region ?_
      refine H.q (yl_assign rfl) rfl rfl (by decide) ?_
      refine HN.done ?_
      refine HN.keep [(4, _)] ⟨rfl, trivial⟩ ?_
      refine HN.then ?_
      refine HR.ret ?_
      refine HR.block ?_
      refine HR.then ?_
      refine HR.then ?_
      refine HR.block ?_
      refine HR.then ?_
      refine HR.ret1 _ Tryz.results26 rfl (fun w hw => ?_)
      refine ⟨?_, hw.ext⟩
      have hno : (rowsE rows).all (fun r => decide (rowE r vars = 0)) = false := by
        rw [List.all_eq_false]
        exact ⟨rows[k].2, List.mem_map.2 ⟨rows[k], List.getElem_mem hlt, rfl⟩, by simpa using t1⟩
      unfold validB
      rw [hno]
      rfl
    · replace t1 : rowE rows[k].2 vars = 0 := by simpa using t1
      refine H.keep [(0, _), (1, _), (5, _)] ⟨rfl, rfl, rfl, trivial⟩ ?_
      refine HN.skip ?_
      refine HN.block ?_
      refine HN.then ?_
      refine H.region ?_
      refine H.q (yl_move rfl) rfl rfl (by decide) ?_
      refine H.q (yl_add rfl rfl ((k : Int) + 1) rfl (by omega)) rfl rfl (by decide) ?_
      refine H.q (yl_assign rfl) rfl rfl (by decide) ?_
      refine HN.done ?_
      refine HN.keep [(0, _), (1, _), (5, _)] ⟨rfl, rfl, rfl, trivial⟩ ?_
      refine HN.then ?_
      exact H.at (k + 1) ⟨⟨by omega, by rw [all_take hltE, hI.2, hk]; simpa using t1⟩, by omega⟩ ⟨rfl, rfl, rfl, trivial⟩ (fun w hw => hw)
  · replace t0 := of_decide_eq_false t0
    have hkl : k = rows.length := by omega
    have hall := hI.2
    rw [List.take_of_length_le (by simp; omega)] at hall
    refine H.keep [(0, _)] ⟨rfl, trivial⟩ ?_
    refine HX.exit ?_
    refine HX.then ?_
    refine HX.then ?_
    refine HX.hit ?_
    refine HN.then ?_
    refine H.seq ?_
    refine H.region ?_
    refine H.q (yl_move rfl) rfl rfl (by decide) ?_
    refine H.q (yl_geq rfl rfl) rfl rfl (by decide) ?_
    refine H.q (yl_move rfl) rfl rfl (by decide) ?_
    refine H.qg (wn_t rfl rfl (by decide) rfl) (fun hg => yl_sub [(0, _)] ⟨rfl, trivial⟩ (yl_move rfl)) rfl (by decide) ?_
    refine H.qg (wn_t rfl rfl (by decide) rfl) (fun hg => yl_sub [(22, _)] ⟨slT rfl hg, trivial⟩ (yl_leq rfl rfl)) rfl (by decide) ?_
    refine H.q (yl_and rfl rfl) rfl rfl (by decide) ?_
    refine H.q (yl_assign rfl) rfl rfl (by decide) ?_
    refine HN.done ?_
    refine HN.keep [(4, _)] ⟨rfl, trivial⟩ ?_
    refine HN.then ?_
    refine HR.ret ?_
    refine HR.ret1 _ Tryz.results26 rfl (fun w hw => ?_)
    refine ⟨?_, hw.ext⟩
    unfold validB
    rw [hall]
    simp

set_option maxRecDepth 100000 in
theorem mined_any (vars : Nat) (rows : List (Value × List Int)) (rv : Value) (w0 : World) (hv1 : 1 ≤ vars) (hv8 : vars ≤ 8) (hmax : rows.length ≤ 500) (hok : ∀ r ∈ rowsE rows, rowE r vars = 0) (hrv : IsRows w0 rv rows) : Calls Tryz.prog 27 #[.int .i64 (vars : Int), rv] w0 fun e w' => ∃ bm rv' new, e = .returned (.tuple #[.pointer (some ⟨bm, 0, none⟩), .bool true]) ∧ new.map (·.2) = rowsE rows ∧ Hp w0 [minerB bm vars rv'] (minerRw rv' new :: rowsR new) [] w' := by
  obtain ⟨ad, cap, b, o, rfl, hcap, hs⟩ := rows_open hrv
  refine enterA 34 Tryz.func27 rfl Tryz.ntmps27 rfl (Hp w0 [] [] []) (Hp.init _) ?_
  refine H.seq ?_
  refine H.region ?_
  refine H.q (yl_assign rfl) rfl rfl (by decide) ?_
  refine H.q (yl_assign rfl) rfl rfl (by decide) ?_
  refine HN.done ?_
  refine HN.keep [(0, _), (1, _)] ⟨rfl, rfl, trivial⟩ ?_
  refine HN.then ?_
  refine H.seq ?_
  refine H.region ?_
  refine H.q (yl_move rfl) rfl rfl (by decide) ?_
  refine H.callX (α := Nat) (xs := [.tmp 10]) (fun bm => .tuple #[.pointer (some ⟨bm, 0, none⟩), .int .i64 0]) (fun _ => True) (fun bm => Hp w0 [minerB bm vars (.slice none 0 0)] [minerRw (.slice none 0 0) []] []) Tryz.call17 rfl (by decide) (fun w hw => (newOk_any vars w hv1 hv8).mono fun e w' h => by obtain ⟨bm, h1, h2⟩ := h; exact ⟨bm, h1, trivial, (hw.join h2).rowNil 23 1⟩) (fun bm _ => ?_)
  refine H.q (yl_move rfl) rfl rfl (by decide) ?_
  refine H.q (yl_extract _ rfl rfl) rfl rfl (by decide) ?_
  refine H.q (yl_extract _ rfl rfl) rfl rfl (by decide) ?_
  refine H.q (yl_assign rfl) rfl rfl (by decide) ?_
  refine H.q (yl_assign rfl) rfl rfl (by decide) ?_
  refine HN.done ?_
  refine HN.keep [(1, _), (6, _), (7, _)] ⟨rfl, rfl, rfl, trivial⟩ ?_
  refine HN.then ?_
  refine H.seq ?_
  refine H.seq ?_
  refine H.region ?_
  refine H.q (yl_move rfl) rfl rfl (by decide) ?_
  refine H.q (yl_neq rfl rfl) rfl rfl (by decide) ?_
  refine H.q (yl_move rfl) rfl rfl (by decide) ?_
  refine H.qg (wn_f rfl rfl (by decide) rfl) (fun hg => yl_sub [(6, _)] ⟨rfl, trivial⟩ (yl_move rfl)) rfl (by decide) ?_
  refine H.qg (wn_f rfl rfl (by decide) rfl) (fun hg => yl_sub [(17, _)] ⟨slT rfl hg, trivial⟩ (yl_ptrEql Tryz.underlying38 rfl)) rfl (by decide) ?_
  refine H.q (yl_or rfl rfl) rfl rfl (by decide) ?_
  refine HN.done ?_
  refine HN.keep [(1, _), (6, _), (19, _)] ⟨rfl, rfl, rfl, trivial⟩ ?_
  refine HN.then ?_
  refine H.cond _ rfl (fun t0 => ?_) (fun t0 => ?_)
  · simp at t0
    done
  · refine H.keep [(1, _), (6, _)] ⟨rfl, rfl, trivial⟩ ?_
    refine HN.skip ?_
    refine HN.then ?_
    refine H.seq ?_
    refine H.seq ?_
    refine H.region ?_
    refine H.q (yl_assign rfl) rfl rfl (by decide) ?_
    refine HN.done ?_
    refine HN.keep [(1, _), (6, _), (8, _)] ⟨rfl, rfl, rfl, trivial⟩ ?_
    refine HN.then ?_
    refine H.block ?_
    refine H.loop (fun z : MZ => [(1, .slice ad rows.length cap), (6, .pointer (some ⟨bm, 0, none⟩)), (8, .int .i64 (z.k : Int))]) (fun z => z.k ≤ rows.length ∧ z.new.map (·.2) = (rowsE rows).take z.k) (fun z => Hp w0 [minerB bm vars z.rv] (minerRw z.rv z.new :: (rowsR z.new ++ [])) []) (fun z => rows.length - z.k) ⟨0, .slice none 0 0, []⟩ ⟨Nat.zero_le _, rfl⟩ ⟨rfl, rfl, rfl, trivial⟩ (fun w hw => hw) (fun z hI0 => ?_)
    obtain ⟨k, rvz, new⟩ := z
    obtain ⟨hI, hnew⟩ := hI0
    simp only at hI hnew
    have hnl : new.length = k := by have := congrArg List.length hnew; simp at this; omega
    refine H.seq ?_
    refine H.seq ?_
    refine H.region ?_
    refine H.q (yl_move rfl) rfl rfl (by decide) ?_
    refine H.q (yl_move rfl) rfl rfl (by decide) ?_
    refine H.q (yl_len rfl Tryz.underlying37 rfl) rfl rfl (by decide) ?_
    refine H.q (yl_lss rfl rfl) rfl rfl (by decide) ?_
    refine HN.done ?_
    refine HN.keep [(1, _), (6, _), (8, _), (23, _)] ⟨rfl, rfl, rfl, rfl, trivial⟩ ?_
    refine HN.then ?_
    refine H.cond _ rfl (fun t1 => ?_) (fun t1 => ?_)
    · replace t1 := of_decide_eq_true t1
      have hlt : k < rows.length := by have : (k : Int) < rows.length := t1; omega
      have hltE : k < (rowsE rows).length := by simpa using hlt
      have hk : (rowsE rows)[k] = rows[k].2 := by simp
      have hrk := hok rows[k].2 (List.mem_map.2 ⟨rows[k], List.getElem_mem hlt, rfl⟩)
      have hrl := (rowE_ok hrk).1
      refine H.keep [(1, _), (6, _), (8, _)] ⟨rfl, rfl, rfl, trivial⟩ ?_
      refine HN.skip ?_
      refine HN.then ?_
      refine H.seq ?_
      refine H.block ?_
      refine H.seq ?_
      refine H.region ?_
      refine H.q (yl_move rfl) rfl rfl (by decide) ?_
      refine H.q (yl_move rfl) rfl rfl (by decide) ?_
      refine H.q (yl_move rfl) rfl rfl (by decide) ?_
      refine H.q (yl_ix k Tryz.underlying37 Tryz.sizeOf23 (hs k hlt).1 rfl rfl rfl hlt) rfl rfl (by decide) ?_
      refine H.q (yl_load Tryz.isAgg23 rfl (fun w hw => cell_ext hw.ext (hs k hlt).2.1)) rfl rfl (by decide) ?_
      refine H.callX (α := Value × List (Value × List Int)) (xs := [.tmp 26, .tmp 30]) (fun _ => .int .i64 0) (fun q => q.2.map (·.2) = (rowsE rows).take (k + 1)) (fun q => Hp w0 [minerB bm vars q.1] (minerRw q.1 q.2 :: (rowsR q.2 ++ [])) []) Tryz.call19 rfl (by decide) (fun w hw => (add_any rows[k].2 rows[k].1 bm vars rvz new w0 [] [] [] w (by omega) hv1 (by omega) (fun w' hw' => (hs k hlt).2.2.ext hw'.ext) hw).mono fun e w' h => by
        rw [rowE_add] at hrk
        rcases h with ⟨h, _⟩ | ⟨_, h1, rv', cv, h2⟩
        · exact absurd hrk h
        · exact ⟨(rv', new ++ [(cv, rows[k].2)]), h1, by simp only [List.map_append, hnew, List.take_succ_eq_append_getElem hltE, hk]; rfl, h2⟩) (fun q hq => ?_)
      refine H.q (yl_neq rfl rfl) rfl rfl (by decide) ?_
      refine HN.done ?_
      refine HN.keep [(1, _), (6, _), (8, _), (32, _)] ⟨rfl, rfl, rfl, rfl, trivial⟩ ?_
      refine HN.then ?_
      refine H.cond _ rfl (fun t2 => ?_) (fun t2 => ?_)
      · simp at t2
        done
      · refine H.keep [(1, _), (6, _), (8, _)] ⟨rfl, rfl, rfl, trivial⟩ ?_
        refine HN.skip ?_
        refine HN.block ?_
        refine HN.then ?_
        refine H.region ?_
        refine H.q (yl_move rfl) rfl rfl (by decide) ?_
        refine H.q (yl_add rfl rfl ((k : Int) + 1) rfl (by omega)) rfl rfl (by decide) ?_
        refine H.q (yl_assign rfl) rfl rfl (by decide) ?_
        refine HN.done ?_
        refine HN.keep [(1, _), (6, _), (8, _)] ⟨rfl, rfl, rfl, trivial⟩ ?_
        refine HN.then ?_
        exact H.at ⟨k + 1, q.1, q.2⟩ ⟨⟨hlt, hq⟩, by simp only; omega⟩ ⟨rfl, rfl, rfl, trivial⟩ (fun w hw => hw)
    · replace t1 := of_decide_eq_false t1
      have hkl : k = rows.length := by have : ¬ (k : Int) < rows.length := t1; omega
      rw [List.take_of_length_le (by simp; omega)] at hnew
      refine H.keep [(6, _)] ⟨rfl, trivial⟩ ?_
      refine HX.exit ?_
      refine HX.then ?_
      refine HX.then ?_
      refine HX.hit ?_
      refine HN.then ?_
      refine H.seq ?_
      refine H.region ?_
      refine H.q (yl_move rfl) rfl rfl (by decide) ?_
      refine H.q (yl_assign rfl) rfl rfl (by decide) ?_
      refine H.q (yl_assign rfl) rfl rfl (by decide) ?_
      refine HN.done ?_
      refine HN.keep [(4, _), (5, _)] ⟨rfl, rfl, trivial⟩ ?_
      refine HN.then ?_
      refine HR.ret ?_
      refine HR.ret2 _ _ Tryz.results27 rfl rfl (fun w hw => ?_)
      exact ⟨bm, rvz, new, rfl, hnew, by rw [List.append_nil] at hw; exact hw⟩

end Go.Proofs.YtgbgddmbooaddaaGreatDoor

namespace Go.Proofs.YtgbgddmbooaddaaGreatDoor
open Go.RowKit

theorem chk_mk {x : Inv} {vars : Int} (hv : 1 ≤ vars) (hv8 : vars ≤ 8) (hk : kindB x.kind = true) (hp : placeB x vars = true) (hn : numE x = 0) (hb : sameB x (bareI x) = true) : chk x vars = 0 := by
  unfold chk
  rw [if_neg (by omega), if_neg (by omega), if_neg (by rw [hk]; decide), if_neg (by rw [hp]; decide), if_pos hn, if_pos hb]
theorem numE_mk {x : Inv} (h1 : smallB x.k = true) (h2 : smallB x.m = true) (h3 : allSmallB x.set = true) (h4 : x.kind = 2 → 2 ≤ x.set.length ∧ x.set.length ≤ 3 ∧ risingB x.set = true) (h5 : x.kind = 6 → 2 ≤ x.m ∧ 0 ≤ x.k ∧ x.k < x.m) : numE x = 0 := by
  unfold numE
  rw [if_pos (by rw [h1, h2, h3]; rfl)]
  by_cases h2k : x.kind = 2
  · obtain ⟨a, b, c⟩ := h4 h2k
    have e1 : (hasSB x.kind && (decide ((x.set.length : Int) < 2) || decide (3 < (x.set.length : Int)) || !risingB x.set)) = false := by
      rw [c, decide_eq_false (show ¬ (x.set.length : Int) < 2 by omega), decide_eq_false (show ¬ (3 : Int) < x.set.length by omega)]
      simp
    rw [if_neg (by rw [e1]; decide), if_neg (by simp [h2k])]
  · have e1 : hasSB x.kind = false := by simp [hasSB, h2k]
    rw [if_neg (by rw [e1]; simp)]
    by_cases h6k : x.kind = 6
    · obtain ⟨a, b, c⟩ := h5 h6k
      rw [if_neg]
      rw [decide_eq_false (show ¬ x.m < 2 by omega), decide_eq_false (show ¬ x.k < 0 by omega), decide_eq_false (show ¬ x.m ≤ x.k by omega)]
      simp
    · rw [if_neg (by simp [h6k])]
theorem modI_emod {n m : Int} (h : 0 < m) : modI n m = n % m := by
  unfold modI
  have h1 : n.tmod m + m = (n.tmod m + m) := rfl
  have hlt := Int.tmod_lt_of_pos n h
  have hgt := Int.lt_tmod_of_pos n h
  rw [Int.tmod_eq_emod_of_nonneg (by omega), Int.add_emod_right]
  exact Int.emod_eq_emod_iff_emod_sub_eq_zero.2 (by
    have := Int.dvd_sub_self_of_tmod_eq (a := n) (b := m) (c := n.tmod m) rfl
    have h2 : m ∣ n.tmod m - n := by
      have h3 := Int.dvd_neg.2 this
      rwa [Int.neg_sub] at h3
    exact Int.emod_eq_zero_of_dvd h2)
theorem gcdE_left {a b : Int} (h : 0 ≤ a) : gcdE a b ∣ a := by
  have : ((Nat.gcd a.toNat b.toNat : Nat) : Int) ∣ ((a.toNat : Nat) : Int) := Int.natCast_dvd_natCast.2 (Nat.gcd_dvd_left _ _)
  rwa [Int.toNat_of_nonneg h] at this
theorem gcdE_right {a b : Int} (h : 0 ≤ b) : gcdE a b ∣ b := by
  have : ((Nat.gcd a.toNat b.toNat : Nat) : Int) ∣ ((b.toNat : Nat) : Int) := Int.natCast_dvd_natCast.2 (Nat.gcd_dvd_right _ _)
  rwa [Int.toNat_of_nonneg h] at this
/-- Ascending, no number twice. -/
abbrev Asc (c : List Int) : Prop := c.Pairwise fun x y => x < y
theorem asc_step {c : List Int} (h : Asc c) {k : Nat} (hk : k + 1 < c.length) : c.getD k 0 < c.getD (k + 1) 0 := by
  have := List.pairwise_iff_getElem.1 h k (k + 1) (by omega) hk (by omega)
  simpa [List.getD, hk, show k < c.length by omega] using this
theorem asc_bounds {c : List Int} (h : Asc c) {y : Int} (hy : y ∈ c) : loE c ≤ y ∧ y ≤ hiE c := by
  obtain ⟨j, hj, rfl⟩ := List.getElem_of_mem hy
  have h0 : loE c = c[0]'(by omega) := by simp [loE, List.getD, show 0 < c.length by omega]
  have h1 : hiE c = c[c.length - 1]'(by omega) := by simp [hiE, List.getD, show c.length - 1 < c.length by omega]
  rw [h0, h1]
  constructor
  · by_cases hj0 : j = 0
    · subst hj0; omega
    · have := List.pairwise_iff_getElem.1 h 0 j (by omega) hj (by omega)
      omega
  · by_cases hjl : j = c.length - 1
    · subst hjl; omega
    · have := List.pairwise_iff_getElem.1 h j (c.length - 1) hj (by omega) (by omega)
      omega
theorem step_dvd {c : List Int} (h : Asc c) : ∀ k, k + 1 ≤ c.length → ∀ j, j < k → stepE c k ∣ c.getD (j + 1) 0 - c.getD j 0
  | 0, _, j, hj => absurd hj (Nat.not_lt_zero _)
  | k + 1, hk, j, hj => by
    have hs := asc_step h (k := k) (by omega)
    show gcdE (stepE c k) (c.getD (k + 1) 0 - c.getD k 0) ∣ _
    by_cases hjk : j = k
    · subst hjk; exact gcdE_right (by omega)
    · exact Int.dvd_trans (gcdE_left (stepE_nonneg c k)) (step_dvd h k (by omega) j (by omega))
theorem step_low {c : List Int} (h : Asc c) {y : Int} (hy : y ∈ c) : stepE c (c.length - 1) ∣ y - loE c := by
  obtain ⟨j, hj, rfl⟩ := List.getElem_of_mem hy
  have key : ∀ j, j < c.length → stepE c (c.length - 1) ∣ c.getD j 0 - loE c := by
    intro j
    induction j with
    | zero => intro _; unfold loE; rw [Int.sub_self]; exact Int.dvd_zero _
    | succ j ih =>
      intro hj
      have h1 := ih (by omega)
      have h2 := step_dvd h (c.length - 1) (by omega) j (by omega)
      have h3 := Int.dvd_add h2 h1
      rwa [show c.getD (j + 1) 0 - c.getD j 0 + (c.getD j 0 - loE c) = c.getD (j + 1) 0 - loE c by omega] at h3
  have := key j hj
  simpa [List.getD, hj] using this
theorem rising_asc {c : List Int} (h : Asc c) : risingB c = true := by
  unfold risingB
  rw [List.all_eq_true]
  intro j hj
  rw [List.mem_range] at hj
  have := asc_step h (k := j) (by omega)
  simpa using this
theorem lo_mem {c : List Int} (h : 0 < c.length) : loE c ∈ c := by unfold loE; exact getD_mem h
theorem hi_mem {c : List Int} (h : 0 < c.length) : hiE c ∈ c := by unfold hiE; exact getD_mem (by omega)
theorem zero_small : smallB 0 = true := by decide
/-- The claims about one variable. -/
theorem alone_ok {c : List Int} {a vars : Nat} (h : Asc c) (hsm : ∀ y ∈ c, smallB y = true) (h0 : 0 < c.length) (hv1 : 1 ≤ vars) (hv8 : vars ≤ 8) (ha : a < vars) : ∀ x ∈ aloneE c a, chk x vars = 0 ∧ x.a = a ∧ x.kind ≤ 6 ∧ ∀ y ∈ c, ∀ z, holdsB x y z = true := by
  have hlo := hsm _ (lo_mem h0)
  have hhi := hsm _ (hi_mem h0)
  have place : ∀ x : Inv, x.a = a → x.kind ≤ 6 → placeB x vars = true := fun x hxa hk => by
    have e1 : twoB x.kind = false := by simp [twoB]; omega
    have e2 : turnB x = false := by simp [turnB]; omega
    simp only [placeB, outB, e1, e2, hxa]
    simp
    omega
  intro x hx
  unfold aloneE at hx
  split at hx
  · rename_i h1
    rw [List.mem_singleton] at hx
    subst hx
    refine ⟨chk_mk (by omega) (by omega) (by simp [kindB]) (place _ rfl (by simp [])) (numE_mk hlo zero_small rfl (fun h => absurd h (by simp [])) (fun h => absurd h (by simp []))) (by simp [sameB, bareI, twoB, hasKB, hasMB, hasSB]), rfl, (by simp []), fun y hy z => ?_⟩
    obtain ⟨b1, b2⟩ := asc_bounds h hy
    have : hiE c = loE c := by unfold hiE loE; rw [show c.length - 1 = 0 by omega]
    have : y = loE c := by omega
    simp [holdsB, this]
  · rename_i h1
    simp only [List.mem_append, List.mem_cons, List.not_mem_nil, or_false] at hx
    rcases hx with (((rfl | rfl) | hx) | hx) | hx
    · refine ⟨chk_mk (by omega) (by omega) (by simp [kindB]) (place _ rfl (by simp [])) (numE_mk hlo zero_small rfl (fun h => absurd h (by simp [])) (fun h => absurd h (by simp []))) (by simp [sameB, bareI, twoB, hasKB, hasMB, hasSB]), rfl, (by simp []), fun y hy z => ?_⟩
      have := (asc_bounds h hy).1
      simpa [holdsB] using this
    · refine ⟨chk_mk (by omega) (by omega) (by simp [kindB]) (place _ rfl (by simp [])) (numE_mk hhi zero_small rfl (fun h => absurd h (by simp [])) (fun h => absurd h (by simp []))) (by simp [sameB, bareI, twoB, hasKB, hasMB, hasSB]), rfl, (by simp []), fun y hy z => ?_⟩
      have := (asc_bounds h hy).2
      simpa [holdsB] using this
    · split at hx
      · rename_i h3
        rw [List.mem_singleton] at hx
        subst hx
        refine ⟨chk_mk (by omega) (by omega) (by simp [kindB]) (place _ rfl (by simp [])) (numE_mk zero_small zero_small (List.all_eq_true.2 hsm) (fun _ => ⟨by simp only; omega, by simp only; omega, rising_asc h⟩) (fun h => absurd h (by simp []))) (by simp [sameB, bareI, twoB, hasKB, hasMB, hasSB]), rfl, (by simp []), fun y hy z => ?_⟩
        simp [holdsB, hy]
      · cases hx
    · split at hx
      · rename_i h3
        rw [List.mem_singleton] at hx
        subst hx
        refine ⟨chk_mk (by omega) (by omega) (by simp [kindB]) (place _ rfl (by simp [])) (numE_mk zero_small zero_small rfl (fun h => absurd h (by simp [])) (fun h => absurd h (by simp []))) (by simp [sameB, bareI, twoB, hasKB, hasMB, hasSB]), rfl, (by simp []), fun y hy z => ?_⟩
        simp only [Bool.and_eq_true, Bool.not_eq_true', List.any_eq_false, decide_eq_true_eq] at h3
        have : y ≠ 0 := fun e => h3.1.1 y hy e.symm
        simp [holdsB, this]
      · cases hx
    · split at hx
      · cases hx
      · rename_i h3
        split at hx
        · rename_i h4
          rw [List.mem_singleton] at hx
          subst hx
          simp only [Bool.and_eq_true, decide_eq_true_eq] at h4
          have hpos : 0 < stepE c (c.length - 1) := by omega
          have e1 := modI_emod (n := loE c) hpos
          have b1 := Int.emod_nonneg (loE c) (show stepE c (c.length - 1) ≠ 0 by omega)
          have b2 := Int.emod_lt_of_pos (loE c) hpos
          refine ⟨chk_mk (by omega) (by omega) (by simp [kindB]) (place _ rfl (by simp [])) (numE_mk (by rw [smallB]; simp only [e1, Bool.and_eq_true, decide_eq_true_eq]; omega) (by rw [smallB]; simp only [Bool.and_eq_true, decide_eq_true_eq]; omega) rfl (fun h => absurd h (by simp [])) (fun _ => ⟨h4.1, by simp only [e1]; omega, by simp only [e1]; omega⟩)) (by simp [sameB, bareI, twoB, hasKB, hasMB, hasSB]), rfl, (by simp []), fun y hy z => ?_⟩
          have hd := step_low h hy
          have : modI y (stepE c (c.length - 1)) = modI (loE c) (stepE c (c.length - 1)) := by
            rw [e1, modI_emod hpos]
            exact Int.emod_eq_emod_iff_emod_sub_eq_zero.2 (Int.emod_eq_zero_of_dvd hd)
          simp [holdsB, this]
        · cases hx
end Go.Proofs.YtgbgddmbooaddaaGreatDoor

namespace Go.Proofs.YtgbgddmbooaddaaGreatDoor
open Go.RowKit

def Okr (rows : List (List Int)) (vars : Nat) : Prop := ∀ r ∈ rows, r.length = vars ∧ allSmallB r = true
theorem okr_of {rows : List (List Int)} {vars : Nat} (h : ∀ r ∈ rows, rowE r vars = 0) : Okr rows vars := fun r hr => by
  have := rowE_ok (h r hr)
  exact ⟨by omega, this.2⟩
theorem Okr.small {rows : List (List Int)} {vars : Nat} (h : Okr rows vars) : ∀ r ∈ rows, ∀ x ∈ r, smallB x = true := fun r hr x hx => List.all_eq_true.1 (h r hr).2 x hx
theorem place_two {x : Inv} {vars p q : Nat} (ha : x.a = p) (hb : x.b = q) (hpv : p < vars) (hqv : q < vars) (hne : p ≠ q) (ht : x.kind = 7 ∨ x.kind = 8 → p < q) : placeB x vars = true := by
  unfold placeB outB turnB
  rw [ha, hb]
  have e1 : decide ((p : Int) < 0) = false := decide_eq_false (by omega)
  have e2 : decide ((vars : Int) ≤ p) = false := decide_eq_false (by omega)
  have e3 : decide ((q : Int) < 0) = false := decide_eq_false (by omega)
  have e4 : decide ((vars : Int) ≤ q) = false := decide_eq_false (by omega)
  have e5 : decide ((p : Int) = q) = false := decide_eq_false (by omega)
  rw [e1, e2, e3, e4, e5]
  by_cases h7 : x.kind = 7 ∨ x.kind = 8
  · have := ht h7
    have e6 : decide ((q : Int) ≤ p) = false := decide_eq_false (by omega)
    rw [e6]
    simp
  · have e6 : (decide (x.kind = 7) || decide (x.kind = 8)) = false := by simp; omega
    rw [e6]
    simp
theorem chk_two {k : Int} {vars p q : Nat} {K M : Int} (hk : 7 ≤ k ∧ k ≤ 11) (hv1 : 1 ≤ vars) (hv8 : vars ≤ 8) (hpv : p < vars) (hqv : q < vars) (hne : p ≠ q) (ht : k = 7 ∨ k = 8 → p < q) (hK : smallB K = true) (hM : smallB M = true) (h0 : k ≠ 11 → K = 0 ∧ M = 0) : chk ⟨k, p, q, K, M, []⟩ vars = 0 := by
  refine chk_mk (by omega) (by omega) (by simp [kindB]; omega) (place_two rfl rfl hpv hqv hne ht) (numE_mk hK hM rfl (fun h => ?_) (fun h => ?_)) ?_
  · simp only at h; omega
  · simp only at h; omega
  · have e1 : twoB k = true := by simp [twoB]; omega
    have e3 : hasSB k = false := by simp [hasSB]; omega
    by_cases h11 : k = 11
    · subst h11
      simp [sameB, bareI, twoB, hasKB, hasMB, hasSB]
    · obtain ⟨rfl, rfl⟩ := h0 h11
      simp [sameB, bareI, e1, e3]
theorem linE_some {P : List (Int × Int)} {a b : Int} {x : Inv} (h : linE P a b = some x) : ∃ K M, x = ⟨11, a, b, K, M, []⟩ ∧ smallB K = true ∧ smallB M = true ∧ ∀ r ∈ P, r.2 = K * r.1 + M := by
  unfold linE at h
  rw [Option.bind_eq_some_iff] at h
  obtain ⟨q, _, h⟩ := h
  unfold linT at h
  split at h
  · cases h
  split at h
  · cases h
  rename_i h2
  split at h
  · cases h
  rename_i h3
  split at h
  · rename_i h4
    simp only [Option.some.injEq] at h
    subst h
    refine ⟨_, _, rfl, by simpa using h2, by simpa using h3, fun r hr => ?_⟩
    have := List.all_eq_true.1 h4 r hr
    simpa using this
  · cases h
theorem all_pts {rows : List (List Int)} {a b : Nat} {f : Int × Int → Bool} (h : (ptsL rows a b).all f = true) : ∀ r ∈ rows, f (r.getD a 0, r.getD b 0) = true := fun r hr =>
  List.all_eq_true.1 h _ (List.mem_map.2 ⟨r, hr, rfl⟩)
theorem order_ok {rows : List (List Int)} {ca cb : List Int} {a b vars : Nat} (hv1 : 1 ≤ vars) (hv8 : vars ≤ 8) (hb : b < vars) (hab : a < b) : ∀ x ∈ orderE (ptsL rows a b) ca cb a b, chk x vars = 0 ∧ ∀ r ∈ rows, holdsR x r = true := by
  intro x hx
  unfold orderE at hx
  split at hx
  · rename_i h1
    split at hx
    · cases hx
    · rw [List.mem_singleton] at hx
      subst hx
      exact ⟨chk_two (by omega) hv1 hv8 (by omega) hb (by omega) (by omega) zero_small zero_small (fun _ => ⟨rfl, rfl⟩), fun r hr => by simpa [holdsR, holdsB] using all_pts h1 r hr⟩
  split at hx
  · rename_i h1
    split at hx
    · cases hx
    · rw [List.mem_singleton] at hx
      subst hx
      exact ⟨chk_two (by omega) hv1 hv8 hb (by omega) (by omega) (by omega) zero_small zero_small (fun _ => ⟨rfl, rfl⟩), fun r hr => by simpa [holdsR, holdsB] using all_pts h1 r hr⟩
  split at hx
  · rename_i h1
    split at hx
    · cases hx
    · rw [List.mem_singleton] at hx
      subst hx
      exact ⟨chk_two (by omega) hv1 hv8 (by omega) hb (by omega) (by omega) zero_small zero_small (fun _ => ⟨rfl, rfl⟩), fun r hr => by simpa [holdsR, holdsB] using all_pts h1 r hr⟩
  split at hx
  · rename_i h1
    split at hx
    · cases hx
    · rw [List.mem_singleton] at hx
      subst hx
      exact ⟨chk_two (by omega) hv1 hv8 hb (by omega) (by omega) (by omega) zero_small zero_small (fun _ => ⟨rfl, rfl⟩), fun r hr => by simpa [holdsR, holdsB] using all_pts h1 r hr⟩
  split at hx
  · rename_i h1
    rw [List.mem_singleton] at hx
    subst hx
    exact ⟨chk_two (by omega) hv1 hv8 (by omega) hb (by omega) (fun _ => hab) zero_small zero_small (fun _ => ⟨rfl, rfl⟩), fun r hr => by simpa [holdsR, holdsB] using all_pts h1 r hr⟩
  · cases hx
theorem couple_ok {rows : List (List Int)} {ca cb : List Int} {a b vars : Nat} (hv1 : 1 ≤ vars) (hv8 : vars ≤ 8) (hb : b < vars) (hab : a < b) : ∀ x ∈ coupleE rows ca cb a b, chk x vars = 0 ∧ ∀ r ∈ rows, holdsR x r = true := by
  intro x hx
  cases h1 : (ptsL rows a b).all (fun p => decide (p.1 = p.2)) with
  | true =>
    unfold coupleE at hx
    rw [if_pos h1, List.mem_singleton] at hx
    subst hx
    exact ⟨chk_two (by omega) hv1 hv8 (by omega) hb (by omega) (fun _ => hab) zero_small zero_small (fun _ => ⟨rfl, rfl⟩), fun r hr => by simpa [holdsR, holdsB] using all_pts h1 r hr⟩
  | false =>
    rw [couple_eq h1] at hx
    rcases List.mem_append.1 hx with hx | hx
    · exact order_ok hv1 hv8 hb hab x hx
    · split at hx
      · cases hx
      · cases h2 : linE (setD (ptsL rows a b)) a b with
        | some y =>
          rw [h2] at hx
          simp only [List.mem_singleton] at hx
          subst hx
          obtain ⟨K, M, rfl, hK, hM, hall⟩ := linE_some h2
          refine ⟨chk_two (by omega) hv1 hv8 (by omega) hb (by omega) (by omega) hK hM (fun h => absurd rfl h), fun r hr => ?_⟩
          have := hall (r.getD a 0, r.getD b 0) (mem_setD.2 (List.mem_map.2 ⟨r, hr, rfl⟩))
          simpa [holdsR, holdsB] using this
        | none =>
          rw [h2] at hx
          simp only at hx
          cases h3 : linE (swapL (setD (ptsL rows a b))) b a with
          | some y =>
            rw [h3] at hx
            simp only [List.mem_singleton] at hx
            subst hx
            obtain ⟨K, M, rfl, hK, hM, hall⟩ := linE_some h3
            refine ⟨chk_two (by omega) hv1 hv8 hb (by omega) (by omega) (by omega) hK hM (fun h => absurd rfl h), fun r hr => ?_⟩
            have := hall (r.getD b 0, r.getD a 0) (List.mem_map.2 ⟨(r.getD a 0, r.getD b 0), mem_setD.2 (List.mem_map.2 ⟨r, hr, rfl⟩), rfl⟩)
            simpa [holdsR, holdsB] using this
          | none =>
            rw [h3] at hx
            simp at hx
theorem claims_ok {rows : List (List Int)} {vars : Nat} (hv1 : 1 ≤ vars) (hv8 : vars ≤ 8) (hok : Okr rows vars) (support : Int) : ∀ x ∈ claimsE rows vars support, chk x vars = 0 ∧ ∀ r ∈ rows, holdsR x r = true := by
  intro x hx
  by_cases hs : (rows.length : Int) = 0 ∨ (rows.length : Int) < support
  · unfold claimsE at hx
    rw [if_pos hs] at hx
    cases hx
  · rw [claimsE_eq hs] at hx
    have hpos : 0 < rows.length := by omega
    rcases List.mem_append.1 hx with hx | hx
    · obtain ⟨a, ha, hx⟩ := List.mem_flatMap.1 hx
      rw [List.mem_range] at ha
      obtain ⟨h1, h2, h3, h4⟩ := alone_ok (facts_lt rows a) (facts_small hok.small a) (facts_pos hpos a) hv1 hv8 ha x hx
      refine ⟨h1, fun r hr => ?_⟩
      unfold holdsR
      rw [h2]
      exact h4 _ (facts_mem.2 (List.mem_map.2 ⟨r, hr, rfl⟩)) _
    · obtain ⟨a, ha, hx⟩ := List.mem_flatMap.1 hx
      rw [List.mem_range] at ha
      obtain ⟨b, hb, hx⟩ := List.mem_flatMap.1 hx
      have hb2 : a < b ∧ b < vars := by
        obtain ⟨j, hj, rfl⟩ := List.getElem_of_mem hb
        simp at hj ⊢
        omega
      unfold pairE at hx
      split at hx
      · exact couple_ok hv1 hv8 hb2.2 hb2.1 x hx
      · cases hx
end Go.Proofs.YtgbgddmbooaddaaGreatDoor

namespace Go.Proofs.YtgbgddmbooaddaaGreatDoor
open Go.RowKit


theorem turn_bounds {x n : Int} (hn : 0 < n) : 0 ≤ (x.tmod n + n).tmod n ∧ (x.tmod n + n).tmod n < n := by
  have h1 := Int.tmod_lt_of_pos x hn
  have h2 := Int.lt_tmod_of_pos x hn
  have h3 := Int.tmod_lt_of_pos (x.tmod n + n) hn
  exact ⟨Int.tmod_nonneg _ (by omega), h3⟩
theorem valid_open {v : Int} {rows : List (List Int)} (h : validB v rows = true) : ∃ vars : Nat, v = (vars : Int) ∧ 1 ≤ vars ∧ vars ≤ 8 ∧ ∀ r ∈ rows, rowE r (vars : Int) = 0 := by
  unfold validB at h
  simp only [Bool.and_eq_true, List.all_eq_true, decide_eq_true_eq] at h
  obtain ⟨h1, h2, h3⟩ := h
  refine ⟨v.toNat, by omega, by omega, by omega, fun r hr => ?_⟩
  rw [show ((v.toNat : Nat) : Int) = v by omega]
  exact h1 r hr
/-- A table as the laws have it. -/
theorem mined_tbl {w : World} {bm vars : Nat} {rv : Value} {new : List (Value × List Int)} {rows : List (List Int)} (hnew : new.map (·.2) = rows) (hok : Okr rows vars) (hmax : rows.length ≤ 500) (hb : w.heap[bm]? = some (.cells #[.int .i64 (vars : Int), rv] 94)) (hr : Rw.ok w (minerRw rv new)) (hs : ∀ r ∈ rowsR new, r.ok w) : Tbl w bm vars rv new :=
  Tbl.of hb hr hs (fun p hp => (hok p.2 (hnew ▸ List.mem_map.2 ⟨p, hp, rfl⟩)).1) (by have := congrArg List.length hnew; rw [List.length_map] at this; omega) (fun p hp => (hok p.2 (hnew ▸ List.mem_map.2 ⟨p, hp, rfl⟩)).2)
theorem chk_set {x : Inv} {vars : Int} (h : chk x vars = 0) : x.set.length ≤ 4611686018427387904 := by
  obtain ⟨_, _, _, _, h5, h6⟩ := chk_zero h
  by_cases hk : x.kind = 2
  · have := (numE_zero h5).2.2.2.1 (by simp [hasSB, hk])
    omega
  · simp only [sameB, bareI, hasSB, hk, decide_false, Bool.false_eq_true, if_false, Bool.and_eq_true, decide_eq_true_eq] at h6
    rw [h6.2]
    simp
theorem valid_len {l : List (Value × Inv)} {rows : List (Value × List Int)} {names : List (List UInt8)} (h : (!wideB (l.map (·.2)) (rows.map (·.2)) names) = true) : rows.length ≤ 1000 := by
  have h1 : wideB (l.map (·.2)) (rows.map (·.2)) names = false := by simpa using h
  have := (wide_rows h1).1
  rw [List.length_map] at this
  omega
theorem valid_lens {l : List (Value × Inv)} {rows : List (Value × List Int)} {names : List (List UInt8)} (h : (!wideB (l.map (·.2)) (rows.map (·.2)) names) = true) : ∀ p ∈ rows, p.2.length ≤ 1000 := fun p hp => by
  have h1 : wideB (l.map (·.2)) (rows.map (·.2)) names = false := by simpa using h
  have := (wide_rows h1).2 p.2 (List.mem_map.2 ⟨p, hp, rfl⟩)
  omega

end Go.Proofs.YtgbgddmbooaddaaGreatDoor

namespace Go.Proofs.YtgbgddmbooaddaaGreatDoor
open Go.RowKit


section
variable {P : Program} {n : Nat} {e : Env} {C : World → Prop} {d : Option Tmp} {t : TypeId} {p : String} {af : Array Edge} {g : Option (Nat × Bool)}
theorem yl_max {x y : Operand} {a b : Int} {k : IntKind} {ats : Array TypeId} (hx : eev e x = some (.int k a)) (hy : eev e y = some (.int k b)) : Yl P C n e ⟨d, .call { callee := .builtin .max, args := #[x, y], argTypes := ats }, t, p, af, g⟩ (.int k (if b > a then b else a)) :=
  Yl.val fun ac w hf _ => by simp [execOp, resolve, hf.ev hx, hf.ev hy, invoke, builtin, run_max_int2]
end
theorem claims_nil (w : World) : IsClaims w (.slice none 0 0) [] := ⟨⟨none, 0, 0, 0, rfl, Nat.le_refl _, fun j c hj => by simp at hj⟩, fun _ h => by cases h⟩
/-- The least and the greatest value of a column. -/
structure BZ where
  k : Nat
  lo : Int
  hi : Int
structure BZ.inv (col : List Int) (z : BZ) : Prop where
  k : z.k ≤ col.length
  lo : z.lo ∈ col
  hi : z.hi ∈ col
  all : ∀ y ∈ col.take z.k, z.lo ≤ y ∧ y ≤ z.hi
theorem BZ.next {col : List Int} {z : BZ} (h : z.inv col) (hk : z.k < col.length) : BZ.inv col ⟨z.k + 1, if col.getD z.k 0 < z.lo then col.getD z.k 0 else z.lo, if col.getD z.k 0 > z.hi then col.getD z.k 0 else z.hi⟩ := by
  have hy : col.getD z.k 0 ∈ col := getD_mem hk
  have he : col[z.k] = col.getD z.k 0 := by simp [List.getD, hk]
  refine ⟨hk, ?_, ?_, fun y hy => ?_⟩
  · simp only; split
    · exact hy
    · exact h.lo
  · simp only; split
    · exact hy
    · exact h.hi
  · simp only at hy ⊢
    rw [List.take_succ_eq_append_getElem hk, List.mem_append, List.mem_singleton, he] at hy
    rcases hy with hy | hy
    · have := h.all y hy
      constructor <;> split <;> omega
    · subst hy
      constructor <;> split <;> omega
theorem BZ.done {rows : List (List Int)} {a : Nat} {z : BZ} (h : z.inv (colL rows a)) (hk : z.k = (colL rows a).length) : z.lo = loE (factsE rows a) ∧ z.hi = hiE (factsE rows a) := by
  have hall := h.all
  rw [hk, List.take_length] at hall
  have hA := facts_lt rows a
  have h1 : z.lo ∈ factsE rows a := facts_mem.2 h.lo
  have h2 : z.hi ∈ factsE rows a := facts_mem.2 h.hi
  have h0 : 0 < (factsE rows a).length := List.length_pos_of_mem h1
  have b1 := asc_bounds hA h1
  have b2 := asc_bounds hA h2
  have c1 := hall _ (facts_mem.1 (lo_mem h0))
  have c2 := hall _ (facts_mem.1 (hi_mem h0))
  omega


end Go.Proofs.YtgbgddmbooaddaaGreatDoor

namespace Go.Proofs.YtgbgddmbooaddaaGreatDoor
open Go.RowKit

theorem setD_perm {α : Type} [DecidableEq α] {l m : List α} (h : ∀ x, x ∈ l ↔ x ∈ m) : (setD l).Perm (setD m) :=
  (List.perm_ext_iff_of_nodup (nodup_setD l) (nodup_setD m)).2 fun x => by rw [mem_setD, mem_setD]; exact h x
theorem map_same {α β : Type} {l m : List α} (f : α → β) (h : ∀ x, x ∈ l ↔ x ∈ m) : ∀ y, y ∈ l.map f ↔ y ∈ m.map f := fun y => by
  constructor
  · intro hy; obtain ⟨x, hx, rfl⟩ := List.mem_map.1 hy; exact List.mem_map.2 ⟨x, (h x).1 hx, rfl⟩
  · intro hy; obtain ⟨x, hx, rfl⟩ := List.mem_map.1 hy; exact List.mem_map.2 ⟨x, (h x).2 hx, rfl⟩
theorem all_same {α : Type} {l m : List α} (f : α → Bool) (h : ∀ x, x ∈ l ↔ x ∈ m) : l.all f = m.all f := by
  cases h1 : m.all f with
  | true => rw [List.all_eq_true] at h1 ⊢; exact fun x hx => h1 x ((h x).1 hx)
  | false => rw [List.all_eq_false] at h1 ⊢; obtain ⟨x, hx, hf⟩ := h1; exact ⟨x, (h x).2 hx, hf⟩
theorem facts_same {rows rows' : List (List Int)} (h : ∀ r, r ∈ rows ↔ r ∈ rows') (a : Nat) : factsE rows a = factsE rows' a := sortI_perm (setD_perm (map_same _ h))

/-- When there is a linear claim: two first values, and all points on one line with plain numbers. -/
def OnLine (P : List (Int × Int)) (K M : Int) : Prop := smallB K = true ∧ smallB M = true ∧ ∀ r ∈ P, r.2 = K * r.1 + M
theorem linE_of {P : List (Int × Int)} {a b K M : Int} (h : OnLine P K M) (h2 : ∃ p ∈ P, ∃ q ∈ P, p.1 ≠ q.1) : linE P a b = some ⟨11, a, b, K, M, []⟩ := by
  obtain ⟨hK, hM, hall⟩ := h
  obtain ⟨p, hp, q, hq, hpq⟩ := h2
  have hpos : 0 < P.length := List.length_pos_of_mem hp
  have h0 := getD0_mem hpos
  have e0 := hall _ h0
  have hex : ∃ q ∈ P, decide (q.1 ≠ (P.getD 0 (0, 0)).1) = true := by
    by_cases h1 : p.1 = (P.getD 0 (0, 0)).1
    · exact ⟨q, hq, by simp only [decide_eq_true_eq]; rw [← h1]; exact fun e => hpq e.symm⟩
    · exact ⟨p, hp, by simpa using h1⟩
  obtain ⟨s, hs⟩ : ∃ s, P.find? (fun q => decide (q.1 ≠ (P.getD 0 (0, 0)).1)) = some s := by
    obtain ⟨q, hq, hd⟩ := hex
    cases hf : P.find? (fun q => decide (q.1 ≠ (P.getD 0 (0, 0)).1)) with
    | none => rw [List.find?_eq_none] at hf; exact absurd hd (hf q hq)
    | some s => exact ⟨s, rfl⟩
  have hsm := List.mem_of_find?_eq_some hs
  have hsd : s.1 ≠ (P.getD 0 (0, 0)).1 := by simpa using List.find?_some hs
  have es := hall _ hsm
  unfold linE
  rw [hs]
  show linT _ P a b s = _
  have hd : s.1 - (P.getD 0 (0, 0)).1 ≠ 0 := by omega
  have hdiff : s.2 - (P.getD 0 (0, 0)).2 = K * (s.1 - (P.getD 0 (0, 0)).1) := by rw [es, e0, Int.mul_sub]; omega
  have hmod : (s.2 - (P.getD 0 (0, 0)).2).tmod (s.1 - (P.getD 0 (0, 0)).1) = 0 := by rw [hdiff]; exact Int.mul_tmod_left _ _
  have hdiv : (s.2 - (P.getD 0 (0, 0)).2).tdiv (s.1 - (P.getD 0 (0, 0)).1) = K := by rw [hdiff]; exact Int.mul_tdiv_cancel _ hd
  have hm : (P.getD 0 (0, 0)).2 - K * (P.getD 0 (0, 0)).1 = M := by omega
  unfold linT
  rw [if_neg (not_not_intro hmod), hdiv, hm, if_neg (by rw [hK]; decide), if_neg (by rw [hM]; decide), if_pos]
  rw [List.all_eq_true]
  intro r hr
  simpa using hall r hr
theorem linE_two {P : List (Int × Int)} {a b : Int} {x : Inv} (h : linE P a b = some x) : ∃ p ∈ P, ∃ q ∈ P, p.1 ≠ q.1 := by
  unfold linE at h
  rw [Option.bind_eq_some_iff] at h
  obtain ⟨q, hq, _⟩ := h
  have hqm := List.mem_of_find?_eq_some hq
  have hqd : q.1 ≠ (P.getD 0 (0, 0)).1 := by simpa using List.find?_some hq
  exact ⟨q, hqm, _, getD0_mem (List.length_pos_of_mem hqm), hqd⟩
theorem linE_same {P P' : List (Int × Int)} (h : ∀ r, r ∈ P ↔ r ∈ P') (a b : Int) : linE P a b = linE P' a b := by
  have key : ∀ {P P' : List (Int × Int)}, (∀ r, r ∈ P ↔ r ∈ P') → ∀ x, linE P a b = some x → linE P' a b = some x := fun h x hx => by
    obtain ⟨p, hp, q, hq, hpq⟩ := linE_two hx
    obtain ⟨K, M, rfl, hK, hM, hall⟩ := linE_some hx
    exact linE_of ⟨hK, hM, fun r hr => hall r ((h r).2 hr)⟩ ⟨p, (h p).1 hp, q, (h q).1 hq, hpq⟩
  cases h1 : linE P a b with
  | some x => exact (key h x h1).symm
  | none =>
    cases h2 : linE P' a b with
    | none => rfl
    | some x => rw [key (fun r => (h r).symm) x h2] at h1; cases h1
theorem order_same {P P' : List (Int × Int)} (h : ∀ r, r ∈ P ↔ r ∈ P') (ca cb : List Int) (a b : Int) : orderE P ca cb a b = orderE P' ca cb a b := by
  unfold orderE
  rw [all_same _ h, all_same (fun p : Int × Int => decide (p.2 < p.1)) h, all_same (fun p : Int × Int => decide (p.1 ≤ p.2)) h, all_same (fun p : Int × Int => decide (p.2 ≤ p.1)) h, all_same (fun p : Int × Int => decide (p.1 ≠ p.2)) h]
theorem couple_same {rows rows' : List (List Int)} (h : ∀ r, r ∈ rows ↔ r ∈ rows') (ca cb : List Int) (a b : Nat) : coupleE rows ca cb a b = coupleE rows' ca cb a b := by
  have hp : ∀ r, r ∈ ptsL rows a b ↔ r ∈ ptsL rows' a b := map_same _ h
  have hs := setD_perm hp
  have hsm : ∀ r, r ∈ setD (ptsL rows a b) ↔ r ∈ setD (ptsL rows' a b) := fun r => hs.mem_iff
  have hsw : ∀ r, r ∈ (setD (ptsL rows a b)).map (fun p => (p.2, p.1)) ↔ r ∈ (setD (ptsL rows' a b)).map (fun p => (p.2, p.1)) := map_same _ hsm
  unfold coupleE
  rw [all_same _ hp, order_same hp, hs.length_eq, linE_same hsm, linE_same hsw]
theorem claims_same {rows rows' : List (List Int)} (h : ∀ r, r ∈ rows ↔ r ∈ rows') (vars : Nat) : claimsE rows vars 1 = claimsE rows' vars 1 := by
  by_cases h0 : rows = []
  · subst h0
    have : rows' = [] := List.eq_nil_iff_forall_not_mem.2 fun r hr => by simpa using (h r).2 hr
    rw [this]
  · have hpos : 0 < rows.length := List.length_pos_iff.2 h0
    have hpos' : 0 < rows'.length := by
      obtain ⟨r, hr⟩ := List.exists_mem_of_ne_nil rows h0
      exact List.length_pos_of_mem ((h r).1 hr)
    rw [claimsE_eq (by omega), claimsE_eq (by omega)]
    unfold claimsA aloneA pairA pairE
    simp only [facts_same h, couple_same h]
theorem follow_same {rows rows' : List (List Int)} (h : ∀ r, r ∈ rows ↔ r ∈ rows') (x : Inv) (vars : Int) : followE x vars.toNat rows = followE x vars.toNat rows' := by
  unfold followE
  rw [all_same _ h]
end Go.Proofs.YtgbgddmbooaddaaGreatDoor

namespace Go.Proofs.YtgbgddmbooaddaaGreatDoor
open Go.RowKit


theorem yl_bneq {P : Program} {C : World → Prop} {n : Nat} {e : Env} {d : Option Tmp} {t : TypeId} {p : String} {af : Array Edge} {g : Option (Nat × Bool)} {x y : Operand} {a b : Bool} {tx ty : TypeId} (hu : P.underlying tx = some .bool) (hx : eev e x = some (.bool a)) (hy : eev e y = some (.bool b)) : Yl P C n e ⟨d, .binOp .neq tx x y ty, t, p, af, g⟩ (.bool (a != b)) :=
  Yl.val fun ac w hf _ => by
    have e1 : ∀ k : Nat, (Op.equalIn (k + 1) tx (.bool a) (.bool b)).run P w = .ok (a == b) w := fun k => by simp [Op.equalIn, run_underlying hu]
    have f1 : (binOp .neq tx (.bool a) (.bool b)).run P w = .ok (.bool (!(a == b))) w := by
      simp only [binOp]
      simp [Op.equal, Op.maxDepth, e1 9999]
    simp only [execOp, hf.ev hx, hf.ev hy]
    simp [eqGuard, f1, bne]

end Go.Proofs.YtgbgddmbooaddaaGreatDoor

namespace Go.Proofs.YtgbgddmbooaddaaGreatDoor
open Go.RowKit

section
variable {P : Program} {n : Nat} {e : Env} {C S : World → Prop} {Q : Exit → Act → World → Prop} {ops : Array Oper} {rest : List Oper}
/-- The guard lets by. -/
theorem H.unguard {d : Option Tmp} {op : Op} {t : TypeId} {p : String} {af : Array Edge} {gd : Nat × Bool} {g : Bool} (hw : Wn ops n e ⟨d, op, t, p, af, some gd⟩ g) (hg : g = true) (h : H n e C (wpList P ops Q (⟨d, op, t, p, af, none⟩ :: rest))) : H n e C (wpList P ops Q (⟨d, op, t, p, af, some gd⟩ :: rest)) := by
  intro a w hf hc
  subst hg
  have h1 := h a w hf hc
  unfold wpList at h1 ⊢
  have e1 : Region.wanted (⟨d, op, t, p, af, some gd⟩ : Oper) (yielded ops a.tmps) = true := hw a hf
  have e2 : Region.wanted (⟨d, op, t, p, af, none⟩ : Oper) (yielded ops a.tmps) = true := by simp [Region.wanted]
  rw [if_pos e2] at h1
  rw [if_pos e1]
  exact h1
variable {d : Option Tmp} {t : TypeId} {p : String} {af : Array Edge} {g : Option (Nat × Bool)}
theorem ye_slfrom {x lo : Operand} {ty el sz len cap : Nat} {ad : Option Addr} {k1 : IntKind} {a : Int} (i : Nat) (hu : P.underlying ty = some (.slice el)) (hsz : ∀ w, (sizeOf el).run P w = .ok sz w) (hx : eev e x = some (.slice ad len cap)) (hlo : eev e lo = some (.int k1 a)) (ha : a = (i : Int)) (hi : i ≤ len) (_hlc : len ≤ cap) :
    Ye P S n e ⟨d, .slice ty x (some lo) none none, t, p, af, g⟩ (.slice (if cap = i then ad else ad.map (·.add (i * sz))) (len - i) (cap - i)) :=
  fun ac w hf _ => by
    subst ha
    cases ad <;> simp [execOp, hf.ev hx, hf.ev hlo, Instr.sliceAt, Instr.slice, run_underlying hu, Instr.sliceBounds, Instr.sliceBound, asIntOf, hsz w, hi, Result.andThen] <;> split <;> simp_all
theorem ye_slto {x hi : Operand} {ty el sz len cap : Nat} {ad : Option Addr} {k1 : IntKind} {a : Int} (i : Nat) (hu : P.underlying ty = some (.slice el)) (hsz : ∀ w, (sizeOf el).run P w = .ok sz w) (hx : eev e x = some (.slice ad len cap)) (hhi : eev e hi = some (.int k1 a)) (ha : a = (i : Int)) (hic : i ≤ cap) :
    Ye P S n e ⟨d, .slice ty x none (some hi) none, t, p, af, g⟩ (.slice (if cap = 0 then ad else ad.map (·.add (0 * sz))) i cap) :=
  fun ac w hf _ => by
    subst ha
    cases ad <;> simp [execOp, hf.ev hx, hf.ev hhi, Instr.sliceAt, Instr.slice, run_underlying hu, Instr.sliceBounds, Instr.sliceBound, asIntOf, hsz w, hic, Result.andThen] <;> split <;> simp_all
end
end Go.Proofs.YtgbgddmbooaddaaGreatDoor

namespace Go.Proofs.YtgbgddmbooaddaaGreatDoor
open Go.RowKit


section
variable {P : Program} {n : Nat} {e : Env} {S : World → Prop} {d : Option Tmp} {t : TypeId} {p : String} {af : Array Edge} {g : Option (Nat × Bool)}
theorem ye_max {x y : Operand} {a b : Int} {k : IntKind} {ats : Array TypeId} (hx : eev e x = some (.int k a)) (hy : eev e y = some (.int k b)) : Ye P S n e ⟨d, .call { callee := .builtin .max, args := #[x, y], argTypes := ats }, t, p, af, g⟩ (.int k (if b > a then b else a)) :=
  fun ac w hf _ => by simp [execOp, resolve, hf.ev hx, hf.ev hy, invoke, builtin, run_max_int2]
end
theorem sl_news {w : World} {ad : Option Addr} {n cap : Nat} {xs : List Value} (h : IsSl w (.slice ad n cap) xs) : ∀ j u, xs[j]? = some u → ∃ a, ad = some a ∧ w.cell? (a.add j) = some u := fun j u hj => by
  obtain ⟨ad', cap', b, o, h1, _, h3⟩ := h
  simp only [Value.slice.injEq] at h1
  obtain ⟨rfl, _, _⟩ := h1
  obtain ⟨k1, k2⟩ := h3 j u hj
  exact ⟨_, k1, by rw [add_at]; exact k2⟩
theorem sl_from {w : World} {ad : Option Addr} {n cap : Nat} {xs : List Value} (h : IsSl w (.slice ad n cap) xs) (i : Nat) (hi : i ≤ xs.length) : IsSl w (.slice (if cap = i then ad else ad.map (·.add (i * 1))) (n - i) (cap - i)) (xs.drop i) := by
  obtain ⟨ad', cap', b, o, h1, h2, h3⟩ := h
  simp only [Value.slice.injEq] at h1
  obtain ⟨rfl, rfl, rfl⟩ := h1
  refine ⟨_, _, b, o + i, by rw [List.length_drop], by rw [List.length_drop]; omega, fun j x hj => ?_⟩
  rw [List.getElem?_drop] at hj
  obtain ⟨k1, k2⟩ := h3 (i + j) x hj
  have hlt : i + j < xs.length := (List.getElem?_eq_some_iff.1 hj).1
  refine ⟨?_, by rw [Nat.add_assoc]; exact k2⟩
  rw [if_neg (by omega), k1]
  simp [add_at]
theorem sl_to {w : World} {ad : Option Addr} {n cap : Nat} {xs : List Value} (h : IsSl w (.slice ad n cap) xs) (i : Nat) (hi : i ≤ xs.length) : IsSl w (.slice (if cap = 0 then ad else ad.map (·.add (0 * 1))) i cap) (xs.take i) := by
  obtain ⟨ad', cap', b, o, h1, h2, h3⟩ := h
  simp only [Value.slice.injEq] at h1
  obtain ⟨rfl, rfl, rfl⟩ := h1
  refine ⟨_, _, b, o, by rw [List.length_take, Nat.min_eq_left hi], by rw [List.length_take]; omega, fun j x hj => ?_⟩
  rw [List.getElem?_take] at hj
  split at hj
  · obtain ⟨k1, k2⟩ := h3 j x hj
    refine ⟨?_, k2⟩
    rw [k1]
    simp [add_at]
  · cases hj
theorem Rw.isSlice2 {w : World} {v : Value} {len el sz : Nat} {xs : List Value} (h : Rw.ok w ⟨v, len, el, sz, xs⟩) : ∃ ad cap, v = .slice ad len cap ∧ len ≤ cap := by
  obtain ⟨ad, cap, b, h1, h2, _⟩ := Rw.open h
  exact ⟨ad, cap, h1, h2⟩
theorem rows_one {w : World} {rv : Value} {rows : List (Value × List Int)} (h : IsRows w rv rows) : ∀ u ∈ rows.map (·.1), u.oneCell' = true := fun u hu => by
  obtain ⟨p, hp, rfl⟩ := List.mem_map.1 hu
  obtain ⟨ad, cap, b, o, h1, _⟩ := h.2 p hp
  rw [h1]
  rfl
theorem map_snd_len {new : List (Value × List Int)} {rows : List (List Int)} (h : new.map (·.2) = rows) : new.length = rows.length := by rw [← h, List.length_map]
theorem okr_len {new : List (Value × List Int)} {rows : List (List Int)} {vars : Nat} (h : new.map (·.2) = rows) (hok : Okr rows vars) (hv8 : vars ≤ 8) : ∀ p ∈ new, p.2.length ≤ 1000 := fun p hp => by
  rw [(hok p.2 (h ▸ List.mem_map.2 ⟨p, hp, rfl⟩)).1]
  omega
theorem claims_sets {ls : List (Value × Inv)} {rows : List (List Int)} {vars : Nat} (hv1 : 1 ≤ vars) (hv8 : vars ≤ 8) (hok : Okr rows vars) {support : Int} (h : ls.map (·.2) = claimsE rows vars support) : ∀ p ∈ ls, p.2.set.length ≤ 4611686018427387904 := fun p hp =>
  chk_set (claims_ok hv1 hv8 hok support p.2 (h ▸ List.mem_map.2 ⟨p, hp, rfl⟩)).1
theorem claims_small {rows : List (List Int)} {vars : Nat} (hv8 : vars ≤ 8) (support : Int) : (claimsE rows vars support).length ≤ 1000 := by
  unfold claimsE
  split
  · simp
  · have key : ∀ {α : Type} (l : List α) (f : α → List Inv) (k : Nat), (∀ x ∈ l, (f x).length ≤ k) → (l.flatMap f).length ≤ k * l.length := by
      intro α l f k h
      induction l with
      | nil => simp
      | cons a l ih =>
        rw [List.flatMap_cons, List.length_append, List.length_cons, Nat.mul_succ]
        have h1 := h a (by simp)
        have h2 := ih fun x hx => h x (List.mem_cons_of_mem _ hx)
        omega
    rw [List.length_append]
    have h1 := key (List.range vars) (fun a => aloneE (factsE rows a) a) 6 (fun a _ => alone_len _ _)
    have h2 := key (pairsL vars) (fun p => if (factsE rows p.1).length > 1 ∧ (factsE rows p.2).length > 1 then coupleE rows (factsE rows p.1) (factsE rows p.2) p.1 p.2 else []) 2 (fun p _ => by
      split
      · exact couple_len _ _ _ _ _
      · simp)
    have h3 : (pairsL vars).length ≤ 64 := by
      have : vars = 0 ∨ vars = 1 ∨ vars = 2 ∨ vars = 3 ∨ vars = 4 ∨ vars = 5 ∨ vars = 6 ∨ vars = 7 ∨ vars = 8 := by omega
      rcases this with rfl | rfl | rfl | rfl | rfl | rfl | rfl | rfl | rfl <;> decide
    rw [List.length_range] at h1
    omega
theorem sameAll_refl (l : List Inv) : sameAllB l l = true := by
  induction l with
  | nil => rfl
  | cons x l ih => simp [sameAllB, sameB_refl, ih]

set_option maxRecDepth 100000 in
theorem merges_any (v : Int) (la : List (Value × List Int)) (rva : Value) (lb : List (Value × List Int)) (rvb : Value) (x : Inv) (sv : Value) (turn : Int) (w0 : World) (hvars : Vars w0) (hla : IsRows w0 rva la) (hlb : IsRows w0 rvb lb) (hv : IsInts w0 sv x.set) : Calls Tryz.prog 9 #[.int .i64 v, rva, rvb, (.agg [.int .u8 x.kind, .int .i64 x.a, .int .i64 x.b, .int .i64 x.k, .int .i64 x.m, sv].toArray), .int .i64 turn] w0 fun e w' => e = .returned (.bool true) ∧ Ext w0 w' := by
  obtain ⟨ad, cap, b, o, rfl, hcap, hs⟩ := ints_open hv
  obtain ⟨ada, capa, ba, oa, rfl, hcapa, hsa⟩ := rows_open hla
  obtain ⟨adb, capb, bb, ob, rfl, hcapb, hsb⟩ := rows_open hlb
  have hone : ∀ u ∈ (lb ++ la).map (·.1), u.oneCell' = true := fun u hu => by
    rw [List.map_append] at hu
    rcases List.mem_append.1 hu with hu | hu
    · exact rows_one hlb u hu
    · exact rows_one hla u hu
  refine enterA 203 Tryz.func9 rfl Tryz.ntmps9 rfl (Hp w0 [] [] []) (Hp.init _) ?_
  refine H.seq ?_
  refine H.region ?_
  refine H.boxA rfl (by decide) (fun b8 hb8 => ?_)
  refine H.q (yl_assign rfl) rfl rfl (by decide) ?_
  refine HN.done ?_
  refine HN.keep [(0, _), (1, _), (2, _), (4, _), (8, _)] ⟨rfl, rfl, rfl, rfl, rfl, trivial⟩ ?_
  refine HN.then ?_
  refine H.seq ?_
  refine H.seq ?_
  refine H.region ?_
  refine H.q (yl_loadAgg _ Tryz.isAgg25 Tryz.sizeOf25 rfl (fun w hw => cells_of_blk (hw.blk 0 rfl)) rfl) rfl rfl (by decide) ?_
  refine H.buildSlice (bs28 _ _ _ _ _ _ _ _) rfl (by decide) (fun b27 hb27 => ?_)
  refine H.q (yl_move rfl) rfl rfl (by decide) ?_
  refine H.q (yl_call (xs := [.tmp 27, .tmp 28, .const (.slice none 0 0)]) Tryz.call10 (stab_hp _ _ _ _) rfl (fun w hw => wide_any [((.slice ad x.set.length cap), x)] _ la (.slice ada la.length capa) [] (.slice none 0 0) w (claims_blk1 (hw.blk 0 rfl) (hv.ext hw.ext)) (hla.ext hw.ext) (strs_nil w))) rfl rfl (by decide) ?_
  refine H.q (yl_move rfl) rfl rfl (by decide) ?_
  refine H.qg (wn_f rfl rfl (by decide) rfl) (fun hg => yl_sub [(2, _)] ⟨rfl, trivial⟩ (yl_move rfl)) rfl (by decide) ?_
  refine H.qg (wn_f rfl rfl (by decide) rfl) (fun hg => yl_sub [(31, _)] ⟨slT rfl hg, trivial⟩ (yl_call (xs := [.const (.slice none 0 0), .tmp 31, .const (.slice none 0 0)]) Tryz.call10 (stab_hp _ _ _ _) rfl (fun w hw => wide_any [] (.slice none 0 0) lb (.slice adb lb.length capb) [] (.slice none 0 0) w (claims_nil w) (hlb.ext hw.ext) (strs_nil w)))) rfl (by decide) ?_
  refine H.q (yl_or rfl rfl) rfl rfl (by decide) ?_
  refine H.q (yl_move rfl) rfl rfl (by decide) ?_
  refine H.qg (wn_f rfl rfl (by decide) rfl) (fun hg => yl_sub [(0, _)] ⟨rfl, trivial⟩ (yl_move rfl)) rfl (by decide) ?_
  refine H.qg (wn_f rfl rfl (by decide) rfl) (fun hg => yl_sub [(1, _)] ⟨rfl, trivial⟩ (yl_move rfl)) rfl (by decide) ?_
  refine H.qg (wn_f rfl rfl (by decide) rfl) (fun hg => yl_sub [(35, _), (36, _)] ⟨slT rfl hg, slT rfl hg, trivial⟩ (yl_call (xs := [.tmp 35, .tmp 36]) Tryz.call26 (stab_hp _ _ _ _) rfl (fun w hw => valid_any v la (.slice ada la.length capa) w (by simp only [Bool.not_eq_true', Bool.or_eq_false_iff] at hg; exact valid_len (by rw [hg.1]; rfl)) (by simp only [Bool.not_eq_true', Bool.or_eq_false_iff] at hg; exact valid_lens (by rw [hg.1]; rfl)) (hla.ext hw.ext)))) rfl (by decide) ?_
  refine H.qg (wn_f rfl rfl (by decide) rfl) (fun hg => yl_sub [(37, _)] ⟨slT rfl hg, trivial⟩ (yl_not rfl)) rfl (by decide) ?_
  refine H.q (yl_or rfl rfl) rfl rfl (by decide) ?_
  refine H.q (yl_move rfl) rfl rfl (by decide) ?_
  refine H.qg (wn_f rfl rfl (by decide) rfl) (fun hg => yl_sub [(0, _)] ⟨rfl, trivial⟩ (yl_move rfl)) rfl (by decide) ?_
  refine H.qg (wn_f rfl rfl (by decide) rfl) (fun hg => yl_sub [(2, _)] ⟨rfl, trivial⟩ (yl_move rfl)) rfl (by decide) ?_
  refine H.qg (wn_f rfl rfl (by decide) rfl) (fun hg => yl_sub [(41, _), (42, _)] ⟨slT rfl hg, slT rfl hg, trivial⟩ (yl_call (xs := [.tmp 41, .tmp 42]) Tryz.call26 (stab_hp _ _ _ _) rfl (fun w hw => valid_any v lb (.slice adb lb.length capb) w (by simp only [Bool.not_eq_true', Bool.or_eq_false_iff] at hg; exact valid_len (by rw [hg.1.2]; rfl)) (by simp only [Bool.not_eq_true', Bool.or_eq_false_iff] at hg; exact valid_lens (by rw [hg.1.2]; rfl)) (hlb.ext hw.ext)))) rfl (by decide) ?_
  refine H.qg (wn_f rfl rfl (by decide) rfl) (fun hg => yl_sub [(43, _)] ⟨slT rfl hg, trivial⟩ (yl_not rfl)) rfl (by decide) ?_
  refine H.q (yl_or rfl rfl) rfl rfl (by decide) ?_
  refine HN.done ?_
  refine HN.keep [(0, _), (1, _), (2, _), (4, _), (8, _), (45, _)] ⟨rfl, rfl, rfl, rfl, rfl, rfl, trivial⟩ ?_
  refine HN.then ?_
  refine H.cond _ rfl (fun t0 => ?_) (fun t0 => ?_)
  · refine H.keep [] trivial ?_
    refine H.seq ?_
    refine H.region ?_
    refine H.q (yl_call (xs := []) Tryz.call11 (stab_hp _ _ _ _) rfl (fun w hw => learns_any w (hvars.ext hw.ext))) rfl rfl (by decide) ?_
    refine H.q (yl_assign rfl) rfl rfl (by decide) ?_
    refine HN.done ?_
    refine HN.keep [(10, _)] ⟨rfl, trivial⟩ ?_
    refine HN.then ?_
    refine HR.ret ?_
    refine HR.then ?_
    refine HR.ret1 _ Tryz.results9 rfl (fun w hw => ?_)
    exact ⟨rfl, hw.ext⟩
  · simp only [Bool.or_eq_false_iff, Bool.not_eq_false'] at t0
    obtain ⟨⟨⟨hw0, hw1⟩, hvalA⟩, hvalB⟩ := t0
    have hx1 := (wide_sets hw0).2 x (by simp)
    have hra := (wide_rows hw0).1
    have hrb := (wide_rows hw1).1
    rw [List.length_map] at hra hrb
    obtain ⟨vars, rfl, hv1, hv8, hrA⟩ := valid_open hvalA
    have hrB : ∀ r ∈ (rowsE lb), rowE r (vars : Int) = 0 := by
      obtain ⟨vars1, hvv, _, _, hrB0⟩ := valid_open hvalB
      have e1 : vars1 = vars := by omega
      subst e1
      exact hrB0
    have hokA : Okr (rowsE la) vars := okr_of hrA
    have hokB : Okr (rowsE lb) vars := okr_of hrB
    have hrAll : ∀ p ∈ lb ++ la, rowE p.2 (vars : Int) = 0 := fun p hp => by
      rcases List.mem_append.1 hp with hp | hp
      · exact hrB _ (List.mem_map.2 ⟨p, hp, rfl⟩)
      · exact hrA _ (List.mem_map.2 ⟨p, hp, rfl⟩)
    refine H.keep [(0, _), (1, _), (2, _), (4, _), (8, _)] ⟨rfl, rfl, rfl, rfl, rfl, trivial⟩ ?_
    refine HN.skip ?_
    refine HN.then ?_
    refine H.seq ?_
    refine H.region ?_
    refine H.buildSlice (parts := []) (ps := []) bs37_0 rfl (by decide) (fun b47 hb47 => ?_)
    refine H.cls (Hp w0 [(b27, ex (.cells #[.int .u8 x.kind, .int .i64 x.a, .int .i64 x.b, .int .i64 x.k, .int .i64 x.m, .slice ad x.set.length cap] 25)), (b8, ex (.cells #[.int .u8 x.kind, .int .i64 x.a, .int .i64 x.b, .int .i64 x.k, .int .i64 x.m, .slice ad x.set.length cap] 25))] (⟨.slice (some ⟨b47, 0, none⟩) 0 0, 0, 23, 1, []⟩ :: []) []) (fun w hw => hw.toRow rfl (by decide)) ?_
    refine H.q (yl_move rfl) rfl rfl (by decide) ?_
    refine H.append 0 (lb.map (·.1)) el37 rfl rfl rfl (by simp) (fun w hw => sl_news (hlb.ext hw.ext).1) (rows_one hlb) (by simp only; omega) (by decide) (by decide) (fun v49 => ?_)
    refine H.q (yl_move rfl) rfl rfl (by decide) ?_
    refine H.append 0 (la.map (·.1)) el37 rfl rfl rfl (by simp) (fun w hw => sl_news (hla.ext hw.ext).1) (rows_one hla) (by simp only; omega) (by decide) (by decide) (fun v51 => ?_)
    refine H.cls (Hp w0 [(b27, ex (.cells #[.int .u8 x.kind, .int .i64 x.a, .int .i64 x.b, .int .i64 x.k, .int .i64 x.m, .slice ad x.set.length cap] 25)), (b8, ex (.cells #[.int .u8 x.kind, .int .i64 x.a, .int .i64 x.b, .int .i64 x.k, .int .i64 x.m, .slice ad x.set.length cap] 25))] (minerRw v51 (lb ++ la) :: []) []) (fun w hw => ?_) ?_
    · have e1 : minerRw v51 (lb ++ la) = ⟨v51, 0 + lb.length + la.length, 23, 1, [] ++ lb.map (·.1) ++ la.map (·.1)⟩ := by simp [minerRw]
      rw [e1]
      exact hw
    refine H.pull (fun w hw => Rw.isSlice2 (v := v51) (len := (lb ++ la).length) (hw.row 0 rfl)) (fun ho => ?_)
    obtain ⟨ad51, cap51, rfl, hcap51⟩ := ho
    refine H.q (yl_assign rfl) rfl rfl (by decide) ?_
    refine HN.done ?_
    refine HN.keep [(0, _), (1, _), (2, _), (4, _), (8, _), (11, _)] ⟨rfl, rfl, rfl, rfl, rfl, rfl, trivial⟩ ?_
    refine HN.then ?_
    refine H.seq ?_
    refine H.region ?_
    refine H.q (yl_move rfl) rfl rfl (by decide) ?_
    refine H.q (yl_len rfl Tryz.underlying37 rfl) rfl rfl (by decide) ?_
    refine H.q (yl_max rfl rfl) rfl rfl (by decide) ?_
    refine H.q (yl_assign rfl) rfl rfl (by decide) ?_
    refine HN.done ?_
    refine HN.keep [(0, _), (1, _), (2, _), (4, _), (8, _), (11, _), (12, _)] ⟨rfl, rfl, rfl, rfl, rfl, rfl, rfl, trivial⟩ ?_
    have hAl : (lb ++ la).length ≤ 80 := by rw [List.length_append]; omega
    have hN0 : (0 : Int) < (if (1 : Int) > (((lb ++ la).length : Nat) : Int) then 1 else (((lb ++ la).length : Nat) : Int)) := by split <;> omega
    have hN1 : (if (1 : Int) > (((lb ++ la).length : Nat) : Int) then 1 else (((lb ++ la).length : Nat) : Int)) ≤ 80 := by split <;> omega
    have hT := turn_bounds (x := turn) hN0
    have hT1 := Int.tmod_lt_of_pos turn hN0
    have hT2 := Int.lt_tmod_of_pos turn hN0
    refine HN.then ?_
    refine H.seq ?_
    refine H.region ?_
    refine H.q (yl_move rfl) rfl rfl (by decide) ?_
    refine H.q (yl_move rfl) rfl rfl (by decide) ?_
    refine H.q (yl_rem rfl rfl (by omega)) rfl rfl (by decide) ?_
    refine H.q (yl_move rfl) rfl rfl (by decide) ?_
    refine H.q (yl_add rfl rfl (turn.tmod (if (1 : Int) > (((lb ++ la).length : Nat) : Int) then 1 else (((lb ++ la).length : Nat) : Int)) + (if (1 : Int) > (((lb ++ la).length : Nat) : Int) then 1 else (((lb ++ la).length : Nat) : Int))) rfl (by omega)) rfl rfl (by decide) ?_
    refine H.q (yl_move rfl) rfl rfl (by decide) ?_
    refine H.q (yl_rem rfl rfl (by omega)) rfl rfl (by decide) ?_
    refine H.q (yl_assign rfl) rfl rfl (by decide) ?_
    refine HN.done ?_
    refine HN.keep [(0, _), (1, _), (2, _), (4, _), (8, _), (11, _)] ⟨rfl, rfl, rfl, rfl, rfl, rfl, trivial⟩ ?_
    refine HN.then ?_
    refine H.seq ?_
    obtain ⟨i0, hi0⟩ : ∃ i0 : Nat, (((turn.tmod (if (1 : Int) > (((lb ++ la).length : Nat) : Int) then 1 else (((lb ++ la).length : Nat) : Int)) + (if (1 : Int) > (((lb ++ la).length : Nat) : Int) then 1 else (((lb ++ la).length : Nat) : Int))).tmod (if (1 : Int) > (((lb ++ la).length : Nat) : Int) then 1 else (((lb ++ la).length : Nat) : Int)))).tmod (if (1 : Int) > (((lb ++ la).length : Nat) : Int) then 1 else (((lb ++ la).length : Nat) : Int)) = (i0 : Int) := ⟨((((turn.tmod (if (1 : Int) > (((lb ++ la).length : Nat) : Int) then 1 else (((lb ++ la).length : Nat) : Int)) + (if (1 : Int) > (((lb ++ la).length : Nat) : Int) then 1 else (((lb ++ la).length : Nat) : Int))).tmod (if (1 : Int) > (((lb ++ la).length : Nat) : Int) then 1 else (((lb ++ la).length : Nat) : Int)))).tmod (if (1 : Int) > (((lb ++ la).length : Nat) : Int) then 1 else (((lb ++ la).length : Nat) : Int))).toNat, by have := Int.tmod_nonneg (if (1 : Int) > (((lb ++ la).length : Nat) : Int) then 1 else (((lb ++ la).length : Nat) : Int)) hT.1; omega⟩
    have hi0l : i0 ≤ (lb ++ la).length := by
      have h1 := Int.tmod_lt_of_pos (((turn.tmod (if (1 : Int) > (((lb ++ la).length : Nat) : Int) then 1 else (((lb ++ la).length : Nat) : Int)) + (if (1 : Int) > (((lb ++ la).length : Nat) : Int) then 1 else (((lb ++ la).length : Nat) : Int))).tmod (if (1 : Int) > (((lb ++ la).length : Nat) : Int) then 1 else (((lb ++ la).length : Nat) : Int)))) hN0
      rw [hi0] at h1
      have h2 : (if (1 : Int) > (((lb ++ la).length : Nat) : Int) then 1 else (((lb ++ la).length : Nat) : Int)) = 1 ∧ (lb ++ la).length = 0 ∨ (if (1 : Int) > (((lb ++ la).length : Nat) : Int) then 1 else (((lb ++ la).length : Nat) : Int)) = ((((lb ++ la).length : Nat)) : Int) := by split <;> omega
      omega
    refine H.regionA (Hp w0 [] [] []) Tryz.mixed (stab_hp _ _ _ _) ?_
    refine H.take (i := 1) rfl (by kernel_rfl) (by kernel_rfl) (by kernel_rfl) (fun _ _ _ h => h) (fun w hw => hw.base) (ye_move rfl) rfl rfl (by decide) ?_
    refine H.take (i := 2) rfl (by kernel_rfl) (by kernel_rfl) (by kernel_rfl) (fun _ _ _ h => h) (fun w hw => hw.base) (ye_move rfl) rfl rfl (by decide) ?_
    refine H.take (i := 3) rfl (by kernel_rfl) (by kernel_rfl) (by kernel_rfl) (fun _ _ _ h => h) (fun w hw => hw.base) (ye_move rfl) rfl rfl (by decide) ?_
    refine H.take (i := 4) rfl (by kernel_rfl) (by kernel_rfl) (by kernel_rfl) (fun _ _ _ h => h) (fun w hw => hw.base) (ye_len rfl Tryz.underlying37 rfl) rfl rfl (by decide) ?_
    refine H.take (i := 5) rfl (by kernel_rfl) (by kernel_rfl) (by kernel_rfl) (fun _ _ _ h => h) (fun w hw => hw.base) (ye_max rfl rfl) rfl rfl (by decide) ?_
    refine H.take (i := 6) rfl (by kernel_rfl) (by kernel_rfl) (by kernel_rfl) (fun _ _ _ h => h) (fun w hw => hw.base) (ye_rem rfl rfl (by omega)) rfl rfl (by decide) ?_
    refine H.take (i := 7) rfl (by kernel_rfl) (by kernel_rfl) (by kernel_rfl) (fun _ _ _ h => h) (fun w hw => hw.base) (ye_slfrom i0 Tryz.underlying37 Tryz.sizeOf23 rfl rfl hi0 hi0l hcap51) rfl rfl (by decide) ?_
    refine H.take (i := 9) rfl (by kernel_rfl) (by kernel_rfl) (by kernel_rfl) (fun _ _ _ h => h) (fun w hw => hw.base) (ye_move rfl) rfl rfl (by decide) ?_
    refine H.take (i := 10) rfl (by kernel_rfl) (by kernel_rfl) (by kernel_rfl) (fun _ _ _ h => h) (fun w hw => hw.base) (ye_move rfl) rfl rfl (by decide) ?_
    refine H.take (i := 11) rfl (by kernel_rfl) (by kernel_rfl) (by kernel_rfl) (fun _ _ _ h => h) (fun w hw => hw.base) (ye_move rfl) rfl rfl (by decide) ?_
    refine H.take (i := 12) rfl (by kernel_rfl) (by kernel_rfl) (by kernel_rfl) (fun _ _ _ h => h) (fun w hw => hw.base) (ye_len rfl Tryz.underlying37 rfl) rfl rfl (by decide) ?_
    refine H.take (i := 13) rfl (by kernel_rfl) (by kernel_rfl) (by kernel_rfl) (fun _ _ _ h => h) (fun w hw => hw.base) (ye_max rfl rfl) rfl rfl (by decide) ?_
    refine H.take (i := 14) rfl (by kernel_rfl) (by kernel_rfl) (by kernel_rfl) (fun _ _ _ h => h) (fun w hw => hw.base) (ye_rem rfl rfl (by omega)) rfl rfl (by decide) ?_
    refine H.take (i := 15) rfl (by kernel_rfl) (by kernel_rfl) (by kernel_rfl) (fun _ _ _ h => h) (fun w hw => hw.base) (ye_slto i0 Tryz.underlying37 Tryz.sizeOf23 rfl rfl hi0 (by omega)) rfl rfl (by decide) ?_
    refine H.one (i := 0) rfl (by kernel_rfl) ?_
    refine H.buildSlice (parts := []) (ps := []) bs37_0 rfl (by decide) (fun b62 hb62 => ?_)
    refine H.cls (Hp w0 [(b27, ex (.cells #[.int .u8 x.kind, .int .i64 x.a, .int .i64 x.b, .int .i64 x.k, .int .i64 x.m, .slice ad x.set.length cap] 25)), (b8, ex (.cells #[.int .u8 x.kind, .int .i64 x.a, .int .i64 x.b, .int .i64 x.k, .int .i64 x.m, .slice ad x.set.length cap] 25))] (⟨.slice (some ⟨b62, 0, none⟩) 0 0, 0, 23, 1, []⟩ :: (minerRw (.slice ad51 (lb ++ la).length cap51) (lb ++ la) :: [])) []) (fun w hw => hw.toRow rfl (by decide)) ?_
    refine H.on (fun w hw => hw.base) ?_
    refine H.one (i := 8) rfl (by kernel_rfl) ?_
    refine H.append 0 (((lb ++ la).drop i0).map (·.1)) el37 rfl rfl rfl (by simp) (fun w hw => by rw [List.map_drop]; exact sl_news (sl_from (Rw.isSl (hw.row 1 rfl) rfl) i0 (by rw [List.length_map]; exact hi0l))) (fun u hu => hone u (by rw [List.map_drop] at hu; exact List.mem_of_mem_drop hu)) (by simp only; omega) (by decide) (by decide) (fun v70 => ?_)
    refine H.on (fun w hw => hw.base) ?_
    refine H.one (i := 16) rfl (by kernel_rfl) ?_
    refine H.append 0 (((lb ++ la).take i0).map (·.1)) el37 rfl rfl rfl (by have h9 := hi0l; rw [List.length_append] at h9; simp; omega) (fun w hw => by rw [List.map_take]; exact sl_news (sl_to (Rw.isSl (hw.row 1 rfl) rfl) i0 (by rw [List.length_map]; exact hi0l))) (fun u hu => hone u (by rw [List.map_take] at hu; exact List.mem_of_mem_take hu)) (by simp only; omega) (by decide) (by decide) (fun v78 => ?_)
    refine H.cls (Hp w0 [(b27, ex (.cells #[.int .u8 x.kind, .int .i64 x.a, .int .i64 x.b, .int .i64 x.k, .int .i64 x.m, .slice ad x.set.length cap] 25)), (b8, ex (.cells #[.int .u8 x.kind, .int .i64 x.a, .int .i64 x.b, .int .i64 x.k, .int .i64 x.m, .slice ad x.set.length cap] 25))] (minerRw v78 ((lb ++ la).drop i0 ++ (lb ++ la).take i0) :: []) []) (fun w hw => ?_) ?_
    · have e1 : minerRw v78 ((lb ++ la).drop i0 ++ (lb ++ la).take i0) = ⟨v78, 0 + ((lb ++ la).length - i0) + i0, 23, 1, [] ++ ((lb ++ la).drop i0).map (·.1) ++ ((lb ++ la).take i0).map (·.1)⟩ := by have h9 := hi0l; rw [List.length_append] at h9; simp [minerRw, List.map_drop, List.map_take]; omega
      rw [e1]
      have h2 := hw.permR (List.Perm.swap _ _ _)
      exact h2.dropR
    refine H.on (fun w hw => hw.base) ?_
    refine H.take (i := 17) rfl (by kernel_rfl) (by kernel_rfl) (by kernel_rfl) (fun _ _ _ h => h) (fun w hw => hw.base) (ye_assign rfl) rfl rfl (by decide) ?_
    refine H.over (by kernel_rfl) ?_
    refine HN.keep [(0, _), (1, _), (2, _), (8, _), (11, _)] ⟨rfl, rfl, rfl, rfl, rfl, trivial⟩ ?_
    refine HN.pull (fun w hw => Rw.isSlice (v := v78) (len := ((lb ++ la).drop i0 ++ (lb ++ la).take i0).length) (hw.row 0 rfl)) (fun ho => ?_)
    obtain ⟨ad78, cap78, rfl⟩ := ho
    have hROTl : ((lb ++ la).drop i0 ++ (lb ++ la).take i0).length = lb.length + la.length := by simp only [List.length_append, List.length_drop, List.length_take] at hi0l ⊢; omega
    have hROTm : ∀ p, p ∈ ((lb ++ la).drop i0 ++ (lb ++ la).take i0) ↔ p ∈ lb ++ la := fun p => by
      rw [List.mem_append]
      constructor
      · rintro (h | h)
        · exact List.mem_of_mem_drop h
        · exact List.mem_of_mem_take h
      · intro h
        rw [← List.take_append_drop i0 (lb ++ la), List.mem_append] at h
        exact h.symm
    have hrW : ∀ r ∈ (rowsE ((lb ++ la).drop i0 ++ (lb ++ la).take i0)), rowE r (vars : Int) = 0 := fun r hr => by
      obtain ⟨p, hp, rfl⟩ := List.mem_map.1 hr
      exact hrAll p ((hROTm p).1 hp)
    have hokW : Okr (rowsE ((lb ++ la).drop i0 ++ (lb ++ la).take i0)) vars := okr_of hrW
    have hokG : Okr ((rowsE la) ++ (rowsE lb)) vars := fun r hr => by
      rcases List.mem_append.1 hr with hr | hr
      · exact hokA r hr
      · exact hokB r hr
    have hsameW : ∀ r, r ∈ (rowsE la) ++ (rowsE lb) ↔ r ∈ (rowsE ((lb ++ la).drop i0 ++ (lb ++ la).take i0)) := fun r => by
      rw [List.mem_append]
      constructor
      · rintro (h | h)
        · obtain ⟨p, hp, rfl⟩ := List.mem_map.1 h; exact List.mem_map.2 ⟨p, (hROTm p).2 (List.mem_append.2 (.inr hp)), rfl⟩
        · obtain ⟨p, hp, rfl⟩ := List.mem_map.1 h; exact List.mem_map.2 ⟨p, (hROTm p).2 (List.mem_append.2 (.inl hp)), rfl⟩
      · intro h
        obtain ⟨p, hp, rfl⟩ := List.mem_map.1 h
        rcases List.mem_append.1 ((hROTm p).1 hp) with hp | hp
        · exact .inr (List.mem_map.2 ⟨p, hp, rfl⟩)
        · exact .inl (List.mem_map.2 ⟨p, hp, rfl⟩)
    have hints : ∀ w, Ext w0 w → ∀ p ∈ ((lb ++ la).drop i0 ++ (lb ++ la).take i0), IsInts w p.1 p.2 := fun w he p hp => by
      rcases List.mem_append.1 ((hROTm p).1 hp) with hp | hp
      · exact (hlb.2 p hp).ext he
      · exact (hla.2 p hp).ext he
    clear hROTm
    refine HN.then ?_
    refine H.seq ?_
    refine H.region ?_
    refine H.q (yl_move rfl) rfl rfl (by decide) ?_
    refine H.q (yl_move rfl) rfl rfl (by decide) ?_
    refine H.callX (α := Nat × Value × List (Value × List Int)) (xs := [.tmp 80, .tmp 81]) (fun q => .tuple #[.pointer (some ⟨q.1, 0, none⟩), .bool true]) (fun q => q.2.2.map (·.2) = rowsE la) (fun q => Hp w0 [minerB q.1 vars q.2.1, (b27, ex (.cells #[.int .u8 x.kind, .int .i64 x.a, .int .i64 x.b, .int .i64 x.k, .int .i64 x.m, .slice ad x.set.length cap] 25)), (b8, ex (.cells #[.int .u8 x.kind, .int .i64 x.a, .int .i64 x.b, .int .i64 x.k, .int .i64 x.m, .slice ad x.set.length cap] 25))] (minerRw q.2.1 q.2.2 :: (rowsR q.2.2 ++ (minerRw (.slice ad78 ((lb ++ la).drop i0 ++ (lb ++ la).take i0).length cap78) ((lb ++ la).drop i0 ++ (lb ++ la).take i0) :: []))) []) Tryz.call27 rfl (by decide) (fun w hw => (mined_any vars la _ w hv1 hv8 (by first | omega | (simp only [List.length_append, List.length_drop, List.length_take]; omega)) hrA (hla.ext hw.ext)).mono fun e w' h => by obtain ⟨bm, rv', new, h1, h2, h3⟩ := h; exact ⟨(bm, rv', new), h1, h2, by have := hw.join h3; rw [List.cons_append, List.cons_append, List.nil_append] at this; exact this⟩) (fun q hq1 => ?_)
    obtain ⟨b1, rv1, new1⟩ := q
    simp only at hq1
    refine H.pull (fun w hw => Rw.isSlice (v := rv1) (len := new1.length) (hw.row 0 rfl)) (fun ho => ?_)
    obtain ⟨ad1, cap1, hrv1⟩ := ho
    refine H.q (yl_move rfl) rfl rfl (by decide) ?_
    refine H.q (yl_extract _ rfl rfl) rfl rfl (by decide) ?_
    refine H.q (yl_extract _ rfl rfl) rfl rfl (by decide) ?_
    refine H.q (yl_assign rfl) rfl rfl (by decide) ?_
    refine H.q (yl_assign rfl) rfl rfl (by decide) ?_
    refine HN.done ?_
    refine HN.keep [(0, _), (1, _), (2, _), (8, _), (11, _), (13, _), (14, _)] ⟨rfl, rfl, rfl, rfl, rfl, rfl, rfl, trivial⟩ ?_
    refine HN.then ?_
    refine H.seq ?_
    refine H.region ?_
    refine H.q (yl_move rfl) rfl rfl (by decide) ?_
    refine H.q (yl_move rfl) rfl rfl (by decide) ?_
    refine H.callX (α := Nat × Value × List (Value × List Int)) (xs := [.tmp 86, .tmp 87]) (fun q => .tuple #[.pointer (some ⟨q.1, 0, none⟩), .bool true]) (fun q => q.2.2.map (·.2) = rowsE lb) (fun q => Hp w0 [minerB q.1 vars q.2.1, minerB b1 vars rv1, (b27, ex (.cells #[.int .u8 x.kind, .int .i64 x.a, .int .i64 x.b, .int .i64 x.k, .int .i64 x.m, .slice ad x.set.length cap] 25)), (b8, ex (.cells #[.int .u8 x.kind, .int .i64 x.a, .int .i64 x.b, .int .i64 x.k, .int .i64 x.m, .slice ad x.set.length cap] 25))] (minerRw q.2.1 q.2.2 :: (rowsR q.2.2 ++ (minerRw rv1 new1 :: (rowsR new1 ++ (minerRw (.slice ad78 ((lb ++ la).drop i0 ++ (lb ++ la).take i0).length cap78) ((lb ++ la).drop i0 ++ (lb ++ la).take i0) :: []))))) []) Tryz.call27 rfl (by decide) (fun w hw => (mined_any vars lb _ w hv1 hv8 (by first | omega | (simp only [List.length_append, List.length_drop, List.length_take]; omega)) hrB (hlb.ext hw.ext)).mono fun e w' h => by obtain ⟨bm, rv', new, h1, h2, h3⟩ := h; exact ⟨(bm, rv', new), h1, h2, by have := hw.join h3; rw [List.cons_append, List.cons_append, List.nil_append] at this; exact this⟩) (fun q hq2 => ?_)
    obtain ⟨b2, rv2, new2⟩ := q
    simp only at hq2
    refine H.pull (fun w hw => Rw.isSlice (v := rv2) (len := new2.length) (hw.row 0 rfl)) (fun ho => ?_)
    obtain ⟨ad2, cap2, hrv2⟩ := ho
    refine H.q (yl_move rfl) rfl rfl (by decide) ?_
    refine H.q (yl_extract _ rfl rfl) rfl rfl (by decide) ?_
    refine H.q (yl_extract _ rfl rfl) rfl rfl (by decide) ?_
    refine H.q (yl_assign rfl) rfl rfl (by decide) ?_
    refine H.q (yl_assign rfl) rfl rfl (by decide) ?_
    refine HN.done ?_
    refine HN.keep [(0, _), (1, _), (2, _), (8, _), (11, _), (13, _), (14, _), (15, _), (16, _)] ⟨rfl, rfl, rfl, rfl, rfl, rfl, rfl, rfl, rfl, trivial⟩ ?_
    refine HN.then ?_
    refine H.seq ?_
    refine H.region ?_
    refine H.q (yl_move rfl) rfl rfl (by decide) ?_
    refine H.q (yl_move rfl) rfl rfl (by decide) ?_
    refine H.callX (α := Nat × Value × List (Value × List Int)) (xs := [.tmp 92, .tmp 93]) (fun q => .tuple #[.pointer (some ⟨q.1, 0, none⟩), .bool true]) (fun q => q.2.2.map (·.2) = rowsE ((lb ++ la).drop i0 ++ (lb ++ la).take i0)) (fun q => Hp w0 [minerB q.1 vars q.2.1, minerB b2 vars rv2, minerB b1 vars rv1, (b27, ex (.cells #[.int .u8 x.kind, .int .i64 x.a, .int .i64 x.b, .int .i64 x.k, .int .i64 x.m, .slice ad x.set.length cap] 25)), (b8, ex (.cells #[.int .u8 x.kind, .int .i64 x.a, .int .i64 x.b, .int .i64 x.k, .int .i64 x.m, .slice ad x.set.length cap] 25))] (minerRw q.2.1 q.2.2 :: (rowsR q.2.2 ++ (minerRw rv2 new2 :: (rowsR new2 ++ (minerRw rv1 new1 :: (rowsR new1 ++ (minerRw (.slice ad78 ((lb ++ la).drop i0 ++ (lb ++ la).take i0).length cap78) ((lb ++ la).drop i0 ++ (lb ++ la).take i0) :: []))))))) []) Tryz.call27 rfl (by decide) (fun w hw => (mined_any vars ((lb ++ la).drop i0 ++ (lb ++ la).take i0) _ w hv1 hv8 (by first | omega | (simp only [List.length_append, List.length_drop, List.length_take]; omega)) hrW (⟨Rw.isSl (hw.rows (minerRw (.slice ad78 ((lb ++ la).drop i0 ++ (lb ++ la).take i0).length cap78) ((lb ++ la).drop i0 ++ (lb ++ la).take i0)) (by simp only [List.mem_cons, List.mem_append, true_or, or_true])) rfl, hints w hw.ext⟩)).mono fun e w' h => by obtain ⟨bm, rv', new, h1, h2, h3⟩ := h; exact ⟨(bm, rv', new), h1, h2, by have := hw.join h3; rw [List.cons_append, List.cons_append, List.nil_append] at this; exact this⟩) (fun q hq3 => ?_)
    obtain ⟨b3, rv3, new3⟩ := q
    simp only at hq3
    refine H.pull (fun w hw => Rw.isSlice (v := rv3) (len := new3.length) (hw.row 0 rfl)) (fun ho => ?_)
    obtain ⟨ad3, cap3, hrv3⟩ := ho
    refine H.q (yl_move rfl) rfl rfl (by decide) ?_
    refine H.q (yl_extract _ rfl rfl) rfl rfl (by decide) ?_
    refine H.q (yl_extract _ rfl rfl) rfl rfl (by decide) ?_
    refine H.q (yl_assign rfl) rfl rfl (by decide) ?_
    refine H.q (yl_assign rfl) rfl rfl (by decide) ?_
    refine HN.done ?_
    refine HN.keep [(1, _), (2, _), (8, _), (11, _), (13, _), (14, _), (15, _), (16, _), (17, _), (18, _)] ⟨rfl, rfl, rfl, rfl, rfl, rfl, rfl, rfl, rfl, rfl, trivial⟩ ?_
    refine HN.then ?_
    refine H.seq ?_
    refine H.seq ?_
    refine H.region ?_
    refine H.q (yl_move rfl) rfl rfl (by decide) ?_
    refine H.q (yl_not rfl) rfl rfl (by decide) ?_
    refine H.q (yl_move rfl) rfl rfl (by decide) ?_
    refine H.qg (wn_f rfl rfl (by decide) rfl) (fun hg => yl_sub [(16, _)] ⟨rfl, trivial⟩ (yl_move rfl)) rfl (by decide) ?_
    refine H.qg (wn_f rfl rfl (by decide) rfl) (fun hg => yl_sub [(100, _)] ⟨slT rfl hg, trivial⟩ (yl_not rfl)) rfl (by decide) ?_
    refine H.q (yl_or rfl rfl) rfl rfl (by decide) ?_
    refine H.q (yl_move rfl) rfl rfl (by decide) ?_
    refine H.qg (wn_f rfl rfl (by decide) rfl) (fun hg => yl_sub [(18, _)] ⟨rfl, trivial⟩ (yl_move rfl)) rfl (by decide) ?_
    refine H.qg (wn_f rfl rfl (by decide) rfl) (fun hg => yl_sub [(104, _)] ⟨slT rfl hg, trivial⟩ (yl_not rfl)) rfl (by decide) ?_
    refine H.q (yl_or rfl rfl) rfl rfl (by decide) ?_
    refine HN.done ?_
    refine HN.keep [(1, _), (2, _), (8, _), (11, _), (13, _), (15, _), (17, _), (106, _)] ⟨rfl, rfl, rfl, rfl, rfl, rfl, rfl, rfl, trivial⟩ ?_
    refine HN.then ?_
    refine H.cond _ rfl (fun t1 => ?_) (fun t1 => ?_)
    · simp at t1
      done
    · refine H.keep [(1, _), (2, _), (8, _), (11, _), (13, _), (15, _), (17, _)] ⟨rfl, rfl, rfl, rfl, rfl, rfl, rfl, trivial⟩ ?_
      refine HN.skip ?_
      refine HN.then ?_
      refine H.seq ?_
      refine H.region ?_
      refine H.q (yl_move rfl) rfl rfl (by decide) ?_
      have hl1 := map_snd_len hq1
      have hl2 := map_snd_len hq2
      have hl3 := map_snd_len hq3
      rw [List.length_map] at hl1 hl2 hl3
      refine H.cls (Hp w0 [minerB b1 vars rv1, minerB b3 vars rv3, minerB b2 vars rv2, (b27, ex (.cells #[.int .u8 x.kind, .int .i64 x.a, .int .i64 x.b, .int .i64 x.k, .int .i64 x.m, .slice ad x.set.length cap] 25)), (b8, ex (.cells #[.int .u8 x.kind, .int .i64 x.a, .int .i64 x.b, .int .i64 x.k, .int .i64 x.m, .slice ad x.set.length cap] 25))] (minerRw rv1 new1 :: (rowsR new1 ++ (minerRw rv3 new3 :: (rowsR new3 ++ (minerRw rv2 new2 :: (rowsR new2 ++ (minerRw (.slice ad78 ((lb ++ la).drop i0 ++ (lb ++ la).take i0).length cap78) ((lb ++ la).drop i0 ++ (lb ++ la).take i0) :: []))))))) []) (fun w hw => (hw.permL (by classical exact List.perm_iff_count.2 (fun x => by simp only [List.count_cons, List.count_nil] <;> omega))).permR (by classical exact List.perm_iff_count.2 (fun x => by simp only [List.count_append, List.count_cons, List.count_nil] <;> omega))) ?_
      refine H.callX (α := Nat × Value × List (Value × List Int)) (xs := [.tmp 107]) (fun q => .pointer (some ⟨q.1, 0, none⟩)) (fun q => q.2.2.map (·.2) = (rowsE la)) (fun q => Hp w0 [minerB q.1 vars q.2.1, minerB b1 vars rv1, minerB b3 vars rv3, minerB b2 vars rv2, (b27, ex (.cells #[.int .u8 x.kind, .int .i64 x.a, .int .i64 x.b, .int .i64 x.k, .int .i64 x.m, .slice ad x.set.length cap] 25)), (b8, ex (.cells #[.int .u8 x.kind, .int .i64 x.a, .int .i64 x.b, .int .i64 x.k, .int .i64 x.m, .slice ad x.set.length cap] 25))] (minerRw q.2.1 q.2.2 :: (rowsR q.2.2 ++ (minerRw rv1 new1 :: (rowsR new1 ++ (minerRw rv3 new3 :: (rowsR new3 ++ (minerRw rv2 new2 :: (rowsR new2 ++ (minerRw (.slice ad78 ((lb ++ la).drop i0 ++ (lb ++ la).take i0).length cap78) ((lb ++ la).drop i0 ++ (lb ++ la).take i0) :: []))))))))) []) Tryz.call34 rfl (by decide) (fun w hw => (copy_any b1 vars rv1 new1 w0 _ _ [] w (by omega) hv1 (okr_len hq1 hokA hv8) hw).mono fun e w' h => by obtain ⟨bc, rv', new, h1, h2, h3⟩ := h; exact ⟨(bc, rv', new), h1, h2.trans hq1, h3⟩) (fun q hqc => ?_)
      obtain ⟨bc, rvc, newc⟩ := q
      simp only at hqc
      have hlc := map_snd_len hqc
      rw [List.length_map] at hlc
      refine H.pull (fun w hw => Rw.isSlice (v := rvc) (len := newc.length) (hw.row 0 rfl)) (fun ho => ?_)
      obtain ⟨adc, capc, hrvc⟩ := ho
      refine H.q (yl_assign rfl) rfl rfl (by decide) ?_
      refine HN.done ?_
      refine HN.keep [(1, _), (2, _), (8, _), (11, _), (13, _), (15, _), (17, _), (19, _)] ⟨rfl, rfl, rfl, rfl, rfl, rfl, rfl, rfl, trivial⟩ ?_
      refine HN.then ?_
      refine H.seq ?_
      refine H.region ?_
      refine H.q (yl_move rfl) rfl rfl (by decide) ?_
      refine H.call (α := Value × List (Value × Inv)) (xs := [.tmp 109, .const (.int .i64 1)]) (fun q => q.1) (fun q => q.2.map (·.2) = claimsE (rowsE la) vars 1) (fun q => claimsRw q.1 q.2 :: setsR q.2) (fun _ => []) Tryz.call24 rfl (by decide) (fun w hw => (claims_any b1 vars rv1 new1 w (mined_tbl hq1 hokA (by simp only [List.length_map]; omega) (hw.blk 1 rfl) (hw.rows (minerRw rv1 new1) (by simp only [List.mem_cons, List.mem_append, true_or, or_true])) (fun r hr => hw.rows r (by simp only [List.mem_cons, List.mem_append, hr, true_or, or_true]))) hv1 hv8 1).mono fun e w' h => by obtain ⟨v, l, h1, h2, h3⟩ := h; exact ⟨(v, l), h1, by rw [h2]; exact congrArg (fun r => claimsE r vars 1) hq1, h3, fun _ hh => by cases hh⟩) (fun q hl4 => ?_)
      obtain ⟨u4, l4⟩ := q
      simp only at hl4
      have hs4 := claims_sets hv1 hv8 hokA hl4
      have hn4 : l4.length ≤ 1000 := by have h1 := congrArg List.length hl4; have h2 := claims_small (rows := (rowsE la)) hv8 1; rw [List.length_map] at h1; omega
      refine H.cls (Hp w0 [minerB bc vars rvc, minerB b1 vars rv1, minerB b3 vars rv3, minerB b2 vars rv2, (b27, ex (.cells #[.int .u8 x.kind, .int .i64 x.a, .int .i64 x.b, .int .i64 x.k, .int .i64 x.m, .slice ad x.set.length cap] 25)), (b8, ex (.cells #[.int .u8 x.kind, .int .i64 x.a, .int .i64 x.b, .int .i64 x.k, .int .i64 x.m, .slice ad x.set.length cap] 25))] (claimsRw u4 l4 :: (setsR l4 ++ (minerRw rvc newc :: (rowsR newc ++ (minerRw rv1 new1 :: (rowsR new1 ++ (minerRw rv3 new3 :: (rowsR new3 ++ (minerRw rv2 new2 :: (rowsR new2 ++ (minerRw (.slice ad78 ((lb ++ la).drop i0 ++ (lb ++ la).take i0).length cap78) ((lb ++ la).drop i0 ++ (lb ++ la).take i0) :: []))))))))))) []) (fun w hw => hw.permR (by classical exact List.perm_iff_count.2 (fun x => by simp only [List.count_append, List.count_cons, List.count_nil, List.cons_append] <;> omega))) ?_
      refine H.q (yl_assign rfl) rfl rfl (by decide) ?_
      refine HN.done ?_
      refine HN.keep [(1, _), (2, _), (8, _), (11, _), (13, _), (15, _), (17, _), (19, _), (20, _)] ⟨rfl, rfl, rfl, rfl, rfl, rfl, rfl, rfl, rfl, trivial⟩ ?_
      refine HN.then ?_
      refine H.seq ?_
      refine H.seq ?_
      refine H.region ?_
      refine H.q (yl_move rfl) rfl rfl (by decide) ?_
      refine H.q (yl_ptrEql Tryz.underlying38 rfl) rfl rfl (by decide) ?_
      refine H.q (yl_move rfl) rfl rfl (by decide) ?_
      refine H.unguard (wn_f rfl rfl (by decide) rfl) rfl ?_
      refine H.q (yl_move rfl) rfl rfl (by decide) ?_
      refine H.unguard (wn_f rfl rfl (by decide) rfl) rfl ?_
      refine H.q (yl_move rfl) rfl rfl (by decide) ?_
      refine H.unguard (wn_f rfl rfl (by decide) rfl) rfl ?_
      refine H.cls (Hp w0 [minerB b1 vars rv1, minerB bc vars rvc, minerB b3 vars rv3, minerB b2 vars rv2, (b27, ex (.cells #[.int .u8 x.kind, .int .i64 x.a, .int .i64 x.b, .int .i64 x.k, .int .i64 x.m, .slice ad x.set.length cap] 25)), (b8, ex (.cells #[.int .u8 x.kind, .int .i64 x.a, .int .i64 x.b, .int .i64 x.k, .int .i64 x.m, .slice ad x.set.length cap] 25))] (minerRw rv1 new1 :: (rowsR new1 ++ (claimsRw u4 l4 :: (setsR l4 ++ (minerRw rvc newc :: (rowsR newc ++ (minerRw rv3 new3 :: (rowsR new3 ++ (minerRw rv2 new2 :: (rowsR new2 ++ (minerRw (.slice ad78 ((lb ++ la).drop i0 ++ (lb ++ la).take i0).length cap78) ((lb ++ la).drop i0 ++ (lb ++ la).take i0) :: []))))))))))) []) (fun w hw => (hw.permL (by classical exact List.perm_iff_count.2 (fun x => by simp only [List.count_cons, List.count_nil] <;> omega))).permR (by classical exact List.perm_iff_count.2 (fun x => by simp only [List.count_append, List.count_cons, List.count_nil] <;> omega))) ?_
      refine H.callX (α := Value × List (Value × List Int)) (xs := [.tmp 114, .tmp 115]) (fun _ => .int .i64 0) (fun q => q.2.map (·.2) = (rowsE lb)) (fun q => Hp w0 [minerB b1 vars q.1, minerB bc vars rvc, minerB b3 vars rv3, minerB b2 vars rv2, (b27, ex (.cells #[.int .u8 x.kind, .int .i64 x.a, .int .i64 x.b, .int .i64 x.k, .int .i64 x.m, .slice ad x.set.length cap] 25)), (b8, ex (.cells #[.int .u8 x.kind, .int .i64 x.a, .int .i64 x.b, .int .i64 x.k, .int .i64 x.m, .slice ad x.set.length cap] 25))] (minerRw q.1 (new1 ++ q.2) :: (rowsR (new1 ++ q.2) ++ (claimsRw u4 l4 :: (setsR l4 ++ (minerRw rvc newc :: (rowsR newc ++ (minerRw rv3 new3 :: (rowsR new3 ++ (minerRw rv2 new2 :: (rowsR new2 ++ (minerRw (.slice ad78 ((lb ++ la).drop i0 ++ (lb ++ la).take i0).length cap78) ((lb ++ la).drop i0 ++ (lb ++ la).take i0) :: []))))))))))) []) Tryz.call35 rfl (by decide) (fun w hw => (merge_any b2 rv2 new2 b1 vars rv1 new1 w0 _ _ [] w (by omega) hv1 (by omega) (fun w' h => h.cell 3 rfl rfl) (fun w' h => h.cell 3 rfl rfl) (fun w' h => Rw.isSl (h.rows (minerRw rv2 new2) (by simp only [List.mem_cons, List.mem_append, true_or, or_true])) rfl) (fun p hp => by
        have hr : rowI p.1 p.2 ∈ rowsR new2 := List.mem_map.2 ⟨p, hp, rfl⟩
        simp only [List.mem_cons, List.mem_append, hr, true_or, or_true]) (okr_len hq2 hokB hv8) hw).mono fun e w' h => by obtain ⟨h1, rv', new, h2, h3⟩ := h; exact ⟨(rv', new), h1, h2.trans hq2, h3⟩) (fun q hqg0 => ?_)
      obtain ⟨rvg, newg⟩ := q
      simp only at hqg0
      have hqg : (new1 ++ newg).map (·.2) = (rowsE la) ++ (rowsE lb) := by rw [List.map_append, hq1, hqg0]
      have hlg : (new1 ++ newg).length = la.length + lb.length := by
        have h9 := congrArg List.length hqg
        rw [List.length_map] at h9
        rw [h9, List.length_append, List.length_map, List.length_map]
      refine H.pull (fun w hw => Rw.isSlice (v := rvg) (len := (new1 ++ newg).length) (hw.row 0 rfl)) (fun ho => ?_)
      obtain ⟨adg, capg, hrvg⟩ := ho
      refine H.unguard (wn_f rfl rfl (by decide) rfl) rfl ?_
      refine H.q (yl_to (yl_neq rfl rfl) (show Value.bool _ = Value.bool false by simp)) rfl rfl (by decide) ?_
      refine H.q (yl_or' rfl rfl) rfl rfl (by decide) ?_
      refine H.q (yl_move rfl) rfl rfl (by decide) ?_
      refine H.unguard (wn_f rfl rfl (by decide) rfl) rfl ?_
      refine H.q (yl_move rfl) rfl rfl (by decide) ?_
      refine H.unguard (wn_f rfl rfl (by decide) rfl) rfl ?_
      refine H.q (yl_to (yl_call (xs := [.tmp 120]) Tryz.call22 (stab_hp _ _ _ _) rfl (fun w hw => rows_any bc vars adc newc.length capc w (by omega) (hw.cell 1 rfl rfl) (by rw [← hrvc]; exact hw.cell 1 rfl rfl))) (show Value.int .i64 ((newc.length : Nat) : Int) = .int .i64 ((la.length : Nat) : Int) by rw [hlc])) rfl rfl (by decide) ?_
      refine H.unguard (wn_f rfl rfl (by decide) rfl) rfl ?_
      refine H.q (yl_move rfl) rfl rfl (by decide) ?_
      refine H.unguard (wn_f rfl rfl (by decide) rfl) rfl ?_
      refine H.q (yl_len rfl Tryz.underlying37 rfl) rfl rfl (by decide) ?_
      refine H.unguard (wn_f rfl rfl (by decide) rfl) rfl ?_
      refine H.q (yl_to (yl_neq rfl rfl) (show Value.bool _ = Value.bool false by simp)) rfl rfl (by decide) ?_
      refine H.q (yl_or' rfl rfl) rfl rfl (by decide) ?_
      refine H.q (yl_move rfl) rfl rfl (by decide) ?_
      refine H.unguard (wn_f rfl rfl (by decide) rfl) rfl ?_
      refine H.q (yl_move rfl) rfl rfl (by decide) ?_
      refine H.unguard (wn_f rfl rfl (by decide) rfl) rfl ?_
      refine H.q (yl_to (yl_call (xs := [.tmp 127]) Tryz.call22 (stab_hp _ _ _ _) rfl (fun w hw => rows_any b2 vars ad2 new2.length cap2 w (by omega) (hw.cell 3 rfl rfl) (by rw [← hrv2]; exact hw.cell 3 rfl rfl))) (show Value.int .i64 ((new2.length : Nat) : Int) = .int .i64 ((lb.length : Nat) : Int) by rw [hl2])) rfl rfl (by decide) ?_
      refine H.unguard (wn_f rfl rfl (by decide) rfl) rfl ?_
      refine H.q (yl_move rfl) rfl rfl (by decide) ?_
      refine H.unguard (wn_f rfl rfl (by decide) rfl) rfl ?_
      refine H.q (yl_len rfl Tryz.underlying37 rfl) rfl rfl (by decide) ?_
      refine H.unguard (wn_f rfl rfl (by decide) rfl) rfl ?_
      refine H.q (yl_to (yl_neq rfl rfl) (show Value.bool _ = Value.bool false by simp)) rfl rfl (by decide) ?_
      refine H.q (yl_or' rfl rfl) rfl rfl (by decide) ?_
      refine H.q (yl_move rfl) rfl rfl (by decide) ?_
      refine H.unguard (wn_f rfl rfl (by decide) rfl) rfl ?_
      refine H.q (yl_move rfl) rfl rfl (by decide) ?_
      refine H.unguard (wn_f rfl rfl (by decide) rfl) rfl ?_
      refine H.q (yl_to (yl_call (xs := [.tmp 134]) Tryz.call22 (stab_hp _ _ _ _) rfl (fun w hw => rows_any b1 vars adg (new1 ++ newg).length capg w (by omega) (hw.cell 0 rfl rfl) (by rw [← hrvg]; exact hw.cell 0 rfl rfl))) (show Value.int .i64 (((new1 ++ newg).length : Nat) : Int) = .int .i64 ((((lb ++ la).drop i0 ++ (lb ++ la).take i0).length : Nat) : Int) by rw [hlg, hROTl, Nat.add_comm])) rfl rfl (by decide) ?_
      refine H.unguard (wn_f rfl rfl (by decide) rfl) rfl ?_
      refine H.q (yl_move rfl) rfl rfl (by decide) ?_
      refine H.unguard (wn_f rfl rfl (by decide) rfl) rfl ?_
      refine H.q (yl_len rfl Tryz.underlying37 rfl) rfl rfl (by decide) ?_
      refine H.unguard (wn_f rfl rfl (by decide) rfl) rfl ?_
      refine H.q (yl_to (yl_neq rfl rfl) (show Value.bool _ = Value.bool false by simp)) rfl rfl (by decide) ?_
      refine H.q (yl_or' rfl rfl) rfl rfl (by decide) ?_
      refine HN.done ?_
      refine HN.keep [(8, _), (11, _), (13, _), (17, _), (19, _), (20, _), (139, _)] ⟨rfl, rfl, rfl, rfl, rfl, rfl, rfl, trivial⟩ ?_
      refine HN.then ?_
      refine H.cond _ rfl (fun t2 => ?_) (fun t2 => ?_)
      · cases t2
        done
      · refine H.keep [(8, _), (11, _), (13, _), (17, _), (19, _), (20, _)] ⟨rfl, rfl, rfl, rfl, rfl, rfl, trivial⟩ ?_
        refine HN.skip ?_
        refine HN.then ?_
        refine H.seq ?_
        have hfol : followE x vars (rowsE ((lb ++ la).drop i0 ++ (lb ++ la).take i0)) = followE x vars ((rowsE la) ++ (rowsE lb)) := (follow_same hsameW x (vars : Int)).symm
        have hclW : claimsE ((rowsE la) ++ (rowsE lb)) vars 1 = claimsE (rowsE ((lb ++ la).drop i0 ++ (lb ++ la).take i0)) vars 1 := claims_same hsameW vars
        have hokH : Okr ((rowsE ((lb ++ la).drop i0 ++ (lb ++ la).take i0)) ++ (rowsE ((lb ++ la).drop i0 ++ (lb ++ la).take i0))) vars := fun r hr => by
          rcases List.mem_append.1 hr with hr | hr
          · exact hokW r hr
          · exact hokW r hr
        have hclH : claimsE ((rowsE ((lb ++ la).drop i0 ++ (lb ++ la).take i0)) ++ (rowsE ((lb ++ la).drop i0 ++ (lb ++ la).take i0))) vars 1 = claimsE (rowsE ((lb ++ la).drop i0 ++ (lb ++ la).take i0)) vars 1 := claims_same (fun r => by rw [List.mem_append, or_self]) vars
        refine H.region ?_
        refine H.q (yl_move rfl) rfl rfl (by decide) ?_
        refine H.q (yl_loadAgg _ Tryz.isAgg25 Tryz.sizeOf25 rfl (fun w hw => cells_of_blk (hw.blk 5 rfl)) rfl) rfl rfl (by decide) ?_
        refine H.q (yl_to (yl_call (xs := [.tmp 141, .tmp 142]) Tryz.call20 (stab_hp _ _ _ _) rfl (fun w hw => follows_any b1 vars rvg (new1 ++ newg) w (mined_tbl hqg hokG (by simp only [List.length_append, List.length_map]; omega) (hw.blk 0 rfl) (hw.rows (minerRw rvg (new1 ++ newg)) (by simp only [List.mem_cons, List.mem_append, true_or])) (fun r hr => hw.rows r (by simp only [List.mem_cons, List.mem_append, hr, true_or, or_true]))) hv1 hv8 x (.slice ad x.set.length cap) (by omega) (hv.ext hw.ext))) (show Value.tuple _ = Value.tuple #[.bool (followE x vars ((rowsE la) ++ (rowsE lb))).1, .int .i64 (followE x vars ((rowsE la) ++ (rowsE lb))).2] by rw [show rowsE (new1 ++ newg) = ((rowsE la) ++ (rowsE lb)) from hqg])) rfl rfl (by decide) ?_
        refine H.q (yl_move rfl) rfl rfl (by decide) ?_
        refine H.q (yl_extract _ rfl rfl) rfl rfl (by decide) ?_
        refine H.q (yl_extract _ rfl rfl) rfl rfl (by decide) ?_
        refine H.q (yl_assign rfl) rfl rfl (by decide) ?_
        refine H.q (yl_assign rfl) rfl rfl (by decide) ?_
        refine HN.done ?_
        refine HN.keep [(8, _), (11, _), (13, _), (17, _), (19, _), (20, _), (21, _), (22, _)] ⟨rfl, rfl, rfl, rfl, rfl, rfl, rfl, rfl, trivial⟩ ?_
        refine HN.then ?_
        refine H.seq ?_
        refine H.region ?_
        refine H.q (yl_move rfl) rfl rfl (by decide) ?_
        refine H.q (yl_loadAgg _ Tryz.isAgg25 Tryz.sizeOf25 rfl (fun w hw => cells_of_blk (hw.blk 5 rfl)) rfl) rfl rfl (by decide) ?_
        refine H.q (yl_to (yl_call (xs := [.tmp 147, .tmp 148]) Tryz.call20 (stab_hp _ _ _ _) rfl (fun w hw => follows_any b3 vars rv3 new3 w (mined_tbl hq3 hokW (by simp only [List.length_append, List.length_map, List.length_drop, List.length_take]; omega) (hw.blk 2 rfl) (hw.rows (minerRw rv3 new3) (by simp only [List.mem_cons, List.mem_append, true_or, or_true])) (fun r hr => hw.rows r (by simp only [List.mem_cons, List.mem_append, hr, true_or, or_true]))) hv1 hv8 x (.slice ad x.set.length cap) (by omega) (hv.ext hw.ext))) (show Value.tuple _ = Value.tuple #[.bool (followE x vars ((rowsE la) ++ (rowsE lb))).1, .int .i64 (followE x vars ((rowsE la) ++ (rowsE lb))).2] by rw [show rowsE new3 = (rowsE ((lb ++ la).drop i0 ++ (lb ++ la).take i0)) from hq3, hfol])) rfl rfl (by decide) ?_
        refine H.q (yl_move rfl) rfl rfl (by decide) ?_
        refine H.q (yl_extract _ rfl rfl) rfl rfl (by decide) ?_
        refine H.q (yl_extract _ rfl rfl) rfl rfl (by decide) ?_
        refine H.q (yl_assign rfl) rfl rfl (by decide) ?_
        refine H.q (yl_assign rfl) rfl rfl (by decide) ?_
        refine HN.done ?_
        refine HN.keep [(11, _), (13, _), (17, _), (19, _), (20, _), (21, _), (22, _), (23, _), (24, _)] ⟨rfl, rfl, rfl, rfl, rfl, rfl, rfl, rfl, rfl, trivial⟩ ?_
        refine HN.then ?_
        refine H.seq ?_
        refine H.seq ?_
        refine H.region ?_
        refine H.q (yl_move rfl) rfl rfl (by decide) ?_
        refine H.q (yl_move rfl) rfl rfl (by decide) ?_
        refine H.q (yl_to (yl_bneq Tryz.underlying4 rfl rfl) (show Value.bool _ = Value.bool false by simp)) rfl rfl (by decide) ?_
        refine H.q (yl_move rfl) rfl rfl (by decide) ?_
        refine H.unguard (wn_f rfl rfl (by decide) rfl) rfl ?_
        refine H.q (yl_move rfl) rfl rfl (by decide) ?_
        refine H.unguard (wn_f rfl rfl (by decide) rfl) rfl ?_
        refine H.q (yl_move rfl) rfl rfl (by decide) ?_
        refine H.unguard (wn_f rfl rfl (by decide) rfl) rfl ?_
        refine H.q (yl_to (yl_neq rfl rfl) (show Value.bool _ = Value.bool false by simp)) rfl rfl (by decide) ?_
        refine H.q (yl_or' rfl rfl) rfl rfl (by decide) ?_
        refine H.q (yl_move rfl) rfl rfl (by decide) ?_
        refine H.unguard (wn_f rfl rfl (by decide) rfl) rfl ?_
        refine H.q (yl_move rfl) rfl rfl (by decide) ?_
        refine H.unguard (wn_f rfl rfl (by decide) rfl) rfl ?_
        refine H.call (α := Value × List (Value × Inv)) (xs := [.tmp 161, .const (.int .i64 1)]) (fun q => q.1) (fun q => q.2.map (·.2) = claimsE ((rowsE la) ++ (rowsE lb)) vars 1) (fun q => claimsRw q.1 q.2 :: setsR q.2) (fun _ => []) Tryz.call24 rfl (by decide) (fun w hw => (claims_any b1 vars rvg (new1 ++ newg) w (mined_tbl hqg hokG (by simp only [List.length_append, List.length_map]; omega) (hw.blk 0 rfl) (hw.rows (minerRw rvg (new1 ++ newg)) (by simp only [List.mem_cons, List.mem_append, true_or])) (fun r hr => hw.rows r (by simp only [List.mem_cons, List.mem_append, hr, true_or, or_true]))) hv1 hv8 1).mono fun e w' h => by obtain ⟨v, l, h1, h2, h3⟩ := h; exact ⟨(v, l), h1, by rw [h2]; exact congrArg (fun r => claimsE r vars 1) hqg, h3, fun _ hh => by cases hh⟩) (fun q hl5 => ?_)
        obtain ⟨u5, l5⟩ := q
        simp only at hl5
        have hs5 := claims_sets hv1 hv8 hokG hl5
        have hn5 : l5.length ≤ 1000 := by have h1 := congrArg List.length hl5; have h2 := claims_small (rows := ((rowsE la) ++ (rowsE lb))) hv8 1; rw [List.length_map] at h1; omega
        refine H.cls (Hp w0 [minerB b1 vars rvg, minerB bc vars rvc, minerB b3 vars rv3, minerB b2 vars rv2, (b27, ex (.cells #[.int .u8 x.kind, .int .i64 x.a, .int .i64 x.b, .int .i64 x.k, .int .i64 x.m, .slice ad x.set.length cap] 25)), (b8, ex (.cells #[.int .u8 x.kind, .int .i64 x.a, .int .i64 x.b, .int .i64 x.k, .int .i64 x.m, .slice ad x.set.length cap] 25))] (claimsRw u5 l5 :: (setsR l5 ++ (minerRw rvg (new1 ++ newg) :: (rowsR (new1 ++ newg) ++ (claimsRw u4 l4 :: (setsR l4 ++ (minerRw rvc newc :: (rowsR newc ++ (minerRw rv3 new3 :: (rowsR new3 ++ (minerRw rv2 new2 :: (rowsR new2 ++ (minerRw (.slice ad78 ((lb ++ la).drop i0 ++ (lb ++ la).take i0).length cap78) ((lb ++ la).drop i0 ++ (lb ++ la).take i0) :: []))))))))))))) []) (fun w hw => hw.permR (by classical exact List.perm_iff_count.2 (fun x => by simp only [rowsR_append, List.count_append, List.count_cons, List.count_nil, List.cons_append] <;> omega))) ?_
        refine H.unguard (wn_f rfl rfl (by decide) rfl) rfl ?_
        refine H.q (yl_move rfl) rfl rfl (by decide) ?_
        refine H.unguard (wn_f rfl rfl (by decide) rfl) rfl ?_
        refine H.call (α := Value × List (Value × Inv)) (xs := [.tmp 163, .const (.int .i64 1)]) (fun q => q.1) (fun q => q.2.map (·.2) = claimsE (rowsE ((lb ++ la).drop i0 ++ (lb ++ la).take i0)) vars 1) (fun q => claimsRw q.1 q.2 :: setsR q.2) (fun _ => []) Tryz.call24 rfl (by decide) (fun w hw => (claims_any b3 vars rv3 new3 w (mined_tbl hq3 hokW (by simp only [List.length_append, List.length_map, List.length_drop, List.length_take]; omega) (hw.blk 2 rfl) (hw.rows (minerRw rv3 new3) (by simp only [List.mem_cons, List.mem_append, true_or, or_true])) (fun r hr => hw.rows r (by simp only [List.mem_cons, List.mem_append, hr, true_or, or_true]))) hv1 hv8 1).mono fun e w' h => by obtain ⟨v, l, h1, h2, h3⟩ := h; exact ⟨(v, l), h1, by rw [h2]; exact congrArg (fun r => claimsE r vars 1) hq3, h3, fun _ hh => by cases hh⟩) (fun q hl6 => ?_)
        obtain ⟨u6, l6⟩ := q
        simp only at hl6
        have hs6 := claims_sets hv1 hv8 hokW hl6
        have hn6 : l6.length ≤ 1000 := by have h1 := congrArg List.length hl6; have h2 := claims_small (rows := (rowsE ((lb ++ la).drop i0 ++ (lb ++ la).take i0))) hv8 1; rw [List.length_map] at h1; omega
        refine H.cls (Hp w0 [minerB b1 vars rvg, minerB bc vars rvc, minerB b3 vars rv3, minerB b2 vars rv2, (b27, ex (.cells #[.int .u8 x.kind, .int .i64 x.a, .int .i64 x.b, .int .i64 x.k, .int .i64 x.m, .slice ad x.set.length cap] 25)), (b8, ex (.cells #[.int .u8 x.kind, .int .i64 x.a, .int .i64 x.b, .int .i64 x.k, .int .i64 x.m, .slice ad x.set.length cap] 25))] (claimsRw u6 l6 :: (setsR l6 ++ (claimsRw u5 l5 :: (setsR l5 ++ (minerRw rvg (new1 ++ newg) :: (rowsR (new1 ++ newg) ++ (claimsRw u4 l4 :: (setsR l4 ++ (minerRw rvc newc :: (rowsR newc ++ (minerRw rv3 new3 :: (rowsR new3 ++ (minerRw rv2 new2 :: (rowsR new2 ++ (minerRw (.slice ad78 ((lb ++ la).drop i0 ++ (lb ++ la).take i0).length cap78) ((lb ++ la).drop i0 ++ (lb ++ la).take i0) :: []))))))))))))))) []) (fun w hw => hw.permR (by classical exact List.perm_iff_count.2 (fun x => by simp only [rowsR_append, List.count_append, List.count_cons, List.count_nil, List.cons_append] <;> omega))) ?_
        refine H.unguard (wn_f rfl rfl (by decide) rfl) rfl ?_
        refine H.q (yl_to (yl_call (xs := [.tmp 162, .tmp 164]) Tryz.call23 (stab_hp _ _ _ _) rfl (fun w hw => sameAll_any l5 l6 u5 u6 w (by omega) (by omega) hs5 hs6 (claims_row (v := u5) (ls := l5) (hw.rows (claimsRw u5 l5) (by simp only [List.mem_cons, List.mem_append, true_or, or_true])) (fun r hr => hw.rows r (by simp only [List.mem_cons, List.mem_append, hr, true_or, or_true]))) (claims_row (v := u6) (ls := l6) (hw.rows (claimsRw u6 l6) (by simp only [List.mem_cons, List.mem_append, true_or])) (fun r hr => hw.rows r (by simp only [List.mem_cons, List.mem_append, hr, true_or, or_true]))))) (show Value.bool _ = Value.bool true by rw [hl5, hl6, hclW, sameAll_refl])) rfl rfl (by decide) ?_
        refine H.unguard (wn_f rfl rfl (by decide) rfl) rfl ?_
        refine H.q (yl_to (yl_not rfl) (show Value.bool _ = Value.bool false by simp)) rfl rfl (by decide) ?_
        refine H.q (yl_or' rfl rfl) rfl rfl (by decide) ?_
        refine H.q (yl_move rfl) rfl rfl (by decide) ?_
        refine H.unguard (wn_f rfl rfl (by decide) rfl) rfl ?_
        refine H.q (yl_move rfl) rfl rfl (by decide) ?_
        refine H.unguard (wn_f rfl rfl (by decide) rfl) rfl ?_
        refine H.call (α := Value × List (Value × Inv)) (xs := [.tmp 169, .const (.int .i64 1)]) (fun q => q.1) (fun q => q.2.map (·.2) = claimsE (rowsE la) vars 1) (fun q => claimsRw q.1 q.2 :: setsR q.2) (fun _ => []) Tryz.call24 rfl (by decide) (fun w hw => (claims_any bc vars rvc newc w (mined_tbl hqc hokA (by simp only [List.length_map]; omega) (hw.blk 1 rfl) (hw.rows (minerRw rvc newc) (by simp only [List.mem_cons, List.mem_append, true_or, or_true])) (fun r hr => hw.rows r (by simp only [List.mem_cons, List.mem_append, hr, true_or, or_true]))) hv1 hv8 1).mono fun e w' h => by obtain ⟨v, l, h1, h2, h3⟩ := h; exact ⟨(v, l), h1, by rw [h2]; exact congrArg (fun r => claimsE r vars 1) hqc, h3, fun _ hh => by cases hh⟩) (fun q hl7 => ?_)
        obtain ⟨u7, l7⟩ := q
        simp only at hl7
        have hs7 := claims_sets hv1 hv8 hokA hl7
        have hn7 : l7.length ≤ 1000 := by have h1 := congrArg List.length hl7; have h2 := claims_small (rows := (rowsE la)) hv8 1; rw [List.length_map] at h1; omega
        refine H.cls (Hp w0 [minerB b1 vars rvg, minerB bc vars rvc, minerB b3 vars rv3, minerB b2 vars rv2, (b27, ex (.cells #[.int .u8 x.kind, .int .i64 x.a, .int .i64 x.b, .int .i64 x.k, .int .i64 x.m, .slice ad x.set.length cap] 25)), (b8, ex (.cells #[.int .u8 x.kind, .int .i64 x.a, .int .i64 x.b, .int .i64 x.k, .int .i64 x.m, .slice ad x.set.length cap] 25))] (claimsRw u7 l7 :: (setsR l7 ++ (claimsRw u6 l6 :: (setsR l6 ++ (claimsRw u5 l5 :: (setsR l5 ++ (minerRw rvg (new1 ++ newg) :: (rowsR (new1 ++ newg) ++ (claimsRw u4 l4 :: (setsR l4 ++ (minerRw rvc newc :: (rowsR newc ++ (minerRw rv3 new3 :: (rowsR new3 ++ (minerRw rv2 new2 :: (rowsR new2 ++ (minerRw (.slice ad78 ((lb ++ la).drop i0 ++ (lb ++ la).take i0).length cap78) ((lb ++ la).drop i0 ++ (lb ++ la).take i0) :: []))))))))))))))))) []) (fun w hw => hw.permR (by classical exact List.perm_iff_count.2 (fun x => by simp only [rowsR_append, List.count_append, List.count_cons, List.count_nil, List.cons_append] <;> omega))) ?_
        refine H.unguard (wn_f rfl rfl (by decide) rfl) rfl ?_
        refine H.q (yl_move rfl) rfl rfl (by decide) ?_
        refine H.unguard (wn_f rfl rfl (by decide) rfl) rfl ?_
        refine H.q (yl_to (yl_call (xs := [.tmp 170, .tmp 171]) Tryz.call23 (stab_hp _ _ _ _) rfl (fun w hw => sameAll_any l7 l4 u7 u4 w (by omega) (by omega) hs7 hs4 (claims_row (v := u7) (ls := l7) (hw.rows (claimsRw u7 l7) (by simp only [List.mem_cons, List.mem_append, true_or])) (fun r hr => hw.rows r (by simp only [List.mem_cons, List.mem_append, hr, true_or, or_true]))) (claims_row (v := u4) (ls := l4) (hw.rows (claimsRw u4 l4) (by simp only [List.mem_cons, List.mem_append, true_or, or_true])) (fun r hr => hw.rows r (by simp only [List.mem_cons, List.mem_append, hr, true_or, or_true]))))) (show Value.bool _ = Value.bool true by rw [hl7, hl4, sameAll_refl])) rfl rfl (by decide) ?_
        refine H.unguard (wn_f rfl rfl (by decide) rfl) rfl ?_
        refine H.q (yl_to (yl_not rfl) (show Value.bool _ = Value.bool false by simp)) rfl rfl (by decide) ?_
        refine H.q (yl_or' rfl rfl) rfl rfl (by decide) ?_
        refine HN.done ?_
        refine HN.keep [(11, _), (13, _), (17, _), (174, _)] ⟨rfl, rfl, rfl, rfl, trivial⟩ ?_
        refine HN.then ?_
        refine H.cond _ rfl (fun t3 => ?_) (fun t3 => ?_)
        · cases t3
          done
        · refine H.keep [(11, _), (13, _), (17, _)] ⟨rfl, rfl, rfl, trivial⟩ ?_
          refine HN.skip ?_
          refine HN.then ?_
          refine H.seq ?_
          refine H.region ?_
          refine H.q (yl_move rfl) rfl rfl (by decide) ?_
          refine H.call (α := Value × List (Value × Inv)) (xs := [.tmp 175, .const (.int .i64 1)]) (fun q => q.1) (fun q => q.2.map (·.2) = claimsE (rowsE ((lb ++ la).drop i0 ++ (lb ++ la).take i0)) vars 1) (fun q => claimsRw q.1 q.2 :: setsR q.2) (fun _ => []) Tryz.call24 rfl (by decide) (fun w hw => (claims_any b3 vars rv3 new3 w (mined_tbl hq3 hokW (by simp only [List.length_append, List.length_map, List.length_drop, List.length_take]; omega) (hw.blk 2 rfl) (hw.rows (minerRw rv3 new3) (by simp only [List.mem_cons, List.mem_append, true_or, or_true])) (fun r hr => hw.rows r (by simp only [List.mem_cons, List.mem_append, hr, true_or, or_true]))) hv1 hv8 1).mono fun e w' h => by obtain ⟨v, l, h1, h2, h3⟩ := h; exact ⟨(v, l), h1, by rw [h2]; exact congrArg (fun r => claimsE r vars 1) hq3, h3, fun _ hh => by cases hh⟩) (fun q hl8 => ?_)
          obtain ⟨u8, l8⟩ := q
          simp only at hl8
          have hs8 := claims_sets hv1 hv8 hokW hl8
          have hn8 : l8.length ≤ 1000 := by have h1 := congrArg List.length hl8; have h2 := claims_small (rows := (rowsE ((lb ++ la).drop i0 ++ (lb ++ la).take i0))) hv8 1; rw [List.length_map] at h1; omega
          refine H.cls (Hp w0 [minerB b1 vars rvg, minerB bc vars rvc, minerB b3 vars rv3, minerB b2 vars rv2, (b27, ex (.cells #[.int .u8 x.kind, .int .i64 x.a, .int .i64 x.b, .int .i64 x.k, .int .i64 x.m, .slice ad x.set.length cap] 25)), (b8, ex (.cells #[.int .u8 x.kind, .int .i64 x.a, .int .i64 x.b, .int .i64 x.k, .int .i64 x.m, .slice ad x.set.length cap] 25))] (claimsRw u8 l8 :: (setsR l8 ++ (claimsRw u7 l7 :: (setsR l7 ++ (claimsRw u6 l6 :: (setsR l6 ++ (claimsRw u5 l5 :: (setsR l5 ++ (minerRw rvg (new1 ++ newg) :: (rowsR (new1 ++ newg) ++ (claimsRw u4 l4 :: (setsR l4 ++ (minerRw rvc newc :: (rowsR newc ++ (minerRw rv3 new3 :: (rowsR new3 ++ (minerRw rv2 new2 :: (rowsR new2 ++ (minerRw (.slice ad78 ((lb ++ la).drop i0 ++ (lb ++ la).take i0).length cap78) ((lb ++ la).drop i0 ++ (lb ++ la).take i0) :: []))))))))))))))))))) []) (fun w hw => hw.permR (by classical exact List.perm_iff_count.2 (fun x => by simp only [rowsR_append, List.count_append, List.count_cons, List.count_nil, List.cons_append] <;> omega))) ?_
          refine H.q (yl_assign rfl) rfl rfl (by decide) ?_
          refine HN.done ?_
          refine HN.keep [(11, _), (13, _), (17, _), (25, _)] ⟨rfl, rfl, rfl, rfl, trivial⟩ ?_
          refine HN.then ?_
          refine H.seq ?_
          refine H.region ?_
          refine H.q (yl_move rfl) rfl rfl (by decide) ?_
          refine H.q (yl_move rfl) rfl rfl (by decide) ?_
          refine H.cls (Hp w0 [minerB b3 vars rv3, minerB b1 vars rvg, minerB bc vars rvc, minerB b2 vars rv2, (b27, ex (.cells #[.int .u8 x.kind, .int .i64 x.a, .int .i64 x.b, .int .i64 x.k, .int .i64 x.m, .slice ad x.set.length cap] 25)), (b8, ex (.cells #[.int .u8 x.kind, .int .i64 x.a, .int .i64 x.b, .int .i64 x.k, .int .i64 x.m, .slice ad x.set.length cap] 25))] (minerRw rv3 new3 :: (rowsR new3 ++ (claimsRw u8 l8 :: (setsR l8 ++ (claimsRw u7 l7 :: (setsR l7 ++ (claimsRw u6 l6 :: (setsR l6 ++ (claimsRw u5 l5 :: (setsR l5 ++ (minerRw rvg (new1 ++ newg) :: (rowsR (new1 ++ newg) ++ (claimsRw u4 l4 :: (setsR l4 ++ (minerRw rvc newc :: (rowsR newc ++ (minerRw rv2 new2 :: (rowsR new2 ++ (minerRw (.slice ad78 ((lb ++ la).drop i0 ++ (lb ++ la).take i0).length cap78) ((lb ++ la).drop i0 ++ (lb ++ la).take i0) :: []))))))))))))))))))) []) (fun w hw => (hw.permL (by classical exact List.perm_iff_count.2 (fun x => by simp only [List.count_cons, List.count_nil] <;> omega))).permR (by classical exact List.perm_iff_count.2 (fun x => by simp only [rowsR_append, List.count_append, List.count_cons, List.count_nil] <;> omega))) ?_
          refine H.callX (α := Value × List (Value × List Int)) (xs := [.tmp 177, .tmp 178]) (fun _ => .int .i64 0) (fun q => q.2.map (·.2) = (rowsE ((lb ++ la).drop i0 ++ (lb ++ la).take i0))) (fun q => Hp w0 [minerB b3 vars q.1, minerB b1 vars rvg, minerB bc vars rvc, minerB b2 vars rv2, (b27, ex (.cells #[.int .u8 x.kind, .int .i64 x.a, .int .i64 x.b, .int .i64 x.k, .int .i64 x.m, .slice ad x.set.length cap] 25)), (b8, ex (.cells #[.int .u8 x.kind, .int .i64 x.a, .int .i64 x.b, .int .i64 x.k, .int .i64 x.m, .slice ad x.set.length cap] 25))] (minerRw q.1 (new3 ++ q.2) :: (rowsR (new3 ++ q.2) ++ (claimsRw u8 l8 :: (setsR l8 ++ (claimsRw u7 l7 :: (setsR l7 ++ (claimsRw u6 l6 :: (setsR l6 ++ (claimsRw u5 l5 :: (setsR l5 ++ (minerRw rvg (new1 ++ newg) :: (rowsR (new1 ++ newg) ++ (claimsRw u4 l4 :: (setsR l4 ++ (minerRw rvc newc :: (rowsR newc ++ (minerRw rv2 new2 :: (rowsR new2 ++ (minerRw (.slice ad78 ((lb ++ la).drop i0 ++ (lb ++ la).take i0).length cap78) ((lb ++ la).drop i0 ++ (lb ++ la).take i0) :: []))))))))))))))))))) []) Tryz.call35 rfl (by decide) (fun w hw => (merge_any b3 rv3 new3 b3 vars rv3 new3 w0 _ _ [] w (by omega) hv1 (by omega) (fun w' h => h.cell 0 rfl rfl) (fun w' h => h.cell 0 rfl rfl) (fun w' h => Rw.isSl (h.rows (minerRw rv3 new3) (by simp only [List.mem_cons, List.mem_append, true_or])) rfl) (fun p hp => by
            have hr : rowI p.1 p.2 ∈ rowsR new3 := List.mem_map.2 ⟨p, hp, rfl⟩
            exact List.mem_append.2 (.inl hr)) (okr_len hq3 hokW hv8) hw).mono fun e w' h => by obtain ⟨h1, rv', new, h2, h3⟩ := h; exact ⟨(rv', new), h1, h2.trans hq3, h3⟩) (fun q hqh0 => ?_)
          obtain ⟨rvh, newh⟩ := q
          simp only at hqh0
          have hqh : (new3 ++ newh).map (·.2) = (rowsE ((lb ++ la).drop i0 ++ (lb ++ la).take i0)) ++ (rowsE ((lb ++ la).drop i0 ++ (lb ++ la).take i0)) := by rw [List.map_append, hq3, hqh0]
          have hlh : (new3 ++ newh).length = ((lb ++ la).drop i0 ++ (lb ++ la).take i0).length + ((lb ++ la).drop i0 ++ (lb ++ la).take i0).length := by
            have h9 := congrArg List.length hqh
            rw [List.length_map] at h9
            rw [h9, List.length_append, List.length_map]
          refine H.pull (fun w hw => Rw.isSlice (v := rvh) (len := (new3 ++ newh).length) (hw.row 0 rfl)) (fun ho => ?_)
          obtain ⟨adh, caph, hrvh⟩ := ho
          refine H.q (yl_to (yl_eql rfl rfl) (show Value.bool _ = Value.bool true by simp)) rfl rfl (by decide) ?_
          refine H.q (yl_move rfl) rfl rfl (by decide) ?_
          refine H.unguard (wn_t rfl rfl (by decide) rfl) rfl ?_
          refine H.q (yl_move rfl) rfl rfl (by decide) ?_
          refine H.unguard (wn_t rfl rfl (by decide) rfl) rfl ?_
          refine H.q (yl_to (yl_call (xs := [.tmp 182]) Tryz.call22 (stab_hp _ _ _ _) rfl (fun w hw => rows_any b3 vars adh (new3 ++ newh).length caph w (by omega) (hw.cell 0 rfl rfl) (by rw [← hrvh]; exact hw.cell 0 rfl rfl))) (show Value.int .i64 (((new3 ++ newh).length : Nat) : Int) = .int .i64 (((2 * ((lb ++ la).drop i0 ++ (lb ++ la).take i0).length) : Nat) : Int) by rw [hlh, Nat.two_mul])) rfl rfl (by decide) ?_
          refine H.unguard (wn_t rfl rfl (by decide) rfl) rfl ?_
          refine H.q (yl_move rfl) rfl rfl (by decide) ?_
          refine H.unguard (wn_t rfl rfl (by decide) rfl) rfl ?_
          refine H.q (yl_len rfl Tryz.underlying37 rfl) rfl rfl (by decide) ?_
          refine H.unguard (wn_t rfl rfl (by decide) rfl) rfl ?_
          refine H.q (yl_mul rfl rfl _ rfl (by omega)) rfl rfl (by decide) ?_
          refine H.unguard (wn_t rfl rfl (by decide) rfl) rfl ?_
          refine H.q (yl_to (yl_eql rfl rfl) (show Value.bool _ = Value.bool true by simp)) rfl rfl (by decide) ?_
          refine H.q (yl_and' rfl rfl) rfl rfl (by decide) ?_
          refine H.q (yl_move rfl) rfl rfl (by decide) ?_
          refine H.unguard (wn_t rfl rfl (by decide) rfl) rfl ?_
          refine H.q (yl_move rfl) rfl rfl (by decide) ?_
          refine H.unguard (wn_t rfl rfl (by decide) rfl) rfl ?_
          refine H.call (α := Value × List (Value × Inv)) (xs := [.tmp 190, .const (.int .i64 1)]) (fun q => q.1) (fun q => q.2.map (·.2) = claimsE ((rowsE ((lb ++ la).drop i0 ++ (lb ++ la).take i0)) ++ (rowsE ((lb ++ la).drop i0 ++ (lb ++ la).take i0))) vars 1) (fun q => claimsRw q.1 q.2 :: setsR q.2) (fun _ => []) Tryz.call24 rfl (by decide) (fun w hw => (claims_any b3 vars rvh (new3 ++ newh) w (mined_tbl hqh hokH (by simp only [List.length_append, List.length_map, List.length_drop, List.length_take]; omega) (hw.blk 0 rfl) (hw.rows (minerRw rvh (new3 ++ newh)) (by simp only [List.mem_cons, List.mem_append, true_or])) (fun r hr => hw.rows r (by simp only [List.mem_cons, List.mem_append, hr, true_or, or_true]))) hv1 hv8 1).mono fun e w' h => by obtain ⟨v, l, h1, h2, h3⟩ := h; exact ⟨(v, l), h1, by rw [h2]; exact congrArg (fun r => claimsE r vars 1) hqh, h3, fun _ hh => by cases hh⟩) (fun q hl9 => ?_)
          obtain ⟨u9, l9⟩ := q
          simp only at hl9
          have hs9 := claims_sets hv1 hv8 hokH hl9
          have hn9 : l9.length ≤ 1000 := by have h1 := congrArg List.length hl9; have h2 := claims_small (rows := ((rowsE ((lb ++ la).drop i0 ++ (lb ++ la).take i0)) ++ (rowsE ((lb ++ la).drop i0 ++ (lb ++ la).take i0)))) hv8 1; rw [List.length_map] at h1; omega
          refine H.cls (Hp w0 [minerB b3 vars rvh, minerB b1 vars rvg, minerB bc vars rvc, minerB b2 vars rv2, (b27, ex (.cells #[.int .u8 x.kind, .int .i64 x.a, .int .i64 x.b, .int .i64 x.k, .int .i64 x.m, .slice ad x.set.length cap] 25)), (b8, ex (.cells #[.int .u8 x.kind, .int .i64 x.a, .int .i64 x.b, .int .i64 x.k, .int .i64 x.m, .slice ad x.set.length cap] 25))] (claimsRw u9 l9 :: (setsR l9 ++ (minerRw rvh (new3 ++ newh) :: (rowsR (new3 ++ newh) ++ (claimsRw u8 l8 :: (setsR l8 ++ (claimsRw u7 l7 :: (setsR l7 ++ (claimsRw u6 l6 :: (setsR l6 ++ (claimsRw u5 l5 :: (setsR l5 ++ (minerRw rvg (new1 ++ newg) :: (rowsR (new1 ++ newg) ++ (claimsRw u4 l4 :: (setsR l4 ++ (minerRw rvc newc :: (rowsR newc ++ (minerRw rv2 new2 :: (rowsR new2 ++ (minerRw (.slice ad78 ((lb ++ la).drop i0 ++ (lb ++ la).take i0).length cap78) ((lb ++ la).drop i0 ++ (lb ++ la).take i0) :: []))))))))))))))))))))) []) (fun w hw => hw.permR (by classical exact List.perm_iff_count.2 (fun x => by simp only [rowsR_append, List.count_append, List.count_cons, List.count_nil, List.cons_append] <;> omega))) ?_
          refine H.unguard (wn_t rfl rfl (by decide) rfl) rfl ?_
          refine H.q (yl_move rfl) rfl rfl (by decide) ?_
          refine H.unguard (wn_t rfl rfl (by decide) rfl) rfl ?_
          refine H.q (yl_to (yl_call (xs := [.tmp 191, .tmp 192]) Tryz.call23 (stab_hp _ _ _ _) rfl (fun w hw => sameAll_any l9 l8 u9 u8 w (by omega) (by omega) hs9 hs8 (claims_row (v := u9) (ls := l9) (hw.rows (claimsRw u9 l9) (by simp only [List.mem_cons, List.mem_append, true_or])) (fun r hr => hw.rows r (by simp only [List.mem_cons, List.mem_append, hr, true_or, or_true]))) (claims_row (v := u8) (ls := l8) (hw.rows (claimsRw u8 l8) (by simp only [List.mem_cons, List.mem_append, true_or, or_true])) (fun r hr => hw.rows r (by simp only [List.mem_cons, List.mem_append, hr, true_or, or_true]))))) (show Value.bool _ = Value.bool true by rw [hl9, hl8, hclH, sameAll_refl])) rfl rfl (by decide) ?_
          refine H.q (yl_and' rfl rfl) rfl rfl (by decide) ?_
          refine H.q (yl_move rfl) rfl rfl (by decide) ?_
          refine H.unguard (wn_t rfl rfl (by decide) rfl) rfl ?_
          refine H.q (yl_move rfl) rfl rfl (by decide) ?_
          refine H.unguard (wn_t rfl rfl (by decide) rfl) rfl ?_
          refine H.cls (Hp w0 [minerB b1 vars rvg, minerB b3 vars rvh, minerB bc vars rvc, minerB b2 vars rv2, (b27, ex (.cells #[.int .u8 x.kind, .int .i64 x.a, .int .i64 x.b, .int .i64 x.k, .int .i64 x.m, .slice ad x.set.length cap] 25)), (b8, ex (.cells #[.int .u8 x.kind, .int .i64 x.a, .int .i64 x.b, .int .i64 x.k, .int .i64 x.m, .slice ad x.set.length cap] 25))] (minerRw rvg (new1 ++ newg) :: (rowsR (new1 ++ newg) ++ (claimsRw u9 l9 :: (setsR l9 ++ (minerRw rvh (new3 ++ newh) :: (rowsR (new3 ++ newh) ++ (claimsRw u8 l8 :: (setsR l8 ++ (claimsRw u7 l7 :: (setsR l7 ++ (claimsRw u6 l6 :: (setsR l6 ++ (claimsRw u5 l5 :: (setsR l5 ++ (claimsRw u4 l4 :: (setsR l4 ++ (minerRw rvc newc :: (rowsR newc ++ (minerRw rv2 new2 :: (rowsR new2 ++ (minerRw (.slice ad78 ((lb ++ la).drop i0 ++ (lb ++ la).take i0).length cap78) ((lb ++ la).drop i0 ++ (lb ++ la).take i0) :: []))))))))))))))))))))) []) (fun w hw => (hw.permL (by classical exact List.perm_iff_count.2 (fun x => by simp only [List.count_cons, List.count_nil] <;> omega))).permR (by classical exact List.perm_iff_count.2 (fun x => by simp only [rowsR_append, List.count_append, List.count_cons, List.count_nil] <;> omega))) ?_
          refine H.callX (α := Unit) (xs := [.tmp 196, .const (.pointer none)]) (fun _ => .int .i64 2) (fun _ => True) (fun _ => Hp w0 [minerB b1 vars rvg, minerB b3 vars rvh, minerB bc vars rvc, minerB b2 vars rv2, (b27, ex (.cells #[.int .u8 x.kind, .int .i64 x.a, .int .i64 x.b, .int .i64 x.k, .int .i64 x.m, .slice ad x.set.length cap] 25)), (b8, ex (.cells #[.int .u8 x.kind, .int .i64 x.a, .int .i64 x.b, .int .i64 x.k, .int .i64 x.m, .slice ad x.set.length cap] 25))] (minerRw rvg (new1 ++ newg) :: (rowsR (new1 ++ newg) ++ (claimsRw u9 l9 :: (setsR l9 ++ (minerRw rvh (new3 ++ newh) :: (rowsR (new3 ++ newh) ++ (claimsRw u8 l8 :: (setsR l8 ++ (claimsRw u7 l7 :: (setsR l7 ++ (claimsRw u6 l6 :: (setsR l6 ++ (claimsRw u5 l5 :: (setsR l5 ++ (claimsRw u4 l4 :: (setsR l4 ++ (minerRw rvc newc :: (rowsR newc ++ (minerRw rv2 new2 :: (rowsR new2 ++ (minerRw (.slice ad78 ((lb ++ la).drop i0 ++ (lb ++ la).take i0).length cap78) ((lb ++ la).drop i0 ++ (lb ++ la).take i0) :: []))))))))))))))))))))) []) Tryz.call35 rfl (by decide) (fun w hw => (mergeNil_any b1 vars rvg (new1 ++ newg) w0 _ _ [] w (by omega) hv1 hw).mono fun e w' h => ⟨(), h.1, trivial, h.2⟩) (fun q _ => ?_)
          refine H.unguard (wn_t rfl rfl (by decide) rfl) rfl ?_
          refine H.q (yl_to (yl_eql rfl rfl) (show Value.bool _ = Value.bool true by simp)) rfl rfl (by decide) ?_
          refine H.q (yl_and' rfl rfl) rfl rfl (by decide) ?_
          refine H.q (yl_move rfl) rfl rfl (by decide) ?_
          refine H.unguard (wn_t rfl rfl (by decide) rfl) rfl ?_
          refine H.q (yl_call (xs := []) Tryz.call11 (stab_hp _ _ _ _) rfl (fun w hw => learns_any w (hvars.ext hw.ext))) rfl rfl (by decide) ?_
          refine H.q (yl_and' rfl rfl) rfl rfl (by decide) ?_
          refine H.q (yl_assign rfl) rfl rfl (by decide) ?_
          refine HN.done ?_
          refine HN.keep [(10, _)] ⟨rfl, trivial⟩ ?_
          refine HN.then ?_
          refine HR.ret ?_
          refine HR.ret1 _ Tryz.results9 rfl (fun w hw => ?_)
          exact ⟨rfl, hw.ext⟩

end Go.Proofs.YtgbgddmbooaddaaGreatDoor

