/-
  Ground of the proof of LearnMines, part 5: Walks: the reference: alone; Walks: the reference: linear; Walks: the reference: a pair.
-/
import Derived.Test.YtgbgddmbooaddaaGreatDoorLearnMinesD
namespace Go.Proofs.YtgbgddmbooaddaaGreatDoor
open Go.RowKit


/-- The divisor of all distances from the lowest one, of the first k. -/
def divE (c : List Int) : Nat → Int
  | 0 => 0
  | k + 1 => gcdE (divE c k) (c.getD k 0 - loE c)
theorem divE_nonneg (c : List Int) (k : Nat) : 0 ≤ divE c k := by cases k with | zero => exact Int.le_refl _ | succ k => exact gcdE_nonneg _ _
theorem rise_lo {c : List Int} (hris : ∀ k, k + 1 < c.length → c.getD k 0 < c.getD (k + 1) 0) : ∀ k, k < c.length → loE c ≤ c.getD k 0 := by
  intro k
  induction k with
  | zero => intro _; exact Int.le_refl _
  | succ k ih =>
    intro h
    have h1 := ih (by omega)
    have h2 := hris k h
    omega
theorem divE_dvd (c : List Int) (k : Nat) : (divE c (k + 1)).toNat ∣ (c.getD k 0 - loE c).toNat := by
  show (gcdE _ _).toNat ∣ _
  unfold gcdE
  rw [Int.toNat_natCast]
  exact Nat.gcd_dvd_right _ _
theorem divE_step {c : List Int} (hris : ∀ k, k + 1 < c.length → c.getD k 0 < c.getD (k + 1) 0) : ∀ k, k < c.length → divE c (k + 1) = stepE c k := by
  intro k
  induction k with
  | zero => intro _; show gcdE 0 (loE c - loE c) = 0; rw [Int.sub_self]; decide
  | succ k ih =>
    intro h
    have h1 := ih (by omega)
    have h2 := hris k h
    have h3 := rise_lo hris k (by omega)
    have hd := divE_dvd c k
    show gcdE (divE c (k + 1)) _ = gcdE (stepE c k) _
    rw [h1] at hd ⊢
    unfold gcdE
    obtain ⟨m, hm⟩ := hd
    have e1 : (c.getD (k + 1) 0 - loE c).toNat = (c.getD (k + 1) 0 - c.getD k 0).toNat + m * (stepE c k).toNat := by rw [Nat.mul_comm, ← hm]; omega
    rw [e1, Nat.gcd_add_mul_right_right]
theorem any_take {α : Type} {l : List α} {f : α → Bool} {k : Nat} (hk : k < l.length) : (l.take (k + 1)).any f = ((l.take k).any f || f l[k]) := by
  rw [List.take_succ_eq_append_getElem hk, List.any_append]; simp [List.any_cons]
structure KV where
  k : Nat
  v : Value
theorem alone_conv {c : List Int} {a : Nat} {w0 w' : World} {v sv : Value} {sl : List Int} (hp : Hp w0 [] [rowI sv sl, aloneR v sv (aloneE c a)] [] w') (hcase : (c.length : Int) ≤ 3 → (c.length : Int) ≠ 1 → sl = c) : ∃ ls, ls.map (·.2) = aloneE c a ∧ Hp w0 [] (claimsRw v ls :: setsR ls) [] w' := by
  refine ⟨(aloneE c a).map (setOf sv), by rw [List.map_map]; exact List.map_id _, ?_⟩
  rw [← aloneR_claims]
  suffices h : Hp w0 [] (setsR ((aloneE c a).map (setOf sv)) ++ [aloneR v sv (aloneE c a)]) [] w' from h.permR List.perm_append_comm
  by_cases h1 : (c.length : Int) = 1
  · refine (hp.dropR).setsN ?_ sv
    rw [alone_one h1]
    simp
  · have hrest : ∀ x ∈ (if ((!c.any (fun y => decide (0 = y)) && decide (loE c < 0)) && decide (0 < hiE c)) = true then [(⟨5, a, 0, 0, 0, []⟩ : Inv)] else []), x.kind ≠ 2 ∧ x.set = [] := by
      split <;> simp
    by_cases h3 : (c.length : Int) ≤ 3
    · have e1 : aloneE c a = [⟨3, a, 0, loE c, 0, []⟩, ⟨4, a, 0, hiE c, 0, []⟩] ++ (⟨2, a, 0, 0, 0, c⟩ : Inv) :: (if ((!c.any (fun y => decide (0 = y)) && decide (loE c < 0)) && decide (0 < hiE c)) = true then [⟨5, a, 0, 0, 0, []⟩] else []) := by
        rw [alone_few h1 h3]
        unfold a3E a2E
        rw [if_pos h3]
        simp
      rw [hcase h3 h1] at hp
      rw [e1] at hp ⊢
      exact Hp.setsO (x := ⟨2, a, 0, 0, 0, c⟩) hp (by simp) hrest rfl
    · refine (hp.dropR).setsN ?_ sv
      rw [alone_many h1 h3]
      unfold a3E a2E
      rw [if_neg h3]
      intro x hx
      simp only [List.mem_append] at hx
      rcases hx with ((hx | hx) | hx) | hx
      · revert hx x; simp
      · simp at hx
      · exact hrest x hx
      · revert hx x
        split <;> simp
theorem alone_end {c : List Int} {a : Int} {z : List Inv} (h : ¬ (c.length : Int) = 1) (hz : z = a3E c a ++ (if (decide (3 < (c.length : Int)) && decide (2 ≤ stepE c (c.length - 1))) = true ∧ stepE c (c.length - 1) ≤ 2147483647 then [⟨6, a, 0, modI (loE c) (stepE c (c.length - 1)), stepE c (c.length - 1), []⟩] else [])) : z = aloneE c a := by
  subst hz
  by_cases h3 : (c.length : Int) ≤ 3
  · rw [alone_few h h3, if_neg, List.append_nil]
    simp; omega
  · rw [alone_many h h3]
    congr 1
    have e1 : decide (3 < (c.length : Int)) = true := decide_eq_true (by omega)
    rw [e1]
    simp only [Bool.true_and, decide_eq_true_eq, Bool.and_eq_true]

set_option maxRecDepth 100000 in
theorem refAlone_any (vars : Nat) (rv : Value) (rows : List (Value × List Int)) (w0 : World) (ht : RTbl w0 vars rv rows) (h0 : 0 < rows.length) (a : Nat) (ha : a < vars) : Calls Tryz.prog 59 #[rv, .int .i64 (a : Int)] w0 fun e w' => ∃ v ls, e = .returned v ∧ ls.map (·.2) = aloneE (factsE (rowsE rows) a) a ∧ Hp w0 [] (claimsRw v ls :: setsR ls) [] w' := by
  obtain ⟨adr, capr, br, orr, rfl, hcapr, hsr⟩ := rows_open ht.isr
  have hmax := ht.max
  have hsmr : ∀ r ∈ rowsE rows, ∀ x ∈ r, smallB x = true := fun r hr x hx => by obtain ⟨p, hp, rfl⟩ := List.mem_map.1 hr; exact ht.small p hp x hx
  have hc0 : 0 < (factsE (rowsE rows) a).length := facts_pos (by simpa using h0) a
  have hcl : (factsE (rowsE rows) a).length ≤ 1000000 := Nat.le_trans (facts_len _ _) (by simpa using ht.max)
  have hsm := facts_small hsmr a
  have hris := facts_rising (rowsE rows) a
  generalize hc : factsE (rowsE rows) a = c at hc0 hcl hsm hris ⊢
  refine enterA 103 Tryz.func59 rfl Tryz.ntmps59 rfl (Hp w0 [] [] []) (Hp.init _) ?_
  refine H.seq ?_
  refine H.region ?_
  refine H.q (yl_assign rfl) rfl rfl (by decide) ?_
  refine HN.done ?_
  refine HN.keep [(0, _), (1, _)] ⟨rfl, rfl, trivial⟩ ?_
  refine HN.then ?_
  refine H.seq ?_
  refine H.region ?_
  refine H.q (yl_move rfl) rfl rfl (by decide) ?_
  refine H.q (yl_move rfl) rfl rfl (by decide) ?_
  refine H.call (α := Value) (xs := [.tmp 12, .tmp 13]) (fun v => v) (fun _ => True) (fun v => [rowI v c]) (fun _ => []) Tryz.call60 rfl (by decide) (fun w hw => (refColumn_any vars _ rows w (ht.ext hw.ext) a ha).mono fun e w' h => by obtain ⟨v, h1, h2⟩ := h; rw [hc] at h2; exact ⟨v, h1, trivial, h2, fun _ hh => by cases hh⟩) (fun v14 _ => ?_)
  refine H.pull (fun w hw => rowI_open (hw.row 0 rfl)) (fun ho => ?_)
  obtain ⟨adc, capc, bc, rfl, hcapc, hadc, hsc⟩ := ho
  have hadc0 := hadc hc0
  refine H.q (yl_assign rfl) rfl rfl (by decide) ?_
  refine HN.done ?_
  refine HN.keep [(1, _), (5, _)] ⟨rfl, rfl, trivial⟩ ?_
  refine HN.then ?_
  refine H.seq ?_
  refine H.regionQ Tryz.mixed (by kernel_rfl) (stab_hp _ _ _ _) ?_
  refine G.q (yl_move rfl) rfl rfl (by decide) ?_
  refine G.q (yl_ix 0 Tryz.underlying23 Tryz.sizeOf2 hadc0 rfl rfl rfl hc0) rfl rfl (by decide) ?_
  refine G.q (yl_load (v := .int .i64 (loE c)) Tryz.isAgg2 rfl (fun w hw => hsc w (hw.row 0 rfl) 0 hc0)) rfl rfl (by decide) ?_
  refine G.q (yl_move rfl) rfl rfl (by decide) ?_
  refine G.q (yl_move rfl) rfl rfl (by decide) ?_
  refine G.q (yl_len rfl Tryz.underlying23 rfl) rfl rfl (by decide) ?_
  refine G.q (yl_sub' rfl rfl ((c.length - 1 : Nat) : Int) (by omega) (by omega)) rfl rfl (by decide) ?_
  refine G.q (yl_ix (c.length - 1) Tryz.underlying23 Tryz.sizeOf2 hadc0 rfl rfl rfl (show c.length - 1 < c.length by omega)) rfl rfl (by decide) ?_
  refine G.q (yl_load (v := .int .i64 (hiE c)) Tryz.isAgg2 rfl (fun w hw => hsc w (hw.row 0 rfl) (c.length - 1) (show c.length - 1 < c.length by omega))) rfl rfl (by decide) ?_
  refine G.q (yl_assign rfl) rfl rfl (by decide) ?_
  refine G.q (yl_assign rfl) rfl rfl (by decide) ?_
  refine HN.doneG ?_
  refine HN.keep [(1, _), (5, _), (6, _), (7, _)] ⟨rfl, rfl, rfl, rfl, trivial⟩ ?_
  refine HN.then ?_
  refine H.seq ?_
  refine H.seq ?_
  refine H.region ?_
  refine H.q (yl_move rfl) rfl rfl (by decide) ?_
  refine H.q (yl_len rfl Tryz.underlying23 rfl) rfl rfl (by decide) ?_
  refine H.q (yl_eql rfl rfl) rfl rfl (by decide) ?_
  refine HN.done ?_
  refine HN.keep [(1, _), (5, _), (6, _), (7, _), (26, _)] ⟨rfl, rfl, rfl, rfl, rfl, trivial⟩ ?_
  refine HN.then ?_
  refine H.cond _ rfl (fun t0 => ?_) (fun t0 => ?_)
  · simp only [decide_eq_true_eq] at t0
    refine H.keep [(1, _), (6, _)] ⟨rfl, rfl, trivial⟩ ?_
    refine H.seq ?_
    refine H.region ?_
    refine H.q (yl_move rfl) rfl rfl (by decide) ?_
    refine H.q (yl_move rfl) rfl rfl (by decide) ?_
    refine H.q (yl_build (bd25_013 _ _ _) rfl) rfl rfl (by decide) ?_
    refine H.buildSlice (bs28 _ _ _ _ _ _ _ _) rfl (by decide) (fun b30 hb30 => ?_)
    refine H.q (yl_assign rfl) rfl rfl (by decide) ?_
    refine HN.done ?_
    refine HN.keep [(4, _)] ⟨rfl, trivial⟩ ?_
    refine HN.cls (Hp w0 [] [⟨.slice (some ⟨b30, 0, none⟩) 1 1, 1, 25, 6, [.int .u8 1, .int .i64 (a : Int), .int .i64 0, .int .i64 (loE c), .int .i64 0, .slice none 0 0]⟩, rowI (.slice adc c.length capc) c] []) (fun w hw => hw.toRow rfl (by decide)) ?_
    refine HN.then ?_
    refine HR.ret ?_
    refine HR.then ?_
    refine HR.ret1 _ Tryz.results59 rfl (fun w hw => ?_)
    have e1 : aloneR (.slice (some ⟨b30, 0, none⟩) 1 1) (.slice adc c.length capc) (aloneE c a) = ⟨.slice (some ⟨b30, 0, none⟩) 1 1, 1, 25, 6, [.int .u8 1, .int .i64 (a : Int), .int .i64 0, .int .i64 (loE c), .int .i64 0, .slice none 0 0]⟩ := by rw [alone_one t0]; rfl
    obtain ⟨ls, h1, h2⟩ := alone_conv (v := .slice (some ⟨b30, 0, none⟩) 1 1) (sv := .slice adc c.length capc) (sl := c) (c := c) (a := a) (by rw [e1]; exact hw.permR (List.Perm.swap _ _ _)) (fun _ _ => rfl)
    exact ⟨_, ls, rfl, h1, h2⟩
  · simp only [decide_eq_false_iff_not] at t0
    refine H.keep [(1, _), (5, _), (6, _), (7, _)] ⟨rfl, rfl, rfl, rfl, trivial⟩ ?_
    refine HN.skip ?_
    refine HN.then ?_
    refine H.seq ?_
    refine H.region ?_
    refine H.q (yl_move rfl) rfl rfl (by decide) ?_
    refine H.q (yl_move rfl) rfl rfl (by decide) ?_
    refine H.q (yl_build (bd25_013 _ _ _) rfl) rfl rfl (by decide) ?_
    refine H.q (yl_move rfl) rfl rfl (by decide) ?_
    refine H.q (yl_move rfl) rfl rfl (by decide) ?_
    refine H.q (yl_build (bd25_013 _ _ _) rfl) rfl rfl (by decide) ?_
    refine H.buildSlice (bs28_2 _ _ _ _ _ _ _ _ _ _ _ _ _ _ _ _) rfl (by decide) (fun b37 hb37 => ?_)
    refine H.q (yl_assign rfl) rfl rfl (by decide) ?_
    refine HN.done ?_
    refine HN.keep [(1, _), (5, _), (6, _), (7, _), (8, _)] ⟨rfl, rfl, rfl, rfl, rfl, trivial⟩ ?_
    refine HN.cls (Hp w0 [] [rowI (.slice adc c.length capc) c, ⟨.slice (some ⟨b37, 0, none⟩) 2 2, 2, 25, 6, [.int .u8 3, .int .i64 (a : Int), .int .i64 0, .int .i64 (loE c), .int .i64 0, .slice none 0 0, .int .u8 4, .int .i64 (a : Int), .int .i64 0, .int .i64 (hiE c), .int .i64 0, .slice none 0 0]⟩] []) (fun w hw => (hw.toRow rfl (by decide)).permR (List.Perm.swap _ _ _)) ?_
    refine HN.then ?_
    refine H.seqCut (fun z : KV => [(1, .int .i64 (a : Int)), (5, .slice adc c.length capc), (6, .int .i64 (loE c)), (7, .int .i64 (hiE c)), (8, z.v)]) (fun z => Hp w0 [] [rowI (.slice adc c.length capc) c, aloneR z.v (.slice adc c.length capc) (a2E c a)] []) ?_ (fun z => ?_)
    · refine H.seq ?_
      refine H.region ?_
      refine H.q (yl_move rfl) rfl rfl (by decide) ?_
      refine H.q (yl_len rfl Tryz.underlying23 rfl) rfl rfl (by decide) ?_
      refine H.q (yl_leq rfl rfl) rfl rfl (by decide) ?_
      refine HN.done ?_
      refine HN.keep [(1, _), (5, _), (6, _), (7, _), (8, _), (40, _)] ⟨rfl, rfl, rfl, rfl, rfl, rfl, trivial⟩ ?_
      refine HN.then ?_
      refine H.cond _ rfl (fun t1 => ?_) (fun t1 => ?_)
      · simp only [decide_eq_true_eq] at t1
        refine H.keep [(1, _), (5, _), (6, _), (7, _), (8, _)] ⟨rfl, rfl, rfl, rfl, rfl, trivial⟩ ?_
        refine H.region ?_
        refine H.q (yl_move rfl) rfl rfl (by decide) ?_
        refine H.q (yl_move rfl) rfl rfl (by decide) ?_
        refine H.q (yl_move rfl) rfl rfl (by decide) ?_
        refine H.q (yl_build (bd25_015 _ _ _ _ _) rfl) rfl rfl (by decide) ?_
        refine H.buildSlice (bs28 _ _ _ _ _ _ _ _) rfl (by decide) (fun b45 hb45 => ?_)
        refine H.append 1 [.int .u8 2, .int .i64 (a : Int), .int .i64 0, .int .i64 0, .int .i64 0, .slice adc c.length capc] el28 rfl rfl rfl rfl (fun w hw => newsN (hw.blk 0 rfl)) (by simp [Value.oneCell']) (by simp only; omega) (by decide) (by decide) (fun v46 => ?_)
        refine H.q (yl_assign rfl) rfl rfl (by decide) ?_
        refine HN.done ?_
        refine HN.keep [(1, _), (5, _), (6, _), (7, _), (8, _)] ⟨rfl, rfl, rfl, rfl, rfl, trivial⟩ ?_
        refine HN.then ?_
        refine H.at' ⟨0, v46⟩ ⟨rfl, rfl, rfl, rfl, rfl, trivial⟩ (fun w hw => ?_)
        have e1 : a2E c a = [⟨3, a, 0, loE c, 0, []⟩, ⟨4, a, 0, hiE c, 0, []⟩, ⟨2, a, 0, 0, 0, c⟩] := by unfold a2E; rw [if_pos t1]; rfl
        have e3 : aloneR v46 (.slice adc c.length capc) (a2E c a) = ⟨v46, 3, 25, 6, [.int .u8 3, .int .i64 (a : Int), .int .i64 0, .int .i64 (loE c), .int .i64 0, .slice none 0 0, .int .u8 4, .int .i64 (a : Int), .int .i64 0, .int .i64 (hiE c), .int .i64 0, .slice none 0 0] ++ [.int .u8 2, .int .i64 (a : Int), .int .i64 0, .int .i64 0, .int .i64 0, .slice adc c.length capc]⟩ := by rw [e1]; simp [aloneR, clS, cellsI]
        simp only [e3]
        exact hw.drop
      · simp only [decide_eq_false_iff_not] at t1
        refine H.keep [(1, _), (5, _), (6, _), (7, _), (8, _)] ⟨rfl, rfl, rfl, rfl, rfl, trivial⟩ ?_
        refine HN.skip ?_
        refine HN.then ?_
        refine H.at' ⟨0, .slice (some ⟨b37, 0, none⟩) 2 2⟩ ⟨rfl, rfl, rfl, rfl, rfl, trivial⟩ (fun w hw => ?_)
        have e1 : a2E c a = [⟨3, a, 0, loE c, 0, []⟩, ⟨4, a, 0, hiE c, 0, []⟩] := by unfold a2E; rw [if_neg t1]; rfl
        have e3 : aloneR (.slice (some ⟨b37, 0, none⟩) 2 2) (.slice adc c.length capc) (a2E c a) = ⟨.slice (some ⟨b37, 0, none⟩) 2 2, 2, 25, 6, [.int .u8 3, .int .i64 (a : Int), .int .i64 0, .int .i64 (loE c), .int .i64 0, .slice none 0 0, .int .u8 4, .int .i64 (a : Int), .int .i64 0, .int .i64 (hiE c), .int .i64 0, .slice none 0 0]⟩ := by rw [e1]; simp [aloneR, clS, cellsI]
        simp only [e3]
        exact hw
    · refine H.seq ?_
      refine H.region ?_
      refine H.q (yl_assign rfl) rfl rfl (by decide) ?_
      refine HN.done ?_
      refine HN.keep [(1, _), (5, _), (6, _), (7, _), (8, _), (9, _)] ⟨rfl, rfl, rfl, rfl, rfl, rfl, trivial⟩ ?_
      refine HN.then ?_
      refine H.seq ?_
      refine H.region ?_
      refine H.q (yl_assign rfl) rfl rfl (by decide) ?_
      refine HN.done ?_
      refine HN.keep [(1, _), (5, _), (6, _), (7, _), (8, _), (9, _), (10, _)] ⟨rfl, rfl, rfl, rfl, rfl, rfl, rfl, trivial⟩ ?_
      refine HN.then ?_
      refine H.seq ?_
      refine H.seq ?_
      refine H.region ?_
      refine H.q (yl_assign rfl) rfl rfl (by decide) ?_
      refine HN.done ?_
      refine HN.keep [(1, _), (5, _), (6, _), (7, _), (8, _), (9, _), (10, _), (11, _)] ⟨rfl, rfl, rfl, rfl, rfl, rfl, rfl, rfl, trivial⟩ ?_
      refine HN.then ?_
      refine H.block ?_
      refine H.loop (fun k : Nat => [(1, .int .i64 (a : Int)), (5, .slice adc c.length capc), (6, .int .i64 (loE c)), (7, .int .i64 (hiE c)), (8, z.v), (9, .bool ((c.take k).any (fun y => decide (0 = y)))), (10, .int .i64 (divE c k)), (11, .int .i64 (k : Int))]) (fun k => k ≤ c.length) (fun _ => Hp w0 [] [rowI (.slice adc c.length capc) c, aloneR z.v (.slice adc c.length capc) (a2E c a)] []) (fun k => c.length - k) 0 (Nat.zero_le _) ⟨rfl, rfl, rfl, rfl, rfl, rfl, rfl, rfl, trivial⟩ (fun w hw => hw) (fun k hk => ?_)
      refine H.seq ?_
      refine H.seq ?_
      refine H.region ?_
      refine H.q (yl_move rfl) rfl rfl (by decide) ?_
      refine H.q (yl_move rfl) rfl rfl (by decide) ?_
      refine H.q (yl_len rfl Tryz.underlying23 rfl) rfl rfl (by decide) ?_
      refine H.q (yl_lss rfl rfl) rfl rfl (by decide) ?_
      refine HN.done ?_
      refine HN.keep [(1, _), (5, _), (6, _), (7, _), (8, _), (9, _), (10, _), (11, _), (50, _)] ⟨rfl, rfl, rfl, rfl, rfl, rfl, rfl, rfl, rfl, trivial⟩ ?_
      refine HN.then ?_
      refine H.cond _ rfl (fun t2 => ?_) (fun t2 => ?_)
      · simp only [decide_eq_true_eq] at t2
        have hlt : k < c.length := by omega
        have hlo := rise_lo hris k hlt
        have hb1 := small_bounds (hsm _ (getD_mem hlt))
        have hb2 := small_bounds (hsm _ (getD_mem hc0))
        have hb3 : -2147483647 ≤ loE c ∧ loE c ≤ 2147483647 := hb2
        refine H.keep [(1, _), (5, _), (6, _), (7, _), (8, _), (9, _), (10, _), (11, _)] ⟨rfl, rfl, rfl, rfl, rfl, rfl, rfl, rfl, trivial⟩ ?_
        refine HN.skip ?_
        refine HN.then ?_
        refine H.seq ?_
        refine H.block ?_
        refine H.seq ?_
        refine H.region ?_
        refine H.q (yl_move rfl) rfl rfl (by decide) ?_
        refine H.q (yl_move rfl) rfl rfl (by decide) ?_
        refine H.qg (wn_f rfl rfl (by decide) rfl) (fun hg => yl_sub [(5, _)] ⟨rfl, trivial⟩ (yl_move rfl)) rfl (by decide) ?_
        refine H.qg (wn_f rfl rfl (by decide) rfl) (fun hg => yl_sub [(11, _)] ⟨rfl, trivial⟩ (yl_move rfl)) rfl (by decide) ?_
        refine H.qg (wn_f rfl rfl (by decide) rfl) (fun hg => yl_sub [(55, _), (56, _)] ⟨slT rfl hg, slT rfl hg, trivial⟩ (yl_ix k Tryz.underlying23 Tryz.sizeOf2 hadc0 rfl rfl rfl hlt)) rfl (by decide) ?_
        refine H.qg (wn_f rfl rfl (by decide) rfl) (fun hg => yl_sub [(57, _)] ⟨slT rfl hg, trivial⟩ (yl_load (v := .int .i64 (c.getD k 0)) Tryz.isAgg2 rfl (fun w hw => hsc w (hw.row 0 rfl) k hlt))) rfl (by decide) ?_
        refine H.qg (wn_f rfl rfl (by decide) rfl) (fun hg => yl_sub [(58, _)] ⟨slT rfl hg, trivial⟩ (yl_eql rfl rfl)) rfl (by decide) ?_
        refine H.q (yl_or rfl rfl) rfl rfl (by decide) ?_
        refine H.q (yl_assign rfl) rfl rfl (by decide) ?_
        refine HN.done ?_
        refine HN.keep [(1, _), (5, _), (6, _), (7, _), (8, _), (9, _), (10, _), (11, _)] ⟨rfl, rfl, rfl, rfl, rfl, rfl, rfl, rfl, trivial⟩ ?_
        refine HN.then ?_
        refine H.region ?_
        refine H.q (yl_move rfl) rfl rfl (by decide) ?_
        refine H.q (yl_move rfl) rfl rfl (by decide) ?_
        refine H.q (yl_move rfl) rfl rfl (by decide) ?_
        refine H.q (yl_ix k Tryz.underlying23 Tryz.sizeOf2 hadc0 rfl rfl rfl hlt) rfl rfl (by decide) ?_
        refine H.q (yl_load (v := .int .i64 (c.getD k 0)) Tryz.isAgg2 rfl (fun w hw => hsc w (hw.row 0 rfl) k hlt)) rfl rfl (by decide) ?_
        refine H.q (yl_move rfl) rfl rfl (by decide) ?_
        refine H.q (yl_sub' rfl rfl (c.getD k 0 - loE c) rfl (by omega)) rfl rfl (by decide) ?_
        refine H.q (yl_call (xs := [.tmp 61, .tmp 67]) Tryz.call91 (stab_hp _ _ _ _) rfl (fun w hw => refDivisor_any _ _ (divE_nonneg c k) (by omega) w)) rfl rfl (by decide) ?_
        refine H.q (yl_assign rfl) rfl rfl (by decide) ?_
        refine HN.done ?_
        refine HN.keep [(1, _), (5, _), (6, _), (7, _), (8, _), (9, _), (10, _), (11, _)] ⟨rfl, rfl, rfl, rfl, rfl, rfl, rfl, rfl, trivial⟩ ?_
        refine HN.block ?_
        refine HN.then ?_
        refine H.region ?_
        refine H.q (yl_move rfl) rfl rfl (by decide) ?_
        refine H.q (yl_add rfl rfl ((k : Int) + 1) rfl (by omega)) rfl rfl (by decide) ?_
        refine H.q (yl_assign rfl) rfl rfl (by decide) ?_
        refine HN.done ?_
        refine HN.keep [(1, _), (5, _), (6, _), (7, _), (8, _), (9, _), (10, _), (11, _)] ⟨rfl, rfl, rfl, rfl, rfl, rfl, rfl, rfl, trivial⟩ ?_
        refine HN.then ?_
        have e1 : (c.take (k + 1)).any (fun y => decide (0 = y)) = ((c.take k).any (fun y => decide (0 = y)) || decide (c.getD k 0 = 0)) := by
          rw [any_take hlt]
          congr 1
          have e2 : c.getD k 0 = c[k] := by simp [List.getD, hlt]
          rw [e2]
          exact decide_eq_decide.2 eq_comm
        exact H.at (k + 1) ⟨hlt, by omega⟩ ⟨rfl, rfl, rfl, rfl, rfl, (by rw [← e1]; rfl), rfl, rfl, trivial⟩ (fun w hw => hw)
      · simp only [decide_eq_false_iff_not] at t2
        have hkl : k = c.length := by omega
        subst hkl
        have hdiv : divE c c.length = stepE c (c.length - 1) := by rw [← divE_step hris (c.length - 1) (by omega), Nat.sub_add_cancel hc0]
        refine H.keep [(1, _), (5, _), (6, _), (7, _), (8, _), (9, _), (10, _)] ⟨rfl, rfl, rfl, rfl, rfl, rfl, rfl, trivial⟩ ?_
        refine HX.exit ?_
        refine HX.then ?_
        refine HX.then ?_
        refine HX.hit ?_
        refine HN.then ?_
        refine H.seqCut (fun z : KV => [(1, .int .i64 (a : Int)), (5, .slice adc c.length capc), (6, .int .i64 (loE c)), (8, z.v), (10, .int .i64 (stepE c (c.length - 1)))]) (fun z => Hp w0 [] [rowI (.slice adc c.length capc) c, aloneR z.v (.slice adc c.length capc) (a3E c a)] []) ?_ (fun z => ?_)
        · refine H.seq ?_
          rw [List.take_length, hdiv]
          refine H.region ?_
          refine H.q (yl_move rfl) rfl rfl (by decide) ?_
          refine H.q (yl_not rfl) rfl rfl (by decide) ?_
          refine H.q (yl_move rfl) rfl rfl (by decide) ?_
          refine H.qg (wn_t rfl rfl (by decide) rfl) (fun hg => yl_sub [(6, _)] ⟨rfl, trivial⟩ (yl_move rfl)) rfl (by decide) ?_
          refine H.qg (wn_t rfl rfl (by decide) rfl) (fun hg => yl_sub [(72, _)] ⟨slT rfl hg, trivial⟩ (yl_lss rfl rfl)) rfl (by decide) ?_
          refine H.q (yl_and rfl rfl) rfl rfl (by decide) ?_
          refine H.q (yl_move rfl) rfl rfl (by decide) ?_
          refine H.qg (wn_t rfl rfl (by decide) rfl) (fun hg => yl_sub [(7, _)] ⟨rfl, trivial⟩ (yl_move rfl)) rfl (by decide) ?_
          refine H.qg (wn_t rfl rfl (by decide) rfl) (fun hg => yl_sub [(76, _)] ⟨slT rfl hg, trivial⟩ (yl_gtr rfl rfl)) rfl (by decide) ?_
          refine H.q (yl_and rfl rfl) rfl rfl (by decide) ?_
          refine HN.done ?_
          refine HN.keep [(1, _), (5, _), (6, _), (8, _), (10, _), (78, _)] ⟨rfl, rfl, rfl, rfl, rfl, rfl, trivial⟩ ?_
          refine HN.then ?_
          refine H.cond _ rfl (fun t3 => ?_) (fun t3 => ?_)
          · replace t3 : ((!c.any (fun y => decide (0 = y)) && decide (loE c < 0)) && decide (0 < hiE c)) = true := t3
            refine H.keep [(1, _), (5, _), (6, _), (8, _), (10, _)] ⟨rfl, rfl, rfl, rfl, rfl, trivial⟩ ?_
            refine H.region ?_
            refine H.q (yl_move rfl) rfl rfl (by decide) ?_
            refine H.q (yl_move rfl) rfl rfl (by decide) ?_
            refine H.q (yl_build (bd25_01 _ _) rfl) rfl rfl (by decide) ?_
            refine H.buildSlice (bs28 _ _ _ _ _ _ _ _) rfl (by decide) (fun b82 hb82 => ?_)
            refine H.append 1 [.int .u8 5, .int .i64 (a : Int), .int .i64 0, .int .i64 0, .int .i64 0, .slice none 0 0] el28 rfl rfl rfl rfl (fun w hw => newsN (hw.blk 0 rfl)) (by simp [Value.oneCell']) (by have := a2E_len c a; simp only [aloneR]; omega) (by decide) (by decide) (fun v83 => ?_)
            refine H.q (yl_assign rfl) rfl rfl (by decide) ?_
            refine HN.done ?_
            refine HN.keep [(1, _), (5, _), (6, _), (8, _), (10, _)] ⟨rfl, rfl, rfl, rfl, rfl, trivial⟩ ?_
            refine HN.then ?_
            refine H.at' ⟨0, v83⟩ ⟨rfl, rfl, rfl, rfl, rfl, trivial⟩ (fun w hw => ?_)
            have e3 : aloneR v83 (.slice adc c.length capc) (a3E c a) = ⟨v83, (a2E c a).length + 1, 25, 6, clS (.slice adc c.length capc) (a2E c a) ++ [.int .u8 5, .int .i64 (a : Int), .int .i64 0, .int .i64 0, .int .i64 0, .slice none 0 0]⟩ := by
              have e4 := a3E_clS c a (.slice adc c.length capc)
              rw [if_pos t3] at e4
              have e5 : (a3E c a).length = (a2E c a).length + 1 := by unfold a3E; rw [if_pos t3]; simp
              unfold aloneR
              rw [e4, e5]
            simp only [e3]
            exact hw.drop
          · replace t3 : ((!c.any (fun y => decide (0 = y)) && decide (loE c < 0)) && decide (0 < hiE c)) = false := t3
            refine H.keep [(1, _), (5, _), (6, _), (8, _), (10, _)] ⟨rfl, rfl, rfl, rfl, rfl, trivial⟩ ?_
            refine HN.skip ?_
            refine HN.then ?_
            refine H.at' ⟨0, z.v⟩ ⟨rfl, rfl, rfl, rfl, rfl, trivial⟩ (fun w hw => ?_)
            have e3 : a3E c a = a2E c a := by unfold a3E; rw [if_neg (by rw [t3]; decide)]; simp
            rw [e3]
            exact hw
        · refine H.seqCut (fun z : KV => [(8, z.v)]) (fun z => Hp w0 [] [rowI (.slice adc c.length capc) c, aloneR z.v (.slice adc c.length capc) (aloneE c a)] []) ?_ (fun z => ?_)
          · refine H.seq ?_
            refine H.region ?_
            refine H.q (yl_move rfl) rfl rfl (by decide) ?_
            refine H.q (yl_len rfl Tryz.underlying23 rfl) rfl rfl (by decide) ?_
            refine H.q (yl_gtr rfl rfl) rfl rfl (by decide) ?_
            refine H.q (yl_move rfl) rfl rfl (by decide) ?_
            refine H.qg (wn_t rfl rfl (by decide) rfl) (fun hg => yl_sub [(10, _)] ⟨rfl, trivial⟩ (yl_move rfl)) rfl (by decide) ?_
            refine H.qg (wn_t rfl rfl (by decide) rfl) (fun hg => yl_sub [(88, _)] ⟨slT rfl hg, trivial⟩ (yl_geq rfl rfl)) rfl (by decide) ?_
            refine H.q (yl_and rfl rfl) rfl rfl (by decide) ?_
            refine HN.done ?_
            refine HN.keep [(1, _), (6, _), (8, _), (10, _), (90, _)] ⟨rfl, rfl, rfl, rfl, rfl, trivial⟩ ?_
            refine HN.then ?_
            refine H.cond _ rfl (fun t4 => ?_) (fun t4 => ?_)
            · have t6 := t4
              simp only [Bool.and_eq_true, decide_eq_true_eq] at t6
              refine H.keep [(1, _), (6, _), (8, _), (10, _)] ⟨rfl, rfl, rfl, rfl, trivial⟩ ?_
              refine H.seq ?_
              refine H.region ?_
              refine H.q (yl_move rfl) rfl rfl (by decide) ?_
              refine H.q (yl_leq rfl rfl) rfl rfl (by decide) ?_
              refine HN.done ?_
              refine HN.keep [(1, _), (6, _), (8, _), (10, _), (92, _)] ⟨rfl, rfl, rfl, rfl, rfl, trivial⟩ ?_
              refine HN.then ?_
              refine H.cond _ rfl (fun t5 => ?_) (fun t5 => ?_)
              · simp only [decide_eq_true_eq] at t5
                refine H.keep [(1, _), (6, _), (8, _), (10, _)] ⟨rfl, rfl, rfl, rfl, trivial⟩ ?_
                refine H.region ?_
                refine H.q (yl_move rfl) rfl rfl (by decide) ?_
                refine H.q (yl_move rfl) rfl rfl (by decide) ?_
                refine H.q (yl_move rfl) rfl rfl (by decide) ?_
                refine H.q (yl_move rfl) rfl rfl (by decide) ?_
                refine H.q (yl_call (xs := [.tmp 95, .tmp 96]) Tryz.call81 (stab_hp _ _ _ _) rfl (fun w hw => Modulo_any _ _ w (by omega) (by omega))) rfl rfl (by decide) ?_
                refine H.q (yl_move rfl) rfl rfl (by decide) ?_
                refine H.q (yl_build (bd25_0134 _ _ _ _) rfl) rfl rfl (by decide) ?_
                refine H.buildSlice (bs28 _ _ _ _ _ _ _ _) rfl (by decide) (fun b100 hb100 => ?_)
                refine H.append 1 [.int .u8 6, .int .i64 (a : Int), .int .i64 0, .int .i64 (modI (loE c) (stepE c (c.length - 1))), .int .i64 (stepE c (c.length - 1)), .slice none 0 0] el28 rfl rfl rfl rfl (fun w hw => newsN (hw.blk 0 rfl)) (by simp [Value.oneCell']) (by have := a3E_len c a; simp only [aloneR]; omega) (by decide) (by decide) (fun v101 => ?_)
                refine H.q (yl_assign rfl) rfl rfl (by decide) ?_
                refine HN.done ?_
                refine HN.keep [(8, _)] ⟨rfl, trivial⟩ ?_
                refine HN.then ?_
                refine H.at' ⟨0, v101⟩ ⟨rfl, trivial⟩ (fun w hw => ?_)
                have e1 : a3E c a ++ [⟨6, (a : Int), 0, modI (loE c) (stepE c (c.length - 1)), stepE c (c.length - 1), []⟩] = aloneE c a := alone_end t0 (by rw [if_pos ⟨t4, t5⟩])
                have e3 : aloneR v101 (.slice adc c.length capc) (aloneE c a) = ⟨v101, (a3E c a).length + 1, 25, 6, clS (.slice adc c.length capc) (a3E c a) ++ [.int .u8 6, .int .i64 (a : Int), .int .i64 0, .int .i64 (modI (loE c) (stepE c (c.length - 1))), .int .i64 (stepE c (c.length - 1)), .slice none 0 0]⟩ := by
                  unfold aloneR
                  rw [← e1, clS_append, clS_one (by simp)]
                  simp
                simp only [e3]
                exact hw.drop
              · simp only [decide_eq_false_iff_not] at t5
                refine H.keep [(8, _)] ⟨rfl, trivial⟩ ?_
                refine HN.skip ?_
                refine HN.then ?_
                refine H.at' ⟨0, z.v⟩ ⟨rfl, trivial⟩ (fun w hw => ?_)
                have e1 : a3E c a = aloneE c a := alone_end t0 (by rw [if_neg (fun h => t5 h.2), List.append_nil])
                rw [← e1]
                exact hw
            · refine H.keep [(8, _)] ⟨rfl, trivial⟩ ?_
              refine HN.skip ?_
              refine HN.then ?_
              refine H.at' ⟨0, z.v⟩ ⟨rfl, trivial⟩ (fun w hw => ?_)
              have e1 : a3E c a = aloneE c a := alone_end t0 (by rw [if_neg (fun h => by rw [h.1] at t4; cases t4), List.append_nil])
              rw [← e1]
              exact hw
          · refine H.seq ?_
            refine H.region ?_
            refine H.q (yl_move rfl) rfl rfl (by decide) ?_
            refine H.q (yl_assign rfl) rfl rfl (by decide) ?_
            refine HN.done ?_
            refine HN.keep [(4, _)] ⟨rfl, trivial⟩ ?_
            refine HN.then ?_
            refine HR.ret ?_
            refine HR.ret1 _ Tryz.results59 rfl (fun w hw => ?_)
            obtain ⟨ls, h1, h2⟩ := alone_conv (v := z.v) (sv := .slice adc c.length capc) (sl := c) (c := c) (a := a) hw (fun _ _ => rfl)
            exact ⟨_, ls, rfl, h1, h2⟩

end Go.Proofs.YtgbgddmbooaddaaGreatDoor

namespace Go.Proofs.YtgbgddmbooaddaaGreatDoor
open Go.RowKit


theorem all_line {rows : List (List Int)} {a b : Nat} {K M : Int} : rows.all (holdsR ⟨11, a, b, K, M, []⟩) = true ↔ ∀ r ∈ ptsL rows a b, r.2 = K * r.1 + M := by
  rw [List.all_eq_true]
  constructor
  · intro h r hr
    obtain ⟨l, hl, rfl⟩ := List.mem_map.1 hr
    have := h l hl
    simpa [holdsR, holdsB] using this
  · intro h l hl
    have := h _ (List.mem_map.2 ⟨l, hl, rfl⟩)
    simpa [holdsR, holdsB] using this
theorem linE_flat {P : List (Int × Int)} {a b x0 : Int} (h : ∀ K M, OnLine P K M → ∀ p ∈ P, p.1 = x0) : linE P a b = none := by
  cases hx : linE P a b with
  | none => rfl
  | some x =>
    obtain ⟨p, hp, q, hq, hpq⟩ := linE_two hx
    obtain ⟨K, M, rfl, hK, hM, hall⟩ := linE_some hx
    have h1 := h K M ⟨hK, hM, hall⟩
    exact absurd ((h1 p hp).trans (h1 q hq).symm) hpq
theorem mod_line {K d e : Int} (hd : d ≠ 0) (he : e = K * d) : e.tmod d = 0 ∧ e.tdiv d = K := by
  subst he
  exact ⟨Int.mul_tmod_left _ _, Int.mul_tdiv_cancel _ hd⟩

set_option maxRecDepth 100000 in
theorem refLinear_any (vars : Nat) (rv : Value) (rows : List (Value × List Int)) (w0 : World) (ht : RTbl w0 vars rv rows) (h0 : 0 < rows.length) (hv1 : 1 ≤ vars) (hv8 : vars ≤ 8) (a b : Nat) (ha : a < vars) (hb : b < vars) (hab : a ≠ b) : Calls Tryz.prog 93 #[rv, .int .i64 (a : Int), .int .i64 (b : Int)] w0 fun e w' => e = .returned (linV (linE (ptsL (rowsE rows) a b) a b)) ∧ Ext w0 w' := by
  obtain ⟨adr, capr, br, orr, rfl, hcapr, hsr⟩ := rows_open ht.isr
  have hmax := ht.max
  obtain ⟨ad0, cap0, b0, o0, h40, hcap0, hs0⟩ := ints_open (hsr 0 h0).2.2
  have hla0 : a < rows[0].2.length := by rw [ht.len _ (List.getElem_mem h0)]; exact ha
  have hlb0 : b < rows[0].2.length := by rw [ht.len _ (List.getElem_mem h0)]; exact hb
  obtain ⟨x0, hx0⟩ : ∃ x, x = rows[0].2.getD a 0 := ⟨_, rfl⟩
  obtain ⟨y0, hy0⟩ : ∃ x, x = rows[0].2.getD b 0 := ⟨_, rfl⟩
  have hP0 : (x0, y0) ∈ (ptsL (rowsE rows) a b) := by rw [hx0, hy0]; exact List.mem_map.2 ⟨rows[0].2, List.mem_map.2 ⟨_, List.getElem_mem h0, rfl⟩, rfl⟩
  have sx0 : smallB x0 = true := by rw [hx0]; exact ht.small _ (List.getElem_mem h0) _ (getD_mem hla0)
  have bx0 := small_bounds sx0
  have by0 := small_bounds (show smallB y0 = true by rw [hy0]; exact ht.small _ (List.getElem_mem h0) _ (getD_mem hlb0))
  refine enterA 84 Tryz.func93 rfl Tryz.ntmps93 rfl (Hp w0 [] [] []) (Hp.init _) ?_
  refine H.seq ?_
  refine H.region ?_
  refine H.allocA Tryz.zeroValue25 (by decide) (fun b6 hb6 => ?_)
  refine H.q (yl_assign rfl) rfl rfl (by decide) ?_
  refine HN.done ?_
  refine HN.keep [(0, _), (1, _), (2, _), (6, _)] ⟨rfl, rfl, rfl, rfl, trivial⟩ ?_
  refine HN.then ?_
  refine H.seq ?_
  refine H.regionQ Tryz.mixed (by kernel_rfl) (stab_hp _ _ _ _) ?_
  refine G.q (yl_move rfl) rfl rfl (by decide) ?_
  refine G.q (yl_ix 0 Tryz.underlying37 Tryz.sizeOf23 (hsr 0 h0).1 rfl rfl rfl h0) rfl rfl (by decide) ?_
  refine G.q (yl_load Tryz.isAgg23 rfl (fun w hw => (cell_ext hw.ext (hsr 0 h0).2.1).trans (by rw [h40]))) rfl rfl (by decide) ?_
  refine G.q (yl_move rfl) rfl rfl (by decide) ?_
  refine G.q (yl_ix a Tryz.underlying23 Tryz.sizeOf2 (hs0 a hla0).1 rfl rfl rfl hla0) rfl rfl (by decide) ?_
  refine G.q (yl_load (v := .int .i64 x0) Tryz.isAgg2 rfl (fun w hw => (cell_ext hw.ext (hs0 a hla0).2).trans (by rw [hx0]))) rfl rfl (by decide) ?_
  refine G.q (yl_move rfl) rfl rfl (by decide) ?_
  refine G.q (yl_ix 0 Tryz.underlying37 Tryz.sizeOf23 (hsr 0 h0).1 rfl rfl rfl h0) rfl rfl (by decide) ?_
  refine G.q (yl_load Tryz.isAgg23 rfl (fun w hw => (cell_ext hw.ext (hsr 0 h0).2.1).trans (by rw [h40]))) rfl rfl (by decide) ?_
  refine G.q (yl_move rfl) rfl rfl (by decide) ?_
  refine G.q (yl_ix b Tryz.underlying23 Tryz.sizeOf2 (hs0 b hlb0).1 rfl rfl rfl hlb0) rfl rfl (by decide) ?_
  refine G.q (yl_load (v := .int .i64 y0) Tryz.isAgg2 rfl (fun w hw => (cell_ext hw.ext (hs0 b hlb0).2).trans (by rw [hy0]))) rfl rfl (by decide) ?_
  refine G.q (yl_assign rfl) rfl rfl (by decide) ?_
  refine G.q (yl_assign rfl) rfl rfl (by decide) ?_
  refine HN.doneG ?_
  refine HN.keep [(0, _), (1, _), (2, _), (6, _), (8, _), (9, _)] ⟨rfl, rfl, rfl, rfl, rfl, rfl, trivial⟩ ?_
  refine HN.then ?_
  refine H.seq ?_
  refine H.seq ?_
  refine H.region ?_
  refine H.q (yl_assign rfl) rfl rfl (by decide) ?_
  refine HN.done ?_
  refine HN.keep [(0, _), (1, _), (2, _), (6, _), (8, _), (9, _), (10, _)] ⟨rfl, rfl, rfl, rfl, rfl, rfl, rfl, trivial⟩ ?_
  refine HN.then ?_
  refine H.block ?_
  refine H.loop (fun k : Nat => [(0, .slice adr rows.length capr), (1, .int .i64 (a : Int)), (2, .int .i64 (b : Int)), (6, .pointer (some ⟨b6, 0, none⟩)), (8, .int .i64 x0), (9, .int .i64 y0), (10, .int .i64 (k : Int))]) (fun k => k ≤ rows.length ∧ ∀ K M, OnLine (ptsL (rowsE rows) a b) K M → ∀ p ∈ rows.take k, p.2.getD a 0 = x0) (fun _ => Hp w0 [(b6, ex (.cells #[.int .u8 0, .int .i64 0, .int .i64 0, .int .i64 0, .int .i64 0, .slice none 0 0] 25))] [] []) (fun k => rows.length - k) 1 ⟨h0, fun K M hL p hp => by rw [hx0]; obtain ⟨q, l, hl⟩ := List.exists_cons_of_length_pos h0; subst hl; simp at hp; subst hp; rfl⟩ ⟨rfl, rfl, rfl, rfl, rfl, rfl, rfl, trivial⟩ (fun w hw => hw) (fun k hI => ?_)
  obtain ⟨hk, hI⟩ := hI
  refine H.seq ?_
  refine H.seq ?_
  refine H.region ?_
  refine H.q (yl_move rfl) rfl rfl (by decide) ?_
  refine H.q (yl_move rfl) rfl rfl (by decide) ?_
  refine H.q (yl_len rfl Tryz.underlying37 rfl) rfl rfl (by decide) ?_
  refine H.q (yl_lss rfl rfl) rfl rfl (by decide) ?_
  refine HN.done ?_
  refine HN.keep [(0, _), (1, _), (2, _), (6, _), (8, _), (9, _), (10, _), (30, _)] ⟨rfl, rfl, rfl, rfl, rfl, rfl, rfl, rfl, trivial⟩ ?_
  refine HN.then ?_
  refine H.cond _ rfl (fun t0 => ?_) (fun t0 => ?_)
  · simp only [decide_eq_true_eq] at t0
    have hlt : k < rows.length := by omega
    obtain ⟨adk, capk, bk, ok, h4k, hcapk, hsk⟩ := ints_open (hsr k hlt).2.2
    have hlak : a < rows[k].2.length := by rw [ht.len _ (List.getElem_mem hlt)]; exact ha
    have hlbk : b < rows[k].2.length := by rw [ht.len _ (List.getElem_mem hlt)]; exact hb
    obtain ⟨xk, hxk⟩ : ∃ x, x = rows[k].2.getD a 0 := ⟨_, rfl⟩
    obtain ⟨yk, hyk⟩ : ∃ x, x = rows[k].2.getD b 0 := ⟨_, rfl⟩
    have hPk : (xk, yk) ∈ (ptsL (rowsE rows) a b) := by rw [hxk, hyk]; exact List.mem_map.2 ⟨rows[k].2, List.mem_map.2 ⟨_, List.getElem_mem hlt, rfl⟩, rfl⟩
    have bxk := small_bounds (show smallB xk = true by rw [hxk]; exact ht.small _ (List.getElem_mem hlt) _ (getD_mem hlak))
    have byk := small_bounds (show smallB yk = true by rw [hyk]; exact ht.small _ (List.getElem_mem hlt) _ (getD_mem hlbk))
    have hline : ∀ K M, OnLine (ptsL (rowsE rows) a b) K M → yk - y0 = K * (xk - x0) ∧ y0 - K * x0 = M := fun K M hL => by
      have h1 := hL.2.2 _ hPk
      have h2 := hL.2.2 _ hP0
      simp only at h1 h2
      rw [h1, h2, Int.mul_sub]
      omega
    have hd2 : -4294967294 ≤ ((yk - y0).tdiv (xk - x0)) ∧ ((yk - y0).tdiv (xk - x0)) ≤ 4294967294 := tdiv_bounds (by omega) (by omega)
    refine H.keep [(0, _), (1, _), (2, _), (6, _), (8, _), (9, _), (10, _)] ⟨rfl, rfl, rfl, rfl, rfl, rfl, rfl, trivial⟩ ?_
    refine HN.skip ?_
    refine HN.then ?_
    refine H.seqCut (fun _ : Unit => [(0, .slice adr rows.length capr), (1, .int .i64 (a : Int)), (2, .int .i64 (b : Int)), (6, .pointer (some ⟨b6, 0, none⟩)), (8, .int .i64 x0), (9, .int .i64 y0), (10, .int .i64 (k : Int))]) (fun _ w => Hp w0 [(b6, ex (.cells #[.int .u8 0, .int .i64 0, .int .i64 0, .int .i64 0, .int .i64 0, .slice none 0 0] 25))] [] [] w ∧ (∀ K M, OnLine (ptsL (rowsE rows) a b) K M → xk = x0)) ?_ (fun _ => ?_)
    · refine H.block ?_
      refine H.seq ?_
      refine H.regionQ Tryz.mixed (by kernel_rfl) (stab_hp _ _ _ _) ?_
      refine G.q (yl_move rfl) rfl rfl (by decide) ?_
      refine G.q (yl_move rfl) rfl rfl (by decide) ?_
      refine G.q (yl_ix k Tryz.underlying37 Tryz.sizeOf23 (hsr k hlt).1 rfl rfl rfl hlt) rfl rfl (by decide) ?_
      refine G.q (yl_load Tryz.isAgg23 rfl (fun w hw => (cell_ext hw.ext (hsr k hlt).2.1).trans (by rw [h4k]))) rfl rfl (by decide) ?_
      refine G.q (yl_move rfl) rfl rfl (by decide) ?_
      refine G.q (yl_ix a Tryz.underlying23 Tryz.sizeOf2 (hsk a hlak).1 rfl rfl rfl hlak) rfl rfl (by decide) ?_
      refine G.q (yl_load (v := .int .i64 xk) Tryz.isAgg2 rfl (fun w hw => (cell_ext hw.ext (hsk a hlak).2).trans (by rw [hxk]))) rfl rfl (by decide) ?_
      refine G.q (yl_move rfl) rfl rfl (by decide) ?_
      refine G.q (yl_sub' rfl rfl (xk - x0) rfl (by omega)) rfl rfl (by decide) ?_
      refine G.q (yl_move rfl) rfl rfl (by decide) ?_
      refine G.q (yl_move rfl) rfl rfl (by decide) ?_
      refine G.q (yl_ix k Tryz.underlying37 Tryz.sizeOf23 (hsr k hlt).1 rfl rfl rfl hlt) rfl rfl (by decide) ?_
      refine G.q (yl_load Tryz.isAgg23 rfl (fun w hw => (cell_ext hw.ext (hsr k hlt).2.1).trans (by rw [h4k]))) rfl rfl (by decide) ?_
      refine G.q (yl_move rfl) rfl rfl (by decide) ?_
      refine G.q (yl_ix b Tryz.underlying23 Tryz.sizeOf2 (hsk b hlbk).1 rfl rfl rfl hlbk) rfl rfl (by decide) ?_
      refine G.q (yl_load (v := .int .i64 yk) Tryz.isAgg2 rfl (fun w hw => (cell_ext hw.ext (hsk b hlbk).2).trans (by rw [hyk]))) rfl rfl (by decide) ?_
      refine G.q (yl_move rfl) rfl rfl (by decide) ?_
      refine G.q (yl_sub' rfl rfl (yk - y0) rfl (by omega)) rfl rfl (by decide) ?_
      refine G.q (yl_assign rfl) rfl rfl (by decide) ?_
      refine G.q (yl_assign rfl) rfl rfl (by decide) ?_
      refine HN.doneG ?_
      refine HN.keep [(0, _), (1, _), (2, _), (6, _), (8, _), (9, _), (10, _), (11, _), (12, _)] ⟨rfl, rfl, rfl, rfl, rfl, rfl, rfl, rfl, rfl, trivial⟩ ?_
      refine HN.then ?_
      refine H.seq ?_
      refine H.seq ?_
      refine H.region ?_
      refine H.q (yl_move rfl) rfl rfl (by decide) ?_
      refine H.q (yl_eql rfl rfl) rfl rfl (by decide) ?_
      refine H.q (yl_move rfl) rfl rfl (by decide) ?_
      refine H.qg (wn_f rfl rfl (by decide) rfl) (fun hg => yl_sub [(12, _)] ⟨rfl, trivial⟩ (yl_move rfl)) rfl (by decide) ?_
      refine H.qg (wn_f rfl rfl (by decide) rfl) (fun hg => yl_sub [(11, _)] ⟨rfl, trivial⟩ (yl_move rfl)) rfl (by decide) ?_
      refine H.qg (wn_f rfl rfl (by decide) rfl) (fun hg => yl_sub [(54, _), (55, _)] ⟨slT rfl hg, slT rfl hg, trivial⟩ (yl_rem rfl rfl (by simpa using hg))) rfl (by decide) ?_
      refine H.qg (wn_f rfl rfl (by decide) rfl) (fun hg => yl_sub [(56, _)] ⟨slT rfl hg, trivial⟩ (yl_neq rfl rfl)) rfl (by decide) ?_
      refine H.q (yl_or rfl rfl) rfl rfl (by decide) ?_
      refine HN.done ?_
      refine HN.keep [(0, _), (1, _), (2, _), (6, _), (8, _), (9, _), (10, _), (11, _), (12, _), (58, _)] ⟨rfl, rfl, rfl, rfl, rfl, rfl, rfl, rfl, rfl, rfl, trivial⟩ ?_
      refine HN.then ?_
      refine H.cond _ rfl (fun t1 => ?_) (fun t1 => ?_)
      · refine H.keep [(0, _), (1, _), (2, _), (6, _), (8, _), (9, _), (10, _)] ⟨rfl, rfl, rfl, rfl, rfl, rfl, rfl, trivial⟩ ?_
        refine HX.exit ?_
        refine HX.then ?_
        refine HX.hit ?_
        refine HN.then ?_
        refine H.at' () ⟨rfl, rfl, rfl, rfl, rfl, rfl, rfl, trivial⟩ (fun w hw => ⟨hw, fun K M hL => ?_⟩)
        obtain ⟨e1, _⟩ := hline K M hL
        by_cases hd : xk - x0 = 0
        · omega
        · have e2 := (mod_line hd e1).1
          simp [hd, e2] at t1
      · have hne : xk - x0 ≠ 0 := by
          simp only [Bool.or_eq_false_iff, decide_eq_false_iff_not] at t1
          exact t1.1
        refine H.keep [(0, _), (1, _), (2, _), (6, _), (8, _), (9, _), (10, _), (11, _), (12, _)] ⟨rfl, rfl, rfl, rfl, rfl, rfl, rfl, rfl, rfl, trivial⟩ ?_
        refine HN.skip ?_
        refine HN.then ?_
        refine H.seq ?_
        refine H.region ?_
        refine H.q (yl_move rfl) rfl rfl (by decide) ?_
        refine H.q (yl_move rfl) rfl rfl (by decide) ?_
        refine H.q (yl_quo rfl rfl hne (by omega)) rfl rfl (by decide) ?_
        refine H.q (yl_assign rfl) rfl rfl (by decide) ?_
        refine HN.done ?_
        refine HN.keep [(0, _), (1, _), (2, _), (6, _), (8, _), (9, _), (10, _), (13, _)] ⟨rfl, rfl, rfl, rfl, rfl, rfl, rfl, rfl, trivial⟩ ?_
        refine HN.then ?_
        refine H.seq ?_
        refine H.seq ?_
        refine H.region ?_
        refine H.q (yl_move rfl) rfl rfl (by decide) ?_
        refine H.q (yl_call (xs := [.tmp 62]) Tryz.call48 (stab_hp _ _ _ _) rfl (fun w hw => plain_any _ w)) rfl rfl (by decide) ?_
        refine H.q (yl_not rfl) rfl rfl (by decide) ?_
        refine HN.done ?_
        refine HN.keep [(0, _), (1, _), (2, _), (6, _), (8, _), (9, _), (10, _), (13, _), (64, _)] ⟨rfl, rfl, rfl, rfl, rfl, rfl, rfl, rfl, rfl, trivial⟩ ?_
        refine HN.then ?_
        refine H.cond _ rfl (fun t2 => ?_) (fun t2 => ?_)
        · replace t2 : smallB ((yk - y0).tdiv (xk - x0)) = false := by simpa using t2
          refine H.keep [(0, _), (1, _), (2, _), (6, _), (8, _), (9, _), (10, _)] ⟨rfl, rfl, rfl, rfl, rfl, rfl, rfl, trivial⟩ ?_
          refine HX.exit ?_
          refine HX.then ?_
          refine HX.hit ?_
          refine HN.then ?_
          refine H.at' () ⟨rfl, rfl, rfl, rfl, rfl, rfl, rfl, trivial⟩ (fun w hw => ⟨hw, fun K M hL => ?_⟩)
          obtain ⟨e1, _⟩ := hline K M hL
          have e2 := (mod_line hne e1).2
          rw [e2, hL.1] at t2
          cases t2
        · replace t2 : smallB ((yk - y0).tdiv (xk - x0)) = true := by simpa using t2
          have hm := mul_small t2 sx0
          refine H.keep [(0, _), (1, _), (2, _), (6, _), (8, _), (9, _), (10, _), (13, _)] ⟨rfl, rfl, rfl, rfl, rfl, rfl, rfl, rfl, trivial⟩ ?_
          refine HN.skip ?_
          refine HN.then ?_
          refine H.seq ?_
          refine H.region ?_
          refine H.q (yl_move rfl) rfl rfl (by decide) ?_
          refine H.q (yl_move rfl) rfl rfl (by decide) ?_
          refine H.q (yl_move rfl) rfl rfl (by decide) ?_
          refine H.q (yl_move rfl) rfl rfl (by decide) ?_
          refine H.q (yl_move rfl) rfl rfl (by decide) ?_
          refine H.q (yl_move rfl) rfl rfl (by decide) ?_
          refine H.q (yl_mul rfl rfl _ rfl (by omega)) rfl rfl (by decide) ?_
          refine H.q (yl_sub' rfl rfl _ rfl (by omega)) rfl rfl (by decide) ?_
          refine H.q (yl_build (bd25_01234 _ _ _ _ _) rfl) rfl rfl (by decide) ?_
          refine H.allocA Tryz.zeroValue25 (by decide) (fun b14 hb14 => ?_)
          refine H.storeA 0 rfl rfl rfl Tryz.sizeOf25 rfl rfl ?_
          refine HN.done ?_
          refine HN.keep [(0, _), (1, _), (2, _), (6, _), (8, _), (9, _), (10, _), (14, _)] ⟨rfl, rfl, rfl, rfl, rfl, rfl, rfl, rfl, trivial⟩ ?_
          refine HN.then ?_
          refine H.seq ?_
          refine H.region ?_
          refine H.q (yl_fieldAddr _ fa25_4 rfl) rfl rfl (by decide) ?_
          refine H.q (yl_load Tryz.isAgg2 rfl (fun w hw => hw.cell 0 rfl rfl)) rfl rfl (by decide) ?_
          refine H.q (yl_call (xs := [.tmp 75]) Tryz.call48 (stab_hp _ _ _ _) rfl (fun w hw => plain_any _ w)) rfl rfl (by decide) ?_
          refine H.q (yl_move rfl) rfl rfl (by decide) ?_
          refine H.qg (wn_t rfl rfl (by decide) rfl) (fun hg => yl_sub [(14, _)] ⟨rfl, trivial⟩ (yl_loadAgg _ Tryz.isAgg25 Tryz.sizeOf25 rfl (fun w hw => cells_of_blk (hw.blk 0 rfl)) rfl)) rfl (by decide) ?_
          refine H.qg (wn_t rfl rfl (by decide) rfl) (fun hg => yl_sub [(0, _)] ⟨rfl, trivial⟩ (yl_move rfl)) rfl (by decide) ?_
          refine H.qg (wn_t rfl rfl (by decide) rfl) (fun hg => yl_sub [(78, _), (79, _)] ⟨slT rfl hg, slT rfl hg, trivial⟩ (yl_call (xs := [.tmp 78, .tmp 79]) Tryz.call92 (stab_hp _ _ _ _) rfl (fun w hw => refAll_any vars _ rows w (ht.ext hw.ext) ⟨11, (a : Int), (b : Int), ((yk - y0).tdiv (xk - x0)), (y0 - ((yk - y0).tdiv (xk - x0)) * x0), []⟩ (.slice none 0 0) (by simp) (ints_nil w) (chk_two (by omega) hv1 hv8 ha hb hab (by omega) t2 hg (fun h => absurd rfl h))))) rfl (by decide) ?_
          refine H.q (yl_and rfl rfl) rfl rfl (by decide) ?_
          refine HN.done ?_
          refine HN.keep [(0, _), (1, _), (2, _), (6, _), (8, _), (9, _), (10, _), (14, _), (81, _)] ⟨rfl, rfl, rfl, rfl, rfl, rfl, rfl, rfl, rfl, trivial⟩ ?_
          refine HN.then ?_
          refine H.cond _ rfl (fun t3 => ?_) (fun t3 => ?_)
          · have t4 := t3
            simp only [Bool.and_eq_true] at t4
            have hon : OnLine (ptsL (rowsE rows) a b) ((yk - y0).tdiv (xk - x0)) (y0 - ((yk - y0).tdiv (xk - x0)) * x0) := ⟨t2, t4.1, all_line.1 t4.2⟩
            have hlin := linE_of (a := (a : Int)) (b := (b : Int)) hon ⟨_, hPk, _, hP0, show xk ≠ x0 by omega⟩
            refine H.keep [(6, _), (14, _)] ⟨rfl, rfl, trivial⟩ ?_
            refine H.seq ?_
            refine H.region ?_
            refine H.q (yl_loadAgg _ Tryz.isAgg25 Tryz.sizeOf25 rfl (fun w hw => cells_of_blk (hw.blk 0 rfl)) rfl) rfl rfl (by decide) ?_
            refine H.storeA 1 rfl rfl rfl Tryz.sizeOf25 rfl rfl ?_
            refine H.q (yl_assign rfl) rfl rfl (by decide) ?_
            refine HN.done ?_
            refine HN.keep [(6, _), (7, _)] ⟨rfl, rfl, trivial⟩ ?_
            refine HN.then ?_
            refine HR.ret ?_
            refine HR.block ?_
            refine HR.then ?_
            refine HR.then ?_
            refine HR.block ?_
            refine HR.then ?_
            refine HR.retC2 1 _ Tryz.results93 Tryz.isAgg25 Tryz.sizeOf25 rfl rfl rfl rfl (fun w hw => ?_)
            refine ⟨?_, hw.ext⟩
            rw [hlin]
            rfl
          · refine H.keep [(0, _), (1, _), (2, _), (6, _), (8, _), (9, _), (10, _)] ⟨rfl, rfl, rfl, rfl, rfl, rfl, rfl, trivial⟩ ?_
            refine HN.skip ?_
            refine HN.block ?_
            refine HN.then ?_
            refine H.at' () ⟨rfl, rfl, rfl, rfl, rfl, rfl, rfl, trivial⟩ (fun w hw => ⟨hw.drop, fun K M hL => ?_⟩)
            obtain ⟨e1, e3⟩ := hline K M hL
            have e2 := (mod_line hne e1).2
            rw [e2, e3, hL.2.1, all_line.2 hL.2.2] at t3
            cases t3
    · refine H.pull (fun w hw => hw.2) (fun hx => ?_)
      refine H.cls (Hp w0 [(b6, ex (.cells #[.int .u8 0, .int .i64 0, .int .i64 0, .int .i64 0, .int .i64 0, .slice none 0 0] 25))] [] []) (fun w hw => hw.1) ?_
      refine H.region ?_
      refine H.q (yl_move rfl) rfl rfl (by decide) ?_
      refine H.q (yl_add rfl rfl ((k : Int) + 1) rfl (by omega)) rfl rfl (by decide) ?_
      refine H.q (yl_assign rfl) rfl rfl (by decide) ?_
      refine HN.done ?_
      refine HN.keep [(0, _), (1, _), (2, _), (6, _), (8, _), (9, _), (10, _)] ⟨rfl, rfl, rfl, rfl, rfl, rfl, rfl, trivial⟩ ?_
      refine HN.then ?_
      exact H.at (k + 1) ⟨⟨hlt, fun K M hL p hp => by
        rw [List.take_succ_eq_append_getElem hlt, List.mem_append, List.mem_singleton] at hp
        rcases hp with hp | rfl
        · exact hI K M hL p hp
        · rw [← hxk]; exact hx K M hL⟩, by omega⟩ ⟨rfl, rfl, rfl, rfl, rfl, rfl, rfl, trivial⟩ (fun w hw => hw)
  · simp only [decide_eq_false_iff_not] at t0
    have hkl : k = rows.length := by omega
    refine H.keep [(6, _)] ⟨rfl, trivial⟩ ?_
    refine HX.exit ?_
    refine HX.then ?_
    refine HX.then ?_
    refine HX.hit ?_
    refine HN.then ?_
    refine H.seq ?_
    refine H.region ?_
    refine H.q (yl_build (bd25_) rfl) rfl rfl (by decide) ?_
    refine H.storeA 0 rfl rfl rfl Tryz.sizeOf25 rfl rfl ?_
    refine H.q (yl_assign rfl) rfl rfl (by decide) ?_
    refine HN.done ?_
    refine HN.keep [(6, _), (7, _)] ⟨rfl, rfl, trivial⟩ ?_
    refine HN.then ?_
    refine HR.ret ?_
    refine HR.retC2 0 _ Tryz.results93 Tryz.isAgg25 Tryz.sizeOf25 rfl rfl rfl rfl (fun w hw => ?_)
    have e1 : rows.take k = rows := List.take_of_length_le (by omega)
    rw [e1] at hI
    have hnone : linE (ptsL (rowsE rows) a b) a b = none := linE_flat (x0 := x0) fun K M hL p hp => by
      obtain ⟨l, hl, rfl⟩ := List.mem_map.1 hp
      obtain ⟨q, hq, rfl⟩ := List.mem_map.1 hl
      exact hI K M hL q hq
    refine ⟨?_, hw.ext⟩
    rw [hnone]
    rfl

end Go.Proofs.YtgbgddmbooaddaaGreatDoor

namespace Go.Proofs.YtgbgddmbooaddaaGreatDoor
open Go.RowKit


theorem bs28_5 (k0 a0 b0 k1 a1 b1 k2 a2 b2 k3 a3 b3 k4 a4 b4 : Int) (w : World) : (Instr.buildSlice 28 5 [(0, .agg [.int .u8 k0, .int .i64 a0, .int .i64 b0, .int .i64 0, .int .i64 0, .slice none 0 0].toArray), (1, .agg [.int .u8 k1, .int .i64 a1, .int .i64 b1, .int .i64 0, .int .i64 0, .slice none 0 0].toArray), (2, .agg [.int .u8 k2, .int .i64 a2, .int .i64 b2, .int .i64 0, .int .i64 0, .slice none 0 0].toArray), (3, .agg [.int .u8 k3, .int .i64 a3, .int .i64 b3, .int .i64 0, .int .i64 0, .slice none 0 0].toArray), (4, .agg [.int .u8 k4, .int .i64 a4, .int .i64 b4, .int .i64 0, .int .i64 0, .slice none 0 0].toArray)].toArray).run Tryz.prog w = .ok (.slice (some ⟨w.heap.size, 0, none⟩) 5 5) (w.alloc (.cells [.int .u8 k0, .int .i64 a0, .int .i64 b0, .int .i64 0, .int .i64 0, .slice none 0 0, .int .u8 k1, .int .i64 a1, .int .i64 b1, .int .i64 0, .int .i64 0, .slice none 0 0, .int .u8 k2, .int .i64 a2, .int .i64 b2, .int .i64 0, .int .i64 0, .slice none 0 0, .int .u8 k3, .int .i64 a3, .int .i64 b3, .int .i64 0, .int .i64 0, .slice none 0 0, .int .u8 k4, .int .i64 a4, .int .i64 b4, .int .i64 0, .int .i64 0, .slice none 0 0].toArray 25)) := by kernel_rfl
theorem bd143 (f0 f1 f2 f3 f4 : Bool) (w : World) : (Instr.build 143 [(0, .bool f0), (1, .bool f1), (2, .bool f2), (3, .bool f3), (4, .bool f4)].toArray).run Tryz.prog w = .ok (.agg [.bool f0, .bool f1, .bool f2, .bool f3, .bool f4].toArray) w := by kernel_rfl


def ordL (a b : Nat) : List Inv := [⟨9, a, b, 0, 0, []⟩, ⟨9, b, a, 0, 0, []⟩, ⟨10, a, b, 0, 0, []⟩, ⟨10, b, a, 0, 0, []⟩, ⟨8, a, b, 0, 0, []⟩]
abbrev ordC (a b : Nat) : List (Value × Inv) := (ordL a b).map fun x => (.slice none 0 0, x)
def ordFl (ca cb : List Int) : List Bool := [decide (hiE ca < loE cb), decide (hiE cb < loE ca), decide (hiE ca ≤ loE cb), decide (hiE cb ≤ loE ca), false]
theorem all_two {rows : List (List Int)} {a b : Nat} {k : Int} {f : Int × Int → Bool} (h : ∀ r : List Int, holdsR ⟨k, a, b, 0, 0, []⟩ r = f (r.getD a 0, r.getD b 0)) : rows.all (holdsR ⟨k, a, b, 0, 0, []⟩) = (ptsL rows a b).all f := by
  unfold ptsL
  rw [List.all_map]
  congr 1
  exact funext h
theorem all_twoS {rows : List (List Int)} {a b : Nat} {k : Int} {f : Int × Int → Bool} (h : ∀ r : List Int, holdsR ⟨k, b, a, 0, 0, []⟩ r = f (r.getD a 0, r.getD b 0)) : rows.all (holdsR ⟨k, b, a, 0, 0, []⟩) = (ptsL rows a b).all f := by
  unfold ptsL
  rw [List.all_map]
  congr 1
  exact funext h
theorem all_7 {rows : List (List Int)} {a b : Nat} : rows.all (holdsR ⟨7, a, b, 0, 0, []⟩) = (ptsL rows a b).all (fun p => decide (p.1 = p.2)) := all_two fun r => by simp [holdsR, holdsB]
theorem all_9 {rows : List (List Int)} {a b : Nat} : rows.all (holdsR ⟨9, a, b, 0, 0, []⟩) = (ptsL rows a b).all (fun p => decide (p.1 < p.2)) := all_two fun r => by simp [holdsR, holdsB]
theorem all_9s {rows : List (List Int)} {a b : Nat} : rows.all (holdsR ⟨9, b, a, 0, 0, []⟩) = (ptsL rows a b).all (fun p => decide (p.2 < p.1)) := all_twoS fun r => by simp [holdsR, holdsB]
theorem all_10 {rows : List (List Int)} {a b : Nat} : rows.all (holdsR ⟨10, a, b, 0, 0, []⟩) = (ptsL rows a b).all (fun p => decide (p.1 ≤ p.2)) := all_two fun r => by simp [holdsR, holdsB]
theorem all_10s {rows : List (List Int)} {a b : Nat} : rows.all (holdsR ⟨10, b, a, 0, 0, []⟩) = (ptsL rows a b).all (fun p => decide (p.2 ≤ p.1)) := all_twoS fun r => by simp [holdsR, holdsB]
theorem all_8 {rows : List (List Int)} {a b : Nat} : rows.all (holdsR ⟨8, a, b, 0, 0, []⟩) = (ptsL rows a b).all (fun p => decide (p.1 ≠ p.2)) := all_two fun r => by simp [holdsR, holdsB]
theorem ord_found {rows : List (List Int)} {ca cb : List Int} {a b i : Nat} (hi : i < (ordL a b).length) (hj : ∀ j (h : j < (ordL a b).length), j < i → rows.all (holdsR (ordL a b)[j]) = false) (h : rows.all (holdsR (ordL a b)[i]) = true) : orderE (ptsL rows a b) ca cb a b = if (ordFl ca cb).getD i false = true then [] else [(ordL a b)[i]] := by
  match i, hi with
  | 0, _ =>
    have h0 : rows.all (holdsR ⟨9, a, b, 0, 0, []⟩) = true := h
    rw [all_9] at h0
    unfold orderE
    rw [if_pos h0]
    simp [ordFl, ordL]
  | 1, _ =>
    have h0 : rows.all (holdsR ⟨9, a, b, 0, 0, []⟩) = false := hj 0 (show 0 < 5 by decide) (by decide)
    have h1 : rows.all (holdsR ⟨9, b, a, 0, 0, []⟩) = true := h
    rw [all_9] at h0
    rw [all_9s] at h1
    unfold orderE
    rw [if_neg (by rw [h0]; decide), if_pos h1]
    simp [ordFl, ordL]
  | 2, _ =>
    have h0 : rows.all (holdsR ⟨9, a, b, 0, 0, []⟩) = false := hj 0 (show 0 < 5 by decide) (by decide)
    have h1 : rows.all (holdsR ⟨9, b, a, 0, 0, []⟩) = false := hj 1 (show 1 < 5 by decide) (by decide)
    have h2 : rows.all (holdsR ⟨10, a, b, 0, 0, []⟩) = true := h
    rw [all_9] at h0
    rw [all_9s] at h1
    rw [all_10] at h2
    unfold orderE
    rw [if_neg (by rw [h0]; decide), if_neg (by rw [h1]; decide), if_pos h2]
    simp [ordFl, ordL]
  | 3, _ =>
    have h0 : rows.all (holdsR ⟨9, a, b, 0, 0, []⟩) = false := hj 0 (show 0 < 5 by decide) (by decide)
    have h1 : rows.all (holdsR ⟨9, b, a, 0, 0, []⟩) = false := hj 1 (show 1 < 5 by decide) (by decide)
    have h2 : rows.all (holdsR ⟨10, a, b, 0, 0, []⟩) = false := hj 2 (show 2 < 5 by decide) (by decide)
    have h3 : rows.all (holdsR ⟨10, b, a, 0, 0, []⟩) = true := h
    rw [all_9] at h0
    rw [all_9s] at h1
    rw [all_10] at h2
    rw [all_10s] at h3
    unfold orderE
    rw [if_neg (by rw [h0]; decide), if_neg (by rw [h1]; decide), if_neg (by rw [h2]; decide), if_pos h3]
    simp [ordFl, ordL]
  | 4, _ =>
    have h0 : rows.all (holdsR ⟨9, a, b, 0, 0, []⟩) = false := hj 0 (show 0 < 5 by decide) (by decide)
    have h1 : rows.all (holdsR ⟨9, b, a, 0, 0, []⟩) = false := hj 1 (show 1 < 5 by decide) (by decide)
    have h2 : rows.all (holdsR ⟨10, a, b, 0, 0, []⟩) = false := hj 2 (show 2 < 5 by decide) (by decide)
    have h3 : rows.all (holdsR ⟨10, b, a, 0, 0, []⟩) = false := hj 3 (show 3 < 5 by decide) (by decide)
    have h4 : rows.all (holdsR ⟨8, a, b, 0, 0, []⟩) = true := h
    rw [all_9] at h0
    rw [all_9s] at h1
    rw [all_10] at h2
    rw [all_10s] at h3
    rw [all_8] at h4
    unfold orderE
    rw [if_neg (by rw [h0]; decide), if_neg (by rw [h1]; decide), if_neg (by rw [h2]; decide), if_neg (by rw [h3]; decide), if_pos h4]
    simp [ordFl, ordL]
theorem ord_none {rows : List (List Int)} {ca cb : List Int} {a b : Nat} (hj : ∀ j (h : j < (ordL a b).length), j < 5 → rows.all (holdsR (ordL a b)[j]) = false) : orderE (ptsL rows a b) ca cb a b = [] := by
  have h0 : rows.all (holdsR ⟨9, a, b, 0, 0, []⟩) = false := hj 0 (show 0 < 5 by decide) (by decide)
  have h1 : rows.all (holdsR ⟨9, b, a, 0, 0, []⟩) = false := hj 1 (show 1 < 5 by decide) (by decide)
  have h2 : rows.all (holdsR ⟨10, a, b, 0, 0, []⟩) = false := hj 2 (show 2 < 5 by decide) (by decide)
  have h3 : rows.all (holdsR ⟨10, b, a, 0, 0, []⟩) = false := hj 3 (show 3 < 5 by decide) (by decide)
  have h4 : rows.all (holdsR ⟨8, a, b, 0, 0, []⟩) = false := hj 4 (show 4 < 5 by decide) (by decide)
  rw [all_9] at h0
  rw [all_9s] at h1
  rw [all_10] at h2
  rw [all_10s] at h3
  rw [all_8] at h4
  unfold orderE
  rw [if_neg (by rw [h0]; decide), if_neg (by rw [h1]; decide), if_neg (by rw [h2]; decide), if_neg (by rw [h3]; decide), if_neg (by rw [h4]; decide)]
theorem ord_ok {a b vars : Nat} (hab : a < b) (hb : b < vars) (hv8 : vars ≤ 8) : ∀ x ∈ ordL a b, chk x vars = 0 ∧ x.set = [] ∧ x.kind ≠ 2 := by
  intro x hx
  simp only [ordL, List.mem_cons, List.not_mem_nil, or_false] at hx
  rcases hx with rfl | rfl | rfl | rfl | rfl <;> refine ⟨chk_two (by omega) (by omega) hv8 (by omega) (by omega) (by omega) (by omega) rfl rfl (fun _ => ⟨rfl, rfl⟩), rfl, by simp⟩
theorem ordRw_at {w : World} {b x y n cap : Nat} (h : Rw.ok w (claimsRw (.slice (some ⟨b, 0, none⟩) n cap) (ordC x y))) : ∀ i (hi : i < (ordL x y).length) j u, (cellsI (.slice none 0 0, (ordL x y)[i]))[j]? = some u → w.cell? ((⟨b, 0 + i * 6, none⟩ : Addr).add j) = some u := fun i hi j u hu => by
  obtain ⟨ad, cap', b', h1, _, h3, h4⟩ := claimsRw_open h
  simp only [Value.slice.injEq] at h1
  have hi2 : i < (ordC x y).length := by simpa [ordC] using hi
  have h5 := h3 i hi2
  rw [← h1.1] at h5
  simp only [Option.some.injEq, Addr.mk.injEq] at h5
  rw [h5.1]
  refine h4 w h i hi2 j u ?_
  have e1 : (ordC x y)[i] = (.slice none 0 0, (ordL x y)[i]) := List.getElem_map (fun x : Inv => ((.slice none 0 0 : Value), x))
  rw [e1]
  exact hu
theorem ordFl_at {ca cb : List Int} {i : Nat} (hi : i < 5) : (#[Value.bool (decide (hiE ca < loE cb)), .bool (decide (hiE cb < loE ca)), .bool (decide (hiE ca ≤ loE cb)), .bool (decide (hiE cb ≤ loE ca)), .bool false] : Array Value)[0 + i]? = some (.bool ((ordFl ca cb).getD i false)) := by
  match i, hi with
  | 0, _ => rfl
  | 1, _ => rfl
  | 2, _ => rfl
  | 3, _ => rfl
  | 4, _ => rfl
theorem Hp.only {w0 : World} {L : List BP} {r : Rw} {R : List Rw} {w : World} (h : Hp w0 L (r :: R) [] w) : Hp w0 [] [r] [] w := by
  have h1 : Hp w0 (L ++ []) (r :: R) [] w := by rw [List.append_nil]; exact h
  have h2 : Hp w0 [] (R ++ [r]) [] w := (h1.dropLs L).permR (by rw [← List.singleton_append]; exact List.perm_append_comm)
  exact h2.dropRs R
/-- The claim of the second kind: the one way, else the other. -/
def linB (rows : List (List Int)) (a b : Nat) : Option Inv := if (linE (ptsL rows a b) a b).isSome = true then linE (ptsL rows a b) a b else linE (ptsL rows b a) b a
theorem swap_pts (rows : List (List Int)) (a b : Nat) : swapL (ptsL rows a b) = ptsL rows b a := by simp [swapL, ptsL]
theorem couple_lin {rows : List (List Int)} {ca cb : List Int} {a b : Nat} (h : (ptsL rows a b).all (fun p => decide (p.1 = p.2)) = false) : coupleE rows ca cb a b = orderE (ptsL rows a b) ca cb a b ++ (if ((setD (ptsL rows a b)).length : Int) < 3 then [] else (linB rows a b).toList) := by
  have e1 : linE (setD (ptsL rows a b)) a b = linE (ptsL rows a b) a b := linE_same (fun r => mem_setD) _ _
  have e2 : linE (swapL (setD (ptsL rows a b))) b a = linE (ptsL rows b a) b a := by
    have h := linE_same (map_same (fun p : Int × Int => (p.2, p.1)) (fun r => mem_setD (l := ptsL rows a b) (x := r))) (b : Int) (a : Int)
    rw [← swap_pts rows a b]
    exact h
  rw [couple_eq h, e1, e2]
  congr 1
  split
  · rfl
  · unfold linB
    cases linE (ptsL rows a b) a b with
    | some x => rfl
    | none =>
      cases linE (ptsL rows b a) b a with
      | some x => rfl
      | none => rfl
theorem linB_kind {rows : List (List Int)} {a b : Nat} {x : Inv} (h : linB rows a b = some x) : x.kind ≠ 2 := by
  unfold linB at h
  split at h
  · have := linE_kind h; omega
  · have := linE_kind h; omega
theorem aloneR_one {v : Value} {x : Inv} (h : x.kind ≠ 2) : aloneR v (.slice none 0 0) [x] = ⟨v, 1, 25, 6, cellsI (.slice none 0 0, x)⟩ := by
  unfold aloneR
  rw [clS_one h]
  rfl
theorem dup_mem {P : List (Int × Int)} {k : Nat} {x y : Int} : (P.take k).any (fun q => decide (q.1 = x) && decide (q.2 = y)) = decide ((x, y) ∈ setD (P.take k)) := by
  rw [Bool.eq_iff_iff, List.any_eq_true, decide_eq_true_eq, mem_setD]
  constructor
  · rintro ⟨q, hq, h⟩
    simp only [Bool.and_eq_true, decide_eq_true_eq] at h
    obtain ⟨rfl, rfl⟩ := h
    exact hq
  · intro h
    exact ⟨_, h, by simp⟩
theorem insD_len {α : Type} [DecidableEq α] (l : List α) (k : α) : (insD l k).length = if k ∈ l then l.length else l.length + 1 := by
  unfold insD
  split <;> simp

set_option maxRecDepth 100000 in
theorem refPair_any (vars : Nat) (rv : Value) (rows : List (Value × List Int)) (w0 : World) (ht : RTbl w0 vars rv rows) (h0 : 0 < rows.length) (hv8 : vars ≤ 8) (a b : Nat) (hab : a < b) (hb : b < vars) : Calls Tryz.prog 61 #[rv, .int .i64 (a : Int), .int .i64 (b : Int)] w0 fun e w' => ∃ v ls, e = .returned v ∧ ls.map (·.2) = coupleE (rowsE rows) (factsE (rowsE rows) a) (factsE (rowsE rows) b) a b ∧ Hp w0 [] (claimsRw v ls :: setsR ls) [] w' := by
  obtain ⟨adr, capr, br, orr, rfl, hcapr, hsr⟩ := rows_open ht.isr
  have hmax := ht.max
  have hPl : (ptsL (rowsE rows) a b).length = rows.length := by simp [ptsL]
  have hca0 : 0 < (factsE (rowsE rows) a).length := facts_pos (by simpa using h0) a
  have hcal : (factsE (rowsE rows) a).length ≤ 1000000 := Nat.le_trans (facts_len _ _) (by simpa using ht.max)
  have hcb0 : 0 < (factsE (rowsE rows) b).length := facts_pos (by simpa using h0) b
  have hcbl : (factsE (rowsE rows) b).length ≤ 1000000 := Nat.le_trans (facts_len _ _) (by simpa using ht.max)
  generalize hca : factsE (rowsE rows) a = ca at hca0 hcal ⊢
  generalize hcb : factsE (rowsE rows) b = cb at hcb0 hcbl ⊢
  refine enterA 187 Tryz.func61 rfl Tryz.ntmps61 rfl (Hp w0 [] [] []) (Hp.init _) ?_
  refine H.seq ?_
  refine H.region ?_
  refine H.q (yl_assign rfl) rfl rfl (by decide) ?_
  refine HN.done ?_
  refine HN.keep [(0, _), (1, _), (2, _)] ⟨rfl, rfl, rfl, trivial⟩ ?_
  refine HN.then ?_
  refine H.seq ?_
  refine H.region ?_
  refine H.q (yl_move rfl) rfl rfl (by decide) ?_
  refine H.q (yl_move rfl) rfl rfl (by decide) ?_
  refine H.q (yl_build (bd25_012 _ _ _) rfl) rfl rfl (by decide) ?_
  refine H.allocA Tryz.zeroValue25 (by decide) (fun b7 hb7 => ?_)
  refine H.storeA 0 rfl rfl rfl Tryz.sizeOf25 rfl rfl ?_
  refine HN.done ?_
  refine HN.keep [(0, _), (1, _), (2, _), (7, _)] ⟨rfl, rfl, rfl, rfl, trivial⟩ ?_
  refine HN.then ?_
  refine H.seq ?_
  refine H.seq ?_
  refine H.region ?_
  refine H.q (yl_loadAgg _ Tryz.isAgg25 Tryz.sizeOf25 rfl (fun w hw => cells_of_blk (hw.blk 0 rfl)) rfl) rfl rfl (by decide) ?_
  refine H.q (yl_move rfl) rfl rfl (by decide) ?_
  refine H.q (yl_call (xs := [.tmp 23, .tmp 24]) Tryz.call92 (stab_hp _ _ _ _) rfl (fun w hw => refAll_any vars _ rows w (ht.ext hw.ext) ⟨7, (a : Int), (b : Int), 0, 0, []⟩ (.slice none 0 0) (by simp) (ints_nil w) (chk_two (by omega) (by omega) hv8 (by omega) hb (by omega) (fun _ => hab) rfl rfl (fun _ => ⟨rfl, rfl⟩)))) rfl rfl (by decide) ?_
  refine HN.done ?_
  refine HN.keep [(0, _), (1, _), (2, _), (7, _), (25, _)] ⟨rfl, rfl, rfl, rfl, rfl, trivial⟩ ?_
  refine HN.then ?_
  refine H.cond _ rfl (fun t0 => ?_) (fun t0 => ?_)
  · replace t0 : (ptsL (rowsE rows) a b).all (fun p => decide (p.1 = p.2)) = true := by rw [← all_7]; exact t0
    refine H.keep [(7, _)] ⟨rfl, trivial⟩ ?_
    refine H.seq ?_
    refine H.region ?_
    refine H.q (yl_loadAgg _ Tryz.isAgg25 Tryz.sizeOf25 rfl (fun w hw => cells_of_blk (hw.blk 0 rfl)) rfl) rfl rfl (by decide) ?_
    refine H.buildSlice (bs28 _ _ _ _ _ _ _ _) rfl (by decide) (fun b27 hb27 => ?_)
    refine H.q (yl_assign rfl) rfl rfl (by decide) ?_
    refine HN.done ?_
    refine HN.keep [(6, _)] ⟨rfl, trivial⟩ ?_
    refine HN.then ?_
    refine HR.ret ?_
    refine HR.then ?_
    refine HR.ret1 _ Tryz.results61 rfl (fun w hw => ?_)
    have e1 : coupleE (rowsE rows) ca cb a b = [⟨7, a, b, 0, 0, []⟩] := by unfold coupleE; rw [if_pos t0]
    apply coupleFin (ca := ca) (cb := cb) (a := a) (b := b) (rows := rowsE rows)
    rw [e1, aloneR_one (by simp)]
    exact hw.toRow rfl (by decide)
  · replace t0 : (ptsL (rowsE rows) a b).all (fun p => decide (p.1 = p.2)) = false := by rw [← all_7]; exact t0
    refine H.keep [(0, _), (1, _), (2, _)] ⟨rfl, rfl, rfl, trivial⟩ ?_
    refine HN.skip ?_
    refine HN.then ?_
    refine H.seq ?_
    refine H.region ?_
    refine H.q (yl_move rfl) rfl rfl (by decide) ?_
    refine H.q (yl_move rfl) rfl rfl (by decide) ?_
    refine H.call (α := Value) (xs := [.tmp 28, .tmp 29]) (fun v => v) (fun _ => True) (fun v => [rowI v ca]) (fun _ => []) Tryz.call60 rfl (by decide) (fun w hw => (refColumn_any vars _ rows w (ht.ext hw.ext) a (by omega)).mono fun e w' h => by obtain ⟨v, h1, h2⟩ := h; rw [hca] at h2; exact ⟨v, h1, trivial, h2, fun _ hh => by cases hh⟩) (fun v30 _ => ?_)
    refine H.pull (fun w hw => rowI_open (hw.row 0 rfl)) (fun ho => ?_)
    obtain ⟨ada, capa, b30, rfl, hcapa, hada, hsa⟩ := ho
    have hada0 := hada hca0
    refine H.q (yl_move rfl) rfl rfl (by decide) ?_
    refine H.q (yl_move rfl) rfl rfl (by decide) ?_
    refine H.call (α := Value) (xs := [.tmp 31, .tmp 32]) (fun v => v) (fun _ => True) (fun v => [rowI v cb]) (fun _ => []) Tryz.call60 rfl (by decide) (fun w hw => (refColumn_any vars _ rows w (ht.ext hw.ext) b (by omega)).mono fun e w' h => by obtain ⟨v, h1, h2⟩ := h; rw [hcb] at h2; exact ⟨v, h1, trivial, h2, fun _ hh => by cases hh⟩) (fun v33 _ => ?_)
    refine H.pull (fun w hw => rowI_open (hw.row 0 rfl)) (fun ho => ?_)
    obtain ⟨adb, capb, b33, rfl, hcapb, hadb, hsb⟩ := ho
    have hadb0 := hadb hcb0
    refine H.q (yl_assign rfl) rfl rfl (by decide) ?_
    refine H.q (yl_assign rfl) rfl rfl (by decide) ?_
    refine HN.done ?_
    refine HN.keep [(0, _), (1, _), (2, _), (8, _), (9, _)] ⟨rfl, rfl, rfl, rfl, rfl, trivial⟩ ?_
    refine HN.then ?_
    refine H.seq ?_
    refine H.region ?_
    refine H.q (yl_assign rfl) rfl rfl (by decide) ?_
    refine HN.done ?_
    refine HN.keep [(0, _), (1, _), (2, _), (8, _), (9, _), (10, _)] ⟨rfl, rfl, rfl, rfl, rfl, rfl, trivial⟩ ?_
    refine HN.then ?_
    refine H.seq ?_
    refine H.region ?_
    refine H.q (yl_move rfl) rfl rfl (by decide) ?_
    refine H.q (yl_move rfl) rfl rfl (by decide) ?_
    refine H.q (yl_build (bd25_012 _ _ _) rfl) rfl rfl (by decide) ?_
    refine H.q (yl_move rfl) rfl rfl (by decide) ?_
    refine H.q (yl_move rfl) rfl rfl (by decide) ?_
    refine H.q (yl_build (bd25_012 _ _ _) rfl) rfl rfl (by decide) ?_
    refine H.q (yl_move rfl) rfl rfl (by decide) ?_
    refine H.q (yl_move rfl) rfl rfl (by decide) ?_
    refine H.q (yl_build (bd25_012 _ _ _) rfl) rfl rfl (by decide) ?_
    refine H.q (yl_move rfl) rfl rfl (by decide) ?_
    refine H.q (yl_move rfl) rfl rfl (by decide) ?_
    refine H.q (yl_build (bd25_012 _ _ _) rfl) rfl rfl (by decide) ?_
    refine H.q (yl_move rfl) rfl rfl (by decide) ?_
    refine H.q (yl_move rfl) rfl rfl (by decide) ?_
    refine H.q (yl_build (bd25_012 _ _ _) rfl) rfl rfl (by decide) ?_
    refine H.buildSlice (bs28_5 _ _ _ _ _ _ _ _ _ _ _ _ _ _ _) rfl (by decide) (fun b49 hb49 => ?_)
    refine H.q (yl_assign rfl) rfl rfl (by decide) ?_
    refine HN.done ?_
    refine HN.keep [(0, _), (1, _), (2, _), (8, _), (9, _), (10, _), (11, _)] ⟨rfl, rfl, rfl, rfl, rfl, rfl, rfl, trivial⟩ ?_
    refine HN.cls (Hp w0 [(b7, ex (.cells #[.int .u8 7, .int .i64 (a : Int), .int .i64 (b : Int), .int .i64 0, .int .i64 0, .slice none 0 0] 25))] [claimsRw (.slice (some ⟨b49, 0, none⟩) 5 5) (ordC a b), rowI (.slice adb cb.length capb) cb, rowI (.slice ada ca.length capa) ca] []) (fun w hw => hw.toRow rfl (by decide)) ?_
    refine HN.then ?_
    refine H.seq ?_
    refine H.regionA (Hp w0 [] [claimsRw (.slice (some ⟨b49, 0, none⟩) 5 5) (ordC a b), rowI (.slice adb cb.length capb) cb, rowI (.slice ada ca.length capa) ca] []) Tryz.mixed (stab_hp _ _ _ _) ?_
    refine H.take (i := 0) rfl (by kernel_rfl) (by kernel_rfl) (by kernel_rfl) (fun _ _ _ h => h) (fun w hw => by first | exact hw.drop | exact hw.drop.drop) (ye_move rfl) rfl rfl (by decide) ?_
    refine H.take (i := 1) rfl (by kernel_rfl) (by kernel_rfl) (by kernel_rfl) (fun _ _ _ h => h) (fun w hw => by first | exact hw.drop | exact hw.drop.drop) (ye_move rfl) rfl rfl (by decide) ?_
    refine H.take (i := 2) rfl (by kernel_rfl) (by kernel_rfl) (by kernel_rfl) (fun _ _ _ h => h) (fun w hw => by first | exact hw.drop | exact hw.drop.drop) (ye_len rfl Tryz.underlying23 rfl) rfl rfl (by decide) ?_
    refine H.take (i := 3) rfl (by kernel_rfl) (by kernel_rfl) (by kernel_rfl) (fun _ _ _ h => h) (fun w hw => by first | exact hw.drop | exact hw.drop.drop) (ye_sub' rfl rfl ((ca.length - 1 : Nat) : Int) (by omega) (by omega)) rfl rfl (by decide) ?_
    refine H.take (i := 4) rfl (by kernel_rfl) (by kernel_rfl) (by kernel_rfl) (fun _ _ _ h => h) (fun w hw => by first | exact hw.drop | exact hw.drop.drop) (ye_ix (ca.length - 1) Tryz.underlying23 Tryz.sizeOf2 hada0 rfl rfl rfl (show ca.length - 1 < ca.length by omega)) rfl rfl (by decide) ?_
    refine H.take (i := 5) rfl (by kernel_rfl) (by kernel_rfl) (by kernel_rfl) (fun _ _ _ h => h) (fun w hw => by first | exact hw.drop | exact hw.drop.drop) (ye_load (v := .int .i64 (hiE ca)) Tryz.isAgg2 rfl (fun w hw => hsa w (hw.row 2 rfl) (ca.length - 1) (show ca.length - 1 < ca.length by omega))) rfl rfl (by decide) ?_
    refine H.take (i := 6) rfl (by kernel_rfl) (by kernel_rfl) (by kernel_rfl) (fun _ _ _ h => h) (fun w hw => by first | exact hw.drop | exact hw.drop.drop) (ye_move rfl) rfl rfl (by decide) ?_
    refine H.take (i := 7) rfl (by kernel_rfl) (by kernel_rfl) (by kernel_rfl) (fun _ _ _ h => h) (fun w hw => by first | exact hw.drop | exact hw.drop.drop) (ye_ix 0 Tryz.underlying23 Tryz.sizeOf2 hadb0 rfl rfl rfl hcb0) rfl rfl (by decide) ?_
    refine H.take (i := 8) rfl (by kernel_rfl) (by kernel_rfl) (by kernel_rfl) (fun _ _ _ h => h) (fun w hw => by first | exact hw.drop | exact hw.drop.drop) (ye_load (v := .int .i64 (loE cb)) Tryz.isAgg2 rfl (fun w hw => hsb w (hw.row 1 rfl) 0 hcb0)) rfl rfl (by decide) ?_
    refine H.take (i := 9) rfl (by kernel_rfl) (by kernel_rfl) (by kernel_rfl) (fun _ _ _ h => h) (fun w hw => by first | exact hw.drop | exact hw.drop.drop) (ye_lss rfl rfl) rfl rfl (by decide) ?_
    refine H.take (i := 10) rfl (by kernel_rfl) (by kernel_rfl) (by kernel_rfl) (fun _ _ _ h => h) (fun w hw => by first | exact hw.drop | exact hw.drop.drop) (ye_move rfl) rfl rfl (by decide) ?_
    refine H.take (i := 11) rfl (by kernel_rfl) (by kernel_rfl) (by kernel_rfl) (fun _ _ _ h => h) (fun w hw => by first | exact hw.drop | exact hw.drop.drop) (ye_move rfl) rfl rfl (by decide) ?_
    refine H.take (i := 12) rfl (by kernel_rfl) (by kernel_rfl) (by kernel_rfl) (fun _ _ _ h => h) (fun w hw => by first | exact hw.drop | exact hw.drop.drop) (ye_len rfl Tryz.underlying23 rfl) rfl rfl (by decide) ?_
    refine H.take (i := 13) rfl (by kernel_rfl) (by kernel_rfl) (by kernel_rfl) (fun _ _ _ h => h) (fun w hw => by first | exact hw.drop | exact hw.drop.drop) (ye_sub' rfl rfl ((cb.length - 1 : Nat) : Int) (by omega) (by omega)) rfl rfl (by decide) ?_
    refine H.take (i := 14) rfl (by kernel_rfl) (by kernel_rfl) (by kernel_rfl) (fun _ _ _ h => h) (fun w hw => by first | exact hw.drop | exact hw.drop.drop) (ye_ix (cb.length - 1) Tryz.underlying23 Tryz.sizeOf2 hadb0 rfl rfl rfl (show cb.length - 1 < cb.length by omega)) rfl rfl (by decide) ?_
    refine H.take (i := 15) rfl (by kernel_rfl) (by kernel_rfl) (by kernel_rfl) (fun _ _ _ h => h) (fun w hw => by first | exact hw.drop | exact hw.drop.drop) (ye_load (v := .int .i64 (hiE cb)) Tryz.isAgg2 rfl (fun w hw => hsb w (hw.row 1 rfl) (cb.length - 1) (show cb.length - 1 < cb.length by omega))) rfl rfl (by decide) ?_
    refine H.take (i := 16) rfl (by kernel_rfl) (by kernel_rfl) (by kernel_rfl) (fun _ _ _ h => h) (fun w hw => by first | exact hw.drop | exact hw.drop.drop) (ye_move rfl) rfl rfl (by decide) ?_
    refine H.take (i := 17) rfl (by kernel_rfl) (by kernel_rfl) (by kernel_rfl) (fun _ _ _ h => h) (fun w hw => by first | exact hw.drop | exact hw.drop.drop) (ye_ix 0 Tryz.underlying23 Tryz.sizeOf2 hada0 rfl rfl rfl hca0) rfl rfl (by decide) ?_
    refine H.take (i := 18) rfl (by kernel_rfl) (by kernel_rfl) (by kernel_rfl) (fun _ _ _ h => h) (fun w hw => by first | exact hw.drop | exact hw.drop.drop) (ye_load (v := .int .i64 (loE ca)) Tryz.isAgg2 rfl (fun w hw => hsa w (hw.row 2 rfl) 0 hca0)) rfl rfl (by decide) ?_
    refine H.take (i := 19) rfl (by kernel_rfl) (by kernel_rfl) (by kernel_rfl) (fun _ _ _ h => h) (fun w hw => by first | exact hw.drop | exact hw.drop.drop) (ye_lss rfl rfl) rfl rfl (by decide) ?_
    refine H.take (i := 20) rfl (by kernel_rfl) (by kernel_rfl) (by kernel_rfl) (fun _ _ _ h => h) (fun w hw => by first | exact hw.drop | exact hw.drop.drop) (ye_move rfl) rfl rfl (by decide) ?_
    refine H.take (i := 21) rfl (by kernel_rfl) (by kernel_rfl) (by kernel_rfl) (fun _ _ _ h => h) (fun w hw => by first | exact hw.drop | exact hw.drop.drop) (ye_move rfl) rfl rfl (by decide) ?_
    refine H.take (i := 22) rfl (by kernel_rfl) (by kernel_rfl) (by kernel_rfl) (fun _ _ _ h => h) (fun w hw => by first | exact hw.drop | exact hw.drop.drop) (ye_len rfl Tryz.underlying23 rfl) rfl rfl (by decide) ?_
    refine H.take (i := 23) rfl (by kernel_rfl) (by kernel_rfl) (by kernel_rfl) (fun _ _ _ h => h) (fun w hw => by first | exact hw.drop | exact hw.drop.drop) (ye_sub' rfl rfl ((ca.length - 1 : Nat) : Int) (by omega) (by omega)) rfl rfl (by decide) ?_
    refine H.take (i := 24) rfl (by kernel_rfl) (by kernel_rfl) (by kernel_rfl) (fun _ _ _ h => h) (fun w hw => by first | exact hw.drop | exact hw.drop.drop) (ye_ix (ca.length - 1) Tryz.underlying23 Tryz.sizeOf2 hada0 rfl rfl rfl (show ca.length - 1 < ca.length by omega)) rfl rfl (by decide) ?_
    refine H.take (i := 25) rfl (by kernel_rfl) (by kernel_rfl) (by kernel_rfl) (fun _ _ _ h => h) (fun w hw => by first | exact hw.drop | exact hw.drop.drop) (ye_load (v := .int .i64 (hiE ca)) Tryz.isAgg2 rfl (fun w hw => hsa w (hw.row 2 rfl) (ca.length - 1) (show ca.length - 1 < ca.length by omega))) rfl rfl (by decide) ?_
    refine H.take (i := 26) rfl (by kernel_rfl) (by kernel_rfl) (by kernel_rfl) (fun _ _ _ h => h) (fun w hw => by first | exact hw.drop | exact hw.drop.drop) (ye_move rfl) rfl rfl (by decide) ?_
    refine H.take (i := 27) rfl (by kernel_rfl) (by kernel_rfl) (by kernel_rfl) (fun _ _ _ h => h) (fun w hw => by first | exact hw.drop | exact hw.drop.drop) (ye_ix 0 Tryz.underlying23 Tryz.sizeOf2 hadb0 rfl rfl rfl hcb0) rfl rfl (by decide) ?_
    refine H.take (i := 28) rfl (by kernel_rfl) (by kernel_rfl) (by kernel_rfl) (fun _ _ _ h => h) (fun w hw => by first | exact hw.drop | exact hw.drop.drop) (ye_load (v := .int .i64 (loE cb)) Tryz.isAgg2 rfl (fun w hw => hsb w (hw.row 1 rfl) 0 hcb0)) rfl rfl (by decide) ?_
    refine H.take (i := 29) rfl (by kernel_rfl) (by kernel_rfl) (by kernel_rfl) (fun _ _ _ h => h) (fun w hw => by first | exact hw.drop | exact hw.drop.drop) (ye_leq rfl rfl) rfl rfl (by decide) ?_
    refine H.take (i := 30) rfl (by kernel_rfl) (by kernel_rfl) (by kernel_rfl) (fun _ _ _ h => h) (fun w hw => by first | exact hw.drop | exact hw.drop.drop) (ye_move rfl) rfl rfl (by decide) ?_
    refine H.take (i := 31) rfl (by kernel_rfl) (by kernel_rfl) (by kernel_rfl) (fun _ _ _ h => h) (fun w hw => by first | exact hw.drop | exact hw.drop.drop) (ye_move rfl) rfl rfl (by decide) ?_
    refine H.take (i := 32) rfl (by kernel_rfl) (by kernel_rfl) (by kernel_rfl) (fun _ _ _ h => h) (fun w hw => by first | exact hw.drop | exact hw.drop.drop) (ye_len rfl Tryz.underlying23 rfl) rfl rfl (by decide) ?_
    refine H.take (i := 33) rfl (by kernel_rfl) (by kernel_rfl) (by kernel_rfl) (fun _ _ _ h => h) (fun w hw => by first | exact hw.drop | exact hw.drop.drop) (ye_sub' rfl rfl ((cb.length - 1 : Nat) : Int) (by omega) (by omega)) rfl rfl (by decide) ?_
    refine H.take (i := 34) rfl (by kernel_rfl) (by kernel_rfl) (by kernel_rfl) (fun _ _ _ h => h) (fun w hw => by first | exact hw.drop | exact hw.drop.drop) (ye_ix (cb.length - 1) Tryz.underlying23 Tryz.sizeOf2 hadb0 rfl rfl rfl (show cb.length - 1 < cb.length by omega)) rfl rfl (by decide) ?_
    refine H.take (i := 35) rfl (by kernel_rfl) (by kernel_rfl) (by kernel_rfl) (fun _ _ _ h => h) (fun w hw => by first | exact hw.drop | exact hw.drop.drop) (ye_load (v := .int .i64 (hiE cb)) Tryz.isAgg2 rfl (fun w hw => hsb w (hw.row 1 rfl) (cb.length - 1) (show cb.length - 1 < cb.length by omega))) rfl rfl (by decide) ?_
    refine H.take (i := 36) rfl (by kernel_rfl) (by kernel_rfl) (by kernel_rfl) (fun _ _ _ h => h) (fun w hw => by first | exact hw.drop | exact hw.drop.drop) (ye_move rfl) rfl rfl (by decide) ?_
    refine H.take (i := 37) rfl (by kernel_rfl) (by kernel_rfl) (by kernel_rfl) (fun _ _ _ h => h) (fun w hw => by first | exact hw.drop | exact hw.drop.drop) (ye_ix 0 Tryz.underlying23 Tryz.sizeOf2 hada0 rfl rfl rfl hca0) rfl rfl (by decide) ?_
    refine H.take (i := 38) rfl (by kernel_rfl) (by kernel_rfl) (by kernel_rfl) (fun _ _ _ h => h) (fun w hw => by first | exact hw.drop | exact hw.drop.drop) (ye_load (v := .int .i64 (loE ca)) Tryz.isAgg2 rfl (fun w hw => hsa w (hw.row 2 rfl) 0 hca0)) rfl rfl (by decide) ?_
    refine H.take (i := 39) rfl (by kernel_rfl) (by kernel_rfl) (by kernel_rfl) (fun _ _ _ h => h) (fun w hw => by first | exact hw.drop | exact hw.drop.drop) (ye_leq rfl rfl) rfl rfl (by decide) ?_
    refine H.take (i := 40) rfl (by kernel_rfl) (by kernel_rfl) (by kernel_rfl) (fun _ _ _ h => h) (fun w hw => by first | exact hw.drop | exact hw.drop.drop) (ye_build (bd143 _ _ _ _ _) rfl) rfl rfl (by decide) ?_
    refine H.one (i := 41) rfl (by kernel_rfl) ?_
    refine H.allocA Tryz.zeroValue143 (by decide) (fun b12 hb12 => ?_)
    refine H.on (fun w hw => by first | exact hw.drop | exact hw.drop.drop) ?_
    refine H.one (i := 42) rfl (by kernel_rfl) ?_
    refine H.storeA 0 rfl rfl rfl Tryz.sizeOf143 rfl rfl ?_
    refine H.on (fun w hw => by first | exact hw.drop | exact hw.drop.drop) ?_
    refine H.over (by kernel_rfl) ?_
    refine HN.keep [(0, _), (1, _), (2, _), (10, _), (11, _), (12, _)] ⟨rfl, rfl, rfl, rfl, rfl, rfl, trivial⟩ ?_
    refine HN.cls (Hp w0 [(b12, ex (.cells #[.bool (decide (hiE ca < loE cb)), .bool (decide (hiE cb < loE ca)), .bool (decide (hiE ca ≤ loE cb)), .bool (decide (hiE cb ≤ loE ca)), .bool false] 143)), (b7, ex (.cells #[.int .u8 7, .int .i64 (a : Int), .int .i64 (b : Int), .int .i64 0, .int .i64 0, .slice none 0 0] 25))] [⟨.slice none 0 0, 0, 25, 6, []⟩, claimsRw (.slice (some ⟨b49, 0, none⟩) 5 5) (ordC a b), rowI (.slice adb cb.length capb) cb, rowI (.slice ada ca.length capa) ca] []) (fun w hw => hw.rowNil 25 6) ?_
    refine HN.then ?_
    refine H.seqCut (fun z : Value => [(0, .slice adr rows.length capr), (1, .int .i64 (a : Int)), (2, .int .i64 (b : Int)), (10, z)]) (fun z => Hp w0 [] [aloneR z (.slice none 0 0) (orderE (ptsL (rowsE rows) a b) ca cb a b)] []) ?_ (fun z => ?_)
    · refine H.seq ?_
      refine H.region ?_
      refine H.q (yl_assign rfl) rfl rfl (by decide) ?_
      refine HN.done ?_
      refine HN.keep [(0, _), (1, _), (2, _), (10, _), (11, _), (12, _), (13, _)] ⟨rfl, rfl, rfl, rfl, rfl, rfl, rfl, trivial⟩ ?_
      refine HN.then ?_
      refine H.block ?_
      refine H.loop (fun i : Nat => [(0, .slice adr rows.length capr), (1, .int .i64 (a : Int)), (2, .int .i64 (b : Int)), (10, .slice none 0 0), (11, (.slice (some ⟨b49, 0, none⟩) 5 5)), (12, .pointer (some ⟨b12, 0, none⟩)), (13, .int .i64 (i : Int))]) (fun i => i ≤ 5 ∧ ∀ j (h : j < (ordL a b).length), j < i → (rowsE rows).all (holdsR (ordL a b)[j]) = false) (fun _ => Hp w0 [(b12, ex (.cells #[.bool (decide (hiE ca < loE cb)), .bool (decide (hiE cb < loE ca)), .bool (decide (hiE ca ≤ loE cb)), .bool (decide (hiE cb ≤ loE ca)), .bool false] 143)), (b7, ex (.cells #[.int .u8 7, .int .i64 (a : Int), .int .i64 (b : Int), .int .i64 0, .int .i64 0, .slice none 0 0] 25))] [⟨.slice none 0 0, 0, 25, 6, []⟩, claimsRw (.slice (some ⟨b49, 0, none⟩) 5 5) (ordC a b), rowI (.slice adb cb.length capb) cb, rowI (.slice ada ca.length capa) ca] []) (fun i => 5 - i) 0 ⟨by decide, fun j _ hj => absurd hj (Nat.not_lt_zero _)⟩ ⟨rfl, rfl, rfl, rfl, rfl, rfl, rfl, trivial⟩ (fun w hw => hw) (fun i hI => ?_)
      obtain ⟨hi5, hI⟩ := hI
      refine H.seq ?_
      refine H.seq ?_
      refine H.region ?_
      refine H.q (yl_move rfl) rfl rfl (by decide) ?_
      refine H.q (yl_lss rfl rfl) rfl rfl (by decide) ?_
      refine HN.done ?_
      refine HN.keep [(0, _), (1, _), (2, _), (10, _), (11, _), (12, _), (13, _), (92, _)] ⟨rfl, rfl, rfl, rfl, rfl, rfl, rfl, rfl, trivial⟩ ?_
      refine HN.then ?_
      refine H.cond _ rfl (fun t1 => ?_) (fun t1 => ?_)
      · simp only [decide_eq_true_eq] at t1
        have hlt5 : i < 5 := by omega
        have hltL : i < (ordL a b).length := hlt5
        obtain ⟨hxc, hxs, hxk⟩ := ord_ok hab hb hv8 _ (List.getElem_mem hltL)
        refine H.keep [(0, _), (1, _), (2, _), (10, _), (11, _), (12, _), (13, _)] ⟨rfl, rfl, rfl, rfl, rfl, rfl, rfl, trivial⟩ ?_
        refine HN.skip ?_
        refine HN.then ?_
        refine H.seqCut (fun _ : Unit => [(0, .slice adr rows.length capr), (1, .int .i64 (a : Int)), (2, .int .i64 (b : Int)), (10, .slice none 0 0), (11, (.slice (some ⟨b49, 0, none⟩) 5 5)), (12, .pointer (some ⟨b12, 0, none⟩)), (13, .int .i64 (i : Int))]) (fun _ w => Hp w0 [(b12, ex (.cells #[.bool (decide (hiE ca < loE cb)), .bool (decide (hiE cb < loE ca)), .bool (decide (hiE ca ≤ loE cb)), .bool (decide (hiE cb ≤ loE ca)), .bool false] 143)), (b7, ex (.cells #[.int .u8 7, .int .i64 (a : Int), .int .i64 (b : Int), .int .i64 0, .int .i64 0, .slice none 0 0] 25))] [⟨.slice none 0 0, 0, 25, 6, []⟩, claimsRw (.slice (some ⟨b49, 0, none⟩) 5 5) (ordC a b), rowI (.slice adb cb.length capb) cb, rowI (.slice ada ca.length capa) ca] [] w ∧ (rowsE rows).all (holdsR (ordL a b)[i]) = false) ?_ (fun _ => ?_)
        · refine H.block ?_
          refine H.seq ?_
          refine H.region ?_
          refine H.q (yl_move rfl) rfl rfl (by decide) ?_
          refine H.q (yl_move rfl) rfl rfl (by decide) ?_
          refine H.q (yl_index' i 6 Tryz.underlying28 Tryz.sizeOf25 rfl rfl rfl rfl hlt5) rfl rfl (by decide) ?_
          refine H.q (yl_loadAgg (cellsI (.slice none 0 0, (ordL a b)[i])) Tryz.isAgg25 Tryz.sizeOf25 rfl (fun w hw => ordRw_at (hw.row 1 rfl) i hltL) rfl) rfl rfl (by decide) ?_
          refine H.q (yl_move rfl) rfl rfl (by decide) ?_
          refine H.q (yl_call (xs := [.tmp 98, .tmp 99]) Tryz.call92 (stab_hp _ _ _ _) rfl (fun w hw => refAll_any vars _ rows w (ht.ext hw.ext) (ordL a b)[i] (.slice none 0 0) (by rw [hxs]; simp) (by rw [hxs]; exact ints_nil w) hxc)) rfl rfl (by decide) ?_
          refine HN.done ?_
          refine HN.keep [(0, _), (1, _), (2, _), (10, _), (11, _), (12, _), (13, _), (100, _)] ⟨rfl, rfl, rfl, rfl, rfl, rfl, rfl, rfl, trivial⟩ ?_
          refine HN.then ?_
          refine H.cond _ rfl (fun t2 => ?_) (fun t2 => ?_)
          · refine H.keep [(0, _), (1, _), (2, _), (10, _), (11, _), (12, _), (13, _)] ⟨rfl, rfl, rfl, rfl, rfl, rfl, rfl, trivial⟩ ?_
            -- branchy seq 2, live: [0, 1, 2, 10]
            refine H.seq ?_
            refine H.seq ?_
            refine H.region ?_
            refine H.q (yl_move rfl) rfl rfl (by decide) ?_
            refine H.q (yl_aix i Tryz.underlying143 Tryz.sizeOf4 rfl rfl rfl hlt5) rfl rfl (by decide) ?_
            refine H.q (yl_load (v := .bool ((ordFl ca cb).getD i false)) Tryz.isAgg4 rfl (fun w hw => hw.cell 0 rfl (ordFl_at hlt5))) rfl rfl (by decide) ?_
            refine H.q (yl_not rfl) rfl rfl (by decide) ?_
            refine HN.done ?_
            refine HN.keep [(0, _), (1, _), (2, _), (10, _), (11, _), (13, _), (104, _)] ⟨rfl, rfl, rfl, rfl, rfl, rfl, rfl, trivial⟩ ?_
            refine HN.then ?_
            refine H.cond _ rfl (fun t3 => ?_) (fun t3 => ?_)
            · replace t3 : (ordFl ca cb).getD i false = false := by simpa using t3
              refine H.keep [(0, _), (1, _), (2, _), (10, _), (11, _), (13, _)] ⟨rfl, rfl, rfl, rfl, rfl, rfl, trivial⟩ ?_
              refine H.region ?_
              refine H.q (yl_move rfl) rfl rfl (by decide) ?_
              refine H.q (yl_move rfl) rfl rfl (by decide) ?_
              refine H.q (yl_move rfl) rfl rfl (by decide) ?_
              refine H.q (yl_index' i 6 Tryz.underlying28 Tryz.sizeOf25 rfl rfl rfl rfl hlt5) rfl rfl (by decide) ?_
              refine H.q (yl_loadAgg (cellsI (.slice none 0 0, (ordL a b)[i])) Tryz.isAgg25 Tryz.sizeOf25 rfl (fun w hw => ordRw_at (hw.row 1 rfl) i hltL) rfl) rfl rfl (by decide) ?_
              refine H.buildSlice (bs28 _ _ _ _ _ _ _ _) rfl (by decide) (fun b110 hb110 => ?_)
              refine H.append 0 (cellsI (.slice none 0 0, (ordL a b)[i])) el28 rfl rfl rfl rfl (fun w hw => newsN (hw.blk 0 rfl)) (by simp [Value.oneCell', cellsI]) (by simp only; omega) (by decide) (by decide) (fun v111 => ?_)
              refine H.q (yl_assign rfl) rfl rfl (by decide) ?_
              refine HN.done ?_
              refine HN.keep [(0, _), (1, _), (2, _), (10, _)] ⟨rfl, rfl, rfl, rfl, trivial⟩ ?_
              refine HN.then ?_
              refine HX.exit ?_
              refine HX.miss (by decide) ?_
              refine HX.then ?_
              refine HX.then ?_
              refine HX.hit ?_
              refine HN.then ?_
              refine H.at' v111 ⟨rfl, rfl, rfl, rfl, trivial⟩ (fun w hw => ?_)
              have eo : (orderE (ptsL (rowsE rows) a b) ca cb a b) = [(ordL a b)[i]] := by rw [ord_found hltL hI t2, if_neg (by rw [t3]; decide)]
              rw [eo, aloneR_one hxk]
              exact hw.only
            · replace t3 : (ordFl ca cb).getD i false = true := by simpa using t3
              refine H.keep [(0, _), (1, _), (2, _), (10, _)] ⟨rfl, rfl, rfl, rfl, trivial⟩ ?_
              refine HN.skip ?_
              refine HN.then ?_
              refine HX.exit ?_
              refine HX.miss (by decide) ?_
              refine HX.then ?_
              refine HX.then ?_
              refine HX.hit ?_
              refine HN.then ?_
              refine H.at' (.slice none 0 0) ⟨rfl, rfl, rfl, rfl, trivial⟩ (fun w hw => ?_)
              have eo : (orderE (ptsL (rowsE rows) a b) ca cb a b) = [] := by rw [ord_found hltL hI t2, if_pos t3]
              rw [eo]
              exact hw.only
          · refine H.keep [(0, _), (1, _), (2, _), (10, _), (11, _), (12, _), (13, _)] ⟨rfl, rfl, rfl, rfl, rfl, rfl, rfl, trivial⟩ ?_
            refine HN.skip ?_
            refine HN.block ?_
            refine HN.then ?_
            refine H.at' () ⟨rfl, rfl, rfl, rfl, rfl, rfl, rfl, trivial⟩ (fun w hw => ⟨hw, t2⟩)
        · refine H.pull (fun w hw => hw.2) (fun hx2 => ?_)
          refine H.cls (Hp w0 [(b12, ex (.cells #[.bool (decide (hiE ca < loE cb)), .bool (decide (hiE cb < loE ca)), .bool (decide (hiE ca ≤ loE cb)), .bool (decide (hiE cb ≤ loE ca)), .bool false] 143)), (b7, ex (.cells #[.int .u8 7, .int .i64 (a : Int), .int .i64 (b : Int), .int .i64 0, .int .i64 0, .slice none 0 0] 25))] [⟨.slice none 0 0, 0, 25, 6, []⟩, claimsRw (.slice (some ⟨b49, 0, none⟩) 5 5) (ordC a b), rowI (.slice adb cb.length capb) cb, rowI (.slice ada ca.length capa) ca] []) (fun w hw => hw.1) ?_
          refine H.region ?_
          refine H.q (yl_move rfl) rfl rfl (by decide) ?_
          refine H.q (yl_add rfl rfl ((i : Int) + 1) rfl (by omega)) rfl rfl (by decide) ?_
          refine H.q (yl_assign rfl) rfl rfl (by decide) ?_
          refine HN.done ?_
          refine HN.keep [(0, _), (1, _), (2, _), (10, _), (11, _), (12, _), (13, _)] ⟨rfl, rfl, rfl, rfl, rfl, rfl, rfl, trivial⟩ ?_
          refine HN.then ?_
          exact H.at (i + 1) ⟨⟨hlt5, fun j h hj => by
            by_cases hji : j = i
            · subst hji; exact hx2
            · exact hI j h (by omega)⟩, by omega⟩ ⟨rfl, rfl, rfl, rfl, rfl, rfl, rfl, trivial⟩ (fun w hw => hw)
      · simp only [decide_eq_false_iff_not] at t1
        have hi : i = 5 := by omega
        subst hi
        refine H.keep [(0, _), (1, _), (2, _), (10, _)] ⟨rfl, rfl, rfl, rfl, trivial⟩ ?_
        refine HX.exit ?_
        refine HX.then ?_
        refine HX.then ?_
        refine HX.hit ?_
        refine HN.then ?_
        refine H.at' (.slice none 0 0) ⟨rfl, rfl, rfl, rfl, trivial⟩ (fun w hw => ?_)
        have eo : (orderE (ptsL (rowsE rows) a b) ca cb a b) = [] := ord_none hI
        rw [eo]
        exact hw.only
    · refine H.seq ?_
      refine H.region ?_
      refine H.q (yl_assign rfl) rfl rfl (by decide) ?_
      refine HN.done ?_
      refine HN.keep [(0, _), (1, _), (2, _), (10, _), (14, _)] ⟨rfl, rfl, rfl, rfl, rfl, trivial⟩ ?_
      refine HN.then ?_
      refine H.seq ?_
      refine H.seq ?_
      refine H.region ?_
      refine H.q (yl_assign rfl) rfl rfl (by decide) ?_
      refine HN.done ?_
      refine HN.keep [(0, _), (1, _), (2, _), (10, _), (14, _), (15, _)] ⟨rfl, rfl, rfl, rfl, rfl, rfl, trivial⟩ ?_
      refine HN.then ?_
      refine H.block ?_
      refine H.loop (fun i : Nat => [(0, .slice adr rows.length capr), (1, .int .i64 (a : Int)), (2, .int .i64 (b : Int)), (10, z), (14, .int .i64 ((setD ((ptsL (rowsE rows) a b).take i)).length : Int)), (15, .int .i64 (i : Int))]) (fun i => i ≤ rows.length) (fun _ => Hp w0 [] [aloneR z (.slice none 0 0) (orderE (ptsL (rowsE rows) a b) ca cb a b)] []) (fun i => rows.length - i) 0 (Nat.zero_le _) ⟨rfl, rfl, rfl, rfl, rfl, rfl, trivial⟩ (fun w hw => hw) (fun i hi => ?_)
      refine H.seq ?_
      refine H.seq ?_
      refine H.region ?_
      refine H.q (yl_move rfl) rfl rfl (by decide) ?_
      refine H.q (yl_move rfl) rfl rfl (by decide) ?_
      refine H.q (yl_len rfl Tryz.underlying37 rfl) rfl rfl (by decide) ?_
      refine H.q (yl_lss rfl rfl) rfl rfl (by decide) ?_
      refine HN.done ?_
      refine HN.keep [(0, _), (1, _), (2, _), (10, _), (14, _), (15, _), (115, _)] ⟨rfl, rfl, rfl, rfl, rfl, rfl, rfl, trivial⟩ ?_
      refine HN.then ?_
      refine H.cond _ rfl (fun t4 => ?_) (fun t4 => ?_)
      · simp only [decide_eq_true_eq] at t4
        have hlt : i < rows.length := by omega
        obtain ⟨adi, capi, bki, oki, h4i, hcapi, hsi⟩ := ints_open (hsr i hlt).2.2
        have hlai : a < rows[i].2.length := by rw [ht.len _ (List.getElem_mem hlt)]; omega
        have hlbi : b < rows[i].2.length := by rw [ht.len _ (List.getElem_mem hlt)]; omega
        obtain ⟨xi, hxi⟩ : ∃ x, x = rows[i].2.getD a 0 := ⟨_, rfl⟩
        obtain ⟨yi, hyi⟩ : ∃ x, x = rows[i].2.getD b 0 := ⟨_, rfl⟩
        have hltPi : i < (ptsL (rowsE rows) a b).length := by rw [hPl]; exact hlt
        have hPi : (ptsL (rowsE rows) a b)[i] = (xi, yi) := by rw [hxi, hyi]; simp [ptsL]
        have hsl : (setD ((ptsL (rowsE rows) a b).take i)).length ≤ 1000000 := by
          have h1 := setD_len ((ptsL (rowsE rows) a b).take i)
          have h2 := List.length_take_le i (ptsL (rowsE rows) a b)
          omega
        have hins : setD ((ptsL (rowsE rows) a b).take (i + 1)) = insD (setD ((ptsL (rowsE rows) a b).take i)) (xi, yi) := by rw [setD_take hltPi, hPi]
        refine H.keep [(0, _), (1, _), (2, _), (10, _), (14, _), (15, _)] ⟨rfl, rfl, rfl, rfl, rfl, rfl, trivial⟩ ?_
        refine HN.skip ?_
        refine HN.then ?_
        refine H.seqCut (fun _ : Unit => [(0, .slice adr rows.length capr), (1, .int .i64 (a : Int)), (2, .int .i64 (b : Int)), (10, z), (14, .int .i64 ((setD ((ptsL (rowsE rows) a b).take (i + 1))).length : Int)), (15, .int .i64 (i : Int))]) (fun _ => Hp w0 [] [aloneR z (.slice none 0 0) (orderE (ptsL (rowsE rows) a b) ca cb a b)] []) ?_ (fun _ => ?_)
        · refine H.block ?_
          refine H.seq ?_
          refine H.region ?_
          refine H.q (yl_assign rfl) rfl rfl (by decide) ?_
          refine HN.done ?_
          refine HN.keep [(0, _), (1, _), (2, _), (10, _), (14, _), (15, _), (16, _)] ⟨rfl, rfl, rfl, rfl, rfl, rfl, rfl, trivial⟩ ?_
          refine HN.then ?_
          refine H.seq ?_
          refine H.seq ?_
          refine H.region ?_
          refine H.q (yl_assign rfl) rfl rfl (by decide) ?_
          refine HN.done ?_
          refine HN.keep [(0, _), (1, _), (2, _), (10, _), (14, _), (15, _), (16, _), (17, _)] ⟨rfl, rfl, rfl, rfl, rfl, rfl, rfl, rfl, trivial⟩ ?_
          refine HN.then ?_
          refine H.block ?_
          refine H.loop (fun j : Nat => [(0, .slice adr rows.length capr), (1, .int .i64 (a : Int)), (2, .int .i64 (b : Int)), (10, z), (14, .int .i64 ((setD ((ptsL (rowsE rows) a b).take i)).length : Int)), (15, .int .i64 (i : Int)), (16, .bool (((ptsL (rowsE rows) a b).take j).any (fun q => decide (q.1 = xi) && decide (q.2 = yi)))), (17, .int .i64 (j : Int))]) (fun j => j ≤ i) (fun _ => Hp w0 [] [aloneR z (.slice none 0 0) (orderE (ptsL (rowsE rows) a b) ca cb a b)] []) (fun j => i - j) 0 (Nat.zero_le _) ⟨rfl, rfl, rfl, rfl, rfl, rfl, rfl, rfl, trivial⟩ (fun w hw => hw) (fun j hj => ?_)
          refine H.seq ?_
          refine H.seq ?_
          refine H.region ?_
          refine H.q (yl_move rfl) rfl rfl (by decide) ?_
          refine H.q (yl_move rfl) rfl rfl (by decide) ?_
          refine H.q (yl_lss rfl rfl) rfl rfl (by decide) ?_
          refine HN.done ?_
          refine HN.keep [(0, _), (1, _), (2, _), (10, _), (14, _), (15, _), (16, _), (17, _), (120, _)] ⟨rfl, rfl, rfl, rfl, rfl, rfl, rfl, rfl, rfl, trivial⟩ ?_
          refine HN.then ?_
          refine H.cond _ rfl (fun t5 => ?_) (fun t5 => ?_)
          · simp only [decide_eq_true_eq] at t5
            have hlj : j < i := by omega
            have hltj : j < rows.length := by omega
            obtain ⟨adj, capj, bkj, okj, h4j, hcapj, hsj⟩ := ints_open (hsr j hltj).2.2
            have hlaj : a < rows[j].2.length := by rw [ht.len _ (List.getElem_mem hltj)]; omega
            have hlbj : b < rows[j].2.length := by rw [ht.len _ (List.getElem_mem hltj)]; omega
            obtain ⟨xj, hxj⟩ : ∃ x, x = rows[j].2.getD a 0 := ⟨_, rfl⟩
            obtain ⟨yj, hyj⟩ : ∃ x, x = rows[j].2.getD b 0 := ⟨_, rfl⟩
            have hltPj : j < (ptsL (rowsE rows) a b).length := by rw [hPl]; exact hltj
            have hPj : (ptsL (rowsE rows) a b)[j] = (xj, yj) := by rw [hxj, hyj]; simp [ptsL]
            refine H.keep [(0, _), (1, _), (2, _), (10, _), (14, _), (15, _), (16, _), (17, _)] ⟨rfl, rfl, rfl, rfl, rfl, rfl, rfl, rfl, trivial⟩ ?_
            refine HN.skip ?_
            refine HN.then ?_
            refine H.seq ?_
            refine H.block ?_
            refine H.regionQ Tryz.mixed (by kernel_rfl) (stab_hp _ _ _ _) ?_
            refine G.q (yl_move rfl) rfl rfl (by decide) ?_
            refine G.q (yl_move rfl) rfl rfl (by decide) ?_
            refine G.qg (wn_f rfl rfl (by decide) rfl) (fun hg => yl_sub [(0, _)] ⟨rfl, trivial⟩ (yl_move rfl)) rfl (by decide) ?_
            refine G.qg (wn_f rfl rfl (by decide) rfl) (fun hg => yl_sub [(17, _)] ⟨rfl, trivial⟩ (yl_move rfl)) rfl (by decide) ?_
            refine G.qg (wn_f rfl rfl (by decide) rfl) (fun hg => yl_sub [(125, _), (126, _)] ⟨slT rfl hg, slT rfl hg, trivial⟩ (yl_ix j Tryz.underlying37 Tryz.sizeOf23 (hsr j hltj).1 rfl rfl rfl hltj)) rfl (by decide) ?_
            refine G.qg (wn_f rfl rfl (by decide) rfl) (fun hg => yl_sub [(127, _)] ⟨slT rfl hg, trivial⟩ (yl_load Tryz.isAgg23 rfl (fun w hw => (cell_ext hw.ext (hsr j hltj).2.1).trans (by rw [h4j])))) rfl (by decide) ?_
            refine G.qg (wn_f rfl rfl (by decide) rfl) (fun hg => yl_sub [(1, _)] ⟨rfl, trivial⟩ (yl_move rfl)) rfl (by decide) ?_
            refine G.qg (wn_f rfl rfl (by decide) rfl) (fun hg => yl_sub [(128, _), (129, _)] ⟨slT rfl hg, slT rfl hg, trivial⟩ (yl_ix a Tryz.underlying23 Tryz.sizeOf2 (hsj a hlaj).1 rfl rfl rfl hlaj)) rfl (by decide) ?_
            refine G.qg (wn_f rfl rfl (by decide) rfl) (fun hg => yl_sub [(130, _)] ⟨slT rfl hg, trivial⟩ (yl_load (v := .int .i64 xj) Tryz.isAgg2 rfl (fun w hw => (cell_ext hw.ext (hsj a hlaj).2).trans (by rw [hxj])))) rfl (by decide) ?_
            refine G.qg (wn_f rfl rfl (by decide) rfl) (fun hg => yl_sub [(0, _)] ⟨rfl, trivial⟩ (yl_move rfl)) rfl (by decide) ?_
            refine G.qg (wn_f rfl rfl (by decide) rfl) (fun hg => yl_sub [(15, _)] ⟨rfl, trivial⟩ (yl_move rfl)) rfl (by decide) ?_
            refine G.qg (wn_f rfl rfl (by decide) rfl) (fun hg => yl_sub [(132, _), (133, _)] ⟨slT rfl hg, slT rfl hg, trivial⟩ (yl_ix i Tryz.underlying37 Tryz.sizeOf23 (hsr i hlt).1 rfl rfl rfl hlt)) rfl (by decide) ?_
            refine G.qg (wn_f rfl rfl (by decide) rfl) (fun hg => yl_sub [(134, _)] ⟨slT rfl hg, trivial⟩ (yl_load Tryz.isAgg23 rfl (fun w hw => (cell_ext hw.ext (hsr i hlt).2.1).trans (by rw [h4i])))) rfl (by decide) ?_
            refine G.qg (wn_f rfl rfl (by decide) rfl) (fun hg => yl_sub [(1, _)] ⟨rfl, trivial⟩ (yl_move rfl)) rfl (by decide) ?_
            refine G.qg (wn_f rfl rfl (by decide) rfl) (fun hg => yl_sub [(135, _), (136, _)] ⟨slT rfl hg, slT rfl hg, trivial⟩ (yl_ix a Tryz.underlying23 Tryz.sizeOf2 (hsi a hlai).1 rfl rfl rfl hlai)) rfl (by decide) ?_
            refine G.qg (wn_f rfl rfl (by decide) rfl) (fun hg => yl_sub [(137, _)] ⟨slT rfl hg, trivial⟩ (yl_load (v := .int .i64 xi) Tryz.isAgg2 rfl (fun w hw => (cell_ext hw.ext (hsi a hlai).2).trans (by rw [hxi])))) rfl (by decide) ?_
            refine G.qg (wn_f rfl rfl (by decide) rfl) (fun hg => yl_sub [(131, _), (138, _)] ⟨slT rfl hg, slT rfl hg, trivial⟩ (yl_eql rfl rfl)) rfl (by decide) ?_
            refine G.qg (wn_f rfl rfl (by decide) rfl) (fun hg => yl_sub [(139, _)] ⟨slT rfl hg, trivial⟩ (yl_move rfl)) rfl (by decide) ?_
            refine G.qg (wn_gt rfl rfl (by decide) rfl) (fun hg => yl_sub [(0, _)] ⟨rfl, trivial⟩ (yl_move rfl)) rfl (by decide) ?_
            refine G.qg (wn_gt rfl rfl (by decide) rfl) (fun hg => yl_sub [(17, _)] ⟨rfl, trivial⟩ (yl_move rfl)) rfl (by decide) ?_
            refine G.qg (wn_gt rfl rfl (by decide) rfl) (fun hg => yl_sub [(141, _), (142, _)] ⟨slT rfl hg, slT rfl hg, trivial⟩ (yl_ix j Tryz.underlying37 Tryz.sizeOf23 (hsr j hltj).1 rfl rfl rfl hltj)) rfl (by decide) ?_
            refine G.qg (wn_gt rfl rfl (by decide) rfl) (fun hg => yl_sub [(143, _)] ⟨slT rfl hg, trivial⟩ (yl_load Tryz.isAgg23 rfl (fun w hw => (cell_ext hw.ext (hsr j hltj).2.1).trans (by rw [h4j])))) rfl (by decide) ?_
            refine G.qg (wn_gt rfl rfl (by decide) rfl) (fun hg => yl_sub [(2, _)] ⟨rfl, trivial⟩ (yl_move rfl)) rfl (by decide) ?_
            refine G.qg (wn_gt rfl rfl (by decide) rfl) (fun hg => yl_sub [(144, _), (145, _)] ⟨slT rfl hg, slT rfl hg, trivial⟩ (yl_ix b Tryz.underlying23 Tryz.sizeOf2 (hsj b hlbj).1 rfl rfl rfl hlbj)) rfl (by decide) ?_
            refine G.qg (wn_gt rfl rfl (by decide) rfl) (fun hg => yl_sub [(146, _)] ⟨slT rfl hg, trivial⟩ (yl_load (v := .int .i64 yj) Tryz.isAgg2 rfl (fun w hw => (cell_ext hw.ext (hsj b hlbj).2).trans (by rw [hyj])))) rfl (by decide) ?_
            refine G.qg (wn_gt rfl rfl (by decide) rfl) (fun hg => yl_sub [(0, _)] ⟨rfl, trivial⟩ (yl_move rfl)) rfl (by decide) ?_
            refine G.qg (wn_gt rfl rfl (by decide) rfl) (fun hg => yl_sub [(15, _)] ⟨rfl, trivial⟩ (yl_move rfl)) rfl (by decide) ?_
            refine G.qg (wn_gt rfl rfl (by decide) rfl) (fun hg => yl_sub [(148, _), (149, _)] ⟨slT rfl hg, slT rfl hg, trivial⟩ (yl_ix i Tryz.underlying37 Tryz.sizeOf23 (hsr i hlt).1 rfl rfl rfl hlt)) rfl (by decide) ?_
            refine G.qg (wn_gt rfl rfl (by decide) rfl) (fun hg => yl_sub [(150, _)] ⟨slT rfl hg, trivial⟩ (yl_load Tryz.isAgg23 rfl (fun w hw => (cell_ext hw.ext (hsr i hlt).2.1).trans (by rw [h4i])))) rfl (by decide) ?_
            refine G.qg (wn_gt rfl rfl (by decide) rfl) (fun hg => yl_sub [(2, _)] ⟨rfl, trivial⟩ (yl_move rfl)) rfl (by decide) ?_
            refine G.qg (wn_gt rfl rfl (by decide) rfl) (fun hg => yl_sub [(151, _), (152, _)] ⟨slT rfl hg, slT rfl hg, trivial⟩ (yl_ix b Tryz.underlying23 Tryz.sizeOf2 (hsi b hlbi).1 rfl rfl rfl hlbi)) rfl (by decide) ?_
            refine G.qg (wn_gt rfl rfl (by decide) rfl) (fun hg => yl_sub [(153, _)] ⟨slT rfl hg, trivial⟩ (yl_load (v := .int .i64 yi) Tryz.isAgg2 rfl (fun w hw => (cell_ext hw.ext (hsi b hlbi).2).trans (by rw [hyi])))) rfl (by decide) ?_
            refine G.qg (wn_gt rfl rfl (by decide) rfl) (fun hg => yl_sub [(147, _), (154, _)] ⟨slT rfl hg, slT rfl hg, trivial⟩ (yl_eql rfl rfl)) rfl (by decide) ?_
            refine G.qg (wn_f rfl rfl (by decide) rfl) (fun hg => yl_sub [(140, _), (155, _)] ⟨slT rfl hg, slA rfl hg, trivial⟩ (yl_and rfl rfl)) rfl (by decide) ?_
            refine G.q (yl_or rfl rfl) rfl rfl (by decide) ?_
            refine G.q (yl_assign rfl) rfl rfl (by decide) ?_
            refine HN.doneG ?_
            refine HN.keep [(0, _), (1, _), (2, _), (10, _), (14, _), (15, _), (16, _), (17, _)] ⟨rfl, rfl, rfl, rfl, rfl, rfl, rfl, rfl, trivial⟩ ?_
            refine HN.block ?_
            refine HN.then ?_
            refine H.region ?_
            refine H.q (yl_move rfl) rfl rfl (by decide) ?_
            refine H.q (yl_add rfl rfl ((j : Int) + 1) rfl (by omega)) rfl rfl (by decide) ?_
            refine H.q (yl_assign rfl) rfl rfl (by decide) ?_
            refine HN.done ?_
            refine HN.keep [(0, _), (1, _), (2, _), (10, _), (14, _), (15, _), (16, _), (17, _)] ⟨rfl, rfl, rfl, rfl, rfl, rfl, rfl, rfl, trivial⟩ ?_
            refine HN.then ?_
            have e1 : ((ptsL (rowsE rows) a b).take (j + 1)).any (fun q => decide (q.1 = xi) && decide (q.2 = yi)) = (((ptsL (rowsE rows) a b).take j).any (fun q => decide (q.1 = xi) && decide (q.2 = yi)) || (decide (xj = xi) && decide (yj = yi))) := by rw [any_take hltPj, hPj]
            exact H.at (j + 1) ⟨hlj, by omega⟩ ⟨rfl, rfl, rfl, rfl, rfl, rfl, (by rw [e1]; rfl), rfl, trivial⟩ (fun w hw => hw)
          · simp only [decide_eq_false_iff_not] at t5
            have hji : j = i := by omega
            subst hji
            refine H.keep [(0, _), (1, _), (2, _), (10, _), (14, _), (15, _), (16, _)] ⟨rfl, rfl, rfl, rfl, rfl, rfl, rfl, trivial⟩ ?_
            refine HX.exit ?_
            refine HX.then ?_
            refine HX.then ?_
            refine HX.hit ?_
            refine HN.then ?_
            refine H.seq ?_
            refine H.region ?_
            refine H.q (yl_move rfl) rfl rfl (by decide) ?_
            refine H.q (yl_not rfl) rfl rfl (by decide) ?_
            refine HN.done ?_
            refine HN.keep [(0, _), (1, _), (2, _), (10, _), (14, _), (15, _), (159, _)] ⟨rfl, rfl, rfl, rfl, rfl, rfl, rfl, trivial⟩ ?_
            refine HN.then ?_
            refine H.cond _ rfl (fun t6 => ?_) (fun t6 => ?_)
            · replace t6 : ((ptsL (rowsE rows) a b).take j).any (fun q => decide (q.1 = xi) && decide (q.2 = yi)) = false := by simpa using t6
              rw [dup_mem] at t6
              have t6 := of_decide_eq_false t6
              refine H.keep [(0, _), (1, _), (2, _), (10, _), (14, _), (15, _)] ⟨rfl, rfl, rfl, rfl, rfl, rfl, trivial⟩ ?_
              refine H.region ?_
              refine H.q (yl_move rfl) rfl rfl (by decide) ?_
              refine H.q (yl_add rfl rfl (((setD ((ptsL (rowsE rows) a b).take j)).length : Int) + 1) rfl (by omega)) rfl rfl (by decide) ?_
              refine H.q (yl_assign rfl) rfl rfl (by decide) ?_
              refine HN.done ?_
              refine HN.keep [(0, _), (1, _), (2, _), (10, _), (14, _), (15, _)] ⟨rfl, rfl, rfl, rfl, rfl, rfl, trivial⟩ ?_
              refine HN.block ?_
              refine HN.then ?_
              have e1 : ((setD ((ptsL (rowsE rows) a b).take (j + 1))).length : Int) = ((setD ((ptsL (rowsE rows) a b).take j)).length : Int) + 1 := by rw [hins, insD_len, if_neg t6]; rfl
              exact H.at' () ⟨rfl, rfl, rfl, rfl, (by rw [e1]; rfl), rfl, trivial⟩ (fun w hw => hw)
            · replace t6 : ((ptsL (rowsE rows) a b).take j).any (fun q => decide (q.1 = xi) && decide (q.2 = yi)) = true := by simpa using t6
              rw [dup_mem] at t6
              have t6 := of_decide_eq_true t6
              refine H.keep [(0, _), (1, _), (2, _), (10, _), (14, _), (15, _)] ⟨rfl, rfl, rfl, rfl, rfl, rfl, trivial⟩ ?_
              refine HN.skip ?_
              refine HN.block ?_
              refine HN.then ?_
              have e1 : ((setD ((ptsL (rowsE rows) a b).take (j + 1))).length : Int) = ((setD ((ptsL (rowsE rows) a b).take j)).length : Int) := by rw [hins, insD_len, if_pos t6]
              exact H.at' () ⟨rfl, rfl, rfl, rfl, (by rw [e1]; rfl), rfl, trivial⟩ (fun w hw => hw)
        · refine H.region ?_
          refine H.q (yl_move rfl) rfl rfl (by decide) ?_
          refine H.q (yl_add rfl rfl ((i : Int) + 1) rfl (by omega)) rfl rfl (by decide) ?_
          refine H.q (yl_assign rfl) rfl rfl (by decide) ?_
          refine HN.done ?_
          refine HN.keep [(0, _), (1, _), (2, _), (10, _), (14, _), (15, _)] ⟨rfl, rfl, rfl, rfl, rfl, rfl, trivial⟩ ?_
          refine HN.then ?_
          exact H.at (i + 1) ⟨hlt, by omega⟩ ⟨rfl, rfl, rfl, rfl, rfl, rfl, trivial⟩ (fun w hw => hw)
      · simp only [decide_eq_false_iff_not] at t4
        have hil : i = (ptsL (rowsE rows) a b).length := by rw [hPl]; omega
        have htk : (ptsL (rowsE rows) a b).take i = (ptsL (rowsE rows) a b) := by rw [hil, List.take_length]
        rw [htk]
        refine H.keep [(0, _), (1, _), (2, _), (10, _), (14, _)] ⟨rfl, rfl, rfl, rfl, rfl, trivial⟩ ?_
        refine HX.exit ?_
        refine HX.then ?_
        refine HX.then ?_
        refine HX.hit ?_
        refine HN.then ?_
        refine H.seq ?_
        refine H.seq ?_
        refine H.region ?_
        refine H.q (yl_move rfl) rfl rfl (by decide) ?_
        refine H.q (yl_lss rfl rfl) rfl rfl (by decide) ?_
        refine HN.done ?_
        refine HN.keep [(0, _), (1, _), (2, _), (10, _), (163, _)] ⟨rfl, rfl, rfl, rfl, rfl, trivial⟩ ?_
        refine HN.then ?_
        refine H.cond _ rfl (fun t7 => ?_) (fun t7 => ?_)
        · simp only [decide_eq_true_eq] at t7
          refine H.keep [(10, _)] ⟨rfl, trivial⟩ ?_
          refine H.seq ?_
          refine H.region ?_
          refine H.q (yl_move rfl) rfl rfl (by decide) ?_
          refine H.q (yl_assign rfl) rfl rfl (by decide) ?_
          refine HN.done ?_
          refine HN.keep [(6, _)] ⟨rfl, trivial⟩ ?_
          refine HN.then ?_
          refine HR.ret ?_
          refine HR.then ?_
          refine HR.ret1 _ Tryz.results61 rfl (fun w hw => ?_)
          apply coupleFin (ca := ca) (cb := cb) (a := a) (b := b) (rows := rowsE rows)
          rw [couple_lin t0, if_pos t7, List.append_nil]
          exact hw
        · simp only [decide_eq_false_iff_not] at t7
          refine H.keep [(0, _), (1, _), (2, _), (10, _)] ⟨rfl, rfl, rfl, rfl, trivial⟩ ?_
          refine HN.skip ?_
          refine HN.then ?_
          refine H.seq ?_
          refine H.region ?_
          refine H.q (yl_move rfl) rfl rfl (by decide) ?_
          refine H.q (yl_move rfl) rfl rfl (by decide) ?_
          refine H.q (yl_move rfl) rfl rfl (by decide) ?_
          refine H.q (yl_call (xs := [.tmp 166, .tmp 167, .tmp 168]) Tryz.call93 (stab_hp _ _ _ _) rfl (fun w hw => refLinear_any vars _ rows w (ht.ext hw.ext) h0 (by omega) hv8 a b (by omega) (by omega) (by omega))) rfl rfl (by decide) ?_
          refine H.q (yl_move rfl) rfl rfl (by decide) ?_
          refine H.q (yl_extract (.agg (cellsI (.slice none 0 0, ((linE (ptsL (rowsE rows) a b) a b)).getD zeroI)).toArray) rfl rfl) rfl rfl (by decide) ?_
          refine H.q (yl_extract (.bool ((linE (ptsL (rowsE rows) a b) a b)).isSome) rfl rfl) rfl rfl (by decide) ?_
          refine H.allocA Tryz.zeroValue25 (by decide) (fun b18 hb18 => ?_)
          refine H.storeA 0 rfl rfl rfl Tryz.sizeOf25 rfl rfl ?_
          refine H.q (yl_assign rfl) rfl rfl (by decide) ?_
          refine HN.done ?_
          refine HN.keep [(0, _), (1, _), (2, _), (10, _), (18, _), (19, _)] ⟨rfl, rfl, rfl, rfl, rfl, rfl, trivial⟩ ?_
          refine HN.then ?_
          refine H.seqCut (fun _ : Unit => [(10, z), (18, .pointer (some ⟨b18, 0, none⟩)), (19, .bool ((linB (rowsE rows) a b)).isSome)]) (fun _ => Hp w0 [(b18, ex (.cells (cellsI (.slice none 0 0, ((linB (rowsE rows) a b)).getD zeroI)).toArray 25))] [aloneR z (.slice none 0 0) (orderE (ptsL (rowsE rows) a b) ca cb a b)] []) ?_ (fun _ => ?_)
          · refine H.seq ?_
            refine H.region ?_
            refine H.q (yl_move rfl) rfl rfl (by decide) ?_
            refine H.q (yl_not rfl) rfl rfl (by decide) ?_
            refine HN.done ?_
            refine HN.keep [(0, _), (1, _), (2, _), (10, _), (18, _), (19, _), (173, _)] ⟨rfl, rfl, rfl, rfl, rfl, rfl, rfl, trivial⟩ ?_
            refine HN.then ?_
            refine H.cond _ rfl (fun t8 => ?_) (fun t8 => ?_)
            · refine H.keep [(0, _), (1, _), (2, _), (10, _), (18, _)] ⟨rfl, rfl, rfl, rfl, rfl, trivial⟩ ?_
              refine H.region ?_
              refine H.q (yl_move rfl) rfl rfl (by decide) ?_
              refine H.q (yl_move rfl) rfl rfl (by decide) ?_
              refine H.q (yl_move rfl) rfl rfl (by decide) ?_
              refine H.q (yl_call (xs := [.tmp 175, .tmp 176, .tmp 177]) Tryz.call93 (stab_hp _ _ _ _) rfl (fun w hw => refLinear_any vars _ rows w (ht.ext hw.ext) h0 (by omega) hv8 b a (by omega) (by omega) (by omega))) rfl rfl (by decide) ?_
              refine H.q (yl_move rfl) rfl rfl (by decide) ?_
              refine H.q (yl_extract (.agg (cellsI (.slice none 0 0, ((linE (ptsL (rowsE rows) b a) b a)).getD zeroI)).toArray) rfl rfl) rfl rfl (by decide) ?_
              refine H.q (yl_extract (.bool ((linE (ptsL (rowsE rows) b a) b a)).isSome) rfl rfl) rfl rfl (by decide) ?_
              refine H.storeA 0 rfl rfl rfl Tryz.sizeOf25 rfl rfl ?_
              refine H.q (yl_assign rfl) rfl rfl (by decide) ?_
              refine HN.done ?_
              refine HN.keep [(10, _), (18, _), (19, _)] ⟨rfl, rfl, rfl, trivial⟩ ?_
              refine HN.then ?_
              have e1 : (linB (rowsE rows) a b) = (linE (ptsL (rowsE rows) b a) b a) := if_neg (by simpa using t8)
              exact H.at' () ⟨rfl, rfl, (by rw [e1]; rfl), trivial⟩ (fun w hw => by rw [e1]; exact hw)
            · refine H.keep [(10, _), (18, _), (19, _)] ⟨rfl, rfl, rfl, trivial⟩ ?_
              refine HN.skip ?_
              refine HN.then ?_
              have e1 : (linB (rowsE rows) a b) = (linE (ptsL (rowsE rows) a b) a b) := if_pos (by simpa using t8)
              exact H.at' () ⟨rfl, rfl, (by rw [e1]; rfl), trivial⟩ (fun w hw => by rw [e1]; exact hw)
          · refine H.seqCut (fun y : Value => [(10, y)]) (fun y => Hp w0 [] [aloneR y (.slice none 0 0) (coupleE (rowsE rows) ca cb a b)] []) ?_ (fun y => ?_)
            · refine H.seq ?_
              refine H.region ?_
              refine H.q (yl_move rfl) rfl rfl (by decide) ?_
              refine HN.done ?_
              refine HN.keep [(10, _), (18, _), (181, _)] ⟨rfl, rfl, rfl, trivial⟩ ?_
              refine HN.then ?_
              refine H.cond _ rfl (fun t9 => ?_) (fun t9 => ?_)
              · obtain ⟨x, hx⟩ := Option.isSome_iff_exists.1 t9
                have hxk := linB_kind hx
                refine H.keep [(10, _), (18, _)] ⟨rfl, rfl, trivial⟩ ?_
                refine H.region ?_
                refine H.q (yl_move rfl) rfl rfl (by decide) ?_
                refine H.q (yl_loadAgg (cellsI (.slice none 0 0, ((linB (rowsE rows) a b)).getD zeroI)) Tryz.isAgg25 Tryz.sizeOf25 rfl (fun w hw => cells_of_blk (hw.blk 0 rfl)) rfl) rfl rfl (by decide) ?_
                refine H.buildSlice (bs28 _ _ _ _ _ _ _ _) rfl (by decide) (fun b184 hb184 => ?_)
                refine H.append 0 (cellsI (.slice none 0 0, ((linB (rowsE rows) a b)).getD zeroI)) el28 rfl rfl rfl rfl (fun w hw => newsN (hw.blk 0 rfl)) (by simp [Value.oneCell', cellsI]) (by have := order_len (ptsL (rowsE rows) a b) ca cb a b; simp only [aloneR]; omega) (by decide) (by decide) (fun v185 => ?_)
                refine H.q (yl_assign rfl) rfl rfl (by decide) ?_
                refine HN.done ?_
                refine HN.keep [(10, _)] ⟨rfl, trivial⟩ ?_
                refine HN.then ?_
                refine H.at' v185 ⟨rfl, trivial⟩ (fun w hw => ?_)
                have e2 : aloneR v185 (.slice none 0 0) (coupleE (rowsE rows) ca cb a b) = ⟨v185, (orderE (ptsL (rowsE rows) a b) ca cb a b).length + 1, 25, 6, clS (.slice none 0 0) (orderE (ptsL (rowsE rows) a b) ca cb a b) ++ cellsI (.slice none 0 0, ((linB (rowsE rows) a b)).getD zeroI)⟩ := by
                  rw [couple_lin t0, if_neg t7, hx]
                  unfold aloneR
                  rw [show (some x).toList = [x] from rfl, clS_append, clS_one hxk]
                  simp [cellsI]
                rw [e2]
                exact hw.only
              · have hn : (linB (rowsE rows) a b) = none := by simpa using t9
                refine H.keep [(10, _)] ⟨rfl, trivial⟩ ?_
                refine HN.skip ?_
                refine HN.then ?_
                refine H.at' z ⟨rfl, trivial⟩ (fun w hw => ?_)
                rw [couple_lin t0, if_neg t7, hn]
                rw [show (none : Option Inv).toList = [] from rfl, List.append_nil]
                exact hw.only
            · refine H.seq ?_
              refine H.region ?_
              refine H.q (yl_move rfl) rfl rfl (by decide) ?_
              refine H.q (yl_assign rfl) rfl rfl (by decide) ?_
              refine HN.done ?_
              refine HN.keep [(6, _)] ⟨rfl, trivial⟩ ?_
              refine HN.then ?_
              refine HR.ret ?_
              refine HR.ret1 _ Tryz.results61 rfl (fun w hw => ?_)
              apply coupleFin (ca := ca) (cb := cb) (a := a) (b := b) (rows := rowsE rows)
              exact hw

end Go.Proofs.YtgbgddmbooaddaaGreatDoor

namespace Go.Proofs.YtgbgddmbooaddaaGreatDoor
open Go.RowKit


section
variable {P : Program} {n : Nat} {e : Env} {C : World → Prop} {Q : Exit → Act → World → Prop} {ops : Array Oper} {rest : List Oper}
/-- A call that a guard may leave out. -/
theorem H.callGX {α : Type} {f : FuncId} {xs : List Operand} {vs : List Value} {d : Nat} {t : TypeId} {p : String} {af : Array Edge} {ats : Array TypeId} {gd : Nat × Bool} {g : Bool} (v : α → Value) (z0 : α) (hen : ∀ args w, (callFunc f args).run P w = .ok (.enter f args) w)
    (hw : Wn ops n e ⟨some d, .call { callee := .value (.func f), args := xs.toArray, argTypes := ats }, t, p, af, some gd⟩ g) (e1 : Env) (hs : g = true → Sub e e1) (hx : eevs e1 xs = some vs) (hn : d < n) (hc : g = true → ∀ w, C w → Calls P f vs.toArray w fun en w' => ∃ z, en = .returned (v z) ∧ C w')
    (h : ∀ z, H n ((d, gv g (v z)) :: e) C (wpList P ops Q rest)) :
    H n e C (wpList P ops Q (⟨some d, .call { callee := .value (.func f), args := xs.toArray, argTypes := ats }, t, p, af, some gd⟩ :: rest)) := by
  intro a w hf hcw
  refine wpList_step fun K hK => ?_
  rw [hw a hf]
  cases g with
  | true =>
    simp only [if_true]
    have h1 : (List.map a.eval xs) = vs := (hf.sub (hs rfl)).evs hx
    have hr : (execOp a.eval ⟨some d, .call { callee := .value (.func f), args := xs.toArray, argTypes := ats }, t, p, af, some gd⟩).run P w = .ok (.enter f vs.toArray) w := by
      simp [execOp, resolve, h1, Act.eval, Deferred.ofValue, invoke, hen]
    unfold Oper.wp
    rw [hr]
    refine (hc rfl w hcw).mono fun en w' hh => ?_
    obtain ⟨z, rfl, hC⟩ := hh
    exact hK _ _ (h z _ _ (hf.put hn _) hC)
  | false =>
    simp only [Bool.false_eq_true, if_false]
    exact hK _ _ (h z0 _ w (hf.put hn undef) hcw)
end
structure LZ where
  k : Nat
  v : Value
  ls : List (Value × Inv)


theorem refColumn_len (vars : Nat) (rv : Value) (rows : List (Value × List Int)) (w0 : World) (ht : RTbl w0 vars rv rows) (a : Nat) (ha : a < vars) {L : List BP} {R : List Rw} {F : List BP} {w1 : World} (hw : Hp w1 L R F w0) : Calls Tryz.prog 60 #[rv, .int .i64 (a : Int)] w0 fun e w' => ∃ z : Option Addr × Nat, e = .returned (.slice z.1 (factsE (rowsE rows) a).length z.2) ∧ Hp w1 L R F w' :=
  (refColumn_any vars rv rows w0 ht a ha).mono fun e w' h => by
    obtain ⟨v, rfl, h2⟩ := h
    obtain ⟨ad, cap, b, rfl, _⟩ := rowI_open (h2.row 0 rfl)
    exact ⟨(ad, cap), rfl, hw.step h2.ext⟩

set_option maxRecDepth 100000 in
theorem refClaims_any (vars : Nat) (rv : Value) (rows : List (Value × List Int)) (w0 : World) (ht : RTbl w0 vars rv rows) (hv1 : 1 ≤ vars) (hv8 : vars ≤ 8) (support : Int) : Calls Tryz.prog 25 #[.int .i64 (vars : Int), rv, .int .i64 support] w0 fun e w' => ∃ v ls, e = .returned v ∧ ls.map (·.2) = claimsE (rowsE rows) vars support ∧ Hp w0 [] (claimsRw v ls :: setsR ls) [] w' := by
  obtain ⟨adr, capr, br, orr, rfl, hcapr, hsr⟩ := rows_open ht.isr
  have hmax := ht.max
  refine enterA 61 Tryz.func25 rfl Tryz.ntmps25 rfl (Hp w0 [] [] []) (Hp.init _) ?_
  refine H.seq ?_
  refine H.region ?_
  refine H.q (yl_assign rfl) rfl rfl (by decide) ?_
  refine HN.done ?_
  refine HN.keep [(0, _), (1, _), (2, _)] ⟨rfl, rfl, rfl, trivial⟩ ?_
  refine HN.then ?_
  refine H.seq ?_
  refine H.seq ?_
  refine H.region ?_
  refine H.q (yl_move rfl) rfl rfl (by decide) ?_
  refine H.q (yl_len rfl Tryz.underlying37 rfl) rfl rfl (by decide) ?_
  refine H.q (yl_eql rfl rfl) rfl rfl (by decide) ?_
  refine H.q (yl_move rfl) rfl rfl (by decide) ?_
  refine H.qg (wn_f rfl rfl (by decide) rfl) (fun hg => yl_sub [(1, _)] ⟨rfl, trivial⟩ (yl_move rfl)) rfl (by decide) ?_
  refine H.qg (wn_f rfl rfl (by decide) rfl) (fun hg => yl_sub [(15, _)] ⟨slT rfl hg, trivial⟩ (yl_len rfl Tryz.underlying37 rfl)) rfl (by decide) ?_
  refine H.qg (wn_f rfl rfl (by decide) rfl) (fun hg => yl_sub [(2, _)] ⟨rfl, trivial⟩ (yl_move rfl)) rfl (by decide) ?_
  refine H.qg (wn_f rfl rfl (by decide) rfl) (fun hg => yl_sub [(16, _), (17, _)] ⟨slT rfl hg, slT rfl hg, trivial⟩ (yl_lss rfl rfl)) rfl (by decide) ?_
  refine H.q (yl_or rfl rfl) rfl rfl (by decide) ?_
  refine HN.done ?_
  refine HN.keep [(0, _), (1, _), (19, _)] ⟨rfl, rfl, rfl, trivial⟩ ?_
  refine HN.then ?_
  refine H.cond _ rfl (fun t0 => ?_) (fun t0 => ?_)
  · have hsp : (rows.length : Int) = 0 ∨ (rows.length : Int) < support := by simpa using t0
    refine H.keep [] trivial ?_
    refine H.seq ?_
    refine H.region ?_
    refine H.q (yl_assign rfl) rfl rfl (by decide) ?_
    refine HN.done ?_
    refine HN.keep [(6, _)] ⟨rfl, trivial⟩ ?_
    refine HN.then ?_
    refine HR.ret ?_
    refine HR.then ?_
    refine HR.ret1 _ Tryz.results25 rfl (fun w hw => ?_)
    refine ⟨_, [], rfl, ?_, hw.rowNil 25 6⟩
    unfold claimsE
    rw [if_pos (by simpa using hsp)]
    rfl
  · have hsp : ¬ ((rows.length : Int) = 0 ∨ (rows.length : Int) < support) := by simp only [Bool.or_eq_false_iff, decide_eq_false_iff_not] at t0; omega
    have h0 : 0 < rows.length := by omega
    refine H.keep [(0, _), (1, _)] ⟨rfl, rfl, trivial⟩ ?_
    refine HN.skip ?_
    refine HN.then ?_
    refine H.seq ?_
    refine H.region ?_
    refine H.q (yl_assign rfl) rfl rfl (by decide) ?_
    refine HN.done ?_
    refine HN.keep [(0, _), (1, _), (7, _)] ⟨rfl, rfl, rfl, trivial⟩ ?_
    refine HN.then ?_
    refine H.seq ?_
    refine H.seq ?_
    refine H.region ?_
    refine H.q (yl_assign rfl) rfl rfl (by decide) ?_
    refine HN.done ?_
    refine HN.keep [(0, _), (1, _), (7, _), (8, _)] ⟨rfl, rfl, rfl, rfl, trivial⟩ ?_
    refine HN.then ?_
    refine H.block ?_
    refine H.loop (fun z : LZ => [(0, .int .i64 (vars : Int)), (1, .slice adr rows.length capr), (7, z.v), (8, .int .i64 (z.k : Int))]) (fun z => z.k ≤ vars ∧ z.ls.map (·.2) = aloneA (rowsE rows) z.k ∧ z.ls.length ≤ 6 * z.k) (fun z => Hp w0 [] (claimsRw z.v z.ls :: setsR z.ls) []) (fun z => vars - z.k) ⟨0, .slice none 0 0, []⟩ ⟨Nat.zero_le _, rfl, Nat.zero_le _⟩ ⟨rfl, rfl, rfl, rfl, trivial⟩ (fun w hw => hw.rowNil 25 6) (fun z hI0 => ?_)
    obtain ⟨k, v, ls⟩ := z
    obtain ⟨hI, hls, hlen⟩ := hI0
    simp only at hI hls hlen
    refine H.seq ?_
    refine H.seq ?_
    refine H.region ?_
    refine H.q (yl_move rfl) rfl rfl (by decide) ?_
    refine H.q (yl_move rfl) rfl rfl (by decide) ?_
    refine H.q (yl_lss rfl rfl) rfl rfl (by decide) ?_
    refine HN.done ?_
    refine HN.keep [(0, _), (1, _), (7, _), (8, _), (22, _)] ⟨rfl, rfl, rfl, rfl, rfl, trivial⟩ ?_
    refine HN.then ?_
    refine H.cond _ rfl (fun t1 => ?_) (fun t1 => ?_)
    · simp only [decide_eq_true_eq] at t1
      have hlt : k < vars := by omega
      refine H.keep [(0, _), (1, _), (7, _), (8, _)] ⟨rfl, rfl, rfl, rfl, trivial⟩ ?_
      refine HN.skip ?_
      refine HN.then ?_
      refine H.seq ?_
      refine H.block ?_
      refine H.region ?_
      refine H.q (yl_move rfl) rfl rfl (by decide) ?_
      refine H.q (yl_move rfl) rfl rfl (by decide) ?_
      refine H.q (yl_move rfl) rfl rfl (by decide) ?_
      refine H.call (α := Value × List (Value × Inv)) (xs := [.tmp 26, .tmp 27]) (fun q => q.1) (fun q => q.2.map (·.2) = aloneE (factsE (rowsE rows) k) k) (fun q => claimsRw q.1 q.2 :: setsR q.2) (fun _ => []) Tryz.call59 rfl (by decide) (fun w hw => (refAlone_any vars _ rows w (ht.ext hw.ext) h0 k hlt).mono fun e w' h => by obtain ⟨v, l, h1, h2, h3⟩ := h; exact ⟨(v, l), h1, h2, h3, fun _ hh => by cases hh⟩) (fun q hq => ?_)
      obtain ⟨u, l2⟩ := q
      simp only at hq
      refine H.pull (fun w hw => Rw.isSlice (v := u) (len := l2.length) (hw.row 0 rfl)) (fun ho => ?_)
      obtain ⟨adu, capu, rfl⟩ := ho
      refine H.pull (fun w hw => sets_one (ls := l2) (fun r hr => hw.rows r (List.mem_append.2 (.inl (List.mem_cons_of_mem _ hr))))) (fun hone => ?_)
      have hl2 : l2.length ≤ 6 := by have h1 := congrArg List.length hq; have h2 := alone_len (factsE (rowsE rows) k) k; rw [List.length_map] at h1; omega
      refine H.cls (Hp w0 [] (claimsRw v ls :: claimsRw (.slice adu l2.length capu) l2 :: setsR (ls ++ l2)) []) (fun w hw => hw.permR (by classical exact List.perm_iff_count.2 (fun x => by simp only [setsR_append, List.count_append, List.count_cons, List.cons_append] <;> omega))) ?_
      refine H.append 0 (l2.map cellsI).flatten el28 rfl rfl rfl (flat6 l2) (fun w hw => Rw.news (hw.row 1 rfl)) (claims_one hone) (by simp only; omega) (by decide) (by decide) (fun v29 => ?_)
      refine H.cls (Hp w0 [] (claimsRw v29 (ls ++ l2) :: setsR (ls ++ l2)) []) (fun w hw => ?_) ?_
      · rw [claimsRw_append]
        refine Hp.dropR (r := claimsRw (.slice adu l2.length capu) l2) ?_
        exact hw.permR (by classical exact List.perm_iff_count.2 (fun x => by simp only [setsR_append, List.set_cons_zero, List.count_append, List.count_cons] <;> omega))
      refine H.q (yl_assign rfl) rfl rfl (by decide) ?_
      refine HN.done ?_
      refine HN.keep [(0, _), (1, _), (7, _), (8, _)] ⟨rfl, rfl, rfl, rfl, trivial⟩ ?_
      refine HN.block ?_
      refine HN.then ?_
      refine H.region ?_
      refine H.q (yl_move rfl) rfl rfl (by decide) ?_
      refine H.q (yl_add rfl rfl ((k : Int) + 1) rfl (by omega)) rfl rfl (by decide) ?_
      refine H.q (yl_assign rfl) rfl rfl (by decide) ?_
      refine HN.done ?_
      refine HN.keep [(0, _), (1, _), (7, _), (8, _)] ⟨rfl, rfl, rfl, rfl, trivial⟩ ?_
      refine HN.then ?_
      refine H.at ⟨k + 1, v29, ls ++ l2⟩ ⟨⟨hlt, ?_, ?_⟩, by simp only; omega⟩ ⟨rfl, rfl, rfl, rfl, trivial⟩ (fun w hw => hw)
      · simp only [List.map_append, hls, hq, aloneA_succ]
      · simp only [List.length_append]; omega
    · simp only [decide_eq_false_iff_not] at t1
      have hkv : k = vars := by omega
      subst hkv
      refine H.keep [(0, _), (1, _), (7, _)] ⟨rfl, rfl, rfl, trivial⟩ ?_
      refine HX.exit ?_
      refine HX.then ?_
      refine HX.then ?_
      refine HX.hit ?_
      refine HN.then ?_
      refine H.seq ?_
      refine H.seq ?_
      refine H.region ?_
      refine H.q (yl_assign rfl) rfl rfl (by decide) ?_
      refine HN.done ?_
      refine HN.keep [(0, _), (1, _), (7, _), (9, _)] ⟨rfl, rfl, rfl, rfl, trivial⟩ ?_
      refine HN.then ?_
      refine H.block ?_
      refine H.loop (fun z : LZ => [(0, .int .i64 (k : Int)), (1, .slice adr rows.length capr), (7, z.v), (9, .int .i64 (z.k : Int))]) (fun z => z.k ≤ k ∧ z.ls.map (·.2) = aloneA (rowsE rows) k ++ (List.range z.k).flatMap (fun a => pairA (rowsE rows) k a) ∧ z.ls.length ≤ 6 * k + 100 * z.k) (fun z => Hp w0 [] (claimsRw z.v z.ls :: setsR z.ls) []) (fun z => k - z.k) ⟨0, v, ls⟩ ⟨Nat.zero_le _, by simpa using hls, by simpa using hlen⟩ ⟨rfl, rfl, rfl, rfl, trivial⟩ (fun w hw => hw) (fun z hI1 => ?_)
      obtain ⟨i, v1, ls1⟩ := z
      obtain ⟨hi, hls1, hlen1⟩ := hI1
      simp only at hi hls1 hlen1
      refine H.seq ?_
      refine H.seq ?_
      refine H.region ?_
      refine H.q (yl_move rfl) rfl rfl (by decide) ?_
      refine H.q (yl_move rfl) rfl rfl (by decide) ?_
      refine H.q (yl_lss rfl rfl) rfl rfl (by decide) ?_
      refine HN.done ?_
      refine HN.keep [(0, _), (1, _), (7, _), (9, _), (32, _)] ⟨rfl, rfl, rfl, rfl, rfl, trivial⟩ ?_
      refine HN.then ?_
      refine H.cond _ rfl (fun t2 => ?_) (fun t2 => ?_)
      · simp only [decide_eq_true_eq] at t2
        have hlti : i < k := by omega
        refine H.keep [(0, _), (1, _), (7, _), (9, _)] ⟨rfl, rfl, rfl, rfl, trivial⟩ ?_
        refine HN.skip ?_
        refine HN.then ?_
        refine H.seq ?_
        refine H.block ?_
        refine H.seq ?_
        refine H.region ?_
        refine H.q (yl_move rfl) rfl rfl (by decide) ?_
        refine H.q (yl_add rfl rfl ((i + 1 + 0 : Nat) : Int) (by show (i : Int) + 1 = _; omega) (by omega)) rfl rfl (by decide) ?_
        refine H.q (yl_assign rfl) rfl rfl (by decide) ?_
        refine HN.done ?_
        refine HN.keep [(0, _), (1, _), (7, _), (9, _), (10, _)] ⟨rfl, rfl, rfl, rfl, rfl, trivial⟩ ?_
        refine HN.then ?_
        refine H.block ?_
        refine H.loop (fun z : LZ => [(0, .int .i64 (k : Int)), (1, .slice adr rows.length capr), (7, z.v), (9, .int .i64 (i : Int)), (10, .int .i64 ((i + 1 + z.k : Nat) : Int))]) (fun z => z.k ≤ k - (i + 1) ∧ z.ls.map (·.2) = (aloneA (rowsE rows) k ++ (List.range i).flatMap (fun a => pairA (rowsE rows) k a)) ++ (((List.range k).drop (i + 1)).take z.k).flatMap (fun b => pairE (rowsE rows) i b) ∧ z.ls.length ≤ 6 * k + 100 * i + 2 * z.k) (fun z => Hp w0 [] (claimsRw z.v z.ls :: setsR z.ls) []) (fun z => k - (i + 1) - z.k) ⟨0, v1, ls1⟩ ⟨Nat.zero_le _, by simpa using hls1, by simpa using hlen1⟩ ⟨rfl, rfl, rfl, rfl, rfl, trivial⟩ (fun w hw => hw) (fun z hI2 => ?_)
        obtain ⟨j, v2, ls2⟩ := z
        obtain ⟨hj, hls2, hlen2⟩ := hI2
        simp only at hj hls2 hlen2
        refine H.seq ?_
        refine H.seq ?_
        refine H.region ?_
        refine H.q (yl_move rfl) rfl rfl (by decide) ?_
        refine H.q (yl_move rfl) rfl rfl (by decide) ?_
        refine H.q (yl_lss rfl rfl) rfl rfl (by decide) ?_
        refine HN.done ?_
        refine HN.keep [(0, _), (1, _), (7, _), (9, _), (10, _), (39, _)] ⟨rfl, rfl, rfl, rfl, rfl, rfl, trivial⟩ ?_
        refine HN.then ?_
        refine H.cond _ rfl (fun t3 => ?_) (fun t3 => ?_)
        · simp only [decide_eq_true_eq] at t3
          have hltj : j < k - (i + 1) := by omega
          have hnext : ((List.range k).drop (i + 1)).take (j + 1) = ((List.range k).drop (i + 1)).take j ++ [i + 1 + j] := by
            rw [List.take_succ_eq_append_getElem (by simp; omega)]
            simp
          refine H.keep [(0, _), (1, _), (7, _), (9, _), (10, _)] ⟨rfl, rfl, rfl, rfl, rfl, trivial⟩ ?_
          refine HN.skip ?_
          refine HN.then ?_
          -- branchy seq 0, live: [0, 1, 7, 9, 10]
          refine H.seq ?_
          refine H.block ?_
          refine H.seq ?_
          refine H.region ?_
          refine H.q (yl_move rfl) rfl rfl (by decide) ?_
          refine H.q (yl_move rfl) rfl rfl (by decide) ?_
          refine H.callX (α := Option Addr × Nat) (xs := [.tmp 42, .tmp 43]) (fun z => .slice z.1 (factsE (rowsE rows) i).length z.2) (fun _ => True) (fun _ => Hp w0 [] (claimsRw v2 ls2 :: setsR ls2) []) Tryz.call60 rfl (by decide) (fun w hw => (refColumn_len k _ rows w (ht.ext hw.ext) i (by omega) hw).mono fun e w' h => by obtain ⟨z, h1, h2⟩ := h; exact ⟨z, h1, trivial, h2⟩) (fun q1 _ => ?_)
          refine H.q (yl_len rfl Tryz.underlying23 rfl) rfl rfl (by decide) ?_
          refine H.q (yl_gtr rfl rfl) rfl rfl (by decide) ?_
          refine H.q (yl_move rfl) rfl rfl (by decide) ?_
          refine H.qg (wn_t rfl rfl (by decide) rfl) (fun hg => yl_sub [(1, _)] ⟨rfl, trivial⟩ (yl_move rfl)) rfl (by decide) ?_
          refine H.qg (wn_t rfl rfl (by decide) rfl) (fun hg => yl_sub [(10, _)] ⟨rfl, trivial⟩ (yl_move rfl)) rfl (by decide) ?_
          refine H.callGX (α := Option Addr × Nat) (xs := [.tmp 48, .tmp 49]) (fun z => .slice z.1 (factsE (rowsE rows) (i + 1 + j)).length z.2) (none, 0) Tryz.call60 (wn_t rfl rfl (by decide) rfl) [(48, _), (49, _)] (fun hg => ⟨slT rfl hg, slT rfl hg, trivial⟩) rfl (by decide) (fun hg w hw => refColumn_len k _ rows w (ht.ext hw.ext) (i + 1 + j) (by omega) hw) (fun q2 => ?_)
          refine H.qg (wn_t rfl rfl (by decide) rfl) (fun hg => yl_sub [(50, _)] ⟨slT rfl hg, trivial⟩ (yl_len rfl Tryz.underlying23 rfl)) rfl (by decide) ?_
          refine H.qg (wn_t rfl rfl (by decide) rfl) (fun hg => yl_sub [(51, _)] ⟨slT rfl hg, trivial⟩ (yl_gtr rfl rfl)) rfl (by decide) ?_
          refine H.q (yl_and rfl rfl) rfl rfl (by decide) ?_
          refine HN.done ?_
          refine HN.keep [(0, _), (1, _), (7, _), (9, _), (10, _), (53, _)] ⟨rfl, rfl, rfl, rfl, rfl, rfl, trivial⟩ ?_
          refine HN.then ?_
          refine H.cond _ rfl (fun t4 => ?_) (fun t4 => ?_)
          · have hbig : (factsE (rowsE rows) i).length > 1 ∧ (factsE (rowsE rows) (i + 1 + j)).length > 1 := by
              simp only [Bool.and_eq_true, decide_eq_true_eq] at t4
              omega
            have hpair : pairE (rowsE rows) i (i + 1 + j) = coupleE (rowsE rows) (factsE (rowsE rows) i) (factsE (rowsE rows) (i + 1 + j)) i (i + 1 + j : Nat) := if_pos hbig
            refine H.keep [(0, _), (1, _), (7, _), (9, _), (10, _)] ⟨rfl, rfl, rfl, rfl, rfl, trivial⟩ ?_
            refine H.region ?_
            refine H.q (yl_move rfl) rfl rfl (by decide) ?_
            refine H.q (yl_move rfl) rfl rfl (by decide) ?_
            refine H.q (yl_move rfl) rfl rfl (by decide) ?_
            refine H.q (yl_move rfl) rfl rfl (by decide) ?_
            refine H.call (α := Value × List (Value × Inv)) (xs := [.tmp 55, .tmp 56, .tmp 57]) (fun q => q.1) (fun q => q.2.map (·.2) = coupleE (rowsE rows) (factsE (rowsE rows) i) (factsE (rowsE rows) (i + 1 + j)) i (i + 1 + j : Nat)) (fun q => claimsRw q.1 q.2 :: setsR q.2) (fun _ => []) Tryz.call61 rfl (by decide) (fun w hw => (refPair_any k _ rows w (ht.ext hw.ext) h0 hv8 i (i + 1 + j) (by omega) (by omega)).mono fun e w' h => by obtain ⟨v, l, h1, h2, h3⟩ := h; exact ⟨(v, l), h1, h2, h3, fun _ hh => by cases hh⟩) (fun q hq => ?_)
            obtain ⟨u, l2⟩ := q
            simp only at hq
            refine H.pull (fun w hw => Rw.isSlice (v := u) (len := l2.length) (hw.row 0 rfl)) (fun ho => ?_)
            obtain ⟨adu, capu, rfl⟩ := ho
            refine H.pull (fun w hw => sets_one (ls := l2) (fun r hr => hw.rows r (List.mem_append.2 (.inl (List.mem_cons_of_mem _ hr))))) (fun hone => ?_)
            have hl2 : l2.length ≤ 2 := by have h1 := congrArg List.length hq; have h2 := couple_len (rowsE rows) (factsE (rowsE rows) i) (factsE (rowsE rows) (i + 1 + j)) i (i + 1 + j); rw [List.length_map] at h1; omega
            refine H.cls (Hp w0 [] (claimsRw v2 ls2 :: claimsRw (.slice adu l2.length capu) l2 :: setsR (ls2 ++ l2)) []) (fun w hw => hw.permR (by classical exact List.perm_iff_count.2 (fun x => by simp only [setsR_append, List.count_append, List.count_cons, List.cons_append] <;> omega))) ?_
            refine H.append 0 (l2.map cellsI).flatten el28 rfl rfl rfl (flat6 l2) (fun w hw => Rw.news (hw.row 1 rfl)) (claims_one hone) (by simp only; omega) (by decide) (by decide) (fun v59 => ?_)
            refine H.cls (Hp w0 [] (claimsRw v59 (ls2 ++ l2) :: setsR (ls2 ++ l2)) []) (fun w hw => ?_) ?_
            · rw [claimsRw_append]
              refine Hp.dropR (r := claimsRw (.slice adu l2.length capu) l2) ?_
              exact hw.permR (by classical exact List.perm_iff_count.2 (fun x => by simp only [setsR_append, List.set_cons_zero, List.count_append, List.count_cons] <;> omega))
            refine H.q (yl_assign rfl) rfl rfl (by decide) ?_
            refine HN.done ?_
            refine HN.keep [(0, _), (1, _), (7, _), (9, _), (10, _)] ⟨rfl, rfl, rfl, rfl, rfl, trivial⟩ ?_
            refine HN.block ?_
            refine HN.then ?_
            refine H.region ?_
            refine H.q (yl_move rfl) rfl rfl (by decide) ?_
            refine H.q (yl_add rfl rfl ((i + 1 + (j + 1) : Nat) : Int) (by show ((i + 1 + j : Nat) : Int) + 1 = _; omega) (by omega)) rfl rfl (by decide) ?_
            refine H.q (yl_assign rfl) rfl rfl (by decide) ?_
            refine HN.done ?_
            refine HN.keep [(0, _), (1, _), (7, _), (9, _), (10, _)] ⟨rfl, rfl, rfl, rfl, rfl, trivial⟩ ?_
            refine HN.then ?_
            refine H.at ⟨j + 1, v59, ls2 ++ l2⟩ ⟨⟨hltj, ?_, ?_⟩, by simp only; omega⟩ ⟨rfl, rfl, rfl, rfl, rfl, trivial⟩ (fun w hw => hw)
            · simp only [List.map_append, hls2, hq, hnext, List.flatMap_append, List.flatMap_cons, List.flatMap_nil, List.append_nil, hpair, List.append_assoc]
            · simp only [List.length_append]; omega
          · have hbig : ¬ ((factsE (rowsE rows) i).length > 1 ∧ (factsE (rowsE rows) (i + 1 + j)).length > 1) := by
              intro h
              simp only [Bool.and_eq_false_iff, decide_eq_false_iff_not] at t4
              omega
            have hpair : pairE (rowsE rows) i (i + 1 + j) = [] := if_neg hbig
            refine H.keep [(0, _), (1, _), (7, _), (9, _), (10, _)] ⟨rfl, rfl, rfl, rfl, rfl, trivial⟩ ?_
            refine HN.skip ?_
            refine HN.block ?_
            refine HN.then ?_
            refine H.region ?_
            refine H.q (yl_move rfl) rfl rfl (by decide) ?_
            refine H.q (yl_add rfl rfl ((i + 1 + (j + 1) : Nat) : Int) (by show ((i + 1 + j : Nat) : Int) + 1 = _; omega) (by omega)) rfl rfl (by decide) ?_
            refine H.q (yl_assign rfl) rfl rfl (by decide) ?_
            refine HN.done ?_
            refine HN.keep [(0, _), (1, _), (7, _), (9, _), (10, _)] ⟨rfl, rfl, rfl, rfl, rfl, trivial⟩ ?_
            refine HN.then ?_
            refine H.at ⟨j + 1, v2, ls2⟩ ⟨⟨hltj, ?_, ?_⟩, by simp only; omega⟩ ⟨rfl, rfl, rfl, rfl, rfl, trivial⟩ (fun w hw => hw)
            · simp only [hls2, hnext, List.flatMap_append, List.flatMap_cons, List.flatMap_nil, List.append_nil, hpair]
            · simp only; omega
        · simp only [decide_eq_false_iff_not] at t3
          have hjl : j = k - (i + 1) := by omega
          have htake : ((List.range k).drop (i + 1)).take j = (List.range k).drop (i + 1) := List.take_of_length_le (by simp; omega)
          rw [htake] at hls2
          refine H.keep [(0, _), (1, _), (7, _), (9, _)] ⟨rfl, rfl, rfl, rfl, trivial⟩ ?_
          refine HX.exit ?_
          refine HX.then ?_
          refine HX.then ?_
          refine HX.hit ?_
          refine HN.block ?_
          refine HN.then ?_
          refine H.region ?_
          refine H.q (yl_move rfl) rfl rfl (by decide) ?_
          refine H.q (yl_add rfl rfl ((i : Int) + 1) rfl (by omega)) rfl rfl (by decide) ?_
          refine H.q (yl_assign rfl) rfl rfl (by decide) ?_
          refine HN.done ?_
          refine HN.keep [(0, _), (1, _), (7, _), (9, _)] ⟨rfl, rfl, rfl, rfl, trivial⟩ ?_
          refine HN.then ?_
          refine H.at ⟨i + 1, v2, ls2⟩ ⟨⟨by simp only; omega, ?_, by simp only; omega⟩, by simp only; omega⟩ ⟨rfl, rfl, rfl, rfl, trivial⟩ (fun w hw => hw)
          simp only [hls2, List.range_succ, List.flatMap_append, List.flatMap_cons, List.flatMap_nil, List.append_nil, List.append_assoc]
          rfl
      · simp only [decide_eq_false_iff_not] at t2
        have hik : i = k := by omega
        subst hik
        refine H.keep [(7, _)] ⟨rfl, trivial⟩ ?_
        refine HX.exit ?_
        refine HX.then ?_
        refine HX.then ?_
        refine HX.hit ?_
        refine HN.then ?_
        refine H.seq ?_
        refine H.region ?_
        refine H.q (yl_move rfl) rfl rfl (by decide) ?_
        refine H.q (yl_assign rfl) rfl rfl (by decide) ?_
        refine HN.done ?_
        refine HN.keep [(6, _)] ⟨rfl, trivial⟩ ?_
        refine HN.then ?_
        refine HR.ret ?_
        refine HR.ret1 _ Tryz.results25 rfl (fun w hw => ?_)
        refine ⟨v1, ls1, rfl, ?_, hw⟩
        rw [hls1, claimsE_eq (by simpa using hsp)]
        rfl

end Go.Proofs.YtgbgddmbooaddaaGreatDoor

namespace Go.Proofs.YtgbgddmbooaddaaGreatDoor
open Go.RowKit


/-- The rows that are in order. -/
def ownL (vars : Nat) (la : List (Value × List Int)) : List (Value × List Int) := la.filter fun p => decide (addE p.2 vars = 0)
theorem own_take {vars : Nat} {la : List (Value × List Int)} {k : Nat} (h : k < la.length) : ownL vars (la.take (k + 1)) = ownL vars (la.take k) ++ (if addE la[k].2 vars = 0 then [la[k]] else []) := by
  unfold ownL
  rw [List.take_succ_eq_append_getElem h, List.filter_append]
  congr 1
  by_cases h1 : addE la[k].2 vars = 0 <;> simp [h1]
theorem own_mem {vars : Nat} {la : List (Value × List Int)} {p : Value × List Int} (h : p ∈ ownL vars la) : p ∈ la ∧ p.2.length = vars ∧ allSmallB p.2 = true := by
  unfold ownL at h
  rw [List.mem_filter] at h
  have h1 : rowE p.2 vars = 0 := by rw [rowE_add]; simpa using h.2
  have h2 := rowE_ok h1
  exact ⟨h.1, by omega, h2.2⟩
theorem own_len (vars : Nat) (la : List (Value × List Int)) : (ownL vars la).length ≤ la.length := List.length_filter_le _ _
theorem own_ok (vars : Nat) (la : List (Value × List Int)) : Okr (rowsE (ownL vars la)) vars := fun r hr => by
  obtain ⟨p, hp, rfl⟩ := List.mem_map.1 hr
  exact (own_mem hp).2
theorem own_tbl {w w0 : World} {vars : Nat} {la : List (Value × List Int)} {rva ov : Value} (hla : IsRows w0 rva la) (he : Ext w0 w) (hl : la.length ≤ 1000) (hr : Rw.ok w (minerRw ov (ownL vars la))) : RTbl w vars ov (ownL vars la) :=
  ⟨⟨Rw.isSl hr rfl, fun p hp => (hla.2 p (own_mem hp).1).ext he⟩, fun p hp => (own_mem hp).2.1, by have := own_len vars la; omega, fun p hp x hx => List.all_eq_true.1 (own_mem hp).2.2 x hx⟩
structure MZ5 where
  k : Nat
  rv : Value
  new : List (Value × List Int)
  ov : Value

set_option maxRecDepth 100000 in
theorem mines_any (v : Int) (la : List (Value × List Int)) (rva : Value) (l : List (Value × Inv)) (lv : Value) (s : Int) (w0 : World) (hvars : Vars w0) (hla : IsRows w0 rva la) (hl : IsClaims w0 lv l) : Calls Tryz.prog 5 #[.int .i64 v, rva, lv, .int .i64 s] w0 fun e w' => e = .returned (.bool true) ∧ Ext w0 w' := by
  obtain ⟨ad, cap, b, o, rfl, hcap, hs⟩ := claims_open hl
  obtain ⟨adr, capr, br, orr, rfl, hcapr, hsr⟩ := rows_open hla
  refine enterA 141 Tryz.func5 rfl Tryz.ntmps5 rfl (Hp w0 [] [] []) (Hp.init _) ?_
  refine H.seq ?_
  refine H.region ?_
  refine H.q (yl_assign rfl) rfl rfl (by decide) ?_
  refine HN.done ?_
  refine HN.keep [(0, _), (1, _), (2, _), (3, _)] ⟨rfl, rfl, rfl, rfl, trivial⟩ ?_
  refine HN.then ?_
  refine H.seq ?_
  refine H.seq ?_
  refine H.region ?_
  refine H.q (yl_move rfl) rfl rfl (by decide) ?_
  refine H.q (yl_move rfl) rfl rfl (by decide) ?_
  refine H.q (yl_call (xs := [.tmp 19, .tmp 20, .const (.slice none 0 0)]) Tryz.call10 (stab_hp _ _ _ _) rfl (fun w hw => wide_any l (.slice ad l.length cap) la (.slice adr la.length capr) [] (.slice none 0 0) w (hl.ext hw.ext) (hla.ext hw.ext) (strs_nil w))) rfl rfl (by decide) ?_
  refine HN.done ?_
  refine HN.keep [(0, _), (1, _), (2, _), (3, _), (21, _)] ⟨rfl, rfl, rfl, rfl, rfl, trivial⟩ ?_
  refine HN.then ?_
  refine H.cond _ rfl (fun t0 => ?_) (fun t0 => ?_)
  · refine H.keep [] trivial ?_
    refine H.seq ?_
    refine H.region ?_
    refine H.q (yl_call (xs := []) Tryz.call11 (stab_hp _ _ _ _) rfl (fun w hw => learns_any w (hvars.ext hw.ext))) rfl rfl (by decide) ?_
    refine H.q (yl_assign rfl) rfl rfl (by decide) ?_
    refine HN.done ?_
    refine HN.keep [(8, _)] ⟨rfl, trivial⟩ ?_
    refine HN.then ?_
    refine HR.ret ?_
    refine HR.then ?_
    refine HR.ret1 _ Tryz.results5 rfl (fun w hw => ?_)
    exact ⟨rfl, hw.ext⟩
  · have hw0 : wideB (l.map (·.2)) (la.map (·.2)) [] = false := t0
    have hll := (wide_sets hw0).1
    have hrl := (wide_rows hw0).1
    rw [List.length_map] at hll hrl
    refine H.keep [(0, _), (1, _), (2, _), (3, _)] ⟨rfl, rfl, rfl, rfl, trivial⟩ ?_
    refine HN.skip ?_
    refine HN.then ?_
    refine H.seq ?_
    refine H.region ?_
    refine H.q (yl_move rfl) rfl rfl (by decide) ?_
    refine H.callX (α := Nat × Option Addr × Int) (xs := [.tmp 24]) (fun q => .tuple #[.pointer q.2.1, .int .i64 q.2.2]) (fun q => (v < 1 ∧ q.2.1 = none ∧ q.2.2 = 1) ∨ (8 < v ∧ q.2.1 = none ∧ q.2.2 = 3) ∨ (1 ≤ v ∧ v ≤ 8 ∧ q.2.1 = some ⟨q.1, 0, none⟩ ∧ q.2.2 = 0)) (fun q w => (1 ≤ v ∧ v ≤ 8 → Hp w0 [minerB q.1 v.toNat (.slice none 0 0)] [] [] w) ∧ Ext w0 w) Tryz.call17 rfl (by decide) (fun w hw => (new_any v w).mono fun e w' h => by
      rcases h with ⟨h1, h2, h3⟩ | ⟨h1, h2, h3⟩ | ⟨h1, h2, bm, h3, h4⟩
      · exact ⟨(0, none, 1), h2, .inl ⟨h1, rfl, rfl⟩, fun hh => absurd h1 (by omega), hw.ext.trans h3⟩
      · exact ⟨(0, none, 3), h2, .inr (.inl ⟨h1, rfl, rfl⟩), fun hh => absurd h1 (by omega), hw.ext.trans h3⟩
      · have e1 : ((v.toNat : Nat) : Int) = v := Int.toNat_of_nonneg (by omega)
        refine ⟨(bm, some ⟨bm, 0, none⟩, 0), h3, .inr (.inr ⟨h1, h2, rfl, rfl⟩), fun _ => ?_, hw.ext.trans h4.ext⟩
        show Hp w0 [(bm, ex (.cells #[.int .i64 (v.toNat : Int), .slice none 0 0] 94))] [] [] w'
        rw [e1]
        exact hw.join h4) (fun q hq => ?_)
    obtain ⟨bm, pm, em⟩ := q
    simp only at hq
    refine H.q (yl_move rfl) rfl rfl (by decide) ?_
    refine H.q (yl_extract _ rfl rfl) rfl rfl (by decide) ?_
    refine H.q (yl_extract _ rfl rfl) rfl rfl (by decide) ?_
    refine H.q (yl_assign rfl) rfl rfl (by decide) ?_
    refine H.q (yl_assign rfl) rfl rfl (by decide) ?_
    refine HN.done ?_
    refine HN.keep [(0, _), (1, _), (2, _), (3, _), (9, _), (10, _)] ⟨rfl, rfl, rfl, rfl, rfl, rfl, trivial⟩ ?_
    refine HN.then ?_
    refine H.seq ?_
    refine H.seq ?_
    refine H.region ?_
    refine H.q (yl_move rfl) rfl rfl (by decide) ?_
    refine H.q (yl_lss rfl rfl) rfl rfl (by decide) ?_
    refine H.q (yl_move rfl) rfl rfl (by decide) ?_
    refine H.qg (wn_f rfl rfl (by decide) rfl) (fun hg => yl_sub [(0, _)] ⟨rfl, trivial⟩ (yl_move rfl)) rfl (by decide) ?_
    refine H.qg (wn_f rfl rfl (by decide) rfl) (fun hg => yl_sub [(31, _)] ⟨slT rfl hg, trivial⟩ (yl_gtr rfl rfl)) rfl (by decide) ?_
    refine H.q (yl_or rfl rfl) rfl rfl (by decide) ?_
    refine HN.done ?_
    refine HN.keep [(0, _), (1, _), (2, _), (3, _), (9, _), (10, _), (33, _)] ⟨rfl, rfl, rfl, rfl, rfl, rfl, rfl, trivial⟩ ?_
    refine HN.then ?_
    refine H.cond _ rfl (fun t1 => ?_) (fun t1 => ?_)
    · have hq1 : pm = none ∧ ((v < 1 ∧ em = 1) ∨ (8 < v ∧ em = 3)) := by
        simp only [Bool.or_eq_true, decide_eq_true_eq] at t1
        rcases hq with h | h | h
        · exact ⟨h.2.1, .inl ⟨h.1, h.2.2⟩⟩
        · exact ⟨h.2.1, .inr ⟨h.1, h.2.2⟩⟩
        · omega
      obtain ⟨rfl, hq2⟩ := hq1
      refine H.cls (fun w => Ext w0 w) (fun w hw => hw.2) ?_
      refine H.keep [(0, _), (9, _), (10, _)] ⟨rfl, rfl, rfl, trivial⟩ ?_
      refine H.seq ?_
      refine H.region ?_
      refine H.q (yl_move rfl) rfl rfl (by decide) ?_
      refine H.q (yl_ptrEql Tryz.underlying38 rfl) rfl rfl (by decide) ?_
      refine H.q (yl_move rfl) rfl rfl (by decide) ?_
      refine H.qg (wn_t rfl rfl (by decide) rfl) (fun hg => yl_sub [(0, _)] ⟨rfl, trivial⟩ (yl_move rfl)) rfl (by decide) ?_
      refine H.qg (wn_t rfl rfl (by decide) rfl) (fun hg => yl_sub [(37, _)] ⟨slT rfl hg, trivial⟩ (yl_lss rfl rfl)) rfl (by decide) ?_
      refine H.qg (wn_t rfl rfl (by decide) rfl) (fun hg => yl_sub [(38, _)] ⟨slT rfl hg, trivial⟩ (yl_move rfl)) rfl (by decide) ?_
      refine H.qg (wn_gt rfl rfl (by decide) rfl) (fun hg => yl_sub [(10, _)] ⟨rfl, trivial⟩ (yl_move rfl)) rfl (by decide) ?_
      refine H.qg (wn_gt rfl rfl (by decide) rfl) (fun hg => yl_sub [(40, _)] ⟨slT rfl hg, trivial⟩ (yl_eql rfl rfl)) rfl (by decide) ?_
      refine H.qg (wn_t rfl rfl (by decide) rfl) (fun hg => yl_sub [(39, _), (41, _)] ⟨slT rfl hg, slA rfl hg, trivial⟩ (yl_and rfl rfl)) rfl (by decide) ?_
      refine H.qg (wn_t rfl rfl (by decide) rfl) (fun hg => yl_sub [(42, _)] ⟨slT rfl hg, trivial⟩ (yl_move rfl)) rfl (by decide) ?_
      refine H.qg (wn_gf rfl rfl (by decide) rfl) (fun hg => yl_sub [(0, _)] ⟨rfl, trivial⟩ (yl_move rfl)) rfl (by decide) ?_
      refine H.qg (wn_gf rfl rfl (by decide) rfl) (fun hg => yl_sub [(44, _)] ⟨slT rfl hg, trivial⟩ (yl_gtr rfl rfl)) rfl (by decide) ?_
      refine H.qg (wn_gf rfl rfl (by decide) rfl) (fun hg => yl_sub [(45, _)] ⟨slT rfl hg, trivial⟩ (yl_move rfl)) rfl (by decide) ?_
      refine H.qg (wn_gt rfl rfl (by decide) rfl) (fun hg => yl_sub [(10, _)] ⟨rfl, trivial⟩ (yl_move rfl)) rfl (by decide) ?_
      refine H.qg (wn_gt rfl rfl (by decide) rfl) (fun hg => yl_sub [(47, _)] ⟨slT rfl hg, trivial⟩ (yl_eql rfl rfl)) rfl (by decide) ?_
      refine H.qg (wn_gf rfl rfl (by decide) rfl) (fun hg => yl_sub [(46, _), (48, _)] ⟨slT rfl hg, slA rfl hg, trivial⟩ (yl_and rfl rfl)) rfl (by decide) ?_
      refine H.qg (wn_t rfl rfl (by decide) rfl) (fun hg => yl_sub [(43, _), (49, _)] ⟨slT rfl hg, slA rfl hg, trivial⟩ (yl_or rfl rfl)) rfl (by decide) ?_
      refine H.q (yl_and rfl rfl) rfl rfl (by decide) ?_
      refine H.q (yl_move rfl) rfl rfl (by decide) ?_
      refine H.qg (wn_t rfl rfl (by decide) rfl) (fun hg => yl_call (xs := []) Tryz.call11 (fun w w' h k => h.trans k) rfl (fun w hw => learns_any w (hvars.ext hw))) rfl (by decide) ?_
      refine H.q (yl_and rfl rfl) rfl rfl (by decide) ?_
      refine H.q (yl_assign rfl) rfl rfl (by decide) ?_
      refine HN.done ?_
      refine HN.keep [(8, _)] ⟨rfl, trivial⟩ ?_
      refine HN.then ?_
      refine HR.ret ?_
      refine HR.then ?_
      refine HR.ret1 _ Tryz.results5 rfl (fun w hw => ?_)
      refine ⟨?_, hw⟩
      rcases hq2 with ⟨h1, rfl⟩ | ⟨h1, rfl⟩
      · simp [h1]
      · have h2 : ¬ v < 1 := by omega
        simp [h1, h2]
    · have hq1 : 1 ≤ v ∧ v ≤ 8 ∧ pm = some ⟨bm, 0, none⟩ ∧ em = 0 := by
        simp only [Bool.or_eq_false_iff, decide_eq_false_iff_not] at t1
        rcases hq with h | h | h
        · omega
        · omega
        · exact h
      obtain ⟨hv1', hv8', rfl, rfl⟩ := hq1
      clear hq
      obtain ⟨vars, rfl⟩ : ∃ vars : Nat, v = (vars : Int) := ⟨v.toNat, by omega⟩
      have hv1 : 1 ≤ vars := by omega
      have hv8 : vars ≤ 8 := by omega
      refine H.cls (Hp w0 [minerB bm vars (.slice none 0 0)] [] []) (fun w hw => hw.1 ⟨hv1', hv8'⟩) ?_
      refine H.keep [(0, _), (1, _), (2, _), (3, _), (9, _), (10, _)] ⟨rfl, rfl, rfl, rfl, rfl, rfl, trivial⟩ ?_
      refine HN.skip ?_
      refine HN.then ?_
      refine H.seq ?_
      refine H.seq ?_
      refine H.region ?_
      refine H.q (yl_move rfl) rfl rfl (by decide) ?_
      refine H.q (yl_neq rfl rfl) rfl rfl (by decide) ?_
      refine H.q (yl_move rfl) rfl rfl (by decide) ?_
      refine H.qg (wn_f rfl rfl (by decide) rfl) (fun hg => yl_sub [(9, _)] ⟨rfl, trivial⟩ (yl_move rfl)) rfl (by decide) ?_
      refine H.qg (wn_f rfl rfl (by decide) rfl) (fun hg => yl_sub [(58, _)] ⟨slT rfl hg, trivial⟩ (yl_ptrEql Tryz.underlying38 rfl)) rfl (by decide) ?_
      refine H.q (yl_or rfl rfl) rfl rfl (by decide) ?_
      refine HN.done ?_
      refine HN.keep [(0, _), (1, _), (2, _), (3, _), (9, _), (60, _)] ⟨rfl, rfl, rfl, rfl, rfl, rfl, trivial⟩ ?_
      refine HN.then ?_
      refine H.cond _ rfl (fun t2 => ?_) (fun t2 => ?_)
      · simp at t2
        done
      · refine H.keep [(0, _), (1, _), (2, _), (3, _), (9, _)] ⟨rfl, rfl, rfl, rfl, rfl, trivial⟩ ?_
        refine HN.skip ?_
        refine HN.then ?_
        refine H.seq ?_
        refine H.region ?_
        refine H.q (yl_assign rfl) rfl rfl (by decide) ?_
        refine HN.done ?_
        refine HN.keep [(0, _), (1, _), (2, _), (3, _), (9, _), (11, _)] ⟨rfl, rfl, rfl, rfl, rfl, rfl, trivial⟩ ?_
        refine HN.then ?_
        refine H.seq ?_
        refine H.seq ?_
        refine H.region ?_
        refine H.q (yl_assign rfl) rfl rfl (by decide) ?_
        refine HN.done ?_
        refine HN.keep [(0, _), (1, _), (2, _), (3, _), (9, _), (11, _), (12, _)] ⟨rfl, rfl, rfl, rfl, rfl, rfl, rfl, trivial⟩ ?_
        refine HN.then ?_
        refine H.block ?_
        refine H.loop (fun z : MZ5 => [(0, .int .i64 (vars : Int)), (1, .slice adr la.length capr), (2, .slice ad l.length cap), (3, .int .i64 s), (9, .pointer (some ⟨bm, 0, none⟩)), (11, z.ov), (12, .int .i64 (z.k : Int))]) (fun z => z.k ≤ la.length ∧ z.new.map (·.2) = rowsE (ownL vars (la.take z.k))) (fun z => Hp w0 [minerB bm vars z.rv] (minerRw z.ov (ownL vars (la.take z.k)) :: (minerRw z.rv z.new :: rowsR z.new)) []) (fun z => la.length - z.k) ⟨0, .slice none 0 0, [], .slice none 0 0⟩ ⟨Nat.zero_le _, rfl⟩ ⟨rfl, rfl, rfl, rfl, rfl, rfl, rfl, trivial⟩ (fun w hw => (hw.rowNil 23 1).rowNil 23 1) (fun z hI => ?_)
        obtain ⟨k, rv, new, ov⟩ := z
        obtain ⟨hk, hnew⟩ := hI
        simp only at hk hnew
        have hol : (ownL vars (la.take k)).length ≤ 1000 := by have h1 := own_len vars (la.take k); have h2 := List.length_take_le k la; omega
        have hnl : new.length ≤ 1000 := by have := congrArg List.length hnew; rw [List.length_map, List.length_map] at this; omega
        refine H.seq ?_
        refine H.seq ?_
        refine H.region ?_
        refine H.q (yl_move rfl) rfl rfl (by decide) ?_
        refine H.q (yl_move rfl) rfl rfl (by decide) ?_
        refine H.q (yl_len rfl Tryz.underlying37 rfl) rfl rfl (by decide) ?_
        refine H.q (yl_lss rfl rfl) rfl rfl (by decide) ?_
        refine HN.done ?_
        refine HN.keep [(0, _), (1, _), (2, _), (3, _), (9, _), (11, _), (12, _), (64, _)] ⟨rfl, rfl, rfl, rfl, rfl, rfl, rfl, rfl, trivial⟩ ?_
        refine HN.then ?_
        refine H.cond _ rfl (fun t3 => ?_) (fun t3 => ?_)
        · simp only [decide_eq_true_eq] at t3
          have hlt : k < la.length := by omega
          have hlk : la[k].2.length ≤ 1000 := by have := (wide_rows hw0).2 la[k].2 (List.mem_map.2 ⟨la[k], List.getElem_mem hlt, rfl⟩); omega
          obtain ⟨adk, capk, bk, ok, h4k, hcapk, hsk⟩ := ints_open (hsr k hlt).2.2
          have hown := own_take (vars := vars) hlt
          refine H.keep [(0, _), (1, _), (2, _), (3, _), (9, _), (11, _), (12, _)] ⟨rfl, rfl, rfl, rfl, rfl, rfl, rfl, trivial⟩ ?_
          refine HN.skip ?_
          refine HN.then ?_
          -- branchy seq 0, live: [0, 1, 2, 3, 9, 11, 12]
          refine H.seq ?_
          refine H.block ?_
          refine H.seq ?_
          refine H.region ?_
          refine H.q (yl_move rfl) rfl rfl (by decide) ?_
          refine H.q (yl_move rfl) rfl rfl (by decide) ?_
          refine H.q (yl_ix k Tryz.underlying37 Tryz.sizeOf23 (hsr k hlt).1 rfl rfl rfl hlt) rfl rfl (by decide) ?_
          refine H.q (yl_load Tryz.isAgg23 rfl (fun w hw => (cell_ext hw.ext (hsr k hlt).2.1).trans (by rw [h4k]))) rfl rfl (by decide) ?_
          refine H.q (yl_move rfl) rfl rfl (by decide) ?_
          refine H.q (yl_to (yl_call (xs := [.tmp 70, .tmp 71]) Tryz.call18 (stab_hp _ _ _ _) rfl (fun w hw => row_any la[k].2 (.slice adk la[k].2.length capk) (vars : Int) w (by omega) (by rw [← h4k]; exact (hsr k hlt).2.2.ext hw.ext))) (show Value.int .i64 _ = .int .i64 (addE la[k].2 vars) by rw [rowE_add])) rfl rfl (by decide) ?_
          refine H.q (yl_assign rfl) rfl rfl (by decide) ?_
          refine HN.done ?_
          refine HN.keep [(0, _), (1, _), (2, _), (3, _), (9, _), (11, _), (12, _), (13, _)] ⟨rfl, rfl, rfl, rfl, rfl, rfl, rfl, rfl, trivial⟩ ?_
          refine HN.then ?_
          refine H.seq ?_
          refine H.seq ?_
          refine H.region ?_
          refine H.q (yl_move rfl) rfl rfl (by decide) ?_
          refine H.q (yl_move rfl) rfl rfl (by decide) ?_
          refine H.q (yl_move rfl) rfl rfl (by decide) ?_
          refine H.q (yl_ix k Tryz.underlying37 Tryz.sizeOf23 (hsr k hlt).1 rfl rfl rfl hlt) rfl rfl (by decide) ?_
          refine H.q (yl_load Tryz.isAgg23 rfl (fun w hw => (cell_ext hw.ext (hsr k hlt).2.1).trans (by rw [h4k]))) rfl rfl (by decide) ?_
          refine H.callX (α := Value × List (Value × List Int)) (xs := [.tmp 73, .tmp 77]) (fun _ => .int .i64 (addE la[k].2 vars)) (fun q => q.2.map (·.2) = rowsE (ownL vars (la.take (k + 1)))) (fun q => Hp w0 [minerB bm vars q.1] (minerRw ov (ownL vars (la.take k)) :: (minerRw q.1 q.2 :: rowsR q.2)) []) Tryz.call19 rfl (by decide) (fun w hw => (add_any la[k].2 (.slice adk la[k].2.length capk) bm vars rv new w0 [] [minerRw ov (ownL vars (la.take k))] [] w (by omega) hv1 hlk (fun w' hw' => by rw [← h4k]; exact (hsr k hlt).2.2.ext hw'.ext) (hw.permR (by classical exact List.perm_iff_count.2 (fun x => by simp only [List.count_append, List.count_cons, List.count_nil] <;> omega)))).mono fun e w' h => by
            rcases h with ⟨h1, h2, h3⟩ | ⟨h1, h2, rv', cv, h3⟩
            · exact ⟨(rv, new), h2, by rw [hown, if_neg h1, List.append_nil]; exact hnew, h3.permR (by classical exact List.perm_iff_count.2 (fun x => by simp only [List.count_append, List.count_cons, List.count_nil] <;> omega))⟩
            · exact ⟨(rv', new ++ [(cv, la[k].2)]), by rw [h1]; exact h2, by rw [hown, if_pos h1, List.map_append, hnew]; simp, h3.permR (by classical exact List.perm_iff_count.2 (fun x => by simp only [rowsR_append, List.count_append, List.count_cons, List.count_nil] <;> omega))⟩) (fun q hq => ?_)
          obtain ⟨rv2, new2⟩ := q
          simp only at hq
          refine H.q (yl_move rfl) rfl rfl (by decide) ?_
          refine H.q (yl_neq rfl rfl) rfl rfl (by decide) ?_
          refine HN.done ?_
          refine HN.keep [(0, _), (1, _), (2, _), (3, _), (9, _), (11, _), (12, _), (13, _), (80, _)] ⟨rfl, rfl, rfl, rfl, rfl, rfl, rfl, rfl, rfl, trivial⟩ ?_
          refine HN.then ?_
          refine H.cond _ rfl (fun t4 => ?_) (fun t4 => ?_)
          · simp at t4
            done
          · refine H.keep [(0, _), (1, _), (2, _), (3, _), (9, _), (11, _), (12, _), (13, _)] ⟨rfl, rfl, rfl, rfl, rfl, rfl, rfl, rfl, trivial⟩ ?_
            refine HN.skip ?_
            refine HN.then ?_
            refine H.seq ?_
            refine H.region ?_
            refine H.q (yl_move rfl) rfl rfl (by decide) ?_
            refine H.q (yl_eql rfl rfl) rfl rfl (by decide) ?_
            refine HN.done ?_
            refine HN.keep [(0, _), (1, _), (2, _), (3, _), (9, _), (11, _), (12, _), (82, _)] ⟨rfl, rfl, rfl, rfl, rfl, rfl, rfl, rfl, trivial⟩ ?_
            refine HN.then ?_
            refine H.cond _ rfl (fun t5 => ?_) (fun t5 => ?_)
            · simp only [decide_eq_true_eq] at t5
              rw [if_pos t5] at hown
              refine H.keep [(0, _), (1, _), (2, _), (3, _), (9, _), (11, _), (12, _)] ⟨rfl, rfl, rfl, rfl, rfl, rfl, rfl, trivial⟩ ?_
              refine H.region ?_
              refine H.q (yl_move rfl) rfl rfl (by decide) ?_
              refine H.q (yl_move rfl) rfl rfl (by decide) ?_
              refine H.q (yl_move rfl) rfl rfl (by decide) ?_
              refine H.q (yl_ix k Tryz.underlying37 Tryz.sizeOf23 (hsr k hlt).1 rfl rfl rfl hlt) rfl rfl (by decide) ?_
              refine H.q (yl_load Tryz.isAgg23 rfl (fun w hw => (cell_ext hw.ext (hsr k hlt).2.1).trans (by rw [h4k]))) rfl rfl (by decide) ?_
              refine H.buildSlice (bs37 _ _ _) rfl (by decide) (fun b88 hb88 => ?_)
              refine H.append 0 [.slice adk la[k].2.length capk] el37 rfl rfl rfl rfl (fun w hw => newsN (hw.blk 0 rfl)) (by simp [Value.oneCell']) (by simp only; omega) (by decide) (by decide) (fun v89 => ?_)
              refine H.q (yl_assign rfl) rfl rfl (by decide) ?_
              refine HN.done ?_
              refine HN.keep [(0, _), (1, _), (2, _), (3, _), (9, _), (11, _), (12, _)] ⟨rfl, rfl, rfl, rfl, rfl, rfl, rfl, trivial⟩ ?_
              refine HN.block ?_
              refine HN.then ?_
              refine H.region ?_
              refine H.q (yl_move rfl) rfl rfl (by decide) ?_
              refine H.q (yl_add rfl rfl ((k : Int) + 1) rfl (by omega)) rfl rfl (by decide) ?_
              refine H.q (yl_assign rfl) rfl rfl (by decide) ?_
              refine HN.done ?_
              refine HN.keep [(0, _), (1, _), (2, _), (3, _), (9, _), (11, _), (12, _)] ⟨rfl, rfl, rfl, rfl, rfl, rfl, rfl, trivial⟩ ?_
              refine HN.then ?_
              have e1 : minerRw v89 (ownL vars (la.take (k + 1))) = ⟨v89, (ownL vars (la.take k)).length + 1, 23, 1, (ownL vars (la.take k)).map (·.1) ++ [.slice adk la[k].2.length capk]⟩ := by rw [hown]; simp [minerRw, h4k]
              refine H.at ⟨k + 1, rv2, new2, v89⟩ ⟨⟨hlt, hq⟩, by simp only; omega⟩ ⟨rfl, rfl, rfl, rfl, rfl, rfl, rfl, trivial⟩ (fun w hw => ?_)
              simp only
              rw [e1]
              exact hw.drop
            · simp only [decide_eq_false_iff_not] at t5
              rw [if_neg t5, List.append_nil] at hown
              refine H.keep [(0, _), (1, _), (2, _), (3, _), (9, _), (11, _), (12, _)] ⟨rfl, rfl, rfl, rfl, rfl, rfl, rfl, trivial⟩ ?_
              refine HN.skip ?_
              refine HN.block ?_
              refine HN.then ?_
              refine H.region ?_
              refine H.q (yl_move rfl) rfl rfl (by decide) ?_
              refine H.q (yl_add rfl rfl ((k : Int) + 1) rfl (by omega)) rfl rfl (by decide) ?_
              refine H.q (yl_assign rfl) rfl rfl (by decide) ?_
              refine HN.done ?_
              refine HN.keep [(0, _), (1, _), (2, _), (3, _), (9, _), (11, _), (12, _)] ⟨rfl, rfl, rfl, rfl, rfl, rfl, rfl, trivial⟩ ?_
              refine HN.then ?_
              refine H.at ⟨k + 1, rv2, new2, ov⟩ ⟨⟨hlt, hq⟩, by simp only; omega⟩ ⟨rfl, rfl, rfl, rfl, rfl, rfl, rfl, trivial⟩ (fun w hw => ?_)
              simp only
              rw [hown]
              exact hw
        · simp only [decide_eq_false_iff_not] at t3
          have hkl : k = la.length := by omega
          have htk : la.take k = la := by rw [hkl, List.take_length]
          rw [htk] at hnew hol ⊢
          have hol2 := own_len vars la
          refine H.pull (fun w hw => Rw.isSlice (v := ov) (len := (ownL vars la).length) (hw.row 0 rfl)) (fun ho => ?_)
          obtain ⟨ado, capo, rfl⟩ := ho
          refine H.pull (fun w hw => Rw.isSlice (v := rv) (len := new.length) (hw.row 1 rfl)) (fun ho => ?_)
          obtain ⟨adn, capn, hrv⟩ := ho
          have hnl2 : new.length = (ownL vars la).length := by have := congrArg List.length hnew; rw [List.length_map, List.length_map] at this; exact this
          refine H.keep [(0, _), (2, _), (3, _), (9, _), (11, _)] ⟨rfl, rfl, rfl, rfl, rfl, trivial⟩ ?_
          refine HX.exit ?_
          refine HX.then ?_
          refine HX.then ?_
          refine HX.hit ?_
          refine HN.then ?_
          refine H.seq ?_
          refine H.seq ?_
          refine H.region ?_
          refine H.q (yl_assign rfl) rfl rfl (by decide) ?_
          refine HN.done ?_
          refine HN.keep [(0, _), (2, _), (3, _), (9, _), (11, _), (14, _)] ⟨rfl, rfl, rfl, rfl, rfl, rfl, trivial⟩ ?_
          refine HN.then ?_
          refine H.block ?_
          refine H.loop (fun i : Nat => [(0, .int .i64 (vars : Int)), (2, .slice ad l.length cap), (3, .int .i64 s), (9, .pointer (some ⟨bm, 0, none⟩)), (11, (.slice ado (ownL vars la).length capo)), (14, .int .i64 (i : Int))]) (fun i => i ≤ l.length) (fun _ => Hp w0 [minerB bm vars rv] (minerRw (.slice ado (ownL vars la).length capo) (ownL vars la) :: (minerRw rv new :: rowsR new)) []) (fun i => l.length - i) 0 (Nat.zero_le _) ⟨rfl, rfl, rfl, rfl, rfl, rfl, trivial⟩ (fun w hw => hw) (fun i hi => ?_)
          refine H.seq ?_
          refine H.seq ?_
          refine H.region ?_
          refine H.q (yl_move rfl) rfl rfl (by decide) ?_
          refine H.q (yl_move rfl) rfl rfl (by decide) ?_
          refine H.q (yl_len rfl Tryz.underlying28 rfl) rfl rfl (by decide) ?_
          refine H.q (yl_lss rfl rfl) rfl rfl (by decide) ?_
          refine HN.done ?_
          refine HN.keep [(0, _), (2, _), (3, _), (9, _), (11, _), (14, _), (93, _)] ⟨rfl, rfl, rfl, rfl, rfl, rfl, rfl, trivial⟩ ?_
          refine HN.then ?_
          refine H.cond _ rfl (fun t6 => ?_) (fun t6 => ?_)
          · simp only [decide_eq_true_eq] at t6
            have hlt : i < l.length := by omega
            refine H.keep [(0, _), (2, _), (3, _), (9, _), (11, _), (14, _)] ⟨rfl, rfl, rfl, rfl, rfl, rfl, trivial⟩ ?_
            refine HN.skip ?_
            refine HN.then ?_
            refine H.seq ?_
            refine H.block ?_
            refine H.seq ?_
            refine H.region ?_
            refine H.q (yl_move rfl) rfl rfl (by decide) ?_
            refine H.q (yl_move rfl) rfl rfl (by decide) ?_
            refine H.q (yl_move rfl) rfl rfl (by decide) ?_
            refine H.q (yl_index' i 6 Tryz.underlying28 Tryz.sizeOf25 (hs i hlt).1 rfl rfl rfl hlt) rfl rfl (by decide) ?_
            refine H.q (yl_loadAgg (cellsI l[i]) Tryz.isAgg25 Tryz.sizeOf25 rfl (fun w hw => cells_ext hw.ext (hs i hlt).2.1) rfl) rfl rfl (by decide) ?_
            refine H.q (yl_to (yl_call (xs := [.tmp 97, .tmp 101]) Tryz.call20 (stab_hp _ _ _ _) rfl (fun w hw => follows_any bm vars rv new w (mined_tbl hnew (own_ok vars la) (by rw [List.length_map]; omega) (hw.blk 0 rfl) (hw.rows (minerRw rv new) (by simp only [List.mem_cons, true_or, or_true])) (fun r hr => hw.rows r (by simp only [List.mem_cons, hr, or_true]))) hv1 hv8 l[i].2 l[i].1 (by have := (wide_sets hw0).2 l[i].2 (List.mem_map.2 ⟨l[i], List.getElem_mem hlt, rfl⟩); omega) ((hs i hlt).2.2.ext hw.ext))) (show Value.tuple _ = Value.tuple #[.bool (followE l[i].2 vars (rowsE (ownL vars la))).1, .int .i64 (followE l[i].2 vars (rowsE (ownL vars la))).2] by rw [show rowsE new = rowsE (ownL vars la) from hnew])) rfl rfl (by decide) ?_
            refine H.q (yl_move rfl) rfl rfl (by decide) ?_
            refine H.q (yl_extract _ rfl rfl) rfl rfl (by decide) ?_
            refine H.q (yl_extract _ rfl rfl) rfl rfl (by decide) ?_
            refine H.q (yl_assign rfl) rfl rfl (by decide) ?_
            refine H.q (yl_assign rfl) rfl rfl (by decide) ?_
            refine HN.done ?_
            refine HN.keep [(0, _), (2, _), (3, _), (9, _), (11, _), (14, _), (15, _), (16, _)] ⟨rfl, rfl, rfl, rfl, rfl, rfl, rfl, rfl, trivial⟩ ?_
            refine HN.then ?_
            refine H.seq ?_
            refine H.region ?_
            refine H.q (yl_move rfl) rfl rfl (by decide) ?_
            refine H.q (yl_move rfl) rfl rfl (by decide) ?_
            refine H.q (yl_index' i 6 Tryz.underlying28 Tryz.sizeOf25 (hs i hlt).1 rfl rfl rfl hlt) rfl rfl (by decide) ?_
            refine H.q (yl_loadAgg (cellsI l[i]) Tryz.isAgg25 Tryz.sizeOf25 rfl (fun w hw => cells_ext hw.ext (hs i hlt).2.1) rfl) rfl rfl (by decide) ?_
            refine H.q (yl_move rfl) rfl rfl (by decide) ?_
            refine H.q (yl_move rfl) rfl rfl (by decide) ?_
            refine H.q (yl_call (xs := [.tmp 109, .tmp 110, .tmp 111]) Tryz.call21 (stab_hp _ _ _ _) rfl (fun w hw => refFollows_any vars (.slice ado (ownL vars la).length capo) (ownL vars la) w (own_tbl hla hw.ext (by omega) (hw.rows (minerRw (.slice ado (ownL vars la).length capo) (ownL vars la)) (by simp only [List.mem_cons, true_or]))) l[i].2 l[i].1 (by have := (wide_sets hw0).2 l[i].2 (List.mem_map.2 ⟨l[i], List.getElem_mem hlt, rfl⟩); omega) ((hs i hlt).2.2.ext hw.ext))) rfl rfl (by decide) ?_
            refine H.q (yl_move rfl) rfl rfl (by decide) ?_
            refine H.q (yl_extract _ rfl rfl) rfl rfl (by decide) ?_
            refine H.q (yl_extract _ rfl rfl) rfl rfl (by decide) ?_
            refine H.q (yl_assign rfl) rfl rfl (by decide) ?_
            refine H.q (yl_assign rfl) rfl rfl (by decide) ?_
            refine HN.done ?_
            refine HN.keep [(0, _), (2, _), (3, _), (9, _), (11, _), (14, _), (15, _), (16, _), (17, _), (18, _)] ⟨rfl, rfl, rfl, rfl, rfl, rfl, rfl, rfl, rfl, rfl, trivial⟩ ?_
            refine HN.then ?_
            refine H.seq ?_
            refine H.region ?_
            refine H.q (yl_move rfl) rfl rfl (by decide) ?_
            refine H.q (yl_move rfl) rfl rfl (by decide) ?_
            refine H.q (yl_to (yl_bneq Tryz.underlying4 rfl rfl) (show Value.bool _ = Value.bool false by simp)) rfl rfl (by decide) ?_
            refine H.q (yl_move rfl) rfl rfl (by decide) ?_
            refine H.unguard (wn_f rfl rfl (by decide) rfl) rfl ?_
            refine H.q (yl_move rfl) rfl rfl (by decide) ?_
            refine H.unguard (wn_f rfl rfl (by decide) rfl) rfl ?_
            refine H.q (yl_move rfl) rfl rfl (by decide) ?_
            refine H.unguard (wn_f rfl rfl (by decide) rfl) rfl ?_
            refine H.q (yl_to (yl_neq rfl rfl) (show Value.bool _ = Value.bool false by simp)) rfl rfl (by decide) ?_
            refine H.q (yl_or' rfl rfl) rfl rfl (by decide) ?_
            refine HN.done ?_
            refine HN.keep [(0, _), (2, _), (3, _), (9, _), (11, _), (14, _), (122, _)] ⟨rfl, rfl, rfl, rfl, rfl, rfl, rfl, trivial⟩ ?_
            refine HN.then ?_
            refine H.cond _ rfl (fun t7 => ?_) (fun t7 => ?_)
            · cases t7
              done
            · refine H.keep [(0, _), (2, _), (3, _), (9, _), (11, _), (14, _)] ⟨rfl, rfl, rfl, rfl, rfl, rfl, trivial⟩ ?_
              refine HN.skip ?_
              refine HN.block ?_
              refine HN.then ?_
              refine H.region ?_
              refine H.q (yl_move rfl) rfl rfl (by decide) ?_
              refine H.q (yl_add rfl rfl ((i : Int) + 1) rfl (by omega)) rfl rfl (by decide) ?_
              refine H.q (yl_assign rfl) rfl rfl (by decide) ?_
              refine HN.done ?_
              refine HN.keep [(0, _), (2, _), (3, _), (9, _), (11, _), (14, _)] ⟨rfl, rfl, rfl, rfl, rfl, rfl, trivial⟩ ?_
              refine HN.then ?_
              exact H.at (i + 1) ⟨hlt, by omega⟩ ⟨rfl, rfl, rfl, rfl, rfl, rfl, trivial⟩ (fun w hw => hw)
          · skip
            refine H.keep [(0, _), (3, _), (9, _), (11, _)] ⟨rfl, rfl, rfl, rfl, trivial⟩ ?_
            refine HX.exit ?_
            refine HX.then ?_
            refine HX.then ?_
            refine HX.hit ?_
            refine HN.then ?_
            refine H.seq ?_
            refine H.region ?_
            refine H.q (yl_move rfl) rfl rfl (by decide) ?_
            refine H.q (yl_to (yl_call (xs := [.tmp 123]) Tryz.call22 (stab_hp _ _ _ _) rfl (fun w hw => rows_any bm vars adn new.length capn w (by omega) (hw.cell 0 rfl rfl) (by rw [← hrv]; exact hw.cell 0 rfl rfl))) (show Value.int .i64 ((new.length : Nat) : Int) = .int .i64 (((ownL vars la).length : Nat) : Int) by rw [hnl2])) rfl rfl (by decide) ?_
            refine H.q (yl_move rfl) rfl rfl (by decide) ?_
            refine H.q (yl_len rfl Tryz.underlying37 rfl) rfl rfl (by decide) ?_
            refine H.q (yl_to (yl_eql rfl rfl) (show Value.bool _ = Value.bool true by simp)) rfl rfl (by decide) ?_
            refine H.q (yl_move rfl) rfl rfl (by decide) ?_
            refine H.unguard (wn_t rfl rfl (by decide) rfl) rfl ?_
            refine H.q (yl_move rfl) rfl rfl (by decide) ?_
            refine H.unguard (wn_t rfl rfl (by decide) rfl) rfl ?_
            refine H.q (yl_move rfl) rfl rfl (by decide) ?_
            refine H.unguard (wn_t rfl rfl (by decide) rfl) rfl ?_
            refine H.call (α := Value × List (Value × Inv)) (xs := [.tmp 129, .tmp 130]) (fun q => q.1) (fun q => q.2.map (·.2) = claimsE (rowsE (ownL vars la)) vars s) (fun q => claimsRw q.1 q.2 :: setsR q.2) (fun _ => []) Tryz.call24 rfl (by decide) (fun w hw => (claims_any bm vars rv new w (mined_tbl hnew (own_ok vars la) (by rw [List.length_map]; omega) (hw.blk 0 rfl) (hw.rows (minerRw rv new) (by simp only [List.mem_cons, true_or, or_true])) (fun r hr => hw.rows r (by simp only [List.mem_cons, hr, or_true]))) hv1 hv8 s).mono fun e w' h => by obtain ⟨v, l, h1, h2, h3⟩ := h; exact ⟨(v, l), h1, by rw [h2]; exact congrArg (fun r => claimsE r vars s) hnew, h3, fun _ hh => by cases hh⟩) (fun q hl1 => ?_)
            obtain ⟨u1, l1⟩ := q
            simp only at hl1
            have hs1 := claims_sets hv1 hv8 (own_ok vars la) hl1
            have hn1 : l1.length ≤ 1000 := by have h1 := congrArg List.length hl1; have h2 := claims_small (rows := rowsE (ownL vars la)) hv8 s; rw [List.length_map] at h1; omega
            refine H.unguard (wn_t rfl rfl (by decide) rfl) rfl ?_
            refine H.q (yl_move rfl) rfl rfl (by decide) ?_
            refine H.unguard (wn_t rfl rfl (by decide) rfl) rfl ?_
            refine H.q (yl_move rfl) rfl rfl (by decide) ?_
            refine H.unguard (wn_t rfl rfl (by decide) rfl) rfl ?_
            refine H.q (yl_move rfl) rfl rfl (by decide) ?_
            refine H.unguard (wn_t rfl rfl (by decide) rfl) rfl ?_
            refine H.call (α := Value × List (Value × Inv)) (xs := [.tmp 132, .tmp 133, .tmp 134]) (fun q => q.1) (fun q => q.2.map (·.2) = claimsE (rowsE (ownL vars la)) vars s) (fun q => claimsRw q.1 q.2 :: setsR q.2) (fun _ => []) Tryz.call25 rfl (by decide) (fun w hw => (refClaims_any vars (.slice ado (ownL vars la).length capo) (ownL vars la) w (own_tbl hla hw.ext (by omega) (hw.rows (minerRw (.slice ado (ownL vars la).length capo) (ownL vars la)) (by simp only [List.mem_cons, List.mem_append, true_or, or_true]))) hv1 hv8 s).mono fun e w' h => by obtain ⟨v, l, h1, h2, h3⟩ := h; exact ⟨(v, l), h1, h2, h3, fun _ hh => by cases hh⟩) (fun q hl2 => ?_)
            obtain ⟨u2, l2⟩ := q
            simp only at hl2
            have hs2 := claims_sets hv1 hv8 (own_ok vars la) hl2
            have hn2 : l2.length ≤ 1000 := by have h1 := congrArg List.length hl2; have h2 := claims_small (rows := rowsE (ownL vars la)) hv8 s; rw [List.length_map] at h1; omega
            refine H.unguard (wn_t rfl rfl (by decide) rfl) rfl ?_
            refine H.q (yl_to (yl_call (xs := [.tmp 131, .tmp 135]) Tryz.call23 (stab_hp _ _ _ _) rfl (fun w hw => sameAll_any l1 l2 u1 u2 w (by omega) (by omega) hs1 hs2 (claims_row (v := u1) (ls := l1) (hw.rows (claimsRw u1 l1) (by simp only [List.mem_cons, List.mem_append, true_or, or_true])) (fun r hr => hw.rows r (by simp only [List.mem_cons, List.mem_append, hr, true_or, or_true]))) (claims_row (v := u2) (ls := l2) (hw.rows (claimsRw u2 l2) (by simp only [List.mem_cons, List.mem_append, true_or])) (fun r hr => hw.rows r (by simp only [List.mem_cons, List.mem_append, hr, true_or, or_true]))))) (show Value.bool _ = Value.bool true by rw [hl1, hl2, sameAll_refl])) rfl rfl (by decide) ?_
            refine H.q (yl_and' rfl rfl) rfl rfl (by decide) ?_
            refine H.q (yl_move rfl) rfl rfl (by decide) ?_
            refine H.unguard (wn_t rfl rfl (by decide) rfl) rfl ?_
            refine H.q (yl_call (xs := []) Tryz.call11 (stab_hp _ _ _ _) rfl (fun w hw => learns_any w (hvars.ext hw.ext))) rfl rfl (by decide) ?_
            refine H.q (yl_and' rfl rfl) rfl rfl (by decide) ?_
            refine H.q (yl_assign rfl) rfl rfl (by decide) ?_
            refine HN.done ?_
            refine HN.keep [(8, _)] ⟨rfl, trivial⟩ ?_
            refine HN.then ?_
            refine HR.ret ?_
            refine HR.ret1 _ Tryz.results5 rfl (fun w hw => ?_)
            exact ⟨rfl, hw.ext⟩

end Go.Proofs.YtgbgddmbooaddaaGreatDoor

