/-
  LearnMines: it returns true at every input.
  Conditions: the row's own: the listed package-level variables of the library start as its text lays them; the card ties them to that text.
-/
import Derived.Test.YtgbgddmbooaddaaGreatDoorCards
import Derived.Test.YtgbgddmbooaddaaGreatDoorTie
import Derived.Test.YtgbgddmbooaddaaGreatDoorLearnMinesE
namespace Go.Proofs.YtgbgddmbooaddaaGreatDoor
open Go.ChangeShapes Go.WideShapes Go.ChangeAt Go.RowKit

set_option maxRecDepth 100000 in
theorem learnMines_lifted (os : Os) (started : os.Started) (H : Type) (enc : TypeId × Value → H) :
    ReturnsInHanded {} Tryz.checked os 5 .any (fun w args => (Rows.learnMinesSpec.pre enc Tryz.prog Tryz.f5 Rows.learnMinesRow.domain false w args ∧ laidMetH Tryz.prog laid7 w) ∧ sizedMet enc Tryz.prog Tryz.f5 (OpenSpec.ofChange Rows.learnMinesSpec) false w args)
      (Rows.learnMinesSpec.post enc Tryz.prog Tryz.f5 false true false false) := by
  refine handed_both (C := Tryz.checked) (X := fun w _ => laidMetH Tryz.prog laid7 w) (fun _ _ _ hh h => h.of_heap hh) seatOwn started (by kernel_rfl) Tryz.func5
    (ChangeSpec.witness_shaped (enc := enc) (C := Tryz.checked) (os := os) (X := fun w _ => laidMetH Tryz.prog laid7 w) false (World.laidAll Tryz.prog os laid7) #[.int .i64 0, .slice none 0 0, .slice none 0 0, .int .i64 0] 8 (World.laidAll_os _ _ _)
      (World.shaped_of_ZipB (by kernel_rfl) (by kernel_rfl)) (by kernel_rfl) (by kernel_rfl) (by kernel_rfl)
      (by rw [MakeChecks.laidMetH_plain _ _ _ (by kernel_rfl)]; exact laidMet_laidAll _ (by kernel_rfl) (by kernel_rfl))) ?_
  intro W base args ds gs before hval0 hW hL hsh
  have hval : ∀ (j : Nat) t v, Tryz.f5.params[j]? = some t → args[j]? = some v → Value.okWide Tryz.prog W .any base t v := hval0
  have hW' := hW
  obtain ⟨p, q, hA0, hV, rfl, _, _⟩ := hW
  have hA : DataW.TrodAll enc Tryz.prog W 0 (fun _ => true) true Tryz.f5.params.toList args.toList ds p := hA0
  rw [Tryz.params5] at hA hval
  obtain ⟨v0, vs0, d0, ds0, p0, q0, hargs, rfl, rfl, h0, r0⟩ := trodAll_cons hA
  obtain ⟨v1, vs1, d1, ds1, p1, q1, rfl, rfl, rfl, h1, r1⟩ := trodAll_cons r0
  obtain ⟨v2, vs2, d2, ds2, p2, q2, rfl, rfl, rfl, h2, r2⟩ := trodAll_cons r1
  obtain ⟨v3, vs3, d3, ds3, p3, q3, rfl, rfl, rfl, h3, r3⟩ := trodAll_cons r2
  obtain ⟨rfl, rfl, rfl⟩ := trodAll_nil r3
  obtain rfl : args = #[v0, v1, v2, v3] := by cases args; simp_all
  obtain ⟨rfl, rfl⟩ := trodVars_none hV
  have k0 := h0
  have k1 := h1
  have k2 := h2
  have k3 := h3
  obtain ⟨n0, rfl, -, -, w0⟩ := open_int Tryz.underlying3 (hval 0 3 v0 rfl rfl) h0
  obtain ⟨l1, hl1⟩ := arg_rows (hval 1 37 v1 rfl rfl) h1
  obtain ⟨l2, hl2⟩ := arg_claims (hval 2 28 v2 rfl rfl) h2
  obtain ⟨n3, rfl, -, -, w3⟩ := open_int Tryz.underlying3 (hval 3 3 v3 rfl rfl) h3
  have hvars := vars_of hL hsh
  clear hA0 hval0
  have lt : ∀ y ∈ (p0 ++ (p1 ++ (p2 ++ (p3 ++ [])))) ++ [], y.block < W.heap.size := fun y hy => by simpa using hW'.lt y hy
  refine (mines_any n0 l1 v1 l2 v2 n3 W hvars hl1 hl2).mono fun e W' h => ?_
  obtain ⟨rfl, he⟩ := h
  refine ⟨_, rfl, post_of_ext (before := _) he hW' (fun _ _ _ => trodAll_mk1 (shut_bool Tryz.underlying4 _)) (fun sp hsp => ?_) (fun _ => rfl) (ok_one (by kernel_rfl) rfl (okWide_bool_mk Tryz.underlying4 _))⟩
  rw [List.append_nil (p0 ++ (p1 ++ (p2 ++ (p3 ++ []))))]
  have mem0 : ∀ {y}, y ∈ p0 → y ∈ (p0 ++ (p1 ++ (p2 ++ (p3 ++ [])))) ++ [] := fun hy => List.mem_append_left _ (List.mem_append_left _ hy)
  have mem1 : ∀ {y}, y ∈ p1 → y ∈ (p0 ++ (p1 ++ (p2 ++ (p3 ++ [])))) ++ [] := fun hy => List.mem_append_left _ (List.mem_append_right _ (List.mem_append_left _ hy))
  have mem2 : ∀ {y}, y ∈ p2 → y ∈ (p0 ++ (p1 ++ (p2 ++ (p3 ++ [])))) ++ [] := fun hy => List.mem_append_left _ (List.mem_append_right _ (List.mem_append_right _ (List.mem_append_left _ hy)))
  have mem3 : ∀ {y}, y ∈ p3 → y ∈ (p0 ++ (p1 ++ (p2 ++ (p3 ++ [])))) ++ [] := fun hy => List.mem_append_left _ (List.mem_append_right _ (List.mem_append_right _ (List.mem_append_right _ (List.mem_append_left _ hy))))
  exact (trodAll_cons_mk (WideElems.Trod_stays Tryz.laidOut (by kernel_rfl) (of_decide_eq_true (by kernel_rfl)) k0 (fun y hy => Below.same he (lt y (mem0 hy))) (fun y hy => hsp y (mem0 hy))) (trodAll_cons_mk (WideElems.Trod_stays Tryz.laidOut (by kernel_rfl) (of_decide_eq_true (by kernel_rfl)) k1 (fun y hy => Below.same he (lt y (mem1 hy))) (fun y hy => hsp y (mem1 hy))) (trodAll_cons_mk (WideElems.Trod_stays Tryz.laidOut (by kernel_rfl) (of_decide_eq_true (by kernel_rfl)) k2 (fun y hy => Below.same he (lt y (mem2 hy))) (fun y hy => hsp y (mem2 hy))) (trodAll_cons_mk (WideElems.Trod_stays Tryz.laidOut (by kernel_rfl) (of_decide_eq_true (by kernel_rfl)) k3 (fun y hy => Below.same he (lt y (mem3 hy))) (fun y hy => hsp y (mem3 hy))) trodAll_mk0))))

theorem learnMines_row : Rows.LearnMinesSaid :=
  OpenClaim.holds_of_wide 5 Tryz.f5 rfl rfl rfl rfl rfl rfl rfl ⟨rfl, rfl, rfl, rfl, rfl⟩ rfl rfl rfl rfl rfl (by kernel_rfl) Tryz.func5 (by kernel_rfl)
    (of_decide_eq_true (by kernel_rfl)) (by unfold Func.isWrapper; first | (rw [if_pos (by decide +kernel)]; kernel_rfl) | (rw [if_neg (by decide +kernel)]; exact ⟨rfl, rfl⟩))
    (fun os started H enc _ => learnMines_lifted os started H enc)
/-- The tied card. -/
theorem learnMines_holds : Rows.LearnMinesCardSaid :=
  Claim7.holds_tied_plain_at .later [] [.data, .data, .data, .data, .sentinel, .sentinel, .pinned] true (true, "f60e5c598985de084c5d8d8318bf1fc190fe9497004ac857340c7dee43ce5550") true learnMines_row (fun _ h => by cases h) (by kernel_rfl) (fun _ h => by cases h) learnMines_row_tie rfl ⟨rfl, rfl⟩ (by kernel_rfl) rfl
    (fun f fn hf hfn => by
      obtain rfl : f = 5 := Option.some.inj ((show Tryz.prog.funcNamed "sleuth/sleuthlaw08.LearnMines" = some 5 by kernel_rfl).symm.trans hf) |>.symm
      obtain rfl : fn = Tryz.f5 := (Option.some.inj (Tryz.func5.symm.trans hfn)).symm
      exact ⟨by kernel_rfl, fun j t ht => by
        rw [Tryz.params5] at ht
        have hm : t ∈ [3, 37, 28, 3] := by simpa using Array.mem_of_getElem? ht
        have hall : ([3, 37, 28, 3].all fun u => !Tryz.prog.wantsStandIn u) = true := by kernel_rfl
        exact (show Tryz.prog.wantsStandIn t = false by simpa using List.all_eq_true.1 hall t hm)⟩)
    (by kernel_rfl)
#print axioms learnMines_holds
end Go.Proofs.YtgbgddmbooaddaaGreatDoor
