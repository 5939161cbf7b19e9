/-
  Ground of the proof of LearnMines, part 2: Walks: is a claim true of a row?; Lists of claims, of rows, of names in memory; what a loop leaves behind; Walks: the first row that breaks a claim; equal lists of claims; too many.
-/
import Derived.Maps.Keyed
import Derived.Shelf.Small.Bits
import Derived.Shelf.Utf8.RuneCount
import Derived.Shelf.Strconv.Itoa0
import Derived.Shelf.Strconv.Itoa1
import Derived.Shelf.LaysM
import Derived.Shelf.Strconv.Itoa2
import Derived.Shelf.Strconv.Itoa3
import Derived.Shelf.Strconv.Itoa4
import Derived.Shelf.Strconv.ParseIntEmpty
import Derived.Shelf.Strconv.Clone
import Derived.Shelf.Strconv.SyntaxError
import Derived.Shelf.LaysC
import Derived.Shelf.Strconv.ToError
import Derived.Shelf.Strconv.Lower
import Derived.Shelf.Strconv.ParseUint10
import Derived.Shelf.Strconv.ParseUint10Empty
import Derived.Shelf.Strconv.ParseUint10Any
import Derived.Shelf.Strconv.ParseInt10
import Derived.Shelf.Strconv.RangeError
import Derived.Shelf.Strconv.ToErrorRange
import Derived.Shelf.Strconv.ParseUintEmpty
import Derived.Shelf.Strconv.ParseUint10b64
import Derived.Shelf.Strconv.ParseUint10b32
import Derived.Shelf.Strconv.ParseUint10b16
import Derived.Shelf.Strconv.ParseUint10b8
import Derived.Shelf.Strconv.ParseUint10At
import Derived.Shelf.Strconv.ParseInt10At64
import Derived.Shelf.Strconv.ParseInt10At32
import Derived.Shelf.Strconv.ParseInt10At16
import Derived.Shelf.Strconv.ParseInt10At8
import Derived.Shelf.Strconv.ParseInt10All
import Derived.Shelf.Strconv.ParseIntPublic10
import Derived.Shelf.Strconv.ErrVarParseInt
import Derived.Shelf.Strings.Search1
import Derived.Shelf.Strings.Search2
import Derived.Shelf.Strings.Search3
import Derived.Shelf.Strings.Count
import Derived.Shelf.Strings.Shaped
import Derived.Shelf.Strings.Split
import Derived.Shelf.Strings.SplitShaped
import Derived.Shelf.Unicode.Decode
import Derived.Shelf.Strings.RuneCount
import Derived.Shelf.Strings.Explode
import Derived.Shelf.Unicode.DecodeSlow
import Derived.Shelf.Unicode.DecodeAny
import Derived.Ground.SlgnProg
import Derived.Shelf.SlicesE.Clone
import Derived.Test.YtgbgddmbooaddaaGreatDoorProg
import Derived.Lib.ItoaNum
import Derived.Lib.ParseIntB
import Derived.Lib.SmallJoins
import Derived.Lib.SplitLaws
import Derived.Test.YtgbgddmbooaddaaGreatDoorLearnMinesA
namespace Go.Proofs.YtgbgddmbooaddaaGreatDoor
open Go.RowKit


theorem claim_method (x : Inv) (ad : Option Addr) (n cap : Nat) (hk : kindB x.kind = true) (w : World) : (method (Tryz.prog.types.size + Made.depth) (claimT x.kind) (claimA x (.slice ad n cap)) "sleuth/learn.holds").run Tryz.prog w = .ok (claimM x.kind, claimA x (.slice ad n cap)) w := by
  obtain ⟨kd, a, b, k, m, set⟩ := x
  rcases kind_cases hk with h | h | h | h | h | h | h | h | h | h | h <;> simp only at h <;> subst h <;> kernel_rfl
theorem claim_nilAhead (x : Inv) (ad : Option Addr) (n cap : Nat) (hk : kindB x.kind = true) (w : World) : (nilAhead (Tryz.prog.types.size + Made.depth) (claimT x.kind) (claimA x (.slice ad n cap)) "sleuth/learn.holds").run Tryz.prog w = .ok (some false) w := by
  obtain ⟨kd, a, b, k, m, set⟩ := x
  rcases kind_cases hk with h | h | h | h | h | h | h | h | h | h | h <;> simp only at h <;> subst h <;> kernel_rfl
theorem claim_call {k : Int} (hk : kindB k = true) (args : Array Value) (w : World) : (callFunc (claimM k) args).run Tryz.prog w = .ok (.enter (claimM k) args) w := by
  rcases kind_cases hk with rfl | rfl | rfl | rfl | rfl | rfl | rfl | rfl | rfl | rfl | rfl
  · exact Tryz.call177 args w
  · exact Tryz.call178 args w
  · exact Tryz.call179 args w
  · exact Tryz.call180 args w
  · exact Tryz.call181 args w
  · exact Tryz.call182 args w
  · exact Tryz.call183 args w
  · exact Tryz.call184 args w
  · exact Tryz.call185 args w
  · exact Tryz.call186 args w
  · exact Tryz.call187 args w
theorem claim_holds (x : Inv) (a b : Int) (sv : Value) (w0 : World) (hl : x.set.length ≤ 4611686018427387904) (hv : IsInts w0 sv x.set) (hx : Safe x) (ha : smallB a = true) (hk : kindB x.kind = true) : Calls Tryz.prog (claimM x.kind) #[claimA x sv, .int .i64 a, .int .i64 b] w0 fun e w' => e = .returned (.bool (holdsB x a b)) ∧ Ext w0 w' := by
  rcases kind_cases hk with h | h | h | h | h | h | h | h | h | h | h
  · have := m177_any x a b sv w0 hl hv hx ha h; rw [show claimM x.kind = 177 by rw [h]; rfl, show claimA x sv = .agg [.int .i64 x.k].toArray by simp [claimA, h]]; exact this
  · have := m178_any x a b sv w0 hl hv hx ha h; rw [show claimM x.kind = 178 by rw [h]; rfl, show claimA x sv = .agg [sv].toArray by simp [claimA, h]]; exact this
  · have := m179_any x a b sv w0 hl hv hx ha h; rw [show claimM x.kind = 179 by rw [h]; rfl, show claimA x sv = .agg [.int .i64 x.k].toArray by simp [claimA, h]]; exact this
  · have := m180_any x a b sv w0 hl hv hx ha h; rw [show claimM x.kind = 180 by rw [h]; rfl, show claimA x sv = .agg [.int .i64 x.k].toArray by simp [claimA, h]]; exact this
  · have := m181_any x a b sv w0 hl hv hx ha h; rw [show claimM x.kind = 181 by rw [h]; rfl, show claimA x sv = .agg [].toArray by simp [claimA, h]]; exact this
  · have := m182_any x a b sv w0 hl hv hx ha h; rw [show claimM x.kind = 182 by rw [h]; rfl, show claimA x sv = .agg [.int .i64 x.k, .int .i64 x.m].toArray by simp [claimA, h]]; exact this
  · have := m183_any x a b sv w0 hl hv hx ha h; rw [show claimM x.kind = 183 by rw [h]; rfl, show claimA x sv = .agg [].toArray by simp [claimA, h]]; exact this
  · have := m184_any x a b sv w0 hl hv hx ha h; rw [show claimM x.kind = 184 by rw [h]; rfl, show claimA x sv = .agg [].toArray by simp [claimA, h]]; exact this
  · have := m185_any x a b sv w0 hl hv hx ha h; rw [show claimM x.kind = 185 by rw [h]; rfl, show claimA x sv = .agg [].toArray by simp [claimA, h]]; exact this
  · have := m186_any x a b sv w0 hl hv hx ha h; rw [show claimM x.kind = 186 by rw [h]; rfl, show claimA x sv = .agg [].toArray by simp [claimA, h]]; exact this
  · have := m187_any x a b sv w0 hl hv hx ha h; rw [show claimM x.kind = 187 by rw [h]; rfl, show claimA x sv = .agg [.int .i64 x.k, .int .i64 x.m].toArray by simp [claimA, h]]; exact this
theorem claimOf_some (x : Inv) (ad : Option Addr) (sn cap : Nat) (w0 : World) (hk : kindB x.kind = true) : Calls Tryz.prog 39 #[.agg [.int .u8 x.kind, .int .i64 x.a, .int .i64 x.b, .int .i64 x.k, .int .i64 x.m, .slice ad sn cap].toArray] w0 fun e w' => e = .returned (.iface (claimT x.kind) (claimA x (.slice ad sn cap))) ∧ Ext w0 w' := by
  have h := claimOf_any x ad sn cap w0
  rwa [if_neg (fun h0 => by rw [claimT_none h0] at hk; cases hk)] at h

set_option maxRecDepth 100000 in
theorem hold_any (x : Inv) (sv : Value) (w0 : World) (hl : x.set.length ≤ 4611686018427387904) (hv : IsInts w0 sv x.set) (row : List Int) (rv : Value) (_hr : row.length ≤ 4611686018427387904) (hrv : IsInts w0 rv row) (hch : chk x row.length = 0) (hsm : allSmallB row = true) : Calls Tryz.prog 54 #[(.agg [.int .u8 x.kind, .int .i64 x.a, .int .i64 x.b, .int .i64 x.k, .int .i64 x.m, sv].toArray), rv] w0 fun e w' => e = .returned (.bool (holdsR x row)) ∧ Ext w0 w' := by
  obtain ⟨ad, cap, b, o, rfl, hcap, hs⟩ := ints_open hv
  obtain ⟨ad1, cap1, b1, o1, rfl, hcap1, hs1⟩ := ints_open hrv
  obtain ⟨ha0, ha1, hb0, hb1⟩ := chk_in hch
  have hsafe := chk_safe hch
  have hk := (chk_zero hch).2.2.1
  have hla : x.a.toNat < row.length := by omega
  have hlb : x.b.toNat < row.length := by omega
  have hsa : smallB (row.getD x.a.toNat 0) = true := allSmall_get hsm hla
  refine enterA 21 Tryz.func54 rfl Tryz.ntmps54 rfl (Hp w0 [] [] []) (Hp.init _) ?_
  refine H.seq ?_
  refine H.region ?_
  refine H.boxA rfl (by decide) (fun b2 hb2 => ?_)
  refine H.q (yl_assign rfl) rfl rfl (by decide) ?_
  refine HN.done ?_
  refine HN.keep [(1, _), (2, _)] ⟨rfl, rfl, trivial⟩ ?_
  refine HN.then ?_
  refine H.seq ?_
  refine H.regionQ Tryz.mixed (by kernel_rfl) (stab_hp _ _ _ _) ?_
  refine G.q (yl_loadAgg _ Tryz.isAgg25 Tryz.sizeOf25 rfl (fun w hw => cells_of_blk (hw.blk 0 rfl)) rfl) rfl rfl (by decide) ?_
  refine G.q (yl_call (xs := [.tmp 5]) Tryz.call39 (stab_hp _ _ _ _) rfl (fun w hw => claimOf_some x ad x.set.length cap w hk)) rfl rfl (by decide) ?_
  refine G.q (yl_move rfl) rfl rfl (by decide) ?_
  refine G.q (yl_fieldAddr _ fa25_1 rfl) rfl rfl (by decide) ?_
  refine G.q (yl_load Tryz.isAgg3 rfl (fun w hw => hw.cell 0 rfl rfl)) rfl rfl (by decide) ?_
  refine G.q (yl_ix x.a.toNat Tryz.underlying23 Tryz.sizeOf2 (hs1 x.a.toNat hla).1 rfl rfl (by omega) hla) rfl rfl (by decide) ?_
  refine G.q (yl_load Tryz.isAgg2 rfl (fun w hw => cell_ext hw.ext (hs1 x.a.toNat hla).2)) rfl rfl (by decide) ?_
  refine G.q (yl_move rfl) rfl rfl (by decide) ?_
  refine G.q (yl_fieldAddr _ fa25_2 rfl) rfl rfl (by decide) ?_
  refine G.q (yl_load Tryz.isAgg3 rfl (fun w hw => hw.cell 0 rfl rfl)) rfl rfl (by decide) ?_
  refine G.q (yl_ix x.b.toNat Tryz.underlying23 Tryz.sizeOf2 (hs1 x.b.toNat hlb).1 rfl rfl (by omega) hlb) rfl rfl (by decide) ?_
  refine G.q (yl_load Tryz.isAgg2 rfl (fun w hw => cell_ext hw.ext (hs1 x.b.toNat hlb).2)) rfl rfl (by decide) ?_
  refine G.q (yl_makeMethod rfl) rfl rfl (by decide) ?_
  refine G.q (yl_nilCheckM rfl (claim_nilAhead x ad x.set.length cap hk)) rfl rfl (by decide) ?_
  refine G.q (yl_move rfl) rfl rfl (by decide) ?_
  refine G.q (yl_invoke (xs := [.tmp 11, .tmp 16]) rfl (claim_method x ad x.set.length cap hk) (claim_call hk) (stab_hp _ _ _ _) rfl (fun w hw => claim_holds x _ _ (.slice ad x.set.length cap) w hl (hv.ext hw.ext) hsafe hsa hk)) rfl rfl (by decide) ?_
  refine G.q (yl_assign rfl) rfl rfl (by decide) ?_
  refine HN.doneG ?_
  refine HN.keep [(4, _)] ⟨rfl, trivial⟩ ?_
  refine HN.then ?_
  refine HR.ret ?_
  refine HR.ret1 _ Tryz.results54 rfl (fun w hw => ?_)
  exact ⟨rfl, hw.ext⟩

set_option maxRecDepth 100000 in
theorem refHold_any (x : Inv) (sv : Value) (w0 : World) (hl : x.set.length ≤ 4611686018427387904) (hv : IsInts w0 sv x.set) (row : List Int) (rv : Value) (_hr : row.length ≤ 4611686018427387904) (hrv : IsInts w0 rv row) (hch : chk x row.length = 0) (hsm : allSmallB row = true) : Calls Tryz.prog 55 #[(.agg [.int .u8 x.kind, .int .i64 x.a, .int .i64 x.b, .int .i64 x.k, .int .i64 x.m, sv].toArray), rv] w0 fun e w' => e = .returned (.bool (holdsR x row)) ∧ Ext w0 w' := by
  obtain ⟨ad, cap, b, o, rfl, hcap, hs⟩ := ints_open hv
  obtain ⟨ad1, cap1, b1, o1, rfl, hcap1, hs1⟩ := ints_open hrv
  obtain ⟨ha0, ha1, hb0, hb1⟩ := chk_in hch
  have hsafe := chk_safe hch
  have hk := (chk_zero hch).2.2.1
  have hla : x.a.toNat < row.length := by omega
  have hlb : x.b.toNat < row.length := by omega
  have hsa : smallB (row.getD x.a.toNat 0) = true := allSmall_get hsm hla
  refine enterA 96 Tryz.func55 rfl Tryz.ntmps55 rfl (Hp w0 [] [] []) (Hp.init _) ?_
  refine H.seq ?_
  refine H.region ?_
  refine H.boxA rfl (by decide) (fun b2 hb2 => ?_)
  refine H.q (yl_assign rfl) rfl rfl (by decide) ?_
  refine HN.done ?_
  refine HN.keep [(1, _), (2, _)] ⟨rfl, rfl, trivial⟩ ?_
  refine HN.then ?_
  refine H.seq ?_
  refine H.regionQ Tryz.mixed (by kernel_rfl) (stab_hp _ _ _ _) ?_
  refine G.q (yl_move rfl) rfl rfl (by decide) ?_
  refine G.q (yl_fieldAddr _ fa25_1 rfl) rfl rfl (by decide) ?_
  refine G.q (yl_load Tryz.isAgg3 rfl (fun w hw => hw.cell 0 rfl rfl)) rfl rfl (by decide) ?_
  refine G.q (yl_ix x.a.toNat Tryz.underlying23 Tryz.sizeOf2 (hs1 x.a.toNat hla).1 rfl rfl (by omega) hla) rfl rfl (by decide) ?_
  refine G.q (yl_load Tryz.isAgg2 rfl (fun w hw => cell_ext hw.ext (hs1 x.a.toNat hla).2)) rfl rfl (by decide) ?_
  refine G.q (yl_move rfl) rfl rfl (by decide) ?_
  refine G.q (yl_fieldAddr _ fa25_2 rfl) rfl rfl (by decide) ?_
  refine G.q (yl_load Tryz.isAgg3 rfl (fun w hw => hw.cell 0 rfl rfl)) rfl rfl (by decide) ?_
  refine G.q (yl_ix x.b.toNat Tryz.underlying23 Tryz.sizeOf2 (hs1 x.b.toNat hlb).1 rfl rfl (by omega) hlb) rfl rfl (by decide) ?_
  refine G.q (yl_load Tryz.isAgg2 rfl (fun w hw => cell_ext hw.ext (hs1 x.b.toNat hlb).2)) rfl rfl (by decide) ?_
  refine G.q (yl_assign rfl) rfl rfl (by decide) ?_
  refine G.q (yl_assign rfl) rfl rfl (by decide) ?_
  refine HN.doneG ?_
  refine HN.keep [(2, _), (5, _), (6, _)] ⟨rfl, rfl, rfl, trivial⟩ ?_
  refine HN.then ?_
  refine H.seq ?_
  refine H.seq ?_
  refine H.region ?_
  refine H.q (yl_fieldAddr _ fa25_0 rfl) rfl rfl (by decide) ?_
  refine H.q (yl_load Tryz.isAgg22 rfl (fun w hw => hw.cell 0 rfl rfl)) rfl rfl (by decide) ?_
  refine HN.done ?_
  refine HN.keep [(2, _), (5, _), (6, _), (19, _)] ⟨rfl, rfl, rfl, rfl, trivial⟩ ?_
  refine HN.then ?_
  refine H.block ?_
  refine H.seq ?_
  refine H.region ?_
  refine H.q (yl_eql rfl rfl) rfl rfl (by decide) ?_
  refine H.q (yl_assign rfl) rfl rfl (by decide) ?_
  refine HN.done ?_
  refine HN.keep [(2, _), (5, _), (6, _), (19, _), (20, _)] ⟨rfl, rfl, rfl, rfl, rfl, trivial⟩ ?_
  refine HN.then ?_
  refine H.cond _ rfl (fun t0 => ?_) (fun t0 => ?_)
  · refine H.keep [(2, _), (5, _)] ⟨rfl, rfl, trivial⟩ ?_
    refine H.seq ?_
    refine H.region ?_
    refine H.q (yl_move rfl) rfl rfl (by decide) ?_
    refine H.q (yl_fieldAddr _ fa25_3 rfl) rfl rfl (by decide) ?_
    refine H.q (yl_load Tryz.isAgg2 rfl (fun w hw => hw.cell 0 rfl rfl)) rfl rfl (by decide) ?_
    refine H.q (yl_eql rfl rfl) rfl rfl (by decide) ?_
    refine H.q (yl_assign rfl) rfl rfl (by decide) ?_
    refine HN.done ?_
    refine HN.keep [(4, _)] ⟨rfl, trivial⟩ ?_
    refine HN.then ?_
    refine HR.ret ?_
    refine HR.block ?_
    refine HR.then ?_
    refine HR.ret1 _ Tryz.results55 rfl (fun w hw => ?_)
    refine ⟨?_, hw.ext⟩
    clear hw
    simp only [decide_eq_true_eq] at *
    simp [holdsR, holdsB, *]
  · refine H.keep [(2, _), (5, _), (6, _), (19, _)] ⟨rfl, rfl, rfl, rfl, trivial⟩ ?_
    refine H.seq ?_
    refine H.region ?_
    refine H.q (yl_eql rfl rfl) rfl rfl (by decide) ?_
    refine H.q (yl_assign rfl) rfl rfl (by decide) ?_
    refine HN.done ?_
    refine HN.keep [(2, _), (5, _), (6, _), (19, _), (26, _)] ⟨rfl, rfl, rfl, rfl, rfl, trivial⟩ ?_
    refine HN.then ?_
    refine H.cond _ rfl (fun t1 => ?_) (fun t1 => ?_)
    · refine H.keep [(2, _), (5, _)] ⟨rfl, rfl, trivial⟩ ?_
      refine H.seq ?_
      refine H.seq ?_
      refine H.region ?_
      refine H.q (yl_assign rfl) rfl rfl (by decide) ?_
      refine HN.done ?_
      refine HN.keep [(2, _), (5, _), (7, _)] ⟨rfl, rfl, rfl, trivial⟩ ?_
      refine HN.then ?_
      refine H.block ?_
      refine H.loop (fun k : Nat => [(2, .pointer (some ⟨b2, 0, none⟩)), (5, .int .i64 (row.getD x.a.toNat 0)), (7, .int .i64 (k : Int))]) (fun k => k ≤ x.set.length ∧ ∀ j (hj : j < k) (hj2 : j < x.set.length), ¬ row.getD x.a.toNat 0 = x.set[j]) (fun _ => Hp w0 [(b2, ex (.cells [.int .u8 x.kind, .int .i64 x.a, .int .i64 x.b, .int .i64 x.k, .int .i64 x.m, .slice ad x.set.length cap].toArray 25))] [] []) (fun k => x.set.length - k) 0 ⟨Nat.zero_le _, fun j hj => by omega⟩ ⟨rfl, rfl, rfl, trivial⟩ (fun w hw => hw) (fun k hI => ?_)
      obtain ⟨hk0, hk1⟩ := hI
      refine H.seq ?_
      refine H.seq ?_
      refine H.region ?_
      refine H.q (yl_move rfl) rfl rfl (by decide) ?_
      refine H.q (yl_fieldAddr _ fa25_5 rfl) rfl rfl (by decide) ?_
      refine H.q (yl_load Tryz.isAgg23 rfl (fun w hw => hw.cell 0 rfl rfl)) rfl rfl (by decide) ?_
      refine H.q (yl_len rfl Tryz.underlying23 rfl) rfl rfl (by decide) ?_
      refine H.q (yl_lss rfl rfl) rfl rfl (by decide) ?_
      refine HN.done ?_
      refine HN.keep [(2, _), (5, _), (7, _), (32, _)] ⟨rfl, rfl, rfl, rfl, trivial⟩ ?_
      refine HN.then ?_
      refine H.cond _ rfl (fun t2 => ?_) (fun t2 => ?_)
      · simp only [decide_eq_true_eq] at t2; have hj : k < x.set.length := by omega
        have hgd : x.set.getD k 0 = x.set[k] := by simp [List.getD, hj]
        refine H.keep [(2, _), (5, _), (7, _)] ⟨rfl, rfl, rfl, trivial⟩ ?_
        refine HN.skip ?_
        refine HN.then ?_
        refine H.seq ?_
        refine H.block ?_
        refine H.seq ?_
        refine H.region ?_
        refine H.q (yl_fieldAddr _ fa25_5 rfl) rfl rfl (by decide) ?_
        refine H.q (yl_load Tryz.isAgg23 rfl (fun w hw => hw.cell 0 rfl rfl)) rfl rfl (by decide) ?_
        refine H.q (yl_move rfl) rfl rfl (by decide) ?_
        refine H.q (yl_ix k Tryz.underlying23 Tryz.sizeOf2 (hs k hj).1 rfl rfl rfl hj) rfl rfl (by decide) ?_
        refine H.q (yl_load (v := .int .i64 x.set[k]) Tryz.isAgg2 rfl (fun w hw => by rw [← hgd]; exact cell_ext hw.ext (hs k hj).2)) rfl rfl (by decide) ?_
        refine H.q (yl_move rfl) rfl rfl (by decide) ?_
        refine H.q (yl_eql rfl rfl) rfl rfl (by decide) ?_
        refine HN.done ?_
        refine HN.keep [(2, _), (5, _), (7, _), (41, _)] ⟨rfl, rfl, rfl, rfl, trivial⟩ ?_
        refine HN.then ?_
        refine H.cond _ rfl (fun t3 => ?_) (fun t3 => ?_)
        · simp only [decide_eq_true_eq] at t3
          refine H.keep [] trivial ?_
          refine H.seq ?_
          refine H.region ?_
          refine H.q (yl_assign rfl) rfl rfl (by decide) ?_
          refine HN.done ?_
          refine HN.keep [(4, _)] ⟨rfl, trivial⟩ ?_
          refine HN.then ?_
          refine HR.ret ?_
          refine HR.block ?_
          refine HR.then ?_
          refine HR.then ?_
          refine HR.block ?_
          refine HR.then ?_
          refine HR.block ?_
          refine HR.then ?_
          refine HR.ret1 _ Tryz.results55 rfl (fun w hw => ?_)
          refine ⟨?_, hw.ext⟩
          simp only [decide_eq_true_eq] at t1
          simp only [holdsR, holdsB, t1]
          exact congrArg (fun b => Ending.returned (.bool b)) (List.any_eq_true.2 ⟨x.set[k], List.getElem_mem hj, decide_eq_true t3.symm⟩).symm
        · simp only [decide_eq_false_iff_not] at t3
          refine H.keep [(2, _), (5, _), (7, _)] ⟨rfl, rfl, rfl, trivial⟩ ?_
          refine HN.skip ?_
          refine HN.block ?_
          refine HN.then ?_
          refine H.region ?_
          refine H.q (yl_move rfl) rfl rfl (by decide) ?_
          refine H.q (yl_add rfl rfl _ rfl (by omega)) rfl rfl (by decide) ?_
          refine H.q (yl_assign rfl) rfl rfl (by decide) ?_
          refine HN.done ?_
          refine HN.keep [(2, _), (5, _), (7, _)] ⟨rfl, rfl, rfl, trivial⟩ ?_
          refine HN.then ?_
          have hn : ∀ j (hj : j < k + 1) (hj2 : j < x.set.length), ¬ row.getD x.a.toNat 0 = x.set[j] := fun j hj hj2 => by
            by_cases h : j < k
            · exact hk1 j h hj2
            · obtain rfl : j = k := by omega
              exact fun h => t3 h.symm
          exact H.at (k + 1) ⟨⟨by omega, hn⟩, by omega⟩ ⟨rfl, rfl, rfl, trivial⟩ (fun w hw => hw)
      · simp only [decide_eq_false_iff_not] at t2
        refine H.keep [] trivial ?_
        refine HX.exit ?_
        refine HX.then ?_
        refine HX.then ?_
        refine HX.hit ?_
        refine HN.then ?_
        refine H.seq ?_
        refine H.region ?_
        refine H.q (yl_assign rfl) rfl rfl (by decide) ?_
        refine HN.done ?_
        refine HN.keep [(4, _)] ⟨rfl, trivial⟩ ?_
        refine HN.then ?_
        refine HR.ret ?_
        refine HR.block ?_
        refine HR.then ?_
        refine HR.ret1 _ Tryz.results55 rfl (fun w hw => ?_)
        refine ⟨?_, hw.ext⟩
        simp only [decide_eq_true_eq] at t1
        simp only [holdsR, holdsB, t1]
        exact congrArg (fun b => Ending.returned (.bool b)) (List.any_eq_false.2 fun y hy => by
          obtain ⟨j, hj, rfl⟩ := List.getElem_of_mem hy
          simpa using hk1 j (by omega) hj).symm
    · refine H.keep [(2, _), (5, _), (6, _), (19, _)] ⟨rfl, rfl, rfl, rfl, trivial⟩ ?_
      refine H.seq ?_
      refine H.region ?_
      refine H.q (yl_eql rfl rfl) rfl rfl (by decide) ?_
      refine H.q (yl_assign rfl) rfl rfl (by decide) ?_
      refine HN.done ?_
      refine HN.keep [(2, _), (5, _), (6, _), (19, _), (42, _)] ⟨rfl, rfl, rfl, rfl, rfl, trivial⟩ ?_
      refine HN.then ?_
      refine H.cond _ rfl (fun t4 => ?_) (fun t4 => ?_)
      · refine H.keep [(2, _), (5, _)] ⟨rfl, rfl, trivial⟩ ?_
        refine H.seq ?_
        refine H.region ?_
        refine H.q (yl_move rfl) rfl rfl (by decide) ?_
        refine H.q (yl_fieldAddr _ fa25_3 rfl) rfl rfl (by decide) ?_
        refine H.q (yl_load Tryz.isAgg2 rfl (fun w hw => hw.cell 0 rfl rfl)) rfl rfl (by decide) ?_
        refine H.q (yl_geq rfl rfl) rfl rfl (by decide) ?_
        refine H.q (yl_assign rfl) rfl rfl (by decide) ?_
        refine HN.done ?_
        refine HN.keep [(4, _)] ⟨rfl, trivial⟩ ?_
        refine HN.then ?_
        refine HR.ret ?_
        refine HR.block ?_
        refine HR.then ?_
        refine HR.ret1 _ Tryz.results55 rfl (fun w hw => ?_)
        refine ⟨?_, hw.ext⟩
        clear hw
        simp only [decide_eq_true_eq, decide_eq_false_iff_not] at *
        simp [holdsR, holdsB, *]
      · refine H.keep [(2, _), (5, _), (6, _), (19, _)] ⟨rfl, rfl, rfl, rfl, trivial⟩ ?_
        refine H.seq ?_
        refine H.region ?_
        refine H.q (yl_eql rfl rfl) rfl rfl (by decide) ?_
        refine H.q (yl_assign rfl) rfl rfl (by decide) ?_
        refine HN.done ?_
        refine HN.keep [(2, _), (5, _), (6, _), (19, _), (48, _)] ⟨rfl, rfl, rfl, rfl, rfl, trivial⟩ ?_
        refine HN.then ?_
        refine H.cond _ rfl (fun t5 => ?_) (fun t5 => ?_)
        · refine H.keep [(2, _), (5, _)] ⟨rfl, rfl, trivial⟩ ?_
          refine H.seq ?_
          refine H.region ?_
          refine H.q (yl_move rfl) rfl rfl (by decide) ?_
          refine H.q (yl_fieldAddr _ fa25_3 rfl) rfl rfl (by decide) ?_
          refine H.q (yl_load Tryz.isAgg2 rfl (fun w hw => hw.cell 0 rfl rfl)) rfl rfl (by decide) ?_
          refine H.q (yl_leq rfl rfl) rfl rfl (by decide) ?_
          refine H.q (yl_assign rfl) rfl rfl (by decide) ?_
          refine HN.done ?_
          refine HN.keep [(4, _)] ⟨rfl, trivial⟩ ?_
          refine HN.then ?_
          refine HR.ret ?_
          refine HR.block ?_
          refine HR.then ?_
          refine HR.ret1 _ Tryz.results55 rfl (fun w hw => ?_)
          refine ⟨?_, hw.ext⟩
          clear hw
          simp only [decide_eq_true_eq, decide_eq_false_iff_not] at *
          simp [holdsR, holdsB, *]
        · refine H.keep [(2, _), (5, _), (6, _), (19, _)] ⟨rfl, rfl, rfl, rfl, trivial⟩ ?_
          refine H.seq ?_
          refine H.region ?_
          refine H.q (yl_eql rfl rfl) rfl rfl (by decide) ?_
          refine H.q (yl_assign rfl) rfl rfl (by decide) ?_
          refine HN.done ?_
          refine HN.keep [(2, _), (5, _), (6, _), (19, _), (54, _)] ⟨rfl, rfl, rfl, rfl, rfl, trivial⟩ ?_
          refine HN.then ?_
          refine H.cond _ rfl (fun t6 => ?_) (fun t6 => ?_)
          · refine H.keep [(5, _)] ⟨rfl, trivial⟩ ?_
            refine H.seq ?_
            refine H.region ?_
            refine H.q (yl_move rfl) rfl rfl (by decide) ?_
            refine H.q (yl_neq rfl rfl) rfl rfl (by decide) ?_
            refine H.q (yl_assign rfl) rfl rfl (by decide) ?_
            refine HN.done ?_
            refine HN.keep [(4, _)] ⟨rfl, trivial⟩ ?_
            refine HN.then ?_
            refine HR.ret ?_
            refine HR.block ?_
            refine HR.then ?_
            refine HR.ret1 _ Tryz.results55 rfl (fun w hw => ?_)
            refine ⟨?_, hw.ext⟩
            clear hw
            simp only [decide_eq_true_eq, decide_eq_false_iff_not] at *
            simp [holdsR, holdsB, *]
          · refine H.keep [(2, _), (5, _), (6, _), (19, _)] ⟨rfl, rfl, rfl, rfl, trivial⟩ ?_
            refine H.seq ?_
            refine H.region ?_
            refine H.q (yl_eql rfl rfl) rfl rfl (by decide) ?_
            refine H.q (yl_assign rfl) rfl rfl (by decide) ?_
            refine HN.done ?_
            refine HN.keep [(2, _), (5, _), (6, _), (19, _), (58, _)] ⟨rfl, rfl, rfl, rfl, rfl, trivial⟩ ?_
            refine HN.then ?_
            refine H.cond _ rfl (fun t7 => ?_) (fun t7 => ?_)
            · refine H.keep [(2, _), (5, _)] ⟨rfl, rfl, trivial⟩ ?_
              refine H.seq ?_
              refine H.regionQ Tryz.mixed (by kernel_rfl) (stab_hp _ _ _ _) ?_
              refine G.q (yl_move rfl) rfl rfl (by decide) ?_
              refine G.q (yl_fieldAddr _ fa25_4 rfl) rfl rfl (by decide) ?_
              refine G.q (yl_load Tryz.isAgg2 rfl (fun w hw => hw.cell 0 rfl rfl)) rfl rfl (by decide) ?_
              refine G.q (yl_call (xs := [.tmp 60, .tmp 62]) Tryz.call81 (stab_hp _ _ _ _) rfl (fun w hw => Modulo_any _ x.m w (by have := hsafe.2.2 (by simpa using t7); omega) (small_le hsafe.2.1).2)) rfl rfl (by decide) ?_
              refine G.q (yl_fieldAddr _ fa25_3 rfl) rfl rfl (by decide) ?_
              refine G.q (yl_load Tryz.isAgg2 rfl (fun w hw => hw.cell 0 rfl rfl)) rfl rfl (by decide) ?_
              refine G.q (yl_eql rfl rfl) rfl rfl (by decide) ?_
              refine G.q (yl_assign rfl) rfl rfl (by decide) ?_
              refine HN.doneG ?_
              refine HN.keep [(4, _)] ⟨rfl, trivial⟩ ?_
              refine HN.then ?_
              refine HR.ret ?_
              refine HR.block ?_
              refine HR.then ?_
              refine HR.ret1 _ Tryz.results55 rfl (fun w hw => ?_)
              refine ⟨?_, hw.ext⟩
              clear hw
              simp only [decide_eq_true_eq, decide_eq_false_iff_not] at *
              simp [holdsR, holdsB, *]
            · refine H.keep [(2, _), (5, _), (6, _), (19, _)] ⟨rfl, rfl, rfl, rfl, trivial⟩ ?_
              refine H.seq ?_
              refine H.region ?_
              refine H.q (yl_eql rfl rfl) rfl rfl (by decide) ?_
              refine H.q (yl_assign rfl) rfl rfl (by decide) ?_
              refine HN.done ?_
              refine HN.keep [(2, _), (5, _), (6, _), (19, _), (67, _)] ⟨rfl, rfl, rfl, rfl, rfl, trivial⟩ ?_
              refine HN.then ?_
              refine H.cond _ rfl (fun t8 => ?_) (fun t8 => ?_)
              · refine H.keep [(5, _), (6, _)] ⟨rfl, rfl, trivial⟩ ?_
                refine H.seq ?_
                refine H.region ?_
                refine H.q (yl_move rfl) rfl rfl (by decide) ?_
                refine H.q (yl_move rfl) rfl rfl (by decide) ?_
                refine H.q (yl_eql rfl rfl) rfl rfl (by decide) ?_
                refine H.q (yl_assign rfl) rfl rfl (by decide) ?_
                refine HN.done ?_
                refine HN.keep [(4, _)] ⟨rfl, trivial⟩ ?_
                refine HN.then ?_
                refine HR.ret ?_
                refine HR.block ?_
                refine HR.then ?_
                refine HR.ret1 _ Tryz.results55 rfl (fun w hw => ?_)
                refine ⟨?_, hw.ext⟩
                clear hw
                simp only [decide_eq_true_eq, decide_eq_false_iff_not] at *
                simp [holdsR, holdsB, *]
              · refine H.keep [(2, _), (5, _), (6, _), (19, _)] ⟨rfl, rfl, rfl, rfl, trivial⟩ ?_
                refine H.seq ?_
                refine H.region ?_
                refine H.q (yl_eql rfl rfl) rfl rfl (by decide) ?_
                refine H.q (yl_assign rfl) rfl rfl (by decide) ?_
                refine HN.done ?_
                refine HN.keep [(2, _), (5, _), (6, _), (19, _), (72, _)] ⟨rfl, rfl, rfl, rfl, rfl, trivial⟩ ?_
                refine HN.then ?_
                refine H.cond _ rfl (fun t9 => ?_) (fun t9 => ?_)
                · refine H.keep [(5, _), (6, _)] ⟨rfl, rfl, trivial⟩ ?_
                  refine H.seq ?_
                  refine H.region ?_
                  refine H.q (yl_move rfl) rfl rfl (by decide) ?_
                  refine H.q (yl_move rfl) rfl rfl (by decide) ?_
                  refine H.q (yl_neq rfl rfl) rfl rfl (by decide) ?_
                  refine H.q (yl_assign rfl) rfl rfl (by decide) ?_
                  refine HN.done ?_
                  refine HN.keep [(4, _)] ⟨rfl, trivial⟩ ?_
                  refine HN.then ?_
                  refine HR.ret ?_
                  refine HR.block ?_
                  refine HR.then ?_
                  refine HR.ret1 _ Tryz.results55 rfl (fun w hw => ?_)
                  refine ⟨?_, hw.ext⟩
                  clear hw
                  simp only [decide_eq_true_eq, decide_eq_false_iff_not] at *
                  simp [holdsR, holdsB, *]
                · refine H.keep [(2, _), (5, _), (6, _), (19, _)] ⟨rfl, rfl, rfl, rfl, trivial⟩ ?_
                  refine H.seq ?_
                  refine H.region ?_
                  refine H.q (yl_eql rfl rfl) rfl rfl (by decide) ?_
                  refine H.q (yl_assign rfl) rfl rfl (by decide) ?_
                  refine HN.done ?_
                  refine HN.keep [(2, _), (5, _), (6, _), (19, _), (77, _)] ⟨rfl, rfl, rfl, rfl, rfl, trivial⟩ ?_
                  refine HN.then ?_
                  refine H.cond _ rfl (fun t10 => ?_) (fun t10 => ?_)
                  · refine H.keep [(5, _), (6, _)] ⟨rfl, rfl, trivial⟩ ?_
                    refine H.seq ?_
                    refine H.region ?_
                    refine H.q (yl_move rfl) rfl rfl (by decide) ?_
                    refine H.q (yl_move rfl) rfl rfl (by decide) ?_
                    refine H.q (yl_lss rfl rfl) rfl rfl (by decide) ?_
                    refine H.q (yl_assign rfl) rfl rfl (by decide) ?_
                    refine HN.done ?_
                    refine HN.keep [(4, _)] ⟨rfl, trivial⟩ ?_
                    refine HN.then ?_
                    refine HR.ret ?_
                    refine HR.block ?_
                    refine HR.then ?_
                    refine HR.ret1 _ Tryz.results55 rfl (fun w hw => ?_)
                    refine ⟨?_, hw.ext⟩
                    clear hw
                    simp only [decide_eq_true_eq, decide_eq_false_iff_not] at *
                    simp [holdsR, holdsB, *]
                  · refine H.keep [(2, _), (5, _), (6, _), (19, _)] ⟨rfl, rfl, rfl, rfl, trivial⟩ ?_
                    refine H.seq ?_
                    refine H.region ?_
                    refine H.q (yl_eql rfl rfl) rfl rfl (by decide) ?_
                    refine H.q (yl_assign rfl) rfl rfl (by decide) ?_
                    refine HN.done ?_
                    refine HN.keep [(2, _), (5, _), (6, _), (82, _)] ⟨rfl, rfl, rfl, rfl, trivial⟩ ?_
                    refine HN.then ?_
                    refine H.cond _ rfl (fun t11 => ?_) (fun t11 => ?_)
                    · refine H.keep [(5, _), (6, _)] ⟨rfl, rfl, trivial⟩ ?_
                      refine H.seq ?_
                      refine H.region ?_
                      refine H.q (yl_move rfl) rfl rfl (by decide) ?_
                      refine H.q (yl_move rfl) rfl rfl (by decide) ?_
                      refine H.q (yl_leq rfl rfl) rfl rfl (by decide) ?_
                      refine H.q (yl_assign rfl) rfl rfl (by decide) ?_
                      refine HN.done ?_
                      refine HN.keep [(4, _)] ⟨rfl, trivial⟩ ?_
                      refine HN.then ?_
                      refine HR.ret ?_
                      refine HR.block ?_
                      refine HR.then ?_
                      refine HR.ret1 _ Tryz.results55 rfl (fun w hw => ?_)
                      refine ⟨?_, hw.ext⟩
                      clear hw
                      simp only [decide_eq_true_eq, decide_eq_false_iff_not] at *
                      simp [holdsR, holdsB, *]
                    · refine H.keep [(2, _), (5, _), (6, _)] ⟨rfl, rfl, rfl, trivial⟩ ?_
                      refine HN.skip ?_
                      refine HN.block ?_
                      refine HN.then ?_
                      refine H.seq ?_
                      have h1 := mul_small hsafe.1 hsa
                      have h2 := small_le hsafe.2.1
                      refine H.region ?_
                      refine H.q (yl_move rfl) rfl rfl (by decide) ?_
                      refine H.q (yl_fieldAddr _ fa25_3 rfl) rfl rfl (by decide) ?_
                      refine H.q (yl_load Tryz.isAgg2 rfl (fun w hw => hw.cell 0 rfl rfl)) rfl rfl (by decide) ?_
                      refine H.q (yl_move rfl) rfl rfl (by decide) ?_
                      refine H.q (yl_mul rfl rfl _ rfl (by omega)) rfl rfl (by decide) ?_
                      refine H.q (yl_fieldAddr _ fa25_4 rfl) rfl rfl (by decide) ?_
                      refine H.q (yl_load Tryz.isAgg2 rfl (fun w hw => hw.cell 0 rfl rfl)) rfl rfl (by decide) ?_
                      refine H.q (yl_add rfl rfl _ rfl (by omega)) rfl rfl (by decide) ?_
                      refine H.q (yl_eql rfl rfl) rfl rfl (by decide) ?_
                      refine H.q (yl_assign rfl) rfl rfl (by decide) ?_
                      refine HN.done ?_
                      refine HN.keep [(4, _)] ⟨rfl, trivial⟩ ?_
                      refine HN.then ?_
                      refine HR.ret ?_
                      refine HR.ret1 _ Tryz.results55 rfl (fun w hw => ?_)
                      refine ⟨?_, hw.ext⟩
                      clear hw
                      simp only [decide_eq_false_iff_not] at *
                      simp [holdsR, holdsB, *]

end Go.Proofs.YtgbgddmbooaddaaGreatDoor

namespace Go.Proofs.YtgbgddmbooaddaaGreatDoor
open Go.RowKit

theorem Hp.drop {w0 : World} {p : BP} {L : List BP} {R : List Rw} {F : List BP} {w : World} (h : Hp w0 (p :: L) R F w) : Hp w0 L R F w where
  ext := h.ext
  own := fun q hq => h.own q (List.mem_cons_of_mem _ hq)
  rows := h.rows
  fgn := h.fgn
  nodup := (List.nodup_cons.1 (show (p.1 :: owned L R).Nodup from h.nodup)).2
  low := fun b hb => h.low b (show b ∈ p.1 :: owned L R from List.mem_cons_of_mem _ hb)
  apart := fun b hb => h.apart b (show b ∈ p.1 :: owned L R from List.mem_cons_of_mem _ hb)
theorem Hp.drop' {w0 : World} {L : List BP} {R : List Rw} {F F' : List BP} {w : World} (h : Hp w0 L R (F' ++ F) w) : Hp w0 L R F w where
  ext := h.ext
  own := h.own
  rows := h.rows
  fgn := fun q hq => h.fgn q (List.mem_append.2 (.inr hq))
  nodup := h.nodup
  low := h.low
  apart := fun b hb p hp => h.apart b hb p (List.mem_append.2 (.inr hp))

/-- A slice whose elements have 'sz' cells each. -/
def IsSz (w : World) (v : Value) (sz : Nat) (css : List (List Value)) : Prop :=
  ∃ ad cap b o, v = .slice ad css.length cap ∧ css.length ≤ cap ∧ ∀ j cs, css[j]? = some cs → ad = some ⟨b, o, none⟩ ∧ ∀ i u, cs[i]? = some u → w.cell? ⟨b, o + j * sz + i, none⟩ = some u
theorem IsSz.ext {w w' : World} {v : Value} {sz : Nat} {css : List (List Value)} (h : IsSz w v sz css) (k : Ext w w') : IsSz w' v sz css := by
  obtain ⟨ad, cap, b, o, h1, h2, h3⟩ := h
  exact ⟨ad, cap, b, o, h1, h2, fun j cs hj => ⟨(h3 j cs hj).1, fun i u hi => cell_ext k ((h3 j cs hj).2 i u hi)⟩⟩

/-- The cells of a claim; first the value of its Set. -/
abbrev cellsI (p : Value × Inv) : List Value := [.int .u8 p.2.kind, .int .i64 p.2.a, .int .i64 p.2.b, .int .i64 p.2.k, .int .i64 p.2.m, p.1]
def IsClaims (w : World) (v : Value) (l : List (Value × Inv)) : Prop := IsSz w v 6 (l.map cellsI) ∧ ∀ p ∈ l, IsInts w p.1 p.2.set
theorem IsClaims.ext {w w' : World} {v : Value} {l : List (Value × Inv)} (h : IsClaims w v l) (k : Ext w w') : IsClaims w' v l := ⟨h.1.ext k, fun p hp => (h.2 p hp).ext k⟩
theorem claims_open {w : World} {v : Value} {l : List (Value × Inv)} (h : IsClaims w v l) : ∃ ad cap b o, v = .slice ad l.length cap ∧ l.length ≤ cap ∧ ∀ j (hj : j < l.length), ad = some ⟨b, o, none⟩ ∧ (∀ i u, (cellsI l[j])[i]? = some u → w.cell? ((⟨b, o + j * 6, none⟩ : Addr).add i) = some u) ∧ IsInts w l[j].1 l[j].2.set := by
  obtain ⟨⟨ad, cap, b, o, h1, h2, h3⟩, h4⟩ := h
  simp only [List.length_map] at h1 h2
  refine ⟨ad, cap, b, o, h1, h2, fun j hj => ?_⟩
  have := h3 j (cellsI l[j]) (by simp [hj])
  exact ⟨this.1, fun i u hi => by rw [add_at]; exact this.2 i u hi, h4 _ (List.getElem_mem hj)⟩
theorem cells_ext {w w' : World} (h : Ext w w') {ad : Addr} {cs : List Value} (hc : ∀ j v, cs[j]? = some v → w.cell? (ad.add j) = some v) : ∀ j v, cs[j]? = some v → w'.cell? (ad.add j) = some v := fun j v hj => cell_ext h (hc j v hj)

def IsRows (w : World) (v : Value) (l : List (Value × List Int)) : Prop := IsSl w v (l.map (·.1)) ∧ ∀ p ∈ l, IsInts w p.1 p.2
theorem IsRows.ext {w w' : World} {v : Value} {l : List (Value × List Int)} (h : IsRows w v l) (k : Ext w w') : IsRows w' v l := ⟨h.1.ext k, fun p hp => (h.2 p hp).ext k⟩
theorem rows_open {w : World} {v : Value} {l : List (Value × List Int)} (h : IsRows w v l) : ∃ ad cap b o, v = .slice ad l.length cap ∧ l.length ≤ cap ∧ ∀ j (hj : j < l.length), ad = some ⟨b, o, none⟩ ∧ w.cell? ⟨b, o + j, none⟩ = some l[j].1 ∧ IsInts w l[j].1 l[j].2 := by
  obtain ⟨ad, cap, b, o, h1, h2, h3⟩ := sl_open (fun p : Value × List Int => p.1) h.1
  exact ⟨ad, cap, b, o, h1, h2, fun j hj => ⟨(h3 j hj).1, (h3 j hj).2, h.2 _ (List.getElem_mem hj)⟩⟩

abbrev strV (l : List UInt8) : Value := .string ⟨l.toArray⟩
/-- A slice of strings. -/
abbrev IsStrs (w : World) (v : Value) (l : List (List UInt8)) : Prop := IsSl w v (l.map strV)

theorem drop_cons {α : Type} {l : List α} {k : Nat} (h : k < l.length) : l.drop k = l[k] :: l.drop (k + 1) := List.drop_eq_getElem_cons h
end Go.Proofs.YtgbgddmbooaddaaGreatDoor

namespace Go.Proofs.YtgbgddmbooaddaaGreatDoor
open Go.RowKit

set_option maxRecDepth 100000 in
theorem sameAll_any (l m : List (Value × Inv)) (lv mv : Value) (w0 : World) (hl : l.length ≤ 4611686018427387904) (_hm : m.length ≤ 4611686018427387904) (hls : ∀ p ∈ l, p.2.set.length ≤ 4611686018427387904) (hms : ∀ p ∈ m, p.2.set.length ≤ 4611686018427387904) (hlv : IsClaims w0 lv l) (hmv : IsClaims w0 mv m) : Calls Tryz.prog 23 #[lv, mv] w0 fun e w' => e = .returned (.bool (sameAllB (l.map (·.2)) (m.map (·.2)))) ∧ Ext w0 w' := by
  obtain ⟨ad, cap, b, o, rfl, hcap, hs⟩ := claims_open hlv
  obtain ⟨ad1, cap1, b1, o1, rfl, hcap1, hs1⟩ := claims_open hmv
  refine enterA 27 Tryz.func23 rfl Tryz.ntmps23 rfl (Hp w0 [] [] []) (Hp.init _) ?_
  refine H.seq ?_
  refine H.region ?_
  refine H.q (yl_assign rfl) rfl rfl (by decide) ?_
  refine HN.done ?_
  refine HN.keep [(0, _), (1, _)] ⟨rfl, rfl, trivial⟩ ?_
  refine HN.then ?_
  refine H.seq ?_
  refine H.seq ?_
  refine H.region ?_
  refine H.q (yl_move rfl) rfl rfl (by decide) ?_
  refine H.q (yl_len rfl Tryz.underlying28 rfl) rfl rfl (by decide) ?_
  refine H.q (yl_move rfl) rfl rfl (by decide) ?_
  refine H.q (yl_len rfl Tryz.underlying28 rfl) rfl rfl (by decide) ?_
  refine H.q (yl_neq rfl rfl) rfl rfl (by decide) ?_
  refine HN.done ?_
  refine HN.keep [(0, _), (1, _), (10, _)] ⟨rfl, rfl, rfl, trivial⟩ ?_
  refine HN.then ?_
  refine H.cond _ rfl (fun t0 => ?_) (fun t0 => ?_)
  · simp only [ne_eq, decide_not, Bool.not_eq_true', decide_eq_false_iff_not] at t0
    refine H.keep [] trivial ?_
    refine H.seq ?_
    refine H.region ?_
    refine H.q (yl_assign rfl) rfl rfl (by decide) ?_
    refine HN.done ?_
    refine HN.keep [(4, _)] ⟨rfl, trivial⟩ ?_
    refine HN.then ?_
    refine HR.ret ?_
    refine HR.then ?_
    refine HR.ret1 _ Tryz.results23 rfl (fun w hw => ?_)
    exact ⟨by rw [sameAllB_len (by simp; omega)], hw.ext⟩
  · simp only [ne_eq, decide_not, Bool.not_eq_false', decide_eq_true_eq] at t0
    have hlen : l.length = m.length := by omega
    refine H.keep [(0, _), (1, _)] ⟨rfl, rfl, trivial⟩ ?_
    refine HN.skip ?_
    refine HN.then ?_
    refine H.seq ?_
    refine H.seq ?_
    refine H.region ?_
    refine H.q (yl_assign rfl) rfl rfl (by decide) ?_
    refine HN.done ?_
    refine HN.keep [(0, _), (1, _), (5, _)] ⟨rfl, rfl, rfl, trivial⟩ ?_
    refine HN.then ?_
    refine H.block ?_
    refine H.loop (fun k : Nat => [(0, .slice ad l.length cap), (1, .slice ad1 m.length cap1), (5, .int .i64 (k : Int))]) (fun k => k ≤ l.length ∧ sameAllB ((l.map (·.2)).drop k) ((m.map (·.2)).drop k) = sameAllB (l.map (·.2)) (m.map (·.2))) (fun _ => Hp w0 [] [] []) (fun i => l.length - i) 0 ⟨Nat.zero_le _, rfl⟩ ⟨rfl, rfl, rfl, trivial⟩ (fun w hw => hw) (fun k hI => ?_)
    obtain ⟨hk0, hk1⟩ := hI
    refine H.seq ?_
    refine H.seq ?_
    refine H.region ?_
    refine H.q (yl_move rfl) rfl rfl (by decide) ?_
    refine H.q (yl_move rfl) rfl rfl (by decide) ?_
    refine H.q (yl_len rfl Tryz.underlying28 rfl) rfl rfl (by decide) ?_
    refine H.q (yl_lss rfl rfl) rfl rfl (by decide) ?_
    refine HN.done ?_
    refine HN.keep [(0, _), (1, _), (5, _), (14, _)] ⟨rfl, rfl, rfl, rfl, trivial⟩ ?_
    refine HN.then ?_
    refine H.cond _ rfl (fun t1 => ?_) (fun t1 => ?_)
    · simp only [decide_eq_true_eq] at t1; have hk : k < l.length := by omega
      have hk' : k < m.length := by omega
      have hx := hs k hk
      have hy := hs1 k hk'
      rw [show (l.map (·.2)).drop k = l[k].2 :: (l.map (·.2)).drop (k + 1) by rw [drop_cons (by simpa using hk)]; simp, show (m.map (·.2)).drop k = m[k].2 :: (m.map (·.2)).drop (k + 1) by rw [drop_cons (by simpa using hk')]; simp, sameAllB] at hk1
      refine H.keep [(0, _), (1, _), (5, _)] ⟨rfl, rfl, rfl, trivial⟩ ?_
      refine HN.skip ?_
      refine HN.then ?_
      refine H.seq ?_
      refine H.block ?_
      refine H.seq ?_
      refine H.regionQ Tryz.mixed (by kernel_rfl) (stab_hp _ _ _ _) ?_
      refine G.q (yl_move rfl) rfl rfl (by decide) ?_
      refine G.q (yl_move rfl) rfl rfl (by decide) ?_
      refine G.q (yl_index' k 6 Tryz.underlying28 Tryz.sizeOf25 hx.1 rfl rfl rfl hk) rfl rfl (by decide) ?_
      refine G.q (yl_loadAgg (cellsI l[k]) Tryz.isAgg25 Tryz.sizeOf25 rfl (fun w hw => cells_ext hw.ext hx.2.1) rfl) rfl rfl (by decide) ?_
      refine G.q (yl_move rfl) rfl rfl (by decide) ?_
      refine G.q (yl_move rfl) rfl rfl (by decide) ?_
      refine G.q (yl_index' k 6 Tryz.underlying28 Tryz.sizeOf25 hy.1 rfl rfl rfl hk') rfl rfl (by decide) ?_
      refine G.q (yl_loadAgg (cellsI m[k]) Tryz.isAgg25 Tryz.sizeOf25 rfl (fun w hw => cells_ext hw.ext hy.2.1) rfl) rfl rfl (by decide) ?_
      refine G.q (yl_call (xs := [.tmp 20, .tmp 24]) Tryz.call16 (stab_hp _ _ _ _) rfl (fun w hw => same_any l[k].2 m[k].2 l[k].1 m[k].1 w (hls _ (List.getElem_mem hk)) (hms _ (List.getElem_mem hk')) (hx.2.2.ext hw.ext) (hy.2.2.ext hw.ext))) rfl rfl (by decide) ?_
      refine G.q (yl_not rfl) rfl rfl (by decide) ?_
      refine HN.doneG ?_
      refine HN.keep [(0, _), (1, _), (5, _), (26, _)] ⟨rfl, rfl, rfl, rfl, trivial⟩ ?_
      refine HN.then ?_
      refine H.cond _ rfl (fun t2 => ?_) (fun t2 => ?_)
      · simp only [Bool.not_eq_true'] at t2
        rw [t2, Bool.false_and] at hk1
        refine H.keep [] trivial ?_
        refine H.seq ?_
        refine H.region ?_
        refine H.q (yl_assign rfl) rfl rfl (by decide) ?_
        refine HN.done ?_
        refine HN.keep [(4, _)] ⟨rfl, trivial⟩ ?_
        refine HN.then ?_
        refine HR.ret ?_
        refine HR.block ?_
        refine HR.then ?_
        refine HR.then ?_
        refine HR.block ?_
        refine HR.then ?_
        refine HR.ret1 _ Tryz.results23 rfl (fun w hw => ?_)
        exact ⟨by rw [← hk1], hw.ext⟩
      · simp only [Bool.not_eq_false'] at t2
        rw [t2, Bool.true_and] at hk1
        refine H.keep [(0, _), (1, _), (5, _)] ⟨rfl, rfl, rfl, trivial⟩ ?_
        refine HN.skip ?_
        refine HN.block ?_
        refine HN.then ?_
        refine H.region ?_
        refine H.q (yl_move rfl) rfl rfl (by decide) ?_
        refine H.q (yl_add rfl rfl _ rfl (by omega)) rfl rfl (by decide) ?_
        refine H.q (yl_assign rfl) rfl rfl (by decide) ?_
        refine HN.done ?_
        refine HN.keep [(0, _), (1, _), (5, _)] ⟨rfl, rfl, rfl, trivial⟩ ?_
        refine HN.then ?_
        exact H.at (k + 1) ⟨⟨by omega, hk1⟩, by omega⟩ ⟨rfl, rfl, rfl, trivial⟩ (fun w hw => hw)
    · simp only [decide_eq_false_iff_not] at t1
      rw [List.drop_eq_nil_of_le (by simp; omega), List.drop_eq_nil_of_le (by simp; omega)] at hk1
      refine H.keep [] trivial ?_
      refine HX.exit ?_
      refine HX.then ?_
      refine HX.then ?_
      refine HX.hit ?_
      refine HN.then ?_
      refine H.seq ?_
      refine H.region ?_
      refine H.q (yl_assign rfl) rfl rfl (by decide) ?_
      refine HN.done ?_
      refine HN.keep [(4, _)] ⟨rfl, trivial⟩ ?_
      refine HN.then ?_
      refine HR.ret ?_
      refine HR.ret1 _ Tryz.results23 rfl (fun w hw => ?_)
      exact ⟨by rw [← hk1]; rfl, hw.ext⟩

set_option maxRecDepth 100000 in
theorem wide_any (l : List (Value × Inv)) (lv : Value) (rows : List (Value × List Int)) (rv : Value) (names : List (List UInt8)) (nv : Value) (w0 : World) (hlv : IsClaims w0 lv l) (hrv : IsRows w0 rv rows) (hnv : IsStrs w0 nv names) : Calls Tryz.prog 10 #[lv, rv, nv] w0 fun e w' => e = .returned (.bool (wideB (l.map (·.2)) (rows.map (·.2)) names)) ∧ Ext w0 w' := by
  obtain ⟨ad, cap, b, o, rfl, hcap, hs⟩ := claims_open hlv
  obtain ⟨ad1, cap1, b1, o1, rfl, hcap1, hs1⟩ := rows_open hrv
  obtain ⟨ad2, cap2, b2, o2, rfl, hcap2, hs2⟩ := sl_open strV hnv
  refine enterA 60 Tryz.func10 rfl Tryz.ntmps10 rfl (Hp w0 [] [] []) (Hp.init _) ?_
  refine H.seq ?_
  refine H.region ?_
  refine H.q (yl_assign rfl) rfl rfl (by decide) ?_
  refine HN.done ?_
  refine HN.keep [(0, _), (1, _), (2, _)] ⟨rfl, rfl, rfl, trivial⟩ ?_
  refine HN.then ?_
  refine H.seq ?_
  refine H.seq ?_
  refine H.region ?_
  refine H.q (yl_move rfl) rfl rfl (by decide) ?_
  refine H.q (yl_len rfl Tryz.underlying28 rfl) rfl rfl (by decide) ?_
  refine H.q (yl_gtr rfl rfl) rfl rfl (by decide) ?_
  refine H.q (yl_move rfl) rfl rfl (by decide) ?_
  refine H.qg (wn_f rfl rfl (by decide) rfl) (fun hg => yl_sub [(1, _)] ⟨rfl, trivial⟩ (yl_move rfl)) rfl (by decide) ?_
  refine H.qg (wn_f rfl rfl (by decide) rfl) (fun hg => yl_sub [(14, _)] ⟨slT rfl hg, trivial⟩ (yl_len rfl Tryz.underlying37 rfl)) rfl (by decide) ?_
  refine H.qg (wn_f rfl rfl (by decide) rfl) (fun hg => yl_sub [(15, _)] ⟨slT rfl hg, trivial⟩ (yl_gtr rfl rfl)) rfl (by decide) ?_
  refine H.q (yl_or rfl rfl) rfl rfl (by decide) ?_
  refine H.q (yl_move rfl) rfl rfl (by decide) ?_
  refine H.qg (wn_f rfl rfl (by decide) rfl) (fun hg => yl_sub [(2, _)] ⟨rfl, trivial⟩ (yl_move rfl)) rfl (by decide) ?_
  refine H.qg (wn_f rfl rfl (by decide) rfl) (fun hg => yl_sub [(19, _)] ⟨slT rfl hg, trivial⟩ (yl_len rfl Tryz.underlying26 rfl)) rfl (by decide) ?_
  refine H.qg (wn_f rfl rfl (by decide) rfl) (fun hg => yl_sub [(20, _)] ⟨slT rfl hg, trivial⟩ (yl_gtr rfl rfl)) rfl (by decide) ?_
  refine H.q (yl_or rfl rfl) rfl rfl (by decide) ?_
  refine HN.done ?_
  refine HN.keep [(0, _), (1, _), (2, _), (22, _)] ⟨rfl, rfl, rfl, rfl, trivial⟩ ?_
  refine HN.then ?_
  refine H.cond _ rfl (fun t0 => ?_) (fun t0 => ?_)
  · refine H.keep [] trivial ?_
    refine H.seq ?_
    refine H.region ?_
    refine H.q (yl_assign rfl) rfl rfl (by decide) ?_
    refine HN.done ?_
    refine HN.keep [(6, _)] ⟨rfl, trivial⟩ ?_
    refine HN.then ?_
    refine HR.ret ?_
    refine HR.then ?_
    refine HR.ret1 _ Tryz.results10 rfl (fun w hw => ?_)
    exact ⟨by simp [wideB, t0], hw.ext⟩
  · simp only [Bool.or_eq_false_iff, decide_eq_false_iff_not] at t0
    refine H.keep [(0, _), (1, _), (2, _)] ⟨rfl, rfl, rfl, trivial⟩ ?_
    refine HN.skip ?_
    refine HN.then ?_
    refine H.seq ?_
    refine H.seq ?_
    refine H.region ?_
    refine H.q (yl_assign rfl) rfl rfl (by decide) ?_
    refine HN.done ?_
    refine HN.keep [(0, _), (1, _), (2, _), (7, _)] ⟨rfl, rfl, rfl, rfl, trivial⟩ ?_
    refine HN.then ?_
    refine H.block ?_
    refine H.loop (fun k : Nat => [(0, .slice ad l.length cap), (1, .slice ad1 rows.length cap1), (2, .slice ad2 names.length cap2), (7, .int .i64 (k : Int))]) (fun k => k ≤ l.length ∧ ∀ j (hj : j < k) (hj2 : j < l.length), ¬ (20 : Int) < l[j].2.set.length) (fun _ => Hp w0 [] [] []) (fun i => l.length - i) 0 ⟨Nat.zero_le _, fun j hj => by omega⟩ ⟨rfl, rfl, rfl, rfl, trivial⟩ (fun w hw => hw) (fun k hI => ?_)
    obtain ⟨hk0, hk1⟩ := hI
    refine H.seq ?_
    refine H.seq ?_
    refine H.region ?_
    refine H.q (yl_move rfl) rfl rfl (by decide) ?_
    refine H.q (yl_move rfl) rfl rfl (by decide) ?_
    refine H.q (yl_len rfl Tryz.underlying28 rfl) rfl rfl (by decide) ?_
    refine H.q (yl_lss rfl rfl) rfl rfl (by decide) ?_
    refine HN.done ?_
    refine HN.keep [(0, _), (1, _), (2, _), (7, _), (26, _)] ⟨rfl, rfl, rfl, rfl, rfl, trivial⟩ ?_
    refine HN.then ?_
    refine H.cond _ rfl (fun t1 => ?_) (fun t1 => ?_)
    · simp only [decide_eq_true_eq] at t1; have hk : k < l.length := by omega
      have hx := hs k hk
      obtain ⟨ad3, cap3, b3, o3, hv3, hcap3, hs3⟩ := ints_open hx.2.2
      refine H.keep [(0, _), (1, _), (2, _), (7, _)] ⟨rfl, rfl, rfl, rfl, trivial⟩ ?_
      refine HN.skip ?_
      refine HN.then ?_
      refine H.seq ?_
      refine H.block ?_
      refine H.seq ?_
      refine H.region ?_
      refine H.q (yl_move rfl) rfl rfl (by decide) ?_
      refine H.q (yl_move rfl) rfl rfl (by decide) ?_
      refine H.q (yl_index' k 6 Tryz.underlying28 Tryz.sizeOf25 hx.1 rfl rfl rfl hk) rfl rfl (by decide) ?_
      refine H.q (yl_fieldAddr _ fa25_5 rfl) rfl rfl (by decide) ?_
      refine H.q (yl_load (v := .slice ad3 l[k].2.set.length cap3) Tryz.isAgg23 rfl (fun w hw => by have := hx.2.1 5 l[k].1 rfl; rw [add_at] at this; rw [← hv3]; exact cell_ext hw.ext this)) rfl rfl (by decide) ?_
      refine H.q (yl_len rfl Tryz.underlying23 rfl) rfl rfl (by decide) ?_
      refine H.q (yl_gtr rfl rfl) rfl rfl (by decide) ?_
      refine HN.done ?_
      refine HN.keep [(0, _), (1, _), (2, _), (7, _), (35, _)] ⟨rfl, rfl, rfl, rfl, rfl, trivial⟩ ?_
      refine HN.then ?_
      refine H.cond _ rfl (fun t2 => ?_) (fun t2 => ?_)
      · simp only [decide_eq_true_eq] at t2
        refine H.keep [] trivial ?_
        refine H.seq ?_
        refine H.region ?_
        refine H.q (yl_assign rfl) rfl rfl (by decide) ?_
        refine HN.done ?_
        refine HN.keep [(6, _)] ⟨rfl, trivial⟩ ?_
        refine HN.then ?_
        refine HR.ret ?_
        refine HR.block ?_
        refine HR.then ?_
        refine HR.then ?_
        refine HR.block ?_
        refine HR.then ?_
        refine HR.ret1 _ Tryz.results10 rfl (fun w hw => ?_)
        refine ⟨?_, hw.ext⟩
        rw [wideB_claim (List.mem_map.2 ⟨l[k], List.getElem_mem hk, rfl⟩) t2]
      · simp only [decide_eq_false_iff_not] at t2
        refine H.keep [(0, _), (1, _), (2, _), (7, _)] ⟨rfl, rfl, rfl, rfl, trivial⟩ ?_
        refine HN.skip ?_
        refine HN.block ?_
        refine HN.then ?_
        refine H.region ?_
        refine H.q (yl_move rfl) rfl rfl (by decide) ?_
        refine H.q (yl_add rfl rfl _ rfl (by omega)) rfl rfl (by decide) ?_
        refine H.q (yl_assign rfl) rfl rfl (by decide) ?_
        refine HN.done ?_
        refine HN.keep [(0, _), (1, _), (2, _), (7, _)] ⟨rfl, rfl, rfl, rfl, trivial⟩ ?_
        refine HN.then ?_
        have hn : ∀ j (hj : j < k + 1) (hj2 : j < _), ¬ (20 : Int) < l[j].2.set.length := fun j hj hj2 => by
          by_cases h : j < k
          · exact hk1 j h hj2
          · obtain rfl : j = k := by omega
            exact t2
        exact H.at (k + 1) ⟨⟨by omega, hn⟩, by omega⟩ ⟨rfl, rfl, rfl, rfl, trivial⟩ (fun w hw => hw)
    · simp only [decide_eq_false_iff_not] at t1
      have hA := fun (p : Value × Inv) (hp : p ∈ l) => (show ¬ (20 : Int) < p.2.set.length from by obtain ⟨j, hj, rfl⟩ := List.getElem_of_mem hp; exact hk1 j (by omega) hj)
      refine H.keep [(1, _), (2, _)] ⟨rfl, rfl, trivial⟩ ?_
      refine HX.exit ?_
      refine HX.then ?_
      refine HX.then ?_
      refine HX.hit ?_
      refine HN.then ?_
      refine H.seq ?_
      refine H.seq ?_
      refine H.region ?_
      refine H.q (yl_assign rfl) rfl rfl (by decide) ?_
      refine HN.done ?_
      refine HN.keep [(1, _), (2, _), (8, _)] ⟨rfl, rfl, rfl, trivial⟩ ?_
      refine HN.then ?_
      refine H.block ?_
      refine H.loop (fun k : Nat => [(1, .slice ad1 rows.length cap1), (2, .slice ad2 names.length cap2), (8, .int .i64 (k : Int))]) (fun k => k ≤ rows.length ∧ ∀ j (hj : j < k) (hj2 : j < rows.length), ¬ (20 : Int) < rows[j].2.length) (fun _ => Hp w0 [] [] []) (fun i => rows.length - i) 0 ⟨Nat.zero_le _, fun j hj => by omega⟩ ⟨rfl, rfl, rfl, trivial⟩ (fun w hw => hw) (fun k hI => ?_)
      obtain ⟨hk0, hk1⟩ := hI
      refine H.seq ?_
      refine H.seq ?_
      refine H.region ?_
      refine H.q (yl_move rfl) rfl rfl (by decide) ?_
      refine H.q (yl_move rfl) rfl rfl (by decide) ?_
      refine H.q (yl_len rfl Tryz.underlying37 rfl) rfl rfl (by decide) ?_
      refine H.q (yl_lss rfl rfl) rfl rfl (by decide) ?_
      refine HN.done ?_
      refine HN.keep [(1, _), (2, _), (8, _), (39, _)] ⟨rfl, rfl, rfl, rfl, trivial⟩ ?_
      refine HN.then ?_
      refine H.cond _ rfl (fun t3 => ?_) (fun t3 => ?_)
      · simp only [decide_eq_true_eq] at t3; have hk : k < rows.length := by omega
        have hx := hs1 k hk
        obtain ⟨ad3, cap3, b3, o3, hv3, hcap3, hs3⟩ := ints_open hx.2.2
        refine H.keep [(1, _), (2, _), (8, _)] ⟨rfl, rfl, rfl, trivial⟩ ?_
        refine HN.skip ?_
        refine HN.then ?_
        refine H.seq ?_
        refine H.block ?_
        refine H.seq ?_
        refine H.region ?_
        refine H.q (yl_move rfl) rfl rfl (by decide) ?_
        refine H.q (yl_move rfl) rfl rfl (by decide) ?_
        refine H.q (yl_ix k Tryz.underlying37 Tryz.sizeOf23 hx.1 rfl rfl rfl hk) rfl rfl (by decide) ?_
        refine H.q (yl_load (v := .slice ad3 rows[k].2.length cap3) Tryz.isAgg23 rfl (fun w hw => by rw [← hv3]; exact cell_ext hw.ext hx.2.1)) rfl rfl (by decide) ?_
        refine H.q (yl_len rfl Tryz.underlying23 rfl) rfl rfl (by decide) ?_
        refine H.q (yl_gtr rfl rfl) rfl rfl (by decide) ?_
        refine HN.done ?_
        refine HN.keep [(1, _), (2, _), (8, _), (47, _)] ⟨rfl, rfl, rfl, rfl, trivial⟩ ?_
        refine HN.then ?_
        refine H.cond _ rfl (fun t4 => ?_) (fun t4 => ?_)
        · simp only [decide_eq_true_eq] at t4
          refine H.keep [] trivial ?_
          refine H.seq ?_
          refine H.region ?_
          refine H.q (yl_assign rfl) rfl rfl (by decide) ?_
          refine HN.done ?_
          refine HN.keep [(6, _)] ⟨rfl, trivial⟩ ?_
          refine HN.then ?_
          refine HR.ret ?_
          refine HR.block ?_
          refine HR.then ?_
          refine HR.then ?_
          refine HR.block ?_
          refine HR.then ?_
          refine HR.ret1 _ Tryz.results10 rfl (fun w hw => ?_)
          refine ⟨?_, hw.ext⟩
          rw [wideB_row (List.mem_map.2 ⟨rows[k], List.getElem_mem hk, rfl⟩) t4]
        · simp only [decide_eq_false_iff_not] at t4
          refine H.keep [(1, _), (2, _), (8, _)] ⟨rfl, rfl, rfl, trivial⟩ ?_
          refine HN.skip ?_
          refine HN.block ?_
          refine HN.then ?_
          refine H.region ?_
          refine H.q (yl_move rfl) rfl rfl (by decide) ?_
          refine H.q (yl_add rfl rfl _ rfl (by omega)) rfl rfl (by decide) ?_
          refine H.q (yl_assign rfl) rfl rfl (by decide) ?_
          refine HN.done ?_
          refine HN.keep [(1, _), (2, _), (8, _)] ⟨rfl, rfl, rfl, trivial⟩ ?_
          refine HN.then ?_
          have hn : ∀ j (hj : j < k + 1) (hj2 : j < _), ¬ (20 : Int) < rows[j].2.length := fun j hj hj2 => by
            by_cases h : j < k
            · exact hk1 j h hj2
            · obtain rfl : j = k := by omega
              exact t4
          exact H.at (k + 1) ⟨⟨by omega, hn⟩, by omega⟩ ⟨rfl, rfl, rfl, trivial⟩ (fun w hw => hw)
      · simp only [decide_eq_false_iff_not] at t3
        have hB := fun (p : Value × List Int) (hp : p ∈ rows) => (show ¬ (20 : Int) < p.2.length from by obtain ⟨j, hj, rfl⟩ := List.getElem_of_mem hp; exact hk1 j (by omega) hj)
        refine H.keep [(2, _)] ⟨rfl, trivial⟩ ?_
        refine HX.exit ?_
        refine HX.then ?_
        refine HX.then ?_
        refine HX.hit ?_
        refine HN.then ?_
        refine H.seq ?_
        refine H.seq ?_
        refine H.region ?_
        refine H.q (yl_assign rfl) rfl rfl (by decide) ?_
        refine HN.done ?_
        refine HN.keep [(2, _), (9, _)] ⟨rfl, rfl, trivial⟩ ?_
        refine HN.then ?_
        refine H.block ?_
        refine H.loop (fun k : Nat => [(2, .slice ad2 names.length cap2), (9, .int .i64 (k : Int))]) (fun k => k ≤ names.length ∧ ∀ j (hj : j < k) (hj2 : j < names.length), ¬ (40 : Int) < names[j].length) (fun _ => Hp w0 [] [] []) (fun i => names.length - i) 0 ⟨Nat.zero_le _, fun j hj => by omega⟩ ⟨rfl, rfl, trivial⟩ (fun w hw => hw) (fun k hI => ?_)
        obtain ⟨hk0, hk1⟩ := hI
        refine H.seq ?_
        refine H.seq ?_
        refine H.region ?_
        refine H.q (yl_move rfl) rfl rfl (by decide) ?_
        refine H.q (yl_move rfl) rfl rfl (by decide) ?_
        refine H.q (yl_len rfl Tryz.underlying26 rfl) rfl rfl (by decide) ?_
        refine H.q (yl_lss rfl rfl) rfl rfl (by decide) ?_
        refine HN.done ?_
        refine HN.keep [(2, _), (9, _), (51, _)] ⟨rfl, rfl, rfl, trivial⟩ ?_
        refine HN.then ?_
        refine H.cond _ rfl (fun t5 => ?_) (fun t5 => ?_)
        · simp only [decide_eq_true_eq] at t5; have hk : k < names.length := by omega
          have hx := hs2 k hk
          refine H.keep [(2, _), (9, _)] ⟨rfl, rfl, trivial⟩ ?_
          refine HN.skip ?_
          refine HN.then ?_
          refine H.seq ?_
          refine H.block ?_
          refine H.seq ?_
          refine H.region ?_
          refine H.q (yl_move rfl) rfl rfl (by decide) ?_
          refine H.q (yl_move rfl) rfl rfl (by decide) ?_
          refine H.q (yl_ix k Tryz.underlying26 Tryz.sizeOf9 hx.1 rfl rfl rfl hk) rfl rfl (by decide) ?_
          refine H.q (yl_load Tryz.isAgg9 rfl (fun w hw => cell_ext hw.ext hx.2)) rfl rfl (by decide) ?_
          refine H.q (yl_slen rfl Tryz.underlying9 rfl) rfl rfl (by decide) ?_
          refine H.q (yl_gtr rfl rfl) rfl rfl (by decide) ?_
          refine HN.done ?_
          refine HN.keep [(2, _), (9, _), (59, _)] ⟨rfl, rfl, rfl, trivial⟩ ?_
          refine HN.then ?_
          refine H.cond _ rfl (fun t6 => ?_) (fun t6 => ?_)
          · have t6 : (40 : Int) < names[k].length := of_decide_eq_true t6
            refine H.keep [] trivial ?_
            refine H.seq ?_
            refine H.region ?_
            refine H.q (yl_assign rfl) rfl rfl (by decide) ?_
            refine HN.done ?_
            refine HN.keep [(6, _)] ⟨rfl, trivial⟩ ?_
            refine HN.then ?_
            refine HR.ret ?_
            refine HR.block ?_
            refine HR.then ?_
            refine HR.then ?_
            refine HR.block ?_
            refine HR.then ?_
            refine HR.ret1 _ Tryz.results10 rfl (fun w hw => ?_)
            refine ⟨?_, hw.ext⟩
            rw [wideB_name (List.getElem_mem hk) t6]
          · have t6 : ¬ (40 : Int) < names[k].length := of_decide_eq_false t6
            refine H.keep [(2, _), (9, _)] ⟨rfl, rfl, trivial⟩ ?_
            refine HN.skip ?_
            refine HN.block ?_
            refine HN.then ?_
            refine H.region ?_
            refine H.q (yl_move rfl) rfl rfl (by decide) ?_
            refine H.q (yl_add rfl rfl _ rfl (by omega)) rfl rfl (by decide) ?_
            refine H.q (yl_assign rfl) rfl rfl (by decide) ?_
            refine HN.done ?_
            refine HN.keep [(2, _), (9, _)] ⟨rfl, rfl, trivial⟩ ?_
            refine HN.then ?_
            have hn : ∀ j (hj : j < k + 1) (hj2 : j < _), ¬ (40 : Int) < names[j].length := fun j hj hj2 => by
              by_cases h : j < k
              · exact hk1 j h hj2
              · obtain rfl : j = k := by omega
                exact t6
            exact H.at (k + 1) ⟨⟨by omega, hn⟩, by omega⟩ ⟨rfl, rfl, trivial⟩ (fun w hw => hw)
        · simp only [decide_eq_false_iff_not] at t5
          refine H.keep [] trivial ?_
          refine HX.exit ?_
          refine HX.then ?_
          refine HX.then ?_
          refine HX.hit ?_
          refine HN.then ?_
          refine H.seq ?_
          refine H.region ?_
          refine H.q (yl_assign rfl) rfl rfl (by decide) ?_
          refine HN.done ?_
          refine HN.keep [(6, _)] ⟨rfl, trivial⟩ ?_
          refine HN.then ?_
          refine HR.ret ?_
          refine HR.ret1 _ Tryz.results10 rfl (fun w hw => ?_)
          refine ⟨?_, hw.ext⟩
          rw [wideB_no (by simpa using t0.1.1) (by simpa using t0.1.2) t0.2 (fun x hx => by obtain ⟨p, hp, rfl⟩ := List.mem_map.1 hx; exact hA p hp) (fun x hx => by obtain ⟨p, hp, rfl⟩ := List.mem_map.1 hx; exact hB p hp) (fun x hx => by obtain ⟨j, hj, rfl⟩ := List.getElem_of_mem hx; exact hk1 j (by omega) hj)]

end Go.Proofs.YtgbgddmbooaddaaGreatDoor

namespace Go.Proofs.YtgbgddmbooaddaaGreatDoor
open Go.RowKit Go.MapKept

/-- What holds in every world of the class, and speaks of none. -/
theorem H.pull {n : Nat} {e : Env} {C : World → Prop} {K : Act → World → Prop} {p : Prop} (h : ∀ w, C w → p) (h2 : p → H n e C K) : H n e C K := fun a w hf hc => h2 (h w hc) a w hf hc
theorem HN.cls {n : Nat} {e : Env} {C : World → Prop} {Q : Exit → Act → World → Prop} (C1 : World → Prop) (hs : ∀ w, C w → C1 w) (h : HN n e C1 Q) : HN n e C Q := H.cls C1 hs h
theorem HN.pull {n : Nat} {e : Env} {C : World → Prop} {Q : Exit → Act → World → Prop} {p : Prop} (h : ∀ w, C w → p) (h2 : p → HN n e C Q) : HN n e C Q := H.pull h h2
theorem yl_to {P : Program} {C : World → Prop} {n : Nat} {e : Env} {o : Oper} {v v' : Value} (h : Yl P C n e o v) (he : v = v') : Yl P C n e o v' := he ▸ h

/-! ### Rows of one's own -/
/-- How a row's value looks, and how its elements are read. -/
theorem Rw.open {w : World} {r : Rw} (h : r.ok w) : ∃ ad cap b, r.v = .slice ad r.len cap ∧ r.len ≤ cap ∧ r.xs.length = r.len * r.sz ∧ ∀ w', r.ok w' → ∀ j u, r.xs[j]? = some u → ad = some ⟨b, 0, none⟩ ∧ w'.cell? ⟨b, j, none⟩ = some u := by
  obtain ⟨h1, ⟨h2, h3⟩ | ⟨g, cap, cur, h3, h4, h5, h6, h7, h8, h9⟩⟩ := h
  · refine ⟨none, 0, 0, by rw [h2, h3], by omega, h1, fun w' _ j u hj => ?_⟩
    rw [h3, Nat.zero_mul] at h1
    rw [List.length_eq_zero_iff.1 h1] at hj
    simp at hj
  · refine ⟨some ⟨g, 0, none⟩, cap, g, h3, h6, h1, fun w' hw' j u hj => ⟨rfl, ?_⟩⟩
    obtain ⟨k1, ⟨k2, k3⟩ | ⟨g', cap', cur', k3, k4, k5, k6, k7, k8, k9⟩⟩ := hw'
    · rw [h3] at k2; cases k2
    · rw [h3] at k3
      simp only [Value.slice.injEq, Option.some.injEq, Addr.mk.injEq, and_true, true_and] at k3
      obtain ⟨rfl, rfl⟩ := k3
      refine cell_of_blk k5 ?_
      have : (cur'.toList.take (r.len * r.sz))[j]? = some u := by rw [k9]; exact hj
      rw [List.getElem?_take] at this
      split at this
      · simpa using this
      · cases this
/-- The same of a list of one-cell elements. -/
theorem Rw.open1 {α : Type} (enc : α → Value) {w : World} {v : Value} {el : TypeId} {l : List α} (h : Rw.ok w ⟨v, l.length, el, 1, l.map enc⟩) :
    ∃ ad cap b, v = .slice ad l.length cap ∧ l.length ≤ cap ∧ ∀ w', Rw.ok w' ⟨v, l.length, el, 1, l.map enc⟩ → ∀ j (hj : j < l.length), ad = some ⟨b, 0, none⟩ ∧ w'.cell? ⟨b, 0 + j, none⟩ = some (enc l[j]) := by
  obtain ⟨ad, cap, b, h1, h2, h3, h4⟩ := Rw.open h
  exact ⟨ad, cap, b, h1, h2, fun w' hw' j hj => by rw [Nat.zero_add]; exact h4 w' hw' j (enc l[j]) (by simp [hj])⟩
theorem Rw.isSl {w : World} {r : Rw} (h : r.ok w) (hs : r.sz = 1) : IsSl w r.v r.xs := by
  obtain ⟨ad, cap, b, h1, h2, h3, h4⟩ := Rw.open h
  rw [hs, Nat.mul_one] at h3
  exact ⟨ad, cap, b, 0, by rw [h3]; exact h1, by rw [h3]; exact h2, fun j x hj => by rw [Nat.zero_add]; exact h4 w h j x hj⟩

section
variable {w0 : World} {L : List BP} {R : List Rw} {F : List BP} {w : World}
theorem Hp.row (h : Hp w0 L R F w) (i : Nat) {r : Rw} (hi : R[i]? = some r) : r.ok w := h.rows r (List.mem_of_getElem? hi)
/-- No slice yet. -/
theorem Hp.rowNil (h : Hp w0 L R F w) (el sz : Nat) : Hp w0 L (⟨.slice none 0 0, 0, el, sz, []⟩ :: R) F w where
  ext := h.ext
  own := h.own
  rows := fun r hr => by
    rcases List.mem_cons.1 hr with rfl | hr
    · exact ⟨by simp, .inl ⟨rfl, rfl⟩⟩
    · exact h.rows r hr
  fgn := h.fgn
  nodup := h.nodup
  low := h.low
  apart := h.apart
theorem owned_row (L : List BP) (r : Rw) (R : List Rw) {b : Nat} (hb : r.blk = some b) : (owned L (r :: R)).Perm (b :: owned L R) := by
  unfold owned
  rw [List.filterMap_cons_some hb]
  exact List.perm_middle
/-- A block that is a whole slice becomes a row. -/
theorem Hp.toRow {b el n sz : Nat} {cs : List Value} (h : Hp w0 ((b, ex (.cells cs.toArray el)) :: L) R F w) (hn : cs.length = n * sz) (hm : n ≤ maxLen) : Hp w0 L (⟨.slice (some ⟨b, 0, none⟩) n n, n, el, sz, cs⟩ :: R) F w where
  ext := h.ext
  own := fun q hq => h.own q (List.mem_cons_of_mem _ hq)
  rows := fun r hr => by
    rcases List.mem_cons.1 hr with rfl | hr
    · refine ⟨hn, .inr ⟨b, n, cs.toArray, rfl, Nat.zero_le _, h.blk 0 rfl, Nat.le_refl _, hm, by simpa using hn, ?_⟩⟩
      rw [← hn]
      simp
    · exact h.rows r hr
  fgn := h.fgn
  nodup := (owned_row L _ R rfl).nodup_iff.2 h.nodup
  low := fun c hc => h.low c ((owned_row L _ R rfl).mem_iff.1 hc)
  apart := fun c hc => h.apart c ((owned_row L _ R rfl).mem_iff.1 hc)
theorem Hp.dropR {r : Rw} (h : Hp w0 L (r :: R) F w) : Hp w0 L R F w := by
  have hsub : ∀ c, c ∈ owned L R → c ∈ owned L (r :: R) := fun c hc => by
    unfold owned at hc ⊢
    rcases List.mem_append.1 hc with hc | hc
    · exact List.mem_append.2 (.inl hc)
    · refine List.mem_append.2 (.inr ?_)
      obtain ⟨q, hq, hq2⟩ := List.mem_filterMap.1 hc
      exact List.mem_filterMap.2 ⟨q, List.mem_cons_of_mem _ hq, hq2⟩
  refine ⟨h.ext, h.own, fun q hq => h.rows q (List.mem_cons_of_mem _ hq), h.fgn, ?_, fun b hb => h.low b (hsub b hb), fun b hb => h.apart b (hsub b hb)⟩
  refine List.Nodup.sublist ?_ h.nodup
  unfold owned
  exact List.Sublist.append_left ((List.sublist_cons_self r R).filterMap _) _
theorem owned_set {i : Nat} {r : Rw} (h : Hp w0 L R F w) (hi : R[i]? = some r) (r' : Rw) (hb : ∀ b, r'.blk = some b → r.blk = some b ∨ w.heap.size ≤ b) :
    (owned L (R.set i r')).Nodup ∧ ∀ b, b ∈ owned L (R.set i r') → b ∈ owned L R ∨ w.heap.size ≤ b := by
  have hil : i < R.length := (List.getElem?_eq_some_iff.1 hi).1
  have hsplit : R = R.take i ++ r :: R.drop (i + 1) := by
    have : R[i] = r := (List.getElem?_eq_some_iff.1 hi).2
    rw [← this, ← List.drop_eq_getElem_cons hil, List.take_append_drop]
  have hset : R.set i r' = R.take i ++ r' :: R.drop (i + 1) := List.set_eq_take_append_cons_drop.trans (if_pos hil)
  have hmem : ∀ b, r.blk = some b → b ∈ owned L R := fun b hb => List.mem_append.2 (.inr (List.mem_filterMap.2 ⟨r, List.mem_of_getElem? hi, hb⟩))
  have nd := h.nodup
  have perm : ∀ (x : Rw), (owned L (R.take i ++ x :: R.drop (i + 1))).Perm ((x.blk).toList ++ owned L (R.take i ++ R.drop (i + 1))) := fun x => by
    unfold owned
    rw [List.filterMap_append, List.filterMap_append]
    cases hx : x.blk with
    | none => rw [List.filterMap_cons_none hx]; exact List.Perm.refl _
    | some b =>
      rw [List.filterMap_cons_some hx, ← List.append_assoc]
      simp only [Option.toList_some, List.cons_append, ← List.append_assoc]
      exact List.perm_middle
  have p0 := perm r
  have p1 := perm r'
  rw [← hsplit] at p0
  rw [← hset] at p1
  have nd0 := p0.nodup_iff.1 nd
  have nd1 : (owned L (R.take i ++ R.drop (i + 1))).Nodup := (List.nodup_append.1 nd0).2.1
  have in0 : ∀ b, b ∈ owned L (R.take i ++ R.drop (i + 1)) → b ∈ owned L R := fun b hb => p0.mem_iff.2 (List.mem_append.2 (.inr hb))
  refine ⟨p1.nodup_iff.2 ?_, fun c hc => ?_⟩
  · cases hx : r'.blk with
    | none => simpa using nd1
    | some b =>
      refine List.nodup_cons.2 ⟨fun hm => ?_, nd1⟩
      rcases hb b hx with h1 | h1
      · have := (List.nodup_append.1 nd0).2.2 b (by simp [h1]) b hm
        exact this rfl
      · have := h.lt (in0 b hm)
        omega
  · rcases List.mem_append.1 (p1.mem_iff.1 hc) with h1 | h1
    · cases hx : r'.blk with
      | none => rw [hx] at h1; simp at h1
      | some d =>
        rw [hx] at h1
        simp at h1
        subst h1
        rcases hb _ hx with h2 | h2
        · exact .inl (hmem _ h2)
        · exact .inr h2
    · exact .inl (in0 c h1)
/-- The row number i is another one; of the rest nothing has turned. -/
theorem Hp.grow {w' : World} (h : Hp w0 L R F w) (i : Nat) {r : Rw} (hi : R[i]? = some r) (r' : Rw) (hg : w.grownBy w' r.blk) (hok : r'.ok w') (hb : ∀ b, r'.blk = some b → r.blk = some b ∨ w.heap.size ≤ b) : Hp w0 L (R.set i r') F w' := by
  obtain ⟨nd, hsub⟩ := owned_set h hi r' hb
  have hmem : ∀ b, r.blk = some b → b ∈ owned L R := fun b hb => List.mem_append.2 (.inr (List.mem_filterMap.2 ⟨r, List.mem_of_getElem? hi, hb⟩))
  refine ⟨⟨hg.os.trans h.ext.os, hg.tape.trans h.ext.tape, hg.output.trans h.ext.output, Nat.le_trans h.ext.size hg.size, fun k hk => ?_⟩, fun p hp => ?_, fun q hq => ?_, fun p hp => ?_, nd, fun b hb => ?_, fun b hb p hp => ?_⟩
  · rw [hg.block k (Nat.lt_of_lt_of_le hk h.ext.size) (fun e => by have := h.low k (hmem k e.symm); omega)]
    exact h.ext.block k hk
  · obtain ⟨o, ho, hp2⟩ := h.own p hp
    refine ⟨o, ?_, hp2⟩
    rw [hg.block p.1 (blk_lt ho) (fun e => ?_)]
    · exact ho
    · exact (List.nodup_append.1 h.nodup).2.2 p.1 (List.mem_map.2 ⟨p, hp, rfl⟩) p.1 (List.mem_filterMap.2 ⟨r, List.mem_of_getElem? hi, e.symm⟩) rfl
  · obtain ⟨j, hj⟩ := List.getElem?_of_mem hq
    rw [List.getElem?_set] at hj
    split at hj
    · split at hj
      · simp only [Option.some.injEq] at hj; exact hj ▸ hok
      · cases hj
    · rename_i hij
      have hq' := h.rows q (List.mem_of_getElem? hj)
      refine Rw.ok_blk hq' fun b hqb => hg.block b (Rw.lt hq' hqb) fun e => ?_
      have nd2 := (List.nodup_append.1 h.nodup).2.1
      have hil : i < R.length := (List.getElem?_eq_some_iff.1 hi).1
      have hjl : j < R.length := (List.getElem?_eq_some_iff.1 hj).1
      have : ∀ (l : List Rw) (i j : Nat), i < j → l[i]? = some r → l[j]? = some q → ¬ (l.filterMap Rw.blk).Nodup := by
        intro l
        induction l with
        | nil => intro i j _ h1; simp at h1
        | cons a l ih =>
          intro i j hij h1 h2 hnd
          cases j with
          | zero => omega
          | succ j =>
            simp only [List.getElem?_cons_succ] at h2
            cases i with
            | zero =>
              simp only [List.getElem?_cons_zero, Option.some.injEq] at h1
              subst h1
              rw [List.filterMap_cons_some e.symm] at hnd
              exact (List.nodup_cons.1 hnd).1 (List.mem_filterMap.2 ⟨q, List.mem_of_getElem? h2, hqb⟩)
            | succ i =>
              simp only [List.getElem?_cons_succ] at h1
              refine ih i j (by omega) h1 h2 (List.Nodup.sublist ?_ hnd)
              exact (List.sublist_cons_self a l).filterMap _
      have that : ∀ (l : List Rw) (i j : Nat), i < j → l[i]? = some q → l[j]? = some r → ¬ (l.filterMap Rw.blk).Nodup := by
        intro l
        induction l with
        | nil => intro i j _ h1; simp at h1
        | cons a l ih =>
          intro i j hij h1 h2 hnd
          cases j with
          | zero => omega
          | succ j =>
            simp only [List.getElem?_cons_succ] at h2
            cases i with
            | zero =>
              simp only [List.getElem?_cons_zero, Option.some.injEq] at h1
              subst h1
              rw [List.filterMap_cons_some hqb] at hnd
              exact (List.nodup_cons.1 hnd).1 (List.mem_filterMap.2 ⟨r, List.mem_of_getElem? h2, e.symm⟩)
            | succ i =>
              simp only [List.getElem?_cons_succ] at h1
              refine ih i j (by omega) h1 h2 (List.Nodup.sublist ?_ hnd)
              exact (List.sublist_cons_self a l).filterMap _
      rcases Nat.lt_or_gt_of_ne hij with hlt | hgt
      · exact this R i j hlt hi hj nd2
      · exact that R j i hgt hj hi nd2
  · obtain ⟨o, ho, hp2⟩ := h.fgn p hp
    refine ⟨o, ?_, hp2⟩
    rw [hg.block p.1 (blk_lt ho) (fun e => h.apart p.1 (hmem p.1 e.symm) p hp rfl)]
    exact ho
  · rcases hsub b hb with h1 | h1
    · exact h.low b h1
    · exact Nat.le_trans h.ext.size h1
  · rcases hsub b hb with h1 | h1
    · exact h.apart b h1 p hp
    · have := h.fgn_lt hp
      omega
end

section
variable {P : Program} {n : Nat} {e : Env} {w0 : World} {L : List BP} {R : List Rw} {F : List BP} {Q : Exit → Act → World → Prop} {ops : Array Oper} {rest : List Oper}
theorem run_append_mine (w : World) (t ty e : TypeId) (i : TypeInfo) (z : Value) (size bytes : Nat) (ht : P.underlying t = some (.slice e)) (hi : P.info? e = some i) (hz : i.zero = some z)
    (hsize : i.size = size) (hby : i.bytes = bytes) (hzs : z.cells.size = size) (hsz : 0 < size) (v : Value) (n : Nat) (xs : List Value) (hown : w.ownsRow 0 e size v n xs)
    (ad : Option Addr) (m c : Nat) (news : List Value) (hl : news.length = m * size) (hnews : ∀ j u, news[j]? = some u → ∃ a, ad = some a ∧ w.cell? (a.add j) = some u) (h1 : ∀ u ∈ news, u.oneCell' = true)
    (h63 : n + m ≤ maxLen) (hbytes : (n + m) * bytes ≤ 140737488355328) :
    ∃ v' w', (Builtin.append_ #[t, t] ty #[v, .slice ad m c]).run P w = .ok v' w' ∧ w'.ownsRow 0 e size v' (n + m) (xs ++ news) ∧ w.grownBy w' v.ownBlock ∧ ∀ b, v'.ownBlock = some b → v.ownBlock = some b ∨ w.heap.size ≤ b := by
  cases ad with
  | none =>
    have hn : news = [] := by
      cases news with
      | nil => rfl
      | cons u r => obtain ⟨a, h, _⟩ := hnews 0 u rfl; cases h
    subst hn
    have hm : m = 0 := by
      rcases Nat.mul_eq_zero.1 (show m * size = 0 by simpa using hl.symm) with h | h
      · exact h
      · omega
    subst hm
    refine ⟨v, w, ?_, by simpa using hown, ⟨rfl, rfl, rfl, Nat.le_refl _, fun _ _ _ => rfl⟩, fun b hb => .inl hb⟩
    obtain ⟨_, ⟨rfl, rfl⟩ | ⟨g, cap, cur, rfl, _, _, hc, _⟩⟩ := hown
    · simp [Builtin.append_, run_underlying ht, sizeOf, typeInfo, hi, Builtin.lenOf, Builtin.firstCells]
    · simp [Builtin.append_, run_underlying ht, sizeOf, typeInfo, hi, Builtin.lenOf, Builtin.firstCells, loadCells, hc, storeCells]
  | some a =>
    have hnews' : ∀ j u, news[j]? = some u → w.cell? (a.add j) = some u := fun j u hj => by
      obtain ⟨a', h, h2⟩ := hnews j u hj
      cases h
      exact h2
    obtain ⟨v', w', hr, h2, h3, h4⟩ := run_append_own (P := P) w 0 t ty e i z size bytes ht hi hz hsize hby hzs hsz v n xs hown a m c news hl hnews' h1 h63 hbytes (Nat.zero_le _)
    refine ⟨v', w', hr, h2, h3, fun b hb => ?_⟩
    have hsmall : n + m ≤ 9223372036854775807 := by simp only [maxLen] at h63; omega
    subst hsize
    subst hby
    obtain ⟨hlen, ⟨rfl, rfl⟩ | ⟨g, cap, cur, rfl, _, hg, hc, hcm, hcs, _⟩⟩ := hown
    · by_cases hm : m = 0
      · have := h4.2 ⟨rfl, hm⟩
        subst this
        simp [Value.ownBlock] at hb
      · have hr2 := run_append_nil (P := P) w t ty e i z ht hi hz a m c news hl hnews' (by omega) (by omega) (by simp only [Nat.zero_add] at hbytes; omega)
        rw [hr] at hr2
        simp only [Result.ok.injEq] at hr2
        rw [hr2.1] at hb
        simp [Value.ownBlock] at hb
        exact .inr (by omega)
    · by_cases hroom : n + m ≤ cap
      · have hfit : n * i.size + news.length ≤ cur.size := by rw [hl, hcs, ← Nat.add_mul]; exact Nat.mul_le_mul_right _ hroom
        have hr2 := run_append_room (P := P) w t ty e i ht hi g n cap cur hg a m c news hl hnews' h1 hroom hfit
        rw [hr] at hr2
        simp only [Result.ok.injEq] at hr2
        rw [hr2.1] at hb
        exact .inl hb
      · have holds : ∀ j u, xs[j]? = some u → w.cell? ((⟨g, 0, none⟩ : Addr).add j) = some u := World.ownsRow.cells (w := w) ⟨hlen, .inr ⟨g, cap, cur, rfl, Nat.zero_le _, hg, hc, hcm, hcs, by assumption⟩⟩ (g := g) rfl
        have hr2 := run_append_grow (P := P) w t ty e i z ht hi hz ⟨g, 0, none⟩ n cap xs hlen holds a m c news hl hnews' (by omega) (by omega) (growslice_fits (by omega) hbytes)
        rw [hr] at hr2
        simp only [Result.ok.injEq] at hr2
        rw [hr2.1] at hb
        simp [Value.ownBlock] at hb
        exact .inr (by omega)

/-- What the program's table says of an element's type: its zero value, its cells, its bytes. -/
structure El (P : Program) (t e : TypeId) (z : Value) (size bytes : Nat) : Prop where
  ht : P.underlying t = some (.slice e)
  hi : (P.info? e).map (fun i => (i.zero, i.size, i.bytes)) = some (some z, size, bytes)
  hzs : z.cells.size = size
  hsz : 0 < size

/-- 'append' to the row number i. -/
theorem H.append {s x : Operand} {ty bytes d m c : Nat} {z : Value} {t : TypeId} {p : String} {af : Array Edge} (i : Nat) {r : Rw} {ad : Option Addr} (news : List Value) (E : El P ty r.el z r.sz bytes) (hi : R[i]? = some r)
    (hs : eev e s = some r.v) (hx : eev e x = some (.slice ad m c)) (hl : news.length = m * r.sz) (hnews : ∀ w, Hp w0 L R F w → ∀ j u, news[j]? = some u → ∃ a, ad = some a ∧ w.cell? (a.add j) = some u) (h1 : ∀ u ∈ news, u.oneCell' = true)
    (h63 : r.len + m ≤ 1000000000) (hby : bytes ≤ 100000) (hn : d < n)
    (h : ∀ v', H n ((d, v') :: e) (Hp w0 L (R.set i ⟨v', r.len + m, r.el, r.sz, r.xs ++ news⟩) F) (wpList P ops Q rest)) :
    H n e (Hp w0 L R F) (wpList P ops Q (⟨some d, .call { callee := .builtin .append, args := #[s, x], argTypes := #[ty, ty] }, t, p, af, none⟩ :: rest)) := by
  intro a w hf hc
  refine wpList_plain rfl fun K hK => ?_
  obtain ⟨info, hinfo, hz, hsize, hbytes⟩ : ∃ i, P.info? r.el = some i ∧ i.zero = some z ∧ i.size = r.sz ∧ i.bytes = bytes := by
    obtain ⟨i, hi, hzz⟩ := Option.map_eq_some_iff.1 E.hi
    simp only [Prod.mk.injEq] at hzz
    exact ⟨i, hi, hzz.1, hzz.2.1, hzz.2.2⟩
  have hb : (r.len + m) * bytes ≤ 140737488355328 := Nat.le_trans (Nat.mul_le_mul h63 hby) (by decide)
  obtain ⟨v', w', hr, h2, h3, h4⟩ := run_append_mine (P := P) w ty t r.el info z r.sz bytes E.ht hinfo hz hsize hbytes E.hzs E.hsz r.v r.len r.xs (hc.row i hi) ad m c news hl (hnews w hc) h1 (by simp only [maxLen]; omega) hb
  have hr' : (execOp a.eval ⟨some d, .call { callee := .builtin .append, args := #[s, x], argTypes := #[ty, ty] }, t, p, af, none⟩).run P w = .ok (.value v') w' := by
    simp [execOp, resolve, invoke, builtin, hf.ev hs, hf.ev hx, hr]
  unfold Oper.wp
  rw [hr']
  exact hK _ _ (h v' _ _ (hf.put hn _) (hc.grow i hi ⟨v', r.len + m, r.el, r.sz, r.xs ++ news⟩ h3 h2 h4))
end

/-! ### Maps -/
/-- A key's type: the keys that 'D' describes are found by their values. -/
structure KL (P : Program) (kt : TypeId) (D : Value → Prop) : Prop where
  check : ∀ (w : World) (em : Bool) {v : Value}, D v → (Instr.checkKey em 10000 kt v).run P w = .ok () w
  find : ∀ (w : World) {x : Value}, D x → ∀ es : List MapEntry, (∀ e ∈ es, D e.key) →
    ((Instr.findKey kt x es).run P w = .ok none w ∧ ∀ e ∈ es, e.key ≠ x) ∨ ∃ j e, (Instr.findKey kt x es).run P w = .ok (some (j, e.val)) w ∧ es[j]? = some e ∧ e.key = x
  stays : ∀ (w : World) {v : Value}, D v → (Instr.keyThatStays v v).run P w = .ok v w
theorem KL.of {P : Program} {kt : TypeId} {D : Value → Prop} (K : Maps.Keyed P kt) (h : ∀ v, D v → ∃ l, keyOf P kt v = some l) : KL P kt D where
  check w em _ hv := let ⟨_, hl⟩ := h _ hv; K.check w em hl
  find w _ hx es hes := let ⟨_, hl⟩ := h _ hx; K.find w hl es fun e he => h _ (hes e he)
  stays w _ hv := let ⟨_, hl⟩ := h _ hv; K.stays w hl

section
variable {κ β : Type} [DecidableEq κ]
/-- Entries, the oldest first. -/
def mget (l : List (κ × β)) (k : κ) : Option β := (l.find? fun p => decide (p.1 = k)).map (·.2)
def mput (l : List (κ × β)) (k : κ) (v : β) : List (κ × β) := if l.any (fun p => decide (p.1 = k)) then l.map (fun p => if p.1 = k then (k, v) else p) else l ++ [(k, v)]
/-- The object is a map with these entries. -/
def IsMap (ke : κ → Value) (ve : β → Value) (l : List (κ × β)) (o : Obj) : Prop := ∃ es clock, o = .map es clock ∧ Stamped es clock ∧ es.toList.map (fun x => (x.key, x.val)) = l.map fun p => (ke p.1, ve p.2)
end

theorem map_at {κ β : Type} {ke : κ → Value} {ve : β → Value} {l : List (κ × β)} {es : List MapEntry} (h : es.map (fun x => (x.key, x.val)) = l.map fun p => (ke p.1, ve p.2)) {j : Nat} {x : MapEntry} (hj : es[j]? = some x) : ∃ p, l[j]? = some p ∧ x.key = ke p.1 ∧ x.val = ve p.2 := by
  have h1 : (es.map (fun x => (x.key, x.val)))[j]? = some (x.key, x.val) := by simp [hj]
  rw [h] at h1
  simp only [List.getElem?_map, Option.map_eq_some_iff] at h1
  obtain ⟨p, hp, hq⟩ := h1
  simp only [Prod.mk.injEq] at hq
  exact ⟨p, hp, hq.1.symm, hq.2.symm⟩
theorem map_mem {κ β : Type} {ke : κ → Value} {ve : β → Value} {l : List (κ × β)} {es : List MapEntry} (h : es.map (fun x => (x.key, x.val)) = l.map fun p => (ke p.1, ve p.2)) {x : MapEntry} (hx : x ∈ es) : ∃ p ∈ l, x.key = ke p.1 ∧ x.val = ve p.2 := by
  obtain ⟨j, hj⟩ := List.getElem?_of_mem hx
  obtain ⟨p, hp, h2⟩ := map_at h hj
  exact ⟨p, List.mem_of_getElem? hp, h2⟩
theorem map_mem' {κ β : Type} {ke : κ → Value} {ve : β → Value} {l : List (κ × β)} {es : List MapEntry} (h : es.map (fun x => (x.key, x.val)) = l.map fun p => (ke p.1, ve p.2)) {p : κ × β} (hp : p ∈ l) : ∃ x ∈ es, x.key = ke p.1 ∧ x.val = ve p.2 := by
  have : (ke p.1, ve p.2) ∈ es.map (fun x => (x.key, x.val)) := by rw [h]; exact List.mem_map.2 ⟨p, hp, rfl⟩
  obtain ⟨x, hx, hq⟩ := List.mem_map.1 this
  simp only [Prod.mk.injEq] at hq
  exact ⟨x, hx, hq.1, hq.2⟩

section
variable {P : Program} {n : Nat} {e : Env} {w0 : World} {L : List BP} {R : List Rw} {F : List BP} {Q : Exit → Act → World → Prop} {ops : Array Oper} {rest : List Oper}
variable {κ β : Type}

theorem H.makeMap (ke : κ → Value) (ve : β → Value) {ty d : Nat} {t : TypeId} {p : String} {af : Array Edge} (hn : d < n)
    (h : ∀ b, w0.heap.size ≤ b → H n ((d, .map (some b)) :: e) (Hp w0 ((b, IsMap ke ve []) :: L) R F) (wpList P ops Q rest)) :
    H n e (Hp w0 L R F) (wpList P ops Q (⟨some d, .makeMap ty none, t, p, af, none⟩ :: rest)) := by
  intro a w hf hc
  refine wpList_plain rfl fun K hK => ?_
  have hr : (execOp a.eval ⟨some d, .makeMap ty none, t, p, af, none⟩).run P w = .ok (.value (.map (some w.heap.size))) (w.alloc (.map #[] 0)) := by
    simp [execOp, Instr.makeMap, newObj]
    rfl
  unfold Oper.wp
  rw [hr]
  refine hK _ _ (h w.heap.size hc.ext.size _ _ (hf.put hn _) ?_)
  have k := hc.alloc (.map #[] 0)
  exact ⟨k.ext, fun q hq => by
    rcases List.mem_cons.1 hq with rfl | hq
    · exact ⟨_, blk_alloc w _, #[], 0, rfl, stamped_empty 0, rfl⟩
    · exact k.own q (List.mem_cons_of_mem _ hq), k.rows, k.fgn, k.nodup, k.low, k.apart⟩

variable [DecidableEq κ]
/-- 'm[k]'. -/
theorem yl_lookup {ke : κ → Value} {ve : β → Value} {l : List (κ × β)} {mty kt et : TypeId} {D : Value → Prop} {d : Option Tmp} {t : TypeId} {p : String} {af : Array Edge} {g : Option (Nat × Bool)} {x y : Operand} {b : Nat} {zero : Value} (i : Nat) (k : κ) (K : KL P kt D) (hm : P.underlying mty = some (.map kt et))
    (hz : ∀ w, (zeroValue et).run P w = .ok zero w) (hinj : ∀ a b, ke a = ke b → a = b) (hD : ∀ p ∈ l, D (ke p.1)) (hk : D (ke k)) (hL : L[i]? = some (b, IsMap ke ve l)) (hx : eev e x = some (.map (some b))) (hy : eev e y = some (ke k)) :
    Yl P (Hp w0 L R F) n e ⟨d, .lookup mty x y false, t, p, af, g⟩ ((mget l k).elim zero ve) :=
  Yl.val fun a w hf hc => by
    obtain ⟨o, ho, es, clock, rfl, hst, hes⟩ := hc.own _ (List.mem_of_getElem? hL)
    replace ho : w.heap[b]? = some (.map es clock) := ho
    have hkeys : ∀ e ∈ es.toList, D e.key := fun e he => by
      obtain ⟨p, hp, h1, _⟩ := map_mem hes he
      rw [h1]; exact hD p hp
    simp only [execOp, hf.ev hx, hf.ev hy]
    rcases K.find w hk es.toList hkeys with ⟨h1, h2⟩ | ⟨j, e0, h1, h2, h3⟩
    · have : mget l k = none := by
        simp only [mget, Option.map_eq_none_iff, List.find?_eq_none, decide_eq_true_eq]
        intro q hq he
        obtain ⟨x, hx, hx1, _⟩ := map_mem' hes hq
        exact h2 x hx (by rw [hx1, he])
      simp [Instr.lookup, run_underlying hm, MapKept.run_getObj_map ho, K.check w _ hk, h1, hz w, this, Result.andThen]
    · obtain ⟨q, hq, hq1, hq2⟩ := map_at hes h2
      have hqk : q.1 = k := hinj _ _ (by rw [← hq1, h3])
      have : mget l k = some q.2 := by
        unfold mget
        cases hf : l.find? (fun p => decide (p.1 = k)) with
        | none =>
          rw [List.find?_eq_none] at hf
          exact absurd (by simpa using hqk) (hf q (List.mem_of_getElem? hq))
        | some q' =>
          have hq'k : q'.1 = k := by simpa using List.find?_some hf
          have hmem := List.mem_of_find?_eq_some hf
          obtain ⟨j', hj'⟩ := List.getElem?_of_mem hmem
          have hlt : j < es.toList.length := (List.getElem?_eq_some_iff.1 h2).1
          have hll : es.toList.length = l.length := by simpa using congrArg List.length hes
          have hlt' : j' < es.toList.length := by rw [hll]; exact (List.getElem?_eq_some_iff.1 hj').1
          have hnd := hst.2.2
          have e1 : (es.toList.map (·.key))[j]? = some (ke k) := by simp only [List.getElem?_map, h2, Option.map_some, h3]
          have e2 : (es.toList.map (·.key))[j']? = some (ke k) := by
            obtain ⟨q2, hq2', hq21, _⟩ := map_at hes (List.getElem?_eq_getElem hlt')
            rw [hj'] at hq2'
            cases hq2'
            simp only [List.getElem?_map, List.getElem?_eq_getElem hlt', Option.map_some, hq21, hq'k]
          have : j = j' := (List.getElem?_inj (by simpa using hlt) hnd).1 (by rw [e1, e2])
          subst this
          rw [hq] at hj'
          cases hj'
          rfl
      simp [Instr.lookup, run_underlying hm, MapKept.run_getObj_map ho, K.check w _ hk, h1, this, hq2, Result.andThen]

/-- 'm[k] = v'. -/
theorem H.mapUpdate {ke : κ → Value} {ve : β → Value} {l : List (κ × β)} {mty kt et : TypeId} {D : Value → Prop} {t : TypeId} {p : String} {af : Array Edge} {x y z : Operand} {b : Nat} (i : Nat) (k : κ) (v : β) (K : KL P kt D) (hm : P.underlying mty = some (.map kt et))
    (hinj : ∀ a b, ke a = ke b → a = b) (hD : ∀ p ∈ l, D (ke p.1)) (hk : D (ke k)) (hL : L[i]? = some (b, IsMap ke ve l)) (hx : eev e x = some (.map (some b))) (hy : eev e y = some (ke k)) (hz : eev e z = some (ve v))
    (h : H n e (Hp w0 (L.set i (b, IsMap ke ve (mput l k v))) R F) (wpList P ops Q rest)) :
    H n e (Hp w0 L R F) (wpList P ops Q (⟨none, .mapUpdate mty x y z, t, p, af, none⟩ :: rest)) := by
  intro a w hf hc
  refine wpList_plain rfl fun KK hK => ?_
  obtain ⟨o, ho, es, clock, rfl, hst, hes⟩ := hc.own _ (List.mem_of_getElem? hL)
  replace ho : w.heap[b]? = some (.map es clock) := ho
  have hkeys : ∀ e ∈ es.toList, D e.key := fun e he => by
    obtain ⟨p, hp, h1, _⟩ := map_mem hes he
    rw [h1]; exact hD p hp
  rcases K.find w hk es.toList hkeys with ⟨h1, h2⟩ | ⟨j, e0, h1, h2, h3⟩
  · have hr : (execOp a.eval ⟨none, .mapUpdate mty x y z, t, p, af, none⟩).run P w = .ok .skip { w with heap := w.heap.setIfInBounds b (.map (es.push { key := ke k, val := ve v, born := clock }) (clock + 1)) } := by
      simp [execOp, hf.ev hx, hf.ev hy, hf.ev hz, Instr.mapUpdate, run_underlying hm, MapKept.run_getObj_map ho, K.check w _ hk, h1, MapKept.run_setObj_map _ ho, Result.andThen]
    unfold Oper.wp
    rw [hr]
    refine hK _ _ (h _ _ hf (hc.store i _ hL rfl rfl rfl (by simp) (heap_set ho).1 ?_ (heap_set ho).2))
    refine ⟨_, _, rfl, stamped_push hst h2, ?_⟩
    have hno : l.any (fun p => decide (p.1 = k)) = false := List.any_eq_false.2 fun q hq => by
      simp only [decide_eq_true_eq]
      intro he
      obtain ⟨x, hx, hx1, _⟩ := map_mem' hes hq
      exact h2 x hx (by rw [hx1, he])
    simp [mput, hno, hes]
  · have hj : es[j]? = some e0 := by simpa using h2
    have hr : (execOp a.eval ⟨none, .mapUpdate mty x y z, t, p, af, none⟩).run P w = .ok .skip { w with heap := w.heap.setIfInBounds b (.map (es.modify j fun e => { e with key := ke k, val := ve v }) clock) } := by
      simp [execOp, hf.ev hx, hf.ev hy, hf.ev hz, Instr.mapUpdate, run_underlying hm, MapKept.run_getObj_map ho, K.check w _ hk, h1, hj, h3, K.stays w hk, MapKept.run_setObj_map _ ho, Result.andThen]
    unfold Oper.wp
    rw [hr]
    have hkey : ∀ e', es[j]? = some e' → ({ e' with key := ke k, val := ve v } : MapEntry).key = e'.key := fun e' he' => by rw [hj] at he'; cases he'; exact h3.symm
    refine hK _ _ (h _ _ hf (hc.store i _ hL rfl rfl rfl (by simp) (heap_set ho).1 ?_ (heap_set ho).2))
    refine ⟨_, _, rfl, stamped_modify hst _ _ (fun _ _ => rfl) (fun e' _ he' => hkey e' he'), ?_⟩
    obtain ⟨q, hq, hq1, hq2⟩ := map_at hes h2
    have hqk : q.1 = k := hinj _ _ (by rw [← hq1, h3])
    have hyes : l.any (fun p => decide (p.1 = k)) = true := List.any_eq_true.2 ⟨q, List.mem_of_getElem? hq, by simpa using hqk⟩
    rw [mput, if_pos hyes]
    apply List.ext_getElem?
    intro m
    rw [Array.toList_modify, List.getElem?_map, List.getElem?_modify]
    simp only [List.getElem?_map]
    have hm2 := congrArg (fun l => l[m]?) hes
    simp only [List.getElem?_map] at hm2
    by_cases hjm : j = m
    · subst hjm
      simp only [h2, hq, Option.map_some, if_pos hqk, if_true]
      rfl
    · simp only [if_neg hjm]
      cases hlm : l[m]? with
      | none => rw [hlm] at hm2; simpa using hm2
      | some q' =>
        rw [hlm] at hm2
        have : q'.1 ≠ k := fun he => by
          have hnd := hst.2.2
          have e1 : (es.toList.map (·.key))[j]? = some (ke k) := by simp only [List.getElem?_map, h2, Option.map_some, h3]
          have e2 : (es.toList.map (·.key))[m]? = some (ke k) := by
            simp only [Option.map_some, Option.map_eq_some_iff, Prod.mk.injEq] at hm2
            obtain ⟨x, hx, hx1, _⟩ := hm2
            simp only [List.getElem?_map, hx, Option.map_some, hx1, he]
          have hlt : j < (es.toList.map (·.key)).length := (List.getElem?_eq_some_iff.1 e1).1
          exact hjm ((List.getElem?_inj hlt hnd).1 (by rw [e1, e2]))
        simp only [Option.map_some, if_neg this]
        simpa using hm2
end

/-! ### Parts of strings -/
section
variable {P : Program} {n : Nat} {e : Env} {C : World → Prop} {d : Option Tmp} {t : TypeId} {p : String} {af : Array Edge} {g : Option (Nat × Bool)}
/-- 'len(s)'. -/
theorem yl_slenL {x : Operand} {l : List UInt8} {ty : TypeId} {ats : Array TypeId} (hat : ats[0]? = some ty) (hu : P.underlying ty = some .string) (hx : eev e x = some (strV l)) :
    Yl P C n e ⟨d, .call { callee := .builtin .len, args := #[x], argTypes := ats }, t, p, af, g⟩ (.int .i64 (l.length : Int)) := yl_slen hat hu hx
/-- 's[i]'. -/
theorem yl_six {x ix : Operand} {ty : Nat} {l : List UInt8} {k : IntKind} {i : Int} (j : Nat) (hu : P.underlying ty = some .string) (hx : eev e x = some (strV l)) (hi : eev e ix = some (.int k i)) (hj : i = (j : Int)) (hl : j < l.length) :
    Yl P C n e ⟨d, .index ty x ix, t, p, af, g⟩ (.int .u8 ((l.getD j 0).toNat : Int)) := yl_sindex j (l.getD j 0) hu hx hi hj (by simp [List.getD, hl])
end

end Go.Proofs.YtgbgddmbooaddaaGreatDoor

namespace Go.Proofs.YtgbgddmbooaddaaGreatDoor

def kwL : List (List UInt8) := [[102, 117, 110], [108, 101, 116], [105, 102], [101, 108, 115, 101], [119, 104, 105, 108, 101], [114, 101, 116, 117, 114, 110], [116, 104, 114, 111, 119], [116, 114, 121], [99, 97, 116, 99, 104], [115, 112, 97, 119, 110], [106, 111, 105, 110], [108, 111, 99, 107], [117, 110, 108, 111, 99, 107], [112, 114, 105, 110, 116], [97, 115, 115, 101, 114, 116], [110, 101, 119], [108, 101, 110], [105, 110, 112, 117, 116], [99, 108, 111, 99, 107], [102, 110]]
def lowB (c : Int) : Bool := decide (97 ≤ c) && decide (c ≤ 122)
def digB (c : Int) : Bool := decide (48 ≤ c) && decide (c ≤ 57)
def wordB (c : Int) : Bool := ((lowB c || (decide (65 ≤ c) && decide (c ≤ 90))) || digB c) || decide (c = 95)
def frontB (s : List UInt8) : Bool := ((decide ((s.length : Int) = 0) || decide ((16 : Int) < s.length)) || !lowB ((s.getD 0 0).toNat : Int)) || kwL.any (fun y => decide (s = y))
def nameB (s : List UInt8) : Bool := !frontB s && s.all (fun c => wordB (c.toNat : Int))
theorem nameB_front {s : List UInt8} (h : frontB s = true) : nameB s = false := by simp [nameB, h]
theorem nameB_no {s : List UInt8} (j : Nat) (hj : j < s.length) (h : wordB ((s.getD j 0).toNat : Int) = false) : nameB s = false := by
  have : s.all (fun c => wordB (c.toNat : Int)) = false := List.all_eq_false.2 ⟨s[j], List.getElem_mem hj, by simpa [List.getD, hj] using h⟩
  simp [nameB, this]
theorem nameB_yes {s : List UInt8} (h0 : frontB s = false) (h : ∀ j, j < s.length → wordB ((s.getD j 0).toNat : Int) = true) : nameB s = true := by
  have : s.all (fun c => wordB (c.toNat : Int)) = true := List.all_eq_true.2 fun x hx => by
    obtain ⟨j, hj, rfl⟩ := List.getElem_of_mem hx
    simpa [List.getD, hj] using h j hj
  simp [nameB, this, h0]
/-- All of them are names, and they differ. -/
def goodB (l : List (List UInt8)) : Bool := l.all nameB && decide l.Nodup
def namedE (l : List (List UInt8)) : Int := if goodB l then 0 else 1
theorem namedE_bad {l : List (List UInt8)} (k : Nat) (hk : k < l.length) (h : nameB l[k] = false) : namedE l = 1 := by
  have : l.all nameB = false := List.all_eq_false.2 ⟨l[k], List.getElem_mem hk, by simp [h]⟩
  simp [namedE, goodB, this]
theorem namedE_twice {l : List (List UInt8)} (j k : Nat) (hjk : j < k) (hk : k < l.length) (h : l[j] = l[k]) : namedE l = 1 := by
  have : ¬ l.Nodup := fun hn => List.pairwise_iff_getElem.1 hn j k (by omega) hk hjk h
  simp [namedE, goodB, this]
theorem namedE_good {l : List (List UInt8)} (h : ∀ k (hk : k < l.length), nameB l[k] = true) (h2 : ∀ j k (hjk : j < k) (hk : k < l.length), l[j]'(by omega) ≠ l[k]) : namedE l = 0 := by
  have h1 : l.all nameB = true := List.all_eq_true.2 fun x hx => by
    obtain ⟨j, hj, rfl⟩ := List.getElem_of_mem hx
    exact h j hj
  have h3 : l.Nodup := List.pairwise_iff_getElem.2 fun i j hi hj hij => h2 i j hij hj
  simp [namedE, goodB, h1, h3]
end Go.Proofs.YtgbgddmbooaddaaGreatDoor

namespace Go.Proofs.YtgbgddmbooaddaaGreatDoor
open Go.RowKit


def kwP : List (Nat × Value) := (List.range 20).zip (kwL.map strV)
theorem bs_kw (w : World) : (Instr.buildSlice 26 20 kwP.toArray).run Tryz.prog w = .ok (.slice (some ⟨w.heap.size, 0, none⟩) 20 20) (w.alloc (.cells (kwL.map strV).toArray 9)) := by kernel_rfl
theorem isStrs_blk {w : World} {b : Nat} {l : List (List UInt8)} {n : Nat} (hn : l.length = n) (h : w.heap[b]? = some (.cells (l.map strV).toArray 9)) : IsStrs w (.slice (some ⟨b, 0, none⟩) n n) l :=
  ⟨some ⟨b, 0, none⟩, n, b, 0, by simp [hn], by simp [hn], fun j x hj => ⟨rfl, cell_of_blk h (by simpa using hj)⟩⟩
theorem Tryz.keyed9 : KL Tryz.prog 9 fun v => ∃ l : List UInt8, v = strV l ∧ l.length ≤ 1000 :=
  KL.of (Maps.string_keyed Tryz.underlying9) fun v ⟨l, hv, hl⟩ => by
    subst hv
    exact ⟨_, WideMaps.keyOf_string_mk Tryz.underlying9 (show l.length ≤ maxLen by simp only [maxLen]; omega)⟩
theorem strV_inj (a b : List UInt8) (h : strV a = strV b) : a = b := by
  simp only [strV, Value.string.injEq, ByteArray.mk.injEq] at h
  simpa using congrArg Array.toList h


set_option maxRecDepth 100000 in
theorem letter_any (c : Int) (w0 : World) : Calls Tryz.prog 94 #[.int .u8 c] w0 fun e w' => e = .returned (.bool (lowB c)) ∧ Ext w0 w' := by
  refine enterA 9 Tryz.func94 rfl Tryz.ntmps94 rfl (Hp w0 [] [] []) (Hp.init _) ?_
  refine H.seq ?_
  refine H.region ?_
  refine H.q (yl_assign rfl) rfl rfl (by decide) ?_
  refine HN.done ?_
  refine HN.keep [(0, _)] ⟨rfl, trivial⟩ ?_
  refine HN.then ?_
  refine H.seq ?_
  refine H.region ?_
  refine H.q (yl_move rfl) rfl rfl (by decide) ?_
  refine H.q (yl_geq rfl rfl) rfl rfl (by decide) ?_
  refine H.q (yl_move rfl) rfl rfl (by decide) ?_
  refine H.qg (wn_t rfl rfl (by decide) rfl) (fun hg => yl_sub [(0, _)] ⟨rfl, trivial⟩ (yl_move rfl)) rfl (by decide) ?_
  refine H.qg (wn_t rfl rfl (by decide) rfl) (fun hg => yl_sub [(6, _)] ⟨slT rfl hg, trivial⟩ (yl_leq rfl rfl)) rfl (by decide) ?_
  refine H.q (yl_and rfl rfl) rfl rfl (by decide) ?_
  refine H.q (yl_assign rfl) rfl rfl (by decide) ?_
  refine HN.done ?_
  refine HN.keep [(2, _)] ⟨rfl, trivial⟩ ?_
  refine HN.then ?_
  refine HR.ret ?_
  refine HR.ret1 _ Tryz.results94 rfl (fun w hw => ?_)
  exact ⟨rfl, hw.ext⟩

set_option maxRecDepth 100000 in
theorem wordByte_any (c : Int) (w0 : World) : Calls Tryz.prog 96 #[.int .u8 c] w0 fun e w' => e = .returned (.bool (wordB c)) ∧ Ext w0 w' := by
  refine enterA 25 Tryz.func96 rfl Tryz.ntmps96 rfl (Hp w0 [] [] []) (Hp.init _) ?_
  refine H.seq ?_
  refine H.region ?_
  refine H.q (yl_assign rfl) rfl rfl (by decide) ?_
  refine HN.done ?_
  refine HN.keep [(0, _)] ⟨rfl, trivial⟩ ?_
  refine HN.then ?_
  refine H.seq ?_
  refine H.region ?_
  refine H.q (yl_move rfl) rfl rfl (by decide) ?_
  refine H.q (yl_call (xs := [.tmp 3]) Tryz.call94 (stab_hp _ _ _ _) rfl (fun w hw => letter_any _ w)) rfl rfl (by decide) ?_
  refine H.q (yl_move rfl) rfl rfl (by decide) ?_
  refine H.qg (wn_f rfl rfl (by decide) rfl) (fun hg => yl_sub [(0, _)] ⟨rfl, trivial⟩ (yl_move rfl)) rfl (by decide) ?_
  refine H.qg (wn_f rfl rfl (by decide) rfl) (fun hg => yl_sub [(6, _)] ⟨slT rfl hg, trivial⟩ (yl_geq rfl rfl)) rfl (by decide) ?_
  refine H.qg (wn_f rfl rfl (by decide) rfl) (fun hg => yl_sub [(7, _)] ⟨slT rfl hg, trivial⟩ (yl_move rfl)) rfl (by decide) ?_
  refine H.qg (wn_gt rfl rfl (by decide) rfl) (fun hg => yl_sub [(0, _)] ⟨rfl, trivial⟩ (yl_move rfl)) rfl (by decide) ?_
  refine H.qg (wn_gt rfl rfl (by decide) rfl) (fun hg => yl_sub [(9, _)] ⟨slT rfl hg, trivial⟩ (yl_leq rfl rfl)) rfl (by decide) ?_
  refine H.qg (wn_f rfl rfl (by decide) rfl) (fun hg => yl_sub [(8, _), (10, _)] ⟨slT rfl hg, slA rfl hg, trivial⟩ (yl_and rfl rfl)) rfl (by decide) ?_
  refine H.q (yl_or rfl rfl) rfl rfl (by decide) ?_
  refine H.q (yl_move rfl) rfl rfl (by decide) ?_
  refine H.qg (wn_f rfl rfl (by decide) rfl) (fun hg => yl_sub [(0, _)] ⟨rfl, trivial⟩ (yl_move rfl)) rfl (by decide) ?_
  refine H.qg (wn_f rfl rfl (by decide) rfl) (fun hg => yl_sub [(14, _)] ⟨slT rfl hg, trivial⟩ (yl_geq rfl rfl)) rfl (by decide) ?_
  refine H.qg (wn_f rfl rfl (by decide) rfl) (fun hg => yl_sub [(15, _)] ⟨slT rfl hg, trivial⟩ (yl_move rfl)) rfl (by decide) ?_
  refine H.qg (wn_gt rfl rfl (by decide) rfl) (fun hg => yl_sub [(0, _)] ⟨rfl, trivial⟩ (yl_move rfl)) rfl (by decide) ?_
  refine H.qg (wn_gt rfl rfl (by decide) rfl) (fun hg => yl_sub [(17, _)] ⟨slT rfl hg, trivial⟩ (yl_leq rfl rfl)) rfl (by decide) ?_
  refine H.qg (wn_f rfl rfl (by decide) rfl) (fun hg => yl_sub [(16, _), (18, _)] ⟨slT rfl hg, slA rfl hg, trivial⟩ (yl_and rfl rfl)) rfl (by decide) ?_
  refine H.q (yl_or rfl rfl) rfl rfl (by decide) ?_
  refine H.q (yl_move rfl) rfl rfl (by decide) ?_
  refine H.qg (wn_f rfl rfl (by decide) rfl) (fun hg => yl_sub [(0, _)] ⟨rfl, trivial⟩ (yl_move rfl)) rfl (by decide) ?_
  refine H.qg (wn_f rfl rfl (by decide) rfl) (fun hg => yl_sub [(22, _)] ⟨slT rfl hg, trivial⟩ (yl_eql rfl rfl)) rfl (by decide) ?_
  refine H.q (yl_or rfl rfl) rfl rfl (by decide) ?_
  refine H.q (yl_assign rfl) rfl rfl (by decide) ?_
  refine HN.done ?_
  refine HN.keep [(2, _)] ⟨rfl, trivial⟩ ?_
  refine HN.then ?_
  refine HR.ret ?_
  refine HR.ret1 _ Tryz.results96 rfl (fun w hw => ?_)
  exact ⟨rfl, hw.ext⟩

set_option maxRecDepth 100000 in
theorem sIndex_any (l : List (List UInt8)) (sv : Value) (s : List UInt8) (w0 : World) (hl : l.length ≤ 4611686018427387904) (hv : IsStrs w0 sv l) : Calls Tryz.prog 74 #[sv, strV s] w0 fun e w' => e = .returned (.int .i64 (idxP (fun y => decide (s = y)) l)) ∧ Ext w0 w' := by
  obtain ⟨ad, cap, b, o, rfl, hcap, hs⟩ := sl_open strV hv
  refine enterA 19 Tryz.func74 rfl Tryz.ntmps74 rfl (Hp w0 [] [] []) (Hp.init _) ?_
  refine H.seq ?_
  refine H.region ?_
  refine H.q (yl_assign rfl) rfl rfl (by decide) ?_
  refine HN.done ?_
  refine HN.keep [(0, _), (1, _)] ⟨rfl, rfl, trivial⟩ ?_
  refine HN.then ?_
  refine H.seq ?_
  refine H.seq ?_
  refine H.region ?_
  refine H.q (yl_move rfl) rfl rfl (by decide) ?_
  refine H.q (yl_len rfl Tryz.underlying26 rfl) rfl rfl (by decide) ?_
  refine H.q (yl_move rfl) rfl rfl (by decide) ?_
  refine HN.done ?_
  refine HN.keep [(0, _), (1, _), (7, _), (8, _)] ⟨rfl, rfl, rfl, rfl, trivial⟩ ?_
  refine HN.then ?_
  refine H.block ?_
  refine H.loop (fun k : Nat => [(0, .slice ad l.length cap), (1, strV s), (7, .int .i64 (l.length : Int)), (8, .int .i64 (k : Int))]) (fun k => k ≤ l.length ∧ ∀ j (hj : j < k) (hj2 : j < l.length), ¬ s = l[j]) (fun _ => Hp w0 [] [] []) (fun k => l.length - k) 0 ⟨Nat.zero_le _, fun j hj => by omega⟩ ⟨rfl, rfl, rfl, rfl, trivial⟩ (fun w hw => hw) (fun k hI => ?_)
  obtain ⟨hk0, hk1⟩ := hI
  refine H.seq ?_
  refine H.region ?_
  refine H.q (yl_lss rfl rfl) rfl rfl (by decide) ?_
  refine HN.done ?_
  refine HN.keep [(0, _), (1, _), (7, _), (8, _), (9, _)] ⟨rfl, rfl, rfl, rfl, rfl, trivial⟩ ?_
  refine HN.then ?_
  refine H.seq ?_
  refine H.cond _ rfl (fun t0 => ?_) (fun t0 => ?_)
  · simp only [decide_eq_true_eq] at t0; have hk : k < l.length := by omega
    refine H.keep [(0, _), (1, _), (7, _), (8, _)] ⟨rfl, rfl, rfl, rfl, trivial⟩ ?_
    refine HN.skip ?_
    refine HN.then ?_
    refine H.seq ?_
    refine H.block ?_
    refine H.seq ?_
    refine H.region ?_
    refine H.q (yl_move rfl) rfl rfl (by decide) ?_
    refine H.q (yl_assign rfl) rfl rfl (by decide) ?_
    refine HN.done ?_
    refine HN.keep [(0, _), (1, _), (5, _), (7, _), (8, _)] ⟨rfl, rfl, rfl, rfl, rfl, trivial⟩ ?_
    refine HN.then ?_
    refine H.seq ?_
    refine H.region ?_
    refine H.q (yl_move rfl) rfl rfl (by decide) ?_
    refine H.q (yl_move rfl) rfl rfl (by decide) ?_
    refine H.q (yl_move rfl) rfl rfl (by decide) ?_
    refine H.q (yl_ix k Tryz.underlying26 Tryz.sizeOf9 (hs k hk).1 rfl rfl rfl hk) rfl rfl (by decide) ?_
    refine H.q (yl_load Tryz.isAgg9 rfl (fun w hw => cell_ext hw.ext (hs k hk).2)) rfl rfl (by decide) ?_
    refine H.q (yl_seqlL rfl rfl) rfl rfl (by decide) ?_
    refine HN.done ?_
    refine HN.keep [(0, _), (1, _), (5, _), (7, _), (8, _), (16, _)] ⟨rfl, rfl, rfl, rfl, rfl, rfl, trivial⟩ ?_
    refine HN.then ?_
    refine H.cond _ rfl (fun t1 => ?_) (fun t1 => ?_)
    · simp only [decide_eq_true_eq] at t1
      refine H.keep [(5, _)] ⟨rfl, trivial⟩ ?_
      refine H.seq ?_
      refine H.region ?_
      refine H.q (yl_move rfl) rfl rfl (by decide) ?_
      refine H.q (yl_assign rfl) rfl rfl (by decide) ?_
      refine HN.done ?_
      refine HN.keep [(4, _)] ⟨rfl, trivial⟩ ?_
      refine HN.then ?_
      refine HR.ret ?_
      refine HR.block ?_
      refine HR.then ?_
      refine HR.then ?_
      refine HR.block ?_
      refine HR.then ?_
      refine HR.ret1 _ Tryz.results74 rfl (fun w hw => ?_)
      exact ⟨by rw [idxP_hit k hk (decide_eq_true t1) fun j hj => decide_eq_false (hk1 j hj (by omega))], hw.ext⟩
    · simp only [decide_eq_false_iff_not] at t1
      refine H.keep [(0, _), (1, _), (7, _), (8, _)] ⟨rfl, rfl, rfl, rfl, trivial⟩ ?_
      refine HN.skip ?_
      refine HN.block ?_
      refine HN.then ?_
      refine H.region ?_
      refine H.q (yl_add rfl rfl _ rfl (by omega)) rfl rfl (by decide) ?_
      refine H.q (yl_move rfl) rfl rfl (by decide) ?_
      refine HN.done ?_
      refine HN.keep [(0, _), (1, _), (7, _), (8, _)] ⟨rfl, rfl, rfl, rfl, trivial⟩ ?_
      refine HN.then ?_
      have hn : ∀ j (hj : j < k + 1) (hj2 : j < l.length), ¬ s = l[j] := fun j hj hj2 => by
        by_cases h : j < k
        · exact hk1 j h hj2
        · obtain rfl : j = k := by omega
          exact t1
      exact H.at (k + 1) ⟨⟨by omega, hn⟩, by omega⟩ ⟨rfl, rfl, rfl, rfl, trivial⟩ (fun w hw => hw)
  · simp only [decide_eq_false_iff_not] at t0
    refine H.keep [] trivial ?_
    refine HX.exit ?_
    refine HX.then ?_
    refine HX.then ?_
    refine HX.hit ?_
    refine HN.then ?_
    refine H.seq ?_
    refine H.region ?_
    refine H.q (yl_assign rfl) rfl rfl (by decide) ?_
    refine HN.done ?_
    refine HN.keep [(4, _)] ⟨rfl, trivial⟩ ?_
    refine HN.then ?_
    refine HR.ret ?_
    refine HR.ret1 _ Tryz.results74 rfl (fun w hw => ?_)
    exact ⟨by rw [idxP_miss (p := (fun y => decide (s = y))) fun j hj => decide_eq_false (hk1 j (by omega) hj)], hw.ext⟩

set_option maxRecDepth 100000 in
theorem sContains_any (l : List (List UInt8)) (sv : Value) (s : List UInt8) (w0 : World) (hl : l.length ≤ 4611686018427387904) (hv : IsStrs w0 sv l) : Calls Tryz.prog 43 #[sv, strV s] w0 fun e w' => e = .returned (.bool (l.any fun y => decide (s = y))) ∧ Ext w0 w' := by
  refine enterA 9 Tryz.func43 rfl Tryz.ntmps43 rfl (Hp w0 [] [] []) (Hp.init _) ?_
  refine H.seq ?_
  refine H.region ?_
  refine H.q (yl_assign rfl) rfl rfl (by decide) ?_
  refine HN.done ?_
  refine HN.keep [(0, _), (1, _)] ⟨rfl, rfl, trivial⟩ ?_
  refine HN.then ?_
  refine H.seq ?_
  refine H.region ?_
  refine H.q (yl_move rfl) rfl rfl (by decide) ?_
  refine H.q (yl_move rfl) rfl rfl (by decide) ?_
  refine H.q (yl_call (xs := [.tmp 5, .tmp 6]) Tryz.call74 (stab_hp _ _ _ _) rfl (fun w hw => sIndex_any l sv s w hl (hv.ext hw.ext))) rfl rfl (by decide) ?_
  refine H.q (yl_geq rfl rfl) rfl rfl (by decide) ?_
  refine H.q (yl_assign rfl) rfl rfl (by decide) ?_
  refine HN.done ?_
  refine HN.keep [(4, _)] ⟨rfl, trivial⟩ ?_
  refine HN.then ?_
  refine HR.ret ?_
  refine HR.ret1 _ Tryz.results43 rfl (fun w hw => ?_)
  exact ⟨by rw [← idxP_any], hw.ext⟩

set_option maxRecDepth 100000 in
theorem keyword_any (s : List UInt8) (w0 : World) : Calls Tryz.prog 95 #[strV s] w0 fun e w' => e = .returned (.bool (kwL.any fun y => decide (s = y))) ∧ Ext w0 w' := by
  refine enterA 6 Tryz.func95 rfl Tryz.ntmps95 rfl (Hp w0 [] [] []) (Hp.init _) ?_
  refine H.seq ?_
  refine H.region ?_
  refine H.q (yl_assign rfl) rfl rfl (by decide) ?_
  refine HN.done ?_
  refine HN.keep [(0, _)] ⟨rfl, trivial⟩ ?_
  refine HN.then ?_
  refine H.seq ?_
  refine H.region ?_
  refine H.buildSlice bs_kw rfl (by decide) (fun b3 hb3 => ?_)
  refine H.q (yl_move rfl) rfl rfl (by decide) ?_
  refine H.q (yl_call (xs := [.tmp 3, .tmp 4]) Tryz.call43 (stab_hp _ _ _ _) rfl (fun w hw => sContains_any kwL (.slice (some ⟨b3, 0, none⟩) 20 20) s w (by decide) (isStrs_blk rfl (hw.blk 0 rfl)))) rfl rfl (by decide) ?_
  refine H.q (yl_assign rfl) rfl rfl (by decide) ?_
  refine HN.done ?_
  refine HN.keep [(2, _)] ⟨rfl, trivial⟩ ?_
  refine HN.then ?_
  refine HR.ret ?_
  refine HR.ret1 _ Tryz.results95 rfl (fun w hw => ?_)
  exact ⟨rfl, hw.ext⟩

set_option maxRecDepth 100000 in
theorem name_any (s : List UInt8) (w0 : World) (hl : s.length ≤ 4611686018427387904) : Calls Tryz.prog 69 #[strV s] w0 fun e w' => e = .returned (.bool (nameB s)) ∧ Ext w0 w' := by
  refine enterA 33 Tryz.func69 rfl Tryz.ntmps69 rfl (Hp w0 [] [] []) (Hp.init _) ?_
  refine H.seq ?_
  refine H.region ?_
  refine H.q (yl_assign rfl) rfl rfl (by decide) ?_
  refine HN.done ?_
  refine HN.keep [(0, _)] ⟨rfl, trivial⟩ ?_
  refine HN.then ?_
  refine H.seq ?_
  refine H.seq ?_
  refine H.region ?_
  refine H.q (yl_move rfl) rfl rfl (by decide) ?_
  refine H.q (yl_slenL rfl Tryz.underlying9 rfl) rfl rfl (by decide) ?_
  refine H.q (yl_eql rfl rfl) rfl rfl (by decide) ?_
  refine H.q (yl_move rfl) rfl rfl (by decide) ?_
  refine H.qg (wn_f rfl rfl (by decide) rfl) (fun hg => yl_sub [(0, _)] ⟨rfl, trivial⟩ (yl_move rfl)) rfl (by decide) ?_
  refine H.qg (wn_f rfl rfl (by decide) rfl) (fun hg => yl_sub [(8, _)] ⟨slT rfl hg, trivial⟩ (yl_slenL rfl Tryz.underlying9 rfl)) rfl (by decide) ?_
  refine H.qg (wn_f rfl rfl (by decide) rfl) (fun hg => yl_sub [(9, _)] ⟨slT rfl hg, trivial⟩ (yl_gtr rfl rfl)) rfl (by decide) ?_
  refine H.q (yl_or rfl rfl) rfl rfl (by decide) ?_
  refine H.q (yl_move rfl) rfl rfl (by decide) ?_
  refine H.qg (wn_f rfl rfl (by decide) rfl) (fun hg => yl_sub [(0, _)] ⟨rfl, trivial⟩ (yl_move rfl)) rfl (by decide) ?_
  refine H.qg (wn_f rfl rfl (by decide) rfl) (fun hg => yl_sub [(13, _)] ⟨slT rfl hg, trivial⟩ (yl_six 0 Tryz.underlying9 rfl rfl rfl (by simp only [Bool.not_eq_true', Bool.or_eq_false_iff, decide_eq_false_iff_not] at hg; omega))) rfl (by decide) ?_
  refine H.qg (wn_f rfl rfl (by decide) rfl) (fun hg => yl_sub [(14, _)] ⟨slT rfl hg, trivial⟩ (yl_call (xs := [.tmp 14]) Tryz.call94 (stab_hp _ _ _ _) rfl (fun w hw => letter_any _ w))) rfl (by decide) ?_
  refine H.qg (wn_f rfl rfl (by decide) rfl) (fun hg => yl_sub [(15, _)] ⟨slT rfl hg, trivial⟩ (yl_not rfl)) rfl (by decide) ?_
  refine H.q (yl_or rfl rfl) rfl rfl (by decide) ?_
  refine H.q (yl_move rfl) rfl rfl (by decide) ?_
  refine H.qg (wn_f rfl rfl (by decide) rfl) (fun hg => yl_sub [(0, _)] ⟨rfl, trivial⟩ (yl_move rfl)) rfl (by decide) ?_
  refine H.qg (wn_f rfl rfl (by decide) rfl) (fun hg => yl_sub [(19, _)] ⟨slT rfl hg, trivial⟩ (yl_call (xs := [.tmp 19]) Tryz.call95 (stab_hp _ _ _ _) rfl (fun w hw => keyword_any s w))) rfl (by decide) ?_
  refine H.q (yl_or rfl rfl) rfl rfl (by decide) ?_
  refine HN.done ?_
  refine HN.keep [(0, _), (21, _)] ⟨rfl, rfl, trivial⟩ ?_
  refine HN.then ?_
  refine H.cond _ rfl (fun t0 => ?_) (fun t0 => ?_)
  · refine H.keep [] trivial ?_
    refine H.seq ?_
    refine H.region ?_
    refine H.q (yl_assign rfl) rfl rfl (by decide) ?_
    refine HN.done ?_
    refine HN.keep [(2, _)] ⟨rfl, trivial⟩ ?_
    refine HN.then ?_
    refine HR.ret ?_
    refine HR.then ?_
    refine HR.ret1 _ Tryz.results69 rfl (fun w hw => ?_)
    exact ⟨by rw [nameB_front (s := s) t0], hw.ext⟩
  · refine H.keep [(0, _)] ⟨rfl, trivial⟩ ?_
    refine HN.skip ?_
    refine HN.then ?_
    refine H.seq ?_
    refine H.seq ?_
    refine H.region ?_
    refine H.q (yl_move rfl) rfl rfl (by decide) ?_
    refine H.q (yl_slenL rfl Tryz.underlying9 rfl) rfl rfl (by decide) ?_
    refine H.q (yl_move rfl) rfl rfl (by decide) ?_
    refine HN.done ?_
    refine HN.keep [(0, _), (23, _), (24, _)] ⟨rfl, rfl, rfl, trivial⟩ ?_
    refine HN.then ?_
    refine H.block ?_
    refine H.loop (fun k : Nat => [(0, strV s), (23, .int .i64 (s.length : Int)), (24, .int .i64 (k : Int))]) (fun k => k ≤ s.length ∧ ∀ j, j < k → wordB ((s.getD j 0).toNat : Int) = true) (fun _ => Hp w0 [] [] []) (fun k => s.length - k) 0 ⟨Nat.zero_le _, fun j hj => by omega⟩ ⟨rfl, rfl, rfl, trivial⟩ (fun w hw => hw) (fun k hI => ?_)
    obtain ⟨hk0, hk1⟩ := hI
    refine H.seq ?_
    refine H.region ?_
    refine H.q (yl_lss rfl rfl) rfl rfl (by decide) ?_
    refine HN.done ?_
    refine HN.keep [(0, _), (23, _), (24, _), (25, _)] ⟨rfl, rfl, rfl, rfl, trivial⟩ ?_
    refine HN.then ?_
    refine H.seq ?_
    refine H.cond _ rfl (fun t1 => ?_) (fun t1 => ?_)
    · simp only [decide_eq_true_eq] at t1; have hk : k < s.length := by omega
      refine H.keep [(0, _), (23, _), (24, _)] ⟨rfl, rfl, rfl, trivial⟩ ?_
      refine HN.skip ?_
      refine HN.then ?_
      refine H.seq ?_
      refine H.block ?_
      refine H.seq ?_
      refine H.region ?_
      refine H.q (yl_move rfl) rfl rfl (by decide) ?_
      refine H.q (yl_assign rfl) rfl rfl (by decide) ?_
      refine HN.done ?_
      refine HN.keep [(0, _), (3, _), (23, _), (24, _)] ⟨rfl, rfl, rfl, rfl, trivial⟩ ?_
      refine HN.then ?_
      refine H.seq ?_
      refine H.region ?_
      refine H.q (yl_move rfl) rfl rfl (by decide) ?_
      refine H.q (yl_move rfl) rfl rfl (by decide) ?_
      refine H.q (yl_six k Tryz.underlying9 rfl rfl rfl hk) rfl rfl (by decide) ?_
      refine H.q (yl_call (xs := [.tmp 29]) Tryz.call96 (stab_hp _ _ _ _) rfl (fun w hw => wordByte_any _ w)) rfl rfl (by decide) ?_
      refine H.q (yl_not rfl) rfl rfl (by decide) ?_
      refine HN.done ?_
      refine HN.keep [(0, _), (23, _), (24, _), (31, _)] ⟨rfl, rfl, rfl, rfl, trivial⟩ ?_
      refine HN.then ?_
      refine H.cond _ rfl (fun t2 => ?_) (fun t2 => ?_)
      · simp only [Bool.not_eq_true'] at t2
        refine H.keep [] trivial ?_
        refine H.seq ?_
        refine H.region ?_
        refine H.q (yl_assign rfl) rfl rfl (by decide) ?_
        refine HN.done ?_
        refine HN.keep [(2, _)] ⟨rfl, trivial⟩ ?_
        refine HN.then ?_
        refine HR.ret ?_
        refine HR.block ?_
        refine HR.then ?_
        refine HR.then ?_
        refine HR.block ?_
        refine HR.then ?_
        refine HR.ret1 _ Tryz.results69 rfl (fun w hw => ?_)
        exact ⟨by rw [nameB_no k hk t2], hw.ext⟩
      · simp only [Bool.not_eq_false'] at t2
        refine H.keep [(0, _), (23, _), (24, _)] ⟨rfl, rfl, rfl, trivial⟩ ?_
        refine HN.skip ?_
        refine HN.block ?_
        refine HN.then ?_
        refine H.region ?_
        refine H.q (yl_add rfl rfl _ rfl (by omega)) rfl rfl (by decide) ?_
        refine H.q (yl_move rfl) rfl rfl (by decide) ?_
        refine HN.done ?_
        refine HN.keep [(0, _), (23, _), (24, _)] ⟨rfl, rfl, rfl, trivial⟩ ?_
        refine HN.then ?_
        have hn : ∀ j, j < k + 1 → wordB ((s.getD j 0).toNat : Int) = true := fun j hj => by
          by_cases h : j < k
          · exact hk1 j h
          · obtain rfl : j = k := by omega
            exact t2
        exact H.at (k + 1) ⟨⟨by omega, hn⟩, by omega⟩ ⟨rfl, rfl, rfl, trivial⟩ (fun w hw => hw)
    · simp only [decide_eq_false_iff_not] at t1
      refine H.keep [] trivial ?_
      refine HX.exit ?_
      refine HX.then ?_
      refine HX.then ?_
      refine HX.hit ?_
      refine HN.then ?_
      refine H.seq ?_
      refine H.region ?_
      refine H.q (yl_assign rfl) rfl rfl (by decide) ?_
      refine HN.done ?_
      refine HN.keep [(2, _)] ⟨rfl, trivial⟩ ?_
      refine HN.then ?_
      refine HR.ret ?_
      refine HR.ret1 _ Tryz.results69 rfl (fun w hw => ?_)
      exact ⟨by rw [nameB_yes (s := s) t0 fun j hj => hk1 j (by omega)], hw.ext⟩

end Go.Proofs.YtgbgddmbooaddaaGreatDoor

namespace Go.Proofs.YtgbgddmbooaddaaGreatDoor
open Go.RowKit


theorem take_len {α : Type} {l : List α} {k : Nat} (h : k < l.length) : l.take (k + 1) = l.take k ++ [l[k]] := List.take_succ_eq_append_getElem h
theorem mget_seen (l : List (List UInt8)) (s : List UInt8) : ((mget (l.map fun s => (s, true)) s).elim (.bool false) (Value.bool ·)) = .bool (l.any fun y => decide (y = s)) := by
  induction l with
  | nil => rfl
  | cons a l ih =>
    by_cases h : a = s
    · simp [mget, h]
    · simp only [List.map_cons, mget, List.any_cons, h, decide_false, Bool.false_or, List.find?_cons]
      exact ih
theorem mput_new (l : List (List UInt8)) (s : List UInt8) (h : (l.any fun y => decide (y = s)) = false) : mput (l.map fun s => (s, true)) s true = (l ++ [s]).map fun s => (s, true) := by
  have : ((l.map fun s => (s, true)).any fun p => decide (p.1 = s)) = false := by rw [List.any_map]; exact h
  simp [mput, this]

set_option maxRecDepth 100000 in
theorem named_any (l : List (List UInt8)) (sv : Value) (w0 : World) (hl : l.length ≤ 4611686018427387904) (hls : ∀ s ∈ l, s.length ≤ 1000) (hv : IsStrs w0 sv l) : Calls Tryz.prog 36 #[sv] w0 fun e w' => e = .returned (.int .i64 (namedE l)) ∧ Ext w0 w' := by
  obtain ⟨ad, cap, b, o, rfl, hcap, hs⟩ := sl_open strV hv
  refine enterA 24 Tryz.func36 rfl Tryz.ntmps36 rfl (Hp w0 [] [] []) (Hp.init _) ?_
  refine H.seq ?_
  refine H.region ?_
  refine H.q (yl_assign rfl) rfl rfl (by decide) ?_
  refine HN.done ?_
  refine HN.keep [(0, _)] ⟨rfl, trivial⟩ ?_
  refine HN.then ?_
  refine H.seq ?_
  refine H.region ?_
  refine H.makeMap strV (Value.bool ·) (by decide) (fun b6 hb6 => ?_)
  refine H.q (yl_assign rfl) rfl rfl (by decide) ?_
  refine HN.done ?_
  refine HN.keep [(0, _), (3, _)] ⟨rfl, rfl, trivial⟩ ?_
  refine HN.then ?_
  refine H.seq ?_
  refine H.seq ?_
  refine H.region ?_
  refine H.q (yl_move rfl) rfl rfl (by decide) ?_
  refine H.q (yl_len rfl Tryz.underlying26 rfl) rfl rfl (by decide) ?_
  refine H.q (yl_move rfl) rfl rfl (by decide) ?_
  refine HN.done ?_
  refine HN.keep [(3, _), (7, _), (8, _), (9, _)] ⟨rfl, rfl, rfl, rfl, trivial⟩ ?_
  refine HN.then ?_
  refine H.block ?_
  refine H.loop (fun k : Nat => [(3, .map (some b6)), (7, .slice ad l.length cap), (8, .int .i64 (l.length : Int)), (9, .int .i64 (k : Int))]) (fun k => k ≤ l.length ∧ (∀ j (hj : j < k) (hj2 : j < l.length), nameB l[j] = true) ∧ ∀ i j (hij : i < j) (hj : j < k) (hj2 : j < l.length), l[i] ≠ l[j]) (fun k => Hp w0 [(b6, IsMap strV (Value.bool ·) ((l.take k).map fun s => (s, true)))] [] []) (fun k => l.length - k) 0 ⟨Nat.zero_le _, fun j hj => by omega, fun i j _ hj => by omega⟩ ⟨rfl, rfl, rfl, rfl, trivial⟩ (fun w hw => hw) (fun k hI => ?_)
  obtain ⟨hk0, hk1, hk2⟩ := hI
  refine H.seq ?_
  refine H.region ?_
  refine H.q (yl_lss rfl rfl) rfl rfl (by decide) ?_
  refine HN.done ?_
  refine HN.keep [(3, _), (7, _), (8, _), (9, _), (10, _)] ⟨rfl, rfl, rfl, rfl, rfl, trivial⟩ ?_
  refine HN.then ?_
  refine H.seq ?_
  refine H.cond _ rfl (fun t0 => ?_) (fun t0 => ?_)
  · simp only [decide_eq_true_eq] at t0; have hk : k < l.length := by omega
    have hln : l[k].length ≤ 1000 := hls _ (List.getElem_mem hk)
    have hD : ∀ p ∈ (l.take k).map (fun s => (s, true)), ∃ t : List UInt8, strV p.1 = strV t ∧ t.length ≤ 1000 := fun p hp => by
      obtain ⟨s, hs, rfl⟩ := List.mem_map.1 hp
      exact ⟨s, rfl, hls s (List.mem_of_mem_take hs)⟩
    have hDk : ∃ t : List UInt8, strV l[k] = strV t ∧ t.length ≤ 1000 := ⟨_, rfl, hln⟩
    refine H.keep [(3, _), (7, _), (8, _), (9, _)] ⟨rfl, rfl, rfl, rfl, trivial⟩ ?_
    refine HN.skip ?_
    refine HN.then ?_
    refine H.seq ?_
    refine H.block ?_
    refine H.seq ?_
    refine H.region ?_
    refine H.q (yl_ix k Tryz.underlying26 Tryz.sizeOf9 (hs k hk).1 rfl rfl rfl hk) rfl rfl (by decide) ?_
    refine H.q (yl_load Tryz.isAgg9 rfl (fun w hw => cell_ext hw.ext (hs k hk).2)) rfl rfl (by decide) ?_
    refine H.q (yl_assign rfl) rfl rfl (by decide) ?_
    refine HN.done ?_
    refine HN.keep [(3, _), (5, _), (7, _), (8, _), (9, _)] ⟨rfl, rfl, rfl, rfl, rfl, trivial⟩ ?_
    refine HN.then ?_
    refine H.seq ?_
    refine H.seq ?_
    refine H.region ?_
    refine H.q (yl_move rfl) rfl rfl (by decide) ?_
    refine H.q (yl_call (xs := [.tmp 13]) Tryz.call69 (stab_hp _ _ _ _) rfl (fun w hw => name_any _ w (by omega))) rfl rfl (by decide) ?_
    refine H.q (yl_not rfl) rfl rfl (by decide) ?_
    refine H.q (yl_move rfl) rfl rfl (by decide) ?_
    refine H.qg (wn_f rfl rfl (by decide) rfl) (fun hg => yl_sub [(3, _)] ⟨rfl, trivial⟩ (yl_move rfl)) rfl (by decide) ?_
    refine H.qg (wn_f rfl rfl (by decide) rfl) (fun hg => yl_sub [(5, _)] ⟨rfl, trivial⟩ (yl_move rfl)) rfl (by decide) ?_
    refine H.qg (wn_f rfl rfl (by decide) rfl) (fun hg => yl_sub [(17, _), (18, _)] ⟨slT rfl hg, slT rfl hg, trivial⟩ (yl_to (yl_lookup (ve := (Value.bool ·)) 0 l[k] Tryz.keyed9 Tryz.underlying117 Tryz.zeroValue4 strV_inj hD hDk rfl rfl rfl) (mget_seen _ _))) rfl (by decide) ?_
    refine H.q (yl_or rfl rfl) rfl rfl (by decide) ?_
    refine HN.done ?_
    refine HN.keep [(3, _), (5, _), (7, _), (8, _), (9, _), (20, _)] ⟨rfl, rfl, rfl, rfl, rfl, rfl, trivial⟩ ?_
    refine HN.then ?_
    refine H.cond _ rfl (fun t1 => ?_) (fun t1 => ?_)
    · have hbad : namedE l = 1 := by
        rcases Bool.or_eq_true_iff.1 t1 with h | h
        · exact namedE_bad k hk (by simpa using h)
        · obtain ⟨y, hy, hyk⟩ := List.any_eq_true.1 h
          obtain ⟨j, hj, rfl⟩ := List.getElem_of_mem hy
          simp only [List.length_take] at hj
          simp only [decide_eq_true_eq, List.getElem_take] at hyk
          exact namedE_twice j k (by omega) hk hyk
      refine H.keep [] trivial ?_
      refine H.seq ?_
      refine H.region ?_
      refine H.q (yl_assign rfl) rfl rfl (by decide) ?_
      refine HN.done ?_
      refine HN.keep [(2, _)] ⟨rfl, trivial⟩ ?_
      refine HN.then ?_
      refine HR.ret ?_
      refine HR.then ?_
      refine HR.block ?_
      refine HR.then ?_
      refine HR.then ?_
      refine HR.block ?_
      refine HR.then ?_
      refine HR.ret1 _ Tryz.results36 rfl (fun w hw => ?_)
      exact ⟨by rw [hbad], hw.ext⟩
    · obtain ⟨h1, h2⟩ := Bool.or_eq_false_iff.1 t1
      simp only [Bool.not_eq_false'] at h1
      refine H.keep [(3, _), (5, _), (7, _), (8, _), (9, _)] ⟨rfl, rfl, rfl, rfl, rfl, trivial⟩ ?_
      refine HN.skip ?_
      refine HN.then ?_
      refine H.region ?_
      refine H.q (yl_move rfl) rfl rfl (by decide) ?_
      refine H.q (yl_move rfl) rfl rfl (by decide) ?_
      refine H.mapUpdate (ve := (Value.bool ·)) 0 l[k] true Tryz.keyed9 Tryz.underlying117 strV_inj hD hDk rfl rfl rfl rfl ?_
      refine HN.done ?_
      refine HN.keep [(3, _), (7, _), (8, _), (9, _)] ⟨rfl, rfl, rfl, rfl, trivial⟩ ?_
      refine HN.block ?_
      refine HN.then ?_
      refine H.region ?_
      refine H.q (yl_add rfl rfl _ rfl (by omega)) rfl rfl (by decide) ?_
      refine H.q (yl_move rfl) rfl rfl (by decide) ?_
      refine HN.done ?_
      refine HN.keep [(3, _), (7, _), (8, _), (9, _)] ⟨rfl, rfl, rfl, rfl, trivial⟩ ?_
      refine HN.then ?_
      have hn : ∀ j (hj : j < k + 1) (hj2 : j < l.length), nameB l[j] = true := fun j hj hj2 => by
        by_cases h : j < k
        · exact hk1 j h hj2
        · obtain rfl : j = k := by omega
          exact h1
      have hn2 : ∀ i j (hij : i < j) (hj : j < k + 1) (hj2 : j < l.length), l[i] ≠ l[j] := fun i j hij hj hj2 => by
        by_cases h : j < k
        · exact hk2 i j hij h hj2
        · obtain rfl : j = k := by omega
          have := List.any_eq_false.1 h2 l[i] (List.mem_iff_getElem.2 ⟨i, by simp; omega, by simp⟩)
          simpa using this
      refine H.at (k + 1) ⟨⟨by omega, hn, hn2⟩, by omega⟩ ⟨rfl, rfl, rfl, rfl, trivial⟩ (fun w hw => ?_)
      rw [take_len hk, ← mput_new _ _ h2]
      exact hw
  · simp only [decide_eq_false_iff_not] at t0
    refine H.keep [] trivial ?_
    refine HX.exit ?_
    refine HX.then ?_
    refine HX.then ?_
    refine HX.hit ?_
    refine HN.then ?_
    refine H.seq ?_
    refine H.region ?_
    refine H.q (yl_assign rfl) rfl rfl (by decide) ?_
    refine HN.done ?_
    refine HN.keep [(2, _)] ⟨rfl, trivial⟩ ?_
    refine HN.then ?_
    refine HR.ret ?_
    refine HR.ret1 _ Tryz.results36 rfl (fun w hw => ?_)
    exact ⟨by rw [namedE_good (fun j hj => hk1 j (by omega) hj) fun i j hij hj => hk2 i j hij (by omega) hj], hw.ext⟩

end Go.Proofs.YtgbgddmbooaddaaGreatDoor

namespace Go.Proofs
open Go.Shelf
def Tryz.laysM173_ren : Go.Shelf.Ren := ⟨fun | 173 => 38 | 246 => 70 | 283 => 97 | 284 => 98 | 285 => 99 | 286 => 100 | 129 => 114 | 317 => 113 | 318 => 115 | 319 => 116 | 320 => 117 | 337 => 135 | 338 => 136 | n => n, fun | 2 => 2 | 3 => 3 | 9 => 9 | 4 => 4 | 171 => 147 | 0 => 0 | 53 => 121 | 37 => 150 | 5 => 5 | 173 => 151 | 212 => 167 | 51 => 168 | 20 => 20 | 213 => 169 | 46 => 163 | 232 => 196 | 233 => 197 | n => n, fun | 17 => 0 | 18 => 2 | 19 => 3 | n => n⟩
theorem Tryz.laysM173 : Go.Proofs.LaysM.n173 Tryz.prog Tryz.laysM173_ren := {
  mixed := by kernel_rfl
  f129 := Tryz.func114.trans (congrArg some (by kernel_rfl))
  f173 := Tryz.func38.trans (congrArg some (by kernel_rfl))
  f246 := Tryz.func70.trans (congrArg some (by kernel_rfl))
  f283 := Tryz.func97.trans (congrArg some (by kernel_rfl))
  f284 := Tryz.func98.trans (congrArg some (by kernel_rfl))
  f285 := Tryz.func99.trans (congrArg some (by kernel_rfl))
  f286 := Tryz.func100.trans (congrArg some (by kernel_rfl))
  f317 := Tryz.func113.trans (congrArg some (by kernel_rfl))
  f318 := Tryz.func115.trans (congrArg some (by kernel_rfl))
  f319 := Tryz.func116.trans (congrArg some (by kernel_rfl))
  f320 := Tryz.func117.trans (congrArg some (by kernel_rfl))
  f337 := Tryz.func135.trans (congrArg some (by kernel_rfl))
  f338 := Tryz.func136.trans (congrArg some (by kernel_rfl))
  t0 := Tryz.underlying0
  a0 := Tryz.isAgg0
  z0 := Tryz.sizeOf0
  v0 := Tryz.zeroValue0
  t2 := Tryz.underlying2
  a2 := Tryz.isAgg2
  z2 := Tryz.sizeOf2
  v2 := Tryz.zeroValue2
  t3 := Tryz.underlying3
  a3 := Tryz.isAgg3
  z3 := Tryz.sizeOf3
  v3 := Tryz.zeroValue3
  t4 := Tryz.underlying4
  a4 := Tryz.isAgg4
  z4 := Tryz.sizeOf4
  v4 := Tryz.zeroValue4
  t5 := Tryz.underlying5
  a5 := Tryz.isAgg5
  z5 := Tryz.sizeOf5
  v5 := Tryz.zeroValue5
  t9 := Tryz.underlying9
  a9 := Tryz.isAgg9
  z9 := Tryz.sizeOf9
  v9 := Tryz.zeroValue9
  t20 := Tryz.underlying20
  a20 := Tryz.isAgg20
  z20 := Tryz.sizeOf20
  v20 := Tryz.zeroValue20
  t37 := Tryz.underlying150
  a37 := Tryz.isAgg150
  z37 := Tryz.sizeOf150
  v37 := Tryz.zeroValue150
  t46 := Tryz.underlying163
  a46 := Tryz.isAgg163
  z46 := Tryz.sizeOf163
  v46 := Tryz.zeroValue163
  t51 := Tryz.underlying168
  a51 := Tryz.isAgg168
  z51 := Tryz.sizeOf168
  v51 := Tryz.zeroValue168
  t53 := Tryz.underlying121
  a53 := Tryz.isAgg121
  z53 := Tryz.sizeOf121
  v53 := Tryz.zeroValue121
  t171 := Tryz.underlying147
  a171 := Tryz.isAgg147
  z171 := Tryz.sizeOf147
  v171 := Tryz.zeroValue147
  t173 := Tryz.underlying151
  a173 := Tryz.isAgg151
  z173 := Tryz.sizeOf151
  v173 := Tryz.zeroValue151
  t212 := Tryz.underlying167
  a212 := Tryz.isAgg167
  z212 := Tryz.sizeOf167
  v212 := Tryz.zeroValue167
  t213 := Tryz.underlying169
  a213 := Tryz.isAgg169
  z213 := Tryz.sizeOf169
  t232 := Tryz.underlying196
  a232 := Tryz.isAgg196
  z232 := Tryz.sizeOf196
  v232 := Tryz.zeroValue196
  t233 := Tryz.underlying197
  a233 := Tryz.isAgg197
  z233 := Tryz.sizeOf197
  v233 := Tryz.zeroValue197
  g17 := by kernel_rfl
  g18 := by kernel_rfl
  g19 := by kernel_rfl
  i0 := by kernel_rfl
  i2 := by kernel_rfl
  i3 := by kernel_rfl
  i4 := by kernel_rfl
  i5 := by kernel_rfl
  i9 := by kernel_rfl
  i20 := by kernel_rfl
  i37 := by kernel_rfl
  i46 := by kernel_rfl
  i51 := by kernel_rfl
  i53 := by kernel_rfl
  i171 := by kernel_rfl
  i173 := by kernel_rfl
  i212 := by kernel_rfl
  i232 := by kernel_rfl
  i233 := by kernel_rfl
  m17 := by kernel_rfl
  m18 := by kernel_rfl
  m19 := by kernel_rfl }
open Go.RowKit Go.Sort Go.Lib in
/-- strconv.FormatInt: "FormatInt returns the string representation of i in the given base": AT BASE 10: i's decimal numeral, for every int64. (LAID: no walk: one application.) -/
theorem Tryz.strconv_FormatInt_10 (n : Int) (h0 : -9223372036854775808 ≤ n) (h1 : n ≤ 9223372036854775807) (w : World) (htab : Lib.TabIs Tryz.prog w "internal/strconv.uint64pow10" .u64 Lib.pow10Tab) :
    Calls Tryz.prog 38 #[.int .i64 n, .int .i64 10] w fun e w' => e = .returned (.string ⟨(Lib.itoa n).toArray⟩) ∧ ∃ k os, w' = grow (w.drewN k) os := Any.strconv_FormatInt_10 Tryz.laysM173 n h0 h1 w htab
def Tryz.laysC174_ren : Go.Shelf.Ren := ⟨fun | 174 => 108 | 247 => 123 | 245 => 124 | 287 => 142 | 279 => 143 | 280 => 144 | 281 => 145 | 282 => 146 | 321 => 155 | 322 => 156 | 316 => 157 | 171 => 159 | 205 => 158 | 243 => 161 | 246 => 70 | 283 => 97 | 284 => 98 | 285 => 99 | 286 => 100 | 129 => 114 | 317 => 113 | 318 => 115 | 319 => 116 | 320 => 117 | 337 => 135 | 338 => 136 | n => n, fun | 9 => 9 | 3 => 3 | 2 => 2 | 75 => 157 | 85 => 158 | 4 => 4 | 167 => 184 | 5 => 5 | 53 => 121 | 175 => 185 | 46 => 163 | 168 => 187 | 37 => 150 | 0 => 0 | 210 => 207 | 21 => 21 | 127 => 212 | 145 => 215 | 143 => 213 | 171 => 147 | 173 => 151 | 212 => 167 | 51 => 168 | 20 => 20 | 213 => 169 | 232 => 196 | 233 => 197 | 80 => 216 | n => n, fun | 15 => 6 | 16 => 7 | 17 => 0 | 18 => 2 | 19 => 3 | n => n⟩
theorem Tryz.laysC174 : Go.Proofs.LaysC.n174 Tryz.prog Tryz.laysC174_ren := {
  mixed := by kernel_rfl
  f129 := Tryz.func114.trans (congrArg some (by kernel_rfl))
  f171 := Tryz.func159.trans (congrArg some (by kernel_rfl))
  f174 := Tryz.func108.trans (congrArg some (by kernel_rfl))
  f205 := Tryz.func158.trans (congrArg some (by kernel_rfl))
  f243 := Tryz.func161.trans (congrArg some (by kernel_rfl))
  f245 := Tryz.func124.trans (congrArg some (by kernel_rfl))
  f246 := Tryz.func70.trans (congrArg some (by kernel_rfl))
  f247 := Tryz.func123.trans (congrArg some (by kernel_rfl))
  f279 := Tryz.func143.trans (congrArg some (by kernel_rfl))
  f280 := Tryz.func144.trans (congrArg some (by kernel_rfl))
  f281 := Tryz.func145.trans (congrArg some (by kernel_rfl))
  f282 := Tryz.func146.trans (congrArg some (by kernel_rfl))
  f283 := Tryz.func97.trans (congrArg some (by kernel_rfl))
  f284 := Tryz.func98.trans (congrArg some (by kernel_rfl))
  f285 := Tryz.func99.trans (congrArg some (by kernel_rfl))
  f286 := Tryz.func100.trans (congrArg some (by kernel_rfl))
  f287 := Tryz.func142.trans (congrArg some (by kernel_rfl))
  f316 := Tryz.func157.trans (congrArg some (by kernel_rfl))
  f317 := Tryz.func113.trans (congrArg some (by kernel_rfl))
  f318 := Tryz.func115.trans (congrArg some (by kernel_rfl))
  f319 := Tryz.func116.trans (congrArg some (by kernel_rfl))
  f320 := Tryz.func117.trans (congrArg some (by kernel_rfl))
  f321 := Tryz.func155.trans (congrArg some (by kernel_rfl))
  f322 := Tryz.func156.trans (congrArg some (by kernel_rfl))
  f337 := Tryz.func135.trans (congrArg some (by kernel_rfl))
  f338 := Tryz.func136.trans (congrArg some (by kernel_rfl))
  t0 := Tryz.underlying0
  a0 := Tryz.isAgg0
  z0 := Tryz.sizeOf0
  v0 := Tryz.zeroValue0
  t2 := Tryz.underlying2
  a2 := Tryz.isAgg2
  z2 := Tryz.sizeOf2
  v2 := Tryz.zeroValue2
  t3 := Tryz.underlying3
  a3 := Tryz.isAgg3
  z3 := Tryz.sizeOf3
  v3 := Tryz.zeroValue3
  t4 := Tryz.underlying4
  a4 := Tryz.isAgg4
  z4 := Tryz.sizeOf4
  v4 := Tryz.zeroValue4
  t5 := Tryz.underlying5
  a5 := Tryz.isAgg5
  z5 := Tryz.sizeOf5
  v5 := Tryz.zeroValue5
  t9 := Tryz.underlying9
  a9 := Tryz.isAgg9
  z9 := Tryz.sizeOf9
  v9 := Tryz.zeroValue9
  t20 := Tryz.underlying20
  a20 := Tryz.isAgg20
  z20 := Tryz.sizeOf20
  v20 := Tryz.zeroValue20
  t21 := Tryz.underlying21
  a21 := Tryz.isAgg21
  z21 := Tryz.sizeOf21
  v21 := Tryz.zeroValue21
  t37 := Tryz.underlying150
  a37 := Tryz.isAgg150
  z37 := Tryz.sizeOf150
  v37 := Tryz.zeroValue150
  t46 := Tryz.underlying163
  a46 := Tryz.isAgg163
  z46 := Tryz.sizeOf163
  v46 := Tryz.zeroValue163
  t51 := Tryz.underlying168
  a51 := Tryz.isAgg168
  z51 := Tryz.sizeOf168
  v51 := Tryz.zeroValue168
  t53 := Tryz.underlying121
  a53 := Tryz.isAgg121
  z53 := Tryz.sizeOf121
  v53 := Tryz.zeroValue121
  t75 := Tryz.underlying157
  a75 := Tryz.isAgg157
  z75 := Tryz.sizeOf157
  v75 := Tryz.zeroValue157
  t85 := Tryz.underlying158
  a85 := Tryz.isAgg158
  z85 := Tryz.sizeOf158
  v85 := Tryz.zeroValue158
  t127 := Tryz.underlying212
  a127 := Tryz.isAgg212
  z127 := Tryz.sizeOf212
  v127 := Tryz.zeroValue212
  t143 := Tryz.underlying213
  a143 := Tryz.isAgg213
  z143 := Tryz.sizeOf213
  v143 := Tryz.zeroValue213
  t145 := Tryz.underlying215
  a145 := Tryz.isAgg215
  z145 := Tryz.sizeOf215
  v145 := Tryz.zeroValue215
  t167 := Tryz.underlying184
  a167 := Tryz.isAgg184
  z167 := Tryz.sizeOf184
  v167 := Tryz.zeroValue184
  t168 := Tryz.underlying187
  a168 := Tryz.isAgg187
  z168 := Tryz.sizeOf187
  v168 := Tryz.zeroValue187
  t171 := Tryz.underlying147
  a171 := Tryz.isAgg147
  z171 := Tryz.sizeOf147
  v171 := Tryz.zeroValue147
  t173 := Tryz.underlying151
  a173 := Tryz.isAgg151
  z173 := Tryz.sizeOf151
  v173 := Tryz.zeroValue151
  t175 := Tryz.underlying185
  a175 := Tryz.isAgg185
  z175 := Tryz.sizeOf185
  v175 := Tryz.zeroValue185
  t210 := Tryz.underlying207
  a210 := Tryz.isAgg207
  z210 := Tryz.sizeOf207
  v210 := Tryz.zeroValue207
  t212 := Tryz.underlying167
  a212 := Tryz.isAgg167
  z212 := Tryz.sizeOf167
  v212 := Tryz.zeroValue167
  t213 := Tryz.underlying169
  a213 := Tryz.isAgg169
  z213 := Tryz.sizeOf169
  t232 := Tryz.underlying196
  a232 := Tryz.isAgg196
  z232 := Tryz.sizeOf196
  v232 := Tryz.zeroValue196
  t233 := Tryz.underlying197
  a233 := Tryz.isAgg197
  z233 := Tryz.sizeOf197
  v233 := Tryz.zeroValue197
  g15 := by kernel_rfl
  g16 := by kernel_rfl
  g17 := by kernel_rfl
  g18 := by kernel_rfl
  g19 := by kernel_rfl
  t80 := Tryz.underlying216
  a80 := Tryz.isAgg216
  z80 := Tryz.sizeOf216
  v80 := Tryz.zeroValue216
  i0 := by kernel_rfl
  i2 := by kernel_rfl
  i3 := by kernel_rfl
  i4 := by kernel_rfl
  i5 := by kernel_rfl
  i9 := by kernel_rfl
  i20 := by kernel_rfl
  i21 := by kernel_rfl
  i37 := by kernel_rfl
  i46 := by kernel_rfl
  i51 := by kernel_rfl
  i53 := by kernel_rfl
  i75 := by kernel_rfl
  i80 := by kernel_rfl
  i85 := by kernel_rfl
  i127 := by kernel_rfl
  i143 := by kernel_rfl
  i145 := by kernel_rfl
  i167 := by kernel_rfl
  i168 := by kernel_rfl
  i171 := by kernel_rfl
  i173 := by kernel_rfl
  i175 := by kernel_rfl
  i210 := by kernel_rfl
  i212 := by kernel_rfl
  i232 := by kernel_rfl
  i233 := by kernel_rfl
  m15 := by kernel_rfl
  m16 := by kernel_rfl
  m17 := by kernel_rfl
  m18 := by kernel_rfl
  m19 := by kernel_rfl
  c0 := by kernel_rfl
  c2 := by kernel_rfl
  c3 := by kernel_rfl
  c4 := by kernel_rfl
  c5 := by kernel_rfl
  c9 := by kernel_rfl
  c20 := by kernel_rfl
  c21 := by kernel_rfl
  c37 := by kernel_rfl
  c46 := by kernel_rfl
  c51 := by kernel_rfl
  c53 := by kernel_rfl
  c75 := by kernel_rfl
  c80 := by kernel_rfl
  c85 := by kernel_rfl
  c127 := by kernel_rfl
  c143 := by kernel_rfl
  c145 := by kernel_rfl
  c167 := by kernel_rfl
  c168 := by kernel_rfl
  c171 := by kernel_rfl
  c173 := by kernel_rfl
  c175 := by kernel_rfl
  c210 := by kernel_rfl
  c212 := by kernel_rfl
  c213 := by kernel_rfl
  c232 := by kernel_rfl
  c233 := by kernel_rfl }
open Go.RowKit in
/-- strconv.ParseInt(s, 10, 64), AT EVERY STRING THAT SPELLS AN int64 ('Lib.parseIntB 64 s.data.toList = .ok v'): v, AND NO ERROR. (LAID: no walk: one application.) -/
theorem Tryz.strconv_ParseInt_10_at64_ok (s : ByteArray) (hmax : s.size ≤ 9223372036854775806) (v : Int) (h : Lib.parseIntB 64 s.data.toList = .ok v) (w : World) :
    Calls Tryz.prog 108 #[.string s, .int .i64 10, .int .i64 64] w fun e w' => e = .returned (.tuple #[.int .i64 v, .nilIface]) ∧ (w' = w ∨ ∃ t, w' = Lib.bytesWorld w 5 t) := Any.strconv_ParseInt_10_at64_ok Tryz.laysC174 s hmax v h w
open Go.RowKit in
theorem Tryz.strconv_ParseInt_10_at64_syntax_var (s : ByteArray) (hlim : s.size ≤ 281474976710656) (h : Lib.parseIntB 64 s.data.toList = Lib.parseIntB 64 []) (tp : TypeId) (p : Value) (w : World) (hvar : w.var? Tryz.prog "strconv.ErrSyntax" = some #[.iface tp p]) :
    Calls Tryz.prog 108 #[.string s, .int .i64 10, .int .i64 64] w fun e w' => ∃ N, e = .returned (.tuple #[.int .i64 (0), .iface 187 (.pointer (some ⟨N, 0, none⟩))]) ∧ w.heap.size ≤ N ∧ w'.heap[N]? = some (.cells #[.string ⟨#[80, 97, 114, 115, 101, 73, 110, 116]⟩, .string s, .iface tp p] 207 (0, 0)) ∧ Below w.heap.size w w' := Any.strconv_ParseInt_10_at64_syntax_var Tryz.laysC174 s hlim h tp p w hvar
open Go.RowKit in
theorem Tryz.strconv_ParseInt_10_at64_range_var (s : ByteArray) (hlim : s.size ≤ 281474976710656) (h : Lib.parseIntB 64 s.data.toList = .range) (tp : TypeId) (p : Value) (w : World) (hvar : w.var? Tryz.prog "strconv.ErrRange" = some #[.iface tp p]) :
    Calls Tryz.prog 108 #[.string s, .int .i64 10, .int .i64 64] w fun e w' => ∃ N, e = .returned (.tuple #[.int .i64 (Lib.intSat 64 s.data.toList), .iface 187 (.pointer (some ⟨N, 0, none⟩))]) ∧ w.heap.size ≤ N ∧ w'.heap[N]? = some (.cells #[.string ⟨#[80, 97, 114, 115, 101, 73, 110, 116]⟩, .string s, .iface tp p] 207 (0, 0)) ∧ Below w.heap.size w w' := Any.strconv_ParseInt_10_at64_range_var Tryz.laysC174 s hlim h tp p w hvar
def Tryz.lays146_ren : Go.Shelf.Ren := ⟨fun | 146 => 42 | 221 => 73 | 268 => 105 | 138 => 106 | 143 => 107 | 195 => 119 | 197 => 120 | 218 => 121 | 219 => 122 | 260 => 137 | 217 => 138 | 225 => 139 | 224 => 140 | 267 => 141 | 266 => 153 | 314 => 154 | n => n, fun | 9 => 9 | 31 => 26 | 3 => 3 | 4 => 4 | 0 => 0 | 105 => 171 | 21 => 21 | 5 => 5 | 46 => 163 | 119 => 198 | 139 => 201 | 138 => 200 | 146 => 202 | 51 => 168 | n => n, fun | 1 => 1 | 3 => 4 | 4 => 5 | n => n⟩
theorem Tryz.lays146 : Go.Proofs.Lays.n146 Tryz.prog Tryz.lays146_ren := {
  mixed := by kernel_rfl
  f138 := Tryz.func106.trans (congrArg some (by kernel_rfl))
  f143 := Tryz.func107.trans (congrArg some (by kernel_rfl))
  f146 := Tryz.func42.trans (congrArg some (by kernel_rfl))
  f195 := Tryz.func119.trans (congrArg some (by kernel_rfl))
  f197 := Tryz.func120.trans (congrArg some (by kernel_rfl))
  f217 := Tryz.func138.trans (congrArg some (by kernel_rfl))
  f218 := Tryz.func121.trans (congrArg some (by kernel_rfl))
  f219 := Tryz.func122.trans (congrArg some (by kernel_rfl))
  f221 := Tryz.func73.trans (congrArg some (by kernel_rfl))
  f224 := Tryz.func140.trans (congrArg some (by kernel_rfl))
  f225 := Tryz.func139.trans (congrArg some (by kernel_rfl))
  f260 := Tryz.func137.trans (congrArg some (by kernel_rfl))
  f266 := Tryz.func153.trans (congrArg some (by kernel_rfl))
  f267 := Tryz.func141.trans (congrArg some (by kernel_rfl))
  f268 := Tryz.func105.trans (congrArg some (by kernel_rfl))
  f314 := Tryz.func154.trans (congrArg some (by kernel_rfl))
  t0 := Tryz.underlying0
  a0 := Tryz.isAgg0
  z0 := Tryz.sizeOf0
  v0 := Tryz.zeroValue0
  t3 := Tryz.underlying3
  a3 := Tryz.isAgg3
  z3 := Tryz.sizeOf3
  v3 := Tryz.zeroValue3
  t4 := Tryz.underlying4
  a4 := Tryz.isAgg4
  z4 := Tryz.sizeOf4
  v4 := Tryz.zeroValue4
  t5 := Tryz.underlying5
  a5 := Tryz.isAgg5
  z5 := Tryz.sizeOf5
  v5 := Tryz.zeroValue5
  t9 := Tryz.underlying9
  a9 := Tryz.isAgg9
  z9 := Tryz.sizeOf9
  v9 := Tryz.zeroValue9
  t21 := Tryz.underlying21
  a21 := Tryz.isAgg21
  z21 := Tryz.sizeOf21
  v21 := Tryz.zeroValue21
  t31 := Tryz.underlying26
  a31 := Tryz.isAgg26
  z31 := Tryz.sizeOf26
  v31 := Tryz.zeroValue26
  t46 := Tryz.underlying163
  a46 := Tryz.isAgg163
  z46 := Tryz.sizeOf163
  v46 := Tryz.zeroValue163
  t51 := Tryz.underlying168
  a51 := Tryz.isAgg168
  z51 := Tryz.sizeOf168
  v51 := Tryz.zeroValue168
  t105 := Tryz.underlying171
  a105 := Tryz.isAgg171
  z105 := Tryz.sizeOf171
  v105 := Tryz.zeroValue171
  t119 := Tryz.underlying198
  a119 := Tryz.isAgg198
  z119 := Tryz.sizeOf198
  t138 := Tryz.underlying200
  a138 := Tryz.isAgg200
  z138 := Tryz.sizeOf200
  v138 := Tryz.zeroValue200
  t139 := Tryz.underlying201
  a139 := Tryz.isAgg201
  z139 := Tryz.sizeOf201
  v139 := Tryz.zeroValue201
  t146 := Tryz.underlying202
  a146 := Tryz.isAgg202
  z146 := Tryz.sizeOf202
  v146 := Tryz.zeroValue202
  g1 := by kernel_rfl
  g3 := by kernel_rfl
  g4 := by kernel_rfl }
open Go.RowKit Go.Lib in
/-- strings.Split. (LAID: no walk: one application.) -/
theorem Tryz.strings_Split (s sep : ByteArray) (m : Int) (w : World) (hs : s.size < 4294967281) (hm : w.cell? ⟨1, 0, none⟩ = some (.int .i64 m)) (h1 : 1 ≤ sep.size) :
    Calls Tryz.prog 42 #[.string s, .string sep] w fun e w' =>
      e = .returned (.slice (some ⟨w.heap.size, 0, none⟩) (Lib.countB s sep + 1) (Lib.countB s sep + 1)) ∧ w' = w.alloc (.cells ((Lib.splitB sep 0 (Lib.countB s sep) s).map Value.string).toArray 9) := Any.strings_Split Tryz.lays146 (by kernel_rfl) s sep m w hs hm h1
end Go.Proofs

namespace Go.Proofs.YtgbgddmbooaddaaGreatDoor

theorem decDigits_small {u : Nat} (h : u < 10) : Lib.decDigits u = [UInt8.ofNat (48 + u)] := by rw [Lib.decDigits, dif_pos h]
theorem decDigits_big {u : Nat} (h : ¬ u < 10) : Lib.decDigits u = Lib.decDigits (u / 10) ++ [UInt8.ofNat (48 + u % 10)] := by rw [Lib.decDigits, dif_neg h]
theorem decDigits_len : ∀ (m u : Nat), u < 10 ^ (m + 1) → (Lib.decDigits u).length ≤ m + 1
  | 0, u, h => by rw [decDigits_small (by simpa using h)]; simp
  | m + 1, u, h => by
    by_cases h10 : u < 10
    · rw [decDigits_small h10]; simp
    · rw [decDigits_big h10, List.length_append]
      have := decDigits_len m (u / 10) (by rw [Nat.div_lt_iff_lt_mul (by decide)]; rw [Nat.pow_succ] at h; exact h)
      simp
      omega
theorem itoa_len {x : Int} (h : -9223372036854775808 ≤ x ∧ x ≤ 9223372036854775807) : (Lib.itoa x).length ≤ 21 := by
  unfold Lib.itoa
  split
  · have := decDigits_len 19 x.natAbs (by omega)
    simp only [List.length_cons]
    omega
  · have := decDigits_len 19 x.toNat (by omega)
    omega

/-- The numbers of a set, each behind a blank. -/
def numsT (l : List Int) : List UInt8 := (l.map fun y => (32 : UInt8) :: Lib.itoa y).flatten
theorem numsT_snoc (l : List Int) (y : Int) : numsT (l ++ [y]) = numsT l ++ (32 :: Lib.itoa y) := by simp [numsT]
theorem numsT_len {l : List Int} (h : ∀ y ∈ l, -9223372036854775808 ≤ y ∧ y ≤ 9223372036854775807) : (numsT l).length ≤ 22 * l.length := by
  induction l with
  | nil => simp [numsT]
  | cons y l ih =>
    have h1 := itoa_len (h y (List.mem_cons_self ..))
    have h2 := ih fun z hz => h z (List.mem_cons_of_mem _ hz)
    simp only [numsT, List.map_cons, List.flatten_cons, List.length_append, List.length_cons] at h2 ⊢
    omega

def textE (x : Inv) (a b : List UInt8) : List UInt8 :=
  if x.kind = 1 then a ++ [32, 61, 61, 32] ++ Lib.itoa x.k
  else if x.kind = 2 then a ++ [32, 105, 110] ++ numsT x.set
  else if x.kind = 3 then a ++ [32, 62, 61, 32] ++ Lib.itoa x.k
  else if x.kind = 4 then a ++ [32, 60, 61, 32] ++ Lib.itoa x.k
  else if x.kind = 5 then a ++ [32, 33, 61, 32, 48]
  else if x.kind = 6 then a ++ [32, 37, 32] ++ Lib.itoa x.m ++ [32, 61, 61, 32] ++ Lib.itoa x.k
  else if x.kind = 7 then a ++ [32, 61, 61, 32] ++ b
  else if x.kind = 8 then a ++ [32, 33, 61, 32] ++ b
  else if x.kind = 9 then a ++ [32, 60, 32] ++ b
  else if x.kind = 10 then a ++ [32, 60, 61, 32] ++ b
  else b ++ [32, 61, 61, 32] ++ Lib.itoa x.k ++ [32, 42, 32] ++ a ++ [32, 43, 32] ++ Lib.itoa x.m

/-- Write. -/
def writeE (x : Inv) (names : List (List UInt8)) : List UInt8 × Int :=
  if namedE names ≠ 0 then ([], namedE names) else if chk x names.length ≠ 0 then ([], chk x names.length)
  else (textE x (names.getD x.a.toNat []) (names.getD x.b.toNat []), 0)
theorem writeE_named {x : Inv} {names : List (List UInt8)} (h : namedE names ≠ 0) : writeE x names = ([], namedE names) := by rw [writeE, if_pos h]
theorem writeE_chk {x : Inv} {names : List (List UInt8)} (h : namedE names = 0) (h2 : chk x names.length ≠ 0) : writeE x names = ([], chk x names.length) := by rw [writeE, if_neg (by simp [h]), if_pos h2]
theorem writeE_ok {x : Inv} {names : List (List UInt8)} (h : namedE names = 0) (h2 : chk x names.length = 0) : writeE x names = (textE x (names.getD x.a.toNat []) (names.getD x.b.toNat []), 0) := by
  rw [writeE, if_neg (by simp [h]), if_neg (by simp [h2])]
theorem small_wide {n : Int} (h : smallB n = true) : -9223372036854775808 ≤ n ∧ n ≤ 9223372036854775807 := by have := small_le h; omega
end Go.Proofs.YtgbgddmbooaddaaGreatDoor

namespace Go.Proofs.YtgbgddmbooaddaaGreatDoor

/-- number, as package learn has it. -/
def numL (s : List UInt8) : Int × Bool :=
  match Lib.parseIntB 64 s with
  | .ok v => (v, decide (Lib.itoa v = s))
  | .range => (Lib.intSat 64 s, false)
  | _ => (0, false)
/-- What no digits come to. -/
abbrev synI : Lib.NumEnd Int := Lib.parseIntB 64 []

theorem parse_wide {s : List UInt8} {v : Int} (h : Lib.parseIntB 64 s = .ok v) : -9223372036854775808 ≤ v ∧ v ≤ 9223372036854775807 := by
  cases s with
  | nil => simp [Lib.parseIntB] at h
  | cons c r =>
    simp only [Lib.parseIntB] at h
    cases hu : Lib.parseUintB 64 (if c.toNat = 43 ∨ c.toNat = 45 then r else c :: r) with
    | range => rw [hu] at h; cases h
    | ok u =>
      rw [hu] at h
      by_cases hn : c.toNat = 45
      · by_cases h2 : 2 ^ (64 - 1) < u
        · simp [hn, h2] at h
        · simp only [hn, not_true_eq_false, false_and, if_false, true_and, h2, if_true, Lib.NumEnd.ok.injEq] at h
          simp only [Nat.reduceSub, Nat.reducePow] at h2
          omega
      · by_cases h2 : 2 ^ (64 - 1) ≤ u
        · simp [hn, h2] at h
        · simp only [hn, not_false_eq_true, true_and, h2, if_false, false_and, Lib.NumEnd.ok.injEq] at h
          simp only [Nat.reduceSub, Nat.reducePow] at h2
          omega
    | _ => rw [hu] at h; cases h
theorem numL_ok {s : List UInt8} {v : Int} (h : Lib.parseIntB 64 s = .ok v) : numL s = (v, decide (Lib.itoa v = s)) := by rw [numL, h]
theorem numL_syn {s : List UInt8} (h : Lib.parseIntB 64 s = synI) : numL s = (0, false) := by rw [numL, h]; rfl
theorem numL_ran {s : List UInt8} (h : Lib.parseIntB 64 s = .range) : numL s = (Lib.intSat 64 s, false) := by rw [numL, h]
end Go.Proofs.YtgbgddmbooaddaaGreatDoor

namespace Go.Proofs.YtgbgddmbooaddaaGreatDoor
open Go.RowKit Go.Sort

section
variable {P : Program} {n : Nat} {e : Env} {C : World → Prop} {d : Option Tmp} {t : TypeId} {p : String} {af : Array Edge} {g : Option (Nat × Bool)}
variable {k : IntKind} {a b : Int} {x y : Operand} {tx ty : TypeId}
end

theorem ext_grow (w : World) (k : Nat) (os : Array Obj) : Ext w (grow (w.drewN k) os) :=
  ⟨rfl, rfl, rfl, by simp [grow], fun j hj => by
    show (w.heap ++ os)[j]? = _
    rw [Array.getElem?_append_left hj]⟩
theorem var_ext {w w' : World} (h : Ext w w') {nm : String} {cs : Array Value} (hv : w.var? Tryz.prog nm = some cs) : w'.var? Tryz.prog nm = some cs := by
  unfold World.var? at hv ⊢
  obtain ⟨g, hg, h2⟩ := Option.bind_eq_some_iff.1 hv
  rw [hg]
  simp only [Option.bind_some]
  cases hb : w.heap[g]? with
  | none => rw [hb] at h2; cases h2
  | some o => rw [blk_ext h hb]; rw [hb] at h2; exact h2

/-- What the library's variables hold. -/
structure Vars (w : World) : Prop where
  tab : Lib.TabIs Tryz.prog w "internal/strconv.uint64pow10" .u64 Lib.pow10Tab
  syn : ∃ tp p, w.var? Tryz.prog "strconv.ErrSyntax" = some #[.iface tp p]
  ran : ∃ tp p, w.var? Tryz.prog "strconv.ErrRange" = some #[.iface tp p]
  max : ∃ m, w.cell? ⟨1, 0, none⟩ = some (.int .i64 m)
theorem Vars.ext {w w' : World} (h : Vars w) (k : Ext w w') : Vars w' where
  tab := var_ext k h.tab
  syn := let ⟨tp, p, hv⟩ := h.syn; ⟨tp, p, var_ext k hv⟩
  ran := let ⟨tp, p, hv⟩ := h.ran; ⟨tp, p, var_ext k hv⟩
  max := let ⟨m, hm⟩ := h.max; ⟨m, cell_ext k hm⟩

theorem Hp.ofExt {w w' : World} (h : Ext w w') : Hp w [] [] [] w' := (Hp.init w).step h
/-- strconv.ParseInt(s, 10, 64): the number, and whether there was an error. -/
theorem parseInt_any (s : List UInt8) (w0 : World) (hs : s.length ≤ 1000) (hw : Vars w0) : Calls Tryz.prog 108 #[strV s, .int .i64 10, .int .i64 64] w0 fun e w' =>
    ∃ z : Bool × Nat, e = .returned (.tuple #[.int .i64 (numL s).1, if z.1 = true then .nilIface else .iface 187 (.pointer (some ⟨z.2, 0, none⟩))]) ∧ (z.1 = true → Lib.parseIntB 64 s = .ok (numL s).1) ∧ (z.1 = false → (numL s).2 = false) ∧ Ext w0 w' := by
  have hl : (⟨s.toArray⟩ : ByteArray).data.toList = s := by simp
  have hsz : (⟨s.toArray⟩ : ByteArray).size = s.length := rfl
  cases hp : Lib.parseIntB 64 s with
  | ok v =>
    refine (Tryz.strconv_ParseInt_10_at64_ok ⟨s.toArray⟩ (by rw [hsz]; omega) v (by rw [hl]; exact hp) w0).mono fun e w' h => ?_
    refine ⟨(true, 0), ?_, fun _ => by rw [numL_ok hp], (fun h => Bool.noConfusion h), ?_⟩
    · rw [numL_ok hp]; exact h.1
    · rcases h.2 with rfl | ⟨t, rfl⟩
      · exact Ext.refl _
      · exact Joins.below_bytesWorld _ _ _ _ (Nat.le_refl _)
  | range =>
    obtain ⟨tp, p, hv⟩ := hw.ran
    refine (Tryz.strconv_ParseInt_10_at64_range_var ⟨s.toArray⟩ (by rw [hsz]; omega) (by rw [hl]; exact hp) tp p w0 hv).mono fun e w' h => ?_
    obtain ⟨N, h1, _, _, h2⟩ := h
    refine ⟨(false, N), ?_, (fun h => Bool.noConfusion h), fun _ => by rw [numL_ran hp], h2⟩
    rw [numL_ran hp]
    have := h1
    rw [hl] at this
    exact this
  | _ =>
    obtain ⟨tp, p, hv⟩ := hw.syn
    refine (Tryz.strconv_ParseInt_10_at64_syntax_var ⟨s.toArray⟩ (by rw [hsz]; omega) (by rw [hl]; exact hp) tp p w0 hv).mono fun e w' h => ?_
    obtain ⟨N, h1, _, _, h2⟩ := h
    exact ⟨(false, N), by rw [numL_syn hp]; exact h1, (fun h => Bool.noConfusion h), fun _ => by rw [numL_syn hp], h2⟩
theorem formatInt_any (x : Int) (w0 : World) (hx : -9223372036854775808 ≤ x ∧ x ≤ 9223372036854775807) (hw : Vars w0) : Calls Tryz.prog 38 #[.int .i64 x, .int .i64 10] w0 fun e w' => e = .returned (strV (Lib.itoa x)) ∧ Ext w0 w' :=
  (Tryz.strconv_FormatInt_10 x hx.1 hx.2 w0 hw.tab).mono fun e w' h => by
    obtain ⟨h1, k, os, rfl⟩ := h
    exact ⟨h1, ext_grow _ _ _⟩
end Go.Proofs.YtgbgddmbooaddaaGreatDoor

namespace Go.Proofs.YtgbgddmbooaddaaGreatDoor
open Go.RowKit

set_option maxRecDepth 100000 in
theorem write1_any (x : Int) (w0 : World) (hx : smallB x = true) (hv : Vars w0) : Calls Tryz.prog 37 #[.int .i64 x] w0 fun e w' => e = .returned (strV (Lib.itoa x)) ∧ Ext w0 w' := by
  refine enterA 5 Tryz.func37 rfl Tryz.ntmps37 rfl (Hp w0 [] [] []) (Hp.init _) ?_
  refine H.seq ?_
  refine H.region ?_
  refine H.q (yl_assign rfl) rfl rfl (by decide) ?_
  refine HN.done ?_
  refine HN.keep [(0, _)] ⟨rfl, trivial⟩ ?_
  refine HN.then ?_
  refine H.seq ?_
  refine H.region ?_
  refine H.q (yl_move rfl) rfl rfl (by decide) ?_
  refine H.q (yl_call (xs := [.tmp 3, .const (.int .i64 10)]) Tryz.call38 (stab_hp _ _ _ _) rfl (fun w hw => formatInt_any x w (small_wide hx) (hv.ext hw.ext))) rfl rfl (by decide) ?_
  refine H.q (yl_assign rfl) rfl rfl (by decide) ?_
  refine HN.done ?_
  refine HN.keep [(2, _)] ⟨rfl, trivial⟩ ?_
  refine HN.then ?_
  refine HR.ret ?_
  refine HR.ret1 _ Tryz.results37 rfl (fun w hw => ?_)
  exact ⟨rfl, hw.ext⟩


theorem claimT_71 {k : Int} (h : claimT k = 71) : k = 1 := by unfold claimT at h; repeat (first | omega | split at h)
theorem claimT_73 {k : Int} (h : claimT k = 73) : k = 2 := by unfold claimT at h; repeat (first | omega | split at h)
theorem claimT_74 {k : Int} (h : claimT k = 74) : k = 3 := by unfold claimT at h; repeat (first | omega | split at h)
theorem claimT_75 {k : Int} (h : claimT k = 75) : k = 4 := by unfold claimT at h; repeat (first | omega | split at h)
theorem claimT_77 {k : Int} (h : claimT k = 77) : k = 5 := by unfold claimT at h; repeat (first | omega | split at h)
theorem claimT_79 {k : Int} (h : claimT k = 79) : k = 6 := by unfold claimT at h; repeat (first | omega | split at h)
theorem claimT_80 {k : Int} (h : claimT k = 80) : k = 7 := by unfold claimT at h; repeat (first | omega | split at h)
theorem claimT_81 {k : Int} (h : claimT k = 81) : k = 8 := by unfold claimT at h; repeat (first | omega | split at h)
theorem claimT_82 {k : Int} (h : claimT k = 82) : k = 9 := by unfold claimT at h; repeat (first | omega | split at h)
theorem claimT_83 {k : Int} (h : claimT k = 83) : k = 10 := by unfold claimT at h; repeat (first | omega | split at h)

end Go.Proofs.YtgbgddmbooaddaaGreatDoor

namespace Go.Proofs.YtgbgddmbooaddaaGreatDoor
open Go.RowKit


theorem write1_v (x : Int) (w0 : World) (hx : smallB x = true) (hv : Vars w0) : Calls Tryz.prog 37 ([Value.int .i64 x] ++ []).toArray w0 fun e w' => e = .returned (strV (Lib.itoa x)) ∧ Ext w0 w' := write1_any x w0 hx hv

set_option maxRecDepth 100000 in
theorem write_any (x : Inv) (sv : Value) (names : List (List UInt8)) (nv : Value) (w0 : World) (hl : x.set.length ≤ 1000) (hv : IsInts w0 sv x.set) (hnl : names.length ≤ 1000) (hns : ∀ s ∈ names, s.length ≤ 1000) (hnv : IsStrs w0 nv names) (hvars : Vars w0) : Calls Tryz.prog 12 #[(.agg [.int .u8 x.kind, .int .i64 x.a, .int .i64 x.b, .int .i64 x.k, .int .i64 x.m, sv].toArray), nv] w0 fun e w' => e = .returned (.tuple #[strV (writeE x names).1, .int .i64 (writeE x names).2]) ∧ Ext w0 w' := by
  obtain ⟨ad, cap, b, o, rfl, hcap, hs⟩ := ints_open hv
  obtain ⟨ad1, cap1, b1, o1, rfl, hcap1, hs1⟩ := sl_open strV hnv
  refine enterA 163 Tryz.func12 rfl Tryz.ntmps12 rfl (Hp w0 [] [] []) (Hp.init _) ?_
  refine H.seq ?_
  refine H.region ?_
  refine H.boxA rfl (by decide) (fun b2 hb2 => ?_)
  refine H.q (yl_assign rfl) rfl rfl (by decide) ?_
  refine H.q (yl_assign rfl) rfl rfl (by decide) ?_
  refine HN.done ?_
  refine HN.keep [(1, _), (2, _)] ⟨rfl, rfl, trivial⟩ ?_
  refine HN.then ?_
  refine H.seq ?_
  refine H.seq ?_
  refine H.region ?_
  refine H.q (yl_move rfl) rfl rfl (by decide) ?_
  refine H.q (yl_call (xs := [.tmp 24]) Tryz.call36 (stab_hp _ _ _ _) rfl (fun w hw => named_any names (.slice ad1 names.length cap1) w (by omega) hns (hnv.ext hw.ext))) rfl rfl (by decide) ?_
  refine H.q (yl_assign rfl) rfl rfl (by decide) ?_
  refine HN.done ?_
  refine HN.keep [(1, _), (2, _), (6, _)] ⟨rfl, rfl, rfl, trivial⟩ ?_
  refine HN.then ?_
  refine H.seq ?_
  refine H.region ?_
  refine H.q (yl_move rfl) rfl rfl (by decide) ?_
  refine H.q (yl_neq rfl rfl) rfl rfl (by decide) ?_
  refine HN.done ?_
  refine HN.keep [(1, _), (2, _), (6, _), (27, _)] ⟨rfl, rfl, rfl, rfl, trivial⟩ ?_
  refine HN.then ?_
  refine H.cond _ rfl (fun t0 => ?_) (fun t0 => ?_)
  · simp only [ne_eq, decide_not, Bool.not_eq_true', decide_eq_false_iff_not] at t0
    refine H.keep [(6, _)] ⟨rfl, trivial⟩ ?_
    refine H.seq ?_
    refine H.region ?_
    refine H.q (yl_move rfl) rfl rfl (by decide) ?_
    refine H.q (yl_assign rfl) rfl rfl (by decide) ?_
    refine H.q (yl_assign rfl) rfl rfl (by decide) ?_
    refine HN.done ?_
    refine HN.keep [(4, _), (5, _)] ⟨rfl, rfl, trivial⟩ ?_
    refine HN.then ?_
    refine HR.ret ?_
    refine HR.then ?_
    refine HR.ret2 _ _ Tryz.results12 rfl rfl (fun w hw => ?_)
    exact ⟨by rw [writeE_named t0], hw.ext⟩
  · simp only [ne_eq, decide_not, Bool.not_eq_false', decide_eq_true_eq] at t0
    refine H.keep [(1, _), (2, _)] ⟨rfl, rfl, trivial⟩ ?_
    refine HN.skip ?_
    refine HN.then ?_
    refine H.seq ?_
    refine H.seq ?_
    refine H.region ?_
    refine H.q (yl_loadAgg _ Tryz.isAgg25 Tryz.sizeOf25 rfl (fun w hw => cells_of_blk (hw.blk 0 rfl)) rfl) rfl rfl (by decide) ?_
    refine H.q (yl_move rfl) rfl rfl (by decide) ?_
    refine H.q (yl_len rfl Tryz.underlying26 rfl) rfl rfl (by decide) ?_
    refine H.q (yl_call (xs := [.tmp 29, .tmp 31]) Tryz.call28 (stab_hp _ _ _ _) rfl (fun w hw => check_any (names.length : Int) x (.slice ad x.set.length cap) w (by omega) (hv.ext hw.ext))) rfl rfl (by decide) ?_
    refine H.q (yl_assign rfl) rfl rfl (by decide) ?_
    refine HN.done ?_
    refine HN.keep [(1, _), (2, _), (7, _)] ⟨rfl, rfl, rfl, trivial⟩ ?_
    refine HN.then ?_
    refine H.seq ?_
    refine H.region ?_
    refine H.q (yl_move rfl) rfl rfl (by decide) ?_
    refine H.q (yl_neq rfl rfl) rfl rfl (by decide) ?_
    refine HN.done ?_
    refine HN.keep [(1, _), (2, _), (7, _), (34, _)] ⟨rfl, rfl, rfl, rfl, trivial⟩ ?_
    refine HN.then ?_
    refine H.cond _ rfl (fun t1 => ?_) (fun t1 => ?_)
    · simp only [ne_eq, decide_not, Bool.not_eq_true', decide_eq_false_iff_not] at t1
      refine H.keep [(7, _)] ⟨rfl, trivial⟩ ?_
      refine H.seq ?_
      refine H.region ?_
      refine H.q (yl_move rfl) rfl rfl (by decide) ?_
      refine H.q (yl_assign rfl) rfl rfl (by decide) ?_
      refine H.q (yl_assign rfl) rfl rfl (by decide) ?_
      refine HN.done ?_
      refine HN.keep [(4, _), (5, _)] ⟨rfl, rfl, trivial⟩ ?_
      refine HN.then ?_
      refine HR.ret ?_
      refine HR.then ?_
      refine HR.ret2 _ _ Tryz.results12 rfl rfl (fun w hw => ?_)
      exact ⟨by rw [writeE_chk t0 t1], hw.ext⟩
    · simp only [ne_eq, decide_not, Bool.not_eq_false', decide_eq_true_eq] at t1
      obtain ⟨ha0, ha1, hb0, hb1⟩ := chk_in t1
      have hk := (chk_zero t1).2.2.1
      obtain ⟨hsk, hsm, hset, _, _⟩ := numE_zero (chk_zero t1).2.2.2.2.1
      have hla : x.a.toNat < names.length := by omega
      have hlb : x.b.toNat < names.length := by omega
      have hga : names.getD x.a.toNat [] = names[x.a.toNat] := by simp [List.getD, hla]
      have hgb : names.getD x.b.toNat [] = names[x.b.toNat] := by simp [List.getD, hlb]
      have hA := hns _ (List.getElem_mem hla)
      have hB := hns _ (List.getElem_mem hlb)
      have hK := itoa_len (small_wide hsk)
      have hM := itoa_len (small_wide hsm)
      have hall : ∀ y ∈ x.set, smallB y = true := by simpa [allSmallB] using hset
      have hnum : ∀ k, (numsT (x.set.take k)).length ≤ 22000 := fun k => by
        have h1 := numsT_len (l := x.set.take k) fun y hy => small_wide (hall y (List.mem_of_mem_take hy))
        have h2 : (x.set.take k).length ≤ 1000 := by rw [List.length_take]; omega
        omega
      rw [writeE_ok t0 t1, hga, hgb]
      refine H.keep [(1, _), (2, _)] ⟨rfl, rfl, trivial⟩ ?_
      refine HN.skip ?_
      refine HN.then ?_
      refine H.seq ?_
      refine H.region ?_
      refine H.q (yl_assign rfl) rfl rfl (by decide) ?_
      refine HN.done ?_
      refine HN.keep [(1, _), (2, _), (8, _)] ⟨rfl, rfl, rfl, trivial⟩ ?_
      refine HN.then ?_
      refine H.seq ?_
      refine H.regionQ Tryz.mixed (by kernel_rfl) (stab_hp _ _ _ _) ?_
      refine G.q (yl_move rfl) rfl rfl (by decide) ?_
      refine G.q (yl_fieldAddr _ fa25_1 rfl) rfl rfl (by decide) ?_
      refine G.q (yl_load Tryz.isAgg3 rfl (fun w hw => hw.cell 0 rfl rfl)) rfl rfl (by decide) ?_
      refine G.q (yl_ix x.a.toNat Tryz.underlying26 Tryz.sizeOf9 (hs1 x.a.toNat hla).1 rfl rfl (by omega) hla) rfl rfl (by decide) ?_
      refine G.q (yl_load Tryz.isAgg9 rfl (fun w hw => cell_ext hw.ext (hs1 x.a.toNat hla).2)) rfl rfl (by decide) ?_
      refine G.q (yl_move rfl) rfl rfl (by decide) ?_
      refine G.q (yl_fieldAddr _ fa25_2 rfl) rfl rfl (by decide) ?_
      refine G.q (yl_load Tryz.isAgg3 rfl (fun w hw => hw.cell 0 rfl rfl)) rfl rfl (by decide) ?_
      refine G.q (yl_ix x.b.toNat Tryz.underlying26 Tryz.sizeOf9 (hs1 x.b.toNat hlb).1 rfl rfl (by omega) hlb) rfl rfl (by decide) ?_
      refine G.q (yl_load Tryz.isAgg9 rfl (fun w hw => cell_ext hw.ext (hs1 x.b.toNat hlb).2)) rfl rfl (by decide) ?_
      refine G.q (yl_assign rfl) rfl rfl (by decide) ?_
      refine G.q (yl_assign rfl) rfl rfl (by decide) ?_
      refine HN.doneG ?_
      refine HN.keep [(2, _), (8, _), (9, _), (10, _)] ⟨rfl, rfl, rfl, rfl, trivial⟩ ?_
      refine HN.then ?_
      refine H.seq ?_
      refine H.seq ?_
      refine H.region ?_
      refine H.q (yl_loadAgg _ Tryz.isAgg25 Tryz.sizeOf25 rfl (fun w hw => cells_of_blk (hw.blk 0 rfl)) rfl) rfl rfl (by decide) ?_
      refine H.q (yl_call (xs := [.tmp 46]) Tryz.call39 (stab_hp _ _ _ _) rfl (fun w hw => claimOf_some x ad x.set.length cap w hk)) rfl rfl (by decide) ?_
      refine HN.done ?_
      refine HN.keep [(2, _), (8, _), (9, _), (10, _), (47, _)] ⟨rfl, rfl, rfl, rfl, rfl, trivial⟩ ?_
      refine HN.then ?_
      refine H.block ?_
      refine H.seq ?_
      refine H.region ?_
      refine H.q (yl_typeAssert Tryz.underlying71 rfl Tryz.zeroValue71 rfl) rfl rfl (by decide) ?_
      refine H.q (yl_extract _ rfl rfl) rfl rfl (by decide) ?_
      refine H.q (yl_extract _ rfl rfl) rfl rfl (by decide) ?_
      refine HN.done ?_
      refine HN.keep [(2, _), (8, _), (9, _), (10, _), (47, _), (49, _), (50, _)] ⟨rfl, rfl, rfl, rfl, rfl, rfl, rfl, trivial⟩ ?_
      refine HN.then ?_
      refine H.cond _ rfl (fun t2 => ?_) (fun t2 => ?_)
      · simp only [decide_eq_true_eq] at t2
        have hkd : x.kind = 1 := claimT_71 t2
        refine H.keep [(2, _), (8, _), (9, _), (10, _), (50, .agg [.int .i64 x.k].toArray)] ⟨rfl, rfl, rfl, rfl, congrArg some ((if_pos t2).trans (by simp [claimA, hkd])), trivial⟩ ?_
        refine H.keep [(8, _), (9, _), (50, _)] ⟨rfl, rfl, rfl, trivial⟩ ?_
        refine H.seq ?_
        refine H.region ?_
        refine H.allocA Tryz.zeroValue71 (by decide) (fun b11 hb11 => ?_)
        refine H.storeA 0 rfl rfl rfl Tryz.sizeOf71 rfl rfl ?_
        refine HN.done ?_
        refine HN.keep [(8, _), (9, _), (11, _)] ⟨rfl, rfl, rfl, trivial⟩ ?_
        refine HN.then ?_
        refine H.seq ?_
        refine H.region ?_
        refine H.q (yl_move rfl) rfl rfl (by decide) ?_
        refine H.q (yl_catL rfl rfl (by simp only [List.length_cons, List.length_nil]; omega)) rfl rfl (by decide) ?_
        refine H.q (yl_move rfl) rfl rfl (by decide) ?_
        refine H.q (yl_fieldAddr _ fa71_0 rfl) rfl rfl (by decide) ?_
        refine H.q (yl_load Tryz.isAgg2 rfl (fun w hw => hw.cell 0 rfl rfl)) rfl rfl (by decide) ?_
        refine H.q (yl_callv (xs := [.tmp 55]) Tryz.call37 (stab_hp _ _ _ _) rfl rfl (fun w hw => write1_v x.k w hsk (hvars.ext hw.ext))) rfl rfl (by decide) ?_
        refine H.q (yl_catL rfl rfl (by simp only [List.length_append, List.length_cons, List.length_nil]; omega)) rfl rfl (by decide) ?_
        refine H.q (yl_assign rfl) rfl rfl (by decide) ?_
        refine H.q (yl_assign rfl) rfl rfl (by decide) ?_
        refine HN.done ?_
        refine HN.keep [(4, _), (5, _)] ⟨rfl, rfl, trivial⟩ ?_
        refine HN.then ?_
        refine HR.ret ?_
        refine HR.block ?_
        refine HR.then ?_
        refine HR.ret2 _ _ Tryz.results12 rfl rfl (fun w hw => ?_)
        exact ⟨by simp [textE, hkd], hw.ext⟩
      · simp only [decide_eq_false_iff_not] at t2
        refine H.keep [(2, _), (8, _), (9, _), (10, _), (47, _)] ⟨rfl, rfl, rfl, rfl, rfl, trivial⟩ ?_
        refine H.seq ?_
        refine H.region ?_
        refine H.q (yl_typeAssert Tryz.underlying73 rfl Tryz.zeroValue73 rfl) rfl rfl (by decide) ?_
        refine H.q (yl_extract _ rfl rfl) rfl rfl (by decide) ?_
        refine H.q (yl_extract _ rfl rfl) rfl rfl (by decide) ?_
        refine HN.done ?_
        refine HN.keep [(2, _), (8, _), (9, _), (10, _), (47, _), (59, _), (60, _)] ⟨rfl, rfl, rfl, rfl, rfl, rfl, rfl, trivial⟩ ?_
        refine HN.then ?_
        refine H.cond _ rfl (fun t3 => ?_) (fun t3 => ?_)
        · simp only [decide_eq_true_eq] at t3
          have hkd : x.kind = 2 := claimT_73 t3
          refine H.keep [(2, _), (8, _), (9, _), (10, _), (60, .agg [.slice ad x.set.length cap].toArray)] ⟨rfl, rfl, rfl, rfl, congrArg some ((if_pos t3).trans (by simp [claimA, hkd])), trivial⟩ ?_
          refine H.keep [(8, _), (9, _), (60, _)] ⟨rfl, rfl, rfl, trivial⟩ ?_
          refine H.seq ?_
          refine H.region ?_
          refine H.allocA Tryz.zeroValue73 (by decide) (fun b12 hb12 => ?_)
          refine H.storeA 0 rfl rfl rfl Tryz.sizeOf73 rfl rfl ?_
          refine HN.done ?_
          refine HN.keep [(8, _), (9, _), (12, _)] ⟨rfl, rfl, rfl, trivial⟩ ?_
          refine HN.then ?_
          refine H.seq ?_
          refine H.region ?_
          refine H.q (yl_move rfl) rfl rfl (by decide) ?_
          refine H.q (yl_catL rfl rfl (by simp only [List.length_cons, List.length_nil]; omega)) rfl rfl (by decide) ?_
          refine H.q (yl_assign rfl) rfl rfl (by decide) ?_
          refine HN.done ?_
          refine HN.keep [(8, _), (12, _), (13, _)] ⟨rfl, rfl, rfl, trivial⟩ ?_
          refine HN.then ?_
          refine H.seq ?_
          refine H.seq ?_
          refine H.region ?_
          refine H.q (yl_fieldAddr _ fa73_0 rfl) rfl rfl (by decide) ?_
          refine H.q (yl_load Tryz.isAgg23 rfl (fun w hw => hw.cell 0 rfl rfl)) rfl rfl (by decide) ?_
          refine H.q (yl_len rfl Tryz.underlying23 rfl) rfl rfl (by decide) ?_
          refine H.q (yl_move rfl) rfl rfl (by decide) ?_
          refine HN.done ?_
          refine HN.keep [(8, _), (13, _), (64, _), (65, _), (66, _)] ⟨rfl, rfl, rfl, rfl, rfl, trivial⟩ ?_
          refine HN.then ?_
          refine H.block ?_
          refine H.loop (fun k : Nat => [(8, .func (.func 37) #[] #[]), (13, strV (names[x.a.toNat] ++ [32, 105, 110] ++ numsT (x.set.take k))), (64, .slice ad x.set.length cap), (65, .int .i64 (x.set.length : Int)), (66, .int .i64 (k : Int))]) (fun k => k ≤ x.set.length) (fun _ => Hp w0 [] [] []) (fun k => x.set.length - k) 0 (Nat.zero_le _) ⟨rfl, by show some (strV _) = some (strV _); simp [numsT], rfl, rfl, rfl, trivial⟩ (fun w hw => hw.drop.drop) (fun k hk0 => ?_)
          have hnk := hnum k
          refine H.seq ?_
          refine H.region ?_
          refine H.q (yl_lss rfl rfl) rfl rfl (by decide) ?_
          refine HN.done ?_
          refine HN.keep [(8, _), (13, _), (64, _), (65, _), (66, _), (67, _)] ⟨rfl, rfl, rfl, rfl, rfl, rfl, trivial⟩ ?_
          refine HN.then ?_
          refine H.seq ?_
          refine H.cond _ rfl (fun t4 => ?_) (fun t4 => ?_)
          · simp only [decide_eq_true_eq] at t4; have hj : k < x.set.length := by omega
            have hgd : x.set.getD k 0 = x.set[k] := by simp [List.getD, hj]
            have hy := itoa_len (small_wide (hall _ (List.getElem_mem hj)))
            refine H.keep [(8, _), (13, _), (64, _), (65, _), (66, _)] ⟨rfl, rfl, rfl, rfl, rfl, trivial⟩ ?_
            refine HN.skip ?_
            refine HN.then ?_
            refine H.seq ?_
            refine H.block ?_
            refine H.seq ?_
            refine H.region ?_
            refine H.q (yl_ix k Tryz.underlying23 Tryz.sizeOf2 (hs k hj).1 rfl rfl rfl hj) rfl rfl (by decide) ?_
            refine H.q (yl_load (v := .int .i64 x.set[k]) Tryz.isAgg2 rfl (fun w hw => by rw [← hgd]; exact cell_ext hw.ext (hs k hj).2)) rfl rfl (by decide) ?_
            refine H.q (yl_assign rfl) rfl rfl (by decide) ?_
            refine HN.done ?_
            refine HN.keep [(8, _), (13, _), (15, _), (64, _), (65, _), (66, _)] ⟨rfl, rfl, rfl, rfl, rfl, rfl, trivial⟩ ?_
            refine HN.then ?_
            refine H.region ?_
            refine H.q (yl_move rfl) rfl rfl (by decide) ?_
            refine H.q (yl_move rfl) rfl rfl (by decide) ?_
            refine H.q (yl_move rfl) rfl rfl (by decide) ?_
            refine H.q (yl_callv (xs := [.tmp 72]) Tryz.call37 (stab_hp _ _ _ _) rfl rfl (fun w hw => write1_v x.set[k] w (hall _ (List.getElem_mem hj)) (hvars.ext hw.ext))) rfl rfl (by decide) ?_
            refine H.q (yl_catL (l1 := [32]) rfl rfl (by simp only [List.length_cons, List.length_nil]; omega)) rfl rfl (by decide) ?_
            refine H.q (yl_catL rfl rfl (by simp only [List.length_append, List.length_cons, List.length_nil]; omega)) rfl rfl (by decide) ?_
            refine H.q (yl_assign rfl) rfl rfl (by decide) ?_
            refine HN.done ?_
            refine HN.keep [(8, _), (13, _), (64, _), (65, _), (66, _)] ⟨rfl, rfl, rfl, rfl, rfl, trivial⟩ ?_
            refine HN.block ?_
            refine HN.then ?_
            refine H.region ?_
            refine H.q (yl_add rfl rfl _ rfl (by omega)) rfl rfl (by decide) ?_
            refine H.q (yl_move rfl) rfl rfl (by decide) ?_
            refine HN.done ?_
            refine HN.keep [(8, _), (13, _), (64, _), (65, _), (66, _)] ⟨rfl, rfl, rfl, rfl, rfl, trivial⟩ ?_
            refine HN.then ?_
            refine H.at (k + 1) ⟨by omega, by omega⟩ ⟨rfl, ?_, rfl, rfl, rfl, trivial⟩ (fun w hw => hw)
            rw [take_len hj, numsT_snoc]
            show some (strV _) = some (strV _)
            simp
          · simp only [decide_eq_false_iff_not] at t4; obtain rfl : k = x.set.length := by omega
            rw [List.take_length]
            refine H.keep [(13, _)] ⟨rfl, trivial⟩ ?_
            refine HX.exit ?_
            refine HX.then ?_
            refine HX.then ?_
            refine HX.hit ?_
            refine HN.then ?_
            refine H.seq ?_
            refine H.region ?_
            refine H.q (yl_move rfl) rfl rfl (by decide) ?_
            refine H.q (yl_assign rfl) rfl rfl (by decide) ?_
            refine H.q (yl_assign rfl) rfl rfl (by decide) ?_
            refine HN.done ?_
            refine HN.keep [(4, _), (5, _)] ⟨rfl, rfl, trivial⟩ ?_
            refine HN.then ?_
            refine HR.ret ?_
            refine HR.block ?_
            refine HR.then ?_
            refine HR.ret2 _ _ Tryz.results12 rfl rfl (fun w hw => ?_)
            exact ⟨by simp [textE, hkd], hw.ext⟩
        · simp only [decide_eq_false_iff_not] at t3
          refine H.keep [(2, _), (8, _), (9, _), (10, _), (47, _)] ⟨rfl, rfl, rfl, rfl, rfl, trivial⟩ ?_
          refine H.seq ?_
          refine H.region ?_
          refine H.q (yl_typeAssert Tryz.underlying74 rfl Tryz.zeroValue74 rfl) rfl rfl (by decide) ?_
          refine H.q (yl_extract _ rfl rfl) rfl rfl (by decide) ?_
          refine H.q (yl_extract _ rfl rfl) rfl rfl (by decide) ?_
          refine HN.done ?_
          refine HN.keep [(2, _), (8, _), (9, _), (10, _), (47, _), (79, _), (80, _)] ⟨rfl, rfl, rfl, rfl, rfl, rfl, rfl, trivial⟩ ?_
          refine HN.then ?_
          refine H.cond _ rfl (fun t5 => ?_) (fun t5 => ?_)
          · simp only [decide_eq_true_eq] at t5
            have hkd : x.kind = 3 := claimT_74 t5
            refine H.keep [(2, _), (8, _), (9, _), (10, _), (80, .agg [.int .i64 x.k].toArray)] ⟨rfl, rfl, rfl, rfl, congrArg some ((if_pos t5).trans (by simp [claimA, hkd])), trivial⟩ ?_
            refine H.keep [(8, _), (9, _), (80, _)] ⟨rfl, rfl, rfl, trivial⟩ ?_
            refine H.seq ?_
            refine H.region ?_
            refine H.allocA Tryz.zeroValue74 (by decide) (fun b16 hb16 => ?_)
            refine H.storeA 0 rfl rfl rfl Tryz.sizeOf74 rfl rfl ?_
            refine HN.done ?_
            refine HN.keep [(8, _), (9, _), (16, _)] ⟨rfl, rfl, rfl, trivial⟩ ?_
            refine HN.then ?_
            refine H.seq ?_
            refine H.region ?_
            refine H.q (yl_move rfl) rfl rfl (by decide) ?_
            refine H.q (yl_catL rfl rfl (by simp only [List.length_cons, List.length_nil]; omega)) rfl rfl (by decide) ?_
            refine H.q (yl_move rfl) rfl rfl (by decide) ?_
            refine H.q (yl_fieldAddr _ fa74_0 rfl) rfl rfl (by decide) ?_
            refine H.q (yl_load Tryz.isAgg2 rfl (fun w hw => hw.cell 0 rfl rfl)) rfl rfl (by decide) ?_
            refine H.q (yl_callv (xs := [.tmp 85]) Tryz.call37 (stab_hp _ _ _ _) rfl rfl (fun w hw => write1_v x.k w hsk (hvars.ext hw.ext))) rfl rfl (by decide) ?_
            refine H.q (yl_catL rfl rfl (by simp only [List.length_append, List.length_cons, List.length_nil]; omega)) rfl rfl (by decide) ?_
            refine H.q (yl_assign rfl) rfl rfl (by decide) ?_
            refine H.q (yl_assign rfl) rfl rfl (by decide) ?_
            refine HN.done ?_
            refine HN.keep [(4, _), (5, _)] ⟨rfl, rfl, trivial⟩ ?_
            refine HN.then ?_
            refine HR.ret ?_
            refine HR.block ?_
            refine HR.then ?_
            refine HR.ret2 _ _ Tryz.results12 rfl rfl (fun w hw => ?_)
            exact ⟨by simp [textE, hkd], hw.ext⟩
          · simp only [decide_eq_false_iff_not] at t5
            refine H.keep [(2, _), (8, _), (9, _), (10, _), (47, _)] ⟨rfl, rfl, rfl, rfl, rfl, trivial⟩ ?_
            refine H.seq ?_
            refine H.region ?_
            refine H.q (yl_typeAssert Tryz.underlying75 rfl Tryz.zeroValue75 rfl) rfl rfl (by decide) ?_
            refine H.q (yl_extract _ rfl rfl) rfl rfl (by decide) ?_
            refine H.q (yl_extract _ rfl rfl) rfl rfl (by decide) ?_
            refine HN.done ?_
            refine HN.keep [(2, _), (8, _), (9, _), (10, _), (47, _), (89, _), (90, _)] ⟨rfl, rfl, rfl, rfl, rfl, rfl, rfl, trivial⟩ ?_
            refine HN.then ?_
            refine H.cond _ rfl (fun t6 => ?_) (fun t6 => ?_)
            · simp only [decide_eq_true_eq] at t6
              have hkd : x.kind = 4 := claimT_75 t6
              refine H.keep [(2, _), (8, _), (9, _), (10, _), (90, .agg [.int .i64 x.k].toArray)] ⟨rfl, rfl, rfl, rfl, congrArg some ((if_pos t6).trans (by simp [claimA, hkd])), trivial⟩ ?_
              refine H.keep [(8, _), (9, _), (90, _)] ⟨rfl, rfl, rfl, trivial⟩ ?_
              refine H.seq ?_
              refine H.region ?_
              refine H.allocA Tryz.zeroValue75 (by decide) (fun b17 hb17 => ?_)
              refine H.storeA 0 rfl rfl rfl Tryz.sizeOf75 rfl rfl ?_
              refine HN.done ?_
              refine HN.keep [(8, _), (9, _), (17, _)] ⟨rfl, rfl, rfl, trivial⟩ ?_
              refine HN.then ?_
              refine H.seq ?_
              refine H.region ?_
              refine H.q (yl_move rfl) rfl rfl (by decide) ?_
              refine H.q (yl_catL rfl rfl (by simp only [List.length_cons, List.length_nil]; omega)) rfl rfl (by decide) ?_
              refine H.q (yl_move rfl) rfl rfl (by decide) ?_
              refine H.q (yl_fieldAddr _ fa75_0 rfl) rfl rfl (by decide) ?_
              refine H.q (yl_load Tryz.isAgg2 rfl (fun w hw => hw.cell 0 rfl rfl)) rfl rfl (by decide) ?_
              refine H.q (yl_callv (xs := [.tmp 95]) Tryz.call37 (stab_hp _ _ _ _) rfl rfl (fun w hw => write1_v x.k w hsk (hvars.ext hw.ext))) rfl rfl (by decide) ?_
              refine H.q (yl_catL rfl rfl (by simp only [List.length_append, List.length_cons, List.length_nil]; omega)) rfl rfl (by decide) ?_
              refine H.q (yl_assign rfl) rfl rfl (by decide) ?_
              refine H.q (yl_assign rfl) rfl rfl (by decide) ?_
              refine HN.done ?_
              refine HN.keep [(4, _), (5, _)] ⟨rfl, rfl, trivial⟩ ?_
              refine HN.then ?_
              refine HR.ret ?_
              refine HR.block ?_
              refine HR.then ?_
              refine HR.ret2 _ _ Tryz.results12 rfl rfl (fun w hw => ?_)
              exact ⟨by simp [textE, hkd], hw.ext⟩
            · simp only [decide_eq_false_iff_not] at t6
              refine H.keep [(2, _), (8, _), (9, _), (10, _), (47, _)] ⟨rfl, rfl, rfl, rfl, rfl, trivial⟩ ?_
              refine H.seq ?_
              refine H.region ?_
              refine H.q (yl_typeAssert Tryz.underlying77 rfl Tryz.zeroValue77 rfl) rfl rfl (by decide) ?_
              refine H.q (yl_extract _ rfl rfl) rfl rfl (by decide) ?_
              refine H.q (yl_extract _ rfl rfl) rfl rfl (by decide) ?_
              refine HN.done ?_
              refine HN.keep [(2, _), (8, _), (9, _), (10, _), (47, _), (99, _), (100, _)] ⟨rfl, rfl, rfl, rfl, rfl, rfl, rfl, trivial⟩ ?_
              refine HN.then ?_
              refine H.cond _ rfl (fun t7 => ?_) (fun t7 => ?_)
              · simp only [decide_eq_true_eq] at t7
                have hkd : x.kind = 5 := claimT_77 t7
                refine H.keep [(2, _), (8, _), (9, _), (10, _), (100, .agg [].toArray)] ⟨rfl, rfl, rfl, rfl, congrArg some ((if_pos t7).trans (by simp [claimA, hkd])), trivial⟩ ?_
                refine H.keep [(9, _), (100, _)] ⟨rfl, rfl, trivial⟩ ?_
                refine H.seq ?_
                refine H.region ?_
                refine H.allocA Tryz.zeroValue77 (by decide) (fun b18 hb18 => ?_)
                refine H.storeA 0 rfl rfl rfl Tryz.sizeOf77 rfl rfl ?_
                refine HN.done ?_
                refine HN.keep [(9, _)] ⟨rfl, trivial⟩ ?_
                refine HN.then ?_
                refine H.seq ?_
                refine H.region ?_
                refine H.q (yl_move rfl) rfl rfl (by decide) ?_
                refine H.q (yl_catL rfl rfl (by simp only [List.length_cons, List.length_nil]; omega)) rfl rfl (by decide) ?_
                refine H.q (yl_assign rfl) rfl rfl (by decide) ?_
                refine H.q (yl_assign rfl) rfl rfl (by decide) ?_
                refine HN.done ?_
                refine HN.keep [(4, _), (5, _)] ⟨rfl, rfl, trivial⟩ ?_
                refine HN.then ?_
                refine HR.ret ?_
                refine HR.block ?_
                refine HR.then ?_
                refine HR.ret2 _ _ Tryz.results12 rfl rfl (fun w hw => ?_)
                exact ⟨by simp [textE, hkd], hw.ext⟩
              · simp only [decide_eq_false_iff_not] at t7
                refine H.keep [(2, _), (8, _), (9, _), (10, _), (47, _)] ⟨rfl, rfl, rfl, rfl, rfl, trivial⟩ ?_
                refine H.seq ?_
                refine H.region ?_
                refine H.q (yl_typeAssert Tryz.underlying79 rfl Tryz.zeroValue79 rfl) rfl rfl (by decide) ?_
                refine H.q (yl_extract _ rfl rfl) rfl rfl (by decide) ?_
                refine H.q (yl_extract _ rfl rfl) rfl rfl (by decide) ?_
                refine HN.done ?_
                refine HN.keep [(2, _), (8, _), (9, _), (10, _), (47, _), (104, _), (105, _)] ⟨rfl, rfl, rfl, rfl, rfl, rfl, rfl, trivial⟩ ?_
                refine HN.then ?_
                refine H.cond _ rfl (fun t8 => ?_) (fun t8 => ?_)
                · simp only [decide_eq_true_eq] at t8
                  have hkd : x.kind = 6 := claimT_79 t8
                  refine H.keep [(2, _), (8, _), (9, _), (10, _), (105, .agg [.int .i64 x.k, .int .i64 x.m].toArray)] ⟨rfl, rfl, rfl, rfl, congrArg some ((if_pos t8).trans (by simp [claimA, hkd])), trivial⟩ ?_
                  refine H.keep [(8, _), (9, _), (105, _)] ⟨rfl, rfl, rfl, trivial⟩ ?_
                  refine H.seq ?_
                  refine H.region ?_
                  refine H.allocA Tryz.zeroValue79 (by decide) (fun b19 hb19 => ?_)
                  refine H.storeA 0 rfl rfl rfl Tryz.sizeOf79 rfl rfl ?_
                  refine HN.done ?_
                  refine HN.keep [(8, _), (9, _), (19, _)] ⟨rfl, rfl, rfl, trivial⟩ ?_
                  refine HN.then ?_
                  refine H.seq ?_
                  refine H.regionQ Tryz.mixed (by kernel_rfl) (stab_hp _ _ _ _) ?_
                  refine G.q (yl_move rfl) rfl rfl (by decide) ?_
                  refine G.q (yl_catL rfl rfl (by simp only [List.length_cons, List.length_nil]; omega)) rfl rfl (by decide) ?_
                  refine G.q (yl_move rfl) rfl rfl (by decide) ?_
                  refine G.q (yl_fieldAddr _ fa79_1 rfl) rfl rfl (by decide) ?_
                  refine G.q (yl_load Tryz.isAgg2 rfl (fun w hw => hw.cell 0 rfl rfl)) rfl rfl (by decide) ?_
                  refine G.q (yl_callv (xs := [.tmp 110]) Tryz.call37 (stab_hp _ _ _ _) rfl rfl (fun w hw => write1_v x.m w hsm (hvars.ext hw.ext))) rfl rfl (by decide) ?_
                  refine G.q (yl_catL rfl rfl (by simp only [List.length_append, List.length_cons, List.length_nil]; omega)) rfl rfl (by decide) ?_
                  refine G.q (yl_catL rfl rfl (by simp only [List.length_append, List.length_cons, List.length_nil]; omega)) rfl rfl (by decide) ?_
                  refine G.q (yl_move rfl) rfl rfl (by decide) ?_
                  refine G.q (yl_fieldAddr _ fa79_0 rfl) rfl rfl (by decide) ?_
                  refine G.q (yl_load Tryz.isAgg2 rfl (fun w hw => hw.cell 0 rfl rfl)) rfl rfl (by decide) ?_
                  refine G.q (yl_callv (xs := [.tmp 116]) Tryz.call37 (stab_hp _ _ _ _) rfl rfl (fun w hw => write1_v x.k w hsk (hvars.ext hw.ext))) rfl rfl (by decide) ?_
                  refine G.q (yl_catL rfl rfl (by simp only [List.length_append, List.length_cons, List.length_nil]; omega)) rfl rfl (by decide) ?_
                  refine G.q (yl_assign rfl) rfl rfl (by decide) ?_
                  refine G.q (yl_assign rfl) rfl rfl (by decide) ?_
                  refine HN.doneG ?_
                  refine HN.keep [(4, _), (5, _)] ⟨rfl, rfl, trivial⟩ ?_
                  refine HN.then ?_
                  refine HR.ret ?_
                  refine HR.block ?_
                  refine HR.then ?_
                  refine HR.ret2 _ _ Tryz.results12 rfl rfl (fun w hw => ?_)
                  exact ⟨by simp [textE, hkd], hw.ext⟩
                · simp only [decide_eq_false_iff_not] at t8
                  refine H.keep [(2, _), (8, _), (9, _), (10, _), (47, _)] ⟨rfl, rfl, rfl, rfl, rfl, trivial⟩ ?_
                  refine H.seq ?_
                  refine H.region ?_
                  refine H.q (yl_typeAssert Tryz.underlying80 rfl Tryz.zeroValue80 rfl) rfl rfl (by decide) ?_
                  refine H.q (yl_extract _ rfl rfl) rfl rfl (by decide) ?_
                  refine H.q (yl_extract _ rfl rfl) rfl rfl (by decide) ?_
                  refine HN.done ?_
                  refine HN.keep [(2, _), (8, _), (9, _), (10, _), (47, _), (120, _), (121, _)] ⟨rfl, rfl, rfl, rfl, rfl, rfl, rfl, trivial⟩ ?_
                  refine HN.then ?_
                  refine H.cond _ rfl (fun t9 => ?_) (fun t9 => ?_)
                  · simp only [decide_eq_true_eq] at t9
                    have hkd : x.kind = 7 := claimT_80 t9
                    refine H.keep [(2, _), (8, _), (9, _), (10, _), (121, .agg [].toArray)] ⟨rfl, rfl, rfl, rfl, congrArg some ((if_pos t9).trans (by simp [claimA, hkd])), trivial⟩ ?_
                    refine H.keep [(9, _), (10, _), (121, _)] ⟨rfl, rfl, rfl, trivial⟩ ?_
                    refine H.seq ?_
                    refine H.region ?_
                    refine H.allocA Tryz.zeroValue80 (by decide) (fun b20 hb20 => ?_)
                    refine H.storeA 0 rfl rfl rfl Tryz.sizeOf80 rfl rfl ?_
                    refine HN.done ?_
                    refine HN.keep [(9, _), (10, _)] ⟨rfl, rfl, trivial⟩ ?_
                    refine HN.then ?_
                    refine H.seq ?_
                    refine H.region ?_
                    refine H.q (yl_move rfl) rfl rfl (by decide) ?_
                    refine H.q (yl_catL rfl rfl (by simp only [List.length_cons, List.length_nil]; omega)) rfl rfl (by decide) ?_
                    refine H.q (yl_move rfl) rfl rfl (by decide) ?_
                    refine H.q (yl_catL rfl rfl (by simp only [List.length_append, List.length_cons, List.length_nil]; omega)) rfl rfl (by decide) ?_
                    refine H.q (yl_assign rfl) rfl rfl (by decide) ?_
                    refine H.q (yl_assign rfl) rfl rfl (by decide) ?_
                    refine HN.done ?_
                    refine HN.keep [(4, _), (5, _)] ⟨rfl, rfl, trivial⟩ ?_
                    refine HN.then ?_
                    refine HR.ret ?_
                    refine HR.block ?_
                    refine HR.then ?_
                    refine HR.ret2 _ _ Tryz.results12 rfl rfl (fun w hw => ?_)
                    exact ⟨by simp [textE, hkd], hw.ext⟩
                  · simp only [decide_eq_false_iff_not] at t9
                    refine H.keep [(2, _), (8, _), (9, _), (10, _), (47, _)] ⟨rfl, rfl, rfl, rfl, rfl, trivial⟩ ?_
                    refine H.seq ?_
                    refine H.region ?_
                    refine H.q (yl_typeAssert Tryz.underlying81 rfl Tryz.zeroValue81 rfl) rfl rfl (by decide) ?_
                    refine H.q (yl_extract _ rfl rfl) rfl rfl (by decide) ?_
                    refine H.q (yl_extract _ rfl rfl) rfl rfl (by decide) ?_
                    refine HN.done ?_
                    refine HN.keep [(2, _), (8, _), (9, _), (10, _), (47, _), (127, _), (128, _)] ⟨rfl, rfl, rfl, rfl, rfl, rfl, rfl, trivial⟩ ?_
                    refine HN.then ?_
                    refine H.cond _ rfl (fun t10 => ?_) (fun t10 => ?_)
                    · simp only [decide_eq_true_eq] at t10
                      have hkd : x.kind = 8 := claimT_81 t10
                      refine H.keep [(2, _), (8, _), (9, _), (10, _), (128, .agg [].toArray)] ⟨rfl, rfl, rfl, rfl, congrArg some ((if_pos t10).trans (by simp [claimA, hkd])), trivial⟩ ?_
                      refine H.keep [(9, _), (10, _), (128, _)] ⟨rfl, rfl, rfl, trivial⟩ ?_
                      refine H.seq ?_
                      refine H.region ?_
                      refine H.allocA Tryz.zeroValue81 (by decide) (fun b21 hb21 => ?_)
                      refine H.storeA 0 rfl rfl rfl Tryz.sizeOf81 rfl rfl ?_
                      refine HN.done ?_
                      refine HN.keep [(9, _), (10, _)] ⟨rfl, rfl, trivial⟩ ?_
                      refine HN.then ?_
                      refine H.seq ?_
                      refine H.region ?_
                      refine H.q (yl_move rfl) rfl rfl (by decide) ?_
                      refine H.q (yl_catL rfl rfl (by simp only [List.length_cons, List.length_nil]; omega)) rfl rfl (by decide) ?_
                      refine H.q (yl_move rfl) rfl rfl (by decide) ?_
                      refine H.q (yl_catL rfl rfl (by simp only [List.length_append, List.length_cons, List.length_nil]; omega)) rfl rfl (by decide) ?_
                      refine H.q (yl_assign rfl) rfl rfl (by decide) ?_
                      refine H.q (yl_assign rfl) rfl rfl (by decide) ?_
                      refine HN.done ?_
                      refine HN.keep [(4, _), (5, _)] ⟨rfl, rfl, trivial⟩ ?_
                      refine HN.then ?_
                      refine HR.ret ?_
                      refine HR.block ?_
                      refine HR.then ?_
                      refine HR.ret2 _ _ Tryz.results12 rfl rfl (fun w hw => ?_)
                      exact ⟨by simp [textE, hkd], hw.ext⟩
                    · simp only [decide_eq_false_iff_not] at t10
                      refine H.keep [(2, _), (8, _), (9, _), (10, _), (47, _)] ⟨rfl, rfl, rfl, rfl, rfl, trivial⟩ ?_
                      refine H.seq ?_
                      refine H.region ?_
                      refine H.q (yl_typeAssert Tryz.underlying82 rfl Tryz.zeroValue82 rfl) rfl rfl (by decide) ?_
                      refine H.q (yl_extract _ rfl rfl) rfl rfl (by decide) ?_
                      refine H.q (yl_extract _ rfl rfl) rfl rfl (by decide) ?_
                      refine HN.done ?_
                      refine HN.keep [(2, _), (8, _), (9, _), (10, _), (47, _), (134, _), (135, _)] ⟨rfl, rfl, rfl, rfl, rfl, rfl, rfl, trivial⟩ ?_
                      refine HN.then ?_
                      refine H.cond _ rfl (fun t11 => ?_) (fun t11 => ?_)
                      · simp only [decide_eq_true_eq] at t11
                        have hkd : x.kind = 9 := claimT_82 t11
                        refine H.keep [(2, _), (8, _), (9, _), (10, _), (135, .agg [].toArray)] ⟨rfl, rfl, rfl, rfl, congrArg some ((if_pos t11).trans (by simp [claimA, hkd])), trivial⟩ ?_
                        refine H.keep [(9, _), (10, _), (135, _)] ⟨rfl, rfl, rfl, trivial⟩ ?_
                        refine H.seq ?_
                        refine H.region ?_
                        refine H.allocA Tryz.zeroValue82 (by decide) (fun b22 hb22 => ?_)
                        refine H.storeA 0 rfl rfl rfl Tryz.sizeOf82 rfl rfl ?_
                        refine HN.done ?_
                        refine HN.keep [(9, _), (10, _)] ⟨rfl, rfl, trivial⟩ ?_
                        refine HN.then ?_
                        refine H.seq ?_
                        refine H.region ?_
                        refine H.q (yl_move rfl) rfl rfl (by decide) ?_
                        refine H.q (yl_catL rfl rfl (by simp only [List.length_cons, List.length_nil]; omega)) rfl rfl (by decide) ?_
                        refine H.q (yl_move rfl) rfl rfl (by decide) ?_
                        refine H.q (yl_catL rfl rfl (by simp only [List.length_append, List.length_cons, List.length_nil]; omega)) rfl rfl (by decide) ?_
                        refine H.q (yl_assign rfl) rfl rfl (by decide) ?_
                        refine H.q (yl_assign rfl) rfl rfl (by decide) ?_
                        refine HN.done ?_
                        refine HN.keep [(4, _), (5, _)] ⟨rfl, rfl, trivial⟩ ?_
                        refine HN.then ?_
                        refine HR.ret ?_
                        refine HR.block ?_
                        refine HR.then ?_
                        refine HR.ret2 _ _ Tryz.results12 rfl rfl (fun w hw => ?_)
                        exact ⟨by simp [textE, hkd], hw.ext⟩
                      · simp only [decide_eq_false_iff_not] at t11
                        refine H.keep [(2, _), (8, _), (9, _), (10, _), (47, _)] ⟨rfl, rfl, rfl, rfl, rfl, trivial⟩ ?_
                        refine H.seq ?_
                        refine H.region ?_
                        refine H.q (yl_typeAssert Tryz.underlying83 rfl Tryz.zeroValue83 rfl) rfl rfl (by decide) ?_
                        refine H.q (yl_extract _ rfl rfl) rfl rfl (by decide) ?_
                        refine H.q (yl_extract _ rfl rfl) rfl rfl (by decide) ?_
                        refine HN.done ?_
                        refine HN.keep [(2, _), (8, _), (9, _), (10, _), (141, _), (142, _)] ⟨rfl, rfl, rfl, rfl, rfl, rfl, trivial⟩ ?_
                        refine HN.then ?_
                        refine H.cond _ rfl (fun t12 => ?_) (fun t12 => ?_)
                        · simp only [decide_eq_true_eq] at t12
                          have hkd : x.kind = 10 := claimT_83 t12
                          refine H.keep [(2, _), (8, _), (9, _), (10, _), (142, .agg [].toArray)] ⟨rfl, rfl, rfl, rfl, congrArg some ((if_pos t12).trans (by simp [claimA, hkd])), trivial⟩ ?_
                          refine H.keep [(9, _), (10, _), (142, _)] ⟨rfl, rfl, rfl, trivial⟩ ?_
                          refine H.seq ?_
                          refine H.region ?_
                          refine H.allocA Tryz.zeroValue83 (by decide) (fun b23 hb23 => ?_)
                          refine H.storeA 0 rfl rfl rfl Tryz.sizeOf83 rfl rfl ?_
                          refine HN.done ?_
                          refine HN.keep [(9, _), (10, _)] ⟨rfl, rfl, trivial⟩ ?_
                          refine HN.then ?_
                          refine H.seq ?_
                          refine H.region ?_
                          refine H.q (yl_move rfl) rfl rfl (by decide) ?_
                          refine H.q (yl_catL rfl rfl (by simp only [List.length_cons, List.length_nil]; omega)) rfl rfl (by decide) ?_
                          refine H.q (yl_move rfl) rfl rfl (by decide) ?_
                          refine H.q (yl_catL rfl rfl (by simp only [List.length_append, List.length_cons, List.length_nil]; omega)) rfl rfl (by decide) ?_
                          refine H.q (yl_assign rfl) rfl rfl (by decide) ?_
                          refine H.q (yl_assign rfl) rfl rfl (by decide) ?_
                          refine HN.done ?_
                          refine HN.keep [(4, _), (5, _)] ⟨rfl, rfl, trivial⟩ ?_
                          refine HN.then ?_
                          refine HR.ret ?_
                          refine HR.block ?_
                          refine HR.then ?_
                          refine HR.ret2 _ _ Tryz.results12 rfl rfl (fun w hw => ?_)
                          exact ⟨by simp [textE, hkd], hw.ext⟩
                        · simp only [decide_eq_false_iff_not] at t12
                          have hkd : x.kind = 11 := by
                            rcases kind_cases hk with h | h | h | h | h | h | h | h | h | h | h
                            · exact absurd (show claimT x.kind = 71 by rw [h]; rfl) t2
                            · exact absurd (show claimT x.kind = 73 by rw [h]; rfl) t3
                            · exact absurd (show claimT x.kind = 74 by rw [h]; rfl) t5
                            · exact absurd (show claimT x.kind = 75 by rw [h]; rfl) t6
                            · exact absurd (show claimT x.kind = 77 by rw [h]; rfl) t7
                            · exact absurd (show claimT x.kind = 79 by rw [h]; rfl) t8
                            · exact absurd (show claimT x.kind = 80 by rw [h]; rfl) t9
                            · exact absurd (show claimT x.kind = 81 by rw [h]; rfl) t10
                            · exact absurd (show claimT x.kind = 82 by rw [h]; rfl) t11
                            · exact absurd (show claimT x.kind = 83 by rw [h]; rfl) t12
                            · exact h
                          refine H.keep [(2, _), (8, _), (9, _), (10, _)] ⟨rfl, rfl, rfl, rfl, trivial⟩ ?_
                          refine HN.skip ?_
                          refine HN.block ?_
                          refine HN.then ?_
                          refine H.seq ?_
                          refine H.regionQ Tryz.mixed (by kernel_rfl) (stab_hp _ _ _ _) ?_
                          refine G.q (yl_move rfl) rfl rfl (by decide) ?_
                          refine G.q (yl_catL rfl rfl (by simp only [List.length_cons, List.length_nil]; omega)) rfl rfl (by decide) ?_
                          refine G.q (yl_move rfl) rfl rfl (by decide) ?_
                          refine G.q (yl_fieldAddr _ fa25_3 rfl) rfl rfl (by decide) ?_
                          refine G.q (yl_load Tryz.isAgg2 rfl (fun w hw => hw.cell 0 rfl rfl)) rfl rfl (by decide) ?_
                          refine G.q (yl_callv (xs := [.tmp 151]) Tryz.call37 (stab_hp _ _ _ _) rfl rfl (fun w hw => write1_v x.k w hsk (hvars.ext hw.ext))) rfl rfl (by decide) ?_
                          refine G.q (yl_catL rfl rfl (by simp only [List.length_append, List.length_cons, List.length_nil]; omega)) rfl rfl (by decide) ?_
                          refine G.q (yl_catL rfl rfl (by simp only [List.length_append, List.length_cons, List.length_nil]; omega)) rfl rfl (by decide) ?_
                          refine G.q (yl_move rfl) rfl rfl (by decide) ?_
                          refine G.q (yl_catL rfl rfl (by simp only [List.length_append, List.length_cons, List.length_nil]; omega)) rfl rfl (by decide) ?_
                          refine G.q (yl_catL rfl rfl (by simp only [List.length_append, List.length_cons, List.length_nil]; omega)) rfl rfl (by decide) ?_
                          refine G.q (yl_move rfl) rfl rfl (by decide) ?_
                          refine G.q (yl_fieldAddr _ fa25_4 rfl) rfl rfl (by decide) ?_
                          refine G.q (yl_load Tryz.isAgg2 rfl (fun w hw => hw.cell 0 rfl rfl)) rfl rfl (by decide) ?_
                          refine G.q (yl_callv (xs := [.tmp 160]) Tryz.call37 (stab_hp _ _ _ _) rfl rfl (fun w hw => write1_v x.m w hsm (hvars.ext hw.ext))) rfl rfl (by decide) ?_
                          refine G.q (yl_catL rfl rfl (by simp only [List.length_append, List.length_cons, List.length_nil]; omega)) rfl rfl (by decide) ?_
                          refine G.q (yl_assign rfl) rfl rfl (by decide) ?_
                          refine G.q (yl_assign rfl) rfl rfl (by decide) ?_
                          refine HN.doneG ?_
                          refine HN.keep [(4, _), (5, _)] ⟨rfl, rfl, trivial⟩ ?_
                          refine HN.then ?_
                          refine HR.ret ?_
                          refine HR.ret2 _ _ Tryz.results12 rfl rfl (fun w hw => ?_)
                          exact ⟨by simp [textE, hkd], hw.ext⟩

end Go.Proofs.YtgbgddmbooaddaaGreatDoor

namespace Go.Proofs.YtgbgddmbooaddaaGreatDoor
open Go.RowKit


theorem dropD {s : List UInt8} {k : Nat} (h : k < s.length) : s.drop k = s.getD k 0 :: s.drop (k + 1) := by
  rw [drop_cons h]
  simp [List.getD, h]

set_option maxRecDepth 100000 in
theorem numL_any (s : List UInt8) (w0 : World) (hs : s.length ≤ 1000) (hvars : Vars w0) : Calls Tryz.prog 76 #[strV s] w0 fun e w' => e = .returned (.tuple #[.int .i64 (numL s).1, .bool (numL s).2]) ∧ Ext w0 w' := by
  refine enterA 20 Tryz.func76 rfl Tryz.ntmps76 rfl (Hp w0 [] [] []) (Hp.init _) ?_
  refine H.seq ?_
  refine H.region ?_
  refine H.q (yl_assign rfl) rfl rfl (by decide) ?_
  refine H.q (yl_assign rfl) rfl rfl (by decide) ?_
  refine HN.done ?_
  refine HN.keep [(0, _)] ⟨rfl, trivial⟩ ?_
  refine HN.then ?_
  refine H.seq ?_
  refine H.region ?_
  refine H.q (yl_move rfl) rfl rfl (by decide) ?_
  refine H.call (xs := [.tmp 7, .const (.int .i64 10), .const (.int .i64 64)]) (fun z : Bool × Nat => .tuple #[.int .i64 (numL s).1, if z.1 = true then .nilIface else .iface 187 (.pointer (some ⟨z.2, 0, none⟩))]) (fun z => (z.1 = true → Lib.parseIntB 64 s = .ok (numL s).1) ∧ (z.1 = false → (numL s).2 = false)) (fun _ => []) (fun _ => []) Tryz.call108 rfl (by decide) (fun w hw => (parseInt_any s w hs (hvars.ext hw.ext)).mono fun e w' h => ?_) (fun z hz => ?_)
  · obtain ⟨z, h1, h2, h3, h4⟩ := h
    exact ⟨z, h1, ⟨h2, h3⟩, Hp.ofExt h4, fun p hp => by cases hp⟩
  obtain ⟨b, N⟩ := z
  obtain ⟨hz1, hz2⟩ := hz
  simp only at hz1 hz2
  refine H.q (yl_move rfl) rfl rfl (by decide) ?_
  refine H.q (yl_extract _ rfl rfl) rfl rfl (by decide) ?_
  refine H.q (yl_extract _ rfl rfl) rfl rfl (by decide) ?_
  refine H.q (yl_assign rfl) rfl rfl (by decide) ?_
  refine H.q (yl_assign rfl) rfl rfl (by decide) ?_
  refine HN.done ?_
  refine HN.keep [(0, _), (4, _), (5, _)] ⟨rfl, rfl, rfl, trivial⟩ ?_
  refine HN.then ?_
  refine H.seq ?_
  refine H.region ?_
  refine H.q (yl_move rfl) rfl rfl (by decide) ?_
  refine H.q (yl_move rfl) rfl rfl (by decide) ?_
  refine H.q (yl_ifaceNil (c := b = true) (T := 187) (v := .pointer (some ⟨N, 0, none⟩)) Tryz.underlying157 rfl) rfl rfl (by decide) ?_
  refine H.q (yl_move rfl) rfl rfl (by decide) ?_
  refine H.qg (wn_t rfl rfl (by decide) rfl) (fun hg => yl_sub [(4, _)] ⟨rfl, trivial⟩ (yl_move rfl)) rfl (by decide) ?_
  refine H.qg (wn_t rfl rfl (by decide) rfl) (fun hg => yl_sub [(15, _)] ⟨slT rfl hg, trivial⟩ (yl_call (xs := [.tmp 15, .const (.int .i64 10)]) Tryz.call38 (stab_hp _ _ _ _) rfl (fun w hw => formatInt_any (numL s).1 w (parse_wide (hz1 (by simpa using hg))) (hvars.ext hw.ext)))) rfl (by decide) ?_
  refine H.qg (wn_t rfl rfl (by decide) rfl) (fun hg => yl_sub [(0, _)] ⟨rfl, trivial⟩ (yl_move rfl)) rfl (by decide) ?_
  refine H.qg (wn_t rfl rfl (by decide) rfl) (fun hg => yl_sub [(16, _), (17, _)] ⟨slT rfl hg, slT rfl hg, trivial⟩ (yl_seqlL rfl rfl)) rfl (by decide) ?_
  refine H.q (yl_and rfl rfl) rfl rfl (by decide) ?_
  refine H.q (yl_assign rfl) rfl rfl (by decide) ?_
  refine H.q (yl_assign rfl) rfl rfl (by decide) ?_
  refine HN.done ?_
  refine HN.keep [(2, _), (3, _)] ⟨rfl, rfl, trivial⟩ ?_
  refine HN.then ?_
  refine HR.ret ?_
  refine HR.ret2 _ _ Tryz.results76 rfl rfl (fun w hw => ?_)
  refine ⟨?_, hw.ext⟩
  cases b with
  | true =>
    have := numL_ok (hz1 rfl)
    have h2 : (numL s).2 = decide (Lib.itoa (numL s).1 = s) := by rw [this]
    rw [h2]
    rfl
  | false => rw [hz2 rfl]; rfl

end Go.Proofs.YtgbgddmbooaddaaGreatDoor

namespace Go.Proofs.YtgbgddmbooaddaaGreatDoor

/-- The words of a text behind what has been read of the first one. -/
def splitW : List UInt8 → List UInt8 → List (List UInt8)
  | cur, [] => [cur]
  | cur, c :: r => if c = 32 then cur :: splitW [] r else splitW (cur ++ [c]) r
def wordsE (s : List UInt8) : List (List UInt8) := splitW [] s
theorem splitW_blank (cur r : List UInt8) : splitW cur (32 :: r) = cur :: splitW [] r := by rw [splitW, if_pos rfl]
theorem splitW_other {cur r : List UInt8} {c : UInt8} (h : ¬ c = 32) : splitW cur (c :: r) = splitW (cur ++ [c]) r := by rw [splitW, if_neg h]
theorem splitW_ne (cur s : List UInt8) : splitW cur s ≠ [] := by
  induction s generalizing cur with
  | nil => simp [splitW]
  | cons c r ih =>
    by_cases h : c = 32
    · rw [h, splitW_blank]; simp
    · rw [splitW_other h]; exact ih _
theorem splitW_len : ∀ (s cur : List UInt8), (splitW cur s).length ≤ s.length + 1 ∧ ∀ x ∈ splitW cur s, x.length ≤ cur.length + s.length
  | [], cur => by simp [splitW]
  | c :: r, cur => by
    by_cases h : c = 32
    · rw [h, splitW_blank]
      have := splitW_len r []
      refine ⟨by simp only [List.length_cons]; omega, fun x hx => ?_⟩
      rcases List.mem_cons.1 hx with rfl | hx
      · omega
      · have := this.2 x hx
        simp only [List.length_nil, List.length_cons] at this ⊢
        omega
    · rw [splitW_other h]
      have := splitW_len r (cur ++ [c])
      refine ⟨by simp only [List.length_cons]; omega, fun x hx => ?_⟩
      have := this.2 x hx
      simp only [List.length_append, List.length_cons, List.length_nil] at this ⊢
      omega
/-- A word without blanks, and then a blank. -/
theorem splitW_word : ∀ (a cur r : List UInt8), (∀ c ∈ a, ¬ c = 32) → splitW cur (a ++ 32 :: r) = (cur ++ a) :: splitW [] r
  | [], cur, r, _ => by rw [List.nil_append, splitW_blank, List.append_nil]
  | c :: a, cur, r, h => by
    rw [List.cons_append, splitW_other (h c (List.mem_cons_self ..)), splitW_word a _ r fun x hx => h x (List.mem_cons_of_mem _ hx)]
    simp
theorem splitW_last : ∀ (a cur : List UInt8), (∀ c ∈ a, ¬ c = 32) → splitW cur a = [cur ++ a]
  | [], cur, _ => by rw [splitW, List.append_nil]
  | c :: a, cur, h => by
    rw [splitW_other (h c (List.mem_cons_self ..)), splitW_last a _ fun x hx => h x (List.mem_cons_of_mem _ hx)]
    simp

theorem byte_split : ∀ (s : List UInt8), (Lib.index s [32] = -1 ∧ ∀ c ∈ s, ¬ c = 32) ∨ ∃ i : Nat, Lib.index s [32] = i ∧ i < s.length ∧ (∀ c ∈ s.take i, ¬ c = 32) ∧ s = s.take i ++ 32 :: s.drop (i + 1)
  | [] => .inl ⟨by decide, by simp⟩
  | c :: r => by
    rw [Lib.index_one]
    by_cases hc : c = 32
    · subst hc
      refine .inr ⟨0, ?_, by simp, by simp, by simp⟩
      simp [Lib.indexByte]
    · rcases byte_split r with ⟨h1, h2⟩ | ⟨i, h1, h2, h3, h4⟩
      · rw [Lib.index_one] at h1
        refine .inl ⟨?_, fun x hx => ?_⟩
        · simp [Lib.indexByte, hc, h1]
        · rcases List.mem_cons.1 hx with rfl | hx
          · exact hc
          · exact h2 x hx
      · rw [Lib.index_one] at h1
        refine .inr ⟨i + 1, ?_, by simp; omega, fun x hx => ?_, ?_⟩
        · have h5 : ¬ ((i : Int) = -1) := by omega
          simp [Lib.indexByte, hc, h1, h5]
        · rw [List.take_succ_cons] at hx
          rcases List.mem_cons.1 hx with rfl | hx
          · exact hc
          · exact h3 x hx
        · rw [List.take_succ_cons, List.drop_succ_cons, List.cons_append, ← h4]

theorem split_words : ∀ (n : Nat) (s : List UInt8), s.length ≤ n → Lib.splitK [32] 0 (Lib.count s [32]) s = wordsE s ∧ Lib.count s [32] + 1 = (wordsE s).length
  | n, s, hn => by
    rcases byte_split s with ⟨h1, h2⟩ | ⟨i, h1, h2, h3, h4⟩
    · rw [Lib.count_miss h1, wordsE, splitW_last s [] h2]
      simp [Lib.splitK]
    · have hd : (s.drop (i + 1)).length < s.length := by rw [List.length_drop]; omega
      cases n with
      | zero => omega
      | succ n =>
        obtain ⟨ih1, ih2⟩ := split_words n (s.drop (i + 1)) (by omega)
        have hw : wordsE s = s.take i :: wordsE (s.drop (i + 1)) := by
          conv => lhs; rw [h4]
          rw [wordsE, splitW_word _ _ _ h3, List.nil_append]
          rfl
        have hc : Lib.count s [32] = 1 + Lib.count (s.drop (i + 1)) [32] := Lib.count_hit (by simp) h1
        rw [hc, hw, show 1 + Lib.count (s.drop (i + 1)) [32] = Lib.count (s.drop (i + 1)) [32] + 1 by omega, Lib.splitK, h1]
        have hne : ¬ (((i : Int) == -1) = true) := by simp only [beq_iff_eq]; omega
        rw [if_neg hne]
        refine ⟨?_, by rw [List.length_cons, ← ih2]⟩
        simp only [Int.toNat_natCast, Nat.add_zero, List.length_cons, List.length_nil, Nat.zero_add]
        rw [ih1]
end Go.Proofs.YtgbgddmbooaddaaGreatDoor

namespace Go.Proofs.YtgbgddmbooaddaaGreatDoor
open Go.RowKit

theorem el23 : El Tryz.prog 23 2 (.int .i64 0) 1 8 := ⟨Tryz.underlying23, by kernel_rfl, rfl, by decide⟩
theorem el37 : El Tryz.prog 37 23 (.slice none 0 0) 1 24 := ⟨Tryz.underlying37, by kernel_rfl, rfl, by decide⟩
theorem el28 : El Tryz.prog 28 25 (.agg #[.int .u8 0, .int .i64 0, .int .i64 0, .int .i64 0, .int .i64 0, .slice none 0 0]) 6 64 := ⟨Tryz.underlying28, by kernel_rfl, rfl, by decide⟩
theorem el138 : El Tryz.prog 138 139 (.agg #[.int .i64 0, .int .i64 0]) 2 16 := ⟨Tryz.underlying138, by kernel_rfl, rfl, by decide⟩
theorem el100 : El Tryz.prog 100 105 (.agg #[.slice none 0 0, .int .i64 0]) 2 32 := ⟨Tryz.underlying100, by kernel_rfl, rfl, by decide⟩
theorem bs26 (s : ByteArray) (w : World) : (Instr.buildSlice 26 1 [(0, .string s)].toArray).run Tryz.prog w = .ok (.slice (some ⟨w.heap.size, 0, none⟩) 1 1) (w.alloc (.cells [.string s].toArray 9)) := by kernel_rfl
theorem bs23 (a : Int) (w : World) : (Instr.buildSlice 23 1 [(0, .int .i64 a)].toArray).run Tryz.prog w = .ok (.slice (some ⟨w.heap.size, 0, none⟩) 1 1) (w.alloc (.cells [.int .i64 a].toArray 2)) := by kernel_rfl
theorem bs23_0 (w : World) : (Instr.buildSlice 23 0 [].toArray).run Tryz.prog w = .ok (.slice (some ⟨w.heap.size, 0, none⟩) 0 0) (w.alloc (.cells [].toArray 2)) := by kernel_rfl
theorem bs37 (a : Option Addr) (n c : Nat) (w : World) : (Instr.buildSlice 37 1 [(0, .slice a n c)].toArray).run Tryz.prog w = .ok (.slice (some ⟨w.heap.size, 0, none⟩) 1 1) (w.alloc (.cells [.slice a n c].toArray 23)) := by kernel_rfl
theorem bs28 (k a b x m : Int) (ad : Option Addr) (n c : Nat) (w : World) : (Instr.buildSlice 28 1 [(0, .agg [.int .u8 k, .int .i64 a, .int .i64 b, .int .i64 x, .int .i64 m, .slice ad n c].toArray)].toArray).run Tryz.prog w = .ok (.slice (some ⟨w.heap.size, 0, none⟩) 1 1) (w.alloc (.cells [.int .u8 k, .int .i64 a, .int .i64 b, .int .i64 x, .int .i64 m, .slice ad n c].toArray 25)) := by kernel_rfl
theorem bs138 (a b : Int) (w : World) : (Instr.buildSlice 138 1 [(0, .agg [.int .i64 a, .int .i64 b].toArray)].toArray).run Tryz.prog w = .ok (.slice (some ⟨w.heap.size, 0, none⟩) 1 1) (w.alloc (.cells [.int .i64 a, .int .i64 b].toArray 139)) := by kernel_rfl

theorem news1 {w : World} {b el : Nat} {x : Value} (h : w.heap[b]? = some (.cells [x].toArray el)) : ∀ j u, [x][j]? = some u → ∃ a, (some ⟨b, 0, none⟩ : Option Addr) = some a ∧ w.cell? (a.add j) = some u := fun j u hj =>
  ⟨_, rfl, by rw [add_at, Nat.zero_add]; exact cell_of_blk h (by simpa using hj)⟩
theorem newsN {w : World} {b el : Nat} {xs : List Value} (h : w.heap[b]? = some (.cells xs.toArray el)) : ∀ j u, xs[j]? = some u → ∃ a, (some ⟨b, 0, none⟩ : Option Addr) = some a ∧ w.cell? (a.add j) = some u := fun j u hj =>
  ⟨_, rfl, by rw [add_at, Nat.zero_add]; exact cell_of_blk h (by simpa using hj)⟩

/-- strings.Split at a blank. -/
theorem split_any (s : List UInt8) (w0 : World) (hs : s.length ≤ 1000) (hw : Vars w0) : Calls Tryz.prog 42 #[strV s, strV [32]] w0 fun e w' => ∃ v, e = .returned v ∧ Hp w0 [] [⟨v, (wordsE s).length, 9, 1, (wordsE s).map strV⟩] [] w' := by
  obtain ⟨m, hm⟩ := hw.max
  refine (Tryz.strings_Split ⟨s.toArray⟩ ⟨[(32 : UInt8)].toArray⟩ m w0 (by show s.length < _; omega) hm (by decide)).mono fun e w' h => ?_
  obtain ⟨h1, rfl⟩ := h
  have hl : (⟨s.toArray⟩ : ByteArray).data.toList = s := by simp
  obtain ⟨k1, k2⟩ := split_words s.length s (Nat.le_refl _)
  have hc : Lib.countB ⟨s.toArray⟩ ⟨[(32 : UInt8)].toArray⟩ = Lib.count s [32] := by show Lib.count _ _ = _; rw [hl]
  have hb := Lib.splitB_data ⟨[(32 : UInt8)].toArray⟩ 0 (Lib.count s [32]) ⟨s.toArray⟩
  rw [hl, show (⟨[(32 : UInt8)].toArray⟩ : ByteArray).data.toList = [32] from rfl, k1] at hb
  have hcells : (Lib.splitB ⟨[(32 : UInt8)].toArray⟩ 0 (Lib.count s [32]) ⟨s.toArray⟩).map Value.string = (wordsE s).map strV := by
    rw [← hb, List.map_map]
    congr 1
  rw [hc, k2] at h1
  rw [hc, hcells]
  refine ⟨_, h1, ?_⟩
  exact (Hp.alloc (Hp.init w0) (.cells ((wordsE s).map strV).toArray 9)).toRow (by simp) (by simp only [maxLen]; have := (splitW_len s []).1; simp only [wordsE]; omega)
end Go.Proofs.YtgbgddmbooaddaaGreatDoor

namespace Go.Proofs.YtgbgddmbooaddaaGreatDoor
open Go.RowKit


/-- Where the loop of words stands. -/
structure WS where
  i : Nat
  a : Nat
  v : Value
  out : List (List UInt8)
def WS.inv (s : List UInt8) (z : WS) : Prop := z.a ≤ z.i ∧ z.out.length ≤ z.i ∧ ((z.i ≤ s.length ∧ z.out ++ splitW ((s.drop z.a).take (z.i - z.a)) (s.drop z.i) = wordsE s) ∨ (z.i = s.length + 1 ∧ z.out = wordsE s))
theorem WS.next {s : List UInt8} {z : WS} (h : z.inv s) (hi : z.i < s.length) (hne : ¬ s.getD z.i 0 = 32) : WS.inv s ⟨z.i + 1, z.a, z.v, z.out⟩ := by
  obtain ⟨h1, h2, ⟨h3, h4⟩ | ⟨h3, h4⟩⟩ := h
  · refine ⟨by simp only; omega, by simp only; omega, .inl ⟨by simp only; omega, ?_⟩⟩
    simp only
    rw [dropD hi, splitW_other hne] at h4
    rw [← h4]
    congr 2
    rw [show z.i + 1 - z.a = (z.i - z.a) + 1 by omega, List.take_succ_eq_append_getElem (by rw [List.length_drop]; omega), List.getElem_drop]
    congr 1
    simp [List.getD, hi, show z.a + (z.i - z.a) = z.i by omega]
  · omega
theorem WS.word {s : List UInt8} {z : WS} (v' : Value) (h : z.inv s) (hi : z.i < s.length) (hne : s.getD z.i 0 = 32) : WS.inv s ⟨z.i + 1, z.i + 1, v', z.out ++ [(s.drop z.a).take (z.i - z.a)]⟩ := by
  obtain ⟨h1, h2, ⟨h3, h4⟩ | ⟨h3, h4⟩⟩ := h
  · refine ⟨Nat.le_refl _, by simp only [List.length_append, List.length_cons, List.length_nil]; omega, .inl ⟨by simp only; omega, ?_⟩⟩
    simp only
    rw [dropD hi, hne, splitW_blank] at h4
    rw [← h4]
    simp
  · omega
set_option maxRecDepth 100000 in
theorem atL_any (s : List UInt8) (names : List (List UInt8)) (nv : Value) (b : Nat) (w0 : World) (hl : names.length ≤ 1000) (hv : IsStrs w0 nv names) (hb : w0.cell? ⟨b, 0, none⟩ = some nv) : Calls Tryz.prog 75 #[strV s, .pointer (some ⟨b, 0, none⟩)] w0 fun e w' => e = .returned (.int .i64 (idxP (fun y => decide (s = y)) names)) ∧ Ext w0 w' := by
  refine enterA 7 Tryz.func75 rfl Tryz.ntmps75 rfl (Hp w0 [] [] []) (Hp.init _) ?_
  refine H.seq ?_
  refine H.region ?_
  refine H.q (yl_assign rfl) rfl rfl (by decide) ?_
  refine HN.done ?_
  refine HN.keep [(0, _), (1, _)] ⟨rfl, rfl, trivial⟩ ?_
  refine HN.then ?_
  refine H.seq ?_
  refine H.region ?_
  refine H.q (yl_load Tryz.isAgg26 rfl (fun w hw => cell_ext hw.ext hb)) rfl rfl (by decide) ?_
  refine H.q (yl_move rfl) rfl rfl (by decide) ?_
  refine H.q (yl_call (xs := [.tmp 4, .tmp 5]) Tryz.call74 (stab_hp _ _ _ _) rfl (fun w hw => sIndex_any names nv s w (by omega) (hv.ext hw.ext))) rfl rfl (by decide) ?_
  refine H.q (yl_assign rfl) rfl rfl (by decide) ?_
  refine HN.done ?_
  refine HN.keep [(3, _)] ⟨rfl, trivial⟩ ?_
  refine HN.then ?_
  refine HR.ret ?_
  refine HR.ret1 _ Tryz.results75 rfl (fun w hw => ?_)
  exact ⟨rfl, hw.ext⟩

end Go.Proofs.YtgbgddmbooaddaaGreatDoor

namespace Go.Proofs.YtgbgddmbooaddaaGreatDoor
open Go.RowKit

theorem Hp.noR {w0 : World} {L : List BP} {R : List Rw} {F : List BP} {w : World} (h : Hp w0 L R F w) : Hp w0 L [] [] w where
  ext := h.ext
  own := h.own
  rows := fun _ hr => by cases hr
  fgn := fun _ hp => by cases hp
  nodup := by
    have := (List.nodup_append.1 h.nodup).1
    simpa [owned] using this
  low := fun b hb => h.low b (List.mem_append.2 (.inl (by simpa [owned] using hb)))
  apart := fun _ _ _ hp => by cases hp
theorem Hp.base {w0 : World} {L : List BP} {R : List Rw} {F : List BP} {w : World} (h : Hp w0 L R F w) : Hp w0 [] [] [] w where
  ext := h.ext
  own := fun _ hp => by cases hp
  rows := fun _ hr => by cases hr
  fgn := fun _ hp => by cases hp
  nodup := List.nodup_nil
  low := fun _ hb => by cases hb
  apart := fun _ hb => by cases hb

section
variable {P : Program} {n : Nat} {e : Env} {C S : World → Prop} {Q : Exit → Act → World → Prop} {K : Act → World → Prop} {ops : Array Oper} {o : Oper} {listed : Array Bool} {m : Nat}

/-- What is left of a region, in whatever order. -/
abbrev An (P : Program) (ops : Array Oper) (Q : Exit → Act → World → Prop) (S : World → Prop) (m : Nat) (listed : Array Bool) : Act → World → Prop := fun a w => wpAnyH P .any ops Q S m listed a w

/-- In every frame that fits 'e' and every world that meets S the operation yields v, and does nothing else. -/
def Ye (P : Program) (S : World → Prop) (n : Nat) (e : Env) (o : Oper) (v : Value) : Prop := ∀ a w, Fr n e a → S w → (execOp a.eval o).run P w = .ok (.value v) w

theorem wpOp_of_list {i : Nat} {a : Act} {w : World} (hi : ops[i]? = some o) (h : wpList P ops (Exit.then K Q) [o] a w) : wpOp P ops Q i K a w := by
  unfold wpOp
  simp only [hi]
  unfold wpList at h
  split
  · rename_i hw
    rw [if_pos hw] at h
    rcases h with h | ⟨h1, h2⟩
    · refine .inl ?_
      unfold Oper.wp at h ⊢
      revert h
      generalize (execOp a.eval o).run P w = r
      intro h
      cases r with
      | ok nx w' =>
        cases nx <;> simp only [Oper.upon] at h ⊢ <;>
          first
            | exact h
            | exact Calls.mono h (fun e w'' he => by cases e <;> exact he)
            | exact Rows.mono h (fun _ _ he => he)
      | halt x w' => cases x <;> simp only [Oper.upon] at h ⊢ <;> exact h
    · exact .inr ⟨h1, h2⟩
  · rename_i hw
    rw [if_neg hw] at h
    exact h

/-- The region begins. -/
theorem H.regionA {id : Nat} {l : List Oper} (S : World → Prop) (hm : P.follows .mixedOrders = true) (hst : Stab C) (h : H n e C (An P l.toArray Q S l.length (Array.replicate l.length false))) : H n e C ((Code.region id l.toArray true).wp P Q) := fun a w hf hc =>
  wp_region_held (S := S) hm (by
    have := h a { w with drawn := w.drawn + 1 } hf (hst w _ hc ⟨rfl, rfl, rfl, Nat.le_refl _, fun _ _ => rfl⟩)
    simpa using this)

/-- An operation that only reads is taken first. -/
theorem H.take {i d : Nat} {v : Value} (hi : ops[i]? = some o) (hs : Region.noSelect ops = true) (hf : Region.free .any ops listed i = true) (hr : (Region.ready .any ops listed).contains i = true) (hQ : ∀ c a w, Q (.panic c) (a.put o.dst v) w → Q (.panic c) a w)
    (hS : ∀ w, C w → S w) (hy : Ye P S n e o v) (hg : o.guard = none) (hd : o.dst = some d) (hn : d < n) (h : H n ((d, v) :: e) C (An P ops Q S m (listed.setIfInBounds i true))) : H n e C (An P ops Q S (m + 1) listed) := fun a w hfr hc =>
  wpAnyH_take hi hs hf hr hQ (.inl ⟨by simp [Region.wanted, hg], fun w' hw' => hy a w' hfr hw'⟩) (hS w hc) (h _ w (hd ▸ hfr.put hn v) hc)
/-- One alone may come up. -/
theorem H.one {i : Nat} (hi : ops[i]? = some o) (hr : Region.ready .any ops listed = [i]) (h : H n e C (wpList P ops (Exit.then (fun a w => S w ∧ An P ops Q S m (listed.setIfInBounds i true) a w) Q) [o])) : H n e C (An P ops Q S (m + 1) listed) := fun a w hfr hc =>
  wpAnyH_all hr (by simp) fun j hj => by
    rw [List.mem_singleton] at hj
    subst hj
    exact wpOp_of_list hi (h a w hfr hc)
/-- One of two. -/
theorem H.two {i j : Nat} {o2 : Oper} (hi : ops[i]? = some o) (hj : ops[j]? = some o2) (hr : Region.ready .any ops listed = [i, j]) (h : H n e C (wpList P ops (Exit.then (fun a w => S w ∧ An P ops Q S m (listed.setIfInBounds i true) a w) Q) [o]))
    (h2 : H n e C (wpList P ops (Exit.then (fun a w => S w ∧ An P ops Q S m (listed.setIfInBounds j true) a w) Q) [o2])) : H n e C (An P ops Q S (m + 1) listed) := fun a w hfr hc =>
  wpAnyH_all hr (by simp) fun k hk => by
    rcases List.mem_cons.1 hk with rfl | hk
    · exact wpOp_of_list hi (h a w hfr hc)
    · rw [List.mem_singleton] at hk
      subst hk
      exact wpOp_of_list hj (h2 a w hfr hc)
/-- Behind an operation that was not taken first. -/
theorem H.on (hS : ∀ w, C w → S w) (h : H n e C (An P ops Q S m listed)) : H n e C (wpList P ops (Exit.then (fun a w => S w ∧ An P ops Q S m listed a w) Q) []) := fun a w hfr hc => ⟨hS w hc, h a w hfr hc⟩
theorem H.over (hr : Region.ready .any ops listed = []) (h : HN n e C Q) : H n e C (An P ops Q S m listed) := fun a w hfr hc => wpAnyH_done hr (h a w hfr hc) m

end
end Go.Proofs.YtgbgddmbooaddaaGreatDoor

namespace Go.Proofs.YtgbgddmbooaddaaGreatDoor
open Go.RowKit Go.Sort Go.MapKept

section
variable {P : Program} {n : Nat} {e : Env} {C : World → Prop} {d : Option Tmp} {t : TypeId} {p : String} {af : Array Edge} {g : Option (Nat × Bool)}
theorem ye_move {x : Operand} {v : Value} (hx : eev e x = some v) : Ye P C n e ⟨d, .move x, t, p, af, g⟩ v :=
  fun a w hf _ => by simp [execOp, hf.ev hx]
theorem ye_assign {x : Operand} {v : Value} (hx : eev e x = some v) : Ye P C n e ⟨d, .assign x, t, p, af, g⟩ v :=
  fun a w hf _ => by simp [execOp, hf.ev hx]
section
variable {k : IntKind} {a b : Int} {x y : Operand} {tx ty : TypeId}
theorem ye_lss (hx : eev e x = some (.int k a)) (hy : eev e y = some (.int k b)) : Ye P C n e ⟨d, .binOp .lss tx x y ty, t, p, af, g⟩ (.bool (decide (a < b))) :=
  fun ac w hf _ => by simp [execOp, hf.ev hx, hf.ev hy, eqGuard, binOp, Op.intCmp]
theorem ye_leq (hx : eev e x = some (.int k a)) (hy : eev e y = some (.int k b)) : Ye P C n e ⟨d, .binOp .leq tx x y ty, t, p, af, g⟩ (.bool (decide (a ≤ b))) :=
  fun ac w hf _ => by simp [execOp, hf.ev hx, hf.ev hy, eqGuard, binOp, Op.intCmp]
end
section
variable {a b : Int} {x y : Operand} {tx ty : TypeId}
theorem ye_sub' (hx : eev e x = some (.int .i64 a)) (hy : eev e y = some (.int .i64 b)) (c : Int) (hc : a - b = c) (h : -9223372036854775808 ≤ c ∧ c ≤ 9223372036854775807) : Ye P C n e ⟨d, .binOp .sub tx x y ty, t, p, af, g⟩ (.int .i64 c) :=
  fun ac w hf _ => by simp [execOp, hf.ev hx, hf.ev hy, eqGuard, binOp, Op.intArith, hc, IntWalk.i64_in c h]
end
section
variable {s1 s2 : ByteArray} {x y : Operand} {tx ty : TypeId}
end
theorem ye_build {ty : TypeId} {parts : List (Nat × Operand)} {ps : List (Nat × Value)} {v : Value} (hr : ∀ w, (Instr.build ty ps.toArray).run P w = .ok v w) (hx : eevps e parts = some ps) : Ye P C n e ⟨d, .build ty parts.toArray, t, p, af, g⟩ v :=
  fun ac w hf _ => by
    have h1 := hf.evps hx
    have h2 : List.map (fun x : Nat × Operand => match x with | (i, x) => (i, ac.eval x)) parts = ps := h1
    simp [execOp, h2, hr w]
theorem ye_nilCheck {x : Operand} {a : Addr} (hx : eev e x = some (.pointer (some a))) : Ye P C n e ⟨d, .nilCheck x, t, p, af, g⟩ (.pointer (some a)) :=
  fun ac w hf _ => by simp [execOp, hf.ev hx]
theorem ye_fieldAddr {x : Operand} {b o s f : Nat} (k : Nat) (hk : FieldAt P s f k) (hx : eev e x = some (.pointer (some ⟨b, o, none⟩))) : Ye P C n e ⟨d, .fieldAddr s x f, t, p, af, g⟩ (.pointer (some ⟨b, o + k, none⟩)) :=
  fun ac w hf _ => by simp [execOp, hf.ev hx, hk _ w, add_at]
theorem ye_load {x : Operand} {ad : Addr} {ty : TypeId} {v : Value} (hag : ∀ w, (isAgg ty).run P w = .ok false w) (hx : eev e x = some (.pointer (some ad))) (hc : ∀ w, C w → w.cell? ad = some v) : Ye P C n e ⟨d, .load ty x, t, p, af, g⟩ v :=
  fun ac w hf hw => by
    simp [execOp, hf.ev hx, Instr.loadAt, Instr.sureAddr, loadVar, hag w, hc w hw]
theorem ye_loadAgg {x : Operand} {ad : Addr} {ty : TypeId} {m : Nat} (cs : List Value) (hag : ∀ w, (isAgg ty).run P w = .ok true w) (hsz' : ∀ w, (sizeOf ty).run P w = .ok m w) (hx : eev e x = some (.pointer (some ad)))
    (hc : ∀ w, C w → ∀ j v, cs[j]? = some v → w.cell? (ad.add j) = some v) (hm : cs.length = m) : Ye P C n e ⟨d, .load ty x, t, p, af, g⟩ (.agg cs.toArray) :=
  fun ac w hf hw => by
    have hsz : ∀ w, (sizeOf ty).run P w = .ok cs.length w := by rw [hm]; exact hsz'
    simp [execOp, hf.ev hx, Instr.loadAt, Instr.sureAddr, loadVar, hag w, hsz w, run_loadCells_list w ad cs (hc w hw)]
theorem ye_index {x ix : Operand} {b o len cap ty el : Nat} {k : IntKind} {i : Int} (j sz : Nat) (hu : P.underlying ty = some (.slice el)) (hsz : ∀ w, (sizeOf el).run P w = .ok sz w)
    (hx : eev e x = some (.slice (some ⟨b, o, none⟩) len cap)) (hi : eev e ix = some (.int k i)) (hj : i = (j : Int)) (hl : j < len) : Ye P C n e ⟨d, .indexAddr ty x ix, t, p, af, g⟩ (.pointer (some ⟨b, o + j * sz, none⟩)) :=
  fun ac w hf hw => by
    subst hj
    simp [execOp, hf.ev hx, hf.ev hi, Instr.indexAt, run_underlying hu, asIntOf, hl, hsz w, add_at]
theorem ye_len {x : Operand} {ad : Option Addr} {len cap el : Nat} {ty : TypeId} {ats : Array TypeId} (hat : ats[0]? = some ty) (hu : P.underlying ty = some (.slice el)) (hx : eev e x = some (.slice ad len cap)) :
    Ye P C n e ⟨d, .call { callee := .builtin .len, args := #[x], argTypes := ats }, t, p, af, g⟩ (.int .i64 (len : Int)) :=
  fun ac w hf hw => by
    simp [execOp, resolve, hf.ev hx, invoke, builtin, Builtin.len_, hat, run_underlying hu, goInt]
end
section
variable {P : Program} {n : Nat} {e : Env} {C : World → Prop} {d : Option Tmp} {t : TypeId} {p : String} {af : Array Edge} {g : Option (Nat × Bool)}
end

theorem ye_index' {P : Program} {n : Nat} {e : Env} {C : World → Prop} {d : Option Tmp} {t : TypeId} {p : String} {af : Array Edge} {g : Option (Nat × Bool)} {x ix : Operand} {ad : Option Addr} {b o len cap ty el : Nat} {k : IntKind} {i : Int} (j sz : Nat) (hu : P.underlying ty = some (.slice el)) (hsz : ∀ w, (sizeOf el).run P w = .ok sz w)
    (had : ad = some ⟨b, o, none⟩) (hx : eev e x = some (.slice ad len cap)) (hi : eev e ix = some (.int k i)) (hj : i = (j : Int)) (hl : j < len) : Ye P C n e ⟨d, .indexAddr ty x ix, t, p, af, g⟩ (.pointer (some ⟨b, o + j * sz, none⟩)) := by
  subst had
  exact ye_index j sz hu hsz hx hi hj hl
theorem ye_ix {P : Program} {n : Nat} {e : Env} {C : World → Prop} {d : Option Tmp} {t : TypeId} {p : String} {af : Array Edge} {g : Option (Nat × Bool)} {x ix : Operand} {ad : Option Addr} {b o len cap ty el : Nat} {k : IntKind} {i : Int} (j : Nat) (hu : P.underlying ty = some (.slice el)) (hsz : ∀ w, (sizeOf el).run P w = .ok 1 w)
    (had : ad = some ⟨b, o, none⟩) (hx : eev e x = some (.slice ad len cap)) (hi : eev e ix = some (.int k i)) (hj : i = (j : Int)) (hl : j < len) : Ye P C n e ⟨d, .indexAddr ty x ix, t, p, af, g⟩ (.pointer (some ⟨b, o + j, none⟩)) := by
  have := ye_index' (P := P) (n := n) (e := e) (C := C) (d := d) (t := t) (p := p) (af := af) (g := g) j 1 hu hsz had hx hi hj hl
  rwa [Nat.mul_one] at this
section
variable {P : Program} {n : Nat} {e : Env} {w0 : World} {L : List BP} {R : List Rw} {F : List BP} {Q : Exit → Act → World → Prop} {ops : Array Oper} {rest : List Oper}
variable {κ β : Type} [DecidableEq κ]
end
section
variable {P : Program} {n : Nat} {e : Env} {C : World → Prop} {d : Option Tmp} {t : TypeId} {p : String} {af : Array Edge} {g : Option (Nat × Bool)}
end
section
variable {P : Program} {n : Nat} {e : Env} {C : World → Prop} {d : Option Tmp} {t : TypeId} {p : String} {af : Array Edge} {g : Option (Nat × Bool)}
variable {k : IntKind} {a b : Int} {x y : Operand} {tx ty : TypeId}
end
end Go.Proofs.YtgbgddmbooaddaaGreatDoor

namespace Go.Proofs.YtgbgddmbooaddaaGreatDoor

def zI : Inv := ⟨0, 0, 0, 0, 0, []⟩
def atI (names : List (List UInt8)) (s : List UInt8) : Int := idxP (fun y => decide (y = s)) names
theorem atL_eq (names : List (List UInt8)) (s : List UInt8) : idxP (fun y => decide (s = y)) names = atI names s := by
  unfold atI
  congr 1
  funext y
  exact decide_eq_decide.2 ⟨Eq.symm, Eq.symm⟩

end Go.Proofs.YtgbgddmbooaddaaGreatDoor

namespace Go.Proofs.YtgbgddmbooaddaaGreatDoor
open Go.RowKit

theorem bd25_ (w : World) : (Instr.build 25 [].toArray).run Tryz.prog w = .ok (.agg [.int .u8 0, .int .i64 0, .int .i64 0, .int .i64 0, .int .i64 0, .slice none 0 0].toArray) w := by kernel_rfl
theorem bd25_1 (a : Int) (w : World) : (Instr.build 25 [(1, .int .i64 a)].toArray).run Tryz.prog w = .ok (.agg [.int .u8 0, .int .i64 a, .int .i64 0, .int .i64 0, .int .i64 0, .slice none 0 0].toArray) w := by kernel_rfl
theorem bd25_012 (k a b : Int) (w : World) : (Instr.build 25 [(0, .int .u8 k), (1, .int .i64 a), (2, .int .i64 b)].toArray).run Tryz.prog w = .ok (.agg [.int .u8 k, .int .i64 a, .int .i64 b, .int .i64 0, .int .i64 0, .slice none 0 0].toArray) w := by kernel_rfl
theorem bd25_013 (k a x : Int) (w : World) : (Instr.build 25 [(0, .int .u8 k), (1, .int .i64 a), (3, .int .i64 x)].toArray).run Tryz.prog w = .ok (.agg [.int .u8 k, .int .i64 a, .int .i64 0, .int .i64 x, .int .i64 0, .slice none 0 0].toArray) w := by kernel_rfl
theorem bd25_0134 (k a x m : Int) (w : World) : (Instr.build 25 [(0, .int .u8 k), (1, .int .i64 a), (3, .int .i64 x), (4, .int .i64 m)].toArray).run Tryz.prog w = .ok (.agg [.int .u8 k, .int .i64 a, .int .i64 0, .int .i64 x, .int .i64 m, .slice none 0 0].toArray) w := by kernel_rfl
theorem bd25_0143 (k a m x : Int) (w : World) : (Instr.build 25 [(0, .int .u8 k), (1, .int .i64 a), (4, .int .i64 m), (3, .int .i64 x)].toArray).run Tryz.prog w = .ok (.agg [.int .u8 k, .int .i64 a, .int .i64 0, .int .i64 x, .int .i64 m, .slice none 0 0].toArray) w := by kernel_rfl
theorem bd25_01234 (k a b x m : Int) (w : World) : (Instr.build 25 [(0, .int .u8 k), (1, .int .i64 a), (2, .int .i64 b), (3, .int .i64 x), (4, .int .i64 m)].toArray).run Tryz.prog w = .ok (.agg [.int .u8 k, .int .i64 a, .int .i64 b, .int .i64 x, .int .i64 m, .slice none 0 0].toArray) w := by kernel_rfl
theorem bd25_015 (k a : Int) (ad : Option Addr) (n c : Nat) (w : World) : (Instr.build 25 [(0, .int .u8 k), (1, .int .i64 a), (5, .slice ad n c)].toArray).run Tryz.prog w = .ok (.agg [.int .u8 k, .int .i64 a, .int .i64 0, .int .i64 0, .int .i64 0, .slice ad n c].toArray) w := by kernel_rfl

theorem strs_open {w : World} {v : Value} {l : List (List UInt8)} (h : IsStrs w v l) : ∃ ad cap b o, v = .slice ad l.length cap ∧ l.length ≤ cap ∧ ∀ j, j < l.length → ad = some ⟨b, o, none⟩ ∧ w.cell? ⟨b, o + j, none⟩ = some (strV (l.getD j [])) := by
  obtain ⟨ad, cap, b, o, h1, h2, h3⟩ := sl_open strV h
  refine ⟨ad, cap, b, o, h1, h2, fun j hj => ?_⟩
  have := h3 j hj
  rw [show l.getD j [] = l[j] by simp [List.getD, hj]]
  exact this
theorem getD_le {l : List (List UInt8)} {m : Nat} (h : ∀ s ∈ l, s.length ≤ m) (j : Nat) : (l.getD j []).length ≤ m := by
  by_cases hj : j < l.length
  · rw [show l.getD j [] = l[j] by simp [List.getD, hj]]
    exact h _ (List.getElem_mem hj)
  · simp [List.getD, Nat.not_lt.1 hj]
theorem ints_nil (w : World) : IsInts w (.slice none 0 0) [] := ⟨none, 0, 0, 0, rfl, Nat.le_refl _, fun j x hj => by simp at hj⟩
end Go.Proofs.YtgbgddmbooaddaaGreatDoor

namespace Go.Proofs.YtgbgddmbooaddaaGreatDoor
open Go.RowKit


theorem words_pos (t : List UInt8) : 0 < (wordsE t).length := List.length_pos_iff.2 (splitW_ne [] t)
theorem words_len {t : List UInt8} (h : t.length ≤ 1000) : (wordsE t).length ≤ 1001 := by have := (splitW_len t []).1; simp only [wordsE]; omega
theorem words_each {t : List UInt8} (h : t.length ≤ 1000) : ∀ s ∈ wordsE t, s.length ≤ 1000 := fun s hs => by
  have := (splitW_len t []).2 s hs
  simp only [List.length_nil] at this
  omega
theorem Hp.row1 {w0 : World} {L : List BP} {r : Rw} {R : List Rw} {F : List BP} {w : World} (h : Hp w0 L (r :: R) F w) : Hp w0 [] [r] [] w where
  ext := h.ext
  own := fun _ hp => by cases hp
  rows := fun q hq => h.rows q (by rw [List.mem_singleton.1 hq]; exact List.mem_cons_self ..)
  fgn := fun _ hp => by cases hp
  nodup := by
    have h2 := (List.nodup_append.1 h.nodup).2.1
    refine List.Nodup.sublist ?_ h2
    exact List.Sublist.filterMap _ (List.Sublist.cons_cons r (List.nil_sublist R))
  low := fun b hb => h.low b (by
    unfold owned at hb ⊢
    simp only [List.map_nil, List.nil_append, List.mem_filterMap, List.mem_singleton] at hb
    obtain ⟨q, rfl, hq⟩ := hb
    exact List.mem_append.2 (.inr (List.mem_filterMap.2 ⟨q, List.mem_cons_self .., hq⟩)))
  apart := fun _ _ _ hp => by cases hp

end Go.Proofs.YtgbgddmbooaddaaGreatDoor

namespace Go.Proofs.YtgbgddmbooaddaaGreatDoor

def kindsE (s : List UInt8) : Int := if s = [61, 61] then 1 else if s = [62, 61] then 3 else if s = [60, 61] then 4 else if s = [33, 61] then 5 else 0
def pairsE (s : List UInt8) : Int := if s = [61, 61] then 7 else if s = [33, 61] then 8 else if s = [60] then 9 else if s = [60, 61] then 10 else 0
def l1E (w names : List (List UInt8)) : List Inv :=
  if (decide ((w.length : Int) = 3) && (numL (w.getD 2 [])).2) = true then [⟨kindsE (w.getD 1 []), atI names (w.getD 0 []), 0, if kindsE (w.getD 1 []) = 5 then 0 else (numL (w.getD 2 [])).1, 0, []⟩]
  else if (w.length : Int) = 3 then [⟨pairsE (w.getD 1 []), atI names (w.getD 0 []), atI names (w.getD 2 []), 0, 0, []⟩] else []
def setL (w : List (List UInt8)) : List Int := if w.getD 1 [] = [105, 110] then (w.drop 2).map fun s => (numL s).1 else []
def l2E (w names : List (List UInt8)) : List Inv := if w.getD 1 [] = [105, 110] then [⟨2, atI names (w.getD 0 []), 0, 0, 0, setL w⟩] else []
def l3E (w names : List (List UInt8)) : List Inv :=
  if (decide (w.getD 1 [] = [37]) && decide ((w.length : Int) = 5)) = true then [⟨6, atI names (w.getD 0 []), 0, (numL (w.getD 4 [])).1, (numL (w.getD 2 [])).1, []⟩] else []
def l4E (w names : List (List UInt8)) : List Inv :=
  if (decide (w.getD 1 [] = [61, 61]) && decide ((w.length : Int) = 7)) = true then [⟨11, atI names (w.getD 4 []), atI names (w.getD 0 []), (numL (w.getD 2 [])).1, (numL (w.getD 6 [])).1, []⟩] else []
/-- guesses. -/
def guessesE (w names : List (List UInt8)) : List Inv := if (w.length : Int) < 3 then [] else l1E w names ++ l2E w names ++ l3E w names ++ l4E w names
theorem kinds_two (s : List UInt8) : kindsE s ≠ 2 := by
  unfold kindsE
  repeat' split
  all_goals decide
theorem pairs_two (s : List UInt8) : pairsE s ≠ 2 := by
  unfold pairsE
  repeat' split
  all_goals decide

/-- The claim is not the one with the text. -/
def badB (t : List UInt8) (names : List (List UInt8)) (x : Inv) : Bool := decide ((writeE x names).2 ≠ 0) || !decide ((writeE x names).1 = t)
/-- Read, as package learn has it. -/
def readL (t : List UInt8) (names : List (List UInt8)) : Inv × Int :=
  if namedE names ≠ 0 then (zI, namedE names)
  else if (names.length : Int) = 0 then (zI, 1)
  else if (8 : Int) < names.length then (zI, 3)
  else if (!names.any fun y => decide ((wordsE t).getD 0 [] = y)) = true then (zI, 5)
  else match (guessesE (wordsE t) names).find? (fun x => !badB t names x) with
    | some x => (x, 0)
    | none => (zI, 4)
theorem setL_len {w : List (List UInt8)} (h : w.length ≤ 1001) : (setL w).length ≤ 1000 := by
  unfold setL
  split
  · rw [List.length_map, List.length_drop]; omega
  · simp
theorem guesses_kind {w names : List (List UInt8)} : ∀ x ∈ guessesE w names, (x.kind = 2 → x.set = setL w) ∧ (x.kind ≠ 2 → x.set = []) := by
  intro x hx
  unfold guessesE at hx
  split at hx
  · simp at hx
  · simp only [List.mem_append] at hx
    rcases hx with ((hx | hx) | hx) | hx
    · unfold l1E at hx
      split at hx
      · simp only [List.mem_singleton] at hx
        subst hx
        exact ⟨fun h => absurd h (kinds_two _), fun _ => rfl⟩
      · split at hx
        · simp only [List.mem_singleton] at hx
          subst hx
          exact ⟨fun h => absurd h (pairs_two _), fun _ => rfl⟩
        · simp at hx
    · unfold l2E at hx
      split at hx
      · simp only [List.mem_singleton] at hx
        subst hx
        exact ⟨fun _ => rfl, fun h => absurd rfl h⟩
      · simp at hx
    · unfold l3E at hx
      split at hx
      · simp only [List.mem_singleton] at hx
        subst hx
        exact ⟨fun h => by simp at h, fun _ => rfl⟩
      · simp at hx
    · unfold l4E at hx
      split at hx
      · simp only [List.mem_singleton] at hx
        subst hx
        exact ⟨fun h => by simp at h, fun _ => rfl⟩
      · simp at hx
end Go.Proofs.YtgbgddmbooaddaaGreatDoor

namespace Go.Proofs.YtgbgddmbooaddaaGreatDoor
open Go.RowKit Go.MapKept

section
variable {P : Program} {n : Nat} {e : Env} {w0 : World} {L : List BP} {R : List Rw} {F : List BP} {Q : Exit → Act → World → Prop} {ops : Array Oper} {rest : List Oper}
variable {κ β : Type} [DecidableEq κ]
/-- An entry of a literal. -/
theorem H.insert {ke : κ → Value} {ve : β → Value} {l : List (κ × β)} {mty kt et : TypeId} {D : Value → Prop} {t : TypeId} {p : String} {af : Array Edge} {x y z : Operand} {b : Nat} (i : Nat) (k : κ) (v : β) (K : KL P kt D) (hm : P.underlying mty = some (.map kt et))
    (hinj : ∀ a b, ke a = ke b → a = b) (hD : ∀ p ∈ l, D (ke p.1)) (hk : D (ke k)) (hL : L[i]? = some (b, IsMap ke ve l)) (hx : eev e x = some (.map (some b))) (hy : eev e y = some (ke k)) (hz : eev e z = some (ve v))
    (h : H n e (Hp w0 (L.set i (b, IsMap ke ve (mput l k v))) R F) (wpList P ops Q rest)) :
    H n e (Hp w0 L R F) (wpList P ops Q (⟨none, .insert mty x y z, t, p, af, none⟩ :: rest)) := by
  intro a w hf hc
  refine wpList_plain rfl fun KK hK => ?_
  obtain ⟨o, ho, es, clock, rfl, hst, hes⟩ := hc.own _ (List.mem_of_getElem? hL)
  replace ho : w.heap[b]? = some (.map es clock) := ho
  have hkeys : ∀ e ∈ es.toList, D e.key := fun e he => by
    obtain ⟨p, hp, h1, _⟩ := map_mem hes he
    rw [h1]; exact hD p hp
  rcases K.find w hk es.toList hkeys with ⟨h1, h2⟩ | ⟨j, e0, h1, h2, h3⟩
  · have hr : (execOp a.eval ⟨none, .insert mty x y z, t, p, af, none⟩).run P w = .ok .skip { w with heap := w.heap.setIfInBounds b (.map (es.push { key := ke k, val := ve v, born := clock }) (clock + 1)) } := by
      simp [execOp, hf.ev hx, hf.ev hy, hf.ev hz, Instr.mapUpdate, run_underlying hm, MapKept.run_getObj_map ho, K.check w _ hk, h1, MapKept.run_setObj_map _ ho, Result.andThen]
    unfold Oper.wp
    rw [hr]
    refine hK _ _ (h _ _ hf (hc.store i _ hL rfl rfl rfl (by simp) (heap_set ho).1 ?_ (heap_set ho).2))
    refine ⟨_, _, rfl, stamped_push hst h2, ?_⟩
    have hno : l.any (fun p => decide (p.1 = k)) = false := List.any_eq_false.2 fun q hq => by
      simp only [decide_eq_true_eq]
      intro he
      obtain ⟨x, hx, hx1, _⟩ := map_mem' hes hq
      exact h2 x hx (by rw [hx1, he])
    simp [mput, hno, hes]
  · have hj : es[j]? = some e0 := by simpa using h2
    have hr : (execOp a.eval ⟨none, .insert mty x y z, t, p, af, none⟩).run P w = .ok .skip { w with heap := w.heap.setIfInBounds b (.map (es.modify j fun e => { e with key := ke k, val := ve v }) clock) } := by
      simp [execOp, hf.ev hx, hf.ev hy, hf.ev hz, Instr.mapUpdate, run_underlying hm, MapKept.run_getObj_map ho, K.check w _ hk, h1, hj, h3, K.stays w hk, MapKept.run_setObj_map _ ho, Result.andThen]
    unfold Oper.wp
    rw [hr]
    have hkey : ∀ e', es[j]? = some e' → ({ e' with key := ke k, val := ve v } : MapEntry).key = e'.key := fun e' he' => by rw [hj] at he'; cases he'; exact h3.symm
    refine hK _ _ (h _ _ hf (hc.store i _ hL rfl rfl rfl (by simp) (heap_set ho).1 ?_ (heap_set ho).2))
    refine ⟨_, _, rfl, stamped_modify hst _ _ (fun _ _ => rfl) (fun e' _ he' => hkey e' he'), ?_⟩
    obtain ⟨q, hq, hq1, hq2⟩ := map_at hes h2
    have hqk : q.1 = k := hinj _ _ (by rw [← hq1, h3])
    have hyes : l.any (fun p => decide (p.1 = k)) = true := List.any_eq_true.2 ⟨q, List.mem_of_getElem? hq, by simpa using hqk⟩
    rw [mput, if_pos hyes]
    apply List.ext_getElem?
    intro m
    rw [Array.toList_modify, List.getElem?_map, List.getElem?_modify]
    simp only [List.getElem?_map]
    have hm2 := congrArg (fun l => l[m]?) hes
    simp only [List.getElem?_map] at hm2
    by_cases hjm : j = m
    · subst hjm
      simp only [h2, hq, Option.map_some, if_pos hqk, if_true]
      rfl
    · simp only [if_neg hjm]
      cases hlm : l[m]? with
      | none => rw [hlm] at hm2; simpa using hm2
      | some q' =>
        rw [hlm] at hm2
        have : q'.1 ≠ k := fun he => by
          have hnd := hst.2.2
          have e1 : (es.toList.map (·.key))[j]? = some (ke k) := by simp only [List.getElem?_map, h2, Option.map_some, h3]
          have e2 : (es.toList.map (·.key))[m]? = some (ke k) := by
            simp only [Option.map_some, Option.map_eq_some_iff, Prod.mk.injEq] at hm2
            obtain ⟨x, hx, hx1, _⟩ := hm2
            simp only [List.getElem?_map, hx, Option.map_some, hx1, he]
          have hlt : j < (es.toList.map (·.key)).length := (List.getElem?_eq_some_iff.1 e1).1
          exact hjm ((List.getElem?_inj hlt hnd).1 (by rw [e1, e2]))
        simp only [Option.map_some, if_neg this]
        simpa using hm2
end

section
variable {P : Program} {n : Nat} {e : Env} {C : World → Prop} {d : Option Tmp} {t : TypeId} {p : String} {af : Array Edge} {g : Option (Nat × Bool)}
/-- 's[a:]' of a slice. -/
theorem yl_slfrom {x lo : Operand} {ty el sz len cap : Nat} {ad : Option Addr} {k1 : IntKind} {a : Int} (i : Nat) (hu : P.underlying ty = some (.slice el)) (hsz : ∀ w, (sizeOf el).run P w = .ok sz w) (hx : eev e x = some (.slice ad len cap)) (hlo : eev e lo = some (.int k1 a)) (ha : a = (i : Int)) (hi : i ≤ len) :
    Yl P C n e ⟨d, .slice ty x (some lo) none none, t, p, af, g⟩ (.slice (if cap = i then ad else ad.map (·.add (i * sz))) (len - i) (cap - i)) :=
  Yl.val fun ac w hf _ => by
    subst ha
    simp [execOp, hf.ev hx, hf.ev hlo, Instr.sliceAt, Instr.slice, run_underlying hu, Instr.sliceBounds, Instr.sliceBound, asIntOf, hi, hsz w, Result.andThen]
end
theorem atL_v (s : List UInt8) (names : List (List UInt8)) (nv : Value) (b : Nat) (w0 : World) (hl : names.length ≤ 1000) (hv : IsStrs w0 nv names) (hb : w0.cell? ⟨b, 0, none⟩ = some nv) : Calls Tryz.prog 75 ([strV s] ++ [Value.pointer (some ⟨b, 0, none⟩)]).toArray w0 fun e w' => e = .returned (.int .i64 (atI names s)) ∧ Ext w0 w' := by
  have := atL_any s names nv b w0 hl hv hb
  rw [atL_eq] at this
  exact this
theorem kinds_look (s : List UInt8) : ((mget (mput (mput (mput (mput [] [61, 61] (1 : Int)) [62, 61] 3) [60, 61] 4) [33, 61] 5) s).elim (.int .u8 0) (Value.int .u8 ·)) = .int .u8 (kindsE s) := by
  rw [show mput (mput (mput (mput ([] : List (List UInt8 × Int)) [61, 61] (1 : Int)) [62, 61] 3) [60, 61] 4) [33, 61] 5 = [([61, 61], 1), ([62, 61], 3), ([60, 61], 4), ([33, 61], 5)] by decide]
  unfold kindsE
  by_cases h1 : s = [61, 61]
  · rw [if_pos h1, h1]; rfl
  rw [if_neg h1]
  by_cases h2 : s = [62, 61]
  · rw [if_pos h2, h2]; rfl
  rw [if_neg h2]
  by_cases h3 : s = [60, 61]
  · rw [if_pos h3, h3]; rfl
  rw [if_neg h3]
  by_cases h4 : s = [33, 61]
  · rw [if_pos h4, h4]; rfl
  rw [if_neg h4]
  simp [mget, List.find?, Ne.symm h1, Ne.symm h2, Ne.symm h3, Ne.symm h4]
theorem pairs_look (s : List UInt8) : ((mget (mput (mput (mput (mput [] [61, 61] (7 : Int)) [33, 61] 8) [60] 9) [60, 61] 10) s).elim (.int .u8 0) (Value.int .u8 ·)) = .int .u8 (pairsE s) := by
  rw [show mput (mput (mput (mput ([] : List (List UInt8 × Int)) [61, 61] (7 : Int)) [33, 61] 8) [60] 9) [60, 61] 10 = [([61, 61], 7), ([33, 61], 8), ([60], 9), ([60, 61], 10)] by decide]
  unfold pairsE
  by_cases h1 : s = [61, 61]
  · rw [if_pos h1, h1]; rfl
  rw [if_neg h1]
  by_cases h2 : s = [33, 61]
  · rw [if_pos h2, h2]; rfl
  rw [if_neg h2]
  by_cases h3 : s = [60]
  · rw [if_pos h3, h3]; rfl
  rw [if_neg h3]
  by_cases h4 : s = [60, 61]
  · rw [if_pos h4, h4]; rfl
  rw [if_neg h4]
  simp [mget, List.find?, Ne.symm h1, Ne.symm h2, Ne.symm h3, Ne.symm h4]

/-- The cells of claims; that of the kind 2 has the set 'sv'. -/
def clS (sv : Value) (l : List Inv) : List Value := (l.map fun x => cellsI (if x.kind = 2 then sv else .slice none 0 0, x)).flatten
theorem clS_append (sv : Value) (l m : List Inv) : clS sv (l ++ m) = clS sv l ++ clS sv m := by simp [clS]
theorem clS_one {sv : Value} {x : Inv} (h : x.kind ≠ 2) : clS sv [x] = [.int .u8 x.kind, .int .i64 x.a, .int .i64 x.b, .int .i64 x.k, .int .i64 x.m, .slice none 0 0] := by simp [clS, h]
theorem clS_set {sv : Value} {x : Inv} (h : x.kind = 2) : clS sv [x] = [.int .u8 x.kind, .int .i64 x.a, .int .i64 x.b, .int .i64 x.k, .int .i64 x.m, sv] := by simp [clS, h]
theorem clS_l1 (sv sv' : Value) (w names : List (List UInt8)) : clS sv (l1E w names) = clS sv' (l1E w names) := by
  unfold l1E
  split
  · rw [clS_one (kinds_two _), clS_one (kinds_two _)]
  · split
    · rw [clS_one (pairs_two _), clS_one (pairs_two _)]
    · rfl
end Go.Proofs.YtgbgddmbooaddaaGreatDoor

