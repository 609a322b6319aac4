/- The law 'FnExactProgramFor' answers true at every two numbers, and changes nothing: the row's statement and its card. Conditions: the row's own (the listed variables read as the program's text lays them). -/
import Derived.Test.YtmceojbefepanaaDoorCards
import Derived.Test.YtmceojbefepanaaDoorTie
import Derived.Test.YtmceojbefepanaaDoorLaw
import Derived.Test.YtmceojbefepanaaDoorOut
import Derived.Test.YtmceojbefepanaaDoorRunA
import Derived.Test.YtmceojbefepanaaDoorRunB
import Derived.Test.YtmceojbefepanaaDoorRunC
import Derived.Test.YtmceojbefepanaaDoorRunD
import Derived.Test.YtmceojbefepanaaDoorRunE
import Derived.Test.YtmceojbefepanaaDoorRunF
import Derived.Test.YtmceojbefepanaaDoorRunG
import Derived.Test.YtmceojbefepanaaDoorRunH
import Derived.Test.YtmceojbefepanaaDoorRunI
import Derived.Test.YtmceojbefepanaaDoorRunJ
import Derived.Test.YtmceojbefepanaaDoorRunK
import Derived.Test.YtmceojbefepanaaDoorRunL
import Derived.WalkKit
import Derived.ProofKit
import Derived.OpenShut
import Derived.LaidMore
import Derived.Lay
import Derived.SevenTiedAt
import Derived.Stop.Joined
import Derived.Lib.LaidTab
import Derived.Lib.Space
set_option linter.unusedVariables false
set_option linter.unusedSimpArgs false
namespace Go.Proofs.YtmceojbefepanaaDoor.fnExactProgramFor
open Go.ChangeShapes Go.WideShapes Go.ChangeAt Go.RowKit

theorem own : ownKnob Tryd.prog.godebug = none := by kernel_rfl
theorem walk_0 (w : World) (hG : Go.DW.GOk GZ w (fun b => b = 0)) (h0 : 0 < w.heap.size) : ∀ a1 : Int, Calls Tryd.prog 3 #[.int .i64 0, .int .i64 a1] w fun e w' => e = .returned (.bool true) ∧ Kept w w'
  | .negSucc n => of_ok (runZ 1000) (outW1_0 n) hG h0
  | .ofNat 0 => of_ok (runZ 1000) outW3_0 hG h0
  | .ofNat 1 => of_ok (runZ 1000) run_0_1 hG h0
  | .ofNat 2 => of_ok (runZ 1000) run_0_2 hG h0
  | .ofNat 3 => of_ok (runZ 1000) run_0_3 hG h0
  | .ofNat 4 => of_ok (runZ 1000) run_0_4 hG h0
  | .ofNat (n + 5) => of_ok (runZ 1000) (outW2_0 n) hG h0
theorem walk_1 (w : World) (hG : Go.DW.GOk GZ w (fun b => b = 0)) (h0 : 0 < w.heap.size) : ∀ a1 : Int, Calls Tryd.prog 3 #[.int .i64 1, .int .i64 a1] w fun e w' => e = .returned (.bool true) ∧ Kept w w'
  | .negSucc n => of_ok (runZ 1000) (outW1_1 n) hG h0
  | .ofNat 0 => of_ok (runZ 1000) outW3_1 hG h0
  | .ofNat 1 => of_ok (runZ 1000) run_1_1 hG h0
  | .ofNat 2 => of_ok (runZ 1000) run_1_2 hG h0
  | .ofNat 3 => of_ok (runZ 1000) run_1_3 hG h0
  | .ofNat 4 => of_ok (runZ 1000) run_1_4 hG h0
  | .ofNat (n + 5) => of_ok (runZ 1000) (outW2_1 n) hG h0
theorem walk_2 (w : World) (hG : Go.DW.GOk GZ w (fun b => b = 0)) (h0 : 0 < w.heap.size) : ∀ a1 : Int, Calls Tryd.prog 3 #[.int .i64 2, .int .i64 a1] w fun e w' => e = .returned (.bool true) ∧ Kept w w'
  | .negSucc n => of_ok (runZ 1000) (outW1_2 n) hG h0
  | .ofNat 0 => of_ok (runZ 1000) outW3_2 hG h0
  | .ofNat 1 => of_ok (runZ 1000) run_2_1 hG h0
  | .ofNat 2 => of_ok (runZ 1000) run_2_2 hG h0
  | .ofNat 3 => of_ok (runZ 1000) run_2_3 hG h0
  | .ofNat 4 => of_ok (runZ 1000) run_2_4 hG h0
  | .ofNat (n + 5) => of_ok (runZ 1000) (outW2_2 n) hG h0
theorem walk_3 (w : World) (hG : Go.DW.GOk GZ w (fun b => b = 0)) (h0 : 0 < w.heap.size) : ∀ a1 : Int, Calls Tryd.prog 3 #[.int .i64 3, .int .i64 a1] w fun e w' => e = .returned (.bool true) ∧ Kept w w'
  | .negSucc n => of_ok (runZ 1000) (outW1_3 n) hG h0
  | .ofNat 0 => of_ok (runZ 1000) outW3_3 hG h0
  | .ofNat 1 => of_ok (runZ 1000) run_3_1 hG h0
  | .ofNat 2 => of_ok (runZ 1000) run_3_2 hG h0
  | .ofNat 3 => of_ok (runZ 1000) run_3_3 hG h0
  | .ofNat 4 => of_ok (runZ 1000) run_3_4 hG h0
  | .ofNat (n + 5) => of_ok (runZ 1000) (outW2_3 n) hG h0
theorem walk_4 (w : World) (hG : Go.DW.GOk GZ w (fun b => b = 0)) (h0 : 0 < w.heap.size) : ∀ a1 : Int, Calls Tryd.prog 3 #[.int .i64 4, .int .i64 a1] w fun e w' => e = .returned (.bool true) ∧ Kept w w'
  | .negSucc n => of_ok (runZ 1000) (outW1_4 n) hG h0
  | .ofNat 0 => of_ok (runZ 1000) outW3_4 hG h0
  | .ofNat 1 => of_ok (runZ 1000) run_4_1 hG h0
  | .ofNat 2 => of_ok (runZ 1000) run_4_2 hG h0
  | .ofNat 3 => of_ok (runZ 1000) run_4_3 hG h0
  | .ofNat 4 => of_ok (runZ 1000) run_4_4 hG h0
  | .ofNat (n + 5) => of_ok (runZ 1000) (outW2_4 n) hG h0
theorem walk_5 (w : World) (hG : Go.DW.GOk GZ w (fun b => b = 0)) (h0 : 0 < w.heap.size) : ∀ a1 : Int, Calls Tryd.prog 3 #[.int .i64 5, .int .i64 a1] w fun e w' => e = .returned (.bool true) ∧ Kept w w'
  | .negSucc n => of_ok (runZ 1000) (outW1_5 n) hG h0
  | .ofNat 0 => of_ok (runZ 1000) outW3_5 hG h0
  | .ofNat 1 => of_ok (runZ 1000) run_5_1 hG h0
  | .ofNat 2 => of_ok (runZ 1000) run_5_2 hG h0
  | .ofNat 3 => of_ok (runZ 1000) run_5_3 hG h0
  | .ofNat 4 => of_ok (runZ 1000) run_5_4 hG h0
  | .ofNat (n + 5) => of_ok (runZ 1000) (outW2_5 n) hG h0
theorem walk_6 (w : World) (hG : Go.DW.GOk GZ w (fun b => b = 0)) (h0 : 0 < w.heap.size) : ∀ a1 : Int, Calls Tryd.prog 3 #[.int .i64 6, .int .i64 a1] w fun e w' => e = .returned (.bool true) ∧ Kept w w'
  | .negSucc n => of_ok (runZ 1000) (outW1_6 n) hG h0
  | .ofNat 0 => of_ok (runZ 1000) outW3_6 hG h0
  | .ofNat 1 => of_ok (runZ 1000) run_6_1 hG h0
  | .ofNat 2 => of_ok (runZ 1000) run_6_2 hG h0
  | .ofNat 3 => of_ok (runZ 1000) run_6_3 hG h0
  | .ofNat 4 => of_ok (runZ 1000) run_6_4 hG h0
  | .ofNat (n + 5) => of_ok (runZ 1000) (outW2_6 n) hG h0
theorem walk_7 (w : World) (hG : Go.DW.GOk GZ w (fun b => b = 0)) (h0 : 0 < w.heap.size) : ∀ a1 : Int, Calls Tryd.prog 3 #[.int .i64 7, .int .i64 a1] w fun e w' => e = .returned (.bool true) ∧ Kept w w'
  | .negSucc n => of_ok (runZ 1000) (outW1_7 n) hG h0
  | .ofNat 0 => of_ok (runZ 1000) outW3_7 hG h0
  | .ofNat 1 => of_ok (runZ 1000) run_7_1 hG h0
  | .ofNat 2 => of_ok (runZ 1000) run_7_2 hG h0
  | .ofNat 3 => of_ok (runZ 1000) run_7_3 hG h0
  | .ofNat 4 => of_ok (runZ 1000) run_7_4 hG h0
  | .ofNat (n + 5) => of_ok (runZ 1000) (outW2_7 n) hG h0
theorem walk_8 (w : World) (hG : Go.DW.GOk GZ w (fun b => b = 0)) (h0 : 0 < w.heap.size) : ∀ a1 : Int, Calls Tryd.prog 3 #[.int .i64 8, .int .i64 a1] w fun e w' => e = .returned (.bool true) ∧ Kept w w'
  | .negSucc n => of_ok (runZ 1000) (outW1_8 n) hG h0
  | .ofNat 0 => of_ok (runZ 1000) outW3_8 hG h0
  | .ofNat 1 => of_ok (runZ 1000) run_8_1 hG h0
  | .ofNat 2 => of_ok (runZ 1000) run_8_2 hG h0
  | .ofNat 3 => of_ok (runZ 1000) run_8_3 hG h0
  | .ofNat 4 => of_ok (runZ 1000) run_8_4 hG h0
  | .ofNat (n + 5) => of_ok (runZ 1000) (outW2_8 n) hG h0
theorem walk_9 (w : World) (hG : Go.DW.GOk GZ w (fun b => b = 0)) (h0 : 0 < w.heap.size) : ∀ a1 : Int, Calls Tryd.prog 3 #[.int .i64 9, .int .i64 a1] w fun e w' => e = .returned (.bool true) ∧ Kept w w'
  | .negSucc n => of_ok (runZ 1000) (outW1_9 n) hG h0
  | .ofNat 0 => of_ok (runZ 1000) outW3_9 hG h0
  | .ofNat 1 => of_ok (runZ 1000) run_9_1 hG h0
  | .ofNat 2 => of_ok (runZ 1000) run_9_2 hG h0
  | .ofNat 3 => of_ok (runZ 1000) run_9_3 hG h0
  | .ofNat 4 => of_ok (runZ 1000) run_9_4 hG h0
  | .ofNat (n + 5) => of_ok (runZ 1000) (outW2_9 n) hG h0
theorem walk_10 (w : World) (hG : Go.DW.GOk GZ w (fun b => b = 0)) (h0 : 0 < w.heap.size) : ∀ a1 : Int, Calls Tryd.prog 3 #[.int .i64 10, .int .i64 a1] w fun e w' => e = .returned (.bool true) ∧ Kept w w'
  | .negSucc n => of_ok (runZ 1000) (outW1_10 n) hG h0
  | .ofNat 0 => of_ok (runZ 1000) outW3_10 hG h0
  | .ofNat 1 => of_ok (runZ 1000) run_10_1 hG h0
  | .ofNat 2 => of_ok (runZ 1000) run_10_2 hG h0
  | .ofNat 3 => of_ok (runZ 1000) run_10_3 hG h0
  | .ofNat 4 => of_ok (runZ 1000) run_10_4 hG h0
  | .ofNat (n + 5) => of_ok (runZ 1000) (outW2_10 n) hG h0
theorem walk_11 (w : World) (hG : Go.DW.GOk GZ w (fun b => b = 0)) (h0 : 0 < w.heap.size) : ∀ a1 : Int, Calls Tryd.prog 3 #[.int .i64 11, .int .i64 a1] w fun e w' => e = .returned (.bool true) ∧ Kept w w'
  | .negSucc n => of_ok (runZ 1000) (outW1_11 n) hG h0
  | .ofNat 0 => of_ok (runZ 1000) outW3_11 hG h0
  | .ofNat 1 => of_ok (runZ 1000) run_11_1 hG h0
  | .ofNat 2 => of_ok (runZ 1000) run_11_2 hG h0
  | .ofNat 3 => of_ok (runZ 1000) run_11_3 hG h0
  | .ofNat 4 => of_ok (runZ 1000) run_11_4 hG h0
  | .ofNat (n + 5) => of_ok (runZ 1000) (outW2_11 n) hG h0
theorem walk (w : World) (hG : Go.DW.GOk GZ w (fun b => b = 0)) (h0 : 0 < w.heap.size) : ∀ a0 a1 : Int, Calls Tryd.prog 3 #[.int .i64 a0, .int .i64 a1] w fun e w' => e = .returned (.bool true) ∧ Kept w w'
  | .negSucc n, a1 => of_ok (runZ 1000) (outK1 n a1) hG h0
  | .ofNat 0, a1 => walk_0 w hG h0 a1
  | .ofNat 1, a1 => walk_1 w hG h0 a1
  | .ofNat 2, a1 => walk_2 w hG h0 a1
  | .ofNat 3, a1 => walk_3 w hG h0 a1
  | .ofNat 4, a1 => walk_4 w hG h0 a1
  | .ofNat 5, a1 => walk_5 w hG h0 a1
  | .ofNat 6, a1 => walk_6 w hG h0 a1
  | .ofNat 7, a1 => walk_7 w hG h0 a1
  | .ofNat 8, a1 => walk_8 w hG h0 a1
  | .ofNat 9, a1 => walk_9 w hG h0 a1
  | .ofNat 10, a1 => walk_10 w hG h0 a1
  | .ofNat 11, a1 => walk_11 w hG h0 a1
  | .ofNat (n + 12), a1 => of_ok (runZ 1000) (outK2 n a1) hG h0

theorem tab_cells {W : World} (h : laidMetH Tryd.prog Rows.fnExactProgramForRow.laid W) : Lib.TabIs Tryd.prog W "strings.asciiSpace" .u8 Lib.asciiSpaceTab := by
  rw [MakeChecks.laidMetH_plain _ _ _ (by kernel_rfl)] at h
  obtain ⟨ps, ⟨_, _, _, _, _, _, _, _, _, _, ⟨_, _, _, _, _, _, _, _, _, _, ⟨_, _, _, _, _, _, _, _, _, _, ⟨_, _, _, _, _, _, _, _, _, _, ⟨_, _, _, _, _, _, _, _, _, _, ⟨_, _, _, _, _, _, _, _, _, _, ⟨_, _, _, _, _, _, _, _, _, _, ⟨g, t, cs, fuel, p, q, hg, ht, hv, hd, _, _⟩, _⟩, _⟩, _⟩, _⟩, _⟩, _⟩, _⟩, _⟩ := h
  obtain rfl := Option.some.inj ((show Tryd.prog.globalNamed "strings.asciiSpace" = some 0 by kernel_rfl).symm.trans hg)
  obtain rfl := Option.some.inj ((show (Tryd.prog.globals[0]?).map (·.type) = some 62 by kernel_rfl).symm.trans ht)
  have e : (Rows.laid_strings_asciiSpace : DataW Unit) = Lib.tabData .u8 Lib.asciiSpaceTab := by kernel_rfl
  rw [e] at hd
  unfold Lib.TabIs
  rw [hv, ← Lib.cells_of_tab Tryd.underlying62 Tryd.underlying5 (show Tryd.prog.cellsOf 5 = 1 by kernel_rfl) (show Tryd.prog.cellsOf 62 = 256 by kernel_rfl) hd]

set_option maxRecDepth 100000 in
theorem lifted (os : Os) (started : os.Started) (H : Type) (enc : TypeId × Value → H) :
    ReturnsInHanded {} Tryd.checked os 3 .any (fun w args => (Rows.fnExactProgramForSpec.pre enc Tryd.prog Tryd.f3 Rows.fnExactProgramForRow.domain false w args ∧ laidMetH Tryd.prog Rows.fnExactProgramForRow.laid w) ∧ sizedMet enc Tryd.prog Tryd.f3 (OpenSpec.ofChange Rows.fnExactProgramForSpec) false w args)
      (Rows.fnExactProgramForSpec.post enc Tryd.prog Tryd.f3 false true false false) := by
  refine returnsInHanded_of_change_and (C := Tryd.checked) (X := fun w _ => laidMetH Tryd.prog Rows.fnExactProgramForRow.laid w) (fun _ _ _ hh h => h.of_heap hh) own started (by kernel_rfl) Tryd.func3
    (ChangeSpec.witness_shaped (enc := enc) (C := Tryd.checked) (os := os) (X := fun w _ => laidMetH Tryd.prog Rows.fnExactProgramForRow.laid w) false (World.laidAll Tryd.prog os Rows.fnExactProgramForRow.laid) #[.int .i64 0, .int .i64 0] 8 (World.laidAll_os _ _ _)
      (World.shaped_of_ZipB (by kernel_rfl) (by kernel_rfl)) (by kernel_rfl) (by kernel_rfl) (by kernel_rfl)
      (by rw [MakeChecks.laidMetH_plain _ _ _ (by kernel_rfl)]; exact laidMet_laidAll _ (by kernel_rfl) (by kernel_rfl))) ?_
  intro W base args ds gs before hval0 hW hcnd _ hL _
  have hval : ∀ (j : Nat) t v, Tryd.f3.params[j]? = some t → args[j]? = some v → Value.okWide Tryd.prog W .any base t v := hval0
  have hW' := hW
  obtain ⟨p, q, hA0, hV, rfl, hfz, hnd⟩ := hW
  have hA : DataW.TrodAll enc Tryd.prog W 0 (fun _ => true) true Tryd.f3.params.toList args.toList ds p := hA0
  rw [Tryd.params3] at hA hval
  obtain ⟨v0, vs0, d0, ds0, p0, q0, hargs, rfl, rfl, h0, r0⟩ := trodAll_cons hA
  obtain ⟨v1, vs1, d1, ds1, p1, q1, rfl, rfl, rfl, h1, r1⟩ := trodAll_cons r0
  obtain ⟨rfl, rfl, rfl⟩ := trodAll_nil r1
  obtain rfl : args = #[v0, v1] := by cases args; simp_all
  obtain ⟨rfl, rfl⟩ := trodVars_none hV
  obtain ⟨a0, rfl, rfl, rfl, w0⟩ := open_int Tryd.underlying3 (hval 0 3 v0 rfl rfl) h0
  obtain ⟨a1, rfl, rfl, rfl, w1⟩ := open_int Tryd.underlying3 (hval 1 3 v1 rfl rfl) h1
  clear hA0 hval0
  simp only [List.append_nil] at hW'
  obtain ⟨hG, hs⟩ := gok_of (tab_cells hL)
  refine (walk W hG hs a0 a1).mono fun e W' ⟨he, hg⟩ => ?_
  subst he
  exact ⟨_, rfl, post_plain hW' (fun _ _ _ => (trodAll_cons_mk (shut_bool Tryd.underlying4 _) trodAll_mk0)) (fun sp => (trodAll_cons_mk (shut_int Tryd.underlying3 w0) (trodAll_cons_mk (shut_int Tryd.underlying3 w1) trodAll_mk0))) (fun _ => rfl)
    hg (ok_one (by kernel_rfl) rfl (okWide_bool_mk Tryd.underlying4 _))⟩

theorem over : Rows.fnExactProgramForRow.holds Tryd.pinned (OpenSpec.ofChange Rows.fnExactProgramForSpec) :=
  OpenClaim.holds_of_wide 3 Tryd.f3 rfl rfl rfl rfl rfl rfl rfl ⟨rfl, rfl, rfl, rfl, rfl⟩ rfl rfl rfl rfl rfl (by kernel_rfl) Tryd.func3 (by kernel_rfl)
    (of_decide_eq_true (by kernel_rfl)) (by unfold Func.isWrapper; first | (rw [if_pos (by decide +kernel)]; kernel_rfl) | (rw [if_neg (by decide +kernel)]; exact ⟨rfl, rfl⟩))
    (fun os started H enc _ => lifted os started H enc)

theorem card_proved : Rows.FnExactProgramForCardSaid :=
  Claim7.holds_tied_plain_at .later [] [.data, .data, .data, .data, .sentinel, .sentinel, .listed, .data, .pinned] true (true, "af89ee47e80d36d8171eeedcddcf5d005ee5f1b52ceec404d8d35f9558c567e2") true over (fun _ h => by cases h) (by kernel_rfl) (fun _ h => by cases h) fnExactProgramFor_row_tie rfl ⟨rfl, rfl⟩ (by kernel_rfl) rfl
    (fun f fn hf hfn => by
      obtain rfl : f = 3 := Option.some.inj ((show Tryd.prog.funcNamed "loop.example/g00877/laws.FnExactProgramFor" = some 3 by kernel_rfl).symm.trans hf) |>.symm
      obtain rfl : fn = Tryd.f3 := (Option.some.inj (Tryd.func3.symm.trans hfn)).symm
      exact ⟨by kernel_rfl, fun j t ht => by
        rw [Tryd.params3] at ht
        have hm : t ∈ [3] := by
          have := Array.mem_of_getElem? ht
          simp at this
          simp [this]
        have hall : ([3].all fun u => !Tryd.prog.wantsStandIn u) = true := by kernel_rfl
        have := List.all_eq_true.1 hall t hm
        show Tryd.prog.wantsStandIn t = false
        simpa using this⟩)
    (by kernel_rfl)
#print axioms card_proved
end Go.Proofs.YtmceojbefepanaaDoor.fnExactProgramFor
