/- A run of the closed interpreter that answers true, at numbers, tells of the law's call in any world: it returns true, and of what was there nothing turns. Condition: the listed table strings.asciiSpace reads as laid. -/
import Derived.Test.YtmceojbefepanaaDoorTab
import Derived.Test.YtmceojbefepanaaDoorRows
import Derived.WalkKit
import Derived.ProofKit
import Derived.OpenShut
import Derived.Lib.LaidTab
import Derived.Lib.Space
set_option linter.unusedVariables false
set_option linter.unusedSimpArgs false
namespace Go.Proofs.YtmceojbefepanaaDoor
open Go Go.CR Go.RowKit

/-- of what was there nothing turns -/
def Kept (w w' : World) : Prop := w.keptBut w' (fun _ => False)

theorem kept_of {w w' : World} (hos : w'.os = w.os) (ho : w'.output = w.output) (hf : ∀ b, b < w.heap.size → w'.heap[b]? = w.heap[b]?) : Kept w w' := by
  refine ⟨hos, ho, fun i hi => ?_⟩
  rw [hf i hi]
  rcases hx : w.heap[i]? with _ | o
  · trivial
  · cases o <;> simp

theorem of_ok {run : Caller} (hrun : RunOk Tryd.prog cZ run) {a b : Int} {f : FuncId} (h : okZ (run f [.d (.int .i64 a), .d (.int .i64 b)] []) = true) {w : World} (hG : Go.DW.GOk GZ w (fun b => b = 0)) (h0 : 0 < w.heap.size) :
    Calls Tryd.prog f #[.int .i64 a, .int .i64 b] w fun e w' => e = .returned (.bool true) ∧ Kept w w' := by
  unfold okZ at h
  split at h
  · rename_i v s d hr
    split at h
    · rename_i b1 hb1
      subst h
      have hst : CR.Start cZ.T w (fun b => b = 0) [] (fun _ => ((0, 0, 0) : CR.Place)) := by
        refine ⟨?_, ?_, ?_⟩
        · intro id o ho; cases ho
        · intro i j o o' ho; cases ho
        · intro b hb; subst hb; exact ⟨h0, fun j hl => by cases hl⟩
      obtain ⟨_, hc⟩ := hrun _ _ _ _ hr w (fun b => b = 0) (fun _ => (0, 0, 0)) #[.int .i64 a, .int .i64 b] hst hG (by simp [VRL, VR, DW.RV])
      refine hc.mono ?_
      rintro e w' ⟨u, S, β, rfl, ha⟩
      have hu : u = .bool true := boolV_vr hb1 ha.val
      subst hu
      exact ⟨rfl, kept_of ha.os ha.output fun b hb => ha.frame b hb fun j _ hl => by cases hl⟩
    · cases h
  · cases h

section
open Go.ChangeShapes Go.WideShapes
variable {H : Type} {enc : TypeId × Value → H} {P : Program}
/-- a law's end, where no argument leads to memory -/
theorem post_plain {f : Func} {s : ChangeSpec} {apart fresh handsOn again : Bool} {W W' : World} {args : Array Value} {v : Value} {ds gs : List (DataW H)}
    (hW : DataW.Whole enc P f.params.toList s.vars apart W args.toList ds gs [])
    (hres : ∀ (b : Nat) (sp : Nat → Bool) (hd : Bool), DataW.TrodAll enc P W' b sp hd f.resultTypes.toList (v.resultList f.resultTypes.size) (s.fn H (ds ++ gs)).results [])
    (hargs : ∀ sp : Nat → Bool, DataW.TrodAll enc P W' 0 sp true f.params.toList args.toList (s.fn H (ds ++ gs)).args [])
    (hvars : ∀ sp : Nat → Bool, DataW.TrodVars enc P W' sp s.vars (s.fn H (ds ++ gs)).vars [])
    (hk : Kept W W')
    (hok : ∀ (j : Nat) (t : TypeId) (r : Value), f.resultTypes[j]? = some t → (v.resultList f.resultTypes.size)[j]? = some r → Value.okWide P W' .any 0 t r) :
    s.post enc P f apart fresh handsOn again W args v W' :=
  ⟨ds, gs, [], [], [], [], hW, hres _ _ _, hargs _, hvars _, World.keptBut_mono (fun p hp => hp.elim) hk, fun _ =>
    ⟨hok, _, _, [], ⟨[], [], trodAll_append (hargs _) (hres _ _ _), hvars _, rfl, fun _ _ h => by simp at h, fun _ => List.nodup_nil⟩, fun _ h _ => h⟩⟩
end

theorem ril_of {w : World} {A : Nat → Prop} : ∀ l : List Int, DW.RIL w A (l.map fun n => DW.D.int .u8 n) (l.map fun n => Value.int .u8 n)
  | [] => by simp [DW.RIL]
  | n :: r => by
    simp only [List.map_cons, DW.RIL]
    exact ⟨_, _, rfl, by simp [DW.RI], ril_of r⟩
/-- the table strings.asciiSpace, as laid -/
theorem gok_of {W : World} (h : Lib.TabIs Tryd.prog W "strings.asciiSpace" .u8 Lib.asciiSpaceTab) : Go.DW.GOk GZ W (fun b => b = 0) ∧ 0 < W.heap.size := by
  have hg : Tryd.prog.globalNamed "strings.asciiSpace" = some 0 := by kernel_rfl
  have hlen : Lib.asciiSpaceTab.length = 256 := by kernel_rfl
  have hcell : ∀ i, i < 256 → W.cell? ⟨0, i, none⟩ = some (.int .u8 (Lib.asciiSpaceTab.getD i 0)) := fun i hi => h.cell hg i (by omega)
  refine ⟨?_, ?_⟩
  · intro g cells hc
    have hz : g = 0 := by
      unfold GZ at hc
      split at hc
      · rfl
      · cases hc
    subst hz
    have hc : ascZ = cells := Option.some.inj hc
    have e : ascZ = (Lib.asciiSpaceTab.take 128).map fun n => DW.D.int .u8 n := by kernel_rfl
    subst hc
    rw [e]
    refine ⟨(Lib.asciiSpaceTab.take 128).map fun n => Value.int .u8 n, rfl, ?_, ril_of _⟩
    intro j v hj
    rw [List.getElem?_map, List.getElem?_take] at hj
    split at hj
    · rename_i hlt
      rw [Nat.zero_add, hcell j (by omega)]
      have : (Lib.asciiSpaceTab)[j]? = some (Lib.asciiSpaceTab.getD j 0) := by
        rw [List.getD_eq_getElem?_getD, List.getElem?_eq_getElem (by omega)]
        rfl
      rw [this] at hj
      exact hj
    · cases hj
  · have := hcell 0 (by omega)
    exact Nat.lt_of_not_le fun hn => by
      unfold World.cell? at this
      rw [Array.getElem?_eq_none hn] at this
      simp at this
end Go.Proofs.YtmceojbefepanaaDoor
