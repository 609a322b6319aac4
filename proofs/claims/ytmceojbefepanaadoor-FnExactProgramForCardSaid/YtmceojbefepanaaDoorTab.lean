/- The tables of types, of functions without a body and of one package variable, by which the closed interpreter runs this program. -/
import Derived.Test.YtmceojbefepanaaDoorProg
import Derived.Test.YtmceojbefepanaaDoorCrC
import Derived.KernelRfl
set_option linter.unusedVariables false
set_option linter.unusedSimpArgs false
set_option maxRecDepth 100000
namespace Go.Proofs.YtmceojbefepanaaDoor
open Go Go.DW Go.CR
def tabZ : List (Nat × TI) := [
  (2, ⟨1, 8, [.int .i64 0], .int .i64⟩),
  (3, ⟨1, 8, [.int .i64 0], .int .i64⟩),
  (4, ⟨1, 1, [.ff], .bool⟩),
  (5, ⟨1, 1, [.int .u8 0], .int .u8⟩),
  (6, ⟨1, 1, [.int .u8 0], .int .u8⟩),
  (7, ⟨4, 24, [.int .i64 0, .int .i64 0, .ff, .int .u8 0], .struct [(0, 2), (1, 3), (2, 4), (3, 6)]⟩),
  (8, ⟨4, 24, [.int .i64 0, .int .i64 0, .ff, .int .u8 0], .struct [(0, 2), (1, 3), (2, 4), (3, 6)]⟩),
  (9, ⟨1, 16, [.str ⟨#[]⟩], .str⟩),
  (10, ⟨1, 16, [.str ⟨#[]⟩], .str⟩),
  (11, ⟨1, 16, [.str ⟨#[]⟩], .str⟩),
  (12, ⟨1, 8, [.int .u64 0], .int .u64⟩),
  (13, ⟨2, 24, [.str ⟨#[]⟩, .int .u64 0], .struct [(0, 9), (1, 12)]⟩),
  (14, ⟨2, 24, [.str ⟨#[]⟩, .int .u64 0], .struct [(0, 9), (1, 12)]⟩),
  (15, ⟨1, 8, [.nilp], .ptr 142⟩),
  (16, ⟨1, 8, [.nilp], .ptr 145⟩),
  (17, ⟨1, 8, [.nilp], .ptr 153⟩),
  (18, ⟨1, 8, [.nilp], .struct [(0, 17)]⟩),
  (19, ⟨1, 8, [.nilp], .struct [(0, 17)]⟩),
  (21, ⟨1, 4, [.int .i32 0], .int .i32⟩),
  (22, ⟨1, 24, [.nils], .slice 33⟩),
  (31, ⟨1, 24, [.nils], .slice 9⟩),
  (32, ⟨7, 88, [.int .i64 0, .str ⟨#[]⟩, .str ⟨#[]⟩, .nils, .int .i64 0, .int .i64 0, .int .i64 0], .struct [(0, 3), (1, 9), (2, 9), (3, 31), (4, 3), (5, 3), (6, 3)]⟩),
  (33, ⟨7, 88, [.int .i64 0, .str ⟨#[]⟩, .str ⟨#[]⟩, .nils, .int .i64 0, .int .i64 0, .int .i64 0], .struct [(0, 3), (1, 9), (2, 9), (3, 31), (4, 3), (5, 3), (6, 3)]⟩),
  (39, ⟨1, 24, [.nils], .slice 31⟩),
  (43, ⟨5, 80, [.str ⟨#[]⟩, .str ⟨#[]⟩, .str ⟨#[]⟩, .str ⟨#[]⟩, .str ⟨#[]⟩], .struct [(0, 9), (1, 9), (2, 9), (3, 9), (4, 9)]⟩),
  (44, ⟨5, 80, [.str ⟨#[]⟩, .str ⟨#[]⟩, .str ⟨#[]⟩, .str ⟨#[]⟩, .str ⟨#[]⟩], .struct [(0, 9), (1, 9), (2, 9), (3, 9), (4, 9)]⟩),
  (51, ⟨1, 24, [.nils], .slice 5⟩),
  (62, ⟨256, 256, [.int .u8 0, .int .u8 0, .int .u8 0, .int .u8 0, .int .u8 0, .int .u8 0, .int .u8 0, .int .u8 0, .int .u8 0, .int .u8 0, .int .u8 0, .int .u8 0, .int .u8 0, .int .u8 0, .int .u8 0, .int .u8 0, .int .u8 0, .int .u8 0, .int .u8 0, .int .u8 0, .int .u8 0, .int .u8 0, .int .u8 0, .int .u8 0, .int .u8 0, .int .u8 0, .int .u8 0, .int .u8 0, .int .u8 0, .int .u8 0, .int .u8 0, .int .u8 0, .int .u8 0, .int .u8 0, .int .u8 0, .int .u8 0, .int .u8 0, .int .u8 0, .int .u8 0, .int .u8 0, .int .u8 0, .int .u8 0, .int .u8 0, .int .u8 0, .int .u8 0, .int .u8 0, .int .u8 0, .int .u8 0, .int .u8 0, .int .u8 0, .int .u8 0, .int .u8 0, .int .u8 0, .int .u8 0, .int .u8 0, .int .u8 0, .int .u8 0, .int .u8 0, .int .u8 0, .int .u8 0, .int .u8 0, .int .u8 0, .int .u8 0, .int .u8 0, .int .u8 0, .int .u8 0, .int .u8 0, .int .u8 0, .int .u8 0, .int .u8 0, .int .u8 0, .int .u8 0, .int .u8 0, .int .u8 0, .int .u8 0, .int .u8 0, .int .u8 0, .int .u8 0, .int .u8 0, .int .u8 0, .int .u8 0, .int .u8 0, .int .u8 0, .int .u8 0, .int .u8 0, .int .u8 0, .int .u8 0, .int .u8 0, .int .u8 0, .int .u8 0, .int .u8 0, .int .u8 0, .int .u8 0, .int .u8 0, .int .u8 0, .int .u8 0, .int .u8 0, .int .u8 0, .int .u8 0, .int .u8 0, .int .u8 0, .int .u8 0, .int .u8 0, .int .u8 0, .int .u8 0, .int .u8 0, .int .u8 0, .int .u8 0, .int .u8 0, .int .u8 0, .int .u8 0, .int .u8 0, .int .u8 0, .int .u8 0, .int .u8 0, .int .u8 0, .int .u8 0, .int .u8 0, .int .u8 0, .int .u8 0, .int .u8 0, .int .u8 0, .int .u8 0, .int .u8 0, .int .u8 0, .int .u8 0, .int .u8 0, .int .u8 0, .int .u8 0, .int .u8 0, .int .u8 0, .int .u8 0, .int .u8 0, .int .u8 0, .int .u8 0, .int .u8 0, .int .u8 0, .int .u8 0, .int .u8 0, .int .u8 0, .int .u8 0, .int .u8 0, .int .u8 0, .int .u8 0, .int .u8 0, .int .u8 0, .int .u8 0, .int .u8 0, .int .u8 0, .int .u8 0, .int .u8 0, .int .u8 0, .int .u8 0, .int .u8 0, .int .u8 0, .int .u8 0, .int .u8 0, .int .u8 0, .int .u8 0, .int .u8 0, .int .u8 0, .int .u8 0, .int .u8 0, .int .u8 0, .int .u8 0, .int .u8 0, .int .u8 0, .int .u8 0, .int .u8 0, .int .u8 0, .int .u8 0, .int .u8 0, .int .u8 0, .int .u8 0, .int .u8 0, .int .u8 0, .int .u8 0, .int .u8 0, .int .u8 0, .int .u8 0, .int .u8 0, .int .u8 0, .int .u8 0, .int .u8 0, .int .u8 0, .int .u8 0, .int .u8 0, .int .u8 0, .int .u8 0, .int .u8 0, .int .u8 0, .int .u8 0, .int .u8 0, .int .u8 0, .int .u8 0, .int .u8 0, .int .u8 0, .int .u8 0, .int .u8 0, .int .u8 0, .int .u8 0, .int .u8 0, .int .u8 0, .int .u8 0, .int .u8 0, .int .u8 0, .int .u8 0, .int .u8 0, .int .u8 0, .int .u8 0, .int .u8 0, .int .u8 0, .int .u8 0, .int .u8 0, .int .u8 0, .int .u8 0, .int .u8 0, .int .u8 0, .int .u8 0, .int .u8 0, .int .u8 0, .int .u8 0, .int .u8 0, .int .u8 0, .int .u8 0, .int .u8 0, .int .u8 0, .int .u8 0, .int .u8 0, .int .u8 0, .int .u8 0, .int .u8 0, .int .u8 0, .int .u8 0, .int .u8 0, .int .u8 0, .int .u8 0, .int .u8 0, .int .u8 0, .int .u8 0, .int .u8 0, .int .u8 0, .int .u8 0, .int .u8 0, .int .u8 0, .int .u8 0, .int .u8 0, .int .u8 0, .int .u8 0, .int .u8 0, .int .u8 0, .int .u8 0, .int .u8 0, .int .u8 0, .int .u8 0, .int .u8 0], .array 256 5⟩),
  (67, ⟨1, 24, [.nils], .slice 3⟩),
  (74, ⟨1, 24, [.nils], .slice 76⟩),
  (75, ⟨2, 16, [.int .i64 0, .int .i64 0], .struct [(0, 3), (1, 3)]⟩),
  (76, ⟨2, 16, [.int .i64 0, .int .i64 0], .struct [(0, 3), (1, 3)]⟩),
  (77, ⟨1, 4, [.int .u32 0], .int .u32⟩),
  (79, ⟨1, 8, [.nilp], .ptr 94⟩),
  (85, ⟨1, 8, [.int .i64 0], .int .i64⟩),
  (88, ⟨1, 8, [.nilp], .ptr 111⟩),
  (91, ⟨1, 24, [.nils], .slice 97⟩),
  (92, ⟨1, 24, [.nils], .slice 100⟩),
  (93, ⟨3, 56, [.nils, .nils, .int .i64 0], .struct [(0, 91), (1, 92), (2, 3)]⟩),
  (94, ⟨3, 56, [.nils, .nils, .int .i64 0], .struct [(0, 91), (1, 92), (2, 3)]⟩),
  (95, ⟨1, 2, [.int .u16 0], .int .u16⟩),
  (96, ⟨3, 6, [.int .u16 0, .int .u16 0, .int .u16 0], .struct [(0, 95), (1, 95), (2, 95)]⟩),
  (97, ⟨3, 6, [.int .u16 0, .int .u16 0, .int .u16 0], .struct [(0, 95), (1, 95), (2, 95)]⟩),
  (99, ⟨3, 12, [.int .u32 0, .int .u32 0, .int .u32 0], .struct [(0, 77), (1, 77), (2, 77)]⟩),
  (100, ⟨3, 12, [.int .u32 0, .int .u32 0, .int .u32 0], .struct [(0, 77), (1, 77), (2, 77)]⟩),
  (104, ⟨1, 8, [.int .u64 0], .int .u64⟩),
  (106, ⟨1, 8, [.int .u64 0], .int .u64⟩),
  (113, ⟨1, 8, [.nilp], .ptr 97⟩),
  (114, ⟨1, 8, [.nilp], .ptr 100⟩),
  (117, ⟨2, 2, [.int .u8 0, .int .u8 0], .struct [(0, 5), (1, 5)]⟩),
  (118, ⟨2, 2, [.int .u8 0, .int .u8 0], .struct [(0, 5), (1, 5)]⟩),
  (119, ⟨32, 32, [.int .u8 0, .int .u8 0, .int .u8 0, .int .u8 0, .int .u8 0, .int .u8 0, .int .u8 0, .int .u8 0, .int .u8 0, .int .u8 0, .int .u8 0, .int .u8 0, .int .u8 0, .int .u8 0, .int .u8 0, .int .u8 0, .int .u8 0, .int .u8 0, .int .u8 0, .int .u8 0, .int .u8 0, .int .u8 0, .int .u8 0, .int .u8 0, .int .u8 0, .int .u8 0, .int .u8 0, .int .u8 0, .int .u8 0, .int .u8 0, .int .u8 0, .int .u8 0], .array 16 118⟩),
  (123, ⟨1, 8, [.nilp], .ptr 5⟩),
  (124, ⟨1, 8, [.nilp], .ptr 126⟩),
  (125, ⟨1, 16, [.str ⟨#[]⟩], .struct [(0, 9)]⟩),
  (126, ⟨1, 16, [.str ⟨#[]⟩], .struct [(0, 9)]⟩),
  (128, ⟨24, 24, [.int .u8 0, .int .u8 0, .int .u8 0, .int .u8 0, .int .u8 0, .int .u8 0, .int .u8 0, .int .u8 0, .int .u8 0, .int .u8 0, .int .u8 0, .int .u8 0, .int .u8 0, .int .u8 0, .int .u8 0, .int .u8 0, .int .u8 0, .int .u8 0, .int .u8 0, .int .u8 0, .int .u8 0, .int .u8 0, .int .u8 0, .int .u8 0], .array 24 5⟩),
  (134, ⟨20, 160, [.int .u64 0, .int .u64 0, .int .u64 0, .int .u64 0, .int .u64 0, .int .u64 0, .int .u64 0, .int .u64 0, .int .u64 0, .int .u64 0, .int .u64 0, .int .u64 0, .int .u64 0, .int .u64 0, .int .u64 0, .int .u64 0, .int .u64 0, .int .u64 0, .int .u64 0, .int .u64 0], .array 20 106⟩),
  (135, ⟨65, 65, [.int .u8 0, .int .u8 0, .int .u8 0, .int .u8 0, .int .u8 0, .int .u8 0, .int .u8 0, .int .u8 0, .int .u8 0, .int .u8 0, .int .u8 0, .int .u8 0, .int .u8 0, .int .u8 0, .int .u8 0, .int .u8 0, .int .u8 0, .int .u8 0, .int .u8 0, .int .u8 0, .int .u8 0, .int .u8 0, .int .u8 0, .int .u8 0, .int .u8 0, .int .u8 0, .int .u8 0, .int .u8 0, .int .u8 0, .int .u8 0, .int .u8 0, .int .u8 0, .int .u8 0, .int .u8 0, .int .u8 0, .int .u8 0, .int .u8 0, .int .u8 0, .int .u8 0, .int .u8 0, .int .u8 0, .int .u8 0, .int .u8 0, .int .u8 0, .int .u8 0, .int .u8 0, .int .u8 0, .int .u8 0, .int .u8 0, .int .u8 0, .int .u8 0, .int .u8 0, .int .u8 0, .int .u8 0, .int .u8 0, .int .u8 0, .int .u8 0, .int .u8 0, .int .u8 0, .int .u8 0, .int .u8 0, .int .u8 0, .int .u8 0, .int .u8 0, .int .u8 0], .array 65 5⟩),
  (138, ⟨32, 32, [.int .u8 0, .int .u8 0, .int .u8 0, .int .u8 0, .int .u8 0, .int .u8 0, .int .u8 0, .int .u8 0, .int .u8 0, .int .u8 0, .int .u8 0, .int .u8 0, .int .u8 0, .int .u8 0, .int .u8 0, .int .u8 0, .int .u8 0, .int .u8 0, .int .u8 0, .int .u8 0, .int .u8 0, .int .u8 0, .int .u8 0, .int .u8 0, .int .u8 0, .int .u8 0, .int .u8 0, .int .u8 0, .int .u8 0, .int .u8 0, .int .u8 0, .int .u8 0], .array 32 5⟩),
  (139, ⟨64, 64, [.int .u8 0, .int .u8 0, .int .u8 0, .int .u8 0, .int .u8 0, .int .u8 0, .int .u8 0, .int .u8 0, .int .u8 0, .int .u8 0, .int .u8 0, .int .u8 0, .int .u8 0, .int .u8 0, .int .u8 0, .int .u8 0, .int .u8 0, .int .u8 0, .int .u8 0, .int .u8 0, .int .u8 0, .int .u8 0, .int .u8 0, .int .u8 0, .int .u8 0, .int .u8 0, .int .u8 0, .int .u8 0, .int .u8 0, .int .u8 0, .int .u8 0, .int .u8 0, .int .u8 0, .int .u8 0, .int .u8 0, .int .u8 0, .int .u8 0, .int .u8 0, .int .u8 0, .int .u8 0, .int .u8 0, .int .u8 0, .int .u8 0, .int .u8 0, .int .u8 0, .int .u8 0, .int .u8 0, .int .u8 0, .int .u8 0, .int .u8 0, .int .u8 0, .int .u8 0, .int .u8 0, .int .u8 0, .int .u8 0, .int .u8 0, .int .u8 0, .int .u8 0, .int .u8 0, .int .u8 0, .int .u8 0, .int .u8 0, .int .u8 0, .int .u8 0], .array 64 5⟩),
  (141, ⟨4, 40, [.nilp, .nilp, .nilp, .str ⟨#[]⟩], .struct [(0, 17), (1, 17), (2, 17), (3, 9)]⟩),
  (142, ⟨4, 40, [.nilp, .nilp, .nilp, .str ⟨#[]⟩], .struct [(0, 17), (1, 17), (2, 17), (3, 9)]⟩),
  (143, ⟨0, 0, [], .array 0 16⟩),
  (147, ⟨1, 1, [.int .u8 0], .int .u8⟩),
  (148, ⟨1, 1, [.int .u8 0], .int .u8⟩),
  (150, ⟨1, 4, [.int .i32 0], .int .i32⟩),
  (151, ⟨1, 4, [.int .i32 0], .int .i32⟩)]

def ascZ : List D := [0,0,0,0,0,0,0,0,0,1,1,1,1,1,0,0,0,0,0,0,0,0,0,0,0,0,0,0,0,0,0,0,1,0,0,0,0,0,0,0,0,0,0,0,0,0,0,0,0,0,0,0,0,0,0,0,0,0,0,0,0,0,0,0,0,0,0,0,0,0,0,0,0,0,0,0,0,0,0,0,0,0,0,0,0,0,0,0,0,0,0,0,0,0,0,0,0,0,0,0,0,0,0,0,0,0,0,0,0,0,0,0,0,0,0,0,0,0,0,0,0,0,0,0,0,0,0,0].map (fun n => D.int .u8 n)
def GZ : Nat → Option (List D) | 0 => some ascZ | _ => none
def XZ (f : FuncId) : Option Nat := match Nat.beq f 58 with | true => some 0 | false => match Nat.beq f 82 with | true => some 1 | false => none
noncomputable def cZ : CR.Ctx := ⟨DW.look tabZ, GZ, fun f => Tryd.prog.funcs[f]?, XZ, []⟩
def okZ (r : Option Res) : Bool := match r with | some (v, _, _) => (match boolV v with | some b => b | none => false) | none => false
theorem followsZ : Tryd.prog.follows .mixedOrders = true := by kernel_rfl
theorem tokZ : TOk Tryd.prog cZ.T := TOk.of_tab (by kernel_rfl)
theorem eokZ : EqOk Tryd.prog cZ.T cZ.E := ⟨fun t ht => (by cases ht), fun t ht => (by cases ht)⟩
theorem xokZ : XOk Tryd.prog cZ.X := ⟨fun f k h => by
  replace h : XZ f = some k := h
  unfold XZ at h
  split at h
  · rename_i hf
    obtain rfl : f = 58 := by simpa using hf
    obtain rfl : 0 = k := Option.some.inj h
    exact ⟨Tryd.f58, Tryd.func58, by kernel_rfl, by kernel_rfl, by kernel_rfl, .inl ⟨rfl, by kernel_rfl⟩⟩
  · split at h
    · rename_i hf
      obtain rfl : f = 82 := by simpa using hf
      obtain rfl : 1 = k := Option.some.inj h
      exact ⟨Tryd.f82, Tryd.func82, by kernel_rfl, by kernel_rfl, by kernel_rfl, .inr ⟨rfl, by kernel_rfl⟩⟩
    · cases h⟩
theorem fokZ : FOk Tryd.prog cZ.F := ⟨fun f fn h => ⟨h, fun hn => by
  have hall : (Tryd.prog.funcs.all fun fn => !(fn.name == "runtime.NumGoroutine")) = true := by kernel_rfl
  have hm := Array.mem_of_getElem? (show Tryd.prog.funcs[f]? = some fn from h)
  have := Array.all_eq_true_iff_forall_mem.1 hall fn hm
  simp [hn] at this⟩⟩
theorem runZ (n : Nat) : RunOk Tryd.prog cZ (runFF cZ n) := runFF_sound followsZ tokZ eokZ xokZ fokZ n
theorem stepZ {run : Caller} (h : RunOk Tryd.prog cZ run) (n : Nat) : RunOk Tryd.prog cZ (stepR cZ run n) := stepR_sound followsZ tokZ eokZ xokZ fokZ h n
end Go.Proofs.YtmceojbefepanaaDoor
