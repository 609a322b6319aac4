/- The tables of types, of functions without a body and of one package variable, by which the closed interpreter runs this program. -/
import Derived.Test.YtmceojbefepanaaGreatDoorProg
import Derived.Test.YtmceojbefepanaaGreatDoorCrC
import Derived.KernelRfl
set_option linter.unusedVariables false
set_option linter.unusedSimpArgs false
set_option maxRecDepth 100000
namespace Go.Proofs.YtmceojbefepanaaGreatDoor
open Go Go.DW Go.CR
def tabZ : List (Nat × TI) := [
  (2, ⟨1, 8, [.int .i64 0], .int .i64⟩),
  (3, ⟨1, 8, [.int .i64 0], .int .i64⟩),
  (4, ⟨1, 1, [.ff], .bool⟩),
  (5, ⟨1, 1, [.int .u8 0], .int .u8⟩),
  (6, ⟨1, 1, [.int .u8 0], .int .u8⟩),
  (7, ⟨4, 24, [.int .i64 0, .int .i64 0, .ff, .int .u8 0], .struct [(0, 2), (1, 3), (2, 4), (3, 6)]⟩),
  (8, ⟨4, 24, [.int .i64 0, .int .i64 0, .ff, .int .u8 0], .struct [(0, 2), (1, 3), (2, 4), (3, 6)]⟩),
  (9, ⟨1, 16, [.str ⟨#[]⟩], .str⟩),
  (10, ⟨1, 16, [.str ⟨#[]⟩], .str⟩),
  (11, ⟨1, 16, [.str ⟨#[]⟩], .str⟩),
  (12, ⟨1, 8, [.int .u64 0], .int .u64⟩),
  (13, ⟨2, 24, [.str ⟨#[]⟩, .int .u64 0], .struct [(0, 9), (1, 12)]⟩),
  (14, ⟨2, 24, [.str ⟨#[]⟩, .int .u64 0], .struct [(0, 9), (1, 12)]⟩),
  (15, ⟨1, 8, [.nilp], .ptr 229⟩),
  (16, ⟨1, 8, [.nilp], .ptr 232⟩),
  (17, ⟨1, 8, [.nilp], .ptr 239⟩),
  (18, ⟨1, 8, [.nilp], .struct [(0, 17)]⟩),
  (19, ⟨1, 8, [.nilp], .struct [(0, 17)]⟩),
  (21, ⟨1, 4, [.int .i32 0], .int .i32⟩),
  (22, ⟨1, 24, [.nils], .slice 3⟩),
  (35, ⟨1, 24, [.nils], .slice 64⟩),
  (42, ⟨1, 24, [.nils], .slice 79⟩),
  (43, ⟨4, 64, [.int .i64 0, .int .i64 0, .nils, .nils], .struct [(0, 3), (1, 3), (2, 42), (3, 22)]⟩),
  (44, ⟨4, 64, [.int .i64 0, .int .i64 0, .nils, .nils], .struct [(0, 3), (1, 3), (2, 42), (3, 22)]⟩),
  (47, ⟨1, 24, [.nils], .slice 22⟩),
  (48, ⟨6, 112, [.int .i64 0, .int .i64 0, .nils, .nils, .nils, .nils], .struct [(0, 44), (4, 47), (5, 22)]⟩),
  (49, ⟨6, 112, [.int .i64 0, .int .i64 0, .nils, .nils, .nils, .nils], .struct [(0, 44), (4, 47), (5, 22)]⟩),
  (60, ⟨1, 8, [.int .u64 0], .int .u64⟩),
  (62, ⟨1, 24, [.nils], .slice 9⟩),
  (63, ⟨7, 88, [.int .i64 0, .str ⟨#[]⟩, .str ⟨#[]⟩, .nils, .int .i64 0, .int .i64 0, .int .i64 0], .struct [(0, 3), (1, 9), (2, 9), (3, 62), (4, 3), (5, 3), (6, 3)]⟩),
  (64, ⟨7, 88, [.int .i64 0, .str ⟨#[]⟩, .str ⟨#[]⟩, .nils, .int .i64 0, .int .i64 0, .int .i64 0], .struct [(0, 3), (1, 9), (2, 9), (3, 62), (4, 3), (5, 3), (6, 3)]⟩),
  (67, ⟨1, 24, [.nils], .slice 62⟩),
  (72, ⟨4, 64, [.int .i64 0, .int .i64 0, .nils, .nils], .struct [(0, 44)]⟩),
  (73, ⟨4, 64, [.int .i64 0, .int .i64 0, .nils, .nils], .struct [(0, 44)]⟩),
  (74, ⟨1, 8, [.nilp], .ptr 73⟩),
  (75, ⟨3, 56, [.nilp, .nils, .nils], .struct [(0, 74), (1, 47), (2, 22)]⟩),
  (76, ⟨3, 56, [.nilp, .nils, .nils], .struct [(0, 74), (1, 47), (2, 22)]⟩),
  (78, ⟨3, 24, [.int .i64 0, .int .i64 0, .int .i64 0], .struct [(0, 3), (1, 3), (2, 3)]⟩),
  (79, ⟨3, 24, [.int .i64 0, .int .i64 0, .int .i64 0], .struct [(0, 3), (1, 3), (2, 3)]⟩),
  (80, ⟨1, 8, [.nilp], .ptr 83⟩),
  (82, ⟨4, 64, [.int .i64 0, .int .i64 0, .nils, .nils], .struct [(0, 44)]⟩),
  (83, ⟨4, 64, [.int .i64 0, .int .i64 0, .nils, .nils], .struct [(0, 44)]⟩),
  (84, ⟨2, 16, [.int .i64 0, .int .i64 0], .array 2 3⟩),
  (88, ⟨1, 24, [.nils], .slice 91⟩),
  (90, ⟨2, 16, [.int .i64 0, .int .i64 0], .struct [(0, 3), (1, 3)]⟩),
  (91, ⟨2, 16, [.int .i64 0, .int .i64 0], .struct [(0, 3), (1, 3)]⟩),
  (95, ⟨1, 24, [.nils], .slice 98⟩),
  (97, ⟨3, 24, [.ff, .int .i64 0, .ff], .struct [(0, 4), (1, 3), (2, 4)]⟩),
  (98, ⟨3, 24, [.ff, .int .i64 0, .ff], .struct [(0, 4), (1, 3), (2, 4)]⟩),
  (105, ⟨5, 80, [.str ⟨#[]⟩, .str ⟨#[]⟩, .str ⟨#[]⟩, .str ⟨#[]⟩, .str ⟨#[]⟩], .struct [(0, 9), (1, 9), (2, 9), (3, 9), (4, 9)]⟩),
  (106, ⟨5, 80, [.str ⟨#[]⟩, .str ⟨#[]⟩, .str ⟨#[]⟩, .str ⟨#[]⟩, .str ⟨#[]⟩], .struct [(0, 9), (1, 9), (2, 9), (3, 9), (4, 9)]⟩),
  (116, ⟨1, 24, [.nils], .slice 5⟩),
  (131, ⟨1, 24, [.nils], .slice 4⟩),
  (142, ⟨256, 256, [.int .u8 0, .int .u8 0, .int .u8 0, .int .u8 0, .int .u8 0, .int .u8 0, .int .u8 0, .int .u8 0, .int .u8 0, .int .u8 0, .int .u8 0, .int .u8 0, .int .u8 0, .int .u8 0, .int .u8 0, .int .u8 0, .int .u8 0, .int .u8 0, .int .u8 0, .int .u8 0, .int .u8 0, .int .u8 0, .int .u8 0, .int .u8 0, .int .u8 0, .int .u8 0, .int .u8 0, .int .u8 0, .int .u8 0, .int .u8 0, .int .u8 0, .int .u8 0, .int .u8 0, .int .u8 0, .int .u8 0, .int .u8 0, .int .u8 0, .int .u8 0, .int .u8 0, .int .u8 0, .int .u8 0, .int .u8 0, .int .u8 0, .int .u8 0, .int .u8 0, .int .u8 0, .int .u8 0, .int .u8 0, .int .u8 0, .int .u8 0, .int .u8 0, .int .u8 0, .int .u8 0, .int .u8 0, .int .u8 0, .int .u8 0, .int .u8 0, .int .u8 0, .int .u8 0, .int .u8 0, .int .u8 0, .int .u8 0, .int .u8 0, .int .u8 0, .int .u8 0, .int .u8 0, .int .u8 0, .int .u8 0, .int .u8 0, .int .u8 0, .int .u8 0, .int .u8 0, .int .u8 0, .int .u8 0, .int .u8 0, .int .u8 0, .int .u8 0, .int .u8 0, .int .u8 0, .int .u8 0, .int .u8 0, .int .u8 0, .int .u8 0, .int .u8 0, .int .u8 0, .int .u8 0, .int .u8 0, .int .u8 0, .int .u8 0, .int .u8 0, .int .u8 0, .int .u8 0, .int .u8 0, .int .u8 0, .int .u8 0, .int .u8 0, .int .u8 0, .int .u8 0, .int .u8 0, .int .u8 0, .int .u8 0, .int .u8 0, .int .u8 0, .int .u8 0, .int .u8 0, .int .u8 0, .int .u8 0, .int .u8 0, .int .u8 0, .int .u8 0, .int .u8 0, .int .u8 0, .int .u8 0, .int .u8 0, .int .u8 0, .int .u8 0, .int .u8 0, .int .u8 0, .int .u8 0, .int .u8 0, .int .u8 0, .int .u8 0, .int .u8 0, .int .u8 0, .int .u8 0, .int .u8 0, .int .u8 0, .int .u8 0, .int .u8 0, .int .u8 0, .int .u8 0, .int .u8 0, .int .u8 0, .int .u8 0, .int .u8 0, .int .u8 0, .int .u8 0, .int .u8 0, .int .u8 0, .int .u8 0, .int .u8 0, .int .u8 0, .int .u8 0, .int .u8 0, .int .u8 0, .int .u8 0, .int .u8 0, .int .u8 0, .int .u8 0, .int .u8 0, .int .u8 0, .int .u8 0, .int .u8 0, .int .u8 0, .int .u8 0, .int .u8 0, .int .u8 0, .int .u8 0, .int .u8 0, .int .u8 0, .int .u8 0, .int .u8 0, .int .u8 0, .int .u8 0, .int .u8 0, .int .u8 0, .int .u8 0, .int .u8 0, .int .u8 0, .int .u8 0, .int .u8 0, .int .u8 0, .int .u8 0, .int .u8 0, .int .u8 0, .int .u8 0, .int .u8 0, .int .u8 0, .int .u8 0, .int .u8 0, .int .u8 0, .int .u8 0, .int .u8 0, .int .u8 0, .int .u8 0, .int .u8 0, .int .u8 0, .int .u8 0, .int .u8 0, .int .u8 0, .int .u8 0, .int .u8 0, .int .u8 0, .int .u8 0, .int .u8 0, .int .u8 0, .int .u8 0, .int .u8 0, .int .u8 0, .int .u8 0, .int .u8 0, .int .u8 0, .int .u8 0, .int .u8 0, .int .u8 0, .int .u8 0, .int .u8 0, .int .u8 0, .int .u8 0, .int .u8 0, .int .u8 0, .int .u8 0, .int .u8 0, .int .u8 0, .int .u8 0, .int .u8 0, .int .u8 0, .int .u8 0, .int .u8 0, .int .u8 0, .int .u8 0, .int .u8 0, .int .u8 0, .int .u8 0, .int .u8 0, .int .u8 0, .int .u8 0, .int .u8 0, .int .u8 0, .int .u8 0, .int .u8 0, .int .u8 0, .int .u8 0, .int .u8 0, .int .u8 0, .int .u8 0, .int .u8 0, .int .u8 0, .int .u8 0, .int .u8 0, .int .u8 0, .int .u8 0, .int .u8 0, .int .u8 0, .int .u8 0, .int .u8 0, .int .u8 0, .int .u8 0, .int .u8 0, .int .u8 0, .int .u8 0, .int .u8 0, .int .u8 0, .int .u8 0, .int .u8 0, .int .u8 0], .array 256 5⟩),
  (161, ⟨1, 24, [.nils], .slice 163⟩),
  (162, ⟨2, 16, [.int .i64 0, .int .i64 0], .struct [(0, 3), (1, 3)]⟩),
  (163, ⟨2, 16, [.int .i64 0, .int .i64 0], .struct [(0, 3), (1, 3)]⟩),
  (164, ⟨1, 4, [.int .u32 0], .int .u32⟩),
  (166, ⟨1, 8, [.nilp], .ptr 185⟩),
  (176, ⟨1, 8, [.int .i64 0], .int .i64⟩),
  (179, ⟨1, 8, [.nilp], .ptr 201⟩),
  (182, ⟨1, 24, [.nils], .slice 188⟩),
  (183, ⟨1, 24, [.nils], .slice 191⟩),
  (184, ⟨3, 56, [.nils, .nils, .int .i64 0], .struct [(0, 182), (1, 183), (2, 3)]⟩),
  (185, ⟨3, 56, [.nils, .nils, .int .i64 0], .struct [(0, 182), (1, 183), (2, 3)]⟩),
  (186, ⟨1, 2, [.int .u16 0], .int .u16⟩),
  (187, ⟨3, 6, [.int .u16 0, .int .u16 0, .int .u16 0], .struct [(0, 186), (1, 186), (2, 186)]⟩),
  (188, ⟨3, 6, [.int .u16 0, .int .u16 0, .int .u16 0], .struct [(0, 186), (1, 186), (2, 186)]⟩),
  (190, ⟨3, 12, [.int .u32 0, .int .u32 0, .int .u32 0], .struct [(0, 164), (1, 164), (2, 164)]⟩),
  (191, ⟨3, 12, [.int .u32 0, .int .u32 0, .int .u32 0], .struct [(0, 164), (1, 164), (2, 164)]⟩),
  (196, ⟨1, 8, [.int .u64 0], .int .u64⟩),
  (203, ⟨1, 8, [.nilp], .ptr 188⟩),
  (204, ⟨1, 8, [.nilp], .ptr 191⟩),
  (205, ⟨2, 2, [.int .u8 0, .int .u8 0], .struct [(0, 5), (1, 5)]⟩),
  (206, ⟨2, 2, [.int .u8 0, .int .u8 0], .struct [(0, 5), (1, 5)]⟩),
  (207, ⟨32, 32, [.int .u8 0, .int .u8 0, .int .u8 0, .int .u8 0, .int .u8 0, .int .u8 0, .int .u8 0, .int .u8 0, .int .u8 0, .int .u8 0, .int .u8 0, .int .u8 0, .int .u8 0, .int .u8 0, .int .u8 0, .int .u8 0, .int .u8 0, .int .u8 0, .int .u8 0, .int .u8 0, .int .u8 0, .int .u8 0, .int .u8 0, .int .u8 0, .int .u8 0, .int .u8 0, .int .u8 0, .int .u8 0, .int .u8 0, .int .u8 0, .int .u8 0, .int .u8 0], .array 16 206⟩),
  (211, ⟨1, 8, [.nilp], .ptr 5⟩),
  (212, ⟨1, 8, [.nilp], .ptr 214⟩),
  (213, ⟨1, 16, [.str ⟨#[]⟩], .struct [(0, 9)]⟩),
  (214, ⟨1, 16, [.str ⟨#[]⟩], .struct [(0, 9)]⟩),
  (216, ⟨24, 24, [.int .u8 0, .int .u8 0, .int .u8 0, .int .u8 0, .int .u8 0, .int .u8 0, .int .u8 0, .int .u8 0, .int .u8 0, .int .u8 0, .int .u8 0, .int .u8 0, .int .u8 0, .int .u8 0, .int .u8 0, .int .u8 0, .int .u8 0, .int .u8 0, .int .u8 0, .int .u8 0, .int .u8 0, .int .u8 0, .int .u8 0, .int .u8 0], .array 24 5⟩),
  (221, ⟨20, 160, [.int .u64 0, .int .u64 0, .int .u64 0, .int .u64 0, .int .u64 0, .int .u64 0, .int .u64 0, .int .u64 0, .int .u64 0, .int .u64 0, .int .u64 0, .int .u64 0, .int .u64 0, .int .u64 0, .int .u64 0, .int .u64 0, .int .u64 0, .int .u64 0, .int .u64 0, .int .u64 0], .array 20 196⟩),
  (222, ⟨65, 65, [.int .u8 0, .int .u8 0, .int .u8 0, .int .u8 0, .int .u8 0, .int .u8 0, .int .u8 0, .int .u8 0, .int .u8 0, .int .u8 0, .int .u8 0, .int .u8 0, .int .u8 0, .int .u8 0, .int .u8 0, .int .u8 0, .int .u8 0, .int .u8 0, .int .u8 0, .int .u8 0, .int .u8 0, .int .u8 0, .int .u8 0, .int .u8 0, .int .u8 0, .int .u8 0, .int .u8 0, .int .u8 0, .int .u8 0, .int .u8 0, .int .u8 0, .int .u8 0, .int .u8 0, .int .u8 0, .int .u8 0, .int .u8 0, .int .u8 0, .int .u8 0, .int .u8 0, .int .u8 0, .int .u8 0, .int .u8 0, .int .u8 0, .int .u8 0, .int .u8 0, .int .u8 0, .int .u8 0, .int .u8 0, .int .u8 0, .int .u8 0, .int .u8 0, .int .u8 0, .int .u8 0, .int .u8 0, .int .u8 0, .int .u8 0, .int .u8 0, .int .u8 0, .int .u8 0, .int .u8 0, .int .u8 0, .int .u8 0, .int .u8 0, .int .u8 0, .int .u8 0], .array 65 5⟩),
  (225, ⟨32, 32, [.int .u8 0, .int .u8 0, .int .u8 0, .int .u8 0, .int .u8 0, .int .u8 0, .int .u8 0, .int .u8 0, .int .u8 0, .int .u8 0, .int .u8 0, .int .u8 0, .int .u8 0, .int .u8 0, .int .u8 0, .int .u8 0, .int .u8 0, .int .u8 0, .int .u8 0, .int .u8 0, .int .u8 0, .int .u8 0, .int .u8 0, .int .u8 0, .int .u8 0, .int .u8 0, .int .u8 0, .int .u8 0, .int .u8 0, .int .u8 0, .int .u8 0, .int .u8 0], .array 32 5⟩),
  (226, ⟨64, 64, [.int .u8 0, .int .u8 0, .int .u8 0, .int .u8 0, .int .u8 0, .int .u8 0, .int .u8 0, .int .u8 0, .int .u8 0, .int .u8 0, .int .u8 0, .int .u8 0, .int .u8 0, .int .u8 0, .int .u8 0, .int .u8 0, .int .u8 0, .int .u8 0, .int .u8 0, .int .u8 0, .int .u8 0, .int .u8 0, .int .u8 0, .int .u8 0, .int .u8 0, .int .u8 0, .int .u8 0, .int .u8 0, .int .u8 0, .int .u8 0, .int .u8 0, .int .u8 0, .int .u8 0, .int .u8 0, .int .u8 0, .int .u8 0, .int .u8 0, .int .u8 0, .int .u8 0, .int .u8 0, .int .u8 0, .int .u8 0, .int .u8 0, .int .u8 0, .int .u8 0, .int .u8 0, .int .u8 0, .int .u8 0, .int .u8 0, .int .u8 0, .int .u8 0, .int .u8 0, .int .u8 0, .int .u8 0, .int .u8 0, .int .u8 0, .int .u8 0, .int .u8 0, .int .u8 0, .int .u8 0, .int .u8 0, .int .u8 0, .int .u8 0, .int .u8 0], .array 64 5⟩),
  (228, ⟨4, 40, [.nilp, .nilp, .nilp, .str ⟨#[]⟩], .struct [(0, 17), (1, 17), (2, 17), (3, 9)]⟩),
  (229, ⟨4, 40, [.nilp, .nilp, .nilp, .str ⟨#[]⟩], .struct [(0, 17), (1, 17), (2, 17), (3, 9)]⟩),
  (230, ⟨0, 0, [], .array 0 16⟩),
  (233, ⟨1, 1, [.int .u8 0], .int .u8⟩),
  (234, ⟨1, 1, [.int .u8 0], .int .u8⟩),
  (236, ⟨1, 4, [.int .i32 0], .int .i32⟩),
  (237, ⟨1, 4, [.int .i32 0], .int .i32⟩)]

def ascZ : List D := [0,0,0,0,0,0,0,0,0,1,1,1,1,1,0,0,0,0,0,0,0,0,0,0,0,0,0,0,0,0,0,0,1,0,0,0,0,0,0,0,0,0,0,0,0,0,0,0,0,0,0,0,0,0,0,0,0,0,0,0,0,0,0,0,0,0,0,0,0,0,0,0,0,0,0,0,0,0,0,0,0,0,0,0,0,0,0,0,0,0,0,0,0,0,0,0,0,0,0,0,0,0,0,0,0,0,0,0,0,0,0,0,0,0,0,0,0,0,0,0,0,0,0,0,0,0,0,0].map (fun n => D.int .u8 n)
def GZ : Nat → Option (List D) | 0 => some ascZ | _ => none
def XZ (f : FuncId) : Option Nat := match Nat.beq f 178 with | true => some 0 | false => match Nat.beq f 202 with | true => some 1 | false => none
noncomputable def cZ : CR.Ctx := ⟨DW.look tabZ, GZ, fun f => Tryz.prog.funcs[f]?, XZ, []⟩
def okZ (r : Option Res) : Bool := match r with | some (v, _, _) => (match boolV v with | some b => b | none => false) | none => false
theorem followsZ : Tryz.prog.follows .mixedOrders = true := by kernel_rfl
theorem tokZ : TOk Tryz.prog cZ.T := TOk.of_tab (by kernel_rfl)
theorem eokZ : EqOk Tryz.prog cZ.T cZ.E := ⟨fun t ht => (by cases ht), fun t ht => (by cases ht)⟩
theorem xokZ : XOk Tryz.prog cZ.X := ⟨fun f k h => by
  replace h : XZ f = some k := h
  unfold XZ at h
  split at h
  · rename_i hf
    obtain rfl : f = 178 := by simpa using hf
    obtain rfl : 0 = k := Option.some.inj h
    exact ⟨Tryz.f178, Tryz.func178, by kernel_rfl, by kernel_rfl, by kernel_rfl, .inl ⟨rfl, by kernel_rfl⟩⟩
  · split at h
    · rename_i hf
      obtain rfl : f = 202 := by simpa using hf
      obtain rfl : 1 = k := Option.some.inj h
      exact ⟨Tryz.f202, Tryz.func202, by kernel_rfl, by kernel_rfl, by kernel_rfl, .inr ⟨rfl, by kernel_rfl⟩⟩
    · cases h⟩
theorem fokZ : FOk Tryz.prog cZ.F := ⟨fun f fn h => ⟨h, fun hn => by
  have hall : (Tryz.prog.funcs.all fun fn => !(fn.name == "runtime.NumGoroutine")) = true := by kernel_rfl
  have hm := Array.mem_of_getElem? (show Tryz.prog.funcs[f]? = some fn from h)
  have := Array.all_eq_true_iff_forall_mem.1 hall fn hm
  simp [hn] at this⟩⟩
theorem runZ (n : Nat) : RunOk Tryz.prog cZ (runFF cZ n) := runFF_sound followsZ tokZ eokZ xokZ fokZ n
theorem stepZ {run : Caller} (h : RunOk Tryz.prog cZ run) (n : Nat) : RunOk Tryz.prog cZ (stepR cZ run n) := stepR_sound followsZ tokZ eokZ xokZ fokZ h n
end Go.Proofs.YtmceojbefepanaaGreatDoor
