/- The table of types -/
import Derived.Test.YtefelghmmpmigaaEc
import Derived.Test.YtefelghmmpmigaaProg
namespace Go.Ev
open Go.Proofs
noncomputable def tl : List (Nat × Ti) := [
(2, ⟨1, 8, false, true, [.int .i64 0], .int .i64⟩),
 (3, ⟨1, 8, false, true, [.int .i64 0], .int .i64⟩),
 (4, ⟨1, 1, false, true, [.bool false], .bool⟩),
 (5, ⟨1, 1, false, true, [.int .u8 0], .int .u8⟩),
 (6, ⟨1, 1, false, true, [.int .u8 0], .int .u8⟩),
 (7, ⟨4, 24, true, false, [.int .i64 0, .int .i64 0, .bool false, .int .u8 0], .struct [0, 1, 2, 3] [2, 3, 4, 6]⟩),
 (8, ⟨4, 24, true, false, [.int .i64 0, .int .i64 0, .bool false, .int .u8 0], .struct [0, 1, 2, 3] [2, 3, 4, 6]⟩),
 (9, ⟨1, 16, false, true, [.str ⟨#[]⟩], .str⟩),
 (10, ⟨1, 16, false, true, [.str ⟨#[]⟩], .str⟩),
 (11, ⟨1, 16, false, true, [.str ⟨#[]⟩], .str⟩),
 (12, ⟨1, 8, false, true, [.int .u64 0], .int .u64⟩),
 (13, ⟨2, 24, true, false, [.str ⟨#[]⟩, .int .u64 0], .struct [0, 1] [9, 12]⟩),
 (14, ⟨2, 24, true, false, [.str ⟨#[]⟩, .int .u64 0], .struct [0, 1] [9, 12]⟩),
 (21, ⟨1, 4, false, true, [.int .i32 0], .int .i32⟩),
 (22, ⟨1, 24, false, false, [.nils 23], .slice 23⟩),
 (23, ⟨1, 24, false, false, [.nils 3], .slice 3⟩),
 (24, ⟨3, 56, true, false, [.int .i64 0, .nils 23, .nils 3], .struct [0, 1, 2] [3, 22, 23]⟩),
 (25, ⟨3, 56, true, false, [.int .i64 0, .nils 23, .nils 3], .struct [0, 1, 2] [3, 22, 23]⟩),
 (27, ⟨1, 24, false, false, [.nils 4], .slice 4⟩),
 (28, ⟨4, 64, true, false, [.int .i64 0, .int .i64 0, .nils 23, .nils 4], .struct [0, 1, 2, 3] [3, 3, 22, 27]⟩),
 (29, ⟨4, 64, true, false, [.int .i64 0, .int .i64 0, .nils 23, .nils 4], .struct [0, 1, 2, 3] [3, 3, 22, 27]⟩),
 (32, ⟨3, 56, true, false, [.int .i64 0, .nils 23, .nils 3], .struct [0, 1, 2] [3, 22, 23]⟩),
 (39, ⟨4, 64, true, false, [.int .i64 0, .int .i64 0, .nils 23, .nils 4], .struct [0, 1, 2, 3] [3, 3, 22, 27]⟩),
 (67, ⟨48, 48, true, false, List.replicate 48 (.bool false), .arr 48 4⟩),
 (68, ⟨48, 48, true, false, List.replicate 48 (.bool false), .arr 48 4⟩),
 (70, ⟨1, 24, false, false, [.nils 68], .slice 68⟩),
 (71, ⟨1, 8, false, false, [.junk], .map 68 3⟩),
 (81, ⟨1, 24, false, false, [.nils 84], .slice 84⟩),
 (84, ⟨2, 16, true, false, [.int .i64 0, .int .i64 0], .arr 2 3⟩),
 (97, ⟨1, 8, false, false, [.junk], .map 3 3⟩),
 (98, ⟨1, 8, false, false, [.junk], .map 84 3⟩),
 (104, ⟨1, 24, false, false, [.nils 5], .slice 5⟩),
 (105, ⟨1, 8, false, true, [.int .u64 0], .int .u64⟩),
 (114, ⟨1, 4, false, true, [.int .u32 0], .int .u32⟩),
 (115, ⟨1, 1, false, true, [.int .u8 0], .int .u8⟩),
 (116, ⟨1, 1, false, true, [.int .u8 0], .int .u8⟩),
 (119, ⟨1, 4, false, true, [.int .i32 0], .int .i32⟩),
 (120, ⟨1, 4, false, true, [.int .i32 0], .int .i32⟩)]
noncomputable abbrev tb : Nat → Ti := tbf tl
theorem tb_ok : TbOk Try.prog tb := tbOk_of (by kernel_rfl)
end Go.Ev
