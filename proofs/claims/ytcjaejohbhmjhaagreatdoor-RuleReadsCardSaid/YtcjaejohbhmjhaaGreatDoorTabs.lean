/- The program's types and functions as the evaluator takes them. -/
import Derived.Test.YtcjaejohbhmjhaaGreatDoorProg
import Derived.Test.YtcjaejohbhmjhaaGreatDoorEvalA
import Derived.Test.YtcjaejohbhmjhaaGreatDoorEvalD
import Derived.KernelRfl
set_option linter.all false
set_option linter.unusedSectionVars false
set_option linter.deprecated false
section
set_option maxRecDepth 100000
namespace Go.Proofs.YtcjaejohbhmjhaaGreatDoor
open Go Go.Ai Go.Proofs
noncomputable def tt0000 : T TI := (.n (.n (.n (.n (.n .e (some ⟨(.array 256 5), 256, 256, none, false⟩) .e) (some ⟨.func, 1, 8, (some [.nilf]), false⟩) .e) (some ⟨.other, 1, 0, none, false⟩) (.n .e (some ⟨.func, 1, 8, (some [.nilf]), false⟩) .e)) (some ⟨(.slice 148), 1, 24, (some [.nils]), false⟩) (.n (.n .e (some ⟨.func, 1, 8, (some [.nilf]), false⟩) .e) (some ⟨.func, 1, 8, (some [.nilf]), false⟩) (.n .e (some ⟨.other, 1, 0, none, false⟩) .e))) (some ⟨(.ptr 262), 1, 8, (some [.nilp]), false⟩) (.n (.n (.n (.n .e (some ⟨(.int .i32), 1, 4, (some [(.int .i32 (.ofNat 0))]), false⟩) .e) (some ⟨.func, 1, 8, (some [.nilf]), false⟩) .e) (some ⟨.func, 1, 8, (some [.nilf]), false⟩) (.n .e (some ⟨.func, 1, 8, (some [.nilf]), false⟩) .e)) (some ⟨.func, 1, 8, (some [.nilf]), false⟩) (.n (.n .e (some ⟨.func, 1, 8, (some [.nilf]), false⟩) .e) (some ⟨.other, 1, 0, none, false⟩) (.n .e (some ⟨.other, 1, 0, none, false⟩) .e))))
noncomputable def tt0001 : T TI := (.n (.n (.n (.n (.n .e (some ⟨(.array 0 16), 0, 0, (some []), false⟩) .e) (some ⟨(.struct [(0, 9, true), (1, 134, true), (2, 3, true), (3, 3, true), (4, 34, true), (5, 3, true), (6, 3, true)]), 7, 80, (some [(.str []), (.int .u8 (.ofNat 0)), (.int .i64 (.ofNat 0)), (.int .i64 (.ofNat 0)), .nils, (.int .i64 (.ofNat 0)), (.int .i64 (.ofNat 0))]), true⟩) .e) (some ⟨.func, 1, 8, (some [.nilf]), false⟩) (.n .e (some ⟨.func, 1, 8, (some [.nilf]), false⟩) .e)) (some ⟨(.struct [(0, 36, true), (1, 37, true), (2, 38, true), (3, 34, true), (4, 22, true)]), 5, 120, (some [.nils, .nils, .nils, .nils, .nils]), true⟩) (.n (.n .e (some ⟨.func, 1, 8, (some [.nilf]), false⟩) .e) (some ⟨.func, 1, 8, (some [.nilf]), false⟩) (.n .e (some ⟨.func, 1, 8, (some [.nilf]), false⟩) .e))) (some ⟨(.int .i64), 1, 8, (some [(.int .i64 (.ofNat 0))]), false⟩) (.n (.n (.n .e (some ⟨(.int .u64), 1, 8, (some [(.int .u64 (.ofNat 0))]), false⟩) .e) (some ⟨(.slice 117), 1, 24, (some [.nils]), false⟩) (.n .e (some ⟨.func, 1, 8, (some [.nilf]), false⟩) .e)) (some ⟨.other, 1, 0, none, false⟩) (.n (.n .e (some ⟨.func, 1, 8, (some [.nilf]), false⟩) .e) (some ⟨(.int .u8), 1, 1, (some [(.int .u8 (.ofNat 0))]), false⟩) (.n .e (some ⟨.func, 1, 8, (some [.nilf]), false⟩) .e))))
noncomputable def tt000 : T TI := .n tt0000 (some ⟨(.struct [(0, 2, true), (1, 3, true), (2, 4, true), (3, 6, true)]), 4, 24, (some [(.int .i64 (.ofNat 0)), (.int .i64 (.ofNat 0)), (.bool false), (.int .u8 (.ofNat 0))]), true⟩) tt0001
noncomputable def tt0010 : T TI := (.n (.n (.n (.n (.n .e (some ⟨.func, 1, 8, (some [.nilf]), false⟩) .e) (some ⟨.func, 1, 8, (some [.nilf]), false⟩) .e) (some ⟨.func, 1, 8, (some [.nilf]), false⟩) (.n .e (some ⟨.func, 1, 8, (some [.nilf]), false⟩) .e)) (some ⟨(.ptr 89), 1, 8, (some [.nilp]), false⟩) (.n (.n .e (some ⟨.func, 1, 8, (some [.nilf]), false⟩) .e) (some ⟨.func, 1, 8, (some [.nilf]), false⟩) (.n .e (some ⟨.func, 1, 8, (some [.nilf]), false⟩) .e))) (some ⟨(.struct [(0, 17, true)]), 1, 8, (some [.nilp]), false⟩) (.n (.n (.n (.n .e (some ⟨.other, 1, 8, (some [.nilp]), false⟩) .e) (some ⟨.func, 1, 8, (some [.nilf]), false⟩) .e) (some ⟨(.map 44 92), 1, 8, (some [.nilm]), false⟩) (.n .e (some ⟨.func, 1, 8, (some [.nilf]), false⟩) .e)) (some ⟨.func, 1, 8, (some [.nilf]), false⟩) (.n (.n .e (some ⟨(.map 9 3), 1, 8, (some [.nilm]), false⟩) .e) (some ⟨(.struct [(0, 9, true), (1, 9, true), (2, 9, true), (3, 3, true), (4, 3, true), (5, 9, true), (6, 4, true), (7, 4, true), (8, 65, true)]), 9, 112, (some [(.str []), (.str []), (.str []), (.int .i64 (.ofNat 0)), (.int .i64 (.ofNat 0)), (.str []), (.bool false), (.bool false), .nils]), true⟩) (.n .e (some ⟨.func, 1, 8, (some [.nilf]), false⟩) .e))))
noncomputable def tt0011 : T TI := (.n (.n (.n (.n (.n .e (some ⟨(.int .u8), 1, 1, (some [(.int .u8 (.ofNat 0))]), false⟩) .e) (some ⟨.func, 1, 8, (some [.nilf]), false⟩) .e) (some ⟨(.slice 4), 1, 24, (some [.nils]), false⟩) (.n .e (some ⟨.func, 1, 8, (some [.nilf]), false⟩) .e)) (some ⟨.func, 1, 8, (some [.nilf]), false⟩) (.n (.n .e (some ⟨.func, 1, 8, (some [.nilf]), false⟩) .e) (some ⟨.func, 1, 8, (some [.nilf]), false⟩) (.n .e (some ⟨.func, 1, 8, (some [.nilf]), false⟩) .e))) (some ⟨.func, 1, 8, (some [.nilf]), false⟩) (.n (.n (.n .e (some ⟨.func, 1, 8, (some [.nilf]), false⟩) .e) (some ⟨(.struct [(0, 9, true), (1, 5, true), (2, 4, true), (3, 5, true), (4, 4, true), (5, 3, true), (6, 4, true), (7, 90, true)]), 8, 48, (some [(.str []), (.int .u8 (.ofNat 0)), (.bool false), (.int .u8 (.ofNat 0)), (.bool false), (.int .i64 (.ofNat 0)), (.bool false), .nilf]), true⟩) (.n .e (some ⟨.func, 1, 8, (some [.nilf]), false⟩) .e)) (some ⟨.func, 1, 8, (some [.nilf]), false⟩) (.n (.n .e (some ⟨.func, 1, 8, (some [.nilf]), false⟩) .e) (some ⟨.func, 1, 8, (some [.nilf]), false⟩) (.n .e (some ⟨(.ptr 241), 1, 8, (some [.nilp]), false⟩) .e))))
noncomputable def tt001 : T TI := .n tt0010 (some ⟨.string, 1, 16, (some [(.str [])]), false⟩) tt0011
noncomputable def tt00 : T TI := .n tt000 (some ⟨(.int .i64), 1, 8, (some [(.int .i64 (.ofNat 0))]), false⟩) tt001
noncomputable def tt0100 : T TI := (.n (.n (.n (.n (.n .e (some ⟨(.struct [(0, 5, true), (1, 5, true)]), 2, 2, (some [(.int .u8 (.ofNat 0)), (.int .u8 (.ofNat 0))]), true⟩) .e) (some ⟨.func, 1, 8, (some [.nilf]), false⟩) .e) (some ⟨(.slice 9), 1, 24, (some [.nils]), false⟩) (.n .e (some ⟨.other, 1, 0, none, false⟩) .e)) (some ⟨(.struct [(0, 29, true), (1, 30, true), (2, 29, true), (3, 31, true)]), 4, 96, (some [.nils, .nils, .nils, .nils]), true⟩) (.n (.n .e (some ⟨.func, 1, 8, (some [.nilf]), false⟩) .e) (some ⟨.func, 1, 8, (some [.nilf]), false⟩) (.n .e (some ⟨.func, 1, 8, (some [.nilf]), false⟩) .e))) (some ⟨(.ptr 274), 1, 8, (some [.nilp]), false⟩) (.n (.n (.n (.n .e (some ⟨(.struct [(0, 12, true), (1, 12, true), (2, 148, true), (3, 267, true), (4, 5, true), (5, 5, true), (6, 268, true), (7, 269, true), (8, 270, true), (9, 271, true), (10, 272, true)]), 11, 48, (some [(.int .u64 (.ofNat 0)), (.int .u64 (.ofNat 0)), (.int .u32 (.ofNat 0)), (.int .u8 (.ofNat 0)), (.int .u8 (.ofNat 0)), (.int .u8 (.ofNat 0)), (.int .u8 (.ofNat 0)), .nilf, .nilp, (.int .i32 (.ofNat 0)), (.int .i32 (.ofNat 0))]), false⟩) .e) (some ⟨(.int .u16), 1, 2, (some [(.int .u16 (.ofNat 0))]), false⟩) .e) (some ⟨(.struct [(0, 35, true), (1, 34, true), (2, 34, true)]), 3, 56, (some [.nilp, .nils, .nils]), true⟩) (.n .e (some ⟨.func, 1, 8, (some [.nilf]), false⟩) .e)) (some ⟨.func, 1, 8, (some [.nilf]), false⟩) (.n (.n .e (some ⟨(.struct [(0, 37, true), (1, 38, true)]), 2, 48, (some [.nils, .nils]), true⟩) .e) (some ⟨(.struct [(0, 37, true), (1, 38, true)]), 2, 48, (some [.nils, .nils]), true⟩) (.n .e (some ⟨(.int .u64), 1, 8, (some [(.int .u64 (.ofNat 0))]), false⟩) .e))))
noncomputable def tt0101 : T TI := (.n (.n (.n (.n (.n .e (some ⟨(.struct [(0, 263, false)]), 0, 0, (some []), false⟩) .e) (some ⟨(.struct [(0, 9, true), (1, 9, true), (2, 119, true)]), 3, 40, (some [(.str []), (.str []), (.int .u8 (.ofNat 0))]), true⟩) .e) (some ⟨.func, 1, 8, (some [.nilf]), false⟩) (.n .e (some ⟨.func, 1, 8, (some [.nilf]), false⟩) .e)) (some ⟨.other, 1, 0, none, false⟩) (.n (.n .e (some ⟨.func, 1, 8, (some [.nilf]), false⟩) .e) (some ⟨.func, 1, 8, (some [.nilf]), false⟩) (.n .e (some ⟨.func, 1, 8, (some [.nilf]), false⟩) .e))) (some ⟨.func, 1, 8, (some [.nilf]), false⟩) (.n (.n (.n .e (some ⟨.func, 1, 8, (some [.nilf]), false⟩) .e) (some ⟨(.struct [(0, 82, true), (5, 83, true), (6, 34, true), (7, 34, true), (8, 75, true), (9, 84, true), (10, 84, true), (11, 85, true), (12, 86, true), (13, 87, true)]), 14, 320, (some [.nils, .nils, .nils, .nils, .nils, .nilm, .nils, .nils, .nils, .nils, .nils, .nils, .nils, .nils]), true⟩) (.n .e (some ⟨.func, 1, 8, (some [.nilf]), false⟩) .e)) (some ⟨.func, 1, 8, (some [.nilf]), false⟩) (.n (.n .e (some ⟨.func, 1, 8, (some [.nilf]), false⟩) .e) (some ⟨.func, 1, 8, (some [.nilf]), false⟩) (.n .e (some ⟨.other, 1, 0, none, false⟩) .e))))
noncomputable def tt010 : T TI := .n tt0100 (some ⟨.string, 1, 16, (some [(.str [])]), false⟩) tt0101
noncomputable def tt0110 : T TI := (.n (.n (.n (.n (.n .e (some ⟨(.struct [(0, 17, true), (1, 17, true), (2, 17, true), (3, 9, true)]), 4, 40, (some [.nilp, .nilp, .nilp, (.str [])]), false⟩) .e) (some ⟨.func, 1, 8, (some [.nilf]), false⟩) .e) (some ⟨.func, 1, 8, (some [.nilf]), false⟩) (.n .e (some ⟨.other, 1, 0, none, false⟩) .e)) (some ⟨(.slice 116), 1, 24, (some [.nils]), false⟩) (.n (.n .e (some ⟨.other, 1, 0, none, false⟩) .e) (some ⟨.func, 1, 8, (some [.nilf]), false⟩) (.n .e (some ⟨.func, 1, 8, (some [.nilf]), false⟩) .e))) (some ⟨(.int .i32), 1, 4, (some [(.int .i32 (.ofNat 0))]), false⟩) (.n (.n (.n .e (some ⟨.func, 1, 8, (some [.nilf]), false⟩) .e) (some ⟨(.slice 108), 1, 24, (some [.nils]), false⟩) (.n .e (some ⟨.func, 1, 8, (some [.nilf]), false⟩) .e)) (some ⟨.other, 1, 0, none, false⟩) (.n (.n .e (some ⟨(.struct [(0, 178, true), (2, 179, true)]), 3, 56, (some [.nils, .nils, .nilm]), true⟩) .e) (some ⟨(.slice 119), 1, 24, (some [.nils]), false⟩) (.n .e (some ⟨(.ptr 3), 1, 8, (some [.nilp]), false⟩) .e))))
noncomputable def tt0111 : T TI := (.n (.n (.n (.n (.n .e (some ⟨.func, 1, 8, (some [.nilf]), false⟩) .e) (some ⟨.func, 1, 8, (some [.nilf]), false⟩) .e) (some ⟨.func, 1, 8, (some [.nilf]), false⟩) (.n .e (some ⟨(.int .u64), 1, 8, (some [(.int .u64 (.ofNat 0))]), false⟩) .e)) (some ⟨(.struct [(0, 44, true), (1, 3, true), (2, 9, true), (3, 9, true), (4, 9, true), (5, 3, true)]), 6, 72, (some [(.int .u8 (.ofNat 0)), (.int .i64 (.ofNat 0)), (.str []), (.str []), (.str []), (.int .i64 (.ofNat 0))]), true⟩) (.n (.n .e (some ⟨.func, 1, 8, (some [.nilf]), false⟩) .e) (some ⟨.func, 1, 8, (some [.nilf]), false⟩) (.n .e (some ⟨.other, 1, 0, none, false⟩) .e))) (some ⟨(.slice 5), 1, 24, (some [.nils]), false⟩) (.n (.n (.n .e (some ⟨.func, 1, 8, (some [.nilf]), false⟩) .e) (some ⟨.func, 1, 8, (some [.nilf]), false⟩) (.n .e (some ⟨(.struct [(0, 9, true), (1, 76, true), (2, 219, true), (3, 219, true), (4, 76, true), (5, 220, true)]), 6, 56, (some [(.str []), .nilf, .nilf, .nilf, .nilf, .nilf]), true⟩) .e)) (some ⟨.func, 1, 8, (some [.nilf]), false⟩) (.n (.n .e (some ⟨.func, 1, 8, (some [.nilf]), false⟩) .e) (some ⟨.func, 1, 8, (some [.nilf]), false⟩) (.n .e (some ⟨(.slice 95), 1, 24, (some [.nils]), false⟩) .e))))
noncomputable def tt011 : T TI := .n tt0110 (some ⟨(.struct [(0, 9, true), (1, 12, true)]), 2, 24, (some [(.str []), (.int .u64 (.ofNat 0))]), false⟩) tt0111
noncomputable def tt01 : T TI := .n tt010 (some ⟨(.int .u8), 1, 1, (some [(.int .u8 (.ofNat 0))]), false⟩) tt011
noncomputable def tt0 : T TI := .n tt00 (some ⟨.func, 1, 8, (some [.nilf]), false⟩) tt01
noncomputable def tt1000 : T TI := (.n (.n (.n (.n (.n .e (some ⟨(.struct [(0, 5, true), (1, 5, true)]), 2, 2, (some [(.int .u8 (.ofNat 0)), (.int .u8 (.ofNat 0))]), true⟩) .e) (some ⟨.other, 1, 0, none, false⟩) .e) (some ⟨.func, 1, 8, (some [.nilf]), false⟩) (.n .e (some ⟨.func, 1, 8, (some [.nilf]), false⟩) .e)) (some ⟨(.struct [(0, 29, true), (1, 30, true), (2, 29, true), (3, 31, true)]), 4, 96, (some [.nils, .nils, .nils, .nils]), true⟩) (.n (.n .e (some ⟨.func, 1, 8, (some [.nilf]), false⟩) .e) (some ⟨.func, 1, 8, (some [.nilf]), false⟩) (.n .e (some ⟨.func, 1, 8, (some [.nilf]), false⟩) .e))) (some ⟨(.ptr 265), 1, 8, (some [.nilp]), false⟩) (.n (.n (.n (.n .e (some ⟨(.int .i32), 1, 4, (some [(.int .i32 (.ofNat 0))]), false⟩) .e) (some ⟨.func, 1, 8, (some [.nilf]), false⟩) .e) (some ⟨(.struct [(0, 35, true), (1, 34, true), (2, 34, true)]), 3, 56, (some [.nilp, .nils, .nils]), true⟩) (.n .e (some ⟨.func, 1, 8, (some [.nilf]), false⟩) .e)) (some ⟨.func, 1, 8, (some [.nilf]), false⟩) (.n (.n .e (some ⟨.func, 1, 8, (some [.nilf]), false⟩) .e) (some ⟨.func, 1, 8, (some [.nilf]), false⟩) (.n .e (some ⟨.func, 1, 8, (some [.nilf]), false⟩) .e))))
noncomputable def tt1001 : T TI := (.n (.n (.n (.n (.n .e (some ⟨(.struct [(0, 263, false)]), 0, 0, (some []), false⟩) .e) (some ⟨(.struct [(0, 9, true), (1, 134, true), (2, 3, true), (3, 3, true), (4, 34, true), (5, 3, true), (6, 3, true)]), 7, 80, (some [(.str []), (.int .u8 (.ofNat 0)), (.int .i64 (.ofNat 0)), (.int .i64 (.ofNat 0)), .nils, (.int .i64 (.ofNat 0)), (.int .i64 (.ofNat 0))]), true⟩) .e) (some ⟨.func, 1, 8, (some [.nilf]), false⟩) (.n .e (some ⟨.func, 1, 8, (some [.nilf]), false⟩) .e)) (some ⟨(.struct [(0, 36, true), (1, 37, true), (2, 38, true), (3, 34, true), (4, 22, true)]), 5, 120, (some [.nils, .nils, .nils, .nils, .nils]), true⟩) (.n (.n .e (some ⟨.func, 1, 8, (some [.nilf]), false⟩) .e) (some ⟨.func, 1, 8, (some [.nilf]), false⟩) (.n .e (some ⟨.func, 1, 8, (some [.nilf]), false⟩) .e))) (some ⟨.other, 1, 0, none, false⟩) (.n (.n (.n .e (some ⟨.func, 1, 8, (some [.nilf]), false⟩) .e) (some ⟨(.struct [(0, 82, true), (5, 83, true), (6, 34, true), (7, 34, true), (8, 75, true), (9, 84, true), (10, 84, true), (11, 85, true), (12, 86, true), (13, 87, true)]), 14, 320, (some [.nils, .nils, .nils, .nils, .nils, .nilm, .nils, .nils, .nils, .nils, .nils, .nils, .nils, .nils]), true⟩) (.n .e (some ⟨.func, 1, 8, (some [.nilf]), false⟩) .e)) (some ⟨.func, 1, 8, (some [.nilf]), false⟩) (.n (.n .e (some ⟨.func, 1, 8, (some [.nilf]), false⟩) .e) (some ⟨.other, 1, 0, none, false⟩) (.n .e (some ⟨.func, 1, 8, (some [.nilf]), false⟩) .e))))
noncomputable def tt100 : T TI := .n tt1000 (some ⟨(.struct [(0, 2, true), (1, 3, true), (2, 4, true), (3, 6, true)]), 4, 24, (some [(.int .i64 (.ofNat 0)), (.int .i64 (.ofNat 0)), (.bool false), (.int .u8 (.ofNat 0))]), true⟩) tt1001
noncomputable def tt1010 : T TI := (.n (.n (.n (.n (.n .e (some ⟨.func, 1, 8, (some [.nilf]), false⟩) .e) (some ⟨.func, 1, 8, (some [.nilf]), false⟩) .e) (some ⟨.func, 1, 8, (some [.nilf]), false⟩) (.n .e (some ⟨(.int .i64), 1, 8, (some [(.int .i64 (.ofNat 0))]), false⟩) .e)) (some ⟨(.slice 136), 1, 24, (some [.nils]), false⟩) (.n (.n .e (some ⟨.func, 1, 8, (some [.nilf]), false⟩) .e) (some ⟨.func, 1, 8, (some [.nilf]), false⟩) (.n .e (some ⟨.func, 1, 8, (some [.nilf]), false⟩) .e))) (some ⟨.iface, 1, 16, (some [.nili]), false⟩) (.n (.n (.n .e (some ⟨(.int .u32), 1, 4, (some [(.int .u32 (.ofNat 0))]), false⟩) .e) (some ⟨(.slice 34), 1, 24, (some [.nils]), false⟩) (.n .e (some ⟨.func, 1, 8, (some [.nilf]), false⟩) .e)) (some ⟨.func, 1, 8, (some [.nilf]), false⟩) (.n (.n .e (some ⟨(.struct [(0, 178, true), (2, 179, true)]), 3, 56, (some [.nils, .nils, .nilm]), true⟩) .e) (some ⟨(.struct [(0, 9, true), (1, 9, true), (2, 9, true), (3, 3, true), (4, 3, true), (5, 9, true), (6, 4, true), (7, 4, true), (8, 65, true)]), 9, 112, (some [(.str []), (.str []), (.str []), (.int .i64 (.ofNat 0)), (.int .i64 (.ofNat 0)), (.str []), (.bool false), (.bool false), .nils]), true⟩) (.n .e (some ⟨.func, 1, 8, (some [.nilf]), false⟩) .e))))
noncomputable def tt1011 : T TI := (.n (.n (.n (.n (.n .e (some ⟨(.int .u8), 1, 1, (some [(.int .u8 (.ofNat 0))]), false⟩) .e) (some ⟨.func, 1, 8, (some [.nilf]), false⟩) .e) (some ⟨.func, 1, 8, (some [.nilf]), false⟩) (.n .e (some ⟨.func, 1, 8, (some [.nilf]), false⟩) .e)) (some ⟨(.int .u8), 1, 1, (some [(.int .u8 (.ofNat 0))]), false⟩) (.n (.n .e (some ⟨.other, 1, 0, none, false⟩) .e) (some ⟨(.map 3 3), 1, 8, (some [.nilm]), false⟩) (.n .e (some ⟨.func, 1, 8, (some [.nilf]), false⟩) .e))) (some ⟨.func, 1, 8, (some [.nilf]), false⟩) (.n (.n (.n .e (some ⟨.func, 1, 8, (some [.nilf]), false⟩) .e) (some ⟨(.struct [(0, 9, true), (1, 5, true), (2, 4, true), (3, 5, true), (4, 4, true), (5, 3, true), (6, 4, true), (7, 90, true)]), 8, 48, (some [(.str []), (.int .u8 (.ofNat 0)), (.bool false), (.int .u8 (.ofNat 0)), (.bool false), (.int .i64 (.ofNat 0)), (.bool false), .nilf]), true⟩) (.n .e (some ⟨.func, 1, 8, (some [.nilf]), false⟩) .e)) (some ⟨.func, 1, 8, (some [.nilf]), false⟩) (.n (.n .e (some ⟨.func, 1, 8, (some [.nilf]), false⟩) .e) (some ⟨.func, 1, 8, (some [.nilf]), false⟩) (.n .e (some ⟨.func, 1, 8, (some [.nilf]), false⟩) .e))))
noncomputable def tt101 : T TI := .n tt1010 (some ⟨(.int .u64), 1, 8, (some [(.int .u64 (.ofNat 0))]), false⟩) tt1011
noncomputable def tt10 : T TI := .n tt100 (some ⟨.bool, 1, 1, (some [(.bool false)]), false⟩) tt101
noncomputable def tt1100 : T TI := (.n (.n (.n (.n (.n .e (some ⟨(.array 16 257), 32, 32, (some [(.int .u8 (.ofNat 0)), (.int .u8 (.ofNat 0)), (.int .u8 (.ofNat 0)), (.int .u8 (.ofNat 0)), (.int .u8 (.ofNat 0)), (.int .u8 (.ofNat 0)), (.int .u8 (.ofNat 0)), (.int .u8 (.ofNat 0)), (.int .u8 (.ofNat 0)), (.int .u8 (.ofNat 0)), (.int .u8 (.ofNat 0)), (.int .u8 (.ofNat 0)), (.int .u8 (.ofNat 0)), (.int .u8 (.ofNat 0)), (.int .u8 (.ofNat 0)), (.int .u8 (.ofNat 0)), (.int .u8 (.ofNat 0)), (.int .u8 (.ofNat 0)), (.int .u8 (.ofNat 0)), (.int .u8 (.ofNat 0)), (.int .u8 (.ofNat 0)), (.int .u8 (.ofNat 0)), (.int .u8 (.ofNat 0)), (.int .u8 (.ofNat 0)), (.int .u8 (.ofNat 0)), (.int .u8 (.ofNat 0)), (.int .u8 (.ofNat 0)), (.int .u8 (.ofNat 0)), (.int .u8 (.ofNat 0)), (.int .u8 (.ofNat 0)), (.int .u8 (.ofNat 0)), (.int .u8 (.ofNat 0))]), false⟩) .e) (some ⟨.func, 1, 8, (some [.nilf]), false⟩) .e) (some ⟨.other, 1, 0, none, false⟩) (.n .e (some ⟨.func, 1, 8, (some [.nilf]), false⟩) .e)) (some ⟨(.slice 3), 1, 24, (some [.nils]), false⟩) (.n (.n .e (some ⟨.other, 1, 0, none, false⟩) .e) (some ⟨.func, 1, 8, (some [.nilf]), false⟩) (.n .e (some ⟨.func, 1, 8, (some [.nilf]), false⟩) .e))) (some ⟨(.struct [(0, 17, true)]), 1, 8, (some [.nilp]), false⟩) (.n (.n (.n (.n .e (some ⟨(.struct [(0, 12, true), (1, 12, true), (2, 148, true), (3, 267, true), (4, 5, true), (5, 5, true), (6, 268, true), (7, 269, true), (8, 270, true), (9, 271, true), (10, 272, true)]), 11, 48, (some [(.int .u64 (.ofNat 0)), (.int .u64 (.ofNat 0)), (.int .u32 (.ofNat 0)), (.int .u8 (.ofNat 0)), (.int .u8 (.ofNat 0)), (.int .u8 (.ofNat 0)), (.int .u8 (.ofNat 0)), .nilf, .nilp, (.int .i32 (.ofNat 0)), (.int .i32 (.ofNat 0))]), false⟩) .e) (some ⟨.other, 1, 0, none, false⟩) .e) (some ⟨(.struct [(0, 36, true), (1, 37, true), (2, 38, true), (3, 34, true), (4, 22, true)]), 5, 120, (some [.nils, .nils, .nils, .nils, .nils]), true⟩) (.n .e (some ⟨.func, 1, 8, (some [.nilf]), false⟩) .e)) (some ⟨.func, 1, 8, (some [.nilf]), false⟩) (.n (.n .e (some ⟨(.struct [(0, 37, true), (1, 38, true)]), 2, 48, (some [.nils, .nils]), true⟩) .e) (some ⟨(.struct [(0, 37, true), (1, 38, true)]), 2, 48, (some [.nils, .nils]), true⟩) (.n .e (some ⟨.func, 1, 8, (some [.nilf]), false⟩) .e))))
noncomputable def tt1101 : T TI := (.n (.n (.n (.n (.n .e (some ⟨.func, 1, 8, (some [.nilf]), false⟩) .e) (some ⟨(.struct [(0, 9, true), (1, 9, true), (2, 119, true)]), 3, 40, (some [(.str []), (.str []), (.int .u8 (.ofNat 0))]), true⟩) .e) (some ⟨.func, 1, 8, (some [.nilf]), false⟩) (.n .e (some ⟨.func, 1, 8, (some [.nilf]), false⟩) .e)) (some ⟨.func, 1, 8, (some [.nilf]), false⟩) (.n (.n .e (some ⟨.func, 1, 8, (some [.nilf]), false⟩) .e) (some ⟨.func, 1, 8, (some [.nilf]), false⟩) (.n .e (some ⟨.func, 1, 8, (some [.nilf]), false⟩) .e))) (some ⟨.func, 1, 8, (some [.nilf]), false⟩) (.n (.n (.n .e (some ⟨.func, 1, 8, (some [.nilf]), false⟩) .e) (some ⟨.func, 1, 8, (some [.nilf]), false⟩) (.n .e (some ⟨.func, 1, 8, (some [.nilf]), false⟩) .e)) (some ⟨.func, 1, 8, (some [.nilf]), false⟩) (.n (.n .e (some ⟨.func, 1, 8, (some [.nilf]), false⟩) .e) (some ⟨.func, 1, 8, (some [.nilf]), false⟩) (.n .e (some ⟨.func, 1, 8, (some [.nilf]), false⟩) .e))))
noncomputable def tt110 : T TI := .n tt1100 (some ⟨.string, 1, 16, (some [(.str [])]), false⟩) tt1101
noncomputable def tt1110 : T TI := (.n (.n (.n (.n (.n .e (some ⟨(.struct [(0, 17, true), (1, 17, true), (2, 17, true), (3, 9, true)]), 4, 40, (some [.nilp, .nilp, .nilp, (.str [])]), false⟩) .e) (some ⟨(.int .u8), 1, 1, (some [(.int .u8 (.ofNat 0))]), false⟩) .e) (some ⟨.func, 1, 8, (some [.nilf]), false⟩) (.n .e (some ⟨.func, 1, 8, (some [.nilf]), false⟩) .e)) (some ⟨(.slice 138), 1, 24, (some [.nils]), false⟩) (.n (.n .e (some ⟨.func, 1, 8, (some [.nilf]), false⟩) .e) (some ⟨.func, 1, 8, (some [.nilf]), false⟩) (.n .e (some ⟨.func, 1, 8, (some [.nilf]), false⟩) .e))) (some ⟨(.slice 46), 1, 24, (some [.nils]), false⟩) (.n (.n (.n .e (some ⟨.func, 1, 8, (some [.nilf]), false⟩) .e) (some ⟨(.slice 75), 1, 24, (some [.nils]), false⟩) (.n .e (some ⟨.func, 1, 8, (some [.nilf]), false⟩) .e)) (some ⟨.func, 1, 8, (some [.nilf]), false⟩) (.n (.n .e (some ⟨.other, 1, 0, none, false⟩) .e) (some ⟨.func, 1, 8, (some [.nilf]), false⟩) (.n .e (some ⟨.func, 1, 8, (some [.nilf]), false⟩) .e))))
noncomputable def tt1111 : T TI := (.n (.n (.n (.n (.n .e (some ⟨(.ptr 5), 1, 8, (some [.nilp]), false⟩) .e) (some ⟨.func, 1, 8, (some [.nilf]), false⟩) .e) (some ⟨(.ptr 81), 1, 8, (some [.nilp]), false⟩) (.n .e (some ⟨.func, 1, 8, (some [.nilf]), false⟩) .e)) (some ⟨(.struct [(0, 44, true), (1, 3, true), (2, 9, true), (3, 9, true), (4, 9, true), (5, 3, true)]), 6, 72, (some [(.int .u8 (.ofNat 0)), (.int .i64 (.ofNat 0)), (.str []), (.str []), (.str []), (.int .i64 (.ofNat 0))]), true⟩) (.n (.n .e (some ⟨.func, 1, 8, (some [.nilf]), false⟩) .e) (some ⟨(.ptr 181), 1, 8, (some [.nilp]), false⟩) (.n .e (some ⟨.func, 1, 8, (some [.nilf]), false⟩) .e))) (some ⟨(.slice 145), 1, 24, (some [.nils]), false⟩) (.n (.n (.n .e (some ⟨.func, 1, 8, (some [.nilf]), false⟩) .e) (some ⟨.func, 1, 8, (some [.nilf]), false⟩) (.n .e (some ⟨(.struct [(0, 9, true), (1, 76, true), (2, 219, true), (3, 219, true), (4, 76, true), (5, 220, true)]), 6, 56, (some [(.str []), .nilf, .nilf, .nilf, .nilf, .nilf]), true⟩) .e)) (some ⟨.func, 1, 8, (some [.nilf]), false⟩) (.n (.n .e (some ⟨.func, 1, 8, (some [.nilf]), false⟩) .e) (some ⟨.other, 1, 0, none, false⟩) (.n .e (some ⟨.func, 1, 8, (some [.nilf]), false⟩) .e))))
noncomputable def tt111 : T TI := .n tt1110 (some ⟨(.struct [(0, 9, true), (1, 12, true)]), 2, 24, (some [(.str []), (.int .u64 (.ofNat 0))]), false⟩) tt1111
noncomputable def tt11 : T TI := .n tt110 (some ⟨(.int .u8), 1, 1, (some [(.int .u8 (.ofNat 0))]), false⟩) tt111
noncomputable def tt1 : T TI := .n tt10 (some ⟨(.int .i64), 1, 8, (some [(.int .i64 (.ofNat 0))]), false⟩) tt11
noncomputable def tt : T TI := .n tt0 (some ⟨.other, 1, 0, none, false⟩) tt1

noncomputable def g2 : Option AFunc := cFunc tt Tryz.f2
noncomputable def g3 : Option AFunc := cFunc tt Tryz.f3
noncomputable def g4 : Option AFunc := cFunc tt Tryz.f4
noncomputable def g5 : Option AFunc := cFunc tt Tryz.f5
noncomputable def g6 : Option AFunc := cFunc tt Tryz.f6
noncomputable def g7 : Option AFunc := cFunc tt Tryz.f7
noncomputable def g8 : Option AFunc := cFunc tt Tryz.f8
noncomputable def g9 : Option AFunc := cFunc tt Tryz.f9
noncomputable def g10 : Option AFunc := cFunc tt Tryz.f10
noncomputable def g11 : Option AFunc := cFunc tt Tryz.f11
noncomputable def g12 : Option AFunc := cFunc tt Tryz.f12
noncomputable def g13 : Option AFunc := cFunc tt Tryz.f13
noncomputable def g14 : Option AFunc := cFunc tt Tryz.f14
noncomputable def g15 : Option AFunc := cFunc tt Tryz.f15
noncomputable def g16 : Option AFunc := cFunc tt Tryz.f16
noncomputable def g17 : Option AFunc := cFunc tt Tryz.f17
noncomputable def g18 : Option AFunc := cFunc tt Tryz.f18
noncomputable def g19 : Option AFunc := cFunc tt Tryz.f19
noncomputable def g20 : Option AFunc := cFunc tt Tryz.f20
noncomputable def g21 : Option AFunc := cFunc tt Tryz.f21
noncomputable def g22 : Option AFunc := cFunc tt Tryz.f22
noncomputable def g23 : Option AFunc := cFunc tt Tryz.f23
noncomputable def g24 : Option AFunc := cFunc tt Tryz.f24
noncomputable def g25 : Option AFunc := cFunc tt Tryz.f25
noncomputable def g26 : Option AFunc := cFunc tt Tryz.f26
noncomputable def g27 : Option AFunc := cFunc tt Tryz.f27
noncomputable def g28 : Option AFunc := cFunc tt Tryz.f28
noncomputable def g29 : Option AFunc := cFunc tt Tryz.f29
noncomputable def g30 : Option AFunc := cFunc tt Tryz.f30
noncomputable def g31 : Option AFunc := cFunc tt Tryz.f31
noncomputable def g32 : Option AFunc := cFunc tt Tryz.f32
noncomputable def g33 : Option AFunc := cFunc tt Tryz.f33
noncomputable def g34 : Option AFunc := cFunc tt Tryz.f34
noncomputable def g35 : Option AFunc := cFunc tt Tryz.f35
noncomputable def g36 : Option AFunc := cFunc tt Tryz.f36
noncomputable def g37 : Option AFunc := cFunc tt Tryz.f37
noncomputable def g38 : Option AFunc := cFunc tt Tryz.f38
noncomputable def g39 : Option AFunc := cFunc tt Tryz.f39
noncomputable def g40 : Option AFunc := cFunc tt Tryz.f40
noncomputable def g41 : Option AFunc := cFunc tt Tryz.f41
noncomputable def g42 : Option AFunc := cFunc tt Tryz.f42
noncomputable def g43 : Option AFunc := cFunc tt Tryz.f43
noncomputable def g44 : Option AFunc := cFunc tt Tryz.f44
noncomputable def g45 : Option AFunc := cFunc tt Tryz.f45
noncomputable def g46 : Option AFunc := cFunc tt Tryz.f46
noncomputable def g47 : Option AFunc := cFunc tt Tryz.f47
noncomputable def g48 : Option AFunc := cFunc tt Tryz.f48
noncomputable def g49 : Option AFunc := cFunc tt Tryz.f49
noncomputable def g50 : Option AFunc := cFunc tt Tryz.f50
noncomputable def g51 : Option AFunc := cFunc tt Tryz.f51
noncomputable def g52 : Option AFunc := cFunc tt Tryz.f52
noncomputable def g53 : Option AFunc := cFunc tt Tryz.f53
noncomputable def g54 : Option AFunc := cFunc tt Tryz.f54
noncomputable def g55 : Option AFunc := cFunc tt Tryz.f55
noncomputable def g56 : Option AFunc := cFunc tt Tryz.f56
noncomputable def g57 : Option AFunc := cFunc tt Tryz.f57
noncomputable def g58 : Option AFunc := cFunc tt Tryz.f58
noncomputable def g59 : Option AFunc := cFunc tt Tryz.f59
noncomputable def g60 : Option AFunc := cFunc tt Tryz.f60
noncomputable def g61 : Option AFunc := cFunc tt Tryz.f61
noncomputable def g62 : Option AFunc := cFunc tt Tryz.f62
noncomputable def g63 : Option AFunc := cFunc tt Tryz.f63
noncomputable def g64 : Option AFunc := cFunc tt Tryz.f64
noncomputable def g65 : Option AFunc := cFunc tt Tryz.f65
noncomputable def g66 : Option AFunc := cFunc tt Tryz.f66
noncomputable def g67 : Option AFunc := cFunc tt Tryz.f67
noncomputable def g68 : Option AFunc := cFunc tt Tryz.f68
noncomputable def g69 : Option AFunc := cFunc tt Tryz.f69
noncomputable def g70 : Option AFunc := cFunc tt Tryz.f70
noncomputable def g71 : Option AFunc := cFunc tt Tryz.f71
noncomputable def g72 : Option AFunc := cFunc tt Tryz.f72
noncomputable def g73 : Option AFunc := cFunc tt Tryz.f73
noncomputable def g74 : Option AFunc := cFunc tt Tryz.f74
noncomputable def g75 : Option AFunc := cFunc tt Tryz.f75
noncomputable def g76 : Option AFunc := cFunc tt Tryz.f76
noncomputable def g77 : Option AFunc := cFunc tt Tryz.f77
noncomputable def g78 : Option AFunc := cFunc tt Tryz.f78
noncomputable def g79 : Option AFunc := cFunc tt Tryz.f79
noncomputable def g80 : Option AFunc := cFunc tt Tryz.f80
noncomputable def g81 : Option AFunc := cFunc tt Tryz.f81
noncomputable def g82 : Option AFunc := cFunc tt Tryz.f82
noncomputable def g83 : Option AFunc := cFunc tt Tryz.f83
noncomputable def g84 : Option AFunc := cFunc tt Tryz.f84
noncomputable def g85 : Option AFunc := cFunc tt Tryz.f85
noncomputable def g86 : Option AFunc := cFunc tt Tryz.f86
noncomputable def g87 : Option AFunc := cFunc tt Tryz.f87
noncomputable def g88 : Option AFunc := cFunc tt Tryz.f88
noncomputable def g89 : Option AFunc := cFunc tt Tryz.f89
noncomputable def g90 : Option AFunc := cFunc tt Tryz.f90
noncomputable def g91 : Option AFunc := cFunc tt Tryz.f91
noncomputable def g92 : Option AFunc := cFunc tt Tryz.f92
noncomputable def g93 : Option AFunc := cFunc tt Tryz.f93
noncomputable def g94 : Option AFunc := cFunc tt Tryz.f94
noncomputable def g95 : Option AFunc := cFunc tt Tryz.f95
noncomputable def g96 : Option AFunc := cFunc tt Tryz.f96
noncomputable def g97 : Option AFunc := cFunc tt Tryz.f97
noncomputable def g98 : Option AFunc := cFunc tt Tryz.f98
noncomputable def g99 : Option AFunc := cFunc tt Tryz.f99
noncomputable def g100 : Option AFunc := cFunc tt Tryz.f100
noncomputable def g101 : Option AFunc := cFunc tt Tryz.f101
noncomputable def g102 : Option AFunc := cFunc tt Tryz.f102
noncomputable def g103 : Option AFunc := cFunc tt Tryz.f103
noncomputable def g104 : Option AFunc := cFunc tt Tryz.f104
noncomputable def g105 : Option AFunc := cFunc tt Tryz.f105
noncomputable def g106 : Option AFunc := cFunc tt Tryz.f106
noncomputable def g107 : Option AFunc := cFunc tt Tryz.f107
noncomputable def g108 : Option AFunc := cFunc tt Tryz.f108
noncomputable def g109 : Option AFunc := cFunc tt Tryz.f109
noncomputable def g110 : Option AFunc := cFunc tt Tryz.f110
noncomputable def g111 : Option AFunc := cFunc tt Tryz.f111
noncomputable def g112 : Option AFunc := cFunc tt Tryz.f112
noncomputable def g113 : Option AFunc := cFunc tt Tryz.f113
noncomputable def g114 : Option AFunc := cFunc tt Tryz.f114
noncomputable def g115 : Option AFunc := cFunc tt Tryz.f115
noncomputable def g116 : Option AFunc := cFunc tt Tryz.f116
noncomputable def g117 : Option AFunc := cFunc tt Tryz.f117
noncomputable def g118 : Option AFunc := cFunc tt Tryz.f118
noncomputable def g119 : Option AFunc := cFunc tt Tryz.f119
noncomputable def g120 : Option AFunc := cFunc tt Tryz.f120
noncomputable def g121 : Option AFunc := cFunc tt Tryz.f121
noncomputable def g122 : Option AFunc := cFunc tt Tryz.f122
noncomputable def g123 : Option AFunc := cFunc tt Tryz.f123
noncomputable def g124 : Option AFunc := cFunc tt Tryz.f124
noncomputable def g125 : Option AFunc := cFunc tt Tryz.f125
noncomputable def g126 : Option AFunc := cFunc tt Tryz.f126
noncomputable def g127 : Option AFunc := cFunc tt Tryz.f127
noncomputable def g128 : Option AFunc := cFunc tt Tryz.f128
noncomputable def g129 : Option AFunc := cFunc tt Tryz.f129
noncomputable def g130 : Option AFunc := cFunc tt Tryz.f130
noncomputable def g131 : Option AFunc := cFunc tt Tryz.f131
noncomputable def g132 : Option AFunc := cFunc tt Tryz.f132
noncomputable def g133 : Option AFunc := cFunc tt Tryz.f133
noncomputable def g134 : Option AFunc := cFunc tt Tryz.f134
noncomputable def g135 : Option AFunc := cFunc tt Tryz.f135
noncomputable def g136 : Option AFunc := cFunc tt Tryz.f136
noncomputable def g137 : Option AFunc := cFunc tt Tryz.f137
noncomputable def g138 : Option AFunc := cFunc tt Tryz.f138
noncomputable def g139 : Option AFunc := cFunc tt Tryz.f139
noncomputable def g140 : Option AFunc := cFunc tt Tryz.f140
noncomputable def g141 : Option AFunc := cFunc tt Tryz.f141
noncomputable def g142 : Option AFunc := cFunc tt Tryz.f142
noncomputable def g143 : Option AFunc := cFunc tt Tryz.f143
noncomputable def g144 : Option AFunc := cFunc tt Tryz.f144
noncomputable def g145 : Option AFunc := cFunc tt Tryz.f145
noncomputable def g146 : Option AFunc := cFunc tt Tryz.f146
noncomputable def g147 : Option AFunc := cFunc tt Tryz.f147
noncomputable def g148 : Option AFunc := cFunc tt Tryz.f148
noncomputable def g149 : Option AFunc := cFunc tt Tryz.f149
noncomputable def g150 : Option AFunc := cFunc tt Tryz.f150
noncomputable def g151 : Option AFunc := cFunc tt Tryz.f151
noncomputable def g152 : Option AFunc := cFunc tt Tryz.f152
noncomputable def g153 : Option AFunc := cFunc tt Tryz.f153
noncomputable def g154 : Option AFunc := cFunc tt Tryz.f154
noncomputable def g155 : Option AFunc := cFunc tt Tryz.f155
noncomputable def g156 : Option AFunc := cFunc tt Tryz.f156
noncomputable def g157 : Option AFunc := cFunc tt Tryz.f157
noncomputable def g158 : Option AFunc := cFunc tt Tryz.f158
noncomputable def g159 : Option AFunc := cFunc tt Tryz.f159
noncomputable def g160 : Option AFunc := cFunc tt Tryz.f160
noncomputable def g161 : Option AFunc := cFunc tt Tryz.f161
noncomputable def g162 : Option AFunc := cFunc tt Tryz.f162
noncomputable def g163 : Option AFunc := cFunc tt Tryz.f163
noncomputable def g164 : Option AFunc := cFunc tt Tryz.f164
noncomputable def g165 : Option AFunc := cFunc tt Tryz.f165
noncomputable def g166 : Option AFunc := cFunc tt Tryz.f166
noncomputable def g167 : Option AFunc := cFunc tt Tryz.f167
noncomputable def g168 : Option AFunc := cFunc tt Tryz.f168
noncomputable def g169 : Option AFunc := cFunc tt Tryz.f169
noncomputable def g170 : Option AFunc := cFunc tt Tryz.f170
noncomputable def g171 : Option AFunc := cFunc tt Tryz.f171
noncomputable def g172 : Option AFunc := cFunc tt Tryz.f172
noncomputable def g173 : Option AFunc := cFunc tt Tryz.f173
noncomputable def g174 : Option AFunc := cFunc tt Tryz.f174
noncomputable def g175 : Option AFunc := cFunc tt Tryz.f175
noncomputable def g176 : Option AFunc := cFunc tt Tryz.f176
noncomputable def g177 : Option AFunc := cFunc tt Tryz.f177
noncomputable def g178 : Option AFunc := cFunc tt Tryz.f178
noncomputable def g179 : Option AFunc := cFunc tt Tryz.f179
noncomputable def g180 : Option AFunc := cFunc tt Tryz.f180
noncomputable def g181 : Option AFunc := cFunc tt Tryz.f181
noncomputable def g182 : Option AFunc := cFunc tt Tryz.f182
noncomputable def g183 : Option AFunc := cFunc tt Tryz.f183
noncomputable def g184 : Option AFunc := cFunc tt Tryz.f184
noncomputable def g185 : Option AFunc := cFunc tt Tryz.f185
noncomputable def g186 : Option AFunc := cFunc tt Tryz.f186
noncomputable def g187 : Option AFunc := cFunc tt Tryz.f187
noncomputable def g188 : Option AFunc := cFunc tt Tryz.f188
noncomputable def g189 : Option AFunc := cFunc tt Tryz.f189
noncomputable def g190 : Option AFunc := cFunc tt Tryz.f190
noncomputable def g191 : Option AFunc := cFunc tt Tryz.f191
noncomputable def g192 : Option AFunc := cFunc tt Tryz.f192
noncomputable def g193 : Option AFunc := cFunc tt Tryz.f193
noncomputable def g194 : Option AFunc := cFunc tt Tryz.f194
noncomputable def g195 : Option AFunc := cFunc tt Tryz.f195
noncomputable def g196 : Option AFunc := cFunc tt Tryz.f196
noncomputable def g197 : Option AFunc := cFunc tt Tryz.f197
noncomputable def g198 : Option AFunc := cFunc tt Tryz.f198
noncomputable def g199 : Option AFunc := cFunc tt Tryz.f199
noncomputable def g200 : Option AFunc := cFunc tt Tryz.f200
noncomputable def g201 : Option AFunc := cFunc tt Tryz.f201
noncomputable def g202 : Option AFunc := cFunc tt Tryz.f202
noncomputable def g203 : Option AFunc := cFunc tt Tryz.f203
noncomputable def g204 : Option AFunc := cFunc tt Tryz.f204
noncomputable def g205 : Option AFunc := cFunc tt Tryz.f205
noncomputable def g206 : Option AFunc := cFunc tt Tryz.f206
noncomputable def g207 : Option AFunc := cFunc tt Tryz.f207
noncomputable def g208 : Option AFunc := cFunc tt Tryz.f208
noncomputable def g209 : Option AFunc := cFunc tt Tryz.f209
noncomputable def g211 : Option AFunc := cFunc tt Tryz.f211
noncomputable def g212 : Option AFunc := cFunc tt Tryz.f212
noncomputable def g213 : Option AFunc := cFunc tt Tryz.f213
noncomputable def g214 : Option AFunc := cFunc tt Tryz.f214
noncomputable def g215 : Option AFunc := cFunc tt Tryz.f215
noncomputable def g216 : Option AFunc := cFunc tt Tryz.f216
noncomputable def g217 : Option AFunc := cFunc tt Tryz.f217
noncomputable def g218 : Option AFunc := cFunc tt Tryz.f218
noncomputable def g219 : Option AFunc := cFunc tt Tryz.f219
noncomputable def g220 : Option AFunc := cFunc tt Tryz.f220
noncomputable def g221 : Option AFunc := cFunc tt Tryz.f221
noncomputable def g222 : Option AFunc := cFunc tt Tryz.f222
noncomputable def g223 : Option AFunc := cFunc tt Tryz.f223
noncomputable def g224 : Option AFunc := cFunc tt Tryz.f224
noncomputable def g225 : Option AFunc := cFunc tt Tryz.f225
noncomputable def g226 : Option AFunc := cFunc tt Tryz.f226
noncomputable def g227 : Option AFunc := cFunc tt Tryz.f227
noncomputable def g228 : Option AFunc := cFunc tt Tryz.f228
noncomputable def g229 : Option AFunc := cFunc tt Tryz.f229
noncomputable def g230 : Option AFunc := cFunc tt Tryz.f230
noncomputable def g231 : Option AFunc := cFunc tt Tryz.f231
noncomputable def g232 : Option AFunc := cFunc tt Tryz.f232
noncomputable def g233 : Option AFunc := cFunc tt Tryz.f233
noncomputable def g234 : Option AFunc := cFunc tt Tryz.f234
noncomputable def g235 : Option AFunc := cFunc tt Tryz.f235
noncomputable def g236 : Option AFunc := cFunc tt Tryz.f236
noncomputable def g237 : Option AFunc := cFunc tt Tryz.f237
noncomputable def g238 : Option AFunc := cFunc tt Tryz.f238
noncomputable def g239 : Option AFunc := cFunc tt Tryz.f239
noncomputable def g240 : Option AFunc := cFunc tt Tryz.f240
noncomputable def g241 : Option AFunc := cFunc tt Tryz.f241
noncomputable def g242 : Option AFunc := cFunc tt Tryz.f242
noncomputable def g243 : Option AFunc := cFunc tt Tryz.f243
noncomputable def g244 : Option AFunc := cFunc tt Tryz.f244
noncomputable def g245 : Option AFunc := cFunc tt Tryz.f245
noncomputable def g246 : Option AFunc := cFunc tt Tryz.f246
noncomputable def g247 : Option AFunc := cFunc tt Tryz.f247
noncomputable def g249 : Option AFunc := cFunc tt Tryz.f249
noncomputable def g250 : Option AFunc := cFunc tt Tryz.f250
noncomputable def g251 : Option AFunc := cFunc tt Tryz.f251
noncomputable def g252 : Option AFunc := cFunc tt Tryz.f252
noncomputable def g254 : Option AFunc := cFunc tt Tryz.f254
noncomputable def g255 : Option AFunc := cFunc tt Tryz.f255
noncomputable def g256 : Option AFunc := cFunc tt Tryz.f256
noncomputable def g257 : Option AFunc := cFunc tt Tryz.f257
noncomputable def g258 : Option AFunc := cFunc tt Tryz.f258
noncomputable def g259 : Option AFunc := cFunc tt Tryz.f259
noncomputable def g260 : Option AFunc := cFunc tt Tryz.f260
noncomputable def g261 : Option AFunc := cFunc tt Tryz.f261
noncomputable def g262 : Option AFunc := cFunc tt Tryz.f262
noncomputable def g263 : Option AFunc := cFunc tt Tryz.f263
noncomputable def g264 : Option AFunc := cFunc tt Tryz.f264
noncomputable def g265 : Option AFunc := cFunc tt Tryz.f265
noncomputable def g267 : Option AFunc := cFunc tt Tryz.f267
noncomputable def g268 : Option AFunc := cFunc tt Tryz.f268
noncomputable def g270 : Option AFunc := cFunc tt Tryz.f270
noncomputable def g271 : Option AFunc := cFunc tt Tryz.f271
noncomputable def g272 : Option AFunc := cFunc tt Tryz.f272
noncomputable def g273 : Option AFunc := cFunc tt Tryz.f273
noncomputable def g295 : Option AFunc := cFunc tt Tryz.f295
noncomputable def gg0000 : T AFunc := (.n (.n (.n (.n (.n .e g255 .e) g127 .e) g63 (.n .e g191 .e)) g31 (.n (.n .e g159 .e) g95 (.n .e g223 .e))) g15 (.n (.n (.n (.n .e g271 .e) g143 .e) g79 (.n .e g207 .e)) g47 (.n (.n .e g175 .e) g111 (.n .e g239 .e))))
noncomputable def gg0001 : T AFunc := (.n (.n (.n (.n (.n .e g263 .e) g135 .e) g71 (.n .e g199 .e)) g39 (.n (.n (.n .e g295 .e) g167 .e) g103 (.n .e g231 .e))) g23 (.n (.n (.n .e g151 .e) g87 (.n .e g215 .e)) g55 (.n (.n .e g183 .e) g119 (.n .e g247 .e))))
noncomputable def gg000 : T AFunc := .n gg0000 g7 gg0001
noncomputable def gg0010 : T AFunc := (.n (.n (.n (.n (.n .e g259 .e) g131 .e) g67 (.n .e g195 .e)) g35 (.n (.n .e g163 .e) g99 (.n .e g227 .e))) g19 (.n (.n (.n .e g147 .e) g83 (.n .e g211 .e)) g51 (.n (.n .e g179 .e) g115 (.n .e g243 .e))))
noncomputable def gg0011 : T AFunc := (.n (.n (.n (.n (.n .e g267 .e) g139 .e) g75 (.n .e g203 .e)) g43 (.n (.n .e g171 .e) g107 (.n .e g235 .e))) g27 (.n (.n (.n .e g155 .e) g91 (.n .e g219 .e)) g59 (.n (.n .e g187 .e) g123 (.n .e g251 .e))))
noncomputable def gg001 : T AFunc := .n gg0010 g11 gg0011
noncomputable def gg00 : T AFunc := .n gg000 g3 gg001
noncomputable def gg0100 : T AFunc := (.n (.n (.n (.n (.n .e g257 .e) g129 .e) g65 (.n .e g193 .e)) g33 (.n (.n .e g161 .e) g97 (.n .e g225 .e))) g17 (.n (.n (.n (.n .e g273 .e) g145 .e) g81 (.n .e g209 .e)) g49 (.n (.n .e g177 .e) g113 (.n .e g241 .e))))
noncomputable def gg0101 : T AFunc := (.n (.n (.n (.n (.n .e g265 .e) g137 .e) g73 (.n .e g201 .e)) g41 (.n (.n .e g169 .e) g105 (.n .e g233 .e))) g25 (.n (.n (.n .e g153 .e) g89 (.n .e g217 .e)) g57 (.n (.n .e g185 .e) g121 (.n .e g249 .e))))
noncomputable def gg010 : T AFunc := .n gg0100 g9 gg0101
noncomputable def gg0110 : T AFunc := (.n (.n (.n (.n (.n .e g261 .e) g133 .e) g69 (.n .e g197 .e)) g37 (.n (.n .e g165 .e) g101 (.n .e g229 .e))) g21 (.n (.n (.n .e g149 .e) g85 (.n .e g213 .e)) g53 (.n (.n .e g181 .e) g117 (.n .e g245 .e))))
noncomputable def gg0111 : T AFunc := (.n (.n (.n (.n .e g141 .e) g77 (.n .e g205 .e)) g45 (.n (.n .e g173 .e) g109 (.n .e g237 .e))) g29 (.n (.n (.n .e g157 .e) g93 (.n .e g221 .e)) g61 (.n (.n .e g189 .e) g125 .e)))
noncomputable def gg011 : T AFunc := .n gg0110 g13 gg0111
noncomputable def gg01 : T AFunc := .n gg010 g5 gg011
noncomputable def gg0 : T AFunc := .n gg00 none gg01
noncomputable def gg1000 : T AFunc := (.n (.n (.n (.n (.n .e g256 .e) g128 .e) g64 (.n .e g192 .e)) g32 (.n (.n .e g160 .e) g96 (.n .e g224 .e))) g16 (.n (.n (.n (.n .e g272 .e) g144 .e) g80 (.n .e g208 .e)) g48 (.n (.n .e g176 .e) g112 (.n .e g240 .e))))
noncomputable def gg1001 : T AFunc := (.n (.n (.n (.n (.n .e g264 .e) g136 .e) g72 (.n .e g200 .e)) g40 (.n (.n .e g168 .e) g104 (.n .e g232 .e))) g24 (.n (.n (.n .e g152 .e) g88 (.n .e g216 .e)) g56 (.n (.n .e g184 .e) g120 .e)))
noncomputable def gg100 : T AFunc := .n gg1000 g8 gg1001
noncomputable def gg1010 : T AFunc := (.n (.n (.n (.n (.n .e g260 .e) g132 .e) g68 (.n .e g196 .e)) g36 (.n (.n .e g164 .e) g100 (.n .e g228 .e))) g20 (.n (.n (.n .e g148 .e) g84 (.n .e g212 .e)) g52 (.n (.n .e g180 .e) g116 (.n .e g244 .e))))
noncomputable def gg1011 : T AFunc := (.n (.n (.n (.n (.n .e g268 .e) g140 .e) g76 (.n .e g204 .e)) g44 (.n (.n .e g172 .e) g108 (.n .e g236 .e))) g28 (.n (.n (.n .e g156 .e) g92 (.n .e g220 .e)) g60 (.n (.n .e g188 .e) g124 (.n .e g252 .e))))
noncomputable def gg101 : T AFunc := .n gg1010 g12 gg1011
noncomputable def gg10 : T AFunc := .n gg100 g4 gg101
noncomputable def gg1100 : T AFunc := (.n (.n (.n (.n (.n .e g258 .e) g130 .e) g66 (.n .e g194 .e)) g34 (.n (.n .e g162 .e) g98 (.n .e g226 .e))) g18 (.n (.n (.n .e g146 .e) g82 .e) g50 (.n (.n .e g178 .e) g114 (.n .e g242 .e))))
noncomputable def gg1101 : T AFunc := (.n (.n (.n (.n .e g138 .e) g74 (.n .e g202 .e)) g42 (.n (.n .e g170 .e) g106 (.n .e g234 .e))) g26 (.n (.n (.n .e g154 .e) g90 (.n .e g218 .e)) g58 (.n (.n .e g186 .e) g122 (.n .e g250 .e))))
noncomputable def gg110 : T AFunc := .n gg1100 g10 gg1101
noncomputable def gg1110 : T AFunc := (.n (.n (.n (.n (.n .e g262 .e) g134 .e) g70 (.n .e g198 .e)) g38 (.n (.n .e g166 .e) g102 (.n .e g230 .e))) g22 (.n (.n (.n .e g150 .e) g86 (.n .e g214 .e)) g54 (.n (.n .e g182 .e) g118 (.n .e g246 .e))))
noncomputable def gg1111 : T AFunc := (.n (.n (.n (.n (.n .e g270 .e) g142 .e) g78 (.n .e g206 .e)) g46 (.n (.n .e g174 .e) g110 (.n .e g238 .e))) g30 (.n (.n (.n .e g158 .e) g94 (.n .e g222 .e)) g62 (.n (.n .e g190 .e) g126 (.n .e g254 .e))))
noncomputable def gg111 : T AFunc := .n gg1110 g14 gg1111
noncomputable def gg11 : T AFunc := .n gg110 g6 gg111
noncomputable def gg1 : T AFunc := .n gg10 g2 gg11
noncomputable def gg : T AFunc := .n gg0 none gg1

end Go.Proofs.YtcjaejohbhmjhaaGreatDoor
end

section
set_option maxRecDepth 100000
namespace Go.Proofs.YtcjaejohbhmjhaaGreatDoor
open Go Go.Ai Go.Proofs
theorem tt_chk : chkTree Go.Proofs.Tryz.prog (fun p => p) tt = true := by kernel_rfl
theorem tt_ok : TTOk Go.Proofs.Tryz.prog tt := ttOk_of tt_chk
theorem leaf2 : GLeaf Go.Proofs.Tryz.prog tt 2 g2 := GLeaf.of (fn := Go.Proofs.Tryz.f2) rfl (by decide)
theorem leaf3 : GLeaf Go.Proofs.Tryz.prog tt 3 g3 := GLeaf.of (fn := Go.Proofs.Tryz.f3) rfl (by decide)
theorem leaf4 : GLeaf Go.Proofs.Tryz.prog tt 4 g4 := GLeaf.of (fn := Go.Proofs.Tryz.f4) rfl (by decide)
theorem leaf5 : GLeaf Go.Proofs.Tryz.prog tt 5 g5 := GLeaf.of (fn := Go.Proofs.Tryz.f5) rfl (by decide)
theorem leaf6 : GLeaf Go.Proofs.Tryz.prog tt 6 g6 := GLeaf.of (fn := Go.Proofs.Tryz.f6) rfl (by decide)
theorem leaf7 : GLeaf Go.Proofs.Tryz.prog tt 7 g7 := GLeaf.of (fn := Go.Proofs.Tryz.f7) rfl (by decide)
theorem leaf8 : GLeaf Go.Proofs.Tryz.prog tt 8 g8 := GLeaf.of (fn := Go.Proofs.Tryz.f8) rfl (by decide)
theorem leaf9 : GLeaf Go.Proofs.Tryz.prog tt 9 g9 := GLeaf.of (fn := Go.Proofs.Tryz.f9) rfl (by decide)
theorem leaf10 : GLeaf Go.Proofs.Tryz.prog tt 10 g10 := GLeaf.of (fn := Go.Proofs.Tryz.f10) rfl (by decide)
theorem leaf11 : GLeaf Go.Proofs.Tryz.prog tt 11 g11 := GLeaf.of (fn := Go.Proofs.Tryz.f11) rfl (by decide)
theorem leaf12 : GLeaf Go.Proofs.Tryz.prog tt 12 g12 := GLeaf.of (fn := Go.Proofs.Tryz.f12) rfl (by decide)
theorem leaf13 : GLeaf Go.Proofs.Tryz.prog tt 13 g13 := GLeaf.of (fn := Go.Proofs.Tryz.f13) rfl (by decide)
theorem leaf14 : GLeaf Go.Proofs.Tryz.prog tt 14 g14 := GLeaf.of (fn := Go.Proofs.Tryz.f14) rfl (by decide)
theorem leaf15 : GLeaf Go.Proofs.Tryz.prog tt 15 g15 := GLeaf.of (fn := Go.Proofs.Tryz.f15) rfl (by decide)
theorem leaf16 : GLeaf Go.Proofs.Tryz.prog tt 16 g16 := GLeaf.of (fn := Go.Proofs.Tryz.f16) rfl (by decide)
theorem leaf17 : GLeaf Go.Proofs.Tryz.prog tt 17 g17 := GLeaf.of (fn := Go.Proofs.Tryz.f17) rfl (by decide)
theorem leaf18 : GLeaf Go.Proofs.Tryz.prog tt 18 g18 := GLeaf.of (fn := Go.Proofs.Tryz.f18) rfl (by decide)
theorem leaf19 : GLeaf Go.Proofs.Tryz.prog tt 19 g19 := GLeaf.of (fn := Go.Proofs.Tryz.f19) rfl (by decide)
theorem leaf20 : GLeaf Go.Proofs.Tryz.prog tt 20 g20 := GLeaf.of (fn := Go.Proofs.Tryz.f20) rfl (by decide)
theorem leaf21 : GLeaf Go.Proofs.Tryz.prog tt 21 g21 := GLeaf.of (fn := Go.Proofs.Tryz.f21) rfl (by decide)
theorem leaf22 : GLeaf Go.Proofs.Tryz.prog tt 22 g22 := GLeaf.of (fn := Go.Proofs.Tryz.f22) rfl (by decide)
theorem leaf23 : GLeaf Go.Proofs.Tryz.prog tt 23 g23 := GLeaf.of (fn := Go.Proofs.Tryz.f23) rfl (by decide)
theorem leaf24 : GLeaf Go.Proofs.Tryz.prog tt 24 g24 := GLeaf.of (fn := Go.Proofs.Tryz.f24) rfl (by decide)
theorem leaf25 : GLeaf Go.Proofs.Tryz.prog tt 25 g25 := GLeaf.of (fn := Go.Proofs.Tryz.f25) rfl (by decide)
theorem leaf26 : GLeaf Go.Proofs.Tryz.prog tt 26 g26 := GLeaf.of (fn := Go.Proofs.Tryz.f26) rfl (by decide)
theorem leaf27 : GLeaf Go.Proofs.Tryz.prog tt 27 g27 := GLeaf.of (fn := Go.Proofs.Tryz.f27) rfl (by decide)
theorem leaf28 : GLeaf Go.Proofs.Tryz.prog tt 28 g28 := GLeaf.of (fn := Go.Proofs.Tryz.f28) rfl (by decide)
theorem leaf29 : GLeaf Go.Proofs.Tryz.prog tt 29 g29 := GLeaf.of (fn := Go.Proofs.Tryz.f29) rfl (by decide)
theorem leaf30 : GLeaf Go.Proofs.Tryz.prog tt 30 g30 := GLeaf.of (fn := Go.Proofs.Tryz.f30) rfl (by decide)
theorem leaf31 : GLeaf Go.Proofs.Tryz.prog tt 31 g31 := GLeaf.of (fn := Go.Proofs.Tryz.f31) rfl (by decide)
theorem leaf32 : GLeaf Go.Proofs.Tryz.prog tt 32 g32 := GLeaf.of (fn := Go.Proofs.Tryz.f32) rfl (by decide)
theorem leaf33 : GLeaf Go.Proofs.Tryz.prog tt 33 g33 := GLeaf.of (fn := Go.Proofs.Tryz.f33) rfl (by decide)
theorem leaf34 : GLeaf Go.Proofs.Tryz.prog tt 34 g34 := GLeaf.of (fn := Go.Proofs.Tryz.f34) rfl (by decide)
theorem leaf35 : GLeaf Go.Proofs.Tryz.prog tt 35 g35 := GLeaf.of (fn := Go.Proofs.Tryz.f35) rfl (by decide)
theorem leaf36 : GLeaf Go.Proofs.Tryz.prog tt 36 g36 := GLeaf.of (fn := Go.Proofs.Tryz.f36) rfl (by decide)
theorem leaf37 : GLeaf Go.Proofs.Tryz.prog tt 37 g37 := GLeaf.of (fn := Go.Proofs.Tryz.f37) rfl (by decide)
theorem leaf38 : GLeaf Go.Proofs.Tryz.prog tt 38 g38 := GLeaf.of (fn := Go.Proofs.Tryz.f38) rfl (by decide)
theorem leaf39 : GLeaf Go.Proofs.Tryz.prog tt 39 g39 := GLeaf.of (fn := Go.Proofs.Tryz.f39) rfl (by decide)
theorem leaf40 : GLeaf Go.Proofs.Tryz.prog tt 40 g40 := GLeaf.of (fn := Go.Proofs.Tryz.f40) rfl (by decide)
theorem leaf41 : GLeaf Go.Proofs.Tryz.prog tt 41 g41 := GLeaf.of (fn := Go.Proofs.Tryz.f41) rfl (by decide)
theorem leaf42 : GLeaf Go.Proofs.Tryz.prog tt 42 g42 := GLeaf.of (fn := Go.Proofs.Tryz.f42) rfl (by decide)
theorem leaf43 : GLeaf Go.Proofs.Tryz.prog tt 43 g43 := GLeaf.of (fn := Go.Proofs.Tryz.f43) rfl (by decide)
theorem leaf44 : GLeaf Go.Proofs.Tryz.prog tt 44 g44 := GLeaf.of (fn := Go.Proofs.Tryz.f44) rfl (by decide)
theorem leaf45 : GLeaf Go.Proofs.Tryz.prog tt 45 g45 := GLeaf.of (fn := Go.Proofs.Tryz.f45) rfl (by decide)
theorem leaf46 : GLeaf Go.Proofs.Tryz.prog tt 46 g46 := GLeaf.of (fn := Go.Proofs.Tryz.f46) rfl (by decide)
theorem leaf47 : GLeaf Go.Proofs.Tryz.prog tt 47 g47 := GLeaf.of (fn := Go.Proofs.Tryz.f47) rfl (by decide)
theorem leaf48 : GLeaf Go.Proofs.Tryz.prog tt 48 g48 := GLeaf.of (fn := Go.Proofs.Tryz.f48) rfl (by decide)
theorem leaf49 : GLeaf Go.Proofs.Tryz.prog tt 49 g49 := GLeaf.of (fn := Go.Proofs.Tryz.f49) rfl (by decide)
theorem leaf50 : GLeaf Go.Proofs.Tryz.prog tt 50 g50 := GLeaf.of (fn := Go.Proofs.Tryz.f50) rfl (by decide)
theorem leaf51 : GLeaf Go.Proofs.Tryz.prog tt 51 g51 := GLeaf.of (fn := Go.Proofs.Tryz.f51) rfl (by decide)
theorem leaf52 : GLeaf Go.Proofs.Tryz.prog tt 52 g52 := GLeaf.of (fn := Go.Proofs.Tryz.f52) rfl (by decide)
theorem leaf53 : GLeaf Go.Proofs.Tryz.prog tt 53 g53 := GLeaf.of (fn := Go.Proofs.Tryz.f53) rfl (by decide)
theorem leaf54 : GLeaf Go.Proofs.Tryz.prog tt 54 g54 := GLeaf.of (fn := Go.Proofs.Tryz.f54) rfl (by decide)
theorem leaf55 : GLeaf Go.Proofs.Tryz.prog tt 55 g55 := GLeaf.of (fn := Go.Proofs.Tryz.f55) rfl (by decide)
theorem leaf56 : GLeaf Go.Proofs.Tryz.prog tt 56 g56 := GLeaf.of (fn := Go.Proofs.Tryz.f56) rfl (by decide)
theorem leaf57 : GLeaf Go.Proofs.Tryz.prog tt 57 g57 := GLeaf.of (fn := Go.Proofs.Tryz.f57) rfl (by decide)
theorem leaf58 : GLeaf Go.Proofs.Tryz.prog tt 58 g58 := GLeaf.of (fn := Go.Proofs.Tryz.f58) rfl (by decide)
theorem leaf59 : GLeaf Go.Proofs.Tryz.prog tt 59 g59 := GLeaf.of (fn := Go.Proofs.Tryz.f59) rfl (by decide)
theorem leaf60 : GLeaf Go.Proofs.Tryz.prog tt 60 g60 := GLeaf.of (fn := Go.Proofs.Tryz.f60) rfl (by decide)
theorem leaf61 : GLeaf Go.Proofs.Tryz.prog tt 61 g61 := GLeaf.of (fn := Go.Proofs.Tryz.f61) rfl (by decide)
theorem leaf62 : GLeaf Go.Proofs.Tryz.prog tt 62 g62 := GLeaf.of (fn := Go.Proofs.Tryz.f62) rfl (by decide)
theorem leaf63 : GLeaf Go.Proofs.Tryz.prog tt 63 g63 := GLeaf.of (fn := Go.Proofs.Tryz.f63) rfl (by decide)
theorem leaf64 : GLeaf Go.Proofs.Tryz.prog tt 64 g64 := GLeaf.of (fn := Go.Proofs.Tryz.f64) rfl (by decide)
theorem leaf65 : GLeaf Go.Proofs.Tryz.prog tt 65 g65 := GLeaf.of (fn := Go.Proofs.Tryz.f65) rfl (by decide)
theorem leaf66 : GLeaf Go.Proofs.Tryz.prog tt 66 g66 := GLeaf.of (fn := Go.Proofs.Tryz.f66) rfl (by decide)
theorem leaf67 : GLeaf Go.Proofs.Tryz.prog tt 67 g67 := GLeaf.of (fn := Go.Proofs.Tryz.f67) rfl (by decide)
theorem leaf68 : GLeaf Go.Proofs.Tryz.prog tt 68 g68 := GLeaf.of (fn := Go.Proofs.Tryz.f68) rfl (by decide)
theorem leaf69 : GLeaf Go.Proofs.Tryz.prog tt 69 g69 := GLeaf.of (fn := Go.Proofs.Tryz.f69) rfl (by decide)
theorem leaf70 : GLeaf Go.Proofs.Tryz.prog tt 70 g70 := GLeaf.of (fn := Go.Proofs.Tryz.f70) rfl (by decide)
theorem leaf71 : GLeaf Go.Proofs.Tryz.prog tt 71 g71 := GLeaf.of (fn := Go.Proofs.Tryz.f71) rfl (by decide)
theorem leaf72 : GLeaf Go.Proofs.Tryz.prog tt 72 g72 := GLeaf.of (fn := Go.Proofs.Tryz.f72) rfl (by decide)
theorem leaf73 : GLeaf Go.Proofs.Tryz.prog tt 73 g73 := GLeaf.of (fn := Go.Proofs.Tryz.f73) rfl (by decide)
theorem leaf74 : GLeaf Go.Proofs.Tryz.prog tt 74 g74 := GLeaf.of (fn := Go.Proofs.Tryz.f74) rfl (by decide)
theorem leaf75 : GLeaf Go.Proofs.Tryz.prog tt 75 g75 := GLeaf.of (fn := Go.Proofs.Tryz.f75) rfl (by decide)
theorem leaf76 : GLeaf Go.Proofs.Tryz.prog tt 76 g76 := GLeaf.of (fn := Go.Proofs.Tryz.f76) rfl (by decide)
theorem leaf77 : GLeaf Go.Proofs.Tryz.prog tt 77 g77 := GLeaf.of (fn := Go.Proofs.Tryz.f77) rfl (by decide)
theorem leaf78 : GLeaf Go.Proofs.Tryz.prog tt 78 g78 := GLeaf.of (fn := Go.Proofs.Tryz.f78) rfl (by decide)
theorem leaf79 : GLeaf Go.Proofs.Tryz.prog tt 79 g79 := GLeaf.of (fn := Go.Proofs.Tryz.f79) rfl (by decide)
theorem leaf80 : GLeaf Go.Proofs.Tryz.prog tt 80 g80 := GLeaf.of (fn := Go.Proofs.Tryz.f80) rfl (by decide)
theorem leaf81 : GLeaf Go.Proofs.Tryz.prog tt 81 g81 := GLeaf.of (fn := Go.Proofs.Tryz.f81) rfl (by decide)
theorem leaf82 : GLeaf Go.Proofs.Tryz.prog tt 82 g82 := GLeaf.of (fn := Go.Proofs.Tryz.f82) rfl (by decide)
theorem leaf83 : GLeaf Go.Proofs.Tryz.prog tt 83 g83 := GLeaf.of (fn := Go.Proofs.Tryz.f83) rfl (by decide)
theorem leaf84 : GLeaf Go.Proofs.Tryz.prog tt 84 g84 := GLeaf.of (fn := Go.Proofs.Tryz.f84) rfl (by decide)
theorem leaf85 : GLeaf Go.Proofs.Tryz.prog tt 85 g85 := GLeaf.of (fn := Go.Proofs.Tryz.f85) rfl (by decide)
theorem leaf86 : GLeaf Go.Proofs.Tryz.prog tt 86 g86 := GLeaf.of (fn := Go.Proofs.Tryz.f86) rfl (by decide)
theorem leaf87 : GLeaf Go.Proofs.Tryz.prog tt 87 g87 := GLeaf.of (fn := Go.Proofs.Tryz.f87) rfl (by decide)
theorem leaf88 : GLeaf Go.Proofs.Tryz.prog tt 88 g88 := GLeaf.of (fn := Go.Proofs.Tryz.f88) rfl (by decide)
theorem leaf89 : GLeaf Go.Proofs.Tryz.prog tt 89 g89 := GLeaf.of (fn := Go.Proofs.Tryz.f89) rfl (by decide)
theorem leaf90 : GLeaf Go.Proofs.Tryz.prog tt 90 g90 := GLeaf.of (fn := Go.Proofs.Tryz.f90) rfl (by decide)
theorem leaf91 : GLeaf Go.Proofs.Tryz.prog tt 91 g91 := GLeaf.of (fn := Go.Proofs.Tryz.f91) rfl (by decide)
theorem leaf92 : GLeaf Go.Proofs.Tryz.prog tt 92 g92 := GLeaf.of (fn := Go.Proofs.Tryz.f92) rfl (by decide)
theorem leaf93 : GLeaf Go.Proofs.Tryz.prog tt 93 g93 := GLeaf.of (fn := Go.Proofs.Tryz.f93) rfl (by decide)
theorem leaf94 : GLeaf Go.Proofs.Tryz.prog tt 94 g94 := GLeaf.of (fn := Go.Proofs.Tryz.f94) rfl (by decide)
theorem leaf95 : GLeaf Go.Proofs.Tryz.prog tt 95 g95 := GLeaf.of (fn := Go.Proofs.Tryz.f95) rfl (by decide)
theorem leaf96 : GLeaf Go.Proofs.Tryz.prog tt 96 g96 := GLeaf.of (fn := Go.Proofs.Tryz.f96) rfl (by decide)
theorem leaf97 : GLeaf Go.Proofs.Tryz.prog tt 97 g97 := GLeaf.of (fn := Go.Proofs.Tryz.f97) rfl (by decide)
theorem leaf98 : GLeaf Go.Proofs.Tryz.prog tt 98 g98 := GLeaf.of (fn := Go.Proofs.Tryz.f98) rfl (by decide)
theorem leaf99 : GLeaf Go.Proofs.Tryz.prog tt 99 g99 := GLeaf.of (fn := Go.Proofs.Tryz.f99) rfl (by decide)
theorem leaf100 : GLeaf Go.Proofs.Tryz.prog tt 100 g100 := GLeaf.of (fn := Go.Proofs.Tryz.f100) rfl (by decide)
theorem leaf101 : GLeaf Go.Proofs.Tryz.prog tt 101 g101 := GLeaf.of (fn := Go.Proofs.Tryz.f101) rfl (by decide)
theorem leaf102 : GLeaf Go.Proofs.Tryz.prog tt 102 g102 := GLeaf.of (fn := Go.Proofs.Tryz.f102) rfl (by decide)
theorem leaf103 : GLeaf Go.Proofs.Tryz.prog tt 103 g103 := GLeaf.of (fn := Go.Proofs.Tryz.f103) rfl (by decide)
theorem leaf104 : GLeaf Go.Proofs.Tryz.prog tt 104 g104 := GLeaf.of (fn := Go.Proofs.Tryz.f104) rfl (by decide)
theorem leaf105 : GLeaf Go.Proofs.Tryz.prog tt 105 g105 := GLeaf.of (fn := Go.Proofs.Tryz.f105) rfl (by decide)
theorem leaf106 : GLeaf Go.Proofs.Tryz.prog tt 106 g106 := GLeaf.of (fn := Go.Proofs.Tryz.f106) rfl (by decide)
theorem leaf107 : GLeaf Go.Proofs.Tryz.prog tt 107 g107 := GLeaf.of (fn := Go.Proofs.Tryz.f107) rfl (by decide)
theorem leaf108 : GLeaf Go.Proofs.Tryz.prog tt 108 g108 := GLeaf.of (fn := Go.Proofs.Tryz.f108) rfl (by decide)
theorem leaf109 : GLeaf Go.Proofs.Tryz.prog tt 109 g109 := GLeaf.of (fn := Go.Proofs.Tryz.f109) rfl (by decide)
theorem leaf110 : GLeaf Go.Proofs.Tryz.prog tt 110 g110 := GLeaf.of (fn := Go.Proofs.Tryz.f110) rfl (by decide)
theorem leaf111 : GLeaf Go.Proofs.Tryz.prog tt 111 g111 := GLeaf.of (fn := Go.Proofs.Tryz.f111) rfl (by decide)
theorem leaf112 : GLeaf Go.Proofs.Tryz.prog tt 112 g112 := GLeaf.of (fn := Go.Proofs.Tryz.f112) rfl (by decide)
theorem leaf113 : GLeaf Go.Proofs.Tryz.prog tt 113 g113 := GLeaf.of (fn := Go.Proofs.Tryz.f113) rfl (by decide)
theorem leaf114 : GLeaf Go.Proofs.Tryz.prog tt 114 g114 := GLeaf.of (fn := Go.Proofs.Tryz.f114) rfl (by decide)
theorem leaf115 : GLeaf Go.Proofs.Tryz.prog tt 115 g115 := GLeaf.of (fn := Go.Proofs.Tryz.f115) rfl (by decide)
theorem leaf116 : GLeaf Go.Proofs.Tryz.prog tt 116 g116 := GLeaf.of (fn := Go.Proofs.Tryz.f116) rfl (by decide)
theorem leaf117 : GLeaf Go.Proofs.Tryz.prog tt 117 g117 := GLeaf.of (fn := Go.Proofs.Tryz.f117) rfl (by decide)
theorem leaf118 : GLeaf Go.Proofs.Tryz.prog tt 118 g118 := GLeaf.of (fn := Go.Proofs.Tryz.f118) rfl (by decide)
theorem leaf119 : GLeaf Go.Proofs.Tryz.prog tt 119 g119 := GLeaf.of (fn := Go.Proofs.Tryz.f119) rfl (by decide)
theorem leaf120 : GLeaf Go.Proofs.Tryz.prog tt 120 g120 := GLeaf.of (fn := Go.Proofs.Tryz.f120) rfl (by decide)
theorem leaf121 : GLeaf Go.Proofs.Tryz.prog tt 121 g121 := GLeaf.of (fn := Go.Proofs.Tryz.f121) rfl (by decide)
theorem leaf122 : GLeaf Go.Proofs.Tryz.prog tt 122 g122 := GLeaf.of (fn := Go.Proofs.Tryz.f122) rfl (by decide)
theorem leaf123 : GLeaf Go.Proofs.Tryz.prog tt 123 g123 := GLeaf.of (fn := Go.Proofs.Tryz.f123) rfl (by decide)
theorem leaf124 : GLeaf Go.Proofs.Tryz.prog tt 124 g124 := GLeaf.of (fn := Go.Proofs.Tryz.f124) rfl (by decide)
theorem leaf125 : GLeaf Go.Proofs.Tryz.prog tt 125 g125 := GLeaf.of (fn := Go.Proofs.Tryz.f125) rfl (by decide)
theorem leaf126 : GLeaf Go.Proofs.Tryz.prog tt 126 g126 := GLeaf.of (fn := Go.Proofs.Tryz.f126) rfl (by decide)
theorem leaf127 : GLeaf Go.Proofs.Tryz.prog tt 127 g127 := GLeaf.of (fn := Go.Proofs.Tryz.f127) rfl (by decide)
theorem leaf128 : GLeaf Go.Proofs.Tryz.prog tt 128 g128 := GLeaf.of (fn := Go.Proofs.Tryz.f128) rfl (by decide)
theorem leaf129 : GLeaf Go.Proofs.Tryz.prog tt 129 g129 := GLeaf.of (fn := Go.Proofs.Tryz.f129) rfl (by decide)
theorem leaf130 : GLeaf Go.Proofs.Tryz.prog tt 130 g130 := GLeaf.of (fn := Go.Proofs.Tryz.f130) rfl (by decide)
theorem leaf131 : GLeaf Go.Proofs.Tryz.prog tt 131 g131 := GLeaf.of (fn := Go.Proofs.Tryz.f131) rfl (by decide)
theorem leaf132 : GLeaf Go.Proofs.Tryz.prog tt 132 g132 := GLeaf.of (fn := Go.Proofs.Tryz.f132) rfl (by decide)
theorem leaf133 : GLeaf Go.Proofs.Tryz.prog tt 133 g133 := GLeaf.of (fn := Go.Proofs.Tryz.f133) rfl (by decide)
theorem leaf134 : GLeaf Go.Proofs.Tryz.prog tt 134 g134 := GLeaf.of (fn := Go.Proofs.Tryz.f134) rfl (by decide)
theorem leaf135 : GLeaf Go.Proofs.Tryz.prog tt 135 g135 := GLeaf.of (fn := Go.Proofs.Tryz.f135) rfl (by decide)
theorem leaf136 : GLeaf Go.Proofs.Tryz.prog tt 136 g136 := GLeaf.of (fn := Go.Proofs.Tryz.f136) rfl (by decide)
theorem leaf137 : GLeaf Go.Proofs.Tryz.prog tt 137 g137 := GLeaf.of (fn := Go.Proofs.Tryz.f137) rfl (by decide)
theorem leaf138 : GLeaf Go.Proofs.Tryz.prog tt 138 g138 := GLeaf.of (fn := Go.Proofs.Tryz.f138) rfl (by decide)
theorem leaf139 : GLeaf Go.Proofs.Tryz.prog tt 139 g139 := GLeaf.of (fn := Go.Proofs.Tryz.f139) rfl (by decide)
theorem leaf140 : GLeaf Go.Proofs.Tryz.prog tt 140 g140 := GLeaf.of (fn := Go.Proofs.Tryz.f140) rfl (by decide)
theorem leaf141 : GLeaf Go.Proofs.Tryz.prog tt 141 g141 := GLeaf.of (fn := Go.Proofs.Tryz.f141) rfl (by decide)
theorem leaf142 : GLeaf Go.Proofs.Tryz.prog tt 142 g142 := GLeaf.of (fn := Go.Proofs.Tryz.f142) rfl (by decide)
theorem leaf143 : GLeaf Go.Proofs.Tryz.prog tt 143 g143 := GLeaf.of (fn := Go.Proofs.Tryz.f143) rfl (by decide)
theorem leaf144 : GLeaf Go.Proofs.Tryz.prog tt 144 g144 := GLeaf.of (fn := Go.Proofs.Tryz.f144) rfl (by decide)
theorem leaf145 : GLeaf Go.Proofs.Tryz.prog tt 145 g145 := GLeaf.of (fn := Go.Proofs.Tryz.f145) rfl (by decide)
theorem leaf146 : GLeaf Go.Proofs.Tryz.prog tt 146 g146 := GLeaf.of (fn := Go.Proofs.Tryz.f146) rfl (by decide)
theorem leaf147 : GLeaf Go.Proofs.Tryz.prog tt 147 g147 := GLeaf.of (fn := Go.Proofs.Tryz.f147) rfl (by decide)
theorem leaf148 : GLeaf Go.Proofs.Tryz.prog tt 148 g148 := GLeaf.of (fn := Go.Proofs.Tryz.f148) rfl (by decide)
theorem leaf149 : GLeaf Go.Proofs.Tryz.prog tt 149 g149 := GLeaf.of (fn := Go.Proofs.Tryz.f149) rfl (by decide)
theorem leaf150 : GLeaf Go.Proofs.Tryz.prog tt 150 g150 := GLeaf.of (fn := Go.Proofs.Tryz.f150) rfl (by decide)
theorem leaf151 : GLeaf Go.Proofs.Tryz.prog tt 151 g151 := GLeaf.of (fn := Go.Proofs.Tryz.f151) rfl (by decide)
theorem leaf152 : GLeaf Go.Proofs.Tryz.prog tt 152 g152 := GLeaf.of (fn := Go.Proofs.Tryz.f152) rfl (by decide)
theorem leaf153 : GLeaf Go.Proofs.Tryz.prog tt 153 g153 := GLeaf.of (fn := Go.Proofs.Tryz.f153) rfl (by decide)
theorem leaf154 : GLeaf Go.Proofs.Tryz.prog tt 154 g154 := GLeaf.of (fn := Go.Proofs.Tryz.f154) rfl (by decide)
theorem leaf155 : GLeaf Go.Proofs.Tryz.prog tt 155 g155 := GLeaf.of (fn := Go.Proofs.Tryz.f155) rfl (by decide)
theorem leaf156 : GLeaf Go.Proofs.Tryz.prog tt 156 g156 := GLeaf.of (fn := Go.Proofs.Tryz.f156) rfl (by decide)
theorem leaf157 : GLeaf Go.Proofs.Tryz.prog tt 157 g157 := GLeaf.of (fn := Go.Proofs.Tryz.f157) rfl (by decide)
theorem leaf158 : GLeaf Go.Proofs.Tryz.prog tt 158 g158 := GLeaf.of (fn := Go.Proofs.Tryz.f158) rfl (by decide)
theorem leaf159 : GLeaf Go.Proofs.Tryz.prog tt 159 g159 := GLeaf.of (fn := Go.Proofs.Tryz.f159) rfl (by decide)
theorem leaf160 : GLeaf Go.Proofs.Tryz.prog tt 160 g160 := GLeaf.of (fn := Go.Proofs.Tryz.f160) rfl (by decide)
theorem leaf161 : GLeaf Go.Proofs.Tryz.prog tt 161 g161 := GLeaf.of (fn := Go.Proofs.Tryz.f161) rfl (by decide)
theorem leaf162 : GLeaf Go.Proofs.Tryz.prog tt 162 g162 := GLeaf.of (fn := Go.Proofs.Tryz.f162) rfl (by decide)
theorem leaf163 : GLeaf Go.Proofs.Tryz.prog tt 163 g163 := GLeaf.of (fn := Go.Proofs.Tryz.f163) rfl (by decide)
theorem leaf164 : GLeaf Go.Proofs.Tryz.prog tt 164 g164 := GLeaf.of (fn := Go.Proofs.Tryz.f164) rfl (by decide)
theorem leaf165 : GLeaf Go.Proofs.Tryz.prog tt 165 g165 := GLeaf.of (fn := Go.Proofs.Tryz.f165) rfl (by decide)
theorem leaf166 : GLeaf Go.Proofs.Tryz.prog tt 166 g166 := GLeaf.of (fn := Go.Proofs.Tryz.f166) rfl (by decide)
theorem leaf167 : GLeaf Go.Proofs.Tryz.prog tt 167 g167 := GLeaf.of (fn := Go.Proofs.Tryz.f167) rfl (by decide)
theorem leaf168 : GLeaf Go.Proofs.Tryz.prog tt 168 g168 := GLeaf.of (fn := Go.Proofs.Tryz.f168) rfl (by decide)
theorem leaf169 : GLeaf Go.Proofs.Tryz.prog tt 169 g169 := GLeaf.of (fn := Go.Proofs.Tryz.f169) rfl (by decide)
theorem leaf170 : GLeaf Go.Proofs.Tryz.prog tt 170 g170 := GLeaf.of (fn := Go.Proofs.Tryz.f170) rfl (by decide)
theorem leaf171 : GLeaf Go.Proofs.Tryz.prog tt 171 g171 := GLeaf.of (fn := Go.Proofs.Tryz.f171) rfl (by decide)
theorem leaf172 : GLeaf Go.Proofs.Tryz.prog tt 172 g172 := GLeaf.of (fn := Go.Proofs.Tryz.f172) rfl (by decide)
theorem leaf173 : GLeaf Go.Proofs.Tryz.prog tt 173 g173 := GLeaf.of (fn := Go.Proofs.Tryz.f173) rfl (by decide)
theorem leaf174 : GLeaf Go.Proofs.Tryz.prog tt 174 g174 := GLeaf.of (fn := Go.Proofs.Tryz.f174) rfl (by decide)
theorem leaf175 : GLeaf Go.Proofs.Tryz.prog tt 175 g175 := GLeaf.of (fn := Go.Proofs.Tryz.f175) rfl (by decide)
theorem leaf176 : GLeaf Go.Proofs.Tryz.prog tt 176 g176 := GLeaf.of (fn := Go.Proofs.Tryz.f176) rfl (by decide)
theorem leaf177 : GLeaf Go.Proofs.Tryz.prog tt 177 g177 := GLeaf.of (fn := Go.Proofs.Tryz.f177) rfl (by decide)
theorem leaf178 : GLeaf Go.Proofs.Tryz.prog tt 178 g178 := GLeaf.of (fn := Go.Proofs.Tryz.f178) rfl (by decide)
theorem leaf179 : GLeaf Go.Proofs.Tryz.prog tt 179 g179 := GLeaf.of (fn := Go.Proofs.Tryz.f179) rfl (by decide)
theorem leaf180 : GLeaf Go.Proofs.Tryz.prog tt 180 g180 := GLeaf.of (fn := Go.Proofs.Tryz.f180) rfl (by decide)
theorem leaf181 : GLeaf Go.Proofs.Tryz.prog tt 181 g181 := GLeaf.of (fn := Go.Proofs.Tryz.f181) rfl (by decide)
theorem leaf182 : GLeaf Go.Proofs.Tryz.prog tt 182 g182 := GLeaf.of (fn := Go.Proofs.Tryz.f182) rfl (by decide)
theorem leaf183 : GLeaf Go.Proofs.Tryz.prog tt 183 g183 := GLeaf.of (fn := Go.Proofs.Tryz.f183) rfl (by decide)
theorem leaf184 : GLeaf Go.Proofs.Tryz.prog tt 184 g184 := GLeaf.of (fn := Go.Proofs.Tryz.f184) rfl (by decide)
theorem leaf185 : GLeaf Go.Proofs.Tryz.prog tt 185 g185 := GLeaf.of (fn := Go.Proofs.Tryz.f185) rfl (by decide)
theorem leaf186 : GLeaf Go.Proofs.Tryz.prog tt 186 g186 := GLeaf.of (fn := Go.Proofs.Tryz.f186) rfl (by decide)
theorem leaf187 : GLeaf Go.Proofs.Tryz.prog tt 187 g187 := GLeaf.of (fn := Go.Proofs.Tryz.f187) rfl (by decide)
theorem leaf188 : GLeaf Go.Proofs.Tryz.prog tt 188 g188 := GLeaf.of (fn := Go.Proofs.Tryz.f188) rfl (by decide)
theorem leaf189 : GLeaf Go.Proofs.Tryz.prog tt 189 g189 := GLeaf.of (fn := Go.Proofs.Tryz.f189) rfl (by decide)
theorem leaf190 : GLeaf Go.Proofs.Tryz.prog tt 190 g190 := GLeaf.of (fn := Go.Proofs.Tryz.f190) rfl (by decide)
theorem leaf191 : GLeaf Go.Proofs.Tryz.prog tt 191 g191 := GLeaf.of (fn := Go.Proofs.Tryz.f191) rfl (by decide)
theorem leaf192 : GLeaf Go.Proofs.Tryz.prog tt 192 g192 := GLeaf.of (fn := Go.Proofs.Tryz.f192) rfl (by decide)
theorem leaf193 : GLeaf Go.Proofs.Tryz.prog tt 193 g193 := GLeaf.of (fn := Go.Proofs.Tryz.f193) rfl (by decide)
theorem leaf194 : GLeaf Go.Proofs.Tryz.prog tt 194 g194 := GLeaf.of (fn := Go.Proofs.Tryz.f194) rfl (by decide)
theorem leaf195 : GLeaf Go.Proofs.Tryz.prog tt 195 g195 := GLeaf.of (fn := Go.Proofs.Tryz.f195) rfl (by decide)
theorem leaf196 : GLeaf Go.Proofs.Tryz.prog tt 196 g196 := GLeaf.of (fn := Go.Proofs.Tryz.f196) rfl (by decide)
theorem leaf197 : GLeaf Go.Proofs.Tryz.prog tt 197 g197 := GLeaf.of (fn := Go.Proofs.Tryz.f197) rfl (by decide)
theorem leaf198 : GLeaf Go.Proofs.Tryz.prog tt 198 g198 := GLeaf.of (fn := Go.Proofs.Tryz.f198) rfl (by decide)
theorem leaf199 : GLeaf Go.Proofs.Tryz.prog tt 199 g199 := GLeaf.of (fn := Go.Proofs.Tryz.f199) rfl (by decide)
theorem leaf200 : GLeaf Go.Proofs.Tryz.prog tt 200 g200 := GLeaf.of (fn := Go.Proofs.Tryz.f200) rfl (by decide)
theorem leaf201 : GLeaf Go.Proofs.Tryz.prog tt 201 g201 := GLeaf.of (fn := Go.Proofs.Tryz.f201) rfl (by decide)
theorem leaf202 : GLeaf Go.Proofs.Tryz.prog tt 202 g202 := GLeaf.of (fn := Go.Proofs.Tryz.f202) rfl (by decide)
theorem leaf203 : GLeaf Go.Proofs.Tryz.prog tt 203 g203 := GLeaf.of (fn := Go.Proofs.Tryz.f203) rfl (by decide)
theorem leaf204 : GLeaf Go.Proofs.Tryz.prog tt 204 g204 := GLeaf.of (fn := Go.Proofs.Tryz.f204) rfl (by decide)
theorem leaf205 : GLeaf Go.Proofs.Tryz.prog tt 205 g205 := GLeaf.of (fn := Go.Proofs.Tryz.f205) rfl (by decide)
theorem leaf206 : GLeaf Go.Proofs.Tryz.prog tt 206 g206 := GLeaf.of (fn := Go.Proofs.Tryz.f206) rfl (by decide)
theorem leaf207 : GLeaf Go.Proofs.Tryz.prog tt 207 g207 := GLeaf.of (fn := Go.Proofs.Tryz.f207) rfl (by decide)
theorem leaf208 : GLeaf Go.Proofs.Tryz.prog tt 208 g208 := GLeaf.of (fn := Go.Proofs.Tryz.f208) rfl (by decide)
theorem leaf209 : GLeaf Go.Proofs.Tryz.prog tt 209 g209 := GLeaf.of (fn := Go.Proofs.Tryz.f209) rfl (by decide)
theorem leaf211 : GLeaf Go.Proofs.Tryz.prog tt 211 g211 := GLeaf.of (fn := Go.Proofs.Tryz.f211) rfl (by decide)
theorem leaf212 : GLeaf Go.Proofs.Tryz.prog tt 212 g212 := GLeaf.of (fn := Go.Proofs.Tryz.f212) rfl (by decide)
theorem leaf213 : GLeaf Go.Proofs.Tryz.prog tt 213 g213 := GLeaf.of (fn := Go.Proofs.Tryz.f213) rfl (by decide)
theorem leaf214 : GLeaf Go.Proofs.Tryz.prog tt 214 g214 := GLeaf.of (fn := Go.Proofs.Tryz.f214) rfl (by decide)
theorem leaf215 : GLeaf Go.Proofs.Tryz.prog tt 215 g215 := GLeaf.of (fn := Go.Proofs.Tryz.f215) rfl (by decide)
theorem leaf216 : GLeaf Go.Proofs.Tryz.prog tt 216 g216 := GLeaf.of (fn := Go.Proofs.Tryz.f216) rfl (by decide)
theorem leaf217 : GLeaf Go.Proofs.Tryz.prog tt 217 g217 := GLeaf.of (fn := Go.Proofs.Tryz.f217) rfl (by decide)
theorem leaf218 : GLeaf Go.Proofs.Tryz.prog tt 218 g218 := GLeaf.of (fn := Go.Proofs.Tryz.f218) rfl (by decide)
theorem leaf219 : GLeaf Go.Proofs.Tryz.prog tt 219 g219 := GLeaf.of (fn := Go.Proofs.Tryz.f219) rfl (by decide)
theorem leaf220 : GLeaf Go.Proofs.Tryz.prog tt 220 g220 := GLeaf.of (fn := Go.Proofs.Tryz.f220) rfl (by decide)
theorem leaf221 : GLeaf Go.Proofs.Tryz.prog tt 221 g221 := GLeaf.of (fn := Go.Proofs.Tryz.f221) rfl (by decide)
theorem leaf222 : GLeaf Go.Proofs.Tryz.prog tt 222 g222 := GLeaf.of (fn := Go.Proofs.Tryz.f222) rfl (by decide)
theorem leaf223 : GLeaf Go.Proofs.Tryz.prog tt 223 g223 := GLeaf.of (fn := Go.Proofs.Tryz.f223) rfl (by decide)
theorem leaf224 : GLeaf Go.Proofs.Tryz.prog tt 224 g224 := GLeaf.of (fn := Go.Proofs.Tryz.f224) rfl (by decide)
theorem leaf225 : GLeaf Go.Proofs.Tryz.prog tt 225 g225 := GLeaf.of (fn := Go.Proofs.Tryz.f225) rfl (by decide)
theorem leaf226 : GLeaf Go.Proofs.Tryz.prog tt 226 g226 := GLeaf.of (fn := Go.Proofs.Tryz.f226) rfl (by decide)
theorem leaf227 : GLeaf Go.Proofs.Tryz.prog tt 227 g227 := GLeaf.of (fn := Go.Proofs.Tryz.f227) rfl (by decide)
theorem leaf228 : GLeaf Go.Proofs.Tryz.prog tt 228 g228 := GLeaf.of (fn := Go.Proofs.Tryz.f228) rfl (by decide)
theorem leaf229 : GLeaf Go.Proofs.Tryz.prog tt 229 g229 := GLeaf.of (fn := Go.Proofs.Tryz.f229) rfl (by decide)
theorem leaf230 : GLeaf Go.Proofs.Tryz.prog tt 230 g230 := GLeaf.of (fn := Go.Proofs.Tryz.f230) rfl (by decide)
theorem leaf231 : GLeaf Go.Proofs.Tryz.prog tt 231 g231 := GLeaf.of (fn := Go.Proofs.Tryz.f231) rfl (by decide)
theorem leaf232 : GLeaf Go.Proofs.Tryz.prog tt 232 g232 := GLeaf.of (fn := Go.Proofs.Tryz.f232) rfl (by decide)
theorem leaf233 : GLeaf Go.Proofs.Tryz.prog tt 233 g233 := GLeaf.of (fn := Go.Proofs.Tryz.f233) rfl (by decide)
theorem leaf234 : GLeaf Go.Proofs.Tryz.prog tt 234 g234 := GLeaf.of (fn := Go.Proofs.Tryz.f234) rfl (by decide)
theorem leaf235 : GLeaf Go.Proofs.Tryz.prog tt 235 g235 := GLeaf.of (fn := Go.Proofs.Tryz.f235) rfl (by decide)
theorem leaf236 : GLeaf Go.Proofs.Tryz.prog tt 236 g236 := GLeaf.of (fn := Go.Proofs.Tryz.f236) rfl (by decide)
theorem leaf237 : GLeaf Go.Proofs.Tryz.prog tt 237 g237 := GLeaf.of (fn := Go.Proofs.Tryz.f237) rfl (by decide)
theorem leaf238 : GLeaf Go.Proofs.Tryz.prog tt 238 g238 := GLeaf.of (fn := Go.Proofs.Tryz.f238) rfl (by decide)
theorem leaf239 : GLeaf Go.Proofs.Tryz.prog tt 239 g239 := GLeaf.of (fn := Go.Proofs.Tryz.f239) rfl (by decide)
theorem leaf240 : GLeaf Go.Proofs.Tryz.prog tt 240 g240 := GLeaf.of (fn := Go.Proofs.Tryz.f240) rfl (by decide)
theorem leaf241 : GLeaf Go.Proofs.Tryz.prog tt 241 g241 := GLeaf.of (fn := Go.Proofs.Tryz.f241) rfl (by decide)
theorem leaf242 : GLeaf Go.Proofs.Tryz.prog tt 242 g242 := GLeaf.of (fn := Go.Proofs.Tryz.f242) rfl (by decide)
theorem leaf243 : GLeaf Go.Proofs.Tryz.prog tt 243 g243 := GLeaf.of (fn := Go.Proofs.Tryz.f243) rfl (by decide)
theorem leaf244 : GLeaf Go.Proofs.Tryz.prog tt 244 g244 := GLeaf.of (fn := Go.Proofs.Tryz.f244) rfl (by decide)
theorem leaf245 : GLeaf Go.Proofs.Tryz.prog tt 245 g245 := GLeaf.of (fn := Go.Proofs.Tryz.f245) rfl (by decide)
theorem leaf246 : GLeaf Go.Proofs.Tryz.prog tt 246 g246 := GLeaf.of (fn := Go.Proofs.Tryz.f246) rfl (by decide)
theorem leaf247 : GLeaf Go.Proofs.Tryz.prog tt 247 g247 := GLeaf.of (fn := Go.Proofs.Tryz.f247) rfl (by decide)
theorem leaf249 : GLeaf Go.Proofs.Tryz.prog tt 249 g249 := GLeaf.of (fn := Go.Proofs.Tryz.f249) rfl (by decide)
theorem leaf250 : GLeaf Go.Proofs.Tryz.prog tt 250 g250 := GLeaf.of (fn := Go.Proofs.Tryz.f250) rfl (by decide)
theorem leaf251 : GLeaf Go.Proofs.Tryz.prog tt 251 g251 := GLeaf.of (fn := Go.Proofs.Tryz.f251) rfl (by decide)
theorem leaf252 : GLeaf Go.Proofs.Tryz.prog tt 252 g252 := GLeaf.of (fn := Go.Proofs.Tryz.f252) rfl (by decide)
theorem leaf254 : GLeaf Go.Proofs.Tryz.prog tt 254 g254 := GLeaf.of (fn := Go.Proofs.Tryz.f254) rfl (by decide)
theorem leaf255 : GLeaf Go.Proofs.Tryz.prog tt 255 g255 := GLeaf.of (fn := Go.Proofs.Tryz.f255) rfl (by decide)
theorem leaf256 : GLeaf Go.Proofs.Tryz.prog tt 256 g256 := GLeaf.of (fn := Go.Proofs.Tryz.f256) rfl (by decide)
theorem leaf257 : GLeaf Go.Proofs.Tryz.prog tt 257 g257 := GLeaf.of (fn := Go.Proofs.Tryz.f257) rfl (by decide)
theorem leaf258 : GLeaf Go.Proofs.Tryz.prog tt 258 g258 := GLeaf.of (fn := Go.Proofs.Tryz.f258) rfl (by decide)
theorem leaf259 : GLeaf Go.Proofs.Tryz.prog tt 259 g259 := GLeaf.of (fn := Go.Proofs.Tryz.f259) rfl (by decide)
theorem leaf260 : GLeaf Go.Proofs.Tryz.prog tt 260 g260 := GLeaf.of (fn := Go.Proofs.Tryz.f260) rfl (by decide)
theorem leaf261 : GLeaf Go.Proofs.Tryz.prog tt 261 g261 := GLeaf.of (fn := Go.Proofs.Tryz.f261) rfl (by decide)
theorem leaf262 : GLeaf Go.Proofs.Tryz.prog tt 262 g262 := GLeaf.of (fn := Go.Proofs.Tryz.f262) rfl (by decide)
theorem leaf263 : GLeaf Go.Proofs.Tryz.prog tt 263 g263 := GLeaf.of (fn := Go.Proofs.Tryz.f263) rfl (by decide)
theorem leaf264 : GLeaf Go.Proofs.Tryz.prog tt 264 g264 := GLeaf.of (fn := Go.Proofs.Tryz.f264) rfl (by decide)
theorem leaf265 : GLeaf Go.Proofs.Tryz.prog tt 265 g265 := GLeaf.of (fn := Go.Proofs.Tryz.f265) rfl (by decide)
theorem leaf267 : GLeaf Go.Proofs.Tryz.prog tt 267 g267 := GLeaf.of (fn := Go.Proofs.Tryz.f267) rfl (by decide)
theorem leaf268 : GLeaf Go.Proofs.Tryz.prog tt 268 g268 := GLeaf.of (fn := Go.Proofs.Tryz.f268) rfl (by decide)
theorem leaf270 : GLeaf Go.Proofs.Tryz.prog tt 270 g270 := GLeaf.of (fn := Go.Proofs.Tryz.f270) rfl (by decide)
theorem leaf271 : GLeaf Go.Proofs.Tryz.prog tt 271 g271 := GLeaf.of (fn := Go.Proofs.Tryz.f271) rfl (by decide)
theorem leaf272 : GLeaf Go.Proofs.Tryz.prog tt 272 g272 := GLeaf.of (fn := Go.Proofs.Tryz.f272) rfl (by decide)
theorem leaf273 : GLeaf Go.Proofs.Tryz.prog tt 273 g273 := GLeaf.of (fn := Go.Proofs.Tryz.f273) rfl (by decide)
theorem leaf295 : GLeaf Go.Proofs.Tryz.prog tt 295 g295 := GLeaf.of (fn := Go.Proofs.Tryz.f295) rfl (by decide)
theorem ok_gg0000 : GAll Go.Proofs.Tryz.prog tt (fun p => (.o (.o (.o (.o p))))) gg0000 := (GAll.n (GAll.n (GAll.n (GAll.n (GAll.n GAll.e leaf255 GAll.e) leaf127 GAll.e) leaf63 (GAll.n GAll.e leaf191 GAll.e)) leaf31 (GAll.n (GAll.n GAll.e leaf159 GAll.e) leaf95 (GAll.n GAll.e leaf223 GAll.e))) leaf15 (GAll.n (GAll.n (GAll.n (GAll.n GAll.e leaf271 GAll.e) leaf143 GAll.e) leaf79 (GAll.n GAll.e leaf207 GAll.e)) leaf47 (GAll.n (GAll.n GAll.e leaf175 GAll.e) leaf111 (GAll.n GAll.e leaf239 GAll.e))))
theorem ok_gg0001 : GAll Go.Proofs.Tryz.prog tt (fun p => (.o (.o (.o (.i p))))) gg0001 := (GAll.n (GAll.n (GAll.n (GAll.n (GAll.n GAll.e leaf263 GAll.e) leaf135 GAll.e) leaf71 (GAll.n GAll.e leaf199 GAll.e)) leaf39 (GAll.n (GAll.n (GAll.n GAll.e leaf295 GAll.e) leaf167 GAll.e) leaf103 (GAll.n GAll.e leaf231 GAll.e))) leaf23 (GAll.n (GAll.n (GAll.n GAll.e leaf151 GAll.e) leaf87 (GAll.n GAll.e leaf215 GAll.e)) leaf55 (GAll.n (GAll.n GAll.e leaf183 GAll.e) leaf119 (GAll.n GAll.e leaf247 GAll.e))))
theorem ok_gg000 : GAll Go.Proofs.Tryz.prog tt (fun p => (.o (.o (.o p)))) gg000 := (GAll.n ok_gg0000 leaf7 ok_gg0001)
theorem ok_gg0010 : GAll Go.Proofs.Tryz.prog tt (fun p => (.o (.o (.i (.o p))))) gg0010 := (GAll.n (GAll.n (GAll.n (GAll.n (GAll.n GAll.e leaf259 GAll.e) leaf131 GAll.e) leaf67 (GAll.n GAll.e leaf195 GAll.e)) leaf35 (GAll.n (GAll.n GAll.e leaf163 GAll.e) leaf99 (GAll.n GAll.e leaf227 GAll.e))) leaf19 (GAll.n (GAll.n (GAll.n GAll.e leaf147 GAll.e) leaf83 (GAll.n GAll.e leaf211 GAll.e)) leaf51 (GAll.n (GAll.n GAll.e leaf179 GAll.e) leaf115 (GAll.n GAll.e leaf243 GAll.e))))
theorem ok_gg0011 : GAll Go.Proofs.Tryz.prog tt (fun p => (.o (.o (.i (.i p))))) gg0011 := (GAll.n (GAll.n (GAll.n (GAll.n (GAll.n GAll.e leaf267 GAll.e) leaf139 GAll.e) leaf75 (GAll.n GAll.e leaf203 GAll.e)) leaf43 (GAll.n (GAll.n GAll.e leaf171 GAll.e) leaf107 (GAll.n GAll.e leaf235 GAll.e))) leaf27 (GAll.n (GAll.n (GAll.n GAll.e leaf155 GAll.e) leaf91 (GAll.n GAll.e leaf219 GAll.e)) leaf59 (GAll.n (GAll.n GAll.e leaf187 GAll.e) leaf123 (GAll.n GAll.e leaf251 GAll.e))))
theorem ok_gg001 : GAll Go.Proofs.Tryz.prog tt (fun p => (.o (.o (.i p)))) gg001 := (GAll.n ok_gg0010 leaf11 ok_gg0011)
theorem ok_gg00 : GAll Go.Proofs.Tryz.prog tt (fun p => (.o (.o p))) gg00 := (GAll.n ok_gg000 leaf3 ok_gg001)
theorem ok_gg0100 : GAll Go.Proofs.Tryz.prog tt (fun p => (.o (.i (.o (.o p))))) gg0100 := (GAll.n (GAll.n (GAll.n (GAll.n (GAll.n GAll.e leaf257 GAll.e) leaf129 GAll.e) leaf65 (GAll.n GAll.e leaf193 GAll.e)) leaf33 (GAll.n (GAll.n GAll.e leaf161 GAll.e) leaf97 (GAll.n GAll.e leaf225 GAll.e))) leaf17 (GAll.n (GAll.n (GAll.n (GAll.n GAll.e leaf273 GAll.e) leaf145 GAll.e) leaf81 (GAll.n GAll.e leaf209 GAll.e)) leaf49 (GAll.n (GAll.n GAll.e leaf177 GAll.e) leaf113 (GAll.n GAll.e leaf241 GAll.e))))
theorem ok_gg0101 : GAll Go.Proofs.Tryz.prog tt (fun p => (.o (.i (.o (.i p))))) gg0101 := (GAll.n (GAll.n (GAll.n (GAll.n (GAll.n GAll.e leaf265 GAll.e) leaf137 GAll.e) leaf73 (GAll.n GAll.e leaf201 GAll.e)) leaf41 (GAll.n (GAll.n GAll.e leaf169 GAll.e) leaf105 (GAll.n GAll.e leaf233 GAll.e))) leaf25 (GAll.n (GAll.n (GAll.n GAll.e leaf153 GAll.e) leaf89 (GAll.n GAll.e leaf217 GAll.e)) leaf57 (GAll.n (GAll.n GAll.e leaf185 GAll.e) leaf121 (GAll.n GAll.e leaf249 GAll.e))))
theorem ok_gg010 : GAll Go.Proofs.Tryz.prog tt (fun p => (.o (.i (.o p)))) gg010 := (GAll.n ok_gg0100 leaf9 ok_gg0101)
theorem ok_gg0110 : GAll Go.Proofs.Tryz.prog tt (fun p => (.o (.i (.i (.o p))))) gg0110 := (GAll.n (GAll.n (GAll.n (GAll.n (GAll.n GAll.e leaf261 GAll.e) leaf133 GAll.e) leaf69 (GAll.n GAll.e leaf197 GAll.e)) leaf37 (GAll.n (GAll.n GAll.e leaf165 GAll.e) leaf101 (GAll.n GAll.e leaf229 GAll.e))) leaf21 (GAll.n (GAll.n (GAll.n GAll.e leaf149 GAll.e) leaf85 (GAll.n GAll.e leaf213 GAll.e)) leaf53 (GAll.n (GAll.n GAll.e leaf181 GAll.e) leaf117 (GAll.n GAll.e leaf245 GAll.e))))
theorem ok_gg0111 : GAll Go.Proofs.Tryz.prog tt (fun p => (.o (.i (.i (.i p))))) gg0111 := (GAll.n (GAll.n (GAll.n (GAll.n GAll.e leaf141 GAll.e) leaf77 (GAll.n GAll.e leaf205 GAll.e)) leaf45 (GAll.n (GAll.n GAll.e leaf173 GAll.e) leaf109 (GAll.n GAll.e leaf237 GAll.e))) leaf29 (GAll.n (GAll.n (GAll.n GAll.e leaf157 GAll.e) leaf93 (GAll.n GAll.e leaf221 GAll.e)) leaf61 (GAll.n (GAll.n GAll.e leaf189 GAll.e) leaf125 GAll.e)))
theorem ok_gg011 : GAll Go.Proofs.Tryz.prog tt (fun p => (.o (.i (.i p)))) gg011 := (GAll.n ok_gg0110 leaf13 ok_gg0111)
theorem ok_gg01 : GAll Go.Proofs.Tryz.prog tt (fun p => (.o (.i p))) gg01 := (GAll.n ok_gg010 leaf5 ok_gg011)
theorem ok_gg0 : GAll Go.Proofs.Tryz.prog tt (fun p => (.o p)) gg0 := (GAll.n ok_gg00 GLeaf.none ok_gg01)
theorem ok_gg1000 : GAll Go.Proofs.Tryz.prog tt (fun p => (.i (.o (.o (.o p))))) gg1000 := (GAll.n (GAll.n (GAll.n (GAll.n (GAll.n GAll.e leaf256 GAll.e) leaf128 GAll.e) leaf64 (GAll.n GAll.e leaf192 GAll.e)) leaf32 (GAll.n (GAll.n GAll.e leaf160 GAll.e) leaf96 (GAll.n GAll.e leaf224 GAll.e))) leaf16 (GAll.n (GAll.n (GAll.n (GAll.n GAll.e leaf272 GAll.e) leaf144 GAll.e) leaf80 (GAll.n GAll.e leaf208 GAll.e)) leaf48 (GAll.n (GAll.n GAll.e leaf176 GAll.e) leaf112 (GAll.n GAll.e leaf240 GAll.e))))
theorem ok_gg1001 : GAll Go.Proofs.Tryz.prog tt (fun p => (.i (.o (.o (.i p))))) gg1001 := (GAll.n (GAll.n (GAll.n (GAll.n (GAll.n GAll.e leaf264 GAll.e) leaf136 GAll.e) leaf72 (GAll.n GAll.e leaf200 GAll.e)) leaf40 (GAll.n (GAll.n GAll.e leaf168 GAll.e) leaf104 (GAll.n GAll.e leaf232 GAll.e))) leaf24 (GAll.n (GAll.n (GAll.n GAll.e leaf152 GAll.e) leaf88 (GAll.n GAll.e leaf216 GAll.e)) leaf56 (GAll.n (GAll.n GAll.e leaf184 GAll.e) leaf120 GAll.e)))
theorem ok_gg100 : GAll Go.Proofs.Tryz.prog tt (fun p => (.i (.o (.o p)))) gg100 := (GAll.n ok_gg1000 leaf8 ok_gg1001)
theorem ok_gg1010 : GAll Go.Proofs.Tryz.prog tt (fun p => (.i (.o (.i (.o p))))) gg1010 := (GAll.n (GAll.n (GAll.n (GAll.n (GAll.n GAll.e leaf260 GAll.e) leaf132 GAll.e) leaf68 (GAll.n GAll.e leaf196 GAll.e)) leaf36 (GAll.n (GAll.n GAll.e leaf164 GAll.e) leaf100 (GAll.n GAll.e leaf228 GAll.e))) leaf20 (GAll.n (GAll.n (GAll.n GAll.e leaf148 GAll.e) leaf84 (GAll.n GAll.e leaf212 GAll.e)) leaf52 (GAll.n (GAll.n GAll.e leaf180 GAll.e) leaf116 (GAll.n GAll.e leaf244 GAll.e))))
theorem ok_gg1011 : GAll Go.Proofs.Tryz.prog tt (fun p => (.i (.o (.i (.i p))))) gg1011 := (GAll.n (GAll.n (GAll.n (GAll.n (GAll.n GAll.e leaf268 GAll.e) leaf140 GAll.e) leaf76 (GAll.n GAll.e leaf204 GAll.e)) leaf44 (GAll.n (GAll.n GAll.e leaf172 GAll.e) leaf108 (GAll.n GAll.e leaf236 GAll.e))) leaf28 (GAll.n (GAll.n (GAll.n GAll.e leaf156 GAll.e) leaf92 (GAll.n GAll.e leaf220 GAll.e)) leaf60 (GAll.n (GAll.n GAll.e leaf188 GAll.e) leaf124 (GAll.n GAll.e leaf252 GAll.e))))
theorem ok_gg101 : GAll Go.Proofs.Tryz.prog tt (fun p => (.i (.o (.i p)))) gg101 := (GAll.n ok_gg1010 leaf12 ok_gg1011)
theorem ok_gg10 : GAll Go.Proofs.Tryz.prog tt (fun p => (.i (.o p))) gg10 := (GAll.n ok_gg100 leaf4 ok_gg101)
theorem ok_gg1100 : GAll Go.Proofs.Tryz.prog tt (fun p => (.i (.i (.o (.o p))))) gg1100 := (GAll.n (GAll.n (GAll.n (GAll.n (GAll.n GAll.e leaf258 GAll.e) leaf130 GAll.e) leaf66 (GAll.n GAll.e leaf194 GAll.e)) leaf34 (GAll.n (GAll.n GAll.e leaf162 GAll.e) leaf98 (GAll.n GAll.e leaf226 GAll.e))) leaf18 (GAll.n (GAll.n (GAll.n GAll.e leaf146 GAll.e) leaf82 GAll.e) leaf50 (GAll.n (GAll.n GAll.e leaf178 GAll.e) leaf114 (GAll.n GAll.e leaf242 GAll.e))))
theorem ok_gg1101 : GAll Go.Proofs.Tryz.prog tt (fun p => (.i (.i (.o (.i p))))) gg1101 := (GAll.n (GAll.n (GAll.n (GAll.n GAll.e leaf138 GAll.e) leaf74 (GAll.n GAll.e leaf202 GAll.e)) leaf42 (GAll.n (GAll.n GAll.e leaf170 GAll.e) leaf106 (GAll.n GAll.e leaf234 GAll.e))) leaf26 (GAll.n (GAll.n (GAll.n GAll.e leaf154 GAll.e) leaf90 (GAll.n GAll.e leaf218 GAll.e)) leaf58 (GAll.n (GAll.n GAll.e leaf186 GAll.e) leaf122 (GAll.n GAll.e leaf250 GAll.e))))
theorem ok_gg110 : GAll Go.Proofs.Tryz.prog tt (fun p => (.i (.i (.o p)))) gg110 := (GAll.n ok_gg1100 leaf10 ok_gg1101)
theorem ok_gg1110 : GAll Go.Proofs.Tryz.prog tt (fun p => (.i (.i (.i (.o p))))) gg1110 := (GAll.n (GAll.n (GAll.n (GAll.n (GAll.n GAll.e leaf262 GAll.e) leaf134 GAll.e) leaf70 (GAll.n GAll.e leaf198 GAll.e)) leaf38 (GAll.n (GAll.n GAll.e leaf166 GAll.e) leaf102 (GAll.n GAll.e leaf230 GAll.e))) leaf22 (GAll.n (GAll.n (GAll.n GAll.e leaf150 GAll.e) leaf86 (GAll.n GAll.e leaf214 GAll.e)) leaf54 (GAll.n (GAll.n GAll.e leaf182 GAll.e) leaf118 (GAll.n GAll.e leaf246 GAll.e))))
theorem ok_gg1111 : GAll Go.Proofs.Tryz.prog tt (fun p => (.i (.i (.i (.i p))))) gg1111 := (GAll.n (GAll.n (GAll.n (GAll.n (GAll.n GAll.e leaf270 GAll.e) leaf142 GAll.e) leaf78 (GAll.n GAll.e leaf206 GAll.e)) leaf46 (GAll.n (GAll.n GAll.e leaf174 GAll.e) leaf110 (GAll.n GAll.e leaf238 GAll.e))) leaf30 (GAll.n (GAll.n (GAll.n GAll.e leaf158 GAll.e) leaf94 (GAll.n GAll.e leaf222 GAll.e)) leaf62 (GAll.n (GAll.n GAll.e leaf190 GAll.e) leaf126 (GAll.n GAll.e leaf254 GAll.e))))
theorem ok_gg111 : GAll Go.Proofs.Tryz.prog tt (fun p => (.i (.i (.i p)))) gg111 := (GAll.n ok_gg1110 leaf14 ok_gg1111)
theorem ok_gg11 : GAll Go.Proofs.Tryz.prog tt (fun p => (.i (.i p))) gg11 := (GAll.n ok_gg110 leaf6 ok_gg111)
theorem ok_gg1 : GAll Go.Proofs.Tryz.prog tt (fun p => (.i p)) gg1 := (GAll.n ok_gg10 leaf2 ok_gg11)
theorem ok_gg : GAll Go.Proofs.Tryz.prog tt (fun p => p) gg := (GAll.n ok_gg0 GLeaf.none ok_gg1)
theorem gg_ok : GOk Go.Proofs.Tryz.prog tt gg := gOk_of ok_gg
end Go.Proofs.YtcjaejohbhmjhaaGreatDoor
end
