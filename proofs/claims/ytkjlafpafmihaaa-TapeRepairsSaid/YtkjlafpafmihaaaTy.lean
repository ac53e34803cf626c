/- Plain facts of this seat: the fields' places, the types' sizes, how a function is entered. Written by a program of mine (wip/px/mkty.py). -/
import Derived.Test.YtkjlafpafmihaaaWs
namespace Go.Proofs.Ytkjlafpafmihaaa
open Go.ChangeShapes Go.WideShapes Go.RowKit

theorem inf1 : (Try.prog.info? 1).map (·.size) = some 1 := by kernel_rfl
theorem inf2 : (Try.prog.info? 2).map (·.size) = some 1 := by kernel_rfl
theorem infz2 : (Try.prog.info? 2).map (fun i => (i.zero, i.size, i.bytes)) = some (some (.int .i64 0), 1, 8) := by kernel_rfl
theorem inf3 : (Try.prog.info? 3).map (·.size) = some 1 := by kernel_rfl
theorem infz3 : (Try.prog.info? 3).map (fun i => (i.zero, i.size, i.bytes)) = some (some (.int .i64 0), 1, 8) := by kernel_rfl
theorem inf4 : (Try.prog.info? 4).map (·.size) = some 1 := by kernel_rfl
theorem infz4 : (Try.prog.info? 4).map (fun i => (i.zero, i.size, i.bytes)) = some (some (.bool false), 1, 1) := by kernel_rfl
theorem inf5 : (Try.prog.info? 5).map (·.size) = some 1 := by kernel_rfl
theorem infz5 : (Try.prog.info? 5).map (fun i => (i.zero, i.size, i.bytes)) = some (some (.int .u8 0), 1, 1) := by kernel_rfl
theorem inf6 : (Try.prog.info? 6).map (·.size) = some 1 := by kernel_rfl
theorem infz6 : (Try.prog.info? 6).map (fun i => (i.zero, i.size, i.bytes)) = some (some (.int .u8 0), 1, 1) := by kernel_rfl
theorem inf7 : (Try.prog.info? 7).map (·.size) = some 4 := by kernel_rfl
theorem infz7 : (Try.prog.info? 7).map (fun i => (i.zero, i.size, i.bytes)) = some (some (.agg #[.int .i64 0, .int .i64 0, .bool false, .int .u8 0]), 4, 24) := by kernel_rfl
theorem fa7_0 (b o : Nat) (w : World) : (Instr.fieldAt 7 (.pointer (some ⟨b, o, none⟩)) 0).run Try.prog w = .ok (.pointer (some ⟨b, o, none⟩)) w := by kernel_rfl
theorem fa7_1 (b o : Nat) (w : World) : (Instr.fieldAt 7 (.pointer (some ⟨b, o, none⟩)) 1).run Try.prog w = .ok (.pointer (some ⟨b, o + 1, none⟩)) w := by kernel_rfl
theorem fa7_2 (b o : Nat) (w : World) : (Instr.fieldAt 7 (.pointer (some ⟨b, o, none⟩)) 2).run Try.prog w = .ok (.pointer (some ⟨b, o + 2, none⟩)) w := by kernel_rfl
theorem fa7_3 (b o : Nat) (w : World) : (Instr.fieldAt 7 (.pointer (some ⟨b, o, none⟩)) 3).run Try.prog w = .ok (.pointer (some ⟨b, o + 3, none⟩)) w := by kernel_rfl
theorem inf8 : (Try.prog.info? 8).map (·.size) = some 4 := by kernel_rfl
theorem infz8 : (Try.prog.info? 8).map (fun i => (i.zero, i.size, i.bytes)) = some (some (.agg #[.int .i64 0, .int .i64 0, .bool false, .int .u8 0]), 4, 24) := by kernel_rfl
theorem fa8_0 (b o : Nat) (w : World) : (Instr.fieldAt 8 (.pointer (some ⟨b, o, none⟩)) 0).run Try.prog w = .ok (.pointer (some ⟨b, o, none⟩)) w := by kernel_rfl
theorem fa8_1 (b o : Nat) (w : World) : (Instr.fieldAt 8 (.pointer (some ⟨b, o, none⟩)) 1).run Try.prog w = .ok (.pointer (some ⟨b, o + 1, none⟩)) w := by kernel_rfl
theorem fa8_2 (b o : Nat) (w : World) : (Instr.fieldAt 8 (.pointer (some ⟨b, o, none⟩)) 2).run Try.prog w = .ok (.pointer (some ⟨b, o + 2, none⟩)) w := by kernel_rfl
theorem fa8_3 (b o : Nat) (w : World) : (Instr.fieldAt 8 (.pointer (some ⟨b, o, none⟩)) 3).run Try.prog w = .ok (.pointer (some ⟨b, o + 3, none⟩)) w := by kernel_rfl
theorem inf9 : (Try.prog.info? 9).map (·.size) = some 1 := by kernel_rfl
theorem inf10 : (Try.prog.info? 10).map (·.size) = some 1 := by kernel_rfl
theorem inf11 : (Try.prog.info? 11).map (·.size) = some 1 := by kernel_rfl
theorem inf12 : (Try.prog.info? 12).map (·.size) = some 1 := by kernel_rfl
theorem infz12 : (Try.prog.info? 12).map (fun i => (i.zero, i.size, i.bytes)) = some (some (.int .u64 0), 1, 8) := by kernel_rfl
theorem inf13 : (Try.prog.info? 13).map (·.size) = some 2 := by kernel_rfl
theorem fa13_0 (b o : Nat) (w : World) : (Instr.fieldAt 13 (.pointer (some ⟨b, o, none⟩)) 0).run Try.prog w = .ok (.pointer (some ⟨b, o, none⟩)) w := by kernel_rfl
theorem fa13_1 (b o : Nat) (w : World) : (Instr.fieldAt 13 (.pointer (some ⟨b, o, none⟩)) 1).run Try.prog w = .ok (.pointer (some ⟨b, o + 1, none⟩)) w := by kernel_rfl
theorem inf14 : (Try.prog.info? 14).map (·.size) = some 2 := by kernel_rfl
theorem fa14_0 (b o : Nat) (w : World) : (Instr.fieldAt 14 (.pointer (some ⟨b, o, none⟩)) 0).run Try.prog w = .ok (.pointer (some ⟨b, o, none⟩)) w := by kernel_rfl
theorem fa14_1 (b o : Nat) (w : World) : (Instr.fieldAt 14 (.pointer (some ⟨b, o, none⟩)) 1).run Try.prog w = .ok (.pointer (some ⟨b, o + 1, none⟩)) w := by kernel_rfl
theorem inf15 : (Try.prog.info? 15).map (·.size) = some 1 := by kernel_rfl
theorem infz15 : (Try.prog.info? 15).map (fun i => (i.zero, i.size, i.bytes)) = some (some (.pointer none), 1, 8) := by kernel_rfl
theorem inf16 : (Try.prog.info? 16).map (·.size) = some 1 := by kernel_rfl
theorem infz16 : (Try.prog.info? 16).map (fun i => (i.zero, i.size, i.bytes)) = some (some (.pointer none), 1, 8) := by kernel_rfl
theorem inf17 : (Try.prog.info? 17).map (·.size) = some 1 := by kernel_rfl
theorem infz17 : (Try.prog.info? 17).map (fun i => (i.zero, i.size, i.bytes)) = some (some (.pointer none), 1, 8) := by kernel_rfl
theorem inf18 : (Try.prog.info? 18).map (·.size) = some 1 := by kernel_rfl
theorem infz18 : (Try.prog.info? 18).map (fun i => (i.zero, i.size, i.bytes)) = some (some (.agg #[.pointer none]), 1, 8) := by kernel_rfl
theorem fa18_0 (b o : Nat) (w : World) : (Instr.fieldAt 18 (.pointer (some ⟨b, o, none⟩)) 0).run Try.prog w = .ok (.pointer (some ⟨b, o, none⟩)) w := by kernel_rfl
theorem inf19 : (Try.prog.info? 19).map (·.size) = some 1 := by kernel_rfl
theorem infz19 : (Try.prog.info? 19).map (fun i => (i.zero, i.size, i.bytes)) = some (some (.agg #[.pointer none]), 1, 8) := by kernel_rfl
theorem fa19_0 (b o : Nat) (w : World) : (Instr.fieldAt 19 (.pointer (some ⟨b, o, none⟩)) 0).run Try.prog w = .ok (.pointer (some ⟨b, o, none⟩)) w := by kernel_rfl
theorem inf20 : (Try.prog.info? 20).map (·.size) = some 1 := by kernel_rfl
theorem inf21 : (Try.prog.info? 21).map (·.size) = some 1 := by kernel_rfl
theorem infz21 : (Try.prog.info? 21).map (fun i => (i.zero, i.size, i.bytes)) = some (some (.int .i32 0), 1, 4) := by kernel_rfl
theorem inf22 : (Try.prog.info? 22).map (·.size) = some 1 := by kernel_rfl
theorem infz22 : (Try.prog.info? 22).map (fun i => (i.zero, i.size, i.bytes)) = some (some (.slice none 0 0), 1, 24) := by kernel_rfl
theorem inf23 : (Try.prog.info? 23).map (·.size) = some 1 := by kernel_rfl
theorem infz23 : (Try.prog.info? 23).map (fun i => (i.zero, i.size, i.bytes)) = some (some (.slice none 0 0), 1, 24) := by kernel_rfl
theorem inf24 : (Try.prog.info? 24).map (·.size) = some 8 := by kernel_rfl
theorem infz24 : (Try.prog.info? 24).map (fun i => (i.zero, i.size, i.bytes)) = some (some (.agg #[.bool false, .bool false, .bool false, .bool false, .bool false, .bool false, .bool false, .bool false]), 8, 8) := by kernel_rfl
theorem inf25 : (Try.prog.info? 25).map (·.size) = some 9 := by kernel_rfl
theorem infz25 : (Try.prog.info? 25).map (fun i => (i.zero, i.size, i.bytes)) = some (some (.agg #[.int .i64 0, .bool false, .bool false, .bool false, .bool false, .bool false, .bool false, .bool false, .bool false]), 9, 16) := by kernel_rfl
theorem fa25_0 (b o : Nat) (w : World) : (Instr.fieldAt 25 (.pointer (some ⟨b, o, none⟩)) 0).run Try.prog w = .ok (.pointer (some ⟨b, o, none⟩)) w := by kernel_rfl
theorem fa25_1 (b o : Nat) (w : World) : (Instr.fieldAt 25 (.pointer (some ⟨b, o, none⟩)) 1).run Try.prog w = .ok (.pointer (some ⟨b, o + 1, none⟩)) w := by kernel_rfl
theorem inf26 : (Try.prog.info? 26).map (·.size) = some 9 := by kernel_rfl
theorem infz26 : (Try.prog.info? 26).map (fun i => (i.zero, i.size, i.bytes)) = some (some (.agg #[.int .i64 0, .bool false, .bool false, .bool false, .bool false, .bool false, .bool false, .bool false, .bool false]), 9, 16) := by kernel_rfl
theorem fa26_0 (b o : Nat) (w : World) : (Instr.fieldAt 26 (.pointer (some ⟨b, o, none⟩)) 0).run Try.prog w = .ok (.pointer (some ⟨b, o, none⟩)) w := by kernel_rfl
theorem fa26_1 (b o : Nat) (w : World) : (Instr.fieldAt 26 (.pointer (some ⟨b, o, none⟩)) 1).run Try.prog w = .ok (.pointer (some ⟨b, o + 1, none⟩)) w := by kernel_rfl
theorem inf27 : (Try.prog.info? 27).map (·.size) = some 36 := by kernel_rfl
theorem infz27 : (Try.prog.info? 27).map (fun i => (i.zero, i.size, i.bytes)) = some (some (.agg #[.int .i64 0, .bool false, .bool false, .bool false, .bool false, .bool false, .bool false, .bool false, .bool false, .int .i64 0, .bool false, .bool false, .bool false, .bool false, .bool false, .bool false, .bool false, .bool false, .int .i64 0, .bool false, .bool false, .bool false, .bool false, .bool false, .bool false, .bool false, .bool false, .int .i64 0, .bool false, .bool false, .bool false, .bool false, .bool false, .bool false, .bool false, .bool false]), 36, 64) := by kernel_rfl
theorem inf28 : (Try.prog.info? 28).map (·.size) = some 41 := by kernel_rfl
theorem infz28 : (Try.prog.info? 28).map (fun i => (i.zero, i.size, i.bytes)) = some (some (.agg #[.int .i64 0, .int .i64 0, .int .i64 0, .slice none 0 0, .slice none 0 0, .int .i64 0, .bool false, .bool false, .bool false, .bool false, .bool false, .bool false, .bool false, .bool false, .int .i64 0, .bool false, .bool false, .bool false, .bool false, .bool false, .bool false, .bool false, .bool false, .int .i64 0, .bool false, .bool false, .bool false, .bool false, .bool false, .bool false, .bool false, .bool false, .int .i64 0, .bool false, .bool false, .bool false, .bool false, .bool false, .bool false, .bool false, .bool false]), 41, 136) := by kernel_rfl
theorem fa28_0 (b o : Nat) (w : World) : (Instr.fieldAt 28 (.pointer (some ⟨b, o, none⟩)) 0).run Try.prog w = .ok (.pointer (some ⟨b, o, none⟩)) w := by kernel_rfl
theorem fa28_1 (b o : Nat) (w : World) : (Instr.fieldAt 28 (.pointer (some ⟨b, o, none⟩)) 1).run Try.prog w = .ok (.pointer (some ⟨b, o + 1, none⟩)) w := by kernel_rfl
theorem fa28_2 (b o : Nat) (w : World) : (Instr.fieldAt 28 (.pointer (some ⟨b, o, none⟩)) 2).run Try.prog w = .ok (.pointer (some ⟨b, o + 2, none⟩)) w := by kernel_rfl
theorem fa28_3 (b o : Nat) (w : World) : (Instr.fieldAt 28 (.pointer (some ⟨b, o, none⟩)) 3).run Try.prog w = .ok (.pointer (some ⟨b, o + 3, none⟩)) w := by kernel_rfl
theorem fa28_4 (b o : Nat) (w : World) : (Instr.fieldAt 28 (.pointer (some ⟨b, o, none⟩)) 4).run Try.prog w = .ok (.pointer (some ⟨b, o + 4, none⟩)) w := by kernel_rfl
theorem fa28_5 (b o : Nat) (w : World) : (Instr.fieldAt 28 (.pointer (some ⟨b, o, none⟩)) 5).run Try.prog w = .ok (.pointer (some ⟨b, o + 5, none⟩)) w := by kernel_rfl
theorem inf29 : (Try.prog.info? 29).map (·.size) = some 41 := by kernel_rfl
theorem infz29 : (Try.prog.info? 29).map (fun i => (i.zero, i.size, i.bytes)) = some (some (.agg #[.int .i64 0, .int .i64 0, .int .i64 0, .slice none 0 0, .slice none 0 0, .int .i64 0, .bool false, .bool false, .bool false, .bool false, .bool false, .bool false, .bool false, .bool false, .int .i64 0, .bool false, .bool false, .bool false, .bool false, .bool false, .bool false, .bool false, .bool false, .int .i64 0, .bool false, .bool false, .bool false, .bool false, .bool false, .bool false, .bool false, .bool false, .int .i64 0, .bool false, .bool false, .bool false, .bool false, .bool false, .bool false, .bool false, .bool false]), 41, 136) := by kernel_rfl
theorem fa29_0 (b o : Nat) (w : World) : (Instr.fieldAt 29 (.pointer (some ⟨b, o, none⟩)) 0).run Try.prog w = .ok (.pointer (some ⟨b, o, none⟩)) w := by kernel_rfl
theorem fa29_1 (b o : Nat) (w : World) : (Instr.fieldAt 29 (.pointer (some ⟨b, o, none⟩)) 1).run Try.prog w = .ok (.pointer (some ⟨b, o + 1, none⟩)) w := by kernel_rfl
theorem fa29_2 (b o : Nat) (w : World) : (Instr.fieldAt 29 (.pointer (some ⟨b, o, none⟩)) 2).run Try.prog w = .ok (.pointer (some ⟨b, o + 2, none⟩)) w := by kernel_rfl
theorem fa29_3 (b o : Nat) (w : World) : (Instr.fieldAt 29 (.pointer (some ⟨b, o, none⟩)) 3).run Try.prog w = .ok (.pointer (some ⟨b, o + 3, none⟩)) w := by kernel_rfl
theorem fa29_4 (b o : Nat) (w : World) : (Instr.fieldAt 29 (.pointer (some ⟨b, o, none⟩)) 4).run Try.prog w = .ok (.pointer (some ⟨b, o + 4, none⟩)) w := by kernel_rfl
theorem fa29_5 (b o : Nat) (w : World) : (Instr.fieldAt 29 (.pointer (some ⟨b, o, none⟩)) 5).run Try.prog w = .ok (.pointer (some ⟨b, o + 5, none⟩)) w := by kernel_rfl
theorem inf30 : (Try.prog.info? 30).map (·.size) = some 1 := by kernel_rfl
theorem infz30 : (Try.prog.info? 30).map (fun i => (i.zero, i.size, i.bytes)) = some (some (.int .i64 0), 1, 8) := by kernel_rfl
theorem inf31 : (Try.prog.info? 31).map (·.size) = some 1 := by kernel_rfl
theorem inf32 : (Try.prog.info? 32).map (·.size) = some 1 := by kernel_rfl
theorem inf33 : (Try.prog.info? 33).map (·.size) = some 1 := by kernel_rfl
theorem inf34 : (Try.prog.info? 34).map (·.size) = some 2 := by kernel_rfl
theorem infz34 : (Try.prog.info? 34).map (fun i => (i.zero, i.size, i.bytes)) = some (some (.agg #[.int .i64 0, .int .i64 0]), 2, 16) := by kernel_rfl
theorem fa34_0 (b o : Nat) (w : World) : (Instr.fieldAt 34 (.pointer (some ⟨b, o, none⟩)) 0).run Try.prog w = .ok (.pointer (some ⟨b, o, none⟩)) w := by kernel_rfl
theorem fa34_1 (b o : Nat) (w : World) : (Instr.fieldAt 34 (.pointer (some ⟨b, o, none⟩)) 1).run Try.prog w = .ok (.pointer (some ⟨b, o + 1, none⟩)) w := by kernel_rfl
theorem inf35 : (Try.prog.info? 35).map (·.size) = some 2 := by kernel_rfl
theorem infz35 : (Try.prog.info? 35).map (fun i => (i.zero, i.size, i.bytes)) = some (some (.agg #[.int .i64 0, .int .i64 0]), 2, 16) := by kernel_rfl
theorem fa35_0 (b o : Nat) (w : World) : (Instr.fieldAt 35 (.pointer (some ⟨b, o, none⟩)) 0).run Try.prog w = .ok (.pointer (some ⟨b, o, none⟩)) w := by kernel_rfl
theorem fa35_1 (b o : Nat) (w : World) : (Instr.fieldAt 35 (.pointer (some ⟨b, o, none⟩)) 1).run Try.prog w = .ok (.pointer (some ⟨b, o + 1, none⟩)) w := by kernel_rfl
theorem inf36 : (Try.prog.info? 36).map (·.size) = some 6 := by kernel_rfl
theorem infz36 : (Try.prog.info? 36).map (fun i => (i.zero, i.size, i.bytes)) = some (some (.agg #[.int .i64 0, .int .i64 0, .int .i64 0, .int .i64 0, .int .i64 0, .int .i64 0]), 6, 48) := by kernel_rfl
theorem fa36_0 (b o : Nat) (w : World) : (Instr.fieldAt 36 (.pointer (some ⟨b, o, none⟩)) 0).run Try.prog w = .ok (.pointer (some ⟨b, o, none⟩)) w := by kernel_rfl
theorem fa36_1 (b o : Nat) (w : World) : (Instr.fieldAt 36 (.pointer (some ⟨b, o, none⟩)) 1).run Try.prog w = .ok (.pointer (some ⟨b, o + 1, none⟩)) w := by kernel_rfl
theorem fa36_2 (b o : Nat) (w : World) : (Instr.fieldAt 36 (.pointer (some ⟨b, o, none⟩)) 2).run Try.prog w = .ok (.pointer (some ⟨b, o + 2, none⟩)) w := by kernel_rfl
theorem fa36_3 (b o : Nat) (w : World) : (Instr.fieldAt 36 (.pointer (some ⟨b, o, none⟩)) 3).run Try.prog w = .ok (.pointer (some ⟨b, o + 3, none⟩)) w := by kernel_rfl
theorem fa36_4 (b o : Nat) (w : World) : (Instr.fieldAt 36 (.pointer (some ⟨b, o, none⟩)) 4).run Try.prog w = .ok (.pointer (some ⟨b, o + 4, none⟩)) w := by kernel_rfl
theorem inf37 : (Try.prog.info? 37).map (·.size) = some 6 := by kernel_rfl
theorem infz37 : (Try.prog.info? 37).map (fun i => (i.zero, i.size, i.bytes)) = some (some (.agg #[.int .i64 0, .int .i64 0, .int .i64 0, .int .i64 0, .int .i64 0, .int .i64 0]), 6, 48) := by kernel_rfl
theorem fa37_0 (b o : Nat) (w : World) : (Instr.fieldAt 37 (.pointer (some ⟨b, o, none⟩)) 0).run Try.prog w = .ok (.pointer (some ⟨b, o, none⟩)) w := by kernel_rfl
theorem fa37_1 (b o : Nat) (w : World) : (Instr.fieldAt 37 (.pointer (some ⟨b, o, none⟩)) 1).run Try.prog w = .ok (.pointer (some ⟨b, o + 1, none⟩)) w := by kernel_rfl
theorem fa37_2 (b o : Nat) (w : World) : (Instr.fieldAt 37 (.pointer (some ⟨b, o, none⟩)) 2).run Try.prog w = .ok (.pointer (some ⟨b, o + 2, none⟩)) w := by kernel_rfl
theorem fa37_3 (b o : Nat) (w : World) : (Instr.fieldAt 37 (.pointer (some ⟨b, o, none⟩)) 3).run Try.prog w = .ok (.pointer (some ⟨b, o + 3, none⟩)) w := by kernel_rfl
theorem fa37_4 (b o : Nat) (w : World) : (Instr.fieldAt 37 (.pointer (some ⟨b, o, none⟩)) 4).run Try.prog w = .ok (.pointer (some ⟨b, o + 4, none⟩)) w := by kernel_rfl
theorem inf38 : (Try.prog.info? 38).map (·.size) = some 11 := by kernel_rfl
theorem infz38 : (Try.prog.info? 38).map (fun i => (i.zero, i.size, i.bytes)) = some (some (.agg #[.int .i64 0, .int .i64 0, .int .i64 0, .int .i64 0, .int .i64 0, .int .i64 0, .int .i64 0, .int .i64 0, .int .i64 0, .int .i64 0, .int .i64 0]), 11, 88) := by kernel_rfl
theorem fa38_0 (b o : Nat) (w : World) : (Instr.fieldAt 38 (.pointer (some ⟨b, o, none⟩)) 0).run Try.prog w = .ok (.pointer (some ⟨b, o, none⟩)) w := by kernel_rfl
theorem fa38_1 (b o : Nat) (w : World) : (Instr.fieldAt 38 (.pointer (some ⟨b, o, none⟩)) 1).run Try.prog w = .ok (.pointer (some ⟨b, o + 1, none⟩)) w := by kernel_rfl
theorem fa38_2 (b o : Nat) (w : World) : (Instr.fieldAt 38 (.pointer (some ⟨b, o, none⟩)) 2).run Try.prog w = .ok (.pointer (some ⟨b, o + 2, none⟩)) w := by kernel_rfl
theorem fa38_3 (b o : Nat) (w : World) : (Instr.fieldAt 38 (.pointer (some ⟨b, o, none⟩)) 3).run Try.prog w = .ok (.pointer (some ⟨b, o + 3, none⟩)) w := by kernel_rfl
theorem fa38_4 (b o : Nat) (w : World) : (Instr.fieldAt 38 (.pointer (some ⟨b, o, none⟩)) 4).run Try.prog w = .ok (.pointer (some ⟨b, o + 4, none⟩)) w := by kernel_rfl
theorem fa38_5 (b o : Nat) (w : World) : (Instr.fieldAt 38 (.pointer (some ⟨b, o, none⟩)) 5).run Try.prog w = .ok (.pointer (some ⟨b, o + 5, none⟩)) w := by kernel_rfl
theorem inf39 : (Try.prog.info? 39).map (·.size) = some 11 := by kernel_rfl
theorem infz39 : (Try.prog.info? 39).map (fun i => (i.zero, i.size, i.bytes)) = some (some (.agg #[.int .i64 0, .int .i64 0, .int .i64 0, .int .i64 0, .int .i64 0, .int .i64 0, .int .i64 0, .int .i64 0, .int .i64 0, .int .i64 0, .int .i64 0]), 11, 88) := by kernel_rfl
theorem fa39_0 (b o : Nat) (w : World) : (Instr.fieldAt 39 (.pointer (some ⟨b, o, none⟩)) 0).run Try.prog w = .ok (.pointer (some ⟨b, o, none⟩)) w := by kernel_rfl
theorem fa39_1 (b o : Nat) (w : World) : (Instr.fieldAt 39 (.pointer (some ⟨b, o, none⟩)) 1).run Try.prog w = .ok (.pointer (some ⟨b, o + 1, none⟩)) w := by kernel_rfl
theorem fa39_2 (b o : Nat) (w : World) : (Instr.fieldAt 39 (.pointer (some ⟨b, o, none⟩)) 2).run Try.prog w = .ok (.pointer (some ⟨b, o + 2, none⟩)) w := by kernel_rfl
theorem fa39_3 (b o : Nat) (w : World) : (Instr.fieldAt 39 (.pointer (some ⟨b, o, none⟩)) 3).run Try.prog w = .ok (.pointer (some ⟨b, o + 3, none⟩)) w := by kernel_rfl
theorem fa39_4 (b o : Nat) (w : World) : (Instr.fieldAt 39 (.pointer (some ⟨b, o, none⟩)) 4).run Try.prog w = .ok (.pointer (some ⟨b, o + 4, none⟩)) w := by kernel_rfl
theorem fa39_5 (b o : Nat) (w : World) : (Instr.fieldAt 39 (.pointer (some ⟨b, o, none⟩)) 5).run Try.prog w = .ok (.pointer (some ⟨b, o + 5, none⟩)) w := by kernel_rfl
theorem inf40 : (Try.prog.info? 40).map (·.size) = some 1 := by kernel_rfl
theorem inf41 : (Try.prog.info? 41).map (·.size) = some 1 := by kernel_rfl
theorem inf42 : (Try.prog.info? 42).map (·.size) = some 1 := by kernel_rfl
theorem infz42 : (Try.prog.info? 42).map (fun i => (i.zero, i.size, i.bytes)) = some (some (.slice none 0 0), 1, 24) := by kernel_rfl
theorem inf43 : (Try.prog.info? 43).map (·.size) = some 1 := by kernel_rfl
theorem inf44 : (Try.prog.info? 44).map (·.size) = some 1 := by kernel_rfl
theorem infz44 : (Try.prog.info? 44).map (fun i => (i.zero, i.size, i.bytes)) = some (some (.slice none 0 0), 1, 24) := by kernel_rfl
theorem inf46 : (Try.prog.info? 46).map (·.size) = some 1 := by kernel_rfl
theorem inf47 : (Try.prog.info? 47).map (·.size) = some 1 := by kernel_rfl
theorem inf48 : (Try.prog.info? 48).map (·.size) = some 1 := by kernel_rfl
theorem inf49 : (Try.prog.info? 49).map (·.size) = some 1 := by kernel_rfl
theorem inf50 : (Try.prog.info? 50).map (·.size) = some 10 := by kernel_rfl
theorem infz50 : (Try.prog.info? 50).map (fun i => (i.zero, i.size, i.bytes)) = some (some (.agg #[.int .i64 0, .int .i64 0, .int .i64 0, .int .i64 0, .int .i64 0, .int .i64 0, .int .i64 0, .int .i64 0, .int .i64 0, .int .i64 0]), 10, 80) := by kernel_rfl
theorem fa50_0 (b o : Nat) (w : World) : (Instr.fieldAt 50 (.pointer (some ⟨b, o, none⟩)) 0).run Try.prog w = .ok (.pointer (some ⟨b, o, none⟩)) w := by kernel_rfl
theorem fa50_1 (b o : Nat) (w : World) : (Instr.fieldAt 50 (.pointer (some ⟨b, o, none⟩)) 1).run Try.prog w = .ok (.pointer (some ⟨b, o + 1, none⟩)) w := by kernel_rfl
theorem fa50_2 (b o : Nat) (w : World) : (Instr.fieldAt 50 (.pointer (some ⟨b, o, none⟩)) 2).run Try.prog w = .ok (.pointer (some ⟨b, o + 2, none⟩)) w := by kernel_rfl
theorem fa50_3 (b o : Nat) (w : World) : (Instr.fieldAt 50 (.pointer (some ⟨b, o, none⟩)) 3).run Try.prog w = .ok (.pointer (some ⟨b, o + 3, none⟩)) w := by kernel_rfl
theorem fa50_4 (b o : Nat) (w : World) : (Instr.fieldAt 50 (.pointer (some ⟨b, o, none⟩)) 4).run Try.prog w = .ok (.pointer (some ⟨b, o + 4, none⟩)) w := by kernel_rfl
theorem inf51 : (Try.prog.info? 51).map (·.size) = some 10 := by kernel_rfl
theorem infz51 : (Try.prog.info? 51).map (fun i => (i.zero, i.size, i.bytes)) = some (some (.agg #[.int .i64 0, .int .i64 0, .int .i64 0, .int .i64 0, .int .i64 0, .int .i64 0, .int .i64 0, .int .i64 0, .int .i64 0, .int .i64 0]), 10, 80) := by kernel_rfl
theorem fa51_0 (b o : Nat) (w : World) : (Instr.fieldAt 51 (.pointer (some ⟨b, o, none⟩)) 0).run Try.prog w = .ok (.pointer (some ⟨b, o, none⟩)) w := by kernel_rfl
theorem fa51_1 (b o : Nat) (w : World) : (Instr.fieldAt 51 (.pointer (some ⟨b, o, none⟩)) 1).run Try.prog w = .ok (.pointer (some ⟨b, o + 1, none⟩)) w := by kernel_rfl
theorem fa51_2 (b o : Nat) (w : World) : (Instr.fieldAt 51 (.pointer (some ⟨b, o, none⟩)) 2).run Try.prog w = .ok (.pointer (some ⟨b, o + 2, none⟩)) w := by kernel_rfl
theorem fa51_3 (b o : Nat) (w : World) : (Instr.fieldAt 51 (.pointer (some ⟨b, o, none⟩)) 3).run Try.prog w = .ok (.pointer (some ⟨b, o + 3, none⟩)) w := by kernel_rfl
theorem fa51_4 (b o : Nat) (w : World) : (Instr.fieldAt 51 (.pointer (some ⟨b, o, none⟩)) 4).run Try.prog w = .ok (.pointer (some ⟨b, o + 4, none⟩)) w := by kernel_rfl
theorem inf52 : (Try.prog.info? 52).map (·.size) = some 1 := by kernel_rfl
theorem infz52 : (Try.prog.info? 52).map (fun i => (i.zero, i.size, i.bytes)) = some (some (.slice none 0 0), 1, 24) := by kernel_rfl
theorem inf54 : (Try.prog.info? 54).map (·.size) = some 1 := by kernel_rfl
theorem inf55 : (Try.prog.info? 55).map (·.size) = some 1 := by kernel_rfl
theorem inf56 : (Try.prog.info? 56).map (·.size) = some 1 := by kernel_rfl
theorem inf57 : (Try.prog.info? 57).map (·.size) = some 1 := by kernel_rfl
theorem infz57 : (Try.prog.info? 57).map (fun i => (i.zero, i.size, i.bytes)) = some (some (.slice none 0 0), 1, 24) := by kernel_rfl
theorem inf58 : (Try.prog.info? 58).map (·.size) = some 4 := by kernel_rfl
theorem infz58 : (Try.prog.info? 58).map (fun i => (i.zero, i.size, i.bytes)) = some (some (.agg #[.int .i64 0, .int .i64 0, .int .i64 0, .int .i64 0]), 4, 32) := by kernel_rfl
theorem inf59 : (Try.prog.info? 59).map (·.size) = some 7 := by kernel_rfl
theorem infz59 : (Try.prog.info? 59).map (fun i => (i.zero, i.size, i.bytes)) = some (some (.agg #[.int .i64 0, .int .i64 0, .slice none 0 0, .int .i64 0, .int .i64 0, .int .i64 0, .int .i64 0]), 7, 72) := by kernel_rfl
theorem fa59_0 (b o : Nat) (w : World) : (Instr.fieldAt 59 (.pointer (some ⟨b, o, none⟩)) 0).run Try.prog w = .ok (.pointer (some ⟨b, o, none⟩)) w := by kernel_rfl
theorem fa59_1 (b o : Nat) (w : World) : (Instr.fieldAt 59 (.pointer (some ⟨b, o, none⟩)) 1).run Try.prog w = .ok (.pointer (some ⟨b, o + 1, none⟩)) w := by kernel_rfl
theorem fa59_2 (b o : Nat) (w : World) : (Instr.fieldAt 59 (.pointer (some ⟨b, o, none⟩)) 2).run Try.prog w = .ok (.pointer (some ⟨b, o + 2, none⟩)) w := by kernel_rfl
theorem fa59_3 (b o : Nat) (w : World) : (Instr.fieldAt 59 (.pointer (some ⟨b, o, none⟩)) 3).run Try.prog w = .ok (.pointer (some ⟨b, o + 3, none⟩)) w := by kernel_rfl
theorem inf60 : (Try.prog.info? 60).map (·.size) = some 7 := by kernel_rfl
theorem infz60 : (Try.prog.info? 60).map (fun i => (i.zero, i.size, i.bytes)) = some (some (.agg #[.int .i64 0, .int .i64 0, .slice none 0 0, .int .i64 0, .int .i64 0, .int .i64 0, .int .i64 0]), 7, 72) := by kernel_rfl
theorem fa60_0 (b o : Nat) (w : World) : (Instr.fieldAt 60 (.pointer (some ⟨b, o, none⟩)) 0).run Try.prog w = .ok (.pointer (some ⟨b, o, none⟩)) w := by kernel_rfl
theorem fa60_1 (b o : Nat) (w : World) : (Instr.fieldAt 60 (.pointer (some ⟨b, o, none⟩)) 1).run Try.prog w = .ok (.pointer (some ⟨b, o + 1, none⟩)) w := by kernel_rfl
theorem fa60_2 (b o : Nat) (w : World) : (Instr.fieldAt 60 (.pointer (some ⟨b, o, none⟩)) 2).run Try.prog w = .ok (.pointer (some ⟨b, o + 2, none⟩)) w := by kernel_rfl
theorem fa60_3 (b o : Nat) (w : World) : (Instr.fieldAt 60 (.pointer (some ⟨b, o, none⟩)) 3).run Try.prog w = .ok (.pointer (some ⟨b, o + 3, none⟩)) w := by kernel_rfl
theorem inf62 : (Try.prog.info? 62).map (·.size) = some 1 := by kernel_rfl
theorem inf63 : (Try.prog.info? 63).map (·.size) = some 1 := by kernel_rfl
theorem inf64 : (Try.prog.info? 64).map (·.size) = some 1 := by kernel_rfl
theorem inf65 : (Try.prog.info? 65).map (·.size) = some 1 := by kernel_rfl
theorem inf67 : (Try.prog.info? 67).map (·.size) = some 1 := by kernel_rfl
theorem inf68 : (Try.prog.info? 68).map (·.size) = some 1 := by kernel_rfl
theorem inf69 : (Try.prog.info? 69).map (·.size) = some 1 := by kernel_rfl
theorem inf71 : (Try.prog.info? 71).map (·.size) = some 1 := by kernel_rfl
theorem inf72 : (Try.prog.info? 72).map (·.size) = some 1 := by kernel_rfl
theorem inf73 : (Try.prog.info? 73).map (·.size) = some 1 := by kernel_rfl
theorem inf74 : (Try.prog.info? 74).map (·.size) = some 1 := by kernel_rfl
theorem infz74 : (Try.prog.info? 74).map (fun i => (i.zero, i.size, i.bytes)) = some (some (.slice none 0 0), 1, 24) := by kernel_rfl
theorem inf76 : (Try.prog.info? 76).map (·.size) = some 1 := by kernel_rfl
theorem inf77 : (Try.prog.info? 77).map (·.size) = some 1 := by kernel_rfl
theorem inf78 : (Try.prog.info? 78).map (·.size) = some 1 := by kernel_rfl
theorem inf79 : (Try.prog.info? 79).map (·.size) = some 2 := by kernel_rfl
theorem infz79 : (Try.prog.info? 79).map (fun i => (i.zero, i.size, i.bytes)) = some (some (.agg #[.slice none 0 0, .int .i64 0]), 2, 32) := by kernel_rfl
theorem fa79_0 (b o : Nat) (w : World) : (Instr.fieldAt 79 (.pointer (some ⟨b, o, none⟩)) 0).run Try.prog w = .ok (.pointer (some ⟨b, o, none⟩)) w := by kernel_rfl
theorem fa79_1 (b o : Nat) (w : World) : (Instr.fieldAt 79 (.pointer (some ⟨b, o, none⟩)) 1).run Try.prog w = .ok (.pointer (some ⟨b, o + 1, none⟩)) w := by kernel_rfl
theorem inf80 : (Try.prog.info? 80).map (·.size) = some 2 := by kernel_rfl
theorem infz80 : (Try.prog.info? 80).map (fun i => (i.zero, i.size, i.bytes)) = some (some (.agg #[.slice none 0 0, .int .i64 0]), 2, 32) := by kernel_rfl
theorem fa80_0 (b o : Nat) (w : World) : (Instr.fieldAt 80 (.pointer (some ⟨b, o, none⟩)) 0).run Try.prog w = .ok (.pointer (some ⟨b, o, none⟩)) w := by kernel_rfl
theorem fa80_1 (b o : Nat) (w : World) : (Instr.fieldAt 80 (.pointer (some ⟨b, o, none⟩)) 1).run Try.prog w = .ok (.pointer (some ⟨b, o + 1, none⟩)) w := by kernel_rfl
theorem inf81 : (Try.prog.info? 81).map (·.size) = some 1 := by kernel_rfl
theorem inf83 : (Try.prog.info? 83).map (·.size) = some 1 := by kernel_rfl
theorem inf84 : (Try.prog.info? 84).map (·.size) = some 1 := by kernel_rfl
theorem inf85 : (Try.prog.info? 85).map (·.size) = some 1 := by kernel_rfl
theorem inf86 : (Try.prog.info? 86).map (·.size) = some 1 := by kernel_rfl
theorem infz86 : (Try.prog.info? 86).map (fun i => (i.zero, i.size, i.bytes)) = some (some (.slice none 0 0), 1, 24) := by kernel_rfl
theorem inf88 : (Try.prog.info? 88).map (·.size) = some 1 := by kernel_rfl
theorem inf89 : (Try.prog.info? 89).map (·.size) = some 1 := by kernel_rfl
theorem inf90 : (Try.prog.info? 90).map (·.size) = some 1 := by kernel_rfl
theorem inf91 : (Try.prog.info? 91).map (·.size) = some 1 := by kernel_rfl
theorem inf92 : (Try.prog.info? 92).map (·.size) = some 4 := by kernel_rfl
theorem infz92 : (Try.prog.info? 92).map (fun i => (i.zero, i.size, i.bytes)) = some (some (.agg #[.int .i64 0, .int .i64 0, .int .i64 0, .int .i64 0]), 4, 32) := by kernel_rfl
theorem fa92_0 (b o : Nat) (w : World) : (Instr.fieldAt 92 (.pointer (some ⟨b, o, none⟩)) 0).run Try.prog w = .ok (.pointer (some ⟨b, o, none⟩)) w := by kernel_rfl
theorem fa92_1 (b o : Nat) (w : World) : (Instr.fieldAt 92 (.pointer (some ⟨b, o, none⟩)) 1).run Try.prog w = .ok (.pointer (some ⟨b, o + 1, none⟩)) w := by kernel_rfl
theorem fa92_2 (b o : Nat) (w : World) : (Instr.fieldAt 92 (.pointer (some ⟨b, o, none⟩)) 2).run Try.prog w = .ok (.pointer (some ⟨b, o + 3, none⟩)) w := by kernel_rfl
theorem inf93 : (Try.prog.info? 93).map (·.size) = some 4 := by kernel_rfl
theorem infz93 : (Try.prog.info? 93).map (fun i => (i.zero, i.size, i.bytes)) = some (some (.agg #[.int .i64 0, .int .i64 0, .int .i64 0, .int .i64 0]), 4, 32) := by kernel_rfl
theorem fa93_0 (b o : Nat) (w : World) : (Instr.fieldAt 93 (.pointer (some ⟨b, o, none⟩)) 0).run Try.prog w = .ok (.pointer (some ⟨b, o, none⟩)) w := by kernel_rfl
theorem fa93_1 (b o : Nat) (w : World) : (Instr.fieldAt 93 (.pointer (some ⟨b, o, none⟩)) 1).run Try.prog w = .ok (.pointer (some ⟨b, o + 1, none⟩)) w := by kernel_rfl
theorem fa93_2 (b o : Nat) (w : World) : (Instr.fieldAt 93 (.pointer (some ⟨b, o, none⟩)) 2).run Try.prog w = .ok (.pointer (some ⟨b, o + 3, none⟩)) w := by kernel_rfl
theorem inf95 : (Try.prog.info? 95).map (·.size) = some 1 := by kernel_rfl
theorem inf96 : (Try.prog.info? 96).map (·.size) = some 1 := by kernel_rfl
theorem inf97 : (Try.prog.info? 97).map (·.size) = some 1 := by kernel_rfl
theorem inf98 : (Try.prog.info? 98).map (·.size) = some 1 := by kernel_rfl
theorem inf100 : (Try.prog.info? 100).map (·.size) = some 1 := by kernel_rfl
theorem inf101 : (Try.prog.info? 101).map (·.size) = some 1 := by kernel_rfl
theorem inf102 : (Try.prog.info? 102).map (·.size) = some 1 := by kernel_rfl
theorem inf103 : (Try.prog.info? 103).map (·.size) = some 1 := by kernel_rfl
theorem infz103 : (Try.prog.info? 103).map (fun i => (i.zero, i.size, i.bytes)) = some (some (.slice none 0 0), 1, 24) := by kernel_rfl
theorem inf105 : (Try.prog.info? 105).map (·.size) = some 1 := by kernel_rfl
theorem inf106 : (Try.prog.info? 106).map (·.size) = some 1 := by kernel_rfl
theorem inf107 : (Try.prog.info? 107).map (·.size) = some 6 := by kernel_rfl
theorem infz107 : (Try.prog.info? 107).map (fun i => (i.zero, i.size, i.bytes)) = some (some (.agg #[.int .i64 0, .int .i64 0, .int .i64 0, .int .i64 0, .int .i64 0, .slice none 0 0]), 6, 64) := by kernel_rfl
theorem fa107_0 (b o : Nat) (w : World) : (Instr.fieldAt 107 (.pointer (some ⟨b, o, none⟩)) 0).run Try.prog w = .ok (.pointer (some ⟨b, o, none⟩)) w := by kernel_rfl
theorem fa107_1 (b o : Nat) (w : World) : (Instr.fieldAt 107 (.pointer (some ⟨b, o, none⟩)) 1).run Try.prog w = .ok (.pointer (some ⟨b, o + 1, none⟩)) w := by kernel_rfl
theorem fa107_2 (b o : Nat) (w : World) : (Instr.fieldAt 107 (.pointer (some ⟨b, o, none⟩)) 2).run Try.prog w = .ok (.pointer (some ⟨b, o + 2, none⟩)) w := by kernel_rfl
theorem fa107_3 (b o : Nat) (w : World) : (Instr.fieldAt 107 (.pointer (some ⟨b, o, none⟩)) 3).run Try.prog w = .ok (.pointer (some ⟨b, o + 3, none⟩)) w := by kernel_rfl
theorem fa107_4 (b o : Nat) (w : World) : (Instr.fieldAt 107 (.pointer (some ⟨b, o, none⟩)) 4).run Try.prog w = .ok (.pointer (some ⟨b, o + 4, none⟩)) w := by kernel_rfl
theorem fa107_5 (b o : Nat) (w : World) : (Instr.fieldAt 107 (.pointer (some ⟨b, o, none⟩)) 5).run Try.prog w = .ok (.pointer (some ⟨b, o + 5, none⟩)) w := by kernel_rfl
theorem inf108 : (Try.prog.info? 108).map (·.size) = some 6 := by kernel_rfl
theorem infz108 : (Try.prog.info? 108).map (fun i => (i.zero, i.size, i.bytes)) = some (some (.agg #[.int .i64 0, .int .i64 0, .int .i64 0, .int .i64 0, .int .i64 0, .slice none 0 0]), 6, 64) := by kernel_rfl
theorem fa108_0 (b o : Nat) (w : World) : (Instr.fieldAt 108 (.pointer (some ⟨b, o, none⟩)) 0).run Try.prog w = .ok (.pointer (some ⟨b, o, none⟩)) w := by kernel_rfl
theorem fa108_1 (b o : Nat) (w : World) : (Instr.fieldAt 108 (.pointer (some ⟨b, o, none⟩)) 1).run Try.prog w = .ok (.pointer (some ⟨b, o + 1, none⟩)) w := by kernel_rfl
theorem fa108_2 (b o : Nat) (w : World) : (Instr.fieldAt 108 (.pointer (some ⟨b, o, none⟩)) 2).run Try.prog w = .ok (.pointer (some ⟨b, o + 2, none⟩)) w := by kernel_rfl
theorem fa108_3 (b o : Nat) (w : World) : (Instr.fieldAt 108 (.pointer (some ⟨b, o, none⟩)) 3).run Try.prog w = .ok (.pointer (some ⟨b, o + 3, none⟩)) w := by kernel_rfl
theorem fa108_4 (b o : Nat) (w : World) : (Instr.fieldAt 108 (.pointer (some ⟨b, o, none⟩)) 4).run Try.prog w = .ok (.pointer (some ⟨b, o + 4, none⟩)) w := by kernel_rfl
theorem fa108_5 (b o : Nat) (w : World) : (Instr.fieldAt 108 (.pointer (some ⟨b, o, none⟩)) 5).run Try.prog w = .ok (.pointer (some ⟨b, o + 5, none⟩)) w := by kernel_rfl
theorem inf109 : (Try.prog.info? 109).map (·.size) = some 1 := by kernel_rfl
theorem inf110 : (Try.prog.info? 110).map (·.size) = some 1 := by kernel_rfl
theorem inf111 : (Try.prog.info? 111).map (·.size) = some 1 := by kernel_rfl
theorem inf113 : (Try.prog.info? 113).map (·.size) = some 1 := by kernel_rfl
theorem inf114 : (Try.prog.info? 114).map (·.size) = some 1 := by kernel_rfl
theorem inf115 : (Try.prog.info? 115).map (·.size) = some 1 := by kernel_rfl
theorem inf117 : (Try.prog.info? 117).map (·.size) = some 1 := by kernel_rfl
theorem inf118 : (Try.prog.info? 118).map (·.size) = some 1 := by kernel_rfl
theorem inf119 : (Try.prog.info? 119).map (·.size) = some 1 := by kernel_rfl
theorem inf120 : (Try.prog.info? 120).map (·.size) = some 1 := by kernel_rfl
theorem inf122 : (Try.prog.info? 122).map (·.size) = some 1 := by kernel_rfl
theorem inf123 : (Try.prog.info? 123).map (·.size) = some 1 := by kernel_rfl
theorem inf124 : (Try.prog.info? 124).map (·.size) = some 1 := by kernel_rfl
theorem inf125 : (Try.prog.info? 125).map (·.size) = some 1 := by kernel_rfl
theorem inf126 : (Try.prog.info? 126).map (·.size) = some 1 := by kernel_rfl
theorem inf127 : (Try.prog.info? 127).map (·.size) = some 1 := by kernel_rfl
theorem inf128 : (Try.prog.info? 128).map (·.size) = some 1 := by kernel_rfl
theorem inf129 : (Try.prog.info? 129).map (·.size) = some 1 := by kernel_rfl
theorem infz129 : (Try.prog.info? 129).map (fun i => (i.zero, i.size, i.bytes)) = some (some (.slice none 0 0), 1, 24) := by kernel_rfl
theorem inf131 : (Try.prog.info? 131).map (·.size) = some 1 := by kernel_rfl
theorem inf132 : (Try.prog.info? 132).map (·.size) = some 1 := by kernel_rfl
theorem inf133 : (Try.prog.info? 133).map (·.size) = some 1 := by kernel_rfl
theorem inf134 : (Try.prog.info? 134).map (·.size) = some 1 := by kernel_rfl
theorem inf135 : (Try.prog.info? 135).map (·.size) = some 1 := by kernel_rfl
theorem inf136 : (Try.prog.info? 136).map (·.size) = some 2 := by kernel_rfl
theorem infz136 : (Try.prog.info? 136).map (fun i => (i.zero, i.size, i.bytes)) = some (some (.agg #[.int .i64 0, .int .i64 0]), 2, 16) := by kernel_rfl
theorem fa136_0 (b o : Nat) (w : World) : (Instr.fieldAt 136 (.pointer (some ⟨b, o, none⟩)) 0).run Try.prog w = .ok (.pointer (some ⟨b, o, none⟩)) w := by kernel_rfl
theorem fa136_1 (b o : Nat) (w : World) : (Instr.fieldAt 136 (.pointer (some ⟨b, o, none⟩)) 1).run Try.prog w = .ok (.pointer (some ⟨b, o + 1, none⟩)) w := by kernel_rfl
theorem inf137 : (Try.prog.info? 137).map (·.size) = some 2 := by kernel_rfl
theorem infz137 : (Try.prog.info? 137).map (fun i => (i.zero, i.size, i.bytes)) = some (some (.agg #[.int .i64 0, .int .i64 0]), 2, 16) := by kernel_rfl
theorem fa137_0 (b o : Nat) (w : World) : (Instr.fieldAt 137 (.pointer (some ⟨b, o, none⟩)) 0).run Try.prog w = .ok (.pointer (some ⟨b, o, none⟩)) w := by kernel_rfl
theorem fa137_1 (b o : Nat) (w : World) : (Instr.fieldAt 137 (.pointer (some ⟨b, o, none⟩)) 1).run Try.prog w = .ok (.pointer (some ⟨b, o + 1, none⟩)) w := by kernel_rfl
theorem inf138 : (Try.prog.info? 138).map (·.size) = some 1 := by kernel_rfl
theorem inf139 : (Try.prog.info? 139).map (·.size) = some 0 := by kernel_rfl
theorem infz139 : (Try.prog.info? 139).map (fun i => (i.zero, i.size, i.bytes)) = some (some (.agg #[]), 0, 0) := by kernel_rfl
theorem inf140 : (Try.prog.info? 140).map (·.size) = some 4 := by kernel_rfl
theorem infz140 : (Try.prog.info? 140).map (fun i => (i.zero, i.size, i.bytes)) = some (some (.agg #[.int .i64 0, .int .i64 0, .int .i64 0, .int .i64 0]), 4, 32) := by kernel_rfl
theorem fa140_0 (b o : Nat) (w : World) : (Instr.fieldAt 140 (.pointer (some ⟨b, o, none⟩)) 0).run Try.prog w = .ok (.pointer (some ⟨b, o, none⟩)) w := by kernel_rfl
theorem fa140_1 (b o : Nat) (w : World) : (Instr.fieldAt 140 (.pointer (some ⟨b, o, none⟩)) 1).run Try.prog w = .ok (.pointer (some ⟨b, o + 2, none⟩)) w := by kernel_rfl
theorem inf141 : (Try.prog.info? 141).map (·.size) = some 4 := by kernel_rfl
theorem infz141 : (Try.prog.info? 141).map (fun i => (i.zero, i.size, i.bytes)) = some (some (.agg #[.int .i64 0, .int .i64 0, .int .i64 0, .int .i64 0]), 4, 32) := by kernel_rfl
theorem fa141_0 (b o : Nat) (w : World) : (Instr.fieldAt 141 (.pointer (some ⟨b, o, none⟩)) 0).run Try.prog w = .ok (.pointer (some ⟨b, o, none⟩)) w := by kernel_rfl
theorem fa141_1 (b o : Nat) (w : World) : (Instr.fieldAt 141 (.pointer (some ⟨b, o, none⟩)) 1).run Try.prog w = .ok (.pointer (some ⟨b, o + 2, none⟩)) w := by kernel_rfl
theorem inf142 : (Try.prog.info? 142).map (·.size) = some 1 := by kernel_rfl
theorem inf143 : (Try.prog.info? 143).map (·.size) = some 1 := by kernel_rfl
theorem infz143 : (Try.prog.info? 143).map (fun i => (i.zero, i.size, i.bytes)) = some (some (.slice none 0 0), 1, 24) := by kernel_rfl
theorem inf144 : (Try.prog.info? 144).map (·.size) = some 1 := by kernel_rfl
theorem infz144 : (Try.prog.info? 144).map (fun i => (i.zero, i.size, i.bytes)) = some (some (.slice none 0 0), 1, 24) := by kernel_rfl
theorem inf146 : (Try.prog.info? 146).map (·.size) = some 1 := by kernel_rfl
theorem inf147 : (Try.prog.info? 147).map (·.size) = some 1 := by kernel_rfl
theorem infz147 : (Try.prog.info? 147).map (fun i => (i.zero, i.size, i.bytes)) = some (some (.pointer none), 1, 8) := by kernel_rfl
theorem inf148 : (Try.prog.info? 148).map (·.size) = some 1 := by kernel_rfl
theorem infz148 : (Try.prog.info? 148).map (fun i => (i.zero, i.size, i.bytes)) = some (some (.pointer none), 1, 8) := by kernel_rfl
theorem inf149 : (Try.prog.info? 149).map (·.size) = some 2 := by kernel_rfl
theorem infz149 : (Try.prog.info? 149).map (fun i => (i.zero, i.size, i.bytes)) = some (some (.agg #[.pointer none, .int .i64 0]), 2, 16) := by kernel_rfl
theorem fa149_0 (b o : Nat) (w : World) : (Instr.fieldAt 149 (.pointer (some ⟨b, o, none⟩)) 0).run Try.prog w = .ok (.pointer (some ⟨b, o, none⟩)) w := by kernel_rfl
theorem fa149_1 (b o : Nat) (w : World) : (Instr.fieldAt 149 (.pointer (some ⟨b, o, none⟩)) 1).run Try.prog w = .ok (.pointer (some ⟨b, o + 1, none⟩)) w := by kernel_rfl
theorem inf150 : (Try.prog.info? 150).map (·.size) = some 2 := by kernel_rfl
theorem infz150 : (Try.prog.info? 150).map (fun i => (i.zero, i.size, i.bytes)) = some (some (.agg #[.pointer none, .int .i64 0]), 2, 16) := by kernel_rfl
theorem fa150_0 (b o : Nat) (w : World) : (Instr.fieldAt 150 (.pointer (some ⟨b, o, none⟩)) 0).run Try.prog w = .ok (.pointer (some ⟨b, o, none⟩)) w := by kernel_rfl
theorem fa150_1 (b o : Nat) (w : World) : (Instr.fieldAt 150 (.pointer (some ⟨b, o, none⟩)) 1).run Try.prog w = .ok (.pointer (some ⟨b, o + 1, none⟩)) w := by kernel_rfl
theorem inf151 : (Try.prog.info? 151).map (·.size) = some 1 := by kernel_rfl
theorem inf153 : (Try.prog.info? 153).map (·.size) = some 1 := by kernel_rfl
theorem inf154 : (Try.prog.info? 154).map (·.size) = some 1 := by kernel_rfl
theorem inf155 : (Try.prog.info? 155).map (·.size) = some 1 := by kernel_rfl
theorem inf156 : (Try.prog.info? 156).map (·.size) = some 1 := by kernel_rfl
theorem infz156 : (Try.prog.info? 156).map (fun i => (i.zero, i.size, i.bytes)) = some (some (.slice none 0 0), 1, 24) := by kernel_rfl
theorem inf157 : (Try.prog.info? 157).map (·.size) = some 1 := by kernel_rfl
theorem infz157 : (Try.prog.info? 157).map (fun i => (i.zero, i.size, i.bytes)) = some (some (.slice none 0 0), 1, 24) := by kernel_rfl
theorem inf158 : (Try.prog.info? 158).map (·.size) = some 1 := by kernel_rfl
theorem inf160 : (Try.prog.info? 160).map (·.size) = some 1 := by kernel_rfl
theorem inf161 : (Try.prog.info? 161).map (·.size) = some 3 := by kernel_rfl
theorem infz161 : (Try.prog.info? 161).map (fun i => (i.zero, i.size, i.bytes)) = some (some (.agg #[.int .i64 0, .int .i64 0, .int .i64 0]), 3, 24) := by kernel_rfl
theorem fa161_0 (b o : Nat) (w : World) : (Instr.fieldAt 161 (.pointer (some ⟨b, o, none⟩)) 0).run Try.prog w = .ok (.pointer (some ⟨b, o, none⟩)) w := by kernel_rfl
theorem fa161_1 (b o : Nat) (w : World) : (Instr.fieldAt 161 (.pointer (some ⟨b, o, none⟩)) 1).run Try.prog w = .ok (.pointer (some ⟨b, o + 1, none⟩)) w := by kernel_rfl
theorem fa161_2 (b o : Nat) (w : World) : (Instr.fieldAt 161 (.pointer (some ⟨b, o, none⟩)) 2).run Try.prog w = .ok (.pointer (some ⟨b, o + 2, none⟩)) w := by kernel_rfl
theorem inf162 : (Try.prog.info? 162).map (·.size) = some 3 := by kernel_rfl
theorem infz162 : (Try.prog.info? 162).map (fun i => (i.zero, i.size, i.bytes)) = some (some (.agg #[.int .i64 0, .int .i64 0, .int .i64 0]), 3, 24) := by kernel_rfl
theorem fa162_0 (b o : Nat) (w : World) : (Instr.fieldAt 162 (.pointer (some ⟨b, o, none⟩)) 0).run Try.prog w = .ok (.pointer (some ⟨b, o, none⟩)) w := by kernel_rfl
theorem fa162_1 (b o : Nat) (w : World) : (Instr.fieldAt 162 (.pointer (some ⟨b, o, none⟩)) 1).run Try.prog w = .ok (.pointer (some ⟨b, o + 1, none⟩)) w := by kernel_rfl
theorem fa162_2 (b o : Nat) (w : World) : (Instr.fieldAt 162 (.pointer (some ⟨b, o, none⟩)) 2).run Try.prog w = .ok (.pointer (some ⟨b, o + 2, none⟩)) w := by kernel_rfl
theorem inf163 : (Try.prog.info? 163).map (·.size) = some 3 := by kernel_rfl
theorem infz163 : (Try.prog.info? 163).map (fun i => (i.zero, i.size, i.bytes)) = some (some (.agg #[.int .i64 0, .int .i64 0, .int .i64 0]), 3, 24) := by kernel_rfl
theorem fa163_0 (b o : Nat) (w : World) : (Instr.fieldAt 163 (.pointer (some ⟨b, o, none⟩)) 0).run Try.prog w = .ok (.pointer (some ⟨b, o, none⟩)) w := by kernel_rfl
theorem fa163_1 (b o : Nat) (w : World) : (Instr.fieldAt 163 (.pointer (some ⟨b, o, none⟩)) 1).run Try.prog w = .ok (.pointer (some ⟨b, o + 1, none⟩)) w := by kernel_rfl
theorem fa163_2 (b o : Nat) (w : World) : (Instr.fieldAt 163 (.pointer (some ⟨b, o, none⟩)) 2).run Try.prog w = .ok (.pointer (some ⟨b, o + 2, none⟩)) w := by kernel_rfl
theorem inf164 : (Try.prog.info? 164).map (·.size) = some 3 := by kernel_rfl
theorem infz164 : (Try.prog.info? 164).map (fun i => (i.zero, i.size, i.bytes)) = some (some (.agg #[.int .i64 0, .int .i64 0, .int .i64 0]), 3, 24) := by kernel_rfl
theorem fa164_0 (b o : Nat) (w : World) : (Instr.fieldAt 164 (.pointer (some ⟨b, o, none⟩)) 0).run Try.prog w = .ok (.pointer (some ⟨b, o, none⟩)) w := by kernel_rfl
theorem fa164_1 (b o : Nat) (w : World) : (Instr.fieldAt 164 (.pointer (some ⟨b, o, none⟩)) 1).run Try.prog w = .ok (.pointer (some ⟨b, o + 1, none⟩)) w := by kernel_rfl
theorem fa164_2 (b o : Nat) (w : World) : (Instr.fieldAt 164 (.pointer (some ⟨b, o, none⟩)) 2).run Try.prog w = .ok (.pointer (some ⟨b, o + 2, none⟩)) w := by kernel_rfl
theorem inf165 : (Try.prog.info? 165).map (·.size) = some 1 := by kernel_rfl
theorem inf166 : (Try.prog.info? 166).map (·.size) = some 1 := by kernel_rfl
theorem inf167 : (Try.prog.info? 167).map (·.size) = some 1 := by kernel_rfl
theorem inf168 : (Try.prog.info? 168).map (·.size) = some 1 := by kernel_rfl
theorem inf169 : (Try.prog.info? 169).map (·.size) = some 1 := by kernel_rfl
theorem inf170 : (Try.prog.info? 170).map (·.size) = some 1 := by kernel_rfl
theorem inf171 : (Try.prog.info? 171).map (·.size) = some 1 := by kernel_rfl
theorem inf172 : (Try.prog.info? 172).map (·.size) = some 1 := by kernel_rfl
theorem inf173 : (Try.prog.info? 173).map (·.size) = some 1 := by kernel_rfl
theorem infz173 : (Try.prog.info? 173).map (fun i => (i.zero, i.size, i.bytes)) = some (some (.agg #[.int .i64 0]), 1, 8) := by kernel_rfl
theorem fa173_0 (b o : Nat) (w : World) : (Instr.fieldAt 173 (.pointer (some ⟨b, o, none⟩)) 0).run Try.prog w = .ok (.pointer (some ⟨b, o, none⟩)) w := by kernel_rfl
theorem inf174 : (Try.prog.info? 174).map (·.size) = some 1 := by kernel_rfl
theorem infz174 : (Try.prog.info? 174).map (fun i => (i.zero, i.size, i.bytes)) = some (some (.agg #[.int .i64 0]), 1, 8) := by kernel_rfl
theorem fa174_0 (b o : Nat) (w : World) : (Instr.fieldAt 174 (.pointer (some ⟨b, o, none⟩)) 0).run Try.prog w = .ok (.pointer (some ⟨b, o, none⟩)) w := by kernel_rfl
theorem inf175 : (Try.prog.info? 175).map (·.size) = some 10 := by kernel_rfl
theorem infz175 : (Try.prog.info? 175).map (fun i => (i.zero, i.size, i.bytes)) = some (some (.agg #[.pointer none, .pointer none, .pointer none, .pointer none, .pointer none, .pointer none, .pointer none, .pointer none, .pointer none, .pointer none]), 10, 80) := by kernel_rfl
theorem inf177 : (Try.prog.info? 177).map (·.size) = some 1 := by kernel_rfl
theorem inf178 : (Try.prog.info? 178).map (·.size) = some 1 := by kernel_rfl
theorem inf179 : (Try.prog.info? 179).map (·.size) = some 1 := by kernel_rfl
theorem inf180 : (Try.prog.info? 180).map (·.size) = some 1 := by kernel_rfl
theorem inf181 : (Try.prog.info? 181).map (·.size) = some 1 := by kernel_rfl
theorem inf183 : (Try.prog.info? 183).map (·.size) = some 1 := by kernel_rfl
theorem inf184 : (Try.prog.info? 184).map (·.size) = some 1 := by kernel_rfl
theorem inf186 : (Try.prog.info? 186).map (·.size) = some 1 := by kernel_rfl
theorem inf187 : (Try.prog.info? 187).map (·.size) = some 1 := by kernel_rfl
theorem inf188 : (Try.prog.info? 188).map (·.size) = some 1 := by kernel_rfl
theorem infz188 : (Try.prog.info? 188).map (fun i => (i.zero, i.size, i.bytes)) = some (some (.pointer none), 1, 8) := by kernel_rfl
theorem inf189 : (Try.prog.info? 189).map (·.size) = some 41 := by kernel_rfl
theorem infz189 : (Try.prog.info? 189).map (fun i => (i.zero, i.size, i.bytes)) = some (some (.agg #[.int .i64 0, .int .i64 0, .int .i64 0, .slice none 0 0, .slice none 0 0, .int .i64 0, .bool false, .bool false, .bool false, .bool false, .bool false, .bool false, .bool false, .bool false, .int .i64 0, .bool false, .bool false, .bool false, .bool false, .bool false, .bool false, .bool false, .bool false, .int .i64 0, .bool false, .bool false, .bool false, .bool false, .bool false, .bool false, .bool false, .bool false, .int .i64 0, .bool false, .bool false, .bool false, .bool false, .bool false, .bool false, .bool false, .bool false]), 41, 136) := by kernel_rfl
theorem fa189_0 (b o : Nat) (w : World) : (Instr.fieldAt 189 (.pointer (some ⟨b, o, none⟩)) 0).run Try.prog w = .ok (.pointer (some ⟨b, o, none⟩)) w := by kernel_rfl
theorem inf190 : (Try.prog.info? 190).map (·.size) = some 41 := by kernel_rfl
theorem infz190 : (Try.prog.info? 190).map (fun i => (i.zero, i.size, i.bytes)) = some (some (.agg #[.int .i64 0, .int .i64 0, .int .i64 0, .slice none 0 0, .slice none 0 0, .int .i64 0, .bool false, .bool false, .bool false, .bool false, .bool false, .bool false, .bool false, .bool false, .int .i64 0, .bool false, .bool false, .bool false, .bool false, .bool false, .bool false, .bool false, .bool false, .int .i64 0, .bool false, .bool false, .bool false, .bool false, .bool false, .bool false, .bool false, .bool false, .int .i64 0, .bool false, .bool false, .bool false, .bool false, .bool false, .bool false, .bool false, .bool false]), 41, 136) := by kernel_rfl
theorem fa190_0 (b o : Nat) (w : World) : (Instr.fieldAt 190 (.pointer (some ⟨b, o, none⟩)) 0).run Try.prog w = .ok (.pointer (some ⟨b, o, none⟩)) w := by kernel_rfl
theorem inf191 : (Try.prog.info? 191).map (·.size) = some 1 := by kernel_rfl
theorem inf192 : (Try.prog.info? 192).map (·.size) = some 1 := by kernel_rfl
theorem inf193 : (Try.prog.info? 193).map (·.size) = some 1 := by kernel_rfl
theorem inf194 : (Try.prog.info? 194).map (·.size) = some 1 := by kernel_rfl
theorem inf197 : (Try.prog.info? 197).map (·.size) = some 1 := by kernel_rfl
theorem inf198 : (Try.prog.info? 198).map (·.size) = some 1 := by kernel_rfl
theorem inf199 : (Try.prog.info? 199).map (·.size) = some 1 := by kernel_rfl
theorem infz199 : (Try.prog.info? 199).map (fun i => (i.zero, i.size, i.bytes)) = some (some (.pointer none), 1, 8) := by kernel_rfl
theorem inf201 : (Try.prog.info? 201).map (·.size) = some 1 := by kernel_rfl
theorem inf202 : (Try.prog.info? 202).map (·.size) = some 42 := by kernel_rfl
theorem infz202 : (Try.prog.info? 202).map (fun i => (i.zero, i.size, i.bytes)) = some (some (.agg #[.int .i64 0, .int .i64 0, .int .i64 0, .slice none 0 0, .slice none 0 0, .int .i64 0, .bool false, .bool false, .bool false, .bool false, .bool false, .bool false, .bool false, .bool false, .int .i64 0, .bool false, .bool false, .bool false, .bool false, .bool false, .bool false, .bool false, .bool false, .int .i64 0, .bool false, .bool false, .bool false, .bool false, .bool false, .bool false, .bool false, .bool false, .int .i64 0, .bool false, .bool false, .bool false, .bool false, .bool false, .bool false, .bool false, .bool false, .slice none 0 0]), 42, 160) := by kernel_rfl
theorem fa202_0 (b o : Nat) (w : World) : (Instr.fieldAt 202 (.pointer (some ⟨b, o, none⟩)) 0).run Try.prog w = .ok (.pointer (some ⟨b, o, none⟩)) w := by kernel_rfl
theorem fa202_1 (b o : Nat) (w : World) : (Instr.fieldAt 202 (.pointer (some ⟨b, o, none⟩)) 1).run Try.prog w = .ok (.pointer (some ⟨b, o + 41, none⟩)) w := by kernel_rfl
theorem inf203 : (Try.prog.info? 203).map (·.size) = some 42 := by kernel_rfl
theorem infz203 : (Try.prog.info? 203).map (fun i => (i.zero, i.size, i.bytes)) = some (some (.agg #[.int .i64 0, .int .i64 0, .int .i64 0, .slice none 0 0, .slice none 0 0, .int .i64 0, .bool false, .bool false, .bool false, .bool false, .bool false, .bool false, .bool false, .bool false, .int .i64 0, .bool false, .bool false, .bool false, .bool false, .bool false, .bool false, .bool false, .bool false, .int .i64 0, .bool false, .bool false, .bool false, .bool false, .bool false, .bool false, .bool false, .bool false, .int .i64 0, .bool false, .bool false, .bool false, .bool false, .bool false, .bool false, .bool false, .bool false, .slice none 0 0]), 42, 160) := by kernel_rfl
theorem fa203_0 (b o : Nat) (w : World) : (Instr.fieldAt 203 (.pointer (some ⟨b, o, none⟩)) 0).run Try.prog w = .ok (.pointer (some ⟨b, o, none⟩)) w := by kernel_rfl
theorem fa203_1 (b o : Nat) (w : World) : (Instr.fieldAt 203 (.pointer (some ⟨b, o, none⟩)) 1).run Try.prog w = .ok (.pointer (some ⟨b, o + 41, none⟩)) w := by kernel_rfl
theorem inf205 : (Try.prog.info? 205).map (·.size) = some 1 := by kernel_rfl
theorem inf206 : (Try.prog.info? 206).map (·.size) = some 1 := by kernel_rfl
theorem inf207 : (Try.prog.info? 207).map (·.size) = some 1 := by kernel_rfl
theorem inf208 : (Try.prog.info? 208).map (·.size) = some 1 := by kernel_rfl
theorem inf209 : (Try.prog.info? 209).map (·.size) = some 1 := by kernel_rfl
theorem inf210 : (Try.prog.info? 210).map (·.size) = some 1 := by kernel_rfl
theorem inf211 : (Try.prog.info? 211).map (·.size) = some 1 := by kernel_rfl
theorem inf212 : (Try.prog.info? 212).map (·.size) = some 1 := by kernel_rfl
theorem inf213 : (Try.prog.info? 213).map (·.size) = some 1 := by kernel_rfl
theorem inf214 : (Try.prog.info? 214).map (·.size) = some 1 := by kernel_rfl
theorem infz214 : (Try.prog.info? 214).map (fun i => (i.zero, i.size, i.bytes)) = some (some (.pointer none), 1, 8) := by kernel_rfl
theorem inf215 : (Try.prog.info? 215).map (·.size) = some 1 := by kernel_rfl
theorem infz215 : (Try.prog.info? 215).map (fun i => (i.zero, i.size, i.bytes)) = some (some (.int .u64 0), 1, 8) := by kernel_rfl
theorem inf216 : (Try.prog.info? 216).map (·.size) = some 1 := by kernel_rfl
theorem inf217 : (Try.prog.info? 217).map (·.size) = some 1 := by kernel_rfl
theorem inf218 : (Try.prog.info? 218).map (·.size) = some 1 := by kernel_rfl
theorem inf219 : (Try.prog.info? 219).map (·.size) = some 1 := by kernel_rfl
theorem inf220 : (Try.prog.info? 220).map (·.size) = some 1 := by kernel_rfl
theorem inf221 : (Try.prog.info? 221).map (·.size) = some 1 := by kernel_rfl
theorem inf223 : (Try.prog.info? 223).map (·.size) = some 1 := by kernel_rfl
theorem inf224 : (Try.prog.info? 224).map (·.size) = some 1 := by kernel_rfl
theorem inf225 : (Try.prog.info? 225).map (·.size) = some 1 := by kernel_rfl
theorem inf226 : (Try.prog.info? 226).map (·.size) = some 1 := by kernel_rfl
theorem inf227 : (Try.prog.info? 227).map (·.size) = some 1 := by kernel_rfl
theorem inf228 : (Try.prog.info? 228).map (·.size) = some 1 := by kernel_rfl
theorem inf229 : (Try.prog.info? 229).map (·.size) = some 1 := by kernel_rfl
theorem infz229 : (Try.prog.info? 229).map (fun i => (i.zero, i.size, i.bytes)) = some (some (.int .i64 0), 1, 8) := by kernel_rfl
theorem inf231 : (Try.prog.info? 231).map (·.size) = some 1 := by kernel_rfl
theorem inf232 : (Try.prog.info? 232).map (·.size) = some 1 := by kernel_rfl
theorem inf233 : (Try.prog.info? 233).map (·.size) = some 1 := by kernel_rfl
theorem inf235 : (Try.prog.info? 235).map (·.size) = some 1 := by kernel_rfl
theorem inf236 : (Try.prog.info? 236).map (·.size) = some 1 := by kernel_rfl
theorem inf237 : (Try.prog.info? 237).map (·.size) = some 1 := by kernel_rfl
theorem infz237 : (Try.prog.info? 237).map (fun i => (i.zero, i.size, i.bytes)) = some (some (.int .u32 0), 1, 4) := by kernel_rfl
theorem inf238 : (Try.prog.info? 238).map (·.size) = some 1 := by kernel_rfl
theorem inf239 : (Try.prog.info? 239).map (·.size) = some 1 := by kernel_rfl
theorem infz239 : (Try.prog.info? 239).map (fun i => (i.zero, i.size, i.bytes)) = some (some (.int .u64 0), 1, 8) := by kernel_rfl
theorem inf240 : (Try.prog.info? 240).map (·.size) = some 1 := by kernel_rfl
theorem infz240 : (Try.prog.info? 240).map (fun i => (i.zero, i.size, i.bytes)) = some (some (.int .u64 0), 1, 8) := by kernel_rfl
theorem inf241 : (Try.prog.info? 241).map (·.size) = some 1 := by kernel_rfl
theorem inf242 : (Try.prog.info? 242).map (·.size) = some 1 := by kernel_rfl
theorem inf243 : (Try.prog.info? 243).map (·.size) = some 1 := by kernel_rfl
theorem inf244 : (Try.prog.info? 244).map (·.size) = some 1 := by kernel_rfl
theorem inf245 : (Try.prog.info? 245).map (·.size) = some 1 := by kernel_rfl
theorem infz245 : (Try.prog.info? 245).map (fun i => (i.zero, i.size, i.bytes)) = some (some (.pointer none), 1, 8) := by kernel_rfl
theorem inf246 : (Try.prog.info? 246).map (·.size) = some 1 := by kernel_rfl
theorem inf247 : (Try.prog.info? 247).map (·.size) = some 1 := by kernel_rfl
theorem inf248 : (Try.prog.info? 248).map (·.size) = some 4 := by kernel_rfl
theorem fa248_0 (b o : Nat) (w : World) : (Instr.fieldAt 248 (.pointer (some ⟨b, o, none⟩)) 0).run Try.prog w = .ok (.pointer (some ⟨b, o, none⟩)) w := by kernel_rfl
theorem fa248_1 (b o : Nat) (w : World) : (Instr.fieldAt 248 (.pointer (some ⟨b, o, none⟩)) 1).run Try.prog w = .ok (.pointer (some ⟨b, o + 1, none⟩)) w := by kernel_rfl
theorem fa248_2 (b o : Nat) (w : World) : (Instr.fieldAt 248 (.pointer (some ⟨b, o, none⟩)) 2).run Try.prog w = .ok (.pointer (some ⟨b, o + 2, none⟩)) w := by kernel_rfl
theorem fa248_3 (b o : Nat) (w : World) : (Instr.fieldAt 248 (.pointer (some ⟨b, o, none⟩)) 3).run Try.prog w = .ok (.pointer (some ⟨b, o + 3, none⟩)) w := by kernel_rfl
theorem inf249 : (Try.prog.info? 249).map (·.size) = some 4 := by kernel_rfl
theorem fa249_0 (b o : Nat) (w : World) : (Instr.fieldAt 249 (.pointer (some ⟨b, o, none⟩)) 0).run Try.prog w = .ok (.pointer (some ⟨b, o, none⟩)) w := by kernel_rfl
theorem fa249_1 (b o : Nat) (w : World) : (Instr.fieldAt 249 (.pointer (some ⟨b, o, none⟩)) 1).run Try.prog w = .ok (.pointer (some ⟨b, o + 1, none⟩)) w := by kernel_rfl
theorem fa249_2 (b o : Nat) (w : World) : (Instr.fieldAt 249 (.pointer (some ⟨b, o, none⟩)) 2).run Try.prog w = .ok (.pointer (some ⟨b, o + 2, none⟩)) w := by kernel_rfl
theorem fa249_3 (b o : Nat) (w : World) : (Instr.fieldAt 249 (.pointer (some ⟨b, o, none⟩)) 3).run Try.prog w = .ok (.pointer (some ⟨b, o + 3, none⟩)) w := by kernel_rfl
theorem inf250 : (Try.prog.info? 250).map (·.size) = some 0 := by kernel_rfl
theorem infz250 : (Try.prog.info? 250).map (fun i => (i.zero, i.size, i.bytes)) = some (some (.agg #[]), 0, 0) := by kernel_rfl
theorem inf251 : (Try.prog.info? 251).map (·.size) = some 0 := by kernel_rfl
theorem infz251 : (Try.prog.info? 251).map (fun i => (i.zero, i.size, i.bytes)) = some (some (.agg #[]), 0, 0) := by kernel_rfl
theorem inf252 : (Try.prog.info? 252).map (·.size) = some 0 := by kernel_rfl
theorem infz252 : (Try.prog.info? 252).map (fun i => (i.zero, i.size, i.bytes)) = some (some (.agg #[]), 0, 0) := by kernel_rfl
theorem inf253 : (Try.prog.info? 253).map (·.size) = some 1 := by kernel_rfl
theorem inf254 : (Try.prog.info? 254).map (·.size) = some 1 := by kernel_rfl
theorem infz254 : (Try.prog.info? 254).map (fun i => (i.zero, i.size, i.bytes)) = some (some (.int .u8 0), 1, 1) := by kernel_rfl
theorem inf255 : (Try.prog.info? 255).map (·.size) = some 1 := by kernel_rfl
theorem infz255 : (Try.prog.info? 255).map (fun i => (i.zero, i.size, i.bytes)) = some (some (.int .u8 0), 1, 1) := by kernel_rfl
theorem inf256 : (Try.prog.info? 256).map (·.size) = some 1 := by kernel_rfl
theorem inf257 : (Try.prog.info? 257).map (·.size) = some 1 := by kernel_rfl
theorem infz257 : (Try.prog.info? 257).map (fun i => (i.zero, i.size, i.bytes)) = some (some (.pointer none), 1, 8) := by kernel_rfl
theorem inf258 : (Try.prog.info? 258).map (·.size) = some 1 := by kernel_rfl
theorem infz258 : (Try.prog.info? 258).map (fun i => (i.zero, i.size, i.bytes)) = some (some (.int .i32 0), 1, 4) := by kernel_rfl
theorem inf259 : (Try.prog.info? 259).map (·.size) = some 1 := by kernel_rfl
theorem infz259 : (Try.prog.info? 259).map (fun i => (i.zero, i.size, i.bytes)) = some (some (.int .i32 0), 1, 4) := by kernel_rfl
theorem inf260 : (Try.prog.info? 260).map (·.size) = some 11 := by kernel_rfl
theorem fa260_0 (b o : Nat) (w : World) : (Instr.fieldAt 260 (.pointer (some ⟨b, o, none⟩)) 0).run Try.prog w = .ok (.pointer (some ⟨b, o, none⟩)) w := by kernel_rfl
theorem fa260_1 (b o : Nat) (w : World) : (Instr.fieldAt 260 (.pointer (some ⟨b, o, none⟩)) 1).run Try.prog w = .ok (.pointer (some ⟨b, o + 1, none⟩)) w := by kernel_rfl
theorem fa260_2 (b o : Nat) (w : World) : (Instr.fieldAt 260 (.pointer (some ⟨b, o, none⟩)) 2).run Try.prog w = .ok (.pointer (some ⟨b, o + 2, none⟩)) w := by kernel_rfl
theorem fa260_3 (b o : Nat) (w : World) : (Instr.fieldAt 260 (.pointer (some ⟨b, o, none⟩)) 3).run Try.prog w = .ok (.pointer (some ⟨b, o + 3, none⟩)) w := by kernel_rfl
theorem fa260_4 (b o : Nat) (w : World) : (Instr.fieldAt 260 (.pointer (some ⟨b, o, none⟩)) 4).run Try.prog w = .ok (.pointer (some ⟨b, o + 4, none⟩)) w := by kernel_rfl
theorem fa260_5 (b o : Nat) (w : World) : (Instr.fieldAt 260 (.pointer (some ⟨b, o, none⟩)) 5).run Try.prog w = .ok (.pointer (some ⟨b, o + 5, none⟩)) w := by kernel_rfl
theorem fa260_6 (b o : Nat) (w : World) : (Instr.fieldAt 260 (.pointer (some ⟨b, o, none⟩)) 6).run Try.prog w = .ok (.pointer (some ⟨b, o + 6, none⟩)) w := by kernel_rfl
theorem fa260_7 (b o : Nat) (w : World) : (Instr.fieldAt 260 (.pointer (some ⟨b, o, none⟩)) 7).run Try.prog w = .ok (.pointer (some ⟨b, o + 7, none⟩)) w := by kernel_rfl
theorem fa260_8 (b o : Nat) (w : World) : (Instr.fieldAt 260 (.pointer (some ⟨b, o, none⟩)) 8).run Try.prog w = .ok (.pointer (some ⟨b, o + 8, none⟩)) w := by kernel_rfl
theorem fa260_9 (b o : Nat) (w : World) : (Instr.fieldAt 260 (.pointer (some ⟨b, o, none⟩)) 9).run Try.prog w = .ok (.pointer (some ⟨b, o + 9, none⟩)) w := by kernel_rfl
theorem fa260_10 (b o : Nat) (w : World) : (Instr.fieldAt 260 (.pointer (some ⟨b, o, none⟩)) 10).run Try.prog w = .ok (.pointer (some ⟨b, o + 10, none⟩)) w := by kernel_rfl
theorem inf261 : (Try.prog.info? 261).map (·.size) = some 11 := by kernel_rfl
theorem fa261_0 (b o : Nat) (w : World) : (Instr.fieldAt 261 (.pointer (some ⟨b, o, none⟩)) 0).run Try.prog w = .ok (.pointer (some ⟨b, o, none⟩)) w := by kernel_rfl
theorem fa261_1 (b o : Nat) (w : World) : (Instr.fieldAt 261 (.pointer (some ⟨b, o, none⟩)) 1).run Try.prog w = .ok (.pointer (some ⟨b, o + 1, none⟩)) w := by kernel_rfl
theorem fa261_2 (b o : Nat) (w : World) : (Instr.fieldAt 261 (.pointer (some ⟨b, o, none⟩)) 2).run Try.prog w = .ok (.pointer (some ⟨b, o + 2, none⟩)) w := by kernel_rfl
theorem fa261_3 (b o : Nat) (w : World) : (Instr.fieldAt 261 (.pointer (some ⟨b, o, none⟩)) 3).run Try.prog w = .ok (.pointer (some ⟨b, o + 3, none⟩)) w := by kernel_rfl
theorem fa261_4 (b o : Nat) (w : World) : (Instr.fieldAt 261 (.pointer (some ⟨b, o, none⟩)) 4).run Try.prog w = .ok (.pointer (some ⟨b, o + 4, none⟩)) w := by kernel_rfl
theorem fa261_5 (b o : Nat) (w : World) : (Instr.fieldAt 261 (.pointer (some ⟨b, o, none⟩)) 5).run Try.prog w = .ok (.pointer (some ⟨b, o + 5, none⟩)) w := by kernel_rfl
theorem fa261_6 (b o : Nat) (w : World) : (Instr.fieldAt 261 (.pointer (some ⟨b, o, none⟩)) 6).run Try.prog w = .ok (.pointer (some ⟨b, o + 6, none⟩)) w := by kernel_rfl
theorem fa261_7 (b o : Nat) (w : World) : (Instr.fieldAt 261 (.pointer (some ⟨b, o, none⟩)) 7).run Try.prog w = .ok (.pointer (some ⟨b, o + 7, none⟩)) w := by kernel_rfl
theorem fa261_8 (b o : Nat) (w : World) : (Instr.fieldAt 261 (.pointer (some ⟨b, o, none⟩)) 8).run Try.prog w = .ok (.pointer (some ⟨b, o + 8, none⟩)) w := by kernel_rfl
theorem fa261_9 (b o : Nat) (w : World) : (Instr.fieldAt 261 (.pointer (some ⟨b, o, none⟩)) 9).run Try.prog w = .ok (.pointer (some ⟨b, o + 9, none⟩)) w := by kernel_rfl
theorem fa261_10 (b o : Nat) (w : World) : (Instr.fieldAt 261 (.pointer (some ⟨b, o, none⟩)) 10).run Try.prog w = .ok (.pointer (some ⟨b, o + 10, none⟩)) w := by kernel_rfl
theorem inf262 : (Try.prog.info? 262).map (·.size) = some 1 := by kernel_rfl
theorem en2 (args : Array Value) (w : World) : (callFunc 2 args).run Try.prog w = .ok (.enter 2 args) w := enters_of_ Try.func2 (by kernel_rfl) rfl args w
theorem en3 (args : Array Value) (w : World) : (callFunc 3 args).run Try.prog w = .ok (.enter 3 args) w := enters_of_ Try.func3 (by kernel_rfl) rfl args w
theorem en4 (args : Array Value) (w : World) : (callFunc 4 args).run Try.prog w = .ok (.enter 4 args) w := enters_of_ Try.func4 (by kernel_rfl) rfl args w
theorem en5 (args : Array Value) (w : World) : (callFunc 5 args).run Try.prog w = .ok (.enter 5 args) w := enters_of_ Try.func5 (by kernel_rfl) rfl args w
theorem en6 (args : Array Value) (w : World) : (callFunc 6 args).run Try.prog w = .ok (.enter 6 args) w := enters_of_ Try.func6 (by kernel_rfl) rfl args w
theorem en7 (args : Array Value) (w : World) : (callFunc 7 args).run Try.prog w = .ok (.enter 7 args) w := enters_of_ Try.func7 (by kernel_rfl) rfl args w
theorem en8 (args : Array Value) (w : World) : (callFunc 8 args).run Try.prog w = .ok (.enter 8 args) w := enters_of_ Try.func8 (by kernel_rfl) rfl args w
theorem en9 (args : Array Value) (w : World) : (callFunc 9 args).run Try.prog w = .ok (.enter 9 args) w := enters_of_ Try.func9 (by kernel_rfl) rfl args w
theorem en10 (args : Array Value) (w : World) : (callFunc 10 args).run Try.prog w = .ok (.enter 10 args) w := enters_of_ Try.func10 (by kernel_rfl) rfl args w
theorem en11 (args : Array Value) (w : World) : (callFunc 11 args).run Try.prog w = .ok (.enter 11 args) w := enters_of_ Try.func11 (by kernel_rfl) rfl args w
theorem en12 (args : Array Value) (w : World) : (callFunc 12 args).run Try.prog w = .ok (.enter 12 args) w := enters_of_ Try.func12 (by kernel_rfl) rfl args w
theorem en13 (args : Array Value) (w : World) : (callFunc 13 args).run Try.prog w = .ok (.enter 13 args) w := enters_of_ Try.func13 (by kernel_rfl) rfl args w
theorem en14 (args : Array Value) (w : World) : (callFunc 14 args).run Try.prog w = .ok (.enter 14 args) w := enters_of_ Try.func14 (by kernel_rfl) rfl args w
theorem en15 (args : Array Value) (w : World) : (callFunc 15 args).run Try.prog w = .ok (.enter 15 args) w := enters_of_ Try.func15 (by kernel_rfl) rfl args w
theorem en16 (args : Array Value) (w : World) : (callFunc 16 args).run Try.prog w = .ok (.enter 16 args) w := enters_of_ Try.func16 (by kernel_rfl) rfl args w
theorem en17 (args : Array Value) (w : World) : (callFunc 17 args).run Try.prog w = .ok (.enter 17 args) w := enters_of_ Try.func17 (by kernel_rfl) rfl args w
theorem en18 (args : Array Value) (w : World) : (callFunc 18 args).run Try.prog w = .ok (.enter 18 args) w := enters_of_ Try.func18 (by kernel_rfl) rfl args w
theorem en19 (args : Array Value) (w : World) : (callFunc 19 args).run Try.prog w = .ok (.enter 19 args) w := enters_of_ Try.func19 (by kernel_rfl) rfl args w
theorem en20 (args : Array Value) (w : World) : (callFunc 20 args).run Try.prog w = .ok (.enter 20 args) w := enters_of_ Try.func20 (by kernel_rfl) rfl args w
theorem en21 (args : Array Value) (w : World) : (callFunc 21 args).run Try.prog w = .ok (.enter 21 args) w := enters_of_ Try.func21 (by kernel_rfl) rfl args w
theorem en22 (args : Array Value) (w : World) : (callFunc 22 args).run Try.prog w = .ok (.enter 22 args) w := enters_of_ Try.func22 (by kernel_rfl) rfl args w
theorem en23 (args : Array Value) (w : World) : (callFunc 23 args).run Try.prog w = .ok (.enter 23 args) w := enters_of_ Try.func23 (by kernel_rfl) rfl args w
theorem en24 (args : Array Value) (w : World) : (callFunc 24 args).run Try.prog w = .ok (.enter 24 args) w := enters_of_ Try.func24 (by kernel_rfl) rfl args w
theorem en25 (args : Array Value) (w : World) : (callFunc 25 args).run Try.prog w = .ok (.enter 25 args) w := enters_of_ Try.func25 (by kernel_rfl) rfl args w
theorem en26 (args : Array Value) (w : World) : (callFunc 26 args).run Try.prog w = .ok (.enter 26 args) w := enters_of_ Try.func26 (by kernel_rfl) rfl args w
theorem en27 (args : Array Value) (w : World) : (callFunc 27 args).run Try.prog w = .ok (.enter 27 args) w := enters_of_ Try.func27 (by kernel_rfl) rfl args w
theorem en28 (args : Array Value) (w : World) : (callFunc 28 args).run Try.prog w = .ok (.enter 28 args) w := enters_of_ Try.func28 (by kernel_rfl) rfl args w
theorem en29 (args : Array Value) (w : World) : (callFunc 29 args).run Try.prog w = .ok (.enter 29 args) w := enters_of_ Try.func29 (by kernel_rfl) rfl args w
theorem en30 (args : Array Value) (w : World) : (callFunc 30 args).run Try.prog w = .ok (.enter 30 args) w := enters_of_ Try.func30 (by kernel_rfl) rfl args w
theorem en31 (args : Array Value) (w : World) : (callFunc 31 args).run Try.prog w = .ok (.enter 31 args) w := enters_of_ Try.func31 (by kernel_rfl) rfl args w
theorem en32 (args : Array Value) (w : World) : (callFunc 32 args).run Try.prog w = .ok (.enter 32 args) w := enters_of_ Try.func32 (by kernel_rfl) rfl args w
theorem en33 (args : Array Value) (w : World) : (callFunc 33 args).run Try.prog w = .ok (.enter 33 args) w := enters_of_ Try.func33 (by kernel_rfl) rfl args w
theorem en34 (args : Array Value) (w : World) : (callFunc 34 args).run Try.prog w = .ok (.enter 34 args) w := enters_of_ Try.func34 (by kernel_rfl) rfl args w
theorem en35 (args : Array Value) (w : World) : (callFunc 35 args).run Try.prog w = .ok (.enter 35 args) w := enters_of_ Try.func35 (by kernel_rfl) rfl args w
theorem en36 (args : Array Value) (w : World) : (callFunc 36 args).run Try.prog w = .ok (.enter 36 args) w := enters_of_ Try.func36 (by kernel_rfl) rfl args w
theorem en37 (args : Array Value) (w : World) : (callFunc 37 args).run Try.prog w = .ok (.enter 37 args) w := enters_of_ Try.func37 (by kernel_rfl) rfl args w
theorem en38 (args : Array Value) (w : World) : (callFunc 38 args).run Try.prog w = .ok (.enter 38 args) w := enters_of_ Try.func38 (by kernel_rfl) rfl args w
theorem en39 (args : Array Value) (w : World) : (callFunc 39 args).run Try.prog w = .ok (.enter 39 args) w := enters_of_ Try.func39 (by kernel_rfl) rfl args w
theorem en40 (args : Array Value) (w : World) : (callFunc 40 args).run Try.prog w = .ok (.enter 40 args) w := enters_of_ Try.func40 (by kernel_rfl) rfl args w
theorem en41 (args : Array Value) (w : World) : (callFunc 41 args).run Try.prog w = .ok (.enter 41 args) w := enters_of_ Try.func41 (by kernel_rfl) rfl args w
theorem en42 (args : Array Value) (w : World) : (callFunc 42 args).run Try.prog w = .ok (.enter 42 args) w := enters_of_ Try.func42 (by kernel_rfl) rfl args w
theorem en43 (args : Array Value) (w : World) : (callFunc 43 args).run Try.prog w = .ok (.enter 43 args) w := enters_of_ Try.func43 (by kernel_rfl) rfl args w
theorem en44 (args : Array Value) (w : World) : (callFunc 44 args).run Try.prog w = .ok (.enter 44 args) w := enters_of_ Try.func44 (by kernel_rfl) rfl args w
theorem en45 (args : Array Value) (w : World) : (callFunc 45 args).run Try.prog w = .ok (.enter 45 args) w := enters_of_ Try.func45 (by kernel_rfl) rfl args w
theorem en46 (args : Array Value) (w : World) : (callFunc 46 args).run Try.prog w = .ok (.enter 46 args) w := enters_of_ Try.func46 (by kernel_rfl) rfl args w
theorem en47 (args : Array Value) (w : World) : (callFunc 47 args).run Try.prog w = .ok (.enter 47 args) w := enters_of_ Try.func47 (by kernel_rfl) rfl args w
theorem en48 (args : Array Value) (w : World) : (callFunc 48 args).run Try.prog w = .ok (.enter 48 args) w := enters_of_ Try.func48 (by kernel_rfl) rfl args w
theorem en49 (args : Array Value) (w : World) : (callFunc 49 args).run Try.prog w = .ok (.enter 49 args) w := enters_of_ Try.func49 (by kernel_rfl) rfl args w
theorem en50 (args : Array Value) (w : World) : (callFunc 50 args).run Try.prog w = .ok (.enter 50 args) w := enters_of_ Try.func50 (by kernel_rfl) rfl args w
theorem en51 (args : Array Value) (w : World) : (callFunc 51 args).run Try.prog w = .ok (.enter 51 args) w := enters_of_ Try.func51 (by kernel_rfl) rfl args w
theorem en52 (args : Array Value) (w : World) : (callFunc 52 args).run Try.prog w = .ok (.enter 52 args) w := enters_of_ Try.func52 (by kernel_rfl) rfl args w
theorem en53 (args : Array Value) (w : World) : (callFunc 53 args).run Try.prog w = .ok (.enter 53 args) w := enters_of_ Try.func53 (by kernel_rfl) rfl args w
theorem en54 (args : Array Value) (w : World) : (callFunc 54 args).run Try.prog w = .ok (.enter 54 args) w := enters_of_ Try.func54 (by kernel_rfl) rfl args w
theorem en55 (args : Array Value) (w : World) : (callFunc 55 args).run Try.prog w = .ok (.enter 55 args) w := enters_of_ Try.func55 (by kernel_rfl) rfl args w
theorem en56 (args : Array Value) (w : World) : (callFunc 56 args).run Try.prog w = .ok (.enter 56 args) w := enters_of_ Try.func56 (by kernel_rfl) rfl args w
theorem en57 (args : Array Value) (w : World) : (callFunc 57 args).run Try.prog w = .ok (.enter 57 args) w := enters_of_ Try.func57 (by kernel_rfl) rfl args w
theorem en58 (args : Array Value) (w : World) : (callFunc 58 args).run Try.prog w = .ok (.enter 58 args) w := enters_of_ Try.func58 (by kernel_rfl) rfl args w
theorem en59 (args : Array Value) (w : World) : (callFunc 59 args).run Try.prog w = .ok (.enter 59 args) w := enters_of_ Try.func59 (by kernel_rfl) rfl args w
theorem en60 (args : Array Value) (w : World) : (callFunc 60 args).run Try.prog w = .ok (.enter 60 args) w := enters_of_ Try.func60 (by kernel_rfl) rfl args w
theorem en61 (args : Array Value) (w : World) : (callFunc 61 args).run Try.prog w = .ok (.enter 61 args) w := enters_of_ Try.func61 (by kernel_rfl) rfl args w
theorem en62 (args : Array Value) (w : World) : (callFunc 62 args).run Try.prog w = .ok (.enter 62 args) w := enters_of_ Try.func62 (by kernel_rfl) rfl args w
theorem en63 (args : Array Value) (w : World) : (callFunc 63 args).run Try.prog w = .ok (.enter 63 args) w := enters_of_ Try.func63 (by kernel_rfl) rfl args w
theorem en64 (args : Array Value) (w : World) : (callFunc 64 args).run Try.prog w = .ok (.enter 64 args) w := enters_of_ Try.func64 (by kernel_rfl) rfl args w
theorem en65 (args : Array Value) (w : World) : (callFunc 65 args).run Try.prog w = .ok (.enter 65 args) w := enters_of_ Try.func65 (by kernel_rfl) rfl args w
theorem en66 (args : Array Value) (w : World) : (callFunc 66 args).run Try.prog w = .ok (.enter 66 args) w := enters_of_ Try.func66 (by kernel_rfl) rfl args w
theorem en67 (args : Array Value) (w : World) : (callFunc 67 args).run Try.prog w = .ok (.enter 67 args) w := enters_of_ Try.func67 (by kernel_rfl) rfl args w
theorem en68 (args : Array Value) (w : World) : (callFunc 68 args).run Try.prog w = .ok (.enter 68 args) w := enters_of_ Try.func68 (by kernel_rfl) rfl args w
theorem en69 (args : Array Value) (w : World) : (callFunc 69 args).run Try.prog w = .ok (.enter 69 args) w := enters_of_ Try.func69 (by kernel_rfl) rfl args w
theorem en70 (args : Array Value) (w : World) : (callFunc 70 args).run Try.prog w = .ok (.enter 70 args) w := enters_of_ Try.func70 (by kernel_rfl) rfl args w
theorem en71 (args : Array Value) (w : World) : (callFunc 71 args).run Try.prog w = .ok (.enter 71 args) w := enters_of_ Try.func71 (by kernel_rfl) rfl args w
theorem en72 (args : Array Value) (w : World) : (callFunc 72 args).run Try.prog w = .ok (.enter 72 args) w := enters_of_ Try.func72 (by kernel_rfl) rfl args w
theorem en73 (args : Array Value) (w : World) : (callFunc 73 args).run Try.prog w = .ok (.enter 73 args) w := enters_of_ Try.func73 (by kernel_rfl) rfl args w
theorem en74 (args : Array Value) (w : World) : (callFunc 74 args).run Try.prog w = .ok (.enter 74 args) w := enters_of_ Try.func74 (by kernel_rfl) rfl args w
theorem en75 (args : Array Value) (w : World) : (callFunc 75 args).run Try.prog w = .ok (.enter 75 args) w := enters_of_ Try.func75 (by kernel_rfl) rfl args w
theorem en76 (args : Array Value) (w : World) : (callFunc 76 args).run Try.prog w = .ok (.enter 76 args) w := enters_of_ Try.func76 (by kernel_rfl) rfl args w
theorem en77 (args : Array Value) (w : World) : (callFunc 77 args).run Try.prog w = .ok (.enter 77 args) w := enters_of_ Try.func77 (by kernel_rfl) rfl args w
theorem en78 (args : Array Value) (w : World) : (callFunc 78 args).run Try.prog w = .ok (.enter 78 args) w := enters_of_ Try.func78 (by kernel_rfl) rfl args w
theorem en79 (args : Array Value) (w : World) : (callFunc 79 args).run Try.prog w = .ok (.enter 79 args) w := enters_of_ Try.func79 (by kernel_rfl) rfl args w
theorem en80 (args : Array Value) (w : World) : (callFunc 80 args).run Try.prog w = .ok (.enter 80 args) w := enters_of_ Try.func80 (by kernel_rfl) rfl args w
theorem en81 (args : Array Value) (w : World) : (callFunc 81 args).run Try.prog w = .ok (.enter 81 args) w := enters_of_ Try.func81 (by kernel_rfl) rfl args w
theorem en82 (args : Array Value) (w : World) : (callFunc 82 args).run Try.prog w = .ok (.enter 82 args) w := enters_of_ Try.func82 (by kernel_rfl) rfl args w
theorem en83 (args : Array Value) (w : World) : (callFunc 83 args).run Try.prog w = .ok (.enter 83 args) w := enters_of_ Try.func83 (by kernel_rfl) rfl args w
theorem en84 (args : Array Value) (w : World) : (callFunc 84 args).run Try.prog w = .ok (.enter 84 args) w := enters_of_ Try.func84 (by kernel_rfl) rfl args w
theorem en85 (args : Array Value) (w : World) : (callFunc 85 args).run Try.prog w = .ok (.enter 85 args) w := enters_of_ Try.func85 (by kernel_rfl) rfl args w
theorem en86 (args : Array Value) (w : World) : (callFunc 86 args).run Try.prog w = .ok (.enter 86 args) w := enters_of_ Try.func86 (by kernel_rfl) rfl args w
theorem en87 (args : Array Value) (w : World) : (callFunc 87 args).run Try.prog w = .ok (.enter 87 args) w := enters_of_ Try.func87 (by kernel_rfl) rfl args w
theorem en88 (args : Array Value) (w : World) : (callFunc 88 args).run Try.prog w = .ok (.enter 88 args) w := enters_of_ Try.func88 (by kernel_rfl) rfl args w
theorem en89 (args : Array Value) (w : World) : (callFunc 89 args).run Try.prog w = .ok (.enter 89 args) w := enters_of_ Try.func89 (by kernel_rfl) rfl args w
theorem en90 (args : Array Value) (w : World) : (callFunc 90 args).run Try.prog w = .ok (.enter 90 args) w := enters_of_ Try.func90 (by kernel_rfl) rfl args w
theorem en91 (args : Array Value) (w : World) : (callFunc 91 args).run Try.prog w = .ok (.enter 91 args) w := enters_of_ Try.func91 (by kernel_rfl) rfl args w
theorem en92 (args : Array Value) (w : World) : (callFunc 92 args).run Try.prog w = .ok (.enter 92 args) w := enters_of_ Try.func92 (by kernel_rfl) rfl args w
theorem en93 (args : Array Value) (w : World) : (callFunc 93 args).run Try.prog w = .ok (.enter 93 args) w := enters_of_ Try.func93 (by kernel_rfl) rfl args w
theorem en94 (args : Array Value) (w : World) : (callFunc 94 args).run Try.prog w = .ok (.enter 94 args) w := enters_of_ Try.func94 (by kernel_rfl) rfl args w
theorem en95 (args : Array Value) (w : World) : (callFunc 95 args).run Try.prog w = .ok (.enter 95 args) w := enters_of_ Try.func95 (by kernel_rfl) rfl args w
theorem en96 (args : Array Value) (w : World) : (callFunc 96 args).run Try.prog w = .ok (.enter 96 args) w := enters_of_ Try.func96 (by kernel_rfl) rfl args w
theorem en97 (args : Array Value) (w : World) : (callFunc 97 args).run Try.prog w = .ok (.enter 97 args) w := enters_of_ Try.func97 (by kernel_rfl) rfl args w
theorem en98 (args : Array Value) (w : World) : (callFunc 98 args).run Try.prog w = .ok (.enter 98 args) w := enters_of_ Try.func98 (by kernel_rfl) rfl args w
theorem en99 (args : Array Value) (w : World) : (callFunc 99 args).run Try.prog w = .ok (.enter 99 args) w := enters_of_ Try.func99 (by kernel_rfl) rfl args w
theorem en100 (args : Array Value) (w : World) : (callFunc 100 args).run Try.prog w = .ok (.enter 100 args) w := enters_of_ Try.func100 (by kernel_rfl) rfl args w
theorem en101 (args : Array Value) (w : World) : (callFunc 101 args).run Try.prog w = .ok (.enter 101 args) w := enters_of_ Try.func101 (by kernel_rfl) rfl args w
theorem en102 (args : Array Value) (w : World) : (callFunc 102 args).run Try.prog w = .ok (.enter 102 args) w := enters_of_ Try.func102 (by kernel_rfl) rfl args w
theorem en103 (args : Array Value) (w : World) : (callFunc 103 args).run Try.prog w = .ok (.enter 103 args) w := enters_of_ Try.func103 (by kernel_rfl) rfl args w
theorem en104 (args : Array Value) (w : World) : (callFunc 104 args).run Try.prog w = .ok (.enter 104 args) w := enters_of_ Try.func104 (by kernel_rfl) rfl args w
theorem en105 (args : Array Value) (w : World) : (callFunc 105 args).run Try.prog w = .ok (.enter 105 args) w := enters_of_ Try.func105 (by kernel_rfl) rfl args w
theorem en106 (args : Array Value) (w : World) : (callFunc 106 args).run Try.prog w = .ok (.enter 106 args) w := enters_of_ Try.func106 (by kernel_rfl) rfl args w
theorem en107 (args : Array Value) (w : World) : (callFunc 107 args).run Try.prog w = .ok (.enter 107 args) w := enters_of_ Try.func107 (by kernel_rfl) rfl args w
theorem en108 (args : Array Value) (w : World) : (callFunc 108 args).run Try.prog w = .ok (.enter 108 args) w := enters_of_ Try.func108 (by kernel_rfl) rfl args w
theorem en109 (args : Array Value) (w : World) : (callFunc 109 args).run Try.prog w = .ok (.enter 109 args) w := enters_of_ Try.func109 (by kernel_rfl) rfl args w
theorem en110 (args : Array Value) (w : World) : (callFunc 110 args).run Try.prog w = .ok (.enter 110 args) w := enters_of_ Try.func110 (by kernel_rfl) rfl args w
theorem en111 (args : Array Value) (w : World) : (callFunc 111 args).run Try.prog w = .ok (.enter 111 args) w := enters_of_ Try.func111 (by kernel_rfl) rfl args w
theorem en112 (args : Array Value) (w : World) : (callFunc 112 args).run Try.prog w = .ok (.enter 112 args) w := enters_of_ Try.func112 (by kernel_rfl) rfl args w
theorem en113 (args : Array Value) (w : World) : (callFunc 113 args).run Try.prog w = .ok (.enter 113 args) w := enters_of_ Try.func113 (by kernel_rfl) rfl args w
theorem en114 (args : Array Value) (w : World) : (callFunc 114 args).run Try.prog w = .ok (.enter 114 args) w := enters_of_ Try.func114 (by kernel_rfl) rfl args w
theorem en115 (args : Array Value) (w : World) : (callFunc 115 args).run Try.prog w = .ok (.enter 115 args) w := enters_of_ Try.func115 (by kernel_rfl) rfl args w
theorem en116 (args : Array Value) (w : World) : (callFunc 116 args).run Try.prog w = .ok (.enter 116 args) w := enters_of_ Try.func116 (by kernel_rfl) rfl args w
theorem en117 (args : Array Value) (w : World) : (callFunc 117 args).run Try.prog w = .ok (.enter 117 args) w := enters_of_ Try.func117 (by kernel_rfl) rfl args w
theorem en118 (args : Array Value) (w : World) : (callFunc 118 args).run Try.prog w = .ok (.enter 118 args) w := enters_of_ Try.func118 (by kernel_rfl) rfl args w
theorem en119 (args : Array Value) (w : World) : (callFunc 119 args).run Try.prog w = .ok (.enter 119 args) w := enters_of_ Try.func119 (by kernel_rfl) rfl args w
theorem en120 (args : Array Value) (w : World) : (callFunc 120 args).run Try.prog w = .ok (.enter 120 args) w := enters_of_ Try.func120 (by kernel_rfl) rfl args w
theorem en121 (args : Array Value) (w : World) : (callFunc 121 args).run Try.prog w = .ok (.enter 121 args) w := enters_of_ Try.func121 (by kernel_rfl) rfl args w
theorem en122 (args : Array Value) (w : World) : (callFunc 122 args).run Try.prog w = .ok (.enter 122 args) w := enters_of_ Try.func122 (by kernel_rfl) rfl args w
theorem en123 (args : Array Value) (w : World) : (callFunc 123 args).run Try.prog w = .ok (.enter 123 args) w := enters_of_ Try.func123 (by kernel_rfl) rfl args w
theorem en124 (args : Array Value) (w : World) : (callFunc 124 args).run Try.prog w = .ok (.enter 124 args) w := enters_of_ Try.func124 (by kernel_rfl) rfl args w
theorem en125 (args : Array Value) (w : World) : (callFunc 125 args).run Try.prog w = .ok (.enter 125 args) w := enters_of_ Try.func125 (by kernel_rfl) rfl args w
theorem en126 (args : Array Value) (w : World) : (callFunc 126 args).run Try.prog w = .ok (.enter 126 args) w := enters_of_ Try.func126 (by kernel_rfl) rfl args w
theorem en127 (args : Array Value) (w : World) : (callFunc 127 args).run Try.prog w = .ok (.enter 127 args) w := enters_of_ Try.func127 (by kernel_rfl) rfl args w
theorem en128 (args : Array Value) (w : World) : (callFunc 128 args).run Try.prog w = .ok (.enter 128 args) w := enters_of_ Try.func128 (by kernel_rfl) rfl args w
theorem en129 (args : Array Value) (w : World) : (callFunc 129 args).run Try.prog w = .ok (.enter 129 args) w := enters_of_ Try.func129 (by kernel_rfl) rfl args w
theorem en130 (args : Array Value) (w : World) : (callFunc 130 args).run Try.prog w = .ok (.enter 130 args) w := enters_of_ Try.func130 (by kernel_rfl) rfl args w
theorem en131 (args : Array Value) (w : World) : (callFunc 131 args).run Try.prog w = .ok (.enter 131 args) w := enters_of_ Try.func131 (by kernel_rfl) rfl args w
theorem en132 (args : Array Value) (w : World) : (callFunc 132 args).run Try.prog w = .ok (.enter 132 args) w := enters_of_ Try.func132 (by kernel_rfl) rfl args w
theorem en133 (args : Array Value) (w : World) : (callFunc 133 args).run Try.prog w = .ok (.enter 133 args) w := enters_of_ Try.func133 (by kernel_rfl) rfl args w
theorem en134 (args : Array Value) (w : World) : (callFunc 134 args).run Try.prog w = .ok (.enter 134 args) w := enters_of_ Try.func134 (by kernel_rfl) rfl args w
theorem en135 (args : Array Value) (w : World) : (callFunc 135 args).run Try.prog w = .ok (.enter 135 args) w := enters_of_ Try.func135 (by kernel_rfl) rfl args w
theorem en136 (args : Array Value) (w : World) : (callFunc 136 args).run Try.prog w = .ok (.enter 136 args) w := enters_of_ Try.func136 (by kernel_rfl) rfl args w
theorem en137 (args : Array Value) (w : World) : (callFunc 137 args).run Try.prog w = .ok (.enter 137 args) w := enters_of_ Try.func137 (by kernel_rfl) rfl args w
theorem en138 (args : Array Value) (w : World) : (callFunc 138 args).run Try.prog w = .ok (.enter 138 args) w := enters_of_ Try.func138 (by kernel_rfl) rfl args w
theorem en139 (args : Array Value) (w : World) : (callFunc 139 args).run Try.prog w = .ok (.enter 139 args) w := enters_of_ Try.func139 (by kernel_rfl) rfl args w
theorem en140 (args : Array Value) (w : World) : (callFunc 140 args).run Try.prog w = .ok (.enter 140 args) w := enters_of_ Try.func140 (by kernel_rfl) rfl args w
theorem en141 (args : Array Value) (w : World) : (callFunc 141 args).run Try.prog w = .ok (.enter 141 args) w := enters_of_ Try.func141 (by kernel_rfl) rfl args w
theorem en142 (args : Array Value) (w : World) : (callFunc 142 args).run Try.prog w = .ok (.enter 142 args) w := enters_of_ Try.func142 (by kernel_rfl) rfl args w
theorem en143 (args : Array Value) (w : World) : (callFunc 143 args).run Try.prog w = .ok (.enter 143 args) w := enters_of_ Try.func143 (by kernel_rfl) rfl args w
theorem en144 (args : Array Value) (w : World) : (callFunc 144 args).run Try.prog w = .ok (.enter 144 args) w := enters_of_ Try.func144 (by kernel_rfl) rfl args w
theorem en145 (args : Array Value) (w : World) : (callFunc 145 args).run Try.prog w = .ok (.enter 145 args) w := enters_of_ Try.func145 (by kernel_rfl) rfl args w
theorem en146 (args : Array Value) (w : World) : (callFunc 146 args).run Try.prog w = .ok (.enter 146 args) w := enters_of_ Try.func146 (by kernel_rfl) rfl args w
theorem en147 (args : Array Value) (w : World) : (callFunc 147 args).run Try.prog w = .ok (.enter 147 args) w := enters_of_ Try.func147 (by kernel_rfl) rfl args w
theorem en148 (args : Array Value) (w : World) : (callFunc 148 args).run Try.prog w = .ok (.enter 148 args) w := enters_of_ Try.func148 (by kernel_rfl) rfl args w
theorem en149 (args : Array Value) (w : World) : (callFunc 149 args).run Try.prog w = .ok (.enter 149 args) w := enters_of_ Try.func149 (by kernel_rfl) rfl args w
theorem en150 (args : Array Value) (w : World) : (callFunc 150 args).run Try.prog w = .ok (.enter 150 args) w := enters_of_ Try.func150 (by kernel_rfl) rfl args w
theorem en151 (args : Array Value) (w : World) : (callFunc 151 args).run Try.prog w = .ok (.enter 151 args) w := enters_of_ Try.func151 (by kernel_rfl) rfl args w
theorem en152 (args : Array Value) (w : World) : (callFunc 152 args).run Try.prog w = .ok (.enter 152 args) w := enters_of_ Try.func152 (by kernel_rfl) rfl args w
theorem en153 (args : Array Value) (w : World) : (callFunc 153 args).run Try.prog w = .ok (.enter 153 args) w := enters_of_ Try.func153 (by kernel_rfl) rfl args w
theorem en154 (args : Array Value) (w : World) : (callFunc 154 args).run Try.prog w = .ok (.enter 154 args) w := enters_of_ Try.func154 (by kernel_rfl) rfl args w
theorem en155 (args : Array Value) (w : World) : (callFunc 155 args).run Try.prog w = .ok (.enter 155 args) w := enters_of_ Try.func155 (by kernel_rfl) rfl args w
theorem en156 (args : Array Value) (w : World) : (callFunc 156 args).run Try.prog w = .ok (.enter 156 args) w := enters_of_ Try.func156 (by kernel_rfl) rfl args w
theorem en157 (args : Array Value) (w : World) : (callFunc 157 args).run Try.prog w = .ok (.enter 157 args) w := enters_of_ Try.func157 (by kernel_rfl) rfl args w
theorem en158 (args : Array Value) (w : World) : (callFunc 158 args).run Try.prog w = .ok (.enter 158 args) w := enters_of_ Try.func158 (by kernel_rfl) rfl args w
theorem en159 (args : Array Value) (w : World) : (callFunc 159 args).run Try.prog w = .ok (.enter 159 args) w := enters_of_ Try.func159 (by kernel_rfl) rfl args w
theorem en160 (args : Array Value) (w : World) : (callFunc 160 args).run Try.prog w = .ok (.enter 160 args) w := enters_of_ Try.func160 (by kernel_rfl) rfl args w
theorem en161 (args : Array Value) (w : World) : (callFunc 161 args).run Try.prog w = .ok (.enter 161 args) w := enters_of_ Try.func161 (by kernel_rfl) rfl args w
theorem en162 (args : Array Value) (w : World) : (callFunc 162 args).run Try.prog w = .ok (.enter 162 args) w := enters_of_ Try.func162 (by kernel_rfl) rfl args w
theorem en163 (args : Array Value) (w : World) : (callFunc 163 args).run Try.prog w = .ok (.enter 163 args) w := enters_of_ Try.func163 (by kernel_rfl) rfl args w
theorem en164 (args : Array Value) (w : World) : (callFunc 164 args).run Try.prog w = .ok (.enter 164 args) w := enters_of_ Try.func164 (by kernel_rfl) rfl args w
theorem en165 (args : Array Value) (w : World) : (callFunc 165 args).run Try.prog w = .ok (.enter 165 args) w := enters_of_ Try.func165 (by kernel_rfl) rfl args w
theorem en166 (args : Array Value) (w : World) : (callFunc 166 args).run Try.prog w = .ok (.enter 166 args) w := enters_of_ Try.func166 (by kernel_rfl) rfl args w
theorem en167 (args : Array Value) (w : World) : (callFunc 167 args).run Try.prog w = .ok (.enter 167 args) w := enters_of_ Try.func167 (by kernel_rfl) rfl args w
theorem en168 (args : Array Value) (w : World) : (callFunc 168 args).run Try.prog w = .ok (.enter 168 args) w := enters_of_ Try.func168 (by kernel_rfl) rfl args w
theorem en169 (args : Array Value) (w : World) : (callFunc 169 args).run Try.prog w = .ok (.enter 169 args) w := enters_of_ Try.func169 (by kernel_rfl) rfl args w
theorem en170 (args : Array Value) (w : World) : (callFunc 170 args).run Try.prog w = .ok (.enter 170 args) w := enters_of_ Try.func170 (by kernel_rfl) rfl args w
theorem en171 (args : Array Value) (w : World) : (callFunc 171 args).run Try.prog w = .ok (.enter 171 args) w := enters_of_ Try.func171 (by kernel_rfl) rfl args w
theorem en172 (args : Array Value) (w : World) : (callFunc 172 args).run Try.prog w = .ok (.enter 172 args) w := enters_of_ Try.func172 (by kernel_rfl) rfl args w
theorem en173 (args : Array Value) (w : World) : (callFunc 173 args).run Try.prog w = .ok (.enter 173 args) w := enters_of_ Try.func173 (by kernel_rfl) rfl args w
theorem en174 (args : Array Value) (w : World) : (callFunc 174 args).run Try.prog w = .ok (.enter 174 args) w := enters_of_ Try.func174 (by kernel_rfl) rfl args w
theorem en175 (args : Array Value) (w : World) : (callFunc 175 args).run Try.prog w = .ok (.enter 175 args) w := enters_of_ Try.func175 (by kernel_rfl) rfl args w
theorem en176 (args : Array Value) (w : World) : (callFunc 176 args).run Try.prog w = .ok (.enter 176 args) w := enters_of_ Try.func176 (by kernel_rfl) rfl args w
theorem en177 (args : Array Value) (w : World) : (callFunc 177 args).run Try.prog w = .ok (.enter 177 args) w := enters_of_ Try.func177 (by kernel_rfl) rfl args w
theorem en178 (args : Array Value) (w : World) : (callFunc 178 args).run Try.prog w = .ok (.enter 178 args) w := enters_of_ Try.func178 (by kernel_rfl) rfl args w
theorem en179 (args : Array Value) (w : World) : (callFunc 179 args).run Try.prog w = .ok (.enter 179 args) w := enters_of_ Try.func179 (by kernel_rfl) rfl args w
theorem en180 (args : Array Value) (w : World) : (callFunc 180 args).run Try.prog w = .ok (.enter 180 args) w := enters_of_ Try.func180 (by kernel_rfl) rfl args w
theorem en181 (args : Array Value) (w : World) : (callFunc 181 args).run Try.prog w = .ok (.enter 181 args) w := enters_of_ Try.func181 (by kernel_rfl) rfl args w
theorem en182 (args : Array Value) (w : World) : (callFunc 182 args).run Try.prog w = .ok (.enter 182 args) w := enters_of_ Try.func182 (by kernel_rfl) rfl args w
theorem en183 (args : Array Value) (w : World) : (callFunc 183 args).run Try.prog w = .ok (.enter 183 args) w := enters_of_ Try.func183 (by kernel_rfl) rfl args w
theorem en184 (args : Array Value) (w : World) : (callFunc 184 args).run Try.prog w = .ok (.enter 184 args) w := enters_of_ Try.func184 (by kernel_rfl) rfl args w
theorem en185 (args : Array Value) (w : World) : (callFunc 185 args).run Try.prog w = .ok (.enter 185 args) w := enters_of_ Try.func185 (by kernel_rfl) rfl args w
theorem en186 (args : Array Value) (w : World) : (callFunc 186 args).run Try.prog w = .ok (.enter 186 args) w := enters_of_ Try.func186 (by kernel_rfl) rfl args w
theorem en187 (args : Array Value) (w : World) : (callFunc 187 args).run Try.prog w = .ok (.enter 187 args) w := enters_of_ Try.func187 (by kernel_rfl) rfl args w
theorem en188 (args : Array Value) (w : World) : (callFunc 188 args).run Try.prog w = .ok (.enter 188 args) w := enters_of_ Try.func188 (by kernel_rfl) rfl args w
theorem en189 (args : Array Value) (w : World) : (callFunc 189 args).run Try.prog w = .ok (.enter 189 args) w := enters_of_ Try.func189 (by kernel_rfl) rfl args w
theorem en190 (args : Array Value) (w : World) : (callFunc 190 args).run Try.prog w = .ok (.enter 190 args) w := enters_of_ Try.func190 (by kernel_rfl) rfl args w
theorem en191 (args : Array Value) (w : World) : (callFunc 191 args).run Try.prog w = .ok (.enter 191 args) w := enters_of_ Try.func191 (by kernel_rfl) rfl args w
theorem en192 (args : Array Value) (w : World) : (callFunc 192 args).run Try.prog w = .ok (.enter 192 args) w := enters_of_ Try.func192 (by kernel_rfl) rfl args w
theorem en193 (args : Array Value) (w : World) : (callFunc 193 args).run Try.prog w = .ok (.enter 193 args) w := enters_of_ Try.func193 (by kernel_rfl) rfl args w
theorem en194 (args : Array Value) (w : World) : (callFunc 194 args).run Try.prog w = .ok (.enter 194 args) w := enters_of_ Try.func194 (by kernel_rfl) rfl args w
theorem en195 (args : Array Value) (w : World) : (callFunc 195 args).run Try.prog w = .ok (.enter 195 args) w := enters_of_ Try.func195 (by kernel_rfl) rfl args w
theorem en196 (args : Array Value) (w : World) : (callFunc 196 args).run Try.prog w = .ok (.enter 196 args) w := enters_of_ Try.func196 (by kernel_rfl) rfl args w
theorem en197 (args : Array Value) (w : World) : (callFunc 197 args).run Try.prog w = .ok (.enter 197 args) w := enters_of_ Try.func197 (by kernel_rfl) rfl args w
theorem en198 (args : Array Value) (w : World) : (callFunc 198 args).run Try.prog w = .ok (.enter 198 args) w := enters_of_ Try.func198 (by kernel_rfl) rfl args w
theorem en199 (args : Array Value) (w : World) : (callFunc 199 args).run Try.prog w = .ok (.enter 199 args) w := enters_of_ Try.func199 (by kernel_rfl) rfl args w
theorem en200 (args : Array Value) (w : World) : (callFunc 200 args).run Try.prog w = .ok (.enter 200 args) w := enters_of_ Try.func200 (by kernel_rfl) rfl args w
theorem en201 (args : Array Value) (w : World) : (callFunc 201 args).run Try.prog w = .ok (.enter 201 args) w := enters_of_ Try.func201 (by kernel_rfl) rfl args w
theorem en202 (args : Array Value) (w : World) : (callFunc 202 args).run Try.prog w = .ok (.enter 202 args) w := enters_of_ Try.func202 (by kernel_rfl) rfl args w
theorem en203 (args : Array Value) (w : World) : (callFunc 203 args).run Try.prog w = .ok (.enter 203 args) w := enters_of_ Try.func203 (by kernel_rfl) rfl args w
theorem en204 (args : Array Value) (w : World) : (callFunc 204 args).run Try.prog w = .ok (.enter 204 args) w := enters_of_ Try.func204 (by kernel_rfl) rfl args w
theorem en205 (args : Array Value) (w : World) : (callFunc 205 args).run Try.prog w = .ok (.enter 205 args) w := enters_of_ Try.func205 (by kernel_rfl) rfl args w
theorem en206 (args : Array Value) (w : World) : (callFunc 206 args).run Try.prog w = .ok (.enter 206 args) w := enters_of_ Try.func206 (by kernel_rfl) rfl args w
theorem en207 (args : Array Value) (w : World) : (callFunc 207 args).run Try.prog w = .ok (.enter 207 args) w := enters_of_ Try.func207 (by kernel_rfl) rfl args w
theorem en208 (args : Array Value) (w : World) : (callFunc 208 args).run Try.prog w = .ok (.enter 208 args) w := enters_of_ Try.func208 (by kernel_rfl) rfl args w
theorem en209 (args : Array Value) (w : World) : (callFunc 209 args).run Try.prog w = .ok (.enter 209 args) w := enters_of_ Try.func209 (by kernel_rfl) rfl args w
theorem en210 (args : Array Value) (w : World) : (callFunc 210 args).run Try.prog w = .ok (.enter 210 args) w := enters_of_ Try.func210 (by kernel_rfl) rfl args w
theorem mixed : Try.prog.follows .mixedOrders = true := by kernel_rfl
end Go.Proofs.Ytkjlafpafmihaaa
