/-
  the code of this seat for the evaluator, as a program has printed it.
-/
import Derived.Test.YtnmkopfgfndhaaaGreatDoorIsoP5
import Derived.Test.YtnmkopfgfndhaaaGreatDoorIsoP7
import Derived.Test.YtnmkopfgfndhaaaGreatDoorProg
import Derived.KernelRfl
set_option linter.unusedSimpArgs false
set_option linter.unusedVariables false

section
set_option maxRecDepth 100000
namespace Go.Iso.Gen
set_option linter.defProp false
abbrev OPS := List (Sg × List IOp)
theorem J {a b : Prop} (h : a) (k : b) : a ∧ b := ⟨h, k⟩
/- 3: gansey/ganseylaw34.TracesFree -/
def F3p0 : OPS := [(.seq, [⟨some 2, .box 24 5, [.tmp 0], none, true, 0, 0⟩, ⟨some 3, .box 24 5, [.tmp 1], none, true, 0, 0⟩, ⟨some 4, .move, [.val (.bool false)], none, true, 0, 0⟩])]
def F3o0 : IC := .ops F3p0
def F3p1 : OPS := [(.free, [⟨some 10, .load (some 5), [.tmp 2], none, false, 0, 0⟩, ⟨some 11, .call, [.val (.fn 5 [] []), .tmp 10], none, false, 1, 1⟩, ⟨some 12, .load (some 5), [.tmp 3], none, false, 2, 0⟩, ⟨some 13, .call, [.val (.fn 5 [] []), .tmp 12], none, false, 3, 7⟩, ⟨some 5, .alloc 27 6 [.int .u8 0, .bool false, .bool false, .int .i64 0, .int .i64 0, .nilSlice], [], none, false, 4, 0⟩, ⟨some 6, .alloc 27 6 [.int .u8 0, .bool false, .bool false, .int .i64 0, .int .i64 0, .nilSlice], [], none, false, 5, 0⟩]), (.seq, [⟨none, .store 6, [.tmp 5, .tmp 11], none, true, 6, 63⟩]), (.seq, [⟨none, .store 6, [.tmp 6, .tmp 13], none, true, 7, 127⟩])]
def F3o1 : IC := .ops F3p1
def F3p2 : OPS := [(.seq, [⟨some 7, .move, [.val (.bool true)], none, true, 0, 0⟩])]
def F3o2 : IC := .ops F3p2
def F3p3 : OPS := [(.seq, [⟨some 14, .fieldAddr 0, [.tmp 5], none, true, 0, 0⟩, ⟨some 15, .load none, [.tmp 14], none, true, 0, 0⟩, ⟨some 16, .fieldAddr 0, [.tmp 6], none, true, 0, 0⟩, ⟨some 17, .load none, [.tmp 16], none, true, 0, 0⟩, ⟨some 18, .bin .eql, [.tmp 15, .tmp 17], none, true, 0, 0⟩, ⟨some 19, .move, [.tmp 18], none, true, 0, 0⟩, ⟨some 20, .fieldAddr 0, [.tmp 5], some (19, true), true, 0, 0⟩, ⟨some 21, .load none, [.tmp 20], some (19, true), true, 0, 0⟩, ⟨some 22, .bin .gtr, [.tmp 21, .val (.int .u8 0)], some (19, true), true, 0, 0⟩, ⟨some 23, .pick, [.tmp 19, .tmp 22, .val (.bool false)], none, true, 0, 0⟩, ⟨some 24, .move, [.tmp 23], none, true, 0, 0⟩, ⟨some 25, .fieldAddr 1, [.tmp 5], some (24, false), true, 0, 0⟩, ⟨some 26, .load none, [.tmp 25], some (24, false), true, 0, 0⟩, ⟨some 27, .move, [.tmp 26], some (24, false), true, 0, 0⟩, ⟨some 28, .fieldAddr 1, [.tmp 6], some (27, true), true, 0, 0⟩, ⟨some 29, .load none, [.tmp 28], some (27, true), true, 0, 0⟩, ⟨some 30, .pick, [.tmp 27, .tmp 29, .val (.bool false)], some (24, false), true, 0, 0⟩, ⟨some 31, .pick, [.tmp 24, .val (.bool true), .tmp 30], none, true, 0, 0⟩, ⟨some 32, .move, [.tmp 31], none, true, 0, 0⟩, ⟨some 33, .fieldAddr 1, [.tmp 5], some (32, false), true, 0, 0⟩, ⟨some 34, .load none, [.tmp 33], some (32, false), true, 0, 0⟩, ⟨some 35, .move, [.tmp 34], some (32, false), true, 0, 0⟩, ⟨some 36, .fieldAddr 2, [.tmp 6], some (35, true), true, 0, 0⟩, ⟨some 37, .load none, [.tmp 36], some (35, true), true, 0, 0⟩, ⟨some 38, .un .not, [.tmp 37], some (35, true), true, 0, 0⟩, ⟨some 39, .pick, [.tmp 35, .tmp 38, .val (.bool false)], some (32, false), true, 0, 0⟩, ⟨some 40, .pick, [.tmp 32, .val (.bool true), .tmp 39], none, true, 0, 0⟩, ⟨some 41, .move, [.tmp 40], none, true, 0, 0⟩, ⟨some 42, .fieldAddr 1, [.tmp 6], some (41, false), true, 0, 0⟩, ⟨some 43, .load none, [.tmp 42], some (41, false), true, 0, 0⟩, ⟨some 44, .move, [.tmp 43], some (41, false), true, 0, 0⟩, ⟨some 45, .fieldAddr 2, [.tmp 5], some (44, true), true, 0, 0⟩, ⟨some 46, .load none, [.tmp 45], some (44, true), true, 0, 0⟩, ⟨some 47, .un .not, [.tmp 46], some (44, true), true, 0, 0⟩, ⟨some 48, .pick, [.tmp 44, .tmp 47, .val (.bool false)], some (41, false), true, 0, 0⟩, ⟨some 49, .pick, [.tmp 41, .val (.bool true), .tmp 48], none, true, 0, 0⟩])]
def F3o3 : IC := .ops F3p3
def F3p4 : OPS := [(.seq, [⟨some 7, .move, [.val (.bool false)], none, true, 0, 0⟩])]
def F3o4 : IC := .ops F3p4
def F3p5 : OPS := [(.seq, [⟨some 8, .move, [.val (.int .i64 0)], none, true, 0, 0⟩])]
def F3o5 : IC := .ops F3p5
def F3p6 : OPS := [(.seq, [⟨some 50, .move, [.tmp 8], none, true, 0, 0⟩, ⟨some 51, .fieldAddr 5, [.tmp 5], none, true, 0, 0⟩, ⟨some 52, .load none, [.tmp 51], none, true, 0, 0⟩, ⟨some 53, .lenSl, [.tmp 52], none, true, 0, 0⟩, ⟨some 54, .bin .lss, [.tmp 50, .tmp 53], none, true, 0, 0⟩])]
def F3o6 : IC := .ops F3p6
def F3p7 : OPS := [(.seq, [⟨some 57, .move, [.tmp 7], none, true, 0, 0⟩]), (.seq, [⟨some 58, .move, [.tmp 57], none, true, 1, 1⟩]), (.free, [⟨some 59, .fieldAddr 5, [.tmp 5], some (58, true), false, 2, 3⟩, ⟨some 60, .load none, [.tmp 59], some (58, true), false, 3, 7⟩, ⟨some 61, .move, [.tmp 8], some (58, true), false, 4, 3⟩, ⟨some 62, .idxSl 1, [.tmp 60, .tmp 61], some (58, true), false, 5, 31⟩, ⟨some 63, .load none, [.tmp 62], some (58, true), false, 6, 63⟩, ⟨some 64, .fieldAddr 3, [.tmp 6], some (58, true), false, 7, 3⟩, ⟨some 65, .load none, [.tmp 64], some (58, true), false, 8, 131⟩]), (.seq, [⟨some 66, .bin .lss, [.tmp 63, .tmp 65], some (58, true), true, 9, 511⟩]), (.seq, [⟨some 67, .move, [.tmp 66], some (58, true), true, 10, 1023⟩]), (.free, [⟨some 68, .fieldAddr 5, [.tmp 5], some (67, false), false, 11, 2047⟩, ⟨some 69, .load none, [.tmp 68], some (67, false), false, 12, 4095⟩, ⟨some 70, .move, [.tmp 8], some (67, false), false, 13, 2047⟩, ⟨some 71, .idxSl 1, [.tmp 69, .tmp 70], some (67, false), false, 14, 16383⟩, ⟨some 72, .load none, [.tmp 71], some (67, false), false, 15, 32767⟩, ⟨some 73, .fieldAddr 4, [.tmp 6], some (67, false), false, 16, 2047⟩, ⟨some 74, .load none, [.tmp 73], some (67, false), false, 17, 67583⟩]), (.seq, [⟨some 75, .bin .gtr, [.tmp 72, .tmp 74], some (67, false), true, 18, 262143⟩]), (.seq, [⟨some 76, .pick, [.tmp 67, .val (.bool true), .tmp 75], some (58, true), true, 19, 524287⟩]), (.seq, [⟨some 77, .pick, [.tmp 58, .tmp 76, .val (.bool false)], none, true, 20, 1048575⟩]), (.seq, [⟨some 7, .move, [.tmp 77], none, true, 21, 2097151⟩])]
def F3o7 : IC := .ops F3p7
def F3p8 : OPS := [(.seq, [⟨some 55, .move, [.tmp 8], none, true, 0, 0⟩, ⟨some 56, .bin .add, [.tmp 55, .val (.int .i64 1)], none, true, 0, 0⟩, ⟨some 8, .move, [.tmp 56], none, true, 0, 0⟩])]
def F3o8 : IC := .ops F3p8
def F3l9 : IC := .seq (.seq (F3o6) (.cond (.tmp 54) (.skip) (.exit 0))) (.seq (.block 1 (F3o7)) (F3o8))
def F3p10 : OPS := [(.seq, [⟨some 9, .move, [.val (.int .i64 0)], none, true, 0, 0⟩])]
def F3o10 : IC := .ops F3p10
def F3p11 : OPS := [(.seq, [⟨some 78, .move, [.tmp 9], none, true, 0, 0⟩, ⟨some 79, .fieldAddr 5, [.tmp 6], none, true, 0, 0⟩, ⟨some 80, .load none, [.tmp 79], none, true, 0, 0⟩, ⟨some 81, .lenSl, [.tmp 80], none, true, 0, 0⟩, ⟨some 82, .bin .lss, [.tmp 78, .tmp 81], none, true, 0, 0⟩])]
def F3o11 : IC := .ops F3p11
def F3p12 : OPS := [(.seq, [⟨some 85, .move, [.tmp 7], none, true, 0, 0⟩]), (.seq, [⟨some 86, .move, [.tmp 85], none, true, 1, 1⟩]), (.free, [⟨some 87, .fieldAddr 5, [.tmp 6], some (86, true), false, 2, 3⟩, ⟨some 88, .load none, [.tmp 87], some (86, true), false, 3, 7⟩, ⟨some 89, .move, [.tmp 9], some (86, true), false, 4, 3⟩, ⟨some 90, .idxSl 1, [.tmp 88, .tmp 89], some (86, true), false, 5, 31⟩, ⟨some 91, .load none, [.tmp 90], some (86, true), false, 6, 63⟩, ⟨some 92, .fieldAddr 3, [.tmp 5], some (86, true), false, 7, 3⟩, ⟨some 93, .load none, [.tmp 92], some (86, true), false, 8, 131⟩]), (.seq, [⟨some 94, .bin .lss, [.tmp 91, .tmp 93], some (86, true), true, 9, 511⟩]), (.seq, [⟨some 95, .move, [.tmp 94], some (86, true), true, 10, 1023⟩]), (.free, [⟨some 96, .fieldAddr 5, [.tmp 6], some (95, false), false, 11, 2047⟩, ⟨some 97, .load none, [.tmp 96], some (95, false), false, 12, 4095⟩, ⟨some 98, .move, [.tmp 9], some (95, false), false, 13, 2047⟩, ⟨some 99, .idxSl 1, [.tmp 97, .tmp 98], some (95, false), false, 14, 16383⟩, ⟨some 100, .load none, [.tmp 99], some (95, false), false, 15, 32767⟩, ⟨some 101, .fieldAddr 4, [.tmp 5], some (95, false), false, 16, 2047⟩, ⟨some 102, .load none, [.tmp 101], some (95, false), false, 17, 67583⟩]), (.seq, [⟨some 103, .bin .gtr, [.tmp 100, .tmp 102], some (95, false), true, 18, 262143⟩]), (.seq, [⟨some 104, .pick, [.tmp 95, .val (.bool true), .tmp 103], some (86, true), true, 19, 524287⟩]), (.seq, [⟨some 105, .pick, [.tmp 86, .tmp 104, .val (.bool false)], none, true, 20, 1048575⟩]), (.seq, [⟨some 7, .move, [.tmp 105], none, true, 21, 2097151⟩])]
def F3o12 : IC := .ops F3p12
def F3p13 : OPS := [(.seq, [⟨some 83, .move, [.tmp 9], none, true, 0, 0⟩, ⟨some 84, .bin .add, [.tmp 83, .val (.int .i64 1)], none, true, 0, 0⟩, ⟨some 9, .move, [.tmp 84], none, true, 0, 0⟩])]
def F3o13 : IC := .ops F3p13
def F3l14 : IC := .seq (.seq (F3o11) (.cond (.tmp 82) (.skip) (.exit 2))) (.seq (.block 3 (F3o12)) (F3o13))
def F3p15 : OPS := [(.seq, [⟨some 106, .load (some 6), [.tmp 5], none, true, 0, 0⟩, ⟨some 107, .load (some 6), [.tmp 6], none, true, 0, 0⟩, ⟨some 108, .call, [.val (.fn 6 [] []), .tmp 106, .tmp 107], none, true, 0, 0⟩, ⟨some 109, .move, [.tmp 7], none, true, 0, 0⟩, ⟨some 110, .eqBool false, [.tmp 108, .tmp 109], none, true, 0, 0⟩, ⟨some 111, .move, [.tmp 110], none, true, 0, 0⟩, ⟨some 112, .load (some 6), [.tmp 6], some (111, true), true, 0, 0⟩, ⟨some 113, .load (some 6), [.tmp 5], some (111, true), true, 0, 0⟩, ⟨some 114, .call, [.val (.fn 6 [] []), .tmp 112, .tmp 113], some (111, true), true, 0, 0⟩, ⟨some 115, .move, [.tmp 7], some (111, true), true, 0, 0⟩, ⟨some 116, .eqBool false, [.tmp 114, .tmp 115], some (111, true), true, 0, 0⟩, ⟨some 117, .pick, [.tmp 111, .tmp 116, .val (.bool false)], none, true, 0, 0⟩, ⟨some 118, .move, [.tmp 117], none, true, 0, 0⟩, ⟨some 119, .call, [.val (.fn 7 [] [])], some (118, true), true, 0, 0⟩, ⟨some 120, .pick, [.tmp 118, .tmp 119, .val (.bool false)], none, true, 0, 0⟩, ⟨some 4, .move, [.tmp 120], none, true, 0, 0⟩])]
def F3o15 : IC := .ops F3p15
def F3b : IC := .seq (F3o0) (.seq (F3o1) (.seq (F3o2) (.seq (.seq (F3o3) (.cond (.tmp 49) (F3o4) (.skip))) (.seq (.seq (F3o5) (.block 0 (.loop F3l9))) (.seq (.seq (F3o10) (.block 2 (.loop F3l14))) (.seq (F3o15) (.ret)))))))
def F3 : IFn := ⟨121, [(4, none)], F3b⟩
/- 4: gansey/ganseylaw34.TracesCompare -/
def F4p0 : OPS := [(.seq, [⟨some 3, .box 33 4, [.tmp 0], none, true, 0, 0⟩, ⟨some 4, .box 33 4, [.tmp 1], none, true, 0, 0⟩, ⟨some 5, .box 34 2, [.tmp 2], none, true, 0, 0⟩, ⟨some 6, .move, [.val (.bool false)], none, true, 0, 0⟩])]
def F4o0 : IC := .ops F4p0
def F4p1 : OPS := [(.free, [⟨some 10, .load (some 4), [.tmp 3], none, false, 0, 0⟩, ⟨some 11, .idxArrAddr 2 1, [.tmp 5, .val (.int .i64 0)], none, false, 1, 0⟩, ⟨some 12, .load none, [.tmp 11], none, false, 2, 2⟩, ⟨some 13, .bin .rem, [.tmp 12, .val (.int .u8 2)], none, false, 3, 6⟩, ⟨some 14, .call, [.val (.fn 8 [] []), .tmp 10, .tmp 13], none, false, 4, 15⟩, ⟨some 15, .load (some 4), [.tmp 4], none, false, 5, 0⟩, ⟨some 16, .idxArrAddr 2 1, [.tmp 5, .val (.int .i64 1)], none, false, 6, 0⟩, ⟨some 17, .load none, [.tmp 16], none, false, 7, 64⟩, ⟨some 18, .bin .rem, [.tmp 17, .val (.int .u8 2)], none, false, 8, 192⟩, ⟨some 19, .call, [.val (.fn 8 [] []), .tmp 15, .tmp 18], none, false, 9, 511⟩, ⟨some 7, .alloc 41 6 [.int .u8 0, .int .u8 0, .int .u8 0, .int .i64 0, .int .u8 0, .int .i64 0], [], none, false, 10, 0⟩, ⟨some 8, .alloc 41 6 [.int .u8 0, .int .u8 0, .int .u8 0, .int .i64 0, .int .u8 0, .int .i64 0], [], none, false, 11, 0⟩]), (.seq, [⟨none, .store 6, [.tmp 7, .tmp 14], none, true, 12, 4095⟩]), (.seq, [⟨none, .store 6, [.tmp 8, .tmp 19], none, true, 13, 8191⟩])]
def F4o1 : IC := .ops F4p1
def F4p2 : OPS := [(.seq, [⟨some 9, .move, [.val (.int .i64 0)], none, true, 0, 0⟩])]
def F4o2 : IC := .ops F4p2
def F4p3 : OPS := [(.free, [⟨some 20, .load (some 6), [.tmp 7], none, false, 0, 0⟩, ⟨some 21, .call, [.val (.fn 9 [] []), .tmp 20], none, false, 1, 1⟩, ⟨some 22, .load (some 6), [.tmp 8], none, false, 2, 0⟩]), (.seq, [⟨some 23, .call, [.val (.fn 9 [] []), .tmp 22], none, true, 3, 7⟩]), (.seq, [⟨some 24, .bin .lss, [.tmp 21, .tmp 23], none, true, 4, 15⟩])]
def F4o3 : IC := .ops F4p3
def F4p4 : OPS := [(.seq, [⟨some 9, .move, [.val (.int .i64 (-1))], none, true, 0, 0⟩])]
def F4o4 : IC := .ops F4p4
def F4p5 : OPS := [(.free, [⟨some 25, .load (some 6), [.tmp 7], none, false, 0, 0⟩, ⟨some 26, .call, [.val (.fn 9 [] []), .tmp 25], none, false, 1, 1⟩, ⟨some 27, .load (some 6), [.tmp 8], none, false, 2, 0⟩]), (.seq, [⟨some 28, .call, [.val (.fn 9 [] []), .tmp 27], none, true, 3, 7⟩]), (.seq, [⟨some 29, .bin .gtr, [.tmp 26, .tmp 28], none, true, 4, 15⟩])]
def F4o5 : IC := .ops F4p5
def F4p6 : OPS := [(.seq, [⟨some 9, .move, [.val (.int .i64 1)], none, true, 0, 0⟩])]
def F4o6 : IC := .ops F4p6
def F4p7 : OPS := [(.seq, [⟨some 30, .load (some 6), [.tmp 7], none, true, 0, 0⟩, ⟨some 31, .load (some 6), [.tmp 8], none, true, 0, 0⟩, ⟨some 32, .call, [.val (.fn 10 [] []), .tmp 30, .tmp 31], none, true, 0, 0⟩, ⟨some 33, .move, [.tmp 9], none, true, 0, 0⟩, ⟨some 34, .bin .eql, [.tmp 32, .tmp 33], none, true, 0, 0⟩, ⟨some 35, .move, [.tmp 34], none, true, 0, 0⟩, ⟨some 36, .load (some 6), [.tmp 8], some (35, true), true, 0, 0⟩, ⟨some 37, .load (some 6), [.tmp 7], some (35, true), true, 0, 0⟩, ⟨some 38, .call, [.val (.fn 10 [] []), .tmp 36, .tmp 37], some (35, true), true, 0, 0⟩, ⟨some 39, .move, [.tmp 9], some (35, true), true, 0, 0⟩, ⟨some 40, .un .neg, [.tmp 39], some (35, true), true, 0, 0⟩, ⟨some 41, .bin .eql, [.tmp 38, .tmp 40], some (35, true), true, 0, 0⟩, ⟨some 42, .pick, [.tmp 35, .tmp 41, .val (.bool false)], none, true, 0, 0⟩, ⟨some 43, .move, [.tmp 42], none, true, 0, 0⟩, ⟨some 44, .load (some 6), [.tmp 7], some (43, true), true, 0, 0⟩, ⟨some 45, .load (some 6), [.tmp 7], some (43, true), true, 0, 0⟩, ⟨some 46, .call, [.val (.fn 10 [] []), .tmp 44, .tmp 45], some (43, true), true, 0, 0⟩, ⟨some 47, .bin .eql, [.tmp 46, .val (.int .i64 0)], some (43, true), true, 0, 0⟩, ⟨some 48, .pick, [.tmp 43, .tmp 47, .val (.bool false)], none, true, 0, 0⟩, ⟨some 49, .move, [.tmp 48], none, true, 0, 0⟩, ⟨some 50, .call, [.val (.fn 7 [] [])], some (49, true), true, 0, 0⟩, ⟨some 51, .pick, [.tmp 49, .tmp 50, .val (.bool false)], none, true, 0, 0⟩, ⟨some 6, .move, [.tmp 51], none, true, 0, 0⟩])]
def F4o7 : IC := .ops F4p7
def F4b : IC := .seq (F4o0) (.seq (F4o1) (.seq (F4o2) (.seq (.seq (F4o3) (.cond (.tmp 24) (F4o4) (.skip))) (.seq (.seq (F4o5) (.cond (.tmp 29) (F4o6) (.skip))) (.seq (F4o7) (.ret))))))
def F4 : IFn := ⟨52, [(6, none)], F4b⟩
/- 5: (gansey/ganseylaw34.F).Of -/
def F5p0 : OPS := [(.seq, [⟨some 1, .box 24 5, [.tmp 0], none, true, 0, 0⟩, ⟨some 2, .alloc 27 6 [.int .u8 0, .bool false, .bool false, .int .i64 0, .int .i64 0, .nilSlice], [], none, true, 0, 0⟩])]
def F5o0 : IC := .ops F5p0
def F5p1 : OPS := [(.seq, [⟨some 5, .fieldAddr 0, [.tmp 1], none, true, 0, 0⟩, ⟨some 6, .load none, [.tmp 5], none, true, 0, 0⟩, ⟨some 7, .bin .rem, [.tmp 6, .val (.int .u8 4)], none, true, 0, 0⟩, ⟨some 8, .fieldAddr 1, [.tmp 1], none, true, 0, 0⟩, ⟨some 9, .load none, [.tmp 8], none, true, 0, 0⟩, ⟨some 10, .bin .rem, [.tmp 9, .val (.int .u8 5)], none, true, 0, 0⟩, ⟨some 11, .bin .eql, [.tmp 10, .val (.int .u8 1)], none, true, 0, 0⟩, ⟨some 12, .fieldAddr 1, [.tmp 1], none, true, 0, 0⟩, ⟨some 13, .load none, [.tmp 12], none, true, 0, 0⟩, ⟨some 14, .bin .rem, [.tmp 13, .val (.int .u8 5)], none, true, 0, 0⟩, ⟨some 15, .bin .eql, [.tmp 14, .val (.int .u8 2)], none, true, 0, 0⟩, ⟨some 16, .fieldAddr 2, [.tmp 1], none, true, 0, 0⟩, ⟨some 17, .load none, [.tmp 16], none, true, 0, 0⟩, ⟨some 18, .bin .rem, [.tmp 17, .val (.int .u8 40)], none, true, 0, 0⟩, ⟨some 19, .conv .i64, [.tmp 18], none, true, 0, 0⟩, ⟨some 20, .fieldAddr 2, [.tmp 1], none, true, 0, 0⟩, ⟨some 21, .load none, [.tmp 20], none, true, 0, 0⟩, ⟨some 22, .bin .rem, [.tmp 21, .val (.int .u8 40)], none, true, 0, 0⟩, ⟨some 23, .conv .i64, [.tmp 22], none, true, 0, 0⟩, ⟨some 24, .fieldAddr 3, [.tmp 1], none, true, 0, 0⟩, ⟨some 25, .load none, [.tmp 24], none, true, 0, 0⟩, ⟨some 26, .bin .rem, [.tmp 25, .val (.int .u8 9)], none, true, 0, 0⟩, ⟨some 27, .conv .i64, [.tmp 26], none, true, 0, 0⟩, ⟨some 28, .bin .add, [.tmp 23, .tmp 27], none, true, 0, 0⟩, ⟨some 29, .bin .sub, [.tmp 28, .val (.int .i64 1)], none, true, 0, 0⟩, ⟨some 30, .build [.int .u8 0, .bool false, .bool false, .int .i64 0, .int .i64 0, .nilSlice] [(0, 1), (1, 1), (2, 1), (3, 1), (4, 1)], [.tmp 7, .tmp 11, .tmp 15, .tmp 19, .tmp 29], none, true, 0, 0⟩, ⟨some 3, .alloc 27 6 [.int .u8 0, .bool false, .bool false, .int .i64 0, .int .i64 0, .nilSlice], [], none, true, 0, 0⟩, ⟨none, .store 6, [.tmp 3, .tmp 30], none, true, 0, 0⟩])]
def F5o1 : IC := .ops F5p1
def F5p2 : OPS := [(.seq, [⟨some 4, .move, [.val (.int .i64 0)], none, true, 0, 0⟩])]
def F5o2 : IC := .ops F5p2
def F5p3 : OPS := [(.seq, [⟨some 31, .move, [.tmp 4], none, true, 0, 0⟩, ⟨some 32, .fieldAddr 4, [.tmp 1], none, true, 0, 0⟩, ⟨some 33, .load none, [.tmp 32], none, true, 0, 0⟩, ⟨some 34, .lenSl, [.tmp 33], none, true, 0, 0⟩, ⟨some 35, .bin .lss, [.tmp 31, .tmp 34], none, true, 0, 0⟩, ⟨some 36, .move, [.tmp 35], none, true, 0, 0⟩, ⟨some 37, .move, [.tmp 4], some (36, true), true, 0, 0⟩, ⟨some 38, .bin .lss, [.tmp 37, .val (.int .i64 4)], some (36, true), true, 0, 0⟩, ⟨some 39, .pick, [.tmp 36, .tmp 38, .val (.bool false)], none, true, 0, 0⟩])]
def F5o3 : IC := .ops F5p3
def F5p4 : OPS := [(.free, [⟨some 42, .fieldAddr 5, [.tmp 3], none, false, 0, 0⟩, ⟨some 43, .load none, [.tmp 42], none, false, 1, 1⟩, ⟨some 44, .fieldAddr 4, [.tmp 1], none, false, 2, 0⟩, ⟨some 45, .load none, [.tmp 44], none, false, 3, 4⟩, ⟨some 46, .move, [.tmp 4], none, false, 4, 0⟩, ⟨some 47, .idxSl 1, [.tmp 45, .tmp 46], none, false, 5, 28⟩, ⟨some 48, .load none, [.tmp 47], none, false, 6, 60⟩, ⟨some 49, .bin .rem, [.tmp 48, .val (.int .u8 50)], none, false, 7, 124⟩, ⟨some 50, .conv .i64, [.tmp 49], none, false, 8, 252⟩, ⟨some 51, .buildSl 3 1 1 [.int .i64 0] [(0, 1)], [.tmp 50], none, false, 9, 508⟩]), (.seq, [⟨some 52, .append 3 1 8, [.tmp 43, .tmp 51], none, true, 10, 1023⟩]), (.seq, [⟨some 53, .fieldAddr 5, [.tmp 3], none, true, 11, 2047⟩]), (.seq, [⟨none, .store 1, [.tmp 53, .tmp 52], none, true, 12, 4095⟩])]
def F5o4 : IC := .ops F5p4
def F5p5 : OPS := [(.seq, [⟨some 40, .move, [.tmp 4], none, true, 0, 0⟩, ⟨some 41, .bin .add, [.tmp 40, .val (.int .i64 1)], none, true, 0, 0⟩, ⟨some 4, .move, [.tmp 41], none, true, 0, 0⟩])]
def F5o5 : IC := .ops F5p5
def F5l6 : IC := .seq (.seq (F5o3) (.cond (.tmp 39) (.skip) (.exit 0))) (.seq (.block 1 (F5o4)) (F5o5))
def F5p7 : OPS := [(.seq, [⟨some 54, .load (some 6), [.tmp 3], none, true, 0, 0⟩, ⟨none, .store 6, [.tmp 2, .tmp 54], none, true, 0, 0⟩])]
def F5o7 : IC := .ops F5p7
def F5b : IC := .seq (F5o0) (.seq (F5o1) (.seq (.seq (F5o2) (.block 0 (.loop F5l6))) (.seq (F5o7) (.ret))))
def F5 : IFn := ⟨55, [(2, some (some 6))], F5b⟩
/- 6: gansey/traces.Free -/
def F6p0 : OPS := [(.seq, [⟨some 2, .box 27 6, [.tmp 0], none, true, 0, 0⟩, ⟨some 3, .box 27 6, [.tmp 1], none, true, 0, 0⟩, ⟨some 4, .move, [.val (.bool false)], none, true, 0, 0⟩])]
def F6o0 : IC := .ops F6p0
def F6p1 : OPS := [(.seq, [⟨some 5, .fieldAddr 0, [.tmp 2], none, true, 0, 0⟩, ⟨some 6, .load none, [.tmp 5], none, true, 0, 0⟩, ⟨some 7, .fieldAddr 0, [.tmp 3], none, true, 0, 0⟩, ⟨some 8, .load none, [.tmp 7], none, true, 0, 0⟩, ⟨some 9, .bin .eql, [.tmp 6, .tmp 8], none, true, 0, 0⟩, ⟨some 10, .move, [.tmp 9], none, true, 0, 0⟩, ⟨some 11, .fieldAddr 0, [.tmp 2], some (10, true), true, 0, 0⟩, ⟨some 12, .load none, [.tmp 11], some (10, true), true, 0, 0⟩, ⟨some 13, .bin .neq, [.tmp 12, .val (.int .u8 0)], some (10, true), true, 0, 0⟩, ⟨some 14, .pick, [.tmp 10, .tmp 13, .val (.bool false)], none, true, 0, 0⟩, ⟨some 15, .move, [.tmp 14], none, true, 0, 0⟩, ⟨some 16, .fieldAddr 1, [.tmp 2], some (15, false), true, 0, 0⟩, ⟨some 17, .load none, [.tmp 16], some (15, false), true, 0, 0⟩, ⟨some 18, .move, [.tmp 17], some (15, false), true, 0, 0⟩, ⟨some 19, .fieldAddr 1, [.tmp 3], some (18, true), true, 0, 0⟩, ⟨some 20, .load none, [.tmp 19], some (18, true), true, 0, 0⟩, ⟨some 21, .pick, [.tmp 18, .tmp 20, .val (.bool false)], some (15, false), true, 0, 0⟩, ⟨some 22, .pick, [.tmp 15, .val (.bool true), .tmp 21], none, true, 0, 0⟩])]
def F6o1 : IC := .ops F6p1
def F6p2 : OPS := [(.seq, [⟨some 4, .move, [.val (.bool false)], none, true, 0, 0⟩])]
def F6o2 : IC := .ops F6p2
def F6p3 : OPS := [(.seq, [⟨some 23, .fieldAddr 1, [.tmp 2], none, true, 0, 0⟩, ⟨some 24, .load none, [.tmp 23], none, true, 0, 0⟩, ⟨some 25, .move, [.tmp 24], none, true, 0, 0⟩, ⟨some 26, .fieldAddr 2, [.tmp 3], some (25, true), true, 0, 0⟩, ⟨some 27, .load none, [.tmp 26], some (25, true), true, 0, 0⟩, ⟨some 28, .un .not, [.tmp 27], some (25, true), true, 0, 0⟩, ⟨some 29, .pick, [.tmp 25, .tmp 28, .val (.bool false)], none, true, 0, 0⟩, ⟨some 30, .move, [.tmp 29], none, true, 0, 0⟩, ⟨some 31, .fieldAddr 1, [.tmp 3], some (30, false), true, 0, 0⟩, ⟨some 32, .load none, [.tmp 31], some (30, false), true, 0, 0⟩, ⟨some 33, .move, [.tmp 32], some (30, false), true, 0, 0⟩, ⟨some 34, .fieldAddr 2, [.tmp 2], some (33, true), true, 0, 0⟩, ⟨some 35, .load none, [.tmp 34], some (33, true), true, 0, 0⟩, ⟨some 36, .un .not, [.tmp 35], some (33, true), true, 0, 0⟩, ⟨some 37, .pick, [.tmp 33, .tmp 36, .val (.bool false)], some (30, false), true, 0, 0⟩, ⟨some 38, .pick, [.tmp 30, .val (.bool true), .tmp 37], none, true, 0, 0⟩])]
def F6o3 : IC := .ops F6p3
def F6p4 : OPS := [(.seq, [⟨some 4, .move, [.val (.bool false)], none, true, 0, 0⟩])]
def F6o4 : IC := .ops F6p4
def F6p5 : OPS := [(.seq, [⟨some 39, .load (some 6), [.tmp 2], none, true, 0, 0⟩, ⟨some 40, .load (some 6), [.tmp 3], none, true, 0, 0⟩, ⟨some 41, .call, [.val (.fn 11 [] []), .tmp 39, .tmp 40], none, true, 0, 0⟩, ⟨some 42, .un .not, [.tmp 41], none, true, 0, 0⟩, ⟨some 43, .move, [.tmp 42], none, true, 0, 0⟩, ⟨some 44, .load (some 6), [.tmp 3], some (43, true), true, 0, 0⟩, ⟨some 45, .load (some 6), [.tmp 2], some (43, true), true, 0, 0⟩, ⟨some 46, .call, [.val (.fn 11 [] []), .tmp 44, .tmp 45], some (43, true), true, 0, 0⟩, ⟨some 47, .un .not, [.tmp 46], some (43, true), true, 0, 0⟩, ⟨some 48, .pick, [.tmp 43, .tmp 47, .val (.bool false)], none, true, 0, 0⟩, ⟨some 4, .move, [.tmp 48], none, true, 0, 0⟩])]
def F6o5 : IC := .ops F6p5
def F6b : IC := .seq (F6o0) (.seq (.seq (F6o1) (.cond (.tmp 22) (.seq (F6o2) (.ret)) (.skip))) (.seq (.seq (F6o3) (.cond (.tmp 38) (.seq (F6o4) (.ret)) (.skip))) (.seq (F6o5) (.ret))))
def F6 : IFn := ⟨49, [(4, none)], F6b⟩
/- 7: gansey/ganseylaw34.lives -/
noncomputable def F7 : IFn := (compF Go.Proofs.Tryz.prog 7).getD ⟨0, [], .skip⟩
/- 8: (gansey/ganseylaw34.A).op -/
def F8p0 : OPS := [(.seq, [⟨some 2, .box 33 4, [.tmp 0], none, true, 0, 0⟩, ⟨some 4, .alloc 41 6 [.int .u8 0, .int .u8 0, .int .u8 0, .int .i64 0, .int .u8 0, .int .i64 0], [], none, true, 0, 0⟩])]
def F8o0 : IC := .ops F8p0
def F8p1 : OPS := [(.seq, [⟨some 8, .fieldAddr 1, [.tmp 2], none, true, 0, 0⟩, ⟨some 9, .load none, [.tmp 8], none, true, 0, 0⟩, ⟨some 10, .bin .rem, [.tmp 9, .val (.int .u8 3)], none, true, 0, 0⟩, ⟨some 11, .bin .add, [.val (.int .u8 1), .tmp 10], none, true, 0, 0⟩, ⟨some 5, .move, [.tmp 11], none, true, 0, 0⟩])]
def F8o1 : IC := .ops F8p1
def F8p2 : OPS := [(.seq, [⟨some 12, .fieldAddr 2, [.tmp 2], none, true, 0, 0⟩, ⟨some 13, .load none, [.tmp 12], none, true, 0, 0⟩, ⟨some 14, .bin .rem, [.tmp 13, .val (.int .u8 2)], none, true, 0, 0⟩, ⟨some 15, .fieldAddr 2, [.tmp 2], none, true, 0, 0⟩, ⟨some 16, .load none, [.tmp 15], none, true, 0, 0⟩, ⟨some 17, .bin .quo, [.tmp 16, .val (.int .u8 2)], none, true, 0, 0⟩, ⟨some 18, .bin .rem, [.tmp 17, .val (.int .u8 6)], none, true, 0, 0⟩, ⟨some 19, .conv .i64, [.tmp 18], none, true, 0, 0⟩, ⟨some 20, .bin .add, [.val (.int .i64 1), .tmp 19], none, true, 0, 0⟩, ⟨some 21, .build [.int .u8 0, .int .i64 0] [(0, 1), (1, 1)], [.tmp 14, .tmp 20], none, true, 0, 0⟩, ⟨some 6, .alloc 39 2 [.int .u8 0, .int .i64 0], [], none, true, 0, 0⟩, ⟨none, .store 2, [.tmp 6, .tmp 21], none, true, 0, 0⟩])]
def F8o2 : IC := .ops F8p2
def F8p3 : OPS := [(.seq, [⟨some 22, .fieldAddr 0, [.tmp 2], none, true, 0, 0⟩, ⟨some 23, .load none, [.tmp 22], none, true, 0, 0⟩, ⟨some 24, .bin .rem, [.tmp 23, .val (.int .u8 16)], none, true, 0, 0⟩, ⟨some 7, .move, [.tmp 24], none, true, 0, 0⟩])]
def F8o3 : IC := .ops F8p3
def F8p4 : OPS := [(.seq, [⟨some 26, .move, [.tmp 7], none, true, 0, 0⟩, ⟨some 27, .bin .eql, [.tmp 26, .val (.int .u8 0)], none, true, 0, 0⟩, ⟨some 25, .move, [.tmp 27], none, true, 0, 0⟩])]
def F8o4 : IC := .ops F8p4
def F8p5 : OPS := [(.seq, [⟨some 28, .move, [.tmp 1], none, true, 0, 0⟩, ⟨some 29, .move, [.tmp 5], none, true, 0, 0⟩, ⟨some 30, .build [.int .u8 0, .int .u8 0, .int .u8 0, .int .i64 0, .int .u8 0, .int .i64 0] [(0, 1), (1, 1), (4, 1)], [.val (.int .u8 1), .tmp 28, .tmp 29], none, true, 0, 0⟩, ⟨none, .store 6, [.tmp 4, .tmp 30], none, true, 0, 0⟩])]
def F8o5 : IC := .ops F8p5
def F8p6 : OPS := [(.seq, [⟨some 32, .move, [.tmp 7], none, true, 0, 0⟩, ⟨some 33, .bin .eql, [.tmp 32, .val (.int .u8 1)], none, true, 0, 0⟩, ⟨some 31, .move, [.tmp 33], none, true, 0, 0⟩])]
def F8o6 : IC := .ops F8p6
def F8p7 : OPS := [(.seq, [⟨some 34, .move, [.tmp 5], none, true, 0, 0⟩, ⟨some 35, .build [.int .u8 0, .int .u8 0, .int .u8 0, .int .i64 0, .int .u8 0, .int .i64 0] [(0, 1), (4, 1)], [.val (.int .u8 2), .tmp 34], none, true, 0, 0⟩, ⟨none, .store 6, [.tmp 4, .tmp 35], none, true, 0, 0⟩])]
def F8o7 : IC := .ops F8p7
def F8p8 : OPS := [(.seq, [⟨some 37, .move, [.tmp 7], none, true, 0, 0⟩, ⟨some 38, .bin .eql, [.tmp 37, .val (.int .u8 2)], none, true, 0, 0⟩, ⟨some 36, .move, [.tmp 38], none, true, 0, 0⟩])]
def F8o8 : IC := .ops F8p8
def F8p9 : OPS := [(.seq, [⟨some 39, .fieldAddr 3, [.tmp 2], none, true, 0, 0⟩, ⟨some 40, .load none, [.tmp 39], none, true, 0, 0⟩, ⟨some 41, .bin .rem, [.tmp 40, .val (.int .u8 5)], none, true, 0, 0⟩, ⟨some 42, .conv .i64, [.tmp 41], none, true, 0, 0⟩, ⟨some 43, .bin .sub, [.tmp 42, .val (.int .i64 2)], none, true, 0, 0⟩, ⟨some 44, .build [.int .u8 0, .int .u8 0, .int .u8 0, .int .i64 0, .int .u8 0, .int .i64 0] [(0, 1), (5, 1)], [.val (.int .u8 3), .tmp 43], none, true, 0, 0⟩, ⟨none, .store 6, [.tmp 4, .tmp 44], none, true, 0, 0⟩])]
def F8o9 : IC := .ops F8p9
def F8p10 : OPS := [(.seq, [⟨some 46, .move, [.tmp 7], none, true, 0, 0⟩, ⟨some 47, .bin .lss, [.tmp 46, .val (.int .u8 10)], none, true, 0, 0⟩, ⟨some 45, .move, [.tmp 47], none, true, 0, 0⟩])]
def F8o10 : IC := .ops F8p10
def F8p11 : OPS := [(.seq, [⟨some 48, .move, [.tmp 1], none, true, 0, 0⟩, ⟨some 49, .load (some 2), [.tmp 6], none, true, 0, 0⟩, ⟨some 50, .move, [.tmp 5], none, true, 0, 0⟩, ⟨some 51, .build [.int .u8 0, .int .u8 0, .int .u8 0, .int .i64 0, .int .u8 0, .int .i64 0] [(0, 1), (1, 1), (2, 2), (4, 1)], [.val (.int .u8 4), .tmp 48, .tmp 49, .tmp 50], none, true, 0, 0⟩, ⟨none, .store 6, [.tmp 4, .tmp 51], none, true, 0, 0⟩])]
def F8o11 : IC := .ops F8p11
def F8p12 : OPS := [(.seq, [⟨some 53, .move, [.tmp 7], none, true, 0, 0⟩, ⟨some 54, .bin .lss, [.tmp 53, .val (.int .u8 12)], none, true, 0, 0⟩, ⟨some 52, .move, [.tmp 54], none, true, 0, 0⟩])]
def F8o12 : IC := .ops F8p12
def F8p13 : OPS := [(.seq, [⟨some 55, .move, [.tmp 1], none, true, 0, 0⟩, ⟨some 56, .load (some 2), [.tmp 6], none, true, 0, 0⟩, ⟨some 57, .move, [.tmp 5], none, true, 0, 0⟩, ⟨some 58, .build [.int .u8 0, .int .u8 0, .int .u8 0, .int .i64 0, .int .u8 0, .int .i64 0] [(0, 1), (1, 1), (2, 2), (4, 1)], [.val (.int .u8 5), .tmp 55, .tmp 56, .tmp 57], none, true, 0, 0⟩, ⟨none, .store 6, [.tmp 4, .tmp 58], none, true, 0, 0⟩])]
def F8o13 : IC := .ops F8p13
def F8p14 : OPS := [(.seq, [⟨some 60, .move, [.tmp 7], none, true, 0, 0⟩, ⟨some 61, .bin .eql, [.tmp 60, .val (.int .u8 12)], none, true, 0, 0⟩, ⟨some 59, .move, [.tmp 61], none, true, 0, 0⟩])]
def F8o14 : IC := .ops F8p14
def F8p15 : OPS := [(.seq, [⟨some 62, .move, [.tmp 1], none, true, 0, 0⟩, ⟨some 63, .load (some 2), [.tmp 6], none, true, 0, 0⟩, ⟨some 64, .move, [.tmp 5], none, true, 0, 0⟩, ⟨some 65, .build [.int .u8 0, .int .u8 0, .int .u8 0, .int .i64 0, .int .u8 0, .int .i64 0] [(0, 1), (1, 1), (2, 2), (4, 1)], [.val (.int .u8 6), .tmp 62, .tmp 63, .tmp 64], none, true, 0, 0⟩, ⟨none, .store 6, [.tmp 4, .tmp 65], none, true, 0, 0⟩])]
def F8o15 : IC := .ops F8p15
def F8p16 : OPS := [(.seq, [⟨some 67, .move, [.tmp 7], none, true, 0, 0⟩, ⟨some 68, .bin .lss, [.tmp 67, .val (.int .u8 15)], none, true, 0, 0⟩, ⟨some 66, .move, [.tmp 68], none, true, 0, 0⟩])]
def F8o16 : IC := .ops F8p16
def F8p17 : OPS := [(.seq, [⟨some 69, .load (some 2), [.tmp 6], none, true, 0, 0⟩, ⟨some 70, .build [.int .u8 0, .int .u8 0, .int .u8 0, .int .i64 0, .int .u8 0, .int .i64 0] [(0, 1), (2, 2)], [.val (.int .u8 7), .tmp 69], none, true, 0, 0⟩, ⟨none, .store 6, [.tmp 4, .tmp 70], none, true, 0, 0⟩])]
def F8o17 : IC := .ops F8p17
def F8p18 : OPS := [(.seq, [⟨some 71, .load (some 2), [.tmp 6], none, true, 0, 0⟩, ⟨some 72, .build [.int .u8 0, .int .u8 0, .int .u8 0, .int .i64 0, .int .u8 0, .int .i64 0] [(0, 1), (2, 2)], [.val (.int .u8 8), .tmp 71], none, true, 0, 0⟩, ⟨none, .store 6, [.tmp 4, .tmp 72], none, true, 0, 0⟩])]
def F8o18 : IC := .ops F8p18
def F8b : IC := .seq (F8o0) (.seq (F8o1) (.seq (F8o2) (.seq (.seq (F8o3) (.block 0 (.seq (F8o4) (.cond (.tmp 25) (.seq (F8o5) (.ret)) (.seq (F8o6) (.cond (.tmp 31) (.seq (F8o7) (.ret)) (.seq (F8o8) (.cond (.tmp 36) (.seq (F8o9) (.ret)) (.seq (F8o10) (.cond (.tmp 45) (.seq (F8o11) (.ret)) (.seq (F8o12) (.cond (.tmp 52) (.seq (F8o13) (.ret)) (.seq (F8o14) (.cond (.tmp 59) (.seq (F8o15) (.ret)) (.seq (F8o16) (.cond (.tmp 66) (.seq (F8o17) (.ret)) (.skip))))))))))))))))) (.seq (F8o18) (.ret)))))
def F8 : IFn := ⟨73, [(4, some (some 6))], F8b⟩
/- 9: gansey/ganseylaw34.key -/
def F9p0 : OPS := [(.seq, [⟨some 1, .box 41 6, [.tmp 0], none, true, 0, 0⟩, ⟨some 2, .move, [.val (.int .i64 0)], none, true, 0, 0⟩])]
def F9o0 : IC := .ops F9p0
def F9p1 : OPS := [(.seq, [⟨some 4, .fieldAddr 0, [.tmp 1], none, true, 0, 0⟩, ⟨some 5, .load none, [.tmp 4], none, true, 0, 0⟩, ⟨some 6, .conv .i64, [.tmp 5], none, true, 0, 0⟩, ⟨some 7, .bin .mul, [.tmp 6, .val (.int .i64 8)], none, true, 0, 0⟩, ⟨some 8, .fieldAddr 4, [.tmp 1], none, true, 0, 0⟩, ⟨some 9, .load none, [.tmp 8], none, true, 0, 0⟩, ⟨some 10, .conv .i64, [.tmp 9], none, true, 0, 0⟩, ⟨some 11, .bin .add, [.tmp 7, .tmp 10], none, true, 0, 0⟩, ⟨some 3, .move, [.tmp 11], none, true, 0, 0⟩])]
def F9o1 : IC := .ops F9p1
def F9p2 : OPS := [(.seq, [⟨some 12, .move, [.tmp 3], none, true, 0, 0⟩, ⟨some 13, .bin .mul, [.tmp 12, .val (.int .i64 2)], none, true, 0, 0⟩, ⟨some 14, .fieldAddr 2, [.tmp 1], none, true, 0, 0⟩, ⟨some 15, .fieldAddr 0, [.tmp 14], none, true, 0, 0⟩, ⟨some 16, .load none, [.tmp 15], none, true, 0, 0⟩, ⟨some 17, .conv .i64, [.tmp 16], none, true, 0, 0⟩, ⟨some 18, .bin .add, [.tmp 13, .tmp 17], none, true, 0, 0⟩, ⟨some 19, .bin .mul, [.tmp 18, .val (.int .i64 64)], none, true, 0, 0⟩, ⟨some 20, .fieldAddr 2, [.tmp 1], none, true, 0, 0⟩, ⟨some 21, .fieldAddr 1, [.tmp 20], none, true, 0, 0⟩, ⟨some 22, .load none, [.tmp 21], none, true, 0, 0⟩, ⟨some 23, .bin .add, [.tmp 19, .tmp 22], none, true, 0, 0⟩, ⟨some 3, .move, [.tmp 23], none, true, 0, 0⟩])]
def F9o2 : IC := .ops F9p2
def F9p3 : OPS := [(.seq, [⟨some 24, .move, [.tmp 3], none, true, 0, 0⟩, ⟨some 25, .bin .mul, [.tmp 24, .val (.int .i64 2)], none, true, 0, 0⟩, ⟨some 26, .fieldAddr 1, [.tmp 1], none, true, 0, 0⟩, ⟨some 27, .load none, [.tmp 26], none, true, 0, 0⟩, ⟨some 28, .conv .i64, [.tmp 27], none, true, 0, 0⟩, ⟨some 29, .bin .add, [.tmp 25, .tmp 28], none, true, 0, 0⟩, ⟨some 30, .bin .mul, [.tmp 29, .val (.int .i64 16)], none, true, 0, 0⟩, ⟨some 31, .fieldAddr 5, [.tmp 1], none, true, 0, 0⟩, ⟨some 32, .load none, [.tmp 31], none, true, 0, 0⟩, ⟨some 33, .bin .add, [.tmp 30, .tmp 32], none, true, 0, 0⟩, ⟨some 34, .bin .add, [.tmp 33, .val (.int .i64 8)], none, true, 0, 0⟩, ⟨some 2, .move, [.tmp 34], none, true, 0, 0⟩])]
def F9o3 : IC := .ops F9p3
def F9b : IC := .seq (F9o0) (.seq (F9o1) (.seq (F9o2) (.seq (F9o3) (.ret))))
def F9 : IFn := ⟨35, [(2, none)], F9b⟩
/- 10: gansey/traces.Compare -/
def F10p0 : OPS := [(.seq, [⟨some 2, .box 41 6, [.tmp 0], none, true, 0, 0⟩, ⟨some 3, .box 41 6, [.tmp 1], none, true, 0, 0⟩, ⟨some 4, .move, [.val (.int .i64 0)], none, true, 0, 0⟩])]
def F10o0 : IC := .ops F10p0
def F10p1 : OPS := [(.seq, [⟨some 10, .fieldAddr 0, [.tmp 2], none, true, 0, 0⟩, ⟨some 11, .load none, [.tmp 10], none, true, 0, 0⟩, ⟨some 12, .fieldAddr 0, [.tmp 3], none, true, 0, 0⟩, ⟨some 13, .load none, [.tmp 12], none, true, 0, 0⟩, ⟨some 14, .call, [.val (.fn 14 [] []), .tmp 11, .tmp 13], none, true, 0, 0⟩, ⟨some 5, .move, [.tmp 14], none, true, 0, 0⟩])]
def F10o1 : IC := .ops F10p1
def F10p2 : OPS := [(.seq, [⟨some 15, .move, [.tmp 5], none, true, 0, 0⟩, ⟨some 16, .bin .neq, [.tmp 15, .val (.int .i64 0)], none, true, 0, 0⟩])]
def F10o2 : IC := .ops F10p2
def F10p3 : OPS := [(.seq, [⟨some 17, .move, [.tmp 5], none, true, 0, 0⟩, ⟨some 4, .move, [.tmp 17], none, true, 0, 0⟩])]
def F10o3 : IC := .ops F10p3
def F10p4 : OPS := [(.seq, [⟨some 18, .fieldAddr 4, [.tmp 2], none, true, 0, 0⟩, ⟨some 19, .load none, [.tmp 18], none, true, 0, 0⟩, ⟨some 20, .fieldAddr 4, [.tmp 3], none, true, 0, 0⟩, ⟨some 21, .load none, [.tmp 20], none, true, 0, 0⟩, ⟨some 22, .call, [.val (.fn 15 [] []), .tmp 19, .tmp 21], none, true, 0, 0⟩, ⟨some 6, .move, [.tmp 22], none, true, 0, 0⟩])]
def F10o4 : IC := .ops F10p4
def F10p5 : OPS := [(.seq, [⟨some 23, .move, [.tmp 6], none, true, 0, 0⟩, ⟨some 24, .bin .neq, [.tmp 23, .val (.int .i64 0)], none, true, 0, 0⟩])]
def F10o5 : IC := .ops F10p5
def F10p6 : OPS := [(.seq, [⟨some 25, .move, [.tmp 6], none, true, 0, 0⟩, ⟨some 4, .move, [.tmp 25], none, true, 0, 0⟩])]
def F10o6 : IC := .ops F10p6
def F10p7 : OPS := [(.seq, [⟨some 26, .fieldAddr 2, [.tmp 2], none, true, 0, 0⟩, ⟨some 27, .fieldAddr 0, [.tmp 26], none, true, 0, 0⟩, ⟨some 28, .load none, [.tmp 27], none, true, 0, 0⟩, ⟨some 29, .fieldAddr 2, [.tmp 3], none, true, 0, 0⟩, ⟨some 30, .fieldAddr 0, [.tmp 29], none, true, 0, 0⟩, ⟨some 31, .load none, [.tmp 30], none, true, 0, 0⟩, ⟨some 32, .call, [.val (.fn 16 [] []), .tmp 28, .tmp 31], none, true, 0, 0⟩, ⟨some 7, .move, [.tmp 32], none, true, 0, 0⟩])]
def F10o7 : IC := .ops F10p7
def F10p8 : OPS := [(.seq, [⟨some 33, .move, [.tmp 7], none, true, 0, 0⟩, ⟨some 34, .bin .neq, [.tmp 33, .val (.int .i64 0)], none, true, 0, 0⟩])]
def F10o8 : IC := .ops F10p8
def F10p9 : OPS := [(.seq, [⟨some 35, .move, [.tmp 7], none, true, 0, 0⟩, ⟨some 4, .move, [.tmp 35], none, true, 0, 0⟩])]
def F10o9 : IC := .ops F10p9
def F10p10 : OPS := [(.seq, [⟨some 36, .fieldAddr 2, [.tmp 2], none, true, 0, 0⟩, ⟨some 37, .fieldAddr 1, [.tmp 36], none, true, 0, 0⟩, ⟨some 38, .load none, [.tmp 37], none, true, 0, 0⟩, ⟨some 39, .fieldAddr 2, [.tmp 3], none, true, 0, 0⟩, ⟨some 40, .fieldAddr 1, [.tmp 39], none, true, 0, 0⟩, ⟨some 41, .load none, [.tmp 40], none, true, 0, 0⟩, ⟨some 42, .call, [.val (.fn 17 [] []), .tmp 38, .tmp 41], none, true, 0, 0⟩, ⟨some 8, .move, [.tmp 42], none, true, 0, 0⟩])]
def F10o10 : IC := .ops F10p10
def F10p11 : OPS := [(.seq, [⟨some 43, .move, [.tmp 8], none, true, 0, 0⟩, ⟨some 44, .bin .neq, [.tmp 43, .val (.int .i64 0)], none, true, 0, 0⟩])]
def F10o11 : IC := .ops F10p11
def F10p12 : OPS := [(.seq, [⟨some 45, .move, [.tmp 8], none, true, 0, 0⟩, ⟨some 4, .move, [.tmp 45], none, true, 0, 0⟩])]
def F10o12 : IC := .ops F10p12
def F10p13 : OPS := [(.seq, [⟨some 46, .fieldAddr 1, [.tmp 2], none, true, 0, 0⟩, ⟨some 47, .load none, [.tmp 46], none, true, 0, 0⟩, ⟨some 48, .fieldAddr 1, [.tmp 3], none, true, 0, 0⟩, ⟨some 49, .load none, [.tmp 48], none, true, 0, 0⟩, ⟨some 50, .call, [.val (.fn 18 [] []), .tmp 47, .tmp 49], none, true, 0, 0⟩, ⟨some 9, .move, [.tmp 50], none, true, 0, 0⟩])]
def F10o13 : IC := .ops F10p13
def F10p14 : OPS := [(.seq, [⟨some 51, .move, [.tmp 9], none, true, 0, 0⟩, ⟨some 52, .bin .neq, [.tmp 51, .val (.int .i64 0)], none, true, 0, 0⟩])]
def F10o14 : IC := .ops F10p14
def F10p15 : OPS := [(.seq, [⟨some 53, .move, [.tmp 9], none, true, 0, 0⟩, ⟨some 4, .move, [.tmp 53], none, true, 0, 0⟩])]
def F10o15 : IC := .ops F10p15
def F10p16 : OPS := [(.seq, [⟨some 54, .fieldAddr 5, [.tmp 2], none, true, 0, 0⟩, ⟨some 55, .load none, [.tmp 54], none, true, 0, 0⟩, ⟨some 56, .fieldAddr 5, [.tmp 3], none, true, 0, 0⟩, ⟨some 57, .load none, [.tmp 56], none, true, 0, 0⟩, ⟨some 58, .call, [.val (.fn 17 [] []), .tmp 55, .tmp 57], none, true, 0, 0⟩, ⟨some 4, .move, [.tmp 58], none, true, 0, 0⟩])]
def F10o16 : IC := .ops F10p16
def F10b : IC := .seq (F10o0) (.seq (.seq (F10o1) (.seq (F10o2) (.cond (.tmp 16) (.seq (F10o3) (.ret)) (.skip)))) (.seq (.seq (F10o4) (.seq (F10o5) (.cond (.tmp 24) (.seq (F10o6) (.ret)) (.skip)))) (.seq (.seq (F10o7) (.seq (F10o8) (.cond (.tmp 34) (.seq (F10o9) (.ret)) (.skip)))) (.seq (.seq (F10o10) (.seq (F10o11) (.cond (.tmp 44) (.seq (F10o12) (.ret)) (.skip)))) (.seq (.seq (F10o13) (.seq (F10o14) (.cond (.tmp 52) (.seq (F10o15) (.ret)) (.skip)))) (.seq (F10o16) (.ret)))))))
def F10 : IFn := ⟨59, [(4, none)], F10b⟩
/- 11: gansey/traces.touches -/
def F11p0 : OPS := [(.seq, [⟨some 2, .box 27 6, [.tmp 0], none, true, 0, 0⟩, ⟨some 3, .box 27 6, [.tmp 1], none, true, 0, 0⟩, ⟨some 4, .move, [.val (.bool false)], none, true, 0, 0⟩])]
def F11o0 : IC := .ops F11p0
def F11p1 : OPS := [(.seq, [⟨some 7, .fieldAddr 5, [.tmp 2], none, true, 0, 0⟩, ⟨some 8, .load none, [.tmp 7], none, true, 0, 0⟩, ⟨some 9, .lenSl, [.tmp 8], none, true, 0, 0⟩, ⟨some 10, .move, [.val (.int .i64 0)], none, true, 0, 0⟩])]
def F11o1 : IC := .ops F11p1
def F11p2 : OPS := [(.seq, [⟨some 11, .bin .lss, [.tmp 10, .tmp 9], none, true, 0, 0⟩])]
def F11o2 : IC := .ops F11p2
def F11p3 : OPS := [(.seq, [⟨some 12, .idxSl 1, [.tmp 8, .tmp 10], none, true, 0, 0⟩, ⟨some 13, .load none, [.tmp 12], none, true, 0, 0⟩, ⟨some 6, .move, [.tmp 13], none, true, 0, 0⟩])]
def F11o3 : IC := .ops F11p3
def F11p4 : OPS := [(.seq, [⟨some 14, .fieldAddr 3, [.tmp 3], none, true, 0, 0⟩, ⟨some 15, .load none, [.tmp 14], none, true, 0, 0⟩, ⟨some 16, .move, [.tmp 6], none, true, 0, 0⟩, ⟨some 17, .bin .leq, [.tmp 15, .tmp 16], none, true, 0, 0⟩, ⟨some 18, .move, [.tmp 17], none, true, 0, 0⟩, ⟨some 19, .move, [.tmp 6], some (18, true), true, 0, 0⟩, ⟨some 20, .fieldAddr 4, [.tmp 3], some (18, true), true, 0, 0⟩, ⟨some 21, .load none, [.tmp 20], some (18, true), true, 0, 0⟩, ⟨some 22, .bin .leq, [.tmp 19, .tmp 21], some (18, true), true, 0, 0⟩, ⟨some 23, .pick, [.tmp 18, .tmp 22, .val (.bool false)], none, true, 0, 0⟩])]
def F11o4 : IC := .ops F11p4
def F11p5 : OPS := [(.seq, [⟨some 4, .move, [.val (.bool true)], none, true, 0, 0⟩])]
def F11o5 : IC := .ops F11p5
def F11p6 : OPS := [(.seq, [⟨some 24, .bin .add, [.tmp 10, .val (.int .i64 1)], none, true, 0, 0⟩, ⟨some 10, .move, [.tmp 24], none, true, 0, 0⟩])]
def F11o6 : IC := .ops F11p6
def F11l7 : IC := .seq (F11o2) (.seq (.cond (.tmp 11) (.skip) (.exit 0)) (.seq (.block 1 (.seq (F11o3) (.seq (F11o4) (.cond (.tmp 23) (.seq (F11o5) (.ret)) (.skip))))) (F11o6)))
def F11p8 : OPS := [(.seq, [⟨some 4, .move, [.val (.bool false)], none, true, 0, 0⟩])]
def F11o8 : IC := .ops F11p8
def F11b : IC := .seq (F11o0) (.seq (.seq (F11o1) (.block 0 (.loop F11l7))) (.seq (F11o8) (.ret)))
def F11 : IFn := ⟨25, [(4, none)], F11b⟩
/- 12: gansey/traces.Feet -/
noncomputable def F12 : IFn := (compF Go.Proofs.Tryz.prog 12).getD ⟨0, [], .skip⟩
/- 13: gansey/traces.Least -/
noncomputable def F13 : IFn := (compF Go.Proofs.Tryz.prog 13).getD ⟨0, [], .skip⟩
/- 14: gansey/traces.compare[gansey/operations.Kind] -/
def F14p0 : OPS := [(.seq, [⟨some 4, .move, [.val (.int .i64 0)], none, true, 0, 0⟩])]
def F14o0 : IC := .ops F14p0
def F14p1 : OPS := [(.seq, [⟨some 6, .move, [.tmp 0], none, true, 0, 0⟩, ⟨some 7, .move, [.tmp 1], none, true, 0, 0⟩, ⟨some 8, .bin .lss, [.tmp 6, .tmp 7], none, true, 0, 0⟩, ⟨some 5, .move, [.tmp 8], none, true, 0, 0⟩])]
def F14o1 : IC := .ops F14p1
def F14p2 : OPS := [(.seq, [⟨some 4, .move, [.val (.int .i64 (-1))], none, true, 0, 0⟩])]
def F14o2 : IC := .ops F14p2
def F14p3 : OPS := [(.seq, [⟨some 10, .move, [.tmp 0], none, true, 0, 0⟩, ⟨some 11, .move, [.tmp 1], none, true, 0, 0⟩, ⟨some 12, .bin .gtr, [.tmp 10, .tmp 11], none, true, 0, 0⟩, ⟨some 9, .move, [.tmp 12], none, true, 0, 0⟩])]
def F14o3 : IC := .ops F14p3
def F14p4 : OPS := [(.seq, [⟨some 4, .move, [.val (.int .i64 1)], none, true, 0, 0⟩])]
def F14o4 : IC := .ops F14p4
def F14p5 : OPS := [(.seq, [⟨some 4, .move, [.val (.int .i64 0)], none, true, 0, 0⟩])]
def F14o5 : IC := .ops F14p5
def F14b : IC := .seq (F14o0) (.seq (.block 0 (.seq (F14o1) (.cond (.tmp 5) (.seq (F14o2) (.ret)) (.seq (F14o3) (.cond (.tmp 9) (.seq (F14o4) (.ret)) (.skip)))))) (.seq (F14o5) (.ret)))
def F14 : IFn := ⟨13, [(4, none)], F14b⟩
/- 15: gansey/traces.compare[uint8] -/
def F15p0 : OPS := [(.seq, [⟨some 4, .move, [.val (.int .i64 0)], none, true, 0, 0⟩])]
def F15o0 : IC := .ops F15p0
def F15p1 : OPS := [(.seq, [⟨some 6, .move, [.tmp 0], none, true, 0, 0⟩, ⟨some 7, .move, [.tmp 1], none, true, 0, 0⟩, ⟨some 8, .bin .lss, [.tmp 6, .tmp 7], none, true, 0, 0⟩, ⟨some 5, .move, [.tmp 8], none, true, 0, 0⟩])]
def F15o1 : IC := .ops F15p1
def F15p2 : OPS := [(.seq, [⟨some 4, .move, [.val (.int .i64 (-1))], none, true, 0, 0⟩])]
def F15o2 : IC := .ops F15p2
def F15p3 : OPS := [(.seq, [⟨some 10, .move, [.tmp 0], none, true, 0, 0⟩, ⟨some 11, .move, [.tmp 1], none, true, 0, 0⟩, ⟨some 12, .bin .gtr, [.tmp 10, .tmp 11], none, true, 0, 0⟩, ⟨some 9, .move, [.tmp 12], none, true, 0, 0⟩])]
def F15o3 : IC := .ops F15p3
def F15p4 : OPS := [(.seq, [⟨some 4, .move, [.val (.int .i64 1)], none, true, 0, 0⟩])]
def F15o4 : IC := .ops F15p4
def F15p5 : OPS := [(.seq, [⟨some 4, .move, [.val (.int .i64 0)], none, true, 0, 0⟩])]
def F15o5 : IC := .ops F15p5
def F15b : IC := .seq (F15o0) (.seq (.block 0 (.seq (F15o1) (.cond (.tmp 5) (.seq (F15o2) (.ret)) (.seq (F15o3) (.cond (.tmp 9) (.seq (F15o4) (.ret)) (.skip)))))) (.seq (F15o5) (.ret)))
def F15 : IFn := ⟨13, [(4, none)], F15b⟩
/- 16: gansey/traces.compare[gansey/api.Bed] -/
def F16p0 : OPS := [(.seq, [⟨some 4, .move, [.val (.int .i64 0)], none, true, 0, 0⟩])]
def F16o0 : IC := .ops F16p0
def F16p1 : OPS := [(.seq, [⟨some 6, .move, [.tmp 0], none, true, 0, 0⟩, ⟨some 7, .move, [.tmp 1], none, true, 0, 0⟩, ⟨some 8, .bin .lss, [.tmp 6, .tmp 7], none, true, 0, 0⟩, ⟨some 5, .move, [.tmp 8], none, true, 0, 0⟩])]
def F16o1 : IC := .ops F16p1
def F16p2 : OPS := [(.seq, [⟨some 4, .move, [.val (.int .i64 (-1))], none, true, 0, 0⟩])]
def F16o2 : IC := .ops F16p2
def F16p3 : OPS := [(.seq, [⟨some 10, .move, [.tmp 0], none, true, 0, 0⟩, ⟨some 11, .move, [.tmp 1], none, true, 0, 0⟩, ⟨some 12, .bin .gtr, [.tmp 10, .tmp 11], none, true, 0, 0⟩, ⟨some 9, .move, [.tmp 12], none, true, 0, 0⟩])]
def F16o3 : IC := .ops F16p3
def F16p4 : OPS := [(.seq, [⟨some 4, .move, [.val (.int .i64 1)], none, true, 0, 0⟩])]
def F16o4 : IC := .ops F16p4
def F16p5 : OPS := [(.seq, [⟨some 4, .move, [.val (.int .i64 0)], none, true, 0, 0⟩])]
def F16o5 : IC := .ops F16p5
def F16b : IC := .seq (F16o0) (.seq (.block 0 (.seq (F16o1) (.cond (.tmp 5) (.seq (F16o2) (.ret)) (.seq (F16o3) (.cond (.tmp 9) (.seq (F16o4) (.ret)) (.skip)))))) (.seq (F16o5) (.ret)))
def F16 : IFn := ⟨13, [(4, none)], F16b⟩
/- 17: gansey/traces.compare[int] -/
def F17p0 : OPS := [(.seq, [⟨some 4, .move, [.val (.int .i64 0)], none, true, 0, 0⟩])]
def F17o0 : IC := .ops F17p0
def F17p1 : OPS := [(.seq, [⟨some 6, .move, [.tmp 0], none, true, 0, 0⟩, ⟨some 7, .move, [.tmp 1], none, true, 0, 0⟩, ⟨some 8, .bin .lss, [.tmp 6, .tmp 7], none, true, 0, 0⟩, ⟨some 5, .move, [.tmp 8], none, true, 0, 0⟩])]
def F17o1 : IC := .ops F17p1
def F17p2 : OPS := [(.seq, [⟨some 4, .move, [.val (.int .i64 (-1))], none, true, 0, 0⟩])]
def F17o2 : IC := .ops F17p2
def F17p3 : OPS := [(.seq, [⟨some 10, .move, [.tmp 0], none, true, 0, 0⟩, ⟨some 11, .move, [.tmp 1], none, true, 0, 0⟩, ⟨some 12, .bin .gtr, [.tmp 10, .tmp 11], none, true, 0, 0⟩, ⟨some 9, .move, [.tmp 12], none, true, 0, 0⟩])]
def F17o3 : IC := .ops F17p3
def F17p4 : OPS := [(.seq, [⟨some 4, .move, [.val (.int .i64 1)], none, true, 0, 0⟩])]
def F17o4 : IC := .ops F17p4
def F17p5 : OPS := [(.seq, [⟨some 4, .move, [.val (.int .i64 0)], none, true, 0, 0⟩])]
def F17o5 : IC := .ops F17p5
def F17b : IC := .seq (F17o0) (.seq (.block 0 (.seq (F17o1) (.cond (.tmp 5) (.seq (F17o2) (.ret)) (.seq (F17o3) (.cond (.tmp 9) (.seq (F17o4) (.ret)) (.skip)))))) (.seq (F17o5) (.ret)))
def F17 : IFn := ⟨13, [(4, none)], F17b⟩
/- 18: gansey/traces.compare[gansey/api.Dir] -/
def F18p0 : OPS := [(.seq, [⟨some 4, .move, [.val (.int .i64 0)], none, true, 0, 0⟩])]
def F18o0 : IC := .ops F18p0
def F18p1 : OPS := [(.seq, [⟨some 6, .move, [.tmp 0], none, true, 0, 0⟩, ⟨some 7, .move, [.tmp 1], none, true, 0, 0⟩, ⟨some 8, .bin .lss, [.tmp 6, .tmp 7], none, true, 0, 0⟩, ⟨some 5, .move, [.tmp 8], none, true, 0, 0⟩])]
def F18o1 : IC := .ops F18p1
def F18p2 : OPS := [(.seq, [⟨some 4, .move, [.val (.int .i64 (-1))], none, true, 0, 0⟩])]
def F18o2 : IC := .ops F18p2
def F18p3 : OPS := [(.seq, [⟨some 10, .move, [.tmp 0], none, true, 0, 0⟩, ⟨some 11, .move, [.tmp 1], none, true, 0, 0⟩, ⟨some 12, .bin .gtr, [.tmp 10, .tmp 11], none, true, 0, 0⟩, ⟨some 9, .move, [.tmp 12], none, true, 0, 0⟩])]
def F18o3 : IC := .ops F18p3
def F18p4 : OPS := [(.seq, [⟨some 4, .move, [.val (.int .i64 1)], none, true, 0, 0⟩])]
def F18o4 : IC := .ops F18p4
def F18p5 : OPS := [(.seq, [⟨some 4, .move, [.val (.int .i64 0)], none, true, 0, 0⟩])]
def F18o5 : IC := .ops F18p5
def F18b : IC := .seq (F18o0) (.seq (.block 0 (.seq (F18o1) (.cond (.tmp 5) (.seq (F18o2) (.ret)) (.seq (F18o3) (.cond (.tmp 9) (.seq (F18o4) (.ret)) (.skip)))))) (.seq (F18o5) (.ret)))
def F18 : IFn := ⟨13, [(4, none)], F18b⟩
/- 19: gansey/machines.Run -/
noncomputable def F19 : IFn := (compF Go.Proofs.Tryz.prog 19).getD ⟨0, [], .skip⟩
/- 20: gansey/machines.Start -/
noncomputable def F20 : IFn := (compF Go.Proofs.Tryz.prog 20).getD ⟨0, [], .skip⟩
/- 21: (*gansey/traces.walker).step -/
noncomputable def F21 : IFn := (compF Go.Proofs.Tryz.prog 21).getD ⟨0, [], .skip⟩
/- 22: gansey/traces.Least$1 -/
noncomputable def F22 : IFn := (compF Go.Proofs.Tryz.prog 22).getD ⟨0, [], .skip⟩
/- 23: slices.Delete[[]int,int] -/
noncomputable def F23 : IFn := (compF Go.Proofs.Tryz.prog 23).getD ⟨0, [], .skip⟩
/- 24: gansey/machines.Check -/
noncomputable def F24 : IFn := (compF Go.Proofs.Tryz.prog 24).getD ⟨0, [], .skip⟩
/- 25: gansey/machines.open -/
noncomputable def F25 : IFn := (compF Go.Proofs.Tryz.prog 25).getD ⟨0, [], .skip⟩
/- 26: gansey/machines.actions -/
noncomputable def F26 : IFn := (compF Go.Proofs.Tryz.prog 26).getD ⟨0, [], .skip⟩
/- 27: (*gansey/machines.machine).do -/
noncomputable def F27 : IFn := (compF Go.Proofs.Tryz.prog 27).getD ⟨0, [], .skip⟩
/- 28: (*gansey/machines.machine).state -/
noncomputable def F28 : IFn := (compF Go.Proofs.Tryz.prog 28).getD ⟨0, [], .skip⟩
/- 29: gansey/fabrics.Empty -/
noncomputable def F29 : IFn := (compF Go.Proofs.Tryz.prog 29).getD ⟨0, [], .skip⟩
/- 30: (*gansey/traces.walker).needle -/
noncomputable def F30 : IFn := (compF Go.Proofs.Tryz.prog 30).getD ⟨0, [], .skip⟩
/- 31: gansey/stacks.Check -/
noncomputable def F31 : IFn := (compF Go.Proofs.Tryz.prog 31).getD ⟨0, [], .skip⟩
/- 32: gansey/yarns.Check -/
noncomputable def F32 : IFn := (compF Go.Proofs.Tryz.prog 32).getD ⟨0, [], .skip⟩
/- 33: gansey/fabrics.Check -/
noncomputable def F33 : IFn := (compF Go.Proofs.Tryz.prog 33).getD ⟨0, [], .skip⟩
/- 34: slices.Equal[[]gansey/api.Id,gansey/api.Id] -/
noncomputable def F34 : IFn := (compF Go.Proofs.Tryz.prog 34).getD ⟨0, [], .skip⟩
/- 35: gansey/machines.held -/
noncomputable def F35 : IFn := (compF Go.Proofs.Tryz.prog 35).getD ⟨0, [], .skip⟩
/- 36: gansey/machines.copyBed -/
noncomputable def F36 : IFn := (compF Go.Proofs.Tryz.prog 36).getD ⟨0, [], .skip⟩
/- 37: gansey/machines.copyYarns -/
noncomputable def F37 : IFn := (compF Go.Proofs.Tryz.prog 37).getD ⟨0, [], .skip⟩
/- 38: gansey/machines.copyTable -/
noncomputable def F38 : IFn := (compF Go.Proofs.Tryz.prog 38).getD ⟨0, [], .skip⟩
/- 39: gansey/machines.copied[gansey/api.Id] -/
noncomputable def F39 : IFn := (compF Go.Proofs.Tryz.prog 39).getD ⟨0, [], .skip⟩
/- 40: (*gansey/machines.machine).in -/
noncomputable def F40 : IFn := (compF Go.Proofs.Tryz.prog 40).getD ⟨0, [], .skip⟩
/- 41: (*gansey/machines.machine).out -/
noncomputable def F41 : IFn := (compF Go.Proofs.Tryz.prog 41).getD ⟨0, [], .skip⟩
/- 42: (*gansey/machines.machine).moveTo -/
noncomputable def F42 : IFn := (compF Go.Proofs.Tryz.prog 42).getD ⟨0, [], .skip⟩
/- 43: (*gansey/machines.machine).knit -/
noncomputable def F43 : IFn := (compF Go.Proofs.Tryz.prog 43).getD ⟨0, [], .skip⟩
/- 44: (*gansey/machines.machine).tuck -/
noncomputable def F44 : IFn := (compF Go.Proofs.Tryz.prog 44).getD ⟨0, [], .skip⟩
/- 45: (*gansey/machines.machine).miss -/
noncomputable def F45 : IFn := (compF Go.Proofs.Tryz.prog 45).getD ⟨0, [], .skip⟩
/- 46: (*gansey/machines.machine).xfer -/
noncomputable def F46 : IFn := (compF Go.Proofs.Tryz.prog 46).getD ⟨0, [], .skip⟩
/- 47: (*gansey/machines.machine).drop -/
noncomputable def F47 : IFn := (compF Go.Proofs.Tryz.prog 47).getD ⟨0, [], .skip⟩
/- 48: gansey/operations.Check -/
noncomputable def F48 : IFn := (compF Go.Proofs.Tryz.prog 48).getD ⟨0, [], .skip⟩
/- 49: slices.SortFunc[[]gansey/fabrics.Crossing,gansey/fabrics.Crossing] -/
noncomputable def F49 : IFn := (compF Go.Proofs.Tryz.prog 49).getD ⟨0, [], .skip⟩
/- 50: (*gansey/machines.machine).state$1 -/
noncomputable def F50 : IFn := (compF Go.Proofs.Tryz.prog 50).getD ⟨0, [], .skip⟩
/- 51: gansey/fabrics.Compare -/
noncomputable def F51 : IFn := (compF Go.Proofs.Tryz.prog 51).getD ⟨0, [], .skip⟩
/- 52: gansey/machines.copied[gansey/loops.Loop] -/
noncomputable def F52 : IFn := (compF Go.Proofs.Tryz.prog 52).getD ⟨0, [], .skip⟩
/- 53: slices.SortFunc[[]gansey/api.Id,gansey/api.Id] -/
noncomputable def F53 : IFn := (compF Go.Proofs.Tryz.prog 53).getD ⟨0, [], .skip⟩
/- 54: gansey/machines.copied[gansey/fabrics.Crossing] -/
noncomputable def F54 : IFn := (compF Go.Proofs.Tryz.prog 54).getD ⟨0, [], .skip⟩
/- 55: gansey/loops.Empty -/
noncomputable def F55 : IFn := (compF Go.Proofs.Tryz.prog 55).getD ⟨0, [], .skip⟩
/- 56: gansey/needles.Spot -/
noncomputable def F56 : IFn := (compF Go.Proofs.Tryz.prog 56).getD ⟨0, [], .skip⟩
/- 57: gansey/stacks.beds -/
noncomputable def F57 : IFn := (compF Go.Proofs.Tryz.prog 57).getD ⟨0, [], .skip⟩
/- 58: gansey/yarns.Named -/
noncomputable def F58 : IFn := (compF Go.Proofs.Tryz.prog 58).getD ⟨0, [], .skip⟩
/- 59: gansey/stacks.Count -/
noncomputable def F59 : IFn := (compF Go.Proofs.Tryz.prog 59).getD ⟨0, [], .skip⟩
/- 60: gansey/yarns.isPlace -/
noncomputable def F60 : IFn := (compF Go.Proofs.Tryz.prog 60).getD ⟨0, [], .skip⟩
/- 61: gansey/yarns.valid -/
noncomputable def F61 : IFn := (compF Go.Proofs.Tryz.prog 61).getD ⟨0, [], .skip⟩
/- 62: gansey/yarns.cancel -/
noncomputable def F62 : IFn := (compF Go.Proofs.Tryz.prog 62).getD ⟨0, [], .skip⟩
/- 63: gansey/loops.Check -/
noncomputable def F63 : IFn := (compF Go.Proofs.Tryz.prog 63).getD ⟨0, [], .skip⟩
/- 64: gansey/fabrics.checkCrossings -/
noncomputable def F64 : IFn := (compF Go.Proofs.Tryz.prog 64).getD ⟨0, [], .skip⟩
/- 65: gansey/fabrics.checkPlaces -/
noncomputable def F65 : IFn := (compF Go.Proofs.Tryz.prog 65).getD ⟨0, [], .skip⟩
/- 66: gansey/orders.List -/
noncomputable def F66 : IFn := (compF Go.Proofs.Tryz.prog 66).getD ⟨0, [], .skip⟩
/- 67: gansey/machines.copied[gansey/yarns.Yarn] -/
noncomputable def F67 : IFn := (compF Go.Proofs.Tryz.prog 67).getD ⟨0, [], .skip⟩
/- 68: gansey/machines.copied[gansey/yarns.Pass] -/
noncomputable def F68 : IFn := (compF Go.Proofs.Tryz.prog 68).getD ⟨0, [], .skip⟩
/- 69: gansey/yarns.Enter -/
noncomputable def F69 : IFn := (compF Go.Proofs.Tryz.prog 69).getD ⟨0, [], .skip⟩
/- 70: gansey/yarns.Leave -/
noncomputable def F70 : IFn := (compF Go.Proofs.Tryz.prog 70).getD ⟨0, [], .skip⟩
/- 71: (*gansey/machines.machine).step -/
noncomputable def F71 : IFn := (compF Go.Proofs.Tryz.prog 71).getD ⟨0, [], .skip⟩
/- 72: (*gansey/machines.machine).behind -/
noncomputable def F72 : IFn := (compF Go.Proofs.Tryz.prog 72).getD ⟨0, [], .skip⟩
/- 73: (*gansey/machines.machine).carry -/
noncomputable def F73 : IFn := (compF Go.Proofs.Tryz.prog 73).getD ⟨0, [], .skip⟩
/- 74: (*gansey/machines.machine).make -/
noncomputable def F74 : IFn := (compF Go.Proofs.Tryz.prog 74).getD ⟨0, [], .skip⟩
/- 75: gansey/stacks.At -/
noncomputable def F75 : IFn := (compF Go.Proofs.Tryz.prog 75).getD ⟨0, [], .skip⟩
/- 76: gansey/needles.Opposite -/
noncomputable def F76 : IFn := (compF Go.Proofs.Tryz.prog 76).getD ⟨0, [], .skip⟩
/- 77: gansey/stacks.Join -/
noncomputable def F77 : IFn := (compF Go.Proofs.Tryz.prog 77).getD ⟨0, [], .skip⟩
/- 78: gansey/stacks.Set -/
noncomputable def F78 : IFn := (compF Go.Proofs.Tryz.prog 78).getD ⟨0, [], .skip⟩
/- 79: gansey/operations.plain -/
noncomputable def F79 : IFn := (compF Go.Proofs.Tryz.prog 79).getD ⟨0, [], .skip⟩
/- 80: slices.pdqsortCmpFunc[gansey/fabrics.Crossing] -/
noncomputable def F80 : IFn := (compF Go.Proofs.Tryz.prog 80).getD ⟨0, [], .skip⟩
/- 81: math/bits.Len -/
noncomputable def F81 : IFn := (compF Go.Proofs.Tryz.prog 81).getD ⟨0, [], .skip⟩
/- 82: cmp.Or[int] -/
noncomputable def F82 : IFn := (compF Go.Proofs.Tryz.prog 82).getD ⟨0, [], .skip⟩
/- 83: cmp.Compare[uint8] -/
noncomputable def F83 : IFn := (compF Go.Proofs.Tryz.prog 83).getD ⟨0, [], .skip⟩
/- 84: cmp.Compare[int] -/
noncomputable def F84 : IFn := (compF Go.Proofs.Tryz.prog 84).getD ⟨0, [], .skip⟩
/- 85: slices.pdqsortCmpFunc[gansey/api.Id] -/
noncomputable def F85 : IFn := (compF Go.Proofs.Tryz.prog 85).getD ⟨0, [], .skip⟩
/- 86: gansey/needles.Check -/
noncomputable def F86 : IFn := (compF Go.Proofs.Tryz.prog 86).getD ⟨0, [], .skip⟩
/- 87: gansey/needles.racked -/
noncomputable def F87 : IFn := (compF Go.Proofs.Tryz.prog 87).getD ⟨0, [], .skip⟩
/- 88: gansey/stacks.beds$1 -/
noncomputable def F88 : IFn := (compF Go.Proofs.Tryz.prog 88).getD ⟨0, [], .skip⟩
/- 89: gansey/stacks.needled -/
noncomputable def F89 : IFn := (compF Go.Proofs.Tryz.prog 89).getD ⟨0, [], .skip⟩
/- 90: gansey/yarns.sided -/
noncomputable def F90 : IFn := (compF Go.Proofs.Tryz.prog 90).getD ⟨0, [], .skip⟩
/- 91: gansey/loops.check -/
noncomputable def F91 : IFn := (compF Go.Proofs.Tryz.prog 91).getD ⟨0, [], .skip⟩
/- 92: gansey/fabrics.has -/
noncomputable def F92 : IFn := (compF Go.Proofs.Tryz.prog 92).getD ⟨0, [], .skip⟩
/- 93: gansey/fabrics.comparePairs -/
noncomputable def F93 : IFn := (compF Go.Proofs.Tryz.prog 93).getD ⟨0, [], .skip⟩
/- 94: gansey/fabrics.checkPlaces$1 -/
noncomputable def F94 : IFn := (compF Go.Proofs.Tryz.prog 94).getD ⟨0, [], .skip⟩
/- 95: gansey/orders.check -/
noncomputable def F95 : IFn := (compF Go.Proofs.Tryz.prog 95).getD ⟨0, [], .skip⟩
/- 96: gansey/orders.List$1 -/
noncomputable def F96 : IFn := (compF Go.Proofs.Tryz.prog 96).getD ⟨0, [], .skip⟩
/- 97: slices.SortStableFunc[[]gansey/orders.Held,gansey/orders.Held] -/
noncomputable def F97 : IFn := (compF Go.Proofs.Tryz.prog 97).getD ⟨0, [], .skip⟩
/- 98: gansey/orders.List$2 -/
noncomputable def F98 : IFn := (compF Go.Proofs.Tryz.prog 98).getD ⟨0, [], .skip⟩
/- 99: gansey/orders.copied[gansey/orders.Held] -/
noncomputable def F99 : IFn := (compF Go.Proofs.Tryz.prog 99).getD ⟨0, [], .skip⟩
/- 100: gansey/orders.Meets -/
noncomputable def F100 : IFn := (compF Go.Proofs.Tryz.prog 100).getD ⟨0, [], .skip⟩
/- 101: gansey/yarns.Go -/
noncomputable def F101 : IFn := (compF Go.Proofs.Tryz.prog 101).getD ⟨0, [], .skip⟩
/- 102: gansey/orders.Step -/
noncomputable def F102 : IFn := (compF Go.Proofs.Tryz.prog 102).getD ⟨0, [], .skip⟩
/- 103: (*gansey/machines.machine).add -/
noncomputable def F103 : IFn := (compF Go.Proofs.Tryz.prog 103).getD ⟨0, [], .skip⟩
/- 104: gansey/orders.Between -/
noncomputable def F104 : IFn := (compF Go.Proofs.Tryz.prog 104).getD ⟨0, [], .skip⟩
/- 105: gansey/yarns.Make -/
noncomputable def F105 : IFn := (compF Go.Proofs.Tryz.prog 105).getD ⟨0, [], .skip⟩
/- 106: gansey/loops.Count -/
noncomputable def F106 : IFn := (compF Go.Proofs.Tryz.prog 106).getD ⟨0, [], .skip⟩
/- 107: gansey/stacks.copied[gansey/api.Id] -/
noncomputable def F107 : IFn := (compF Go.Proofs.Tryz.prog 107).getD ⟨0, [], .skip⟩
/- 108: gansey/stacks.placed -/
noncomputable def F108 : IFn := (compF Go.Proofs.Tryz.prog 108).getD ⟨0, [], .skip⟩
/- 109: gansey/operations.uses -/
noncomputable def F109 : IFn := (compF Go.Proofs.Tryz.prog 109).getD ⟨0, [], .skip⟩
/- 110: slices.insertionSortCmpFunc[gansey/fabrics.Crossing] -/
noncomputable def F110 : IFn := (compF Go.Proofs.Tryz.prog 110).getD ⟨0, [], .skip⟩
/- 111: slices.heapSortCmpFunc[gansey/fabrics.Crossing] -/
noncomputable def F111 : IFn := (compF Go.Proofs.Tryz.prog 111).getD ⟨0, [], .skip⟩
/- 112: slices.breakPatternsCmpFunc[gansey/fabrics.Crossing] -/
noncomputable def F112 : IFn := (compF Go.Proofs.Tryz.prog 112).getD ⟨0, [], .skip⟩
/- 113: slices.choosePivotCmpFunc[gansey/fabrics.Crossing] -/
noncomputable def F113 : IFn := (compF Go.Proofs.Tryz.prog 113).getD ⟨0, [], .skip⟩
/- 114: slices.reverseRangeCmpFunc[gansey/fabrics.Crossing] -/
noncomputable def F114 : IFn := (compF Go.Proofs.Tryz.prog 114).getD ⟨0, [], .skip⟩
/- 115: slices.partialInsertionSortCmpFunc[gansey/fabrics.Crossing] -/
noncomputable def F115 : IFn := (compF Go.Proofs.Tryz.prog 115).getD ⟨0, [], .skip⟩
/- 116: slices.partitionEqualCmpFunc[gansey/fabrics.Crossing] -/
noncomputable def F116 : IFn := (compF Go.Proofs.Tryz.prog 116).getD ⟨0, [], .skip⟩
/- 117: slices.partitionCmpFunc[gansey/fabrics.Crossing] -/
noncomputable def F117 : IFn := (compF Go.Proofs.Tryz.prog 117).getD ⟨0, [], .skip⟩
/- 118: math/bits.Len32 -/
noncomputable def F118 : IFn := (compF Go.Proofs.Tryz.prog 118).getD ⟨0, [], .skip⟩
/- 119: math/bits.Len64 -/
noncomputable def F119 : IFn := (compF Go.Proofs.Tryz.prog 119).getD ⟨0, [], .skip⟩
/- 120: cmp.isNaN[uint8] -/
noncomputable def F120 : IFn := (compF Go.Proofs.Tryz.prog 120).getD ⟨0, [], .skip⟩
/- 121: cmp.isNaN[int] -/
noncomputable def F121 : IFn := (compF Go.Proofs.Tryz.prog 121).getD ⟨0, [], .skip⟩
/- 122: slices.insertionSortCmpFunc[gansey/api.Id] -/
noncomputable def F122 : IFn := (compF Go.Proofs.Tryz.prog 122).getD ⟨0, [], .skip⟩
/- 123: slices.heapSortCmpFunc[gansey/api.Id] -/
noncomputable def F123 : IFn := (compF Go.Proofs.Tryz.prog 123).getD ⟨0, [], .skip⟩
/- 124: slices.breakPatternsCmpFunc[gansey/api.Id] -/
noncomputable def F124 : IFn := (compF Go.Proofs.Tryz.prog 124).getD ⟨0, [], .skip⟩
/- 125: slices.choosePivotCmpFunc[gansey/api.Id] -/
noncomputable def F125 : IFn := (compF Go.Proofs.Tryz.prog 125).getD ⟨0, [], .skip⟩
/- 126: slices.reverseRangeCmpFunc[gansey/api.Id] -/
noncomputable def F126 : IFn := (compF Go.Proofs.Tryz.prog 126).getD ⟨0, [], .skip⟩
/- 127: slices.partialInsertionSortCmpFunc[gansey/api.Id] -/
noncomputable def F127 : IFn := (compF Go.Proofs.Tryz.prog 127).getD ⟨0, [], .skip⟩
/- 128: slices.partitionEqualCmpFunc[gansey/api.Id] -/
noncomputable def F128 : IFn := (compF Go.Proofs.Tryz.prog 128).getD ⟨0, [], .skip⟩
/- 129: slices.partitionCmpFunc[gansey/api.Id] -/
noncomputable def F129 : IFn := (compF Go.Proofs.Tryz.prog 129).getD ⟨0, [], .skip⟩
/- 130: gansey/stacks.needled$1 -/
noncomputable def F130 : IFn := (compF Go.Proofs.Tryz.prog 130).getD ⟨0, [], .skip⟩
/- 131: gansey/loops.checkLoops -/
noncomputable def F131 : IFn := (compF Go.Proofs.Tryz.prog 131).getD ⟨0, [], .skip⟩
/- 132: gansey/loops.checkThrough -/
noncomputable def F132 : IFn := (compF Go.Proofs.Tryz.prog 132).getD ⟨0, [], .skip⟩
/- 133: gansey/loops.first -/
noncomputable def F133 : IFn := (compF Go.Proofs.Tryz.prog 133).getD ⟨0, [], .skip⟩
/- 134: gansey/loops.copied[gansey/api.Id] -/
noncomputable def F134 : IFn := (compF Go.Proofs.Tryz.prog 134).getD ⟨0, [], .skip⟩
/- 135: gansey/orders.racked -/
noncomputable def F135 : IFn := (compF Go.Proofs.Tryz.prog 135).getD ⟨0, [], .skip⟩
/- 136: slices.stableCmpFunc[gansey/orders.Held] -/
noncomputable def F136 : IFn := (compF Go.Proofs.Tryz.prog 136).getD ⟨0, [], .skip⟩
/- 137: gansey/orders.checkStep -/
noncomputable def F137 : IFn := (compF Go.Proofs.Tryz.prog 137).getD ⟨0, [], .skip⟩
/- 138: slices.Reverse[[]gansey/yarns.Pass,gansey/yarns.Pass] -/
noncomputable def F138 : IFn := (compF Go.Proofs.Tryz.prog 138).getD ⟨0, [], .skip⟩
/- 139: gansey/orders.copied[gansey/yarns.Pass] -/
noncomputable def F139 : IFn := (compF Go.Proofs.Tryz.prog 139).getD ⟨0, [], .skip⟩
/- 140: gansey/yarns.push -/
noncomputable def F140 : IFn := (compF Go.Proofs.Tryz.prog 140).getD ⟨0, [], .skip⟩
/- 141: gansey/yarns.copied -/
noncomputable def F141 : IFn := (compF Go.Proofs.Tryz.prog 141).getD ⟨0, [], .skip⟩
/- 142: slices.Reverse[[]gansey/api.Id,gansey/api.Id] -/
noncomputable def F142 : IFn := (compF Go.Proofs.Tryz.prog 142).getD ⟨0, [], .skip⟩
/- 143: slices.Reverse[[]gansey/orders.Cross,gansey/orders.Cross] -/
noncomputable def F143 : IFn := (compF Go.Proofs.Tryz.prog 143).getD ⟨0, [], .skip⟩
/- 144: gansey/orders.copied[gansey/orders.Cross] -/
noncomputable def F144 : IFn := (compF Go.Proofs.Tryz.prog 144).getD ⟨0, [], .skip⟩
/- 145: gansey/stacks.put -/
noncomputable def F145 : IFn := (compF Go.Proofs.Tryz.prog 145).getD ⟨0, [], .skip⟩
/- 146: slices.siftDownCmpFunc[gansey/fabrics.Crossing] -/
noncomputable def F146 : IFn := (compF Go.Proofs.Tryz.prog 146).getD ⟨0, [], .skip⟩
/- 147: slices.nextPowerOfTwo -/
noncomputable def F147 : IFn := (compF Go.Proofs.Tryz.prog 147).getD ⟨0, [], .skip⟩
/- 148: (*slices.xorshift).Next -/
noncomputable def F148 : IFn := (compF Go.Proofs.Tryz.prog 148).getD ⟨0, [], .skip⟩
/- 149: slices.medianAdjacentCmpFunc[gansey/fabrics.Crossing] -/
noncomputable def F149 : IFn := (compF Go.Proofs.Tryz.prog 149).getD ⟨0, [], .skip⟩
/- 150: slices.medianCmpFunc[gansey/fabrics.Crossing] -/
noncomputable def F150 : IFn := (compF Go.Proofs.Tryz.prog 150).getD ⟨0, [], .skip⟩
/- 151: slices.siftDownCmpFunc[gansey/api.Id] -/
noncomputable def F151 : IFn := (compF Go.Proofs.Tryz.prog 151).getD ⟨0, [], .skip⟩
/- 152: slices.medianAdjacentCmpFunc[gansey/api.Id] -/
noncomputable def F152 : IFn := (compF Go.Proofs.Tryz.prog 152).getD ⟨0, [], .skip⟩
/- 153: slices.medianCmpFunc[gansey/api.Id] -/
noncomputable def F153 : IFn := (compF Go.Proofs.Tryz.prog 153).getD ⟨0, [], .skip⟩
/- 154: gansey/loops.right -/
noncomputable def F154 : IFn := (compF Go.Proofs.Tryz.prog 154).getD ⟨0, [], .skip⟩
/- 155: gansey/loops.need -/
noncomputable def F155 : IFn := (compF Go.Proofs.Tryz.prog 155).getD ⟨0, [], .skip⟩
/- 156: slices.insertionSortCmpFunc[gansey/orders.Held] -/
noncomputable def F156 : IFn := (compF Go.Proofs.Tryz.prog 156).getD ⟨0, [], .skip⟩
/- 157: slices.symMergeCmpFunc[gansey/orders.Held] -/
noncomputable def F157 : IFn := (compF Go.Proofs.Tryz.prog 157).getD ⟨0, [], .skip⟩
/- 158: gansey/stacks.copied[[]gansey/api.Id] -/
noncomputable def F158 : IFn := (compF Go.Proofs.Tryz.prog 158).getD ⟨0, [], .skip⟩
/- 159: gansey/stacks.short -/
noncomputable def F159 : IFn := (compF Go.Proofs.Tryz.prog 159).getD ⟨0, [], .skip⟩
/- 160: slices.order2CmpFunc[gansey/fabrics.Crossing] -/
noncomputable def F160 : IFn := (compF Go.Proofs.Tryz.prog 160).getD ⟨0, [], .skip⟩
/- 161: slices.order2CmpFunc[gansey/api.Id] -/
noncomputable def F161 : IFn := (compF Go.Proofs.Tryz.prog 161).getD ⟨0, [], .skip⟩
/- 162: gansey/loops.has -/
noncomputable def F162 : IFn := (compF Go.Proofs.Tryz.prog 162).getD ⟨0, [], .skip⟩
/- 163: gansey/yarns.Reduce -/
noncomputable def F163 : IFn := (compF Go.Proofs.Tryz.prog 163).getD ⟨0, [], .skip⟩
/- 164: slices.rotateCmpFunc[gansey/orders.Held] -/
noncomputable def F164 : IFn := (compF Go.Proofs.Tryz.prog 164).getD ⟨0, [], .skip⟩
/- 165: slices.swapRangeCmpFunc[gansey/orders.Held] -/
noncomputable def F165 : IFn := (compF Go.Proofs.Tryz.prog 165).getD ⟨0, [], .skip⟩

noncomputable def fnT : Tr IFn := .node (none) (.node (none) (.node (some F3) (.node (some F7) (.node (some F15) (.node (some F31) (.node (some F63) (.node (some F127) (.leaf) (.leaf)) (.leaf)) (.node (some F95) (.node (some F159) (.leaf) (.leaf)) (.leaf))) (.node (some F47) (.node (some F79) (.node (some F143) (.leaf) (.leaf)) (.leaf)) (.node (some F111) (.leaf) (.leaf)))) (.node (some F23) (.node (some F39) (.node (some F71) (.node (some F135) (.leaf) (.leaf)) (.leaf)) (.node (some F103) (.leaf) (.leaf))) (.node (some F55) (.node (some F87) (.node (some F151) (.leaf) (.leaf)) (.leaf)) (.node (some F119) (.leaf) (.leaf))))) (.node (some F11) (.node (some F19) (.node (some F35) (.node (some F67) (.node (some F131) (.leaf) (.leaf)) (.leaf)) (.node (some F99) (.node (some F163) (.leaf) (.leaf)) (.leaf))) (.node (some F51) (.node (some F83) (.node (some F147) (.leaf) (.leaf)) (.leaf)) (.node (some F115) (.leaf) (.leaf)))) (.node (some F27) (.node (some F43) (.node (some F75) (.node (some F139) (.leaf) (.leaf)) (.leaf)) (.node (some F107) (.leaf) (.leaf))) (.node (some F59) (.node (some F91) (.node (some F155) (.leaf) (.leaf)) (.leaf)) (.node (some F123) (.leaf) (.leaf)))))) (.node (some F5) (.node (some F9) (.node (some F17) (.node (some F33) (.node (some F65) (.node (some F129) (.leaf) (.leaf)) (.leaf)) (.node (some F97) (.node (some F161) (.leaf) (.leaf)) (.leaf))) (.node (some F49) (.node (some F81) (.node (some F145) (.leaf) (.leaf)) (.leaf)) (.node (some F113) (.leaf) (.leaf)))) (.node (some F25) (.node (some F41) (.node (some F73) (.node (some F137) (.leaf) (.leaf)) (.leaf)) (.node (some F105) (.leaf) (.leaf))) (.node (some F57) (.node (some F89) (.node (some F153) (.leaf) (.leaf)) (.leaf)) (.node (some F121) (.leaf) (.leaf))))) (.node (some F13) (.node (some F21) (.node (some F37) (.node (some F69) (.node (some F133) (.leaf) (.leaf)) (.leaf)) (.node (some F101) (.node (some F165) (.leaf) (.leaf)) (.leaf))) (.node (some F53) (.node (some F85) (.node (some F149) (.leaf) (.leaf)) (.leaf)) (.node (some F117) (.leaf) (.leaf)))) (.node (some F29) (.node (some F45) (.node (some F77) (.node (some F141) (.leaf) (.leaf)) (.leaf)) (.node (some F109) (.leaf) (.leaf))) (.node (some F61) (.node (some F93) (.node (some F157) (.leaf) (.leaf)) (.leaf)) (.node (some F125) (.leaf) (.leaf))))))) (.node (none) (.node (some F4) (.node (some F8) (.node (some F16) (.node (some F32) (.node (some F64) (.node (some F128) (.leaf) (.leaf)) (.leaf)) (.node (some F96) (.node (some F160) (.leaf) (.leaf)) (.leaf))) (.node (some F48) (.node (some F80) (.node (some F144) (.leaf) (.leaf)) (.leaf)) (.node (some F112) (.leaf) (.leaf)))) (.node (some F24) (.node (some F40) (.node (some F72) (.node (some F136) (.leaf) (.leaf)) (.leaf)) (.node (some F104) (.leaf) (.leaf))) (.node (some F56) (.node (some F88) (.node (some F152) (.leaf) (.leaf)) (.leaf)) (.node (some F120) (.leaf) (.leaf))))) (.node (some F12) (.node (some F20) (.node (some F36) (.node (some F68) (.node (some F132) (.leaf) (.leaf)) (.leaf)) (.node (some F100) (.node (some F164) (.leaf) (.leaf)) (.leaf))) (.node (some F52) (.node (some F84) (.node (some F148) (.leaf) (.leaf)) (.leaf)) (.node (some F116) (.leaf) (.leaf)))) (.node (some F28) (.node (some F44) (.node (some F76) (.node (some F140) (.leaf) (.leaf)) (.leaf)) (.node (some F108) (.leaf) (.leaf))) (.node (some F60) (.node (some F92) (.node (some F156) (.leaf) (.leaf)) (.leaf)) (.node (some F124) (.leaf) (.leaf)))))) (.node (some F6) (.node (some F10) (.node (some F18) (.node (some F34) (.node (some F66) (.node (some F130) (.leaf) (.leaf)) (.leaf)) (.node (some F98) (.node (some F162) (.leaf) (.leaf)) (.leaf))) (.node (some F50) (.node (some F82) (.node (some F146) (.leaf) (.leaf)) (.leaf)) (.node (some F114) (.leaf) (.leaf)))) (.node (some F26) (.node (some F42) (.node (some F74) (.node (some F138) (.leaf) (.leaf)) (.leaf)) (.node (some F106) (.leaf) (.leaf))) (.node (some F58) (.node (some F90) (.node (some F154) (.leaf) (.leaf)) (.leaf)) (.node (some F122) (.leaf) (.leaf))))) (.node (some F14) (.node (some F22) (.node (some F38) (.node (some F70) (.node (some F134) (.leaf) (.leaf)) (.leaf)) (.node (some F102) (.leaf) (.leaf))) (.node (some F54) (.node (some F86) (.node (some F150) (.leaf) (.leaf)) (.leaf)) (.node (some F118) (.leaf) (.leaf)))) (.node (some F30) (.node (some F46) (.node (some F78) (.node (some F142) (.leaf) (.leaf)) (.leaf)) (.node (some F110) (.leaf) (.leaf))) (.node (some F62) (.node (some F94) (.node (some F158) (.leaf) (.leaf)) (.leaf)) (.node (some F126) (.leaf) (.leaf)))))))
def tabs : List (List Int) := [[-1, 1]]
noncomputable def E0 : Env := { fns := fnT.get, sums := fun f => if f = 7 then some (tabSum tabs) else none, g0 := 1 }
noncomputable def En : Env := { fns := fnT.get, sums := fun _ => none, g0 := 1 }
theorem plain : Plain E0 := by
  intro f s hs args lo H v H' h
  have hs' : (if f = 7 then some (tabSum tabs) else none) = some s := hs
  split at hs'
  · injection hs' with hs'
    subst hs'
    cases args with
    | cons => cases h
    | nil =>
      simp only [tabSum] at h
      split at h
      · rename_i hok
        injection h with h; injection h with h1 h2; subst h1 h2; exact ⟨.refl _ _, fun _ _ => by simp only [tabSum, hok]; rfl⟩
      · cases h
  · cases hs'
abbrev Wo (c : IC) (l : OPS) : Prop := ∀ {lo : Nat} {rd : Option Nat} {fr : Fr} {H : Heap} {Q : Out → Heap → Prop}, W E0 lo (.code c rd fr) H Q = W E0 lo (.segs l rd fr) H Q
abbrev Wc (n : Nat) (f : IFn) (b : IC) : Prop := ∀ {lo : Nat} {H : Heap} {Q : Out → Heap → Prop} {args : List IV}, W E0 lo (.call n args) H Q = W E0 lo (.code b none ⟨args ++ undefs (f.ntmps - args.length), []⟩) H (retC lo f.results Q)
section
variable {lo : Nat} {rd : Option Nat} {fr : Fr} {H : Heap} {Q : Out → Heap → Prop} {args : List IV}
theorem wF3o0 : Wo F3o0 F3p0 := W_ops
theorem wF3o1 : Wo F3o1 F3p1 := W_ops
theorem wF3o2 : Wo F3o2 F3p2 := W_ops
theorem wF3o3 : Wo F3o3 F3p3 := W_ops
theorem wF3o4 : Wo F3o4 F3p4 := W_ops
theorem wF3o5 : Wo F3o5 F3p5 := W_ops
theorem wF3o6 : Wo F3o6 F3p6 := W_ops
theorem wF3o7 : Wo F3o7 F3p7 := W_ops
theorem wF3o8 : Wo F3o8 F3p8 := W_ops
theorem wF3o10 : Wo F3o10 F3p10 := W_ops
theorem wF3o11 : Wo F3o11 F3p11 := W_ops
theorem wF3o12 : Wo F3o12 F3p12 := W_ops
theorem wF3o13 : Wo F3o13 F3p13 := W_ops
theorem wF3o15 : Wo F3o15 F3p15 := W_ops
theorem wF5o0 : Wo F5o0 F5p0 := W_ops
theorem wF5o1 : Wo F5o1 F5p1 := W_ops
theorem wF5o2 : Wo F5o2 F5p2 := W_ops
theorem wF5o3 : Wo F5o3 F5p3 := W_ops
theorem wF5o4 : Wo F5o4 F5p4 := W_ops
theorem wF5o5 : Wo F5o5 F5p5 := W_ops
theorem wF5o7 : Wo F5o7 F5p7 := W_ops
theorem wF6o0 : Wo F6o0 F6p0 := W_ops
theorem wF6o1 : Wo F6o1 F6p1 := W_ops
theorem wF6o2 : Wo F6o2 F6p2 := W_ops
theorem wF6o3 : Wo F6o3 F6p3 := W_ops
theorem wF6o4 : Wo F6o4 F6p4 := W_ops
theorem wF6o5 : Wo F6o5 F6p5 := W_ops
theorem wF11o0 : Wo F11o0 F11p0 := W_ops
theorem wF11o1 : Wo F11o1 F11p1 := W_ops
theorem wF11o2 : Wo F11o2 F11p2 := W_ops
theorem wF11o3 : Wo F11o3 F11p3 := W_ops
theorem wF11o4 : Wo F11o4 F11p4 := W_ops
theorem wF11o5 : Wo F11o5 F11p5 := W_ops
theorem wF11o6 : Wo F11o6 F11p6 := W_ops
theorem wF11o8 : Wo F11o8 F11p8 := W_ops
def B3 := J @wF3o0 (J @wF3o1 (J @wF3o2 (J @wF3o3 (J @wF3o4 (J @wF3o5 (J @wF3o6 (J @wF3o7 (J @wF3o8 (J @wF3o10 (J @wF3o11 (J @wF3o12 (J @wF3o13 (J @wF3o15 (J F3p0.eq_1 (J F3p1.eq_1 (J F3p2.eq_1 (J F3p3.eq_1 (J F3p4.eq_1 (J F3p5.eq_1 (J F3p6.eq_1 (J F3p7.eq_1 (J F3p8.eq_1 (J F3p10.eq_1 (J F3p11.eq_1 (J F3p12.eq_1 (J F3p13.eq_1 (J F3p15.eq_1 (J F3b.eq_1 (F3.eq_1)))))))))))))))))))))))))))))
def B5 := J @wF5o0 (J @wF5o1 (J @wF5o2 (J @wF5o3 (J @wF5o4 (J @wF5o5 (J @wF5o7 (J F5p0.eq_1 (J F5p1.eq_1 (J F5p2.eq_1 (J F5p3.eq_1 (J F5p4.eq_1 (J F5p5.eq_1 (J F5p7.eq_1 (J F5b.eq_1 (F5.eq_1)))))))))))))))
def B6 := J @wF6o0 (J @wF6o1 (J @wF6o2 (J @wF6o3 (J @wF6o4 (J @wF6o5 (J F6p0.eq_1 (J F6p1.eq_1 (J F6p2.eq_1 (J F6p3.eq_1 (J F6p4.eq_1 (J F6p5.eq_1 (J F6b.eq_1 (F6.eq_1)))))))))))))
def B11 := J @wF11o0 (J @wF11o1 (J @wF11o2 (J @wF11o3 (J @wF11o4 (J @wF11o5 (J @wF11o6 (J @wF11o8 (J F11p0.eq_1 (J F11p1.eq_1 (J F11p2.eq_1 (J F11p3.eq_1 (J F11p4.eq_1 (J F11p5.eq_1 (J F11p6.eq_1 (J F11p8.eq_1 (J F11b.eq_1 (F11.eq_1)))))))))))))))))
theorem c3 : Wc 3 F3 F3b := W_call rfl rfl
theorem c4 : Wc 4 F4 F4b := W_call rfl rfl
theorem c5 : Wc 5 F5 F5b := W_call rfl rfl
theorem c6 : Wc 6 F6 F6b := W_call rfl rfl
theorem c11 : Wc 11 F11 F11b := W_call rfl rfl
theorem c7 (ht : Tabs tabs H) (h : Q (.val (.bool true)) H) : W E0 lo (.call 7 []) H Q := W_sum (s := tabSum tabs) rfl (by simp only [tabSum, ht.ok]; rfl) h
end
end Go.Iso.Gen
end
