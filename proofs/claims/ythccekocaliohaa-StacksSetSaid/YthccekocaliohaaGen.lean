/-
  the code of this seat for the evaluator, as a program has printed it.
-/
import Derived.Test.YthccekocaliohaaIsoP5
import Derived.Test.YthccekocaliohaaIsoP7
import Derived.Test.YthccekocaliohaaProg
import Derived.KernelRfl
set_option linter.unusedSimpArgs false
set_option linter.unusedVariables false

section
set_option maxRecDepth 100000
namespace Go.Iso.Gen
/- 2: gosem.cut.init -/
def F2p0 : List (Sg × List IOp) := [(.seq, [⟨some 0, .call, [.val (.fn 1 [] [])], none, true, 0, 0⟩])]
def F2o0 : IC := .ops F2p0
def F2b : IC := F2o0
def F2 : IFn := ⟨1, [], F2b⟩
/- 3: gansey/ganseylaw03.StacksAt -/
def F3p0 : List (Sg × List IOp) := [(.seq, [⟨some 4, .box 26 2, [.tmp 1], none, true, 0, 0⟩, ⟨some 5, .box 28 2, [.tmp 2], none, true, 0, 0⟩, ⟨some 6, .move, [.val (.bool false)], none, true, 0, 0⟩])]
def F3o0 : IC := .ops F3p0
def F3p1 : List (Sg × List IOp) := [(.seq, [⟨some 17, .move, [.tmp 0], none, true, 0, 0⟩, ⟨some 18, .call, [.val (.fn 8 [] []), .tmp 17], none, true, 0, 0⟩, ⟨some 7, .alloc 31 80 [.nilSlice, .nilSlice, .nilSlice, .nilSlice, .nilSlice, .nilSlice, .nilSlice, .nilSlice, .nilSlice, .nilSlice, .nilSlice, .nilSlice, .nilSlice, .nilSlice, .nilSlice, .nilSlice, .nilSlice, .nilSlice, .nilSlice, .nilSlice, .nilSlice, .nilSlice, .nilSlice, .nilSlice, .nilSlice, .nilSlice, .nilSlice, .nilSlice, .nilSlice, .nilSlice, .nilSlice, .nilSlice, .nilSlice, .nilSlice, .nilSlice, .nilSlice, .nilSlice, .nilSlice, .nilSlice, .nilSlice, .nilSlice, .nilSlice, .nilSlice, .nilSlice, .nilSlice, .nilSlice, .nilSlice, .nilSlice, .nilSlice, .nilSlice, .nilSlice, .nilSlice, .nilSlice, .nilSlice, .nilSlice, .nilSlice, .nilSlice, .nilSlice, .nilSlice, .nilSlice, .nilSlice, .nilSlice, .nilSlice, .nilSlice, .nilSlice, .nilSlice, .nilSlice, .nilSlice, .nilSlice, .nilSlice, .nilSlice, .nilSlice, .nilSlice, .nilSlice, .nilSlice, .nilSlice, .nilSlice, .nilSlice, .nilSlice, .nilSlice], [], none, true, 0, 0⟩, ⟨none, .store 80, [.tmp 7, .tmp 18], none, true, 0, 0⟩])]
def F3o1 : IC := .ops F3p1
def F3p2 : List (Sg × List IOp) := [(.seq, [⟨some 19, .load (some 80), [.tmp 7], none, true, 0, 0⟩, ⟨some 20, .call, [.val (.fn 9 [] []), .tmp 19], none, true, 0, 0⟩, ⟨some 8, .alloc 35 2 [.nilSlice, .nilSlice], [], none, true, 0, 0⟩, ⟨none, .store 2, [.tmp 8, .tmp 20], none, true, 0, 0⟩])]
def F3o2 : IC := .ops F3p2
def F3p3 : List (Sg × List IOp) := [(.seq, [⟨some 21, .load (some 2), [.tmp 8], none, true, 0, 0⟩, ⟨some 22, .call, [.val (.fn 10 [] []), .tmp 21], none, true, 0, 0⟩, ⟨some 23, .bin .neq, [.tmp 22, .val (.int .i64 0)], none, true, 0, 0⟩, ⟨some 24, .move, [.tmp 23], none, true, 0, 0⟩, ⟨some 25, .load (some 80), [.tmp 7], some (24, false), true, 0, 0⟩, ⟨some 26, .load (some 2), [.tmp 8], some (24, false), true, 0, 0⟩, ⟨some 27, .call, [.val (.fn 11 [] []), .tmp 25, .tmp 26], some (24, false), true, 0, 0⟩, ⟨some 28, .bin .neq, [.tmp 27, .val (.int .i64 0)], some (24, false), true, 0, 0⟩, ⟨some 29, .pick, [.tmp 24, .val (.bool true), .tmp 28], none, true, 0, 0⟩])]
def F3o3 : IC := .ops F3p3
def F3p4 : List (Sg × List IOp) := [(.seq, [⟨some 6, .move, [.val (.bool false)], none, true, 0, 0⟩])]
def F3o4 : IC := .ops F3p4
def F3p5 : List (Sg × List IOp) := [(.seq, [⟨some 30, .fieldAddr 0, [.tmp 4], none, true, 0, 0⟩, ⟨some 31, .load none, [.tmp 30], none, true, 0, 0⟩, ⟨some 32, .bin .gtr, [.tmp 31, .val (.int .u8 1)], none, true, 0, 0⟩, ⟨some 33, .move, [.tmp 32], none, true, 0, 0⟩, ⟨some 34, .fieldAddr 1, [.tmp 4], some (33, false), true, 0, 0⟩, ⟨some 35, .load none, [.tmp 34], some (33, false), true, 0, 0⟩, ⟨some 36, .bin .lss, [.tmp 35, .val (.int .i64 1)], some (33, false), true, 0, 0⟩, ⟨some 37, .pick, [.tmp 33, .val (.bool true), .tmp 36], none, true, 0, 0⟩, ⟨some 38, .move, [.tmp 37], none, true, 0, 0⟩, ⟨some 39, .fieldAddr 1, [.tmp 4], some (38, false), true, 0, 0⟩, ⟨some 40, .load none, [.tmp 39], some (38, false), true, 0, 0⟩, ⟨some 41, .bin .gtr, [.tmp 40, .val (.int .i64 40)], some (38, false), true, 0, 0⟩, ⟨some 42, .pick, [.tmp 38, .val (.bool true), .tmp 41], none, true, 0, 0⟩])]
def F3o5 : IC := .ops F3p5
def F3p6 : List (Sg × List IOp) := [(.seq, [⟨some 43, .load (some 2), [.tmp 8], none, true, 0, 0⟩, ⟨some 44, .load (some 2), [.tmp 4], none, true, 0, 0⟩, ⟨some 45, .call, [.val (.fn 12 [] []), .tmp 43, .tmp 44], none, true, 0, 0⟩, ⟨some 46, .lenSl, [.tmp 45], none, true, 0, 0⟩, ⟨some 47, .bin .neq, [.tmp 46, .val (.int .i64 0)], none, true, 0, 0⟩])]
def F3o6 : IC := .ops F3p6
def F3p7 : List (Sg × List IOp) := [(.seq, [⟨some 6, .move, [.val (.bool false)], none, true, 0, 0⟩])]
def F3o7 : IC := .ops F3p7
def F3p8 : List (Sg × List IOp) := [(.seq, [⟨some 9, .move, [.val (.int .i64 0)], none, true, 0, 0⟩])]
def F3o8 : IC := .ops F3p8
def F3p9 : List (Sg × List IOp) := [(.seq, [⟨some 10, .alloc 26 2 [.int .u8 0, .int .i64 0], [], none, true, 0, 0⟩])]
def F3o9 : IC := .ops F3p9
def F3p10 : List (Sg × List IOp) := [(.seq, [⟨some 11, .move, [.val (.int .i64 0)], none, true, 0, 0⟩])]
def F3o10 : IC := .ops F3p10
def F3p11 : List (Sg × List IOp) := [(.seq, [⟨some 12, .move, [.val (.int .i64 0)], none, true, 0, 0⟩])]
def F3o11 : IC := .ops F3p11
def F3p12 : List (Sg × List IOp) := [(.seq, [⟨some 48, .move, [.tmp 12], none, true, 0, 0⟩, ⟨some 49, .bin .lss, [.tmp 48, .val (.int .i64 80)], none, true, 0, 0⟩])]
def F3o12 : IC := .ops F3p12
def F3p13 : List (Sg × List IOp) := [(.seq, [⟨some 52, .move, [.tmp 9], none, true, 0, 0⟩, ⟨some 53, .move, [.tmp 12], none, true, 0, 0⟩, ⟨some 54, .idxArrAddr 80 1, [.tmp 7, .tmp 53], none, true, 0, 0⟩, ⟨some 55, .load none, [.tmp 54], none, true, 0, 0⟩, ⟨some 56, .lenSl, [.tmp 55], none, true, 0, 0⟩, ⟨some 57, .bin .add, [.tmp 52, .tmp 56], none, true, 0, 0⟩, ⟨some 9, .move, [.tmp 57], none, true, 0, 0⟩])]
def F3o13 : IC := .ops F3p13
def F3p14 : List (Sg × List IOp) := [(.seq, [⟨some 13, .move, [.val (.int .i64 0)], none, true, 0, 0⟩])]
def F3o14 : IC := .ops F3p14
def F3p15 : List (Sg × List IOp) := [(.seq, [⟨some 58, .move, [.tmp 13], none, true, 0, 0⟩, ⟨some 59, .move, [.tmp 12], none, true, 0, 0⟩, ⟨some 60, .idxArrAddr 80 1, [.tmp 7, .tmp 59], none, true, 0, 0⟩, ⟨some 61, .load none, [.tmp 60], none, true, 0, 0⟩, ⟨some 62, .lenSl, [.tmp 61], none, true, 0, 0⟩, ⟨some 63, .bin .lss, [.tmp 58, .tmp 62], none, true, 0, 0⟩])]
def F3o15 : IC := .ops F3p15
def F3p16 : List (Sg × List IOp) := [(.free, [⟨some 66, .move, [.tmp 12], none, false, 0, 0⟩, ⟨some 67, .idxArrAddr 80 1, [.tmp 7, .tmp 66], none, false, 1, 1⟩, ⟨some 68, .load none, [.tmp 67], none, false, 2, 3⟩, ⟨some 69, .move, [.tmp 13], none, false, 3, 0⟩, ⟨some 70, .idxSl 2, [.tmp 68, .tmp 69], none, false, 4, 15⟩, ⟨some 71, .load (some 2), [.tmp 70], none, false, 5, 31⟩, ⟨some 72, .load (some 2), [.tmp 5], none, false, 6, 0⟩]), (.seq, [⟨some 73, .eqFlat false [.int, .int], [.tmp 71, .tmp 72], none, true, 7, 127⟩])]
def F3o16 : IC := .ops F3p16
def F3p17 : List (Sg × List IOp) := [(.seq, [⟨some 74, .move, [.tmp 12], none, true, 0, 0⟩, ⟨some 75, .conv .u8, [.tmp 74], none, true, 0, 0⟩, ⟨some 76, .call, [.val (.fn 13 [] []), .tmp 75], none, true, 0, 0⟩, ⟨none, .store 2, [.tmp 10, .tmp 76], none, true, 0, 0⟩])]
def F3o17 : IC := .ops F3p17
def F3p18 : List (Sg × List IOp) := [(.seq, [⟨some 77, .move, [.tmp 11], none, true, 0, 0⟩, ⟨some 78, .bin .add, [.tmp 77, .val (.int .i64 1)], none, true, 0, 0⟩, ⟨some 11, .move, [.tmp 78], none, true, 0, 0⟩])]
def F3o18 : IC := .ops F3p18
def F3p19 : List (Sg × List IOp) := [(.seq, [⟨some 64, .move, [.tmp 13], none, true, 0, 0⟩, ⟨some 65, .bin .add, [.tmp 64, .val (.int .i64 1)], none, true, 0, 0⟩, ⟨some 13, .move, [.tmp 65], none, true, 0, 0⟩])]
def F3o19 : IC := .ops F3p19
def F3l20 : IC := .seq (.seq (F3o15) (.cond (.tmp 63) (.skip) (.exit 2))) (.seq (.block 3 (.seq (F3o16) (.cond (.tmp 73) (.seq (F3o17) (F3o18)) (.skip)))) (F3o19))
def F3p21 : List (Sg × List IOp) := [(.seq, [⟨some 50, .move, [.tmp 12], none, true, 0, 0⟩, ⟨some 51, .bin .add, [.tmp 50, .val (.int .i64 1)], none, true, 0, 0⟩, ⟨some 12, .move, [.tmp 51], none, true, 0, 0⟩])]
def F3o21 : IC := .ops F3p21
def F3l22 : IC := .seq (.seq (F3o12) (.cond (.tmp 49) (.skip) (.exit 0))) (.seq (.block 1 (.seq (F3o13) (.seq (F3o14) (.block 2 (.loop F3l20))))) (F3o21))
def F3p23 : List (Sg × List IOp) := [(.seq, [⟨some 80, .load (some 2), [.tmp 8], none, true, 0, 0⟩, ⟨some 81, .load (some 2), [.tmp 5], none, true, 0, 0⟩, ⟨some 82, .call, [.val (.fn 14 [] []), .tmp 80, .tmp 81], none, true, 0, 0⟩, ⟨some 79, .move, [.tmp 82], none, true, 0, 0⟩, ⟨some 83, .extract 0, [.tmp 79], none, true, 0, 0⟩, ⟨some 84, .extract 1, [.tmp 79], none, true, 0, 0⟩, ⟨some 14, .alloc 26 2 [.int .u8 0, .int .i64 0], [], none, true, 0, 0⟩, ⟨none, .store 2, [.tmp 14, .tmp 83], none, true, 0, 0⟩, ⟨some 15, .move, [.tmp 84], none, true, 0, 0⟩])]
def F3o23 : IC := .ops F3p23
def F3p24 : List (Sg × List IOp) := [(.seq, [⟨some 16, .move, [.val (.int .i64 0)], none, true, 0, 0⟩])]
def F3o24 : IC := .ops F3p24
def F3p25 : List (Sg × List IOp) := [(.seq, [⟨some 85, .move, [.tmp 11], none, true, 0, 0⟩, ⟨some 86, .bin .eql, [.tmp 85, .val (.int .i64 0)], none, true, 0, 0⟩])]
def F3o25 : IC := .ops F3p25
def F3p26 : List (Sg × List IOp) := [(.seq, [⟨some 16, .move, [.val (.int .i64 7)], none, true, 0, 0⟩])]
def F3o26 : IC := .ops F3p26
def F3p27 : List (Sg × List IOp) := [(.seq, [⟨some 87, .move, [.tmp 15], none, true, 0, 0⟩, ⟨some 88, .move, [.tmp 16], none, true, 0, 0⟩, ⟨some 89, .bin .eql, [.tmp 87, .tmp 88], none, true, 0, 0⟩, ⟨some 90, .move, [.tmp 89], none, true, 0, 0⟩, ⟨some 91, .load (some 2), [.tmp 14], some (90, true), true, 0, 0⟩, ⟨some 92, .load (some 2), [.tmp 10], some (90, true), true, 0, 0⟩, ⟨some 93, .eqFlat false [.int, .int], [.tmp 91, .tmp 92], some (90, true), true, 0, 0⟩, ⟨some 94, .pick, [.tmp 90, .tmp 93, .val (.bool false)], none, true, 0, 0⟩, ⟨some 95, .move, [.tmp 94], none, true, 0, 0⟩, ⟨some 96, .load (some 2), [.tmp 8], some (95, true), true, 0, 0⟩, ⟨some 97, .call, [.val (.fn 15 [] []), .tmp 96], some (95, true), true, 0, 0⟩, ⟨some 98, .move, [.tmp 9], some (95, true), true, 0, 0⟩, ⟨some 99, .bin .eql, [.tmp 97, .tmp 98], some (95, true), true, 0, 0⟩, ⟨some 100, .pick, [.tmp 95, .tmp 99, .val (.bool false)], none, true, 0, 0⟩, ⟨some 101, .move, [.tmp 100], none, true, 0, 0⟩, ⟨some 102, .call, [.val (.fn 16 [] [])], some (101, true), true, 0, 0⟩, ⟨some 103, .pick, [.tmp 101, .tmp 102, .val (.bool false)], none, true, 0, 0⟩, ⟨some 6, .move, [.tmp 103], none, true, 0, 0⟩])]
def F3o27 : IC := .ops F3p27
def F3b : IC := .seq (F3o0) (.seq (F3o1) (.seq (F3o2) (.seq (.seq (F3o3) (.cond (.tmp 29) (.seq (F3o4) (.ret)) (.skip))) (.seq (.seq (F3o5) (.cond (.tmp 42) (.seq (F3o6) (.cond (.tmp 47) (.seq (F3o7) (.ret)) (.skip))) (.skip))) (.seq (F3o8) (.seq (F3o9) (.seq (F3o10) (.seq (.seq (F3o11) (.block 0 (.loop F3l22))) (.seq (F3o23) (.seq (F3o24) (.seq (.seq (F3o25) (.cond (.tmp 86) (F3o26) (.skip))) (.seq (F3o27) (.ret)))))))))))))
def F3 : IFn := ⟨104, [(6, none)], F3b⟩
/- 4: gansey/ganseylaw03.StacksSet -/
def F4p0 : List (Sg × List IOp) := [(.seq, [⟨some 4, .box 26 2, [.tmp 1], none, true, 0, 0⟩, ⟨some 6, .move, [.val (.bool false)], none, true, 0, 0⟩])]
def F4o0 : IC := .ops F4p0
def F4p1 : List (Sg × List IOp) := [(.seq, [⟨some 20, .move, [.tmp 2], none, true, 0, 0⟩, ⟨some 21, .lenSl, [.tmp 20], none, true, 0, 0⟩, ⟨some 22, .bin .gtr, [.tmp 21, .val (.int .i64 6)], none, true, 0, 0⟩])]
def F4o1 : IC := .ops F4p1
def F4p2 : List (Sg × List IOp) := [(.seq, [⟨some 23, .call, [.val (.fn 16 [] [])], none, true, 0, 0⟩, ⟨some 6, .move, [.tmp 23], none, true, 0, 0⟩])]
def F4o2 : IC := .ops F4p2
def F4p3 : List (Sg × List IOp) := [(.seq, [⟨some 24, .move, [.tmp 0], none, true, 0, 0⟩, ⟨some 25, .call, [.val (.fn 8 [] []), .tmp 24], none, true, 0, 0⟩, ⟨some 7, .alloc 31 80 [.nilSlice, .nilSlice, .nilSlice, .nilSlice, .nilSlice, .nilSlice, .nilSlice, .nilSlice, .nilSlice, .nilSlice, .nilSlice, .nilSlice, .nilSlice, .nilSlice, .nilSlice, .nilSlice, .nilSlice, .nilSlice, .nilSlice, .nilSlice, .nilSlice, .nilSlice, .nilSlice, .nilSlice, .nilSlice, .nilSlice, .nilSlice, .nilSlice, .nilSlice, .nilSlice, .nilSlice, .nilSlice, .nilSlice, .nilSlice, .nilSlice, .nilSlice, .nilSlice, .nilSlice, .nilSlice, .nilSlice, .nilSlice, .nilSlice, .nilSlice, .nilSlice, .nilSlice, .nilSlice, .nilSlice, .nilSlice, .nilSlice, .nilSlice, .nilSlice, .nilSlice, .nilSlice, .nilSlice, .nilSlice, .nilSlice, .nilSlice, .nilSlice, .nilSlice, .nilSlice, .nilSlice, .nilSlice, .nilSlice, .nilSlice, .nilSlice, .nilSlice, .nilSlice, .nilSlice, .nilSlice, .nilSlice, .nilSlice, .nilSlice, .nilSlice, .nilSlice, .nilSlice, .nilSlice, .nilSlice, .nilSlice, .nilSlice, .nilSlice], [], none, true, 0, 0⟩, ⟨none, .store 80, [.tmp 7, .tmp 25], none, true, 0, 0⟩])]
def F4o3 : IC := .ops F4p3
def F4p4 : List (Sg × List IOp) := [(.seq, [⟨some 26, .load (some 80), [.tmp 7], none, true, 0, 0⟩, ⟨some 27, .call, [.val (.fn 9 [] []), .tmp 26], none, true, 0, 0⟩, ⟨some 8, .alloc 35 2 [.nilSlice, .nilSlice], [], none, true, 0, 0⟩, ⟨none, .store 2, [.tmp 8, .tmp 27], none, true, 0, 0⟩])]
def F4o4 : IC := .ops F4p4
def F4p5 : List (Sg × List IOp) := [(.seq, [⟨some 29, .load (some 2), [.tmp 8], none, true, 0, 0⟩, ⟨some 30, .load (some 2), [.tmp 4], none, true, 0, 0⟩, ⟨some 31, .move, [.tmp 2], none, true, 0, 0⟩, ⟨some 32, .call, [.val (.fn 17 [] []), .tmp 29, .tmp 30, .tmp 31], none, true, 0, 0⟩, ⟨some 28, .move, [.tmp 32], none, true, 0, 0⟩, ⟨some 33, .extract 0, [.tmp 28], none, true, 0, 0⟩, ⟨some 34, .extract 1, [.tmp 28], none, true, 0, 0⟩, ⟨some 9, .alloc 35 2 [.nilSlice, .nilSlice], [], none, true, 0, 0⟩, ⟨none, .store 2, [.tmp 9, .tmp 33], none, true, 0, 0⟩, ⟨some 10, .move, [.tmp 34], none, true, 0, 0⟩])]
def F4o5 : IC := .ops F4p5
def F4p6 : List (Sg × List IOp) := [(.seq, [⟨some 11, .move, [.val (.int .i64 0)], none, true, 0, 0⟩])]
def F4o6 : IC := .ops F4p6
def F4p7 : List (Sg × List IOp) := [(.seq, [⟨some 12, .move, [.val (.int .i64 (-1))], none, true, 0, 0⟩])]
def F4o7 : IC := .ops F4p7
def F4p8 : List (Sg × List IOp) := [(.seq, [⟨some 13, .move, [.val (.int .i64 0)], none, true, 0, 0⟩])]
def F4o8 : IC := .ops F4p8
def F4p9 : List (Sg × List IOp) := [(.seq, [⟨some 35, .move, [.tmp 13], none, true, 0, 0⟩, ⟨some 36, .bin .lss, [.tmp 35, .val (.int .i64 80)], none, true, 0, 0⟩])]
def F4o9 : IC := .ops F4p9
def F4p10 : List (Sg × List IOp) := [(.free, [⟨some 39, .move, [.tmp 13], none, false, 0, 0⟩, ⟨some 40, .conv .u8, [.tmp 39], none, false, 1, 1⟩, ⟨some 41, .call, [.val (.fn 13 [] []), .tmp 40], none, false, 2, 3⟩, ⟨some 42, .load (some 2), [.tmp 4], none, false, 3, 0⟩]), (.seq, [⟨some 43, .eqFlat false [.int, .int], [.tmp 41, .tmp 42], none, true, 4, 15⟩])]
def F4o10 : IC := .ops F4p10
def F4p11 : List (Sg × List IOp) := [(.seq, [⟨some 44, .move, [.tmp 13], none, true, 0, 0⟩, ⟨some 12, .move, [.tmp 44], none, true, 0, 0⟩])]
def F4o11 : IC := .ops F4p11
def F4p12 : List (Sg × List IOp) := [(.seq, [⟨some 37, .move, [.tmp 13], none, true, 0, 0⟩, ⟨some 38, .bin .add, [.tmp 37, .val (.int .i64 1)], none, true, 0, 0⟩, ⟨some 13, .move, [.tmp 38], none, true, 0, 0⟩])]
def F4o12 : IC := .ops F4p12
def F4l13 : IC := .seq (.seq (F4o9) (.cond (.tmp 36) (.skip) (.exit 0))) (.seq (.block 1 (.seq (F4o10) (.cond (.tmp 43) (F4o11) (.skip)))) (F4o12))
def F4p14 : List (Sg × List IOp) := [(.seq, [⟨some 45, .move, [.tmp 12], none, true, 0, 0⟩, ⟨some 46, .bin .lss, [.tmp 45, .val (.int .i64 0)], none, true, 0, 0⟩])]
def F4o14 : IC := .ops F4p14
def F4p15 : List (Sg × List IOp) := [(.seq, [⟨some 11, .move, [.val (.int .i64 1)], none, true, 0, 0⟩])]
def F4o15 : IC := .ops F4p15
def F4p16 : List (Sg × List IOp) := [(.seq, [⟨some 14, .move, [.val (.int .i64 0)], none, true, 0, 0⟩])]
def F4o16 : IC := .ops F4p16
def F4p17 : List (Sg × List IOp) := [(.seq, [⟨some 47, .move, [.tmp 14], none, true, 0, 0⟩, ⟨some 48, .move, [.tmp 2], none, true, 0, 0⟩, ⟨some 49, .lenSl, [.tmp 48], none, true, 0, 0⟩, ⟨some 50, .bin .lss, [.tmp 47, .tmp 49], none, true, 0, 0⟩])]
def F4o17 : IC := .ops F4p17
def F4p18 : List (Sg × List IOp) := [(.seq, [⟨some 53, .move, [.tmp 2], none, true, 0, 0⟩, ⟨some 54, .move, [.tmp 14], none, true, 0, 0⟩, ⟨some 55, .idxSl 2, [.tmp 53, .tmp 54], none, true, 0, 0⟩, ⟨some 56, .fieldAddr 0, [.tmp 55], none, true, 0, 0⟩, ⟨some 57, .load none, [.tmp 56], none, true, 0, 0⟩, ⟨some 58, .bin .lss, [.tmp 57, .val (.int .u8 1)], none, true, 0, 0⟩, ⟨some 59, .move, [.tmp 58], none, true, 0, 0⟩, ⟨some 60, .move, [.tmp 2], some (59, false), true, 0, 0⟩, ⟨some 61, .move, [.tmp 14], some (59, false), true, 0, 0⟩, ⟨some 62, .idxSl 2, [.tmp 60, .tmp 61], some (59, false), true, 0, 0⟩, ⟨some 63, .fieldAddr 0, [.tmp 62], some (59, false), true, 0, 0⟩, ⟨some 64, .load none, [.tmp 63], some (59, false), true, 0, 0⟩, ⟨some 65, .bin .gtr, [.tmp 64, .val (.int .u8 6)], some (59, false), true, 0, 0⟩, ⟨some 66, .pick, [.tmp 59, .val (.bool true), .tmp 65], none, true, 0, 0⟩, ⟨some 67, .move, [.tmp 66], none, true, 0, 0⟩, ⟨some 68, .move, [.tmp 2], some (67, false), true, 0, 0⟩, ⟨some 69, .move, [.tmp 14], some (67, false), true, 0, 0⟩, ⟨some 70, .idxSl 2, [.tmp 68, .tmp 69], some (67, false), true, 0, 0⟩, ⟨some 71, .fieldAddr 1, [.tmp 70], some (67, false), true, 0, 0⟩, ⟨some 72, .load none, [.tmp 71], some (67, false), true, 0, 0⟩, ⟨some 73, .bin .lss, [.tmp 72, .val (.int .i64 0)], some (67, false), true, 0, 0⟩, ⟨some 74, .pick, [.tmp 67, .val (.bool true), .tmp 73], none, true, 0, 0⟩, ⟨some 75, .move, [.tmp 74], none, true, 0, 0⟩, ⟨some 76, .move, [.tmp 2], some (75, false), true, 0, 0⟩, ⟨some 77, .move, [.tmp 14], some (75, false), true, 0, 0⟩, ⟨some 78, .idxSl 2, [.tmp 76, .tmp 77], some (75, false), true, 0, 0⟩, ⟨some 79, .fieldAddr 1, [.tmp 78], some (75, false), true, 0, 0⟩, ⟨some 80, .load none, [.tmp 79], some (75, false), true, 0, 0⟩, ⟨some 81, .bin .gtr, [.tmp 80, .val (.int .i64 2047)], some (75, false), true, 0, 0⟩, ⟨some 82, .pick, [.tmp 75, .val (.bool true), .tmp 81], none, true, 0, 0⟩])]
def F4o18 : IC := .ops F4p18
def F4p19 : List (Sg × List IOp) := [(.seq, [⟨some 11, .move, [.val (.int .i64 1)], none, true, 0, 0⟩])]
def F4o19 : IC := .ops F4p19
def F4p20 : List (Sg × List IOp) := [(.seq, [⟨some 51, .move, [.tmp 14], none, true, 0, 0⟩, ⟨some 52, .bin .add, [.tmp 51, .val (.int .i64 1)], none, true, 0, 0⟩, ⟨some 14, .move, [.tmp 52], none, true, 0, 0⟩])]
def F4o20 : IC := .ops F4p20
def F4l21 : IC := .seq (.seq (F4o17) (.cond (.tmp 50) (.skip) (.exit 2))) (.seq (.block 3 (.seq (F4o18) (.cond (.tmp 82) (F4o19) (.skip)))) (F4o20))
def F4p22 : List (Sg × List IOp) := [(.seq, [⟨some 83, .move, [.tmp 11], none, true, 0, 0⟩, ⟨some 84, .bin .eql, [.tmp 83, .val (.int .i64 0)], none, true, 0, 0⟩, ⟨some 85, .move, [.tmp 84], none, true, 0, 0⟩, ⟨some 86, .move, [.tmp 2], some (85, true), true, 0, 0⟩, ⟨some 87, .lenSl, [.tmp 86], some (85, true), true, 0, 0⟩, ⟨some 88, .bin .gtr, [.tmp 87, .val (.int .i64 4)], some (85, true), true, 0, 0⟩, ⟨some 89, .pick, [.tmp 85, .tmp 88, .val (.bool false)], none, true, 0, 0⟩])]
def F4o22 : IC := .ops F4p22
def F4p23 : List (Sg × List IOp) := [(.seq, [⟨some 11, .move, [.val (.int .i64 9)], none, true, 0, 0⟩])]
def F4o23 : IC := .ops F4p23
def F4p24 : List (Sg × List IOp) := [(.seq, [⟨some 15, .move, [.val (.int .i64 0)], none, true, 0, 0⟩])]
def F4o24 : IC := .ops F4p24
def F4p25 : List (Sg × List IOp) := [(.seq, [⟨some 90, .move, [.tmp 15], none, true, 0, 0⟩, ⟨some 91, .move, [.tmp 2], none, true, 0, 0⟩, ⟨some 92, .lenSl, [.tmp 91], none, true, 0, 0⟩, ⟨some 93, .bin .lss, [.tmp 90, .tmp 92], none, true, 0, 0⟩, ⟨some 94, .move, [.tmp 93], none, true, 0, 0⟩, ⟨some 95, .move, [.tmp 11], some (94, true), true, 0, 0⟩, ⟨some 96, .bin .eql, [.tmp 95, .val (.int .i64 0)], some (94, true), true, 0, 0⟩, ⟨some 97, .pick, [.tmp 94, .tmp 96, .val (.bool false)], none, true, 0, 0⟩])]
def F4o25 : IC := .ops F4p25
def F4p26 : List (Sg × List IOp) := [(.seq, [⟨some 16, .move, [.val (.int .i64 0)], none, true, 0, 0⟩])]
def F4o26 : IC := .ops F4p26
def F4p27 : List (Sg × List IOp) := [(.seq, [⟨some 100, .move, [.tmp 16], none, true, 0, 0⟩, ⟨some 101, .move, [.tmp 15], none, true, 0, 0⟩, ⟨some 102, .bin .lss, [.tmp 100, .tmp 101], none, true, 0, 0⟩])]
def F4o27 : IC := .ops F4p27
def F4p28 : List (Sg × List IOp) := [(.free, [⟨some 105, .move, [.tmp 2], none, false, 0, 0⟩, ⟨some 106, .move, [.tmp 16], none, false, 1, 0⟩, ⟨some 107, .idxSl 2, [.tmp 105, .tmp 106], none, false, 2, 3⟩, ⟨some 108, .load (some 2), [.tmp 107], none, false, 3, 7⟩, ⟨some 109, .move, [.tmp 2], none, false, 4, 0⟩, ⟨some 110, .move, [.tmp 15], none, false, 5, 0⟩, ⟨some 111, .idxSl 2, [.tmp 109, .tmp 110], none, false, 6, 48⟩, ⟨some 112, .load (some 2), [.tmp 111], none, false, 7, 112⟩]), (.seq, [⟨some 113, .eqFlat false [.int, .int], [.tmp 108, .tmp 112], none, true, 8, 255⟩])]
def F4o28 : IC := .ops F4p28
def F4p29 : List (Sg × List IOp) := [(.seq, [⟨some 11, .move, [.val (.int .i64 8)], none, true, 0, 0⟩])]
def F4o29 : IC := .ops F4p29
def F4p30 : List (Sg × List IOp) := [(.seq, [⟨some 103, .move, [.tmp 16], none, true, 0, 0⟩, ⟨some 104, .bin .add, [.tmp 103, .val (.int .i64 1)], none, true, 0, 0⟩, ⟨some 16, .move, [.tmp 104], none, true, 0, 0⟩])]
def F4o30 : IC := .ops F4p30
def F4l31 : IC := .seq (.seq (F4o27) (.cond (.tmp 102) (.skip) (.exit 6))) (.seq (.block 7 (.seq (F4o28) (.cond (.tmp 113) (F4o29) (.skip)))) (F4o30))
def F4p32 : List (Sg × List IOp) := [(.seq, [⟨some 17, .move, [.val (.int .i64 0)], none, true, 0, 0⟩])]
def F4o32 : IC := .ops F4p32
def F4p33 : List (Sg × List IOp) := [(.seq, [⟨some 114, .move, [.tmp 17], none, true, 0, 0⟩, ⟨some 115, .bin .lss, [.tmp 114, .val (.int .i64 80)], none, true, 0, 0⟩])]
def F4o33 : IC := .ops F4p33
def F4p34 : List (Sg × List IOp) := [(.seq, [⟨some 18, .move, [.val (.int .i64 0)], none, true, 0, 0⟩])]
def F4o34 : IC := .ops F4p34
def F4p35 : List (Sg × List IOp) := [(.seq, [⟨some 118, .move, [.tmp 18], none, true, 0, 0⟩, ⟨some 119, .move, [.tmp 17], none, true, 0, 0⟩, ⟨some 120, .idxArrAddr 80 1, [.tmp 7, .tmp 119], none, true, 0, 0⟩, ⟨some 121, .load none, [.tmp 120], none, true, 0, 0⟩, ⟨some 122, .lenSl, [.tmp 121], none, true, 0, 0⟩, ⟨some 123, .bin .lss, [.tmp 118, .tmp 122], none, true, 0, 0⟩, ⟨some 124, .move, [.tmp 123], none, true, 0, 0⟩, ⟨some 125, .move, [.tmp 17], some (124, true), true, 0, 0⟩, ⟨some 126, .move, [.tmp 12], some (124, true), true, 0, 0⟩, ⟨some 127, .bin .neq, [.tmp 125, .tmp 126], some (124, true), true, 0, 0⟩, ⟨some 128, .pick, [.tmp 124, .tmp 127, .val (.bool false)], none, true, 0, 0⟩])]
def F4o35 : IC := .ops F4p35
def F4p36 : List (Sg × List IOp) := [(.free, [⟨some 131, .move, [.tmp 17], none, false, 0, 0⟩, ⟨some 132, .idxArrAddr 80 1, [.tmp 7, .tmp 131], none, false, 1, 1⟩, ⟨some 133, .load none, [.tmp 132], none, false, 2, 3⟩, ⟨some 134, .move, [.tmp 18], none, false, 3, 0⟩, ⟨some 135, .idxSl 2, [.tmp 133, .tmp 134], none, false, 4, 15⟩, ⟨some 136, .load (some 2), [.tmp 135], none, false, 5, 31⟩, ⟨some 137, .move, [.tmp 2], none, false, 6, 0⟩, ⟨some 138, .move, [.tmp 15], none, false, 7, 0⟩, ⟨some 139, .idxSl 2, [.tmp 137, .tmp 138], none, false, 8, 192⟩, ⟨some 140, .load (some 2), [.tmp 139], none, false, 9, 448⟩]), (.seq, [⟨some 141, .eqFlat false [.int, .int], [.tmp 136, .tmp 140], none, true, 10, 1023⟩])]
def F4o36 : IC := .ops F4p36
def F4p37 : List (Sg × List IOp) := [(.seq, [⟨some 11, .move, [.val (.int .i64 8)], none, true, 0, 0⟩])]
def F4o37 : IC := .ops F4p37
def F4p38 : List (Sg × List IOp) := [(.seq, [⟨some 129, .move, [.tmp 18], none, true, 0, 0⟩, ⟨some 130, .bin .add, [.tmp 129, .val (.int .i64 1)], none, true, 0, 0⟩, ⟨some 18, .move, [.tmp 130], none, true, 0, 0⟩])]
def F4o38 : IC := .ops F4p38
def F4l39 : IC := .seq (.seq (F4o35) (.cond (.tmp 128) (.skip) (.exit 10))) (.seq (.block 11 (.seq (F4o36) (.cond (.tmp 141) (F4o37) (.skip)))) (F4o38))
def F4p40 : List (Sg × List IOp) := [(.seq, [⟨some 116, .move, [.tmp 17], none, true, 0, 0⟩, ⟨some 117, .bin .add, [.tmp 116, .val (.int .i64 1)], none, true, 0, 0⟩, ⟨some 17, .move, [.tmp 117], none, true, 0, 0⟩])]
def F4o40 : IC := .ops F4p40
def F4l41 : IC := .seq (.seq (F4o33) (.cond (.tmp 115) (.skip) (.exit 8))) (.seq (.block 9 (.seq (F4o34) (.block 10 (.loop F4l39)))) (F4o40))
def F4p42 : List (Sg × List IOp) := [(.seq, [⟨some 98, .move, [.tmp 15], none, true, 0, 0⟩, ⟨some 99, .bin .add, [.tmp 98, .val (.int .i64 1)], none, true, 0, 0⟩, ⟨some 15, .move, [.tmp 99], none, true, 0, 0⟩])]
def F4o42 : IC := .ops F4p42
def F4l43 : IC := .seq (.seq (F4o25) (.cond (.tmp 97) (.skip) (.exit 4))) (.seq (.block 5 (.seq (.seq (F4o26) (.block 6 (.loop F4l31))) (.seq (F4o32) (.block 8 (.loop F4l41))))) (F4o42))
def F4p44 : List (Sg × List IOp) := [(.seq, [⟨some 142, .move, [.tmp 10], none, true, 0, 0⟩, ⟨some 143, .move, [.tmp 11], none, true, 0, 0⟩, ⟨some 144, .bin .neq, [.tmp 142, .tmp 143], none, true, 0, 0⟩, ⟨some 145, .move, [.tmp 144], none, true, 0, 0⟩, ⟨some 146, .load (some 80), [.tmp 7], some (145, false), true, 0, 0⟩, ⟨some 147, .load (some 2), [.tmp 8], some (145, false), true, 0, 0⟩, ⟨some 148, .call, [.val (.fn 11 [] []), .tmp 146, .tmp 147], some (145, false), true, 0, 0⟩, ⟨some 149, .bin .neq, [.tmp 148, .val (.int .i64 0)], some (145, false), true, 0, 0⟩, ⟨some 150, .pick, [.tmp 145, .val (.bool true), .tmp 149], none, true, 0, 0⟩])]
def F4o44 : IC := .ops F4p44
def F4p45 : List (Sg × List IOp) := [(.seq, [⟨some 6, .move, [.val (.bool false)], none, true, 0, 0⟩])]
def F4o45 : IC := .ops F4p45
def F4p46 : List (Sg × List IOp) := [(.seq, [⟨some 151, .move, [.tmp 10], none, true, 0, 0⟩, ⟨some 152, .bin .neq, [.tmp 151, .val (.int .i64 0)], none, true, 0, 0⟩])]
def F4o46 : IC := .ops F4p46
def F4p47 : List (Sg × List IOp) := [(.seq, [⟨some 153, .fieldAddr 0, [.tmp 9], none, true, 0, 0⟩, ⟨some 154, .load none, [.tmp 153], none, true, 0, 0⟩, ⟨some 155, .lenSl, [.tmp 154], none, true, 0, 0⟩, ⟨some 156, .bin .eql, [.tmp 155, .val (.int .i64 0)], none, true, 0, 0⟩, ⟨some 157, .move, [.tmp 156], none, true, 0, 0⟩, ⟨some 158, .fieldAddr 1, [.tmp 9], some (157, true), true, 0, 0⟩, ⟨some 159, .load none, [.tmp 158], some (157, true), true, 0, 0⟩, ⟨some 160, .lenSl, [.tmp 159], some (157, true), true, 0, 0⟩, ⟨some 161, .bin .eql, [.tmp 160, .val (.int .i64 0)], some (157, true), true, 0, 0⟩, ⟨some 162, .pick, [.tmp 157, .tmp 161, .val (.bool false)], none, true, 0, 0⟩, ⟨some 163, .move, [.tmp 162], none, true, 0, 0⟩, ⟨some 164, .call, [.val (.fn 16 [] [])], some (163, true), true, 0, 0⟩, ⟨some 165, .pick, [.tmp 163, .tmp 164, .val (.bool false)], none, true, 0, 0⟩, ⟨some 6, .move, [.tmp 165], none, true, 0, 0⟩])]
def F4o47 : IC := .ops F4p47
def F4p48 : List (Sg × List IOp) := [(.seq, [⟨some 166, .move, [.tmp 12], none, true, 0, 0⟩, ⟨some 167, .buildSl 28 2 0 [] [], [], none, true, 0, 0⟩, ⟨some 168, .move, [.tmp 2], none, true, 0, 0⟩, ⟨some 169, .append 28 2 16, [.tmp 167, .tmp 168], none, true, 0, 0⟩, ⟨some 170, .idxArrAddr 80 1, [.tmp 7, .tmp 166], none, true, 0, 0⟩, ⟨none, .store 1, [.tmp 170, .tmp 169], none, true, 0, 0⟩])]
def F4o48 : IC := .ops F4p48
def F4p49 : List (Sg × List IOp) := [(.seq, [⟨some 171, .load (some 80), [.tmp 7], none, true, 0, 0⟩, ⟨some 172, .load (some 2), [.tmp 9], none, true, 0, 0⟩, ⟨some 173, .call, [.val (.fn 11 [] []), .tmp 171, .tmp 172], none, true, 0, 0⟩, ⟨some 174, .bin .neq, [.tmp 173, .val (.int .i64 0)], none, true, 0, 0⟩])]
def F4o49 : IC := .ops F4p49
def F4p50 : List (Sg × List IOp) := [(.seq, [⟨some 6, .move, [.val (.bool false)], none, true, 0, 0⟩])]
def F4o50 : IC := .ops F4p50
def F4p51 : List (Sg × List IOp) := [(.free, [⟨some 176, .load (some 2), [.tmp 9], none, false, 0, 0⟩, ⟨some 177, .load (some 2), [.tmp 4], none, false, 1, 0⟩, ⟨some 178, .load (some 2), [.tmp 9], none, false, 2, 0⟩, ⟨some 179, .load (some 2), [.tmp 4], none, false, 3, 0⟩, ⟨some 180, .call, [.val (.fn 12 [] []), .tmp 178, .tmp 179], none, false, 4, 12⟩, ⟨some 181, .call, [.val (.fn 17 [] []), .tmp 176, .tmp 177, .tmp 180], none, false, 5, 31⟩, ⟨some 175, .move, [.tmp 181], none, false, 6, 63⟩, ⟨some 182, .extract 0, [.tmp 175], none, false, 7, 127⟩, ⟨some 183, .extract 1, [.tmp 175], none, false, 8, 127⟩, ⟨some 19, .alloc 35 2 [.nilSlice, .nilSlice], [], none, false, 9, 0⟩, ⟨none, .store 2, [.tmp 19, .tmp 182], none, true, 10, 767⟩]), (.seq, [⟨some 10, .move, [.tmp 183], none, true, 11, 2047⟩])]
def F4o51 : IC := .ops F4p51
def F4p52 : List (Sg × List IOp) := [(.seq, [⟨some 184, .move, [.tmp 10], none, true, 0, 0⟩, ⟨some 185, .bin .eql, [.tmp 184, .val (.int .i64 0)], none, true, 0, 0⟩, ⟨some 186, .move, [.tmp 185], none, true, 0, 0⟩, ⟨some 187, .load (some 2), [.tmp 19], some (186, true), true, 0, 0⟩, ⟨some 188, .load (some 2), [.tmp 9], some (186, true), true, 0, 0⟩, ⟨some 189, .call, [.val (.fn 18 [] []), .tmp 187, .tmp 188], some (186, true), true, 0, 0⟩, ⟨some 190, .pick, [.tmp 186, .tmp 189, .val (.bool false)], none, true, 0, 0⟩, ⟨some 191, .move, [.tmp 190], none, true, 0, 0⟩, ⟨some 192, .call, [.val (.fn 16 [] [])], some (191, true), true, 0, 0⟩, ⟨some 193, .pick, [.tmp 191, .tmp 192, .val (.bool false)], none, true, 0, 0⟩, ⟨some 6, .move, [.tmp 193], none, true, 0, 0⟩])]
def F4o52 : IC := .ops F4p52
def F4b : IC := .seq (F4o0) (.seq (.seq (F4o1) (.cond (.tmp 22) (.seq (F4o2) (.ret)) (.skip))) (.seq (F4o3) (.seq (F4o4) (.seq (F4o5) (.seq (F4o6) (.seq (F4o7) (.seq (.seq (F4o8) (.block 0 (.loop F4l13))) (.seq (.seq (F4o14) (.cond (.tmp 46) (F4o15) (.skip))) (.seq (.seq (F4o16) (.block 2 (.loop F4l21))) (.seq (.seq (F4o22) (.cond (.tmp 89) (F4o23) (.skip))) (.seq (.seq (F4o24) (.block 4 (.loop F4l43))) (.seq (.seq (F4o44) (.cond (.tmp 150) (.seq (F4o45) (.ret)) (.skip))) (.seq (.seq (F4o46) (.cond (.tmp 152) (.seq (F4o47) (.ret)) (.skip))) (.seq (F4o48) (.seq (.seq (F4o49) (.cond (.tmp 174) (.seq (F4o50) (.ret)) (.skip))) (.seq (F4o51) (.seq (F4o52) (.ret))))))))))))))))))
def F4 : IFn := ⟨194, [(6, none)], F4b⟩
/- 5: gansey/ganseylaw03.StacksJoin -/
def F5p0 : List (Sg × List IOp) := [(.seq, [⟨some 4, .box 26 2, [.tmp 1], none, true, 0, 0⟩, ⟨some 5, .box 26 2, [.tmp 2], none, true, 0, 0⟩, ⟨some 6, .move, [.val (.bool false)], none, true, 0, 0⟩])]
def F5o0 : IC := .ops F5p0
def F5p1 : List (Sg × List IOp) := [(.seq, [⟨some 18, .move, [.tmp 0], none, true, 0, 0⟩, ⟨some 19, .call, [.val (.fn 8 [] []), .tmp 18], none, true, 0, 0⟩, ⟨some 7, .alloc 31 80 [.nilSlice, .nilSlice, .nilSlice, .nilSlice, .nilSlice, .nilSlice, .nilSlice, .nilSlice, .nilSlice, .nilSlice, .nilSlice, .nilSlice, .nilSlice, .nilSlice, .nilSlice, .nilSlice, .nilSlice, .nilSlice, .nilSlice, .nilSlice, .nilSlice, .nilSlice, .nilSlice, .nilSlice, .nilSlice, .nilSlice, .nilSlice, .nilSlice, .nilSlice, .nilSlice, .nilSlice, .nilSlice, .nilSlice, .nilSlice, .nilSlice, .nilSlice, .nilSlice, .nilSlice, .nilSlice, .nilSlice, .nilSlice, .nilSlice, .nilSlice, .nilSlice, .nilSlice, .nilSlice, .nilSlice, .nilSlice, .nilSlice, .nilSlice, .nilSlice, .nilSlice, .nilSlice, .nilSlice, .nilSlice, .nilSlice, .nilSlice, .nilSlice, .nilSlice, .nilSlice, .nilSlice, .nilSlice, .nilSlice, .nilSlice, .nilSlice, .nilSlice, .nilSlice, .nilSlice, .nilSlice, .nilSlice, .nilSlice, .nilSlice, .nilSlice, .nilSlice, .nilSlice, .nilSlice, .nilSlice, .nilSlice, .nilSlice, .nilSlice], [], none, true, 0, 0⟩, ⟨none, .store 80, [.tmp 7, .tmp 19], none, true, 0, 0⟩])]
def F5o1 : IC := .ops F5p1
def F5p2 : List (Sg × List IOp) := [(.seq, [⟨some 20, .load (some 80), [.tmp 7], none, true, 0, 0⟩, ⟨some 21, .call, [.val (.fn 9 [] []), .tmp 20], none, true, 0, 0⟩, ⟨some 8, .alloc 35 2 [.nilSlice, .nilSlice], [], none, true, 0, 0⟩, ⟨none, .store 2, [.tmp 8, .tmp 21], none, true, 0, 0⟩])]
def F5o2 : IC := .ops F5p2
def F5p3 : List (Sg × List IOp) := [(.seq, [⟨some 23, .load (some 2), [.tmp 8], none, true, 0, 0⟩, ⟨some 24, .load (some 2), [.tmp 4], none, true, 0, 0⟩, ⟨some 25, .load (some 2), [.tmp 5], none, true, 0, 0⟩, ⟨some 26, .call, [.val (.fn 19 [] []), .tmp 23, .tmp 24, .tmp 25], none, true, 0, 0⟩, ⟨some 22, .move, [.tmp 26], none, true, 0, 0⟩, ⟨some 27, .extract 0, [.tmp 22], none, true, 0, 0⟩, ⟨some 28, .extract 1, [.tmp 22], none, true, 0, 0⟩, ⟨some 9, .alloc 35 2 [.nilSlice, .nilSlice], [], none, true, 0, 0⟩, ⟨none, .store 2, [.tmp 9, .tmp 27], none, true, 0, 0⟩, ⟨some 10, .move, [.tmp 28], none, true, 0, 0⟩])]
def F5o3 : IC := .ops F5p3
def F5p4 : List (Sg × List IOp) := [(.seq, [⟨some 11, .move, [.val (.int .i64 (-1))], none, true, 0, 0⟩, ⟨some 12, .move, [.val (.int .i64 (-1))], none, true, 0, 0⟩])]
def F5o4 : IC := .ops F5p4
def F5p5 : List (Sg × List IOp) := [(.seq, [⟨some 13, .move, [.val (.int .i64 0)], none, true, 0, 0⟩])]
def F5o5 : IC := .ops F5p5
def F5p6 : List (Sg × List IOp) := [(.seq, [⟨some 29, .move, [.tmp 13], none, true, 0, 0⟩, ⟨some 30, .bin .lss, [.tmp 29, .val (.int .i64 80)], none, true, 0, 0⟩])]
def F5o6 : IC := .ops F5p6
def F5p7 : List (Sg × List IOp) := [(.free, [⟨some 33, .move, [.tmp 13], none, false, 0, 0⟩, ⟨some 34, .conv .u8, [.tmp 33], none, false, 1, 1⟩, ⟨some 35, .call, [.val (.fn 13 [] []), .tmp 34], none, false, 2, 3⟩, ⟨some 36, .load (some 2), [.tmp 4], none, false, 3, 0⟩]), (.seq, [⟨some 37, .eqFlat false [.int, .int], [.tmp 35, .tmp 36], none, true, 4, 15⟩])]
def F5o7 : IC := .ops F5p7
def F5p8 : List (Sg × List IOp) := [(.seq, [⟨some 38, .move, [.tmp 13], none, true, 0, 0⟩, ⟨some 11, .move, [.tmp 38], none, true, 0, 0⟩])]
def F5o8 : IC := .ops F5p8
def F5p9 : List (Sg × List IOp) := [(.free, [⟨some 39, .move, [.tmp 13], none, false, 0, 0⟩, ⟨some 40, .conv .u8, [.tmp 39], none, false, 1, 1⟩, ⟨some 41, .call, [.val (.fn 13 [] []), .tmp 40], none, false, 2, 3⟩, ⟨some 42, .load (some 2), [.tmp 5], none, false, 3, 0⟩]), (.seq, [⟨some 43, .eqFlat false [.int, .int], [.tmp 41, .tmp 42], none, true, 4, 15⟩])]
def F5o9 : IC := .ops F5p9
def F5p10 : List (Sg × List IOp) := [(.seq, [⟨some 44, .move, [.tmp 13], none, true, 0, 0⟩, ⟨some 12, .move, [.tmp 44], none, true, 0, 0⟩])]
def F5o10 : IC := .ops F5p10
def F5p11 : List (Sg × List IOp) := [(.seq, [⟨some 31, .move, [.tmp 13], none, true, 0, 0⟩, ⟨some 32, .bin .add, [.tmp 31, .val (.int .i64 1)], none, true, 0, 0⟩, ⟨some 13, .move, [.tmp 32], none, true, 0, 0⟩])]
def F5o11 : IC := .ops F5p11
def F5l12 : IC := .seq (.seq (F5o6) (.cond (.tmp 30) (.skip) (.exit 0))) (.seq (.block 1 (.seq (.seq (F5o7) (.cond (.tmp 37) (F5o8) (.skip))) (.seq (F5o9) (.cond (.tmp 43) (F5o10) (.skip))))) (F5o11))
def F5p13 : List (Sg × List IOp) := [(.seq, [⟨some 14, .move, [.val (.int .i64 0)], none, true, 0, 0⟩])]
def F5o13 : IC := .ops F5p13
def F5p14 : List (Sg × List IOp) := [(.seq, [⟨some 46, .move, [.tmp 11], none, true, 0, 0⟩, ⟨some 47, .bin .lss, [.tmp 46, .val (.int .i64 0)], none, true, 0, 0⟩, ⟨some 48, .move, [.tmp 47], none, true, 0, 0⟩, ⟨some 49, .move, [.tmp 12], some (48, false), true, 0, 0⟩, ⟨some 50, .bin .lss, [.tmp 49, .val (.int .i64 0)], some (48, false), true, 0, 0⟩, ⟨some 51, .pick, [.tmp 48, .val (.bool true), .tmp 50], none, true, 0, 0⟩, ⟨some 52, .move, [.tmp 51], none, true, 0, 0⟩, ⟨some 53, .fieldAddr 0, [.tmp 4], some (52, false), true, 0, 0⟩, ⟨some 54, .load none, [.tmp 53], some (52, false), true, 0, 0⟩, ⟨some 55, .fieldAddr 0, [.tmp 5], some (52, false), true, 0, 0⟩, ⟨some 56, .load none, [.tmp 55], some (52, false), true, 0, 0⟩, ⟨some 57, .bin .eql, [.tmp 54, .tmp 56], some (52, false), true, 0, 0⟩, ⟨some 58, .pick, [.tmp 52, .val (.bool true), .tmp 57], none, true, 0, 0⟩, ⟨some 45, .move, [.tmp 58], none, true, 0, 0⟩])]
def F5o14 : IC := .ops F5p14
def F5p15 : List (Sg × List IOp) := [(.seq, [⟨some 14, .move, [.val (.int .i64 1)], none, true, 0, 0⟩])]
def F5o15 : IC := .ops F5p15
def F5p16 : List (Sg × List IOp) := [(.seq, [⟨some 60, .move, [.tmp 11], none, true, 0, 0⟩, ⟨some 61, .idxArrAddr 80 1, [.tmp 7, .tmp 60], none, true, 0, 0⟩, ⟨some 62, .load none, [.tmp 61], none, true, 0, 0⟩, ⟨some 63, .lenSl, [.tmp 62], none, true, 0, 0⟩, ⟨some 64, .bin .eql, [.tmp 63, .val (.int .i64 0)], none, true, 0, 0⟩, ⟨some 59, .move, [.tmp 64], none, true, 0, 0⟩])]
def F5o16 : IC := .ops F5p16
def F5p17 : List (Sg × List IOp) := [(.seq, [⟨some 14, .move, [.val (.int .i64 13)], none, true, 0, 0⟩])]
def F5o17 : IC := .ops F5p17
def F5p18 : List (Sg × List IOp) := [(.free, [⟨some 66, .move, [.tmp 11], none, false, 0, 0⟩, ⟨some 67, .idxArrAddr 80 1, [.tmp 7, .tmp 66], none, false, 1, 1⟩, ⟨some 68, .load none, [.tmp 67], none, false, 2, 3⟩, ⟨some 69, .lenSl, [.tmp 68], none, false, 3, 7⟩, ⟨some 70, .move, [.tmp 12], none, false, 4, 0⟩, ⟨some 71, .idxArrAddr 80 1, [.tmp 7, .tmp 70], none, false, 5, 16⟩, ⟨some 72, .load none, [.tmp 71], none, false, 6, 48⟩, ⟨some 73, .lenSl, [.tmp 72], none, false, 7, 112⟩]), (.seq, [⟨some 74, .bin .add, [.tmp 69, .tmp 73], none, true, 8, 255⟩]), (.seq, [⟨some 75, .bin .gtr, [.tmp 74, .val (.int .i64 4)], none, true, 9, 511⟩]), (.seq, [⟨some 65, .move, [.tmp 75], none, true, 10, 1023⟩])]
def F5o18 : IC := .ops F5p18
def F5p19 : List (Sg × List IOp) := [(.seq, [⟨some 14, .move, [.val (.int .i64 9)], none, true, 0, 0⟩])]
def F5o19 : IC := .ops F5p19
def F5p20 : List (Sg × List IOp) := [(.seq, [⟨some 76, .move, [.tmp 10], none, true, 0, 0⟩, ⟨some 77, .move, [.tmp 14], none, true, 0, 0⟩, ⟨some 78, .bin .neq, [.tmp 76, .tmp 77], none, true, 0, 0⟩, ⟨some 79, .move, [.tmp 78], none, true, 0, 0⟩, ⟨some 80, .load (some 80), [.tmp 7], some (79, false), true, 0, 0⟩, ⟨some 81, .load (some 2), [.tmp 8], some (79, false), true, 0, 0⟩, ⟨some 82, .call, [.val (.fn 11 [] []), .tmp 80, .tmp 81], some (79, false), true, 0, 0⟩, ⟨some 83, .bin .neq, [.tmp 82, .val (.int .i64 0)], some (79, false), true, 0, 0⟩, ⟨some 84, .pick, [.tmp 79, .val (.bool true), .tmp 83], none, true, 0, 0⟩])]
def F5o20 : IC := .ops F5p20
def F5p21 : List (Sg × List IOp) := [(.seq, [⟨some 6, .move, [.val (.bool false)], none, true, 0, 0⟩])]
def F5o21 : IC := .ops F5p21
def F5p22 : List (Sg × List IOp) := [(.seq, [⟨some 85, .move, [.tmp 10], none, true, 0, 0⟩, ⟨some 86, .bin .neq, [.tmp 85, .val (.int .i64 0)], none, true, 0, 0⟩])]
def F5o22 : IC := .ops F5p22
def F5p23 : List (Sg × List IOp) := [(.seq, [⟨some 87, .fieldAddr 0, [.tmp 9], none, true, 0, 0⟩, ⟨some 88, .load none, [.tmp 87], none, true, 0, 0⟩, ⟨some 89, .lenSl, [.tmp 88], none, true, 0, 0⟩, ⟨some 90, .bin .eql, [.tmp 89, .val (.int .i64 0)], none, true, 0, 0⟩, ⟨some 91, .move, [.tmp 90], none, true, 0, 0⟩, ⟨some 92, .fieldAddr 1, [.tmp 9], some (91, true), true, 0, 0⟩, ⟨some 93, .load none, [.tmp 92], some (91, true), true, 0, 0⟩, ⟨some 94, .lenSl, [.tmp 93], some (91, true), true, 0, 0⟩, ⟨some 95, .bin .eql, [.tmp 94, .val (.int .i64 0)], some (91, true), true, 0, 0⟩, ⟨some 96, .pick, [.tmp 91, .tmp 95, .val (.bool false)], none, true, 0, 0⟩, ⟨some 97, .move, [.tmp 96], none, true, 0, 0⟩, ⟨some 98, .call, [.val (.fn 16 [] [])], some (97, true), true, 0, 0⟩, ⟨some 99, .pick, [.tmp 97, .tmp 98, .val (.bool false)], none, true, 0, 0⟩, ⟨some 6, .move, [.tmp 99], none, true, 0, 0⟩])]
def F5o23 : IC := .ops F5p23
def F5p24 : List (Sg × List IOp) := [(.seq, [⟨some 100, .move, [.tmp 12], none, true, 0, 0⟩, ⟨some 101, .idxArrAddr 80 1, [.tmp 7, .tmp 100], none, true, 0, 0⟩, ⟨some 102, .load none, [.tmp 101], none, true, 0, 0⟩, ⟨some 103, .lenSl, [.tmp 102], none, true, 0, 0⟩, ⟨some 104, .bin .eql, [.tmp 103, .val (.int .i64 0)], none, true, 0, 0⟩, ⟨some 15, .move, [.tmp 104], none, true, 0, 0⟩])]
def F5o24 : IC := .ops F5p24
def F5p25 : List (Sg × List IOp) := [(.seq, [⟨some 105, .load (some 80), [.tmp 7], none, true, 0, 0⟩, ⟨some 16, .alloc 31 80 [.nilSlice, .nilSlice, .nilSlice, .nilSlice, .nilSlice, .nilSlice, .nilSlice, .nilSlice, .nilSlice, .nilSlice, .nilSlice, .nilSlice, .nilSlice, .nilSlice, .nilSlice, .nilSlice, .nilSlice, .nilSlice, .nilSlice, .nilSlice, .nilSlice, .nilSlice, .nilSlice, .nilSlice, .nilSlice, .nilSlice, .nilSlice, .nilSlice, .nilSlice, .nilSlice, .nilSlice, .nilSlice, .nilSlice, .nilSlice, .nilSlice, .nilSlice, .nilSlice, .nilSlice, .nilSlice, .nilSlice, .nilSlice, .nilSlice, .nilSlice, .nilSlice, .nilSlice, .nilSlice, .nilSlice, .nilSlice, .nilSlice, .nilSlice, .nilSlice, .nilSlice, .nilSlice, .nilSlice, .nilSlice, .nilSlice, .nilSlice, .nilSlice, .nilSlice, .nilSlice, .nilSlice, .nilSlice, .nilSlice, .nilSlice, .nilSlice, .nilSlice, .nilSlice, .nilSlice, .nilSlice, .nilSlice, .nilSlice, .nilSlice, .nilSlice, .nilSlice, .nilSlice, .nilSlice, .nilSlice, .nilSlice, .nilSlice, .nilSlice], [], none, true, 0, 0⟩, ⟨none, .store 80, [.tmp 16, .tmp 105], none, true, 0, 0⟩])]
def F5o25 : IC := .ops F5p25
def F5p26 : List (Sg × List IOp) := [(.seq, [⟨some 106, .fieldAddr 0, [.tmp 5], none, true, 0, 0⟩, ⟨some 107, .load none, [.tmp 106], none, true, 0, 0⟩, ⟨some 108, .bin .eql, [.tmp 107, .val (.int .u8 1)], none, true, 0, 0⟩])]
def F5o26 : IC := .ops F5p26
def F5p27 : List (Sg × List IOp) := [(.free, [⟨some 109, .move, [.tmp 12], none, false, 0, 0⟩, ⟨some 110, .buildSl 28 2 0 [] [], [], none, false, 1, 0⟩, ⟨some 111, .move, [.tmp 12], none, false, 2, 0⟩, ⟨some 112, .idxArrAddr 80 1, [.tmp 7, .tmp 111], none, false, 3, 4⟩, ⟨some 113, .load none, [.tmp 112], none, false, 4, 12⟩, ⟨some 114, .append 28 2 16, [.tmp 110, .tmp 113], none, true, 5, 30⟩, ⟨some 115, .move, [.tmp 11], none, false, 6, 0⟩, ⟨some 116, .idxArrAddr 80 1, [.tmp 7, .tmp 115], none, false, 7, 64⟩, ⟨some 117, .load none, [.tmp 116], none, false, 8, 192⟩, ⟨some 118, .append 28 2 16, [.tmp 114, .tmp 117], none, true, 9, 510⟩]), (.seq, [⟨some 119, .idxArrAddr 80 1, [.tmp 16, .tmp 109], none, true, 10, 1023⟩]), (.seq, [⟨none, .store 1, [.tmp 119, .tmp 118], none, true, 11, 2047⟩])]
def F5o27 : IC := .ops F5p27
def F5p28 : List (Sg × List IOp) := [(.free, [⟨some 120, .move, [.tmp 12], none, false, 0, 0⟩, ⟨some 121, .buildSl 28 2 0 [] [], [], none, false, 1, 0⟩, ⟨some 122, .move, [.tmp 11], none, false, 2, 0⟩, ⟨some 123, .idxArrAddr 80 1, [.tmp 7, .tmp 122], none, false, 3, 4⟩, ⟨some 124, .load none, [.tmp 123], none, false, 4, 12⟩, ⟨some 125, .append 28 2 16, [.tmp 121, .tmp 124], none, true, 5, 30⟩, ⟨some 126, .move, [.tmp 12], none, false, 6, 0⟩, ⟨some 127, .idxArrAddr 80 1, [.tmp 7, .tmp 126], none, false, 7, 64⟩, ⟨some 128, .load none, [.tmp 127], none, false, 8, 192⟩, ⟨some 129, .append 28 2 16, [.tmp 125, .tmp 128], none, true, 9, 510⟩]), (.seq, [⟨some 130, .idxArrAddr 80 1, [.tmp 16, .tmp 120], none, true, 10, 1023⟩]), (.seq, [⟨none, .store 1, [.tmp 130, .tmp 129], none, true, 11, 2047⟩])]
def F5o28 : IC := .ops F5p28
def F5p29 : List (Sg × List IOp) := [(.seq, [⟨some 131, .move, [.tmp 11], none, true, 0, 0⟩, ⟨some 132, .idxArrAddr 80 1, [.tmp 16, .tmp 131], none, true, 0, 0⟩, ⟨none, .store 1, [.tmp 132, .val (.nilSlice)], none, true, 0, 0⟩])]
def F5o29 : IC := .ops F5p29
def F5p30 : List (Sg × List IOp) := [(.free, [⟨some 133, .load (some 80), [.tmp 16], none, false, 0, 0⟩, ⟨some 134, .load (some 2), [.tmp 9], none, false, 1, 0⟩]), (.seq, [⟨some 135, .call, [.val (.fn 11 [] []), .tmp 133, .tmp 134], none, true, 2, 3⟩]), (.seq, [⟨some 136, .bin .neq, [.tmp 135, .val (.int .i64 0)], none, true, 3, 7⟩]), (.seq, [⟨some 137, .move, [.tmp 136], none, true, 4, 15⟩]), (.free, [⟨some 138, .load (some 2), [.tmp 9], some (137, false), false, 5, 31⟩, ⟨some 139, .call, [.val (.fn 15 [] []), .tmp 138], some (137, false), false, 6, 63⟩, ⟨some 140, .load (some 2), [.tmp 8], some (137, false), false, 7, 31⟩]), (.seq, [⟨some 141, .call, [.val (.fn 15 [] []), .tmp 140], some (137, false), true, 8, 255⟩]), (.seq, [⟨some 142, .bin .neq, [.tmp 139, .tmp 141], some (137, false), true, 9, 511⟩]), (.seq, [⟨some 143, .pick, [.tmp 137, .val (.bool true), .tmp 142], none, true, 10, 1023⟩])]
def F5o30 : IC := .ops F5p30
def F5p31 : List (Sg × List IOp) := [(.seq, [⟨some 6, .move, [.val (.bool false)], none, true, 0, 0⟩])]
def F5o31 : IC := .ops F5p31
def F5p32 : List (Sg × List IOp) := [(.seq, [⟨some 145, .load (some 2), [.tmp 9], none, true, 0, 0⟩, ⟨some 146, .load (some 2), [.tmp 5], none, true, 0, 0⟩, ⟨some 147, .load (some 2), [.tmp 4], none, true, 0, 0⟩, ⟨some 148, .call, [.val (.fn 19 [] []), .tmp 145, .tmp 146, .tmp 147], none, true, 0, 0⟩, ⟨some 144, .move, [.tmp 148], none, true, 0, 0⟩, ⟨some 149, .extract 0, [.tmp 144], none, true, 0, 0⟩, ⟨some 150, .extract 1, [.tmp 144], none, true, 0, 0⟩, ⟨some 17, .alloc 35 2 [.nilSlice, .nilSlice], [], none, true, 0, 0⟩, ⟨none, .store 2, [.tmp 17, .tmp 149], none, true, 0, 0⟩, ⟨some 10, .move, [.tmp 150], none, true, 0, 0⟩])]
def F5o32 : IC := .ops F5p32
def F5p33 : List (Sg × List IOp) := [(.seq, [⟨some 151, .move, [.tmp 10], none, true, 0, 0⟩, ⟨some 152, .bin .neq, [.tmp 151, .val (.int .i64 0)], none, true, 0, 0⟩])]
def F5o33 : IC := .ops F5p33
def F5p34 : List (Sg × List IOp) := [(.seq, [⟨some 6, .move, [.val (.bool false)], none, true, 0, 0⟩])]
def F5o34 : IC := .ops F5p34
def F5p35 : List (Sg × List IOp) := [(.seq, [⟨some 153, .move, [.tmp 15], none, true, 0, 0⟩, ⟨some 154, .un .not, [.tmp 153], none, true, 0, 0⟩, ⟨some 155, .move, [.tmp 154], none, true, 0, 0⟩, ⟨some 156, .load (some 2), [.tmp 17], some (155, false), true, 0, 0⟩, ⟨some 157, .load (some 2), [.tmp 8], some (155, false), true, 0, 0⟩, ⟨some 158, .call, [.val (.fn 18 [] []), .tmp 156, .tmp 157], some (155, false), true, 0, 0⟩, ⟨some 159, .pick, [.tmp 155, .val (.bool true), .tmp 158], none, true, 0, 0⟩, ⟨some 160, .move, [.tmp 159], none, true, 0, 0⟩, ⟨some 161, .call, [.val (.fn 16 [] [])], some (160, true), true, 0, 0⟩, ⟨some 162, .pick, [.tmp 160, .tmp 161, .val (.bool false)], none, true, 0, 0⟩, ⟨some 6, .move, [.tmp 162], none, true, 0, 0⟩])]
def F5o35 : IC := .ops F5p35
def F5b : IC := .seq (F5o0) (.seq (F5o1) (.seq (F5o2) (.seq (F5o3) (.seq (F5o4) (.seq (.seq (F5o5) (.block 0 (.loop F5l12))) (.seq (F5o13) (.seq (.block 2 (.seq (F5o14) (.cond (.tmp 45) (F5o15) (.seq (F5o16) (.cond (.tmp 59) (F5o17) (.seq (F5o18) (.cond (.tmp 65) (F5o19) (.skip)))))))) (.seq (.seq (F5o20) (.cond (.tmp 84) (.seq (F5o21) (.ret)) (.skip))) (.seq (.seq (F5o22) (.cond (.tmp 86) (.seq (F5o23) (.ret)) (.skip))) (.seq (F5o24) (.seq (F5o25) (.seq (.seq (F5o26) (.cond (.tmp 108) (F5o27) (F5o28))) (.seq (F5o29) (.seq (.seq (F5o30) (.cond (.tmp 143) (.seq (F5o31) (.ret)) (.skip))) (.seq (F5o32) (.seq (.seq (F5o33) (.cond (.tmp 152) (.seq (F5o34) (.ret)) (.skip))) (.seq (F5o35) (.ret))))))))))))))))))
def F5 : IFn := ⟨163, [(6, none)], F5b⟩
/- 6: gansey/ganseylaw03.StacksSame -/
def F6p0 : List (Sg × List IOp) := [(.seq, [⟨some 5, .box 52 2, [.tmp 2], none, true, 0, 0⟩, ⟨some 6, .move, [.val (.bool false)], none, true, 0, 0⟩])]
def F6o0 : IC := .ops F6p0
def F6p1 : List (Sg × List IOp) := [(.seq, [⟨some 15, .move, [.tmp 0], none, true, 0, 0⟩, ⟨some 16, .call, [.val (.fn 8 [] []), .tmp 15], none, true, 0, 0⟩, ⟨some 17, .move, [.tmp 1], none, true, 0, 0⟩, ⟨some 18, .call, [.val (.fn 8 [] []), .tmp 17], none, true, 0, 0⟩, ⟨some 7, .alloc 31 80 [.nilSlice, .nilSlice, .nilSlice, .nilSlice, .nilSlice, .nilSlice, .nilSlice, .nilSlice, .nilSlice, .nilSlice, .nilSlice, .nilSlice, .nilSlice, .nilSlice, .nilSlice, .nilSlice, .nilSlice, .nilSlice, .nilSlice, .nilSlice, .nilSlice, .nilSlice, .nilSlice, .nilSlice, .nilSlice, .nilSlice, .nilSlice, .nilSlice, .nilSlice, .nilSlice, .nilSlice, .nilSlice, .nilSlice, .nilSlice, .nilSlice, .nilSlice, .nilSlice, .nilSlice, .nilSlice, .nilSlice, .nilSlice, .nilSlice, .nilSlice, .nilSlice, .nilSlice, .nilSlice, .nilSlice, .nilSlice, .nilSlice, .nilSlice, .nilSlice, .nilSlice, .nilSlice, .nilSlice, .nilSlice, .nilSlice, .nilSlice, .nilSlice, .nilSlice, .nilSlice, .nilSlice, .nilSlice, .nilSlice, .nilSlice, .nilSlice, .nilSlice, .nilSlice, .nilSlice, .nilSlice, .nilSlice, .nilSlice, .nilSlice, .nilSlice, .nilSlice, .nilSlice, .nilSlice, .nilSlice, .nilSlice, .nilSlice, .nilSlice], [], none, true, 0, 0⟩, ⟨some 8, .alloc 31 80 [.nilSlice, .nilSlice, .nilSlice, .nilSlice, .nilSlice, .nilSlice, .nilSlice, .nilSlice, .nilSlice, .nilSlice, .nilSlice, .nilSlice, .nilSlice, .nilSlice, .nilSlice, .nilSlice, .nilSlice, .nilSlice, .nilSlice, .nilSlice, .nilSlice, .nilSlice, .nilSlice, .nilSlice, .nilSlice, .nilSlice, .nilSlice, .nilSlice, .nilSlice, .nilSlice, .nilSlice, .nilSlice, .nilSlice, .nilSlice, .nilSlice, .nilSlice, .nilSlice, .nilSlice, .nilSlice, .nilSlice, .nilSlice, .nilSlice, .nilSlice, .nilSlice, .nilSlice, .nilSlice, .nilSlice, .nilSlice, .nilSlice, .nilSlice, .nilSlice, .nilSlice, .nilSlice, .nilSlice, .nilSlice, .nilSlice, .nilSlice, .nilSlice, .nilSlice, .nilSlice, .nilSlice, .nilSlice, .nilSlice, .nilSlice, .nilSlice, .nilSlice, .nilSlice, .nilSlice, .nilSlice, .nilSlice, .nilSlice, .nilSlice, .nilSlice, .nilSlice, .nilSlice, .nilSlice, .nilSlice, .nilSlice, .nilSlice, .nilSlice], [], none, true, 0, 0⟩, ⟨none, .store 80, [.tmp 7, .tmp 16], none, true, 0, 0⟩, ⟨none, .store 80, [.tmp 8, .tmp 18], none, true, 0, 0⟩])]
def F6o1 : IC := .ops F6p1
def F6p2 : List (Sg × List IOp) := [(.seq, [⟨some 19, .idxArrAddr 2 1, [.tmp 5, .val (.int .i64 1)], none, true, 0, 0⟩, ⟨some 20, .load none, [.tmp 19], none, true, 0, 0⟩, ⟨some 21, .bin .rem, [.tmp 20, .val (.int .u8 2)], none, true, 0, 0⟩, ⟨some 22, .bin .eql, [.tmp 21, .val (.int .u8 1)], none, true, 0, 0⟩])]
def F6o2 : IC := .ops F6p2
def F6p3 : List (Sg × List IOp) := [(.seq, [⟨some 23, .load (some 80), [.tmp 7], none, true, 0, 0⟩, ⟨none, .store 80, [.tmp 8, .tmp 23], none, true, 0, 0⟩])]
def F6o3 : IC := .ops F6p3
def F6p4 : List (Sg × List IOp) := [(.seq, [⟨some 24, .idxArrAddr 2 1, [.tmp 5, .val (.int .i64 1)], none, true, 0, 0⟩, ⟨some 25, .load none, [.tmp 24], none, true, 0, 0⟩, ⟨some 26, .bin .rem, [.tmp 25, .val (.int .u8 4)], none, true, 0, 0⟩, ⟨some 27, .bin .eql, [.tmp 26, .val (.int .u8 3)], none, true, 0, 0⟩])]
def F6o4 : IC := .ops F6p4
def F6p5 : List (Sg × List IOp) := [(.seq, [⟨some 28, .idxArrAddr 2 1, [.tmp 5, .val (.int .i64 1)], none, true, 0, 0⟩, ⟨some 29, .load none, [.tmp 28], none, true, 0, 0⟩, ⟨some 30, .bin .quo, [.tmp 29, .val (.int .u8 4)], none, true, 0, 0⟩, ⟨some 31, .conv .i64, [.tmp 30], none, true, 0, 0⟩, ⟨some 32, .bin .rem, [.tmp 31, .val (.int .i64 80)], none, true, 0, 0⟩, ⟨some 9, .move, [.tmp 32], none, true, 0, 0⟩])]
def F6o5 : IC := .ops F6p5
def F6p6 : List (Sg × List IOp) := [(.seq, [⟨some 33, .move, [.tmp 9], none, true, 0, 0⟩, ⟨some 34, .buildSl 28 2 0 [] [], [], none, true, 0, 0⟩, ⟨some 35, .move, [.tmp 9], none, true, 0, 0⟩, ⟨some 36, .idxArrAddr 80 1, [.tmp 8, .tmp 35], none, true, 0, 0⟩, ⟨some 37, .load none, [.tmp 36], none, true, 0, 0⟩, ⟨some 38, .append 28 2 16, [.tmp 34, .tmp 37], none, true, 0, 0⟩, ⟨some 39, .build [.int .u8 0, .int .i64 0] [(0, 1), (1, 1)], [.val (.int .u8 6), .val (.int .i64 9)], none, true, 0, 0⟩, ⟨some 40, .buildSl 28 2 1 [.int .u8 0, .int .i64 0] [(0, 2)], [.tmp 39], none, true, 0, 0⟩, ⟨some 41, .append 28 2 16, [.tmp 38, .tmp 40], none, true, 0, 0⟩, ⟨some 42, .idxArrAddr 80 1, [.tmp 8, .tmp 33], none, true, 0, 0⟩, ⟨none, .store 1, [.tmp 42, .tmp 41], none, true, 0, 0⟩])]
def F6o6 : IC := .ops F6p6
def F6p7 : List (Sg × List IOp) := [(.seq, [⟨some 10, .move, [.val (.bool true)], none, true, 0, 0⟩])]
def F6o7 : IC := .ops F6p7
def F6p8 : List (Sg × List IOp) := [(.seq, [⟨some 11, .move, [.val (.int .i64 0)], none, true, 0, 0⟩])]
def F6o8 : IC := .ops F6p8
def F6p9 : List (Sg × List IOp) := [(.seq, [⟨some 43, .move, [.tmp 11], none, true, 0, 0⟩, ⟨some 44, .bin .lss, [.tmp 43, .val (.int .i64 80)], none, true, 0, 0⟩])]
def F6o9 : IC := .ops F6p9
def F6p10 : List (Sg × List IOp) := [(.free, [⟨some 47, .move, [.tmp 11], none, false, 0, 0⟩, ⟨some 48, .idxArrAddr 80 1, [.tmp 7, .tmp 47], none, false, 1, 1⟩, ⟨some 49, .load none, [.tmp 48], none, false, 2, 3⟩, ⟨some 50, .lenSl, [.tmp 49], none, false, 3, 7⟩, ⟨some 51, .mksl 28 2 16 [.int .u8 0, .int .i64 0], [.val (.int .i64 0), .tmp 50], none, false, 4, 15⟩, ⟨some 52, .move, [.tmp 11], none, false, 5, 0⟩, ⟨some 53, .idxArrAddr 80 1, [.tmp 7, .tmp 52], none, false, 6, 32⟩, ⟨some 54, .load none, [.tmp 53], none, false, 7, 96⟩, ⟨some 55, .append 28 2 16, [.tmp 51, .tmp 54], none, true, 8, 255⟩, ⟨some 56, .move, [.tmp 11], none, false, 9, 0⟩, ⟨some 57, .idxArrAddr 80 1, [.tmp 8, .tmp 56], none, false, 10, 512⟩, ⟨some 58, .load none, [.tmp 57], none, false, 11, 1536⟩]), (.seq, [⟨some 59, .call, [.val (.fn 20 [] []), .tmp 55, .tmp 58], none, true, 12, 4095⟩]), (.seq, [⟨some 60, .bin .eql, [.tmp 59, .val (.int .i64 0)], none, true, 13, 8191⟩])]
def F6o10 : IC := .ops F6p10
def F6p11 : List (Sg × List IOp) := [(.seq, [⟨some 10, .move, [.val (.bool false)], none, true, 0, 0⟩])]
def F6o11 : IC := .ops F6p11
def F6p12 : List (Sg × List IOp) := [(.seq, [⟨some 45, .move, [.tmp 11], none, true, 0, 0⟩, ⟨some 46, .bin .add, [.tmp 45, .val (.int .i64 1)], none, true, 0, 0⟩, ⟨some 11, .move, [.tmp 46], none, true, 0, 0⟩])]
def F6o12 : IC := .ops F6p12
def F6l13 : IC := .seq (.seq (F6o9) (.cond (.tmp 44) (.skip) (.exit 0))) (.seq (.block 1 (.seq (F6o10) (.cond (.tmp 60) (F6o11) (.skip)))) (F6o12))
def F6p14 : List (Sg × List IOp) := [(.free, [⟨some 61, .load (some 80), [.tmp 7], none, false, 0, 0⟩, ⟨some 62, .call, [.val (.fn 9 [] []), .tmp 61], none, false, 1, 1⟩, ⟨some 63, .load (some 80), [.tmp 8], none, false, 2, 0⟩, ⟨some 64, .call, [.val (.fn 9 [] []), .tmp 63], none, false, 3, 7⟩, ⟨some 12, .alloc 35 2 [.nilSlice, .nilSlice], [], none, false, 4, 0⟩, ⟨some 13, .alloc 35 2 [.nilSlice, .nilSlice], [], none, false, 5, 0⟩]), (.seq, [⟨none, .store 2, [.tmp 12, .tmp 62], none, true, 6, 63⟩]), (.seq, [⟨none, .store 2, [.tmp 13, .tmp 64], none, true, 7, 127⟩])]
def F6o14 : IC := .ops F6p14
def F6p15 : List (Sg × List IOp) := [(.seq, [⟨some 14, .move, [.val (.int .i64 0)], none, true, 0, 0⟩])]
def F6o15 : IC := .ops F6p15
def F6p16 : List (Sg × List IOp) := [(.seq, [⟨some 65, .move, [.tmp 14], none, true, 0, 0⟩, ⟨some 66, .idxArrAddr 2 1, [.tmp 5, .val (.int .i64 0)], none, true, 0, 0⟩, ⟨some 67, .load none, [.tmp 66], none, true, 0, 0⟩, ⟨some 68, .bin .rem, [.tmp 67, .val (.int .u8 5)], none, true, 0, 0⟩, ⟨some 69, .conv .i64, [.tmp 68], none, true, 0, 0⟩, ⟨some 70, .bin .lss, [.tmp 65, .tmp 69], none, true, 0, 0⟩])]
def F6o16 : IC := .ops F6p16
def F6p17 : List (Sg × List IOp) := [(.seq, [⟨some 73, .fieldAddr 0, [.tmp 12], none, true, 0, 0⟩, ⟨some 74, .load none, [.tmp 73], none, true, 0, 0⟩, ⟨some 75, .buildSl 29 1 1 [.nilSlice] [(0, 1)], [.val (.nilSlice)], none, true, 0, 0⟩, ⟨some 76, .append 29 1 24, [.tmp 74, .tmp 75], none, true, 0, 0⟩, ⟨some 77, .fieldAddr 0, [.tmp 12], none, true, 0, 0⟩, ⟨none, .store 1, [.tmp 77, .tmp 76], none, true, 0, 0⟩])]
def F6o17 : IC := .ops F6p17
def F6p18 : List (Sg × List IOp) := [(.seq, [⟨some 78, .fieldAddr 1, [.tmp 13], none, true, 0, 0⟩, ⟨some 79, .load none, [.tmp 78], none, true, 0, 0⟩, ⟨some 80, .buildSl 28 2 0 [] [], [], none, true, 0, 0⟩, ⟨some 81, .buildSl 29 1 1 [.nilSlice] [(0, 1)], [.tmp 80], none, true, 0, 0⟩, ⟨some 82, .append 29 1 24, [.tmp 79, .tmp 81], none, true, 0, 0⟩, ⟨some 83, .fieldAddr 1, [.tmp 13], none, true, 0, 0⟩, ⟨none, .store 1, [.tmp 83, .tmp 82], none, true, 0, 0⟩])]
def F6o18 : IC := .ops F6p18
def F6p19 : List (Sg × List IOp) := [(.seq, [⟨some 71, .move, [.tmp 14], none, true, 0, 0⟩, ⟨some 72, .bin .add, [.tmp 71, .val (.int .i64 1)], none, true, 0, 0⟩, ⟨some 14, .move, [.tmp 72], none, true, 0, 0⟩])]
def F6o19 : IC := .ops F6p19
def F6l20 : IC := .seq (.seq (F6o16) (.cond (.tmp 70) (.skip) (.exit 2))) (.seq (.block 3 (.seq (F6o17) (F6o18))) (F6o19))
def F6p21 : List (Sg × List IOp) := [(.seq, [⟨some 84, .load (some 2), [.tmp 12], none, true, 0, 0⟩, ⟨some 85, .load (some 2), [.tmp 13], none, true, 0, 0⟩, ⟨some 86, .call, [.val (.fn 18 [] []), .tmp 84, .tmp 85], none, true, 0, 0⟩, ⟨some 87, .move, [.tmp 10], none, true, 0, 0⟩, ⟨some 88, .eqBool false, [.tmp 86, .tmp 87], none, true, 0, 0⟩, ⟨some 89, .move, [.tmp 88], none, true, 0, 0⟩, ⟨some 90, .load (some 2), [.tmp 13], some (89, true), true, 0, 0⟩, ⟨some 91, .load (some 2), [.tmp 12], some (89, true), true, 0, 0⟩, ⟨some 92, .call, [.val (.fn 18 [] []), .tmp 90, .tmp 91], some (89, true), true, 0, 0⟩, ⟨some 93, .move, [.tmp 10], some (89, true), true, 0, 0⟩, ⟨some 94, .eqBool false, [.tmp 92, .tmp 93], some (89, true), true, 0, 0⟩, ⟨some 95, .pick, [.tmp 89, .tmp 94, .val (.bool false)], none, true, 0, 0⟩, ⟨some 96, .move, [.tmp 95], none, true, 0, 0⟩, ⟨some 97, .load (some 2), [.tmp 12], some (96, true), true, 0, 0⟩, ⟨some 98, .load (some 2), [.tmp 12], some (96, true), true, 0, 0⟩, ⟨some 99, .call, [.val (.fn 18 [] []), .tmp 97, .tmp 98], some (96, true), true, 0, 0⟩, ⟨some 100, .pick, [.tmp 96, .tmp 99, .val (.bool false)], none, true, 0, 0⟩, ⟨some 101, .move, [.tmp 100], none, true, 0, 0⟩, ⟨some 102, .call, [.val (.fn 16 [] [])], some (101, true), true, 0, 0⟩, ⟨some 103, .pick, [.tmp 101, .tmp 102, .val (.bool false)], none, true, 0, 0⟩, ⟨some 6, .move, [.tmp 103], none, true, 0, 0⟩])]
def F6o21 : IC := .ops F6p21
def F6b : IC := .seq (F6o0) (.seq (F6o1) (.seq (.seq (F6o2) (.cond (.tmp 22) (.seq (F6o3) (.seq (F6o4) (.cond (.tmp 27) (.seq (F6o5) (F6o6)) (.skip)))) (.skip))) (.seq (F6o7) (.seq (.seq (F6o8) (.block 0 (.loop F6l13))) (.seq (F6o14) (.seq (.seq (F6o15) (.block 2 (.loop F6l20))) (.seq (F6o21) (.ret))))))))
def F6 : IFn := ⟨104, [(6, none)], F6b⟩
/- 7: gansey/ganseylaw03.StacksBack -/
def F7p0 : List (Sg × List IOp) := [(.seq, [⟨some 2, .box 52 2, [.tmp 0], none, true, 0, 0⟩, ⟨some 3, .box 52 2, [.tmp 1], none, true, 0, 0⟩, ⟨some 4, .move, [.val (.bool false)], none, true, 0, 0⟩])]
def F7o0 : IC := .ops F7p0
def F7p1 : List (Sg × List IOp) := [(.free, [⟨some 14, .idxArrAddr 2 1, [.tmp 3, .val (.int .i64 0)], none, false, 0, 0⟩, ⟨some 15, .load none, [.tmp 14], none, false, 1, 1⟩, ⟨some 16, .bin .rem, [.tmp 15, .val (.int .u8 40)], none, false, 2, 3⟩, ⟨some 17, .call, [.val (.fn 13 [] []), .tmp 16], none, false, 3, 7⟩, ⟨some 18, .idxArrAddr 2 1, [.tmp 3, .val (.int .i64 1)], none, false, 4, 0⟩, ⟨some 19, .load none, [.tmp 18], none, false, 5, 16⟩, ⟨some 20, .bin .rem, [.tmp 19, .val (.int .u8 40)], none, false, 6, 48⟩, ⟨some 21, .bin .add, [.val (.int .u8 40), .tmp 20], none, false, 7, 112⟩, ⟨some 22, .call, [.val (.fn 13 [] []), .tmp 21], none, false, 8, 255⟩, ⟨some 5, .alloc 26 2 [.int .u8 0, .int .i64 0], [], none, false, 9, 0⟩, ⟨some 6, .alloc 26 2 [.int .u8 0, .int .i64 0], [], none, false, 10, 0⟩]), (.seq, [⟨none, .store 2, [.tmp 5, .tmp 17], none, true, 11, 2047⟩]), (.seq, [⟨none, .store 2, [.tmp 6, .tmp 22], none, true, 12, 4095⟩])]
def F7o1 : IC := .ops F7p1
def F7p2 : List (Sg × List IOp) := [(.seq, [⟨some 23, .idxArrAddr 2 1, [.tmp 3, .val (.int .i64 0)], none, true, 0, 0⟩, ⟨some 24, .load none, [.tmp 23], none, true, 0, 0⟩, ⟨some 25, .bin .rem, [.tmp 24, .val (.int .u8 40)], none, true, 0, 0⟩, ⟨some 26, .idxArrAddr 2 1, [.tmp 2, .val (.int .i64 0)], none, true, 0, 0⟩, ⟨some 27, .load none, [.tmp 26], none, true, 0, 0⟩, ⟨some 28, .bin .rem, [.tmp 27, .val (.int .u8 5)], none, true, 0, 0⟩, ⟨some 29, .build [.int .u8 0, .int .u8 0] [(0, 1), (1, 1)], [.tmp 25, .tmp 28], none, true, 0, 0⟩, ⟨some 30, .idxArrAddr 2 1, [.tmp 3, .val (.int .i64 1)], none, true, 0, 0⟩, ⟨some 31, .load none, [.tmp 30], none, true, 0, 0⟩, ⟨some 32, .bin .rem, [.tmp 31, .val (.int .u8 40)], none, true, 0, 0⟩, ⟨some 33, .bin .add, [.val (.int .u8 40), .tmp 32], none, true, 0, 0⟩, ⟨some 34, .idxArrAddr 2 1, [.tmp 2, .val (.int .i64 1)], none, true, 0, 0⟩, ⟨some 35, .load none, [.tmp 34], none, true, 0, 0⟩, ⟨some 36, .bin .rem, [.tmp 35, .val (.int .u8 5)], none, true, 0, 0⟩, ⟨some 37, .build [.int .u8 0, .int .u8 0] [(0, 1), (1, 1)], [.tmp 33, .tmp 36], none, true, 0, 0⟩, ⟨some 38, .buildSl 56 2 2 [.int .u8 0, .int .u8 0, .int .u8 0, .int .u8 0] [(0, 2), (2, 2)], [.tmp 29, .tmp 37], none, true, 0, 0⟩, ⟨some 7, .move, [.tmp 38], none, true, 0, 0⟩])]
def F7o2 : IC := .ops F7p2
def F7p3 : List (Sg × List IOp) := [(.seq, [⟨some 39, .move, [.tmp 7], none, true, 0, 0⟩, ⟨some 40, .call, [.val (.fn 21 [] []), .tmp 39], none, true, 0, 0⟩, ⟨some 8, .alloc 35 2 [.nilSlice, .nilSlice], [], none, true, 0, 0⟩, ⟨none, .store 2, [.tmp 8, .tmp 40], none, true, 0, 0⟩])]
def F7o3 : IC := .ops F7p3
def F7p4 : List (Sg × List IOp) := [(.free, [⟨some 41, .idxArrAddr 2 1, [.tmp 2, .val (.int .i64 0)], none, false, 0, 0⟩, ⟨some 42, .load none, [.tmp 41], none, false, 1, 1⟩, ⟨some 43, .bin .rem, [.tmp 42, .val (.int .u8 5)], none, false, 2, 3⟩, ⟨some 44, .conv .i64, [.tmp 43], none, false, 3, 7⟩, ⟨some 45, .idxArrAddr 2 1, [.tmp 2, .val (.int .i64 1)], none, false, 4, 0⟩, ⟨some 46, .load none, [.tmp 45], none, false, 5, 16⟩, ⟨some 47, .bin .rem, [.tmp 46, .val (.int .u8 5)], none, false, 6, 48⟩, ⟨some 48, .conv .i64, [.tmp 47], none, false, 7, 112⟩, ⟨some 9, .move, [.tmp 44], none, false, 8, 15⟩]), (.seq, [⟨some 10, .move, [.tmp 48], none, true, 9, 511⟩])]
def F7o4 : IC := .ops F7p4
def F7p5 : List (Sg × List IOp) := [(.seq, [⟨some 50, .load (some 2), [.tmp 8], none, true, 0, 0⟩, ⟨some 51, .load (some 2), [.tmp 5], none, true, 0, 0⟩, ⟨some 52, .load (some 2), [.tmp 6], none, true, 0, 0⟩, ⟨some 53, .call, [.val (.fn 19 [] []), .tmp 50, .tmp 51, .tmp 52], none, true, 0, 0⟩, ⟨some 49, .move, [.tmp 53], none, true, 0, 0⟩, ⟨some 54, .extract 0, [.tmp 49], none, true, 0, 0⟩, ⟨some 55, .extract 1, [.tmp 49], none, true, 0, 0⟩, ⟨some 11, .alloc 35 2 [.nilSlice, .nilSlice], [], none, true, 0, 0⟩, ⟨none, .store 2, [.tmp 11, .tmp 54], none, true, 0, 0⟩, ⟨some 12, .move, [.tmp 55], none, true, 0, 0⟩])]
def F7o5 : IC := .ops F7p5
def F7p6 : List (Sg × List IOp) := [(.seq, [⟨some 57, .move, [.tmp 9], none, true, 0, 0⟩, ⟨some 58, .bin .eql, [.tmp 57, .val (.int .i64 0)], none, true, 0, 0⟩, ⟨some 56, .move, [.tmp 58], none, true, 0, 0⟩])]
def F7o6 : IC := .ops F7p6
def F7p7 : List (Sg × List IOp) := [(.seq, [⟨some 59, .move, [.tmp 12], none, true, 0, 0⟩, ⟨some 60, .bin .eql, [.tmp 59, .val (.int .i64 13)], none, true, 0, 0⟩, ⟨some 61, .move, [.tmp 60], none, true, 0, 0⟩, ⟨some 62, .call, [.val (.fn 16 [] [])], some (61, true), true, 0, 0⟩, ⟨some 63, .pick, [.tmp 61, .tmp 62, .val (.bool false)], none, true, 0, 0⟩, ⟨some 4, .move, [.tmp 63], none, true, 0, 0⟩])]
def F7o7 : IC := .ops F7p7
def F7p8 : List (Sg × List IOp) := [(.seq, [⟨some 65, .move, [.tmp 9], none, true, 0, 0⟩, ⟨some 66, .move, [.tmp 10], none, true, 0, 0⟩, ⟨some 67, .bin .add, [.tmp 65, .tmp 66], none, true, 0, 0⟩, ⟨some 68, .bin .gtr, [.tmp 67, .val (.int .i64 4)], none, true, 0, 0⟩, ⟨some 64, .move, [.tmp 68], none, true, 0, 0⟩])]
def F7o8 : IC := .ops F7p8
def F7p9 : List (Sg × List IOp) := [(.seq, [⟨some 69, .move, [.tmp 12], none, true, 0, 0⟩, ⟨some 70, .bin .eql, [.tmp 69, .val (.int .i64 9)], none, true, 0, 0⟩, ⟨some 71, .move, [.tmp 70], none, true, 0, 0⟩, ⟨some 72, .call, [.val (.fn 16 [] [])], some (71, true), true, 0, 0⟩, ⟨some 73, .pick, [.tmp 71, .tmp 72, .val (.bool false)], none, true, 0, 0⟩, ⟨some 4, .move, [.tmp 73], none, true, 0, 0⟩])]
def F7o9 : IC := .ops F7p9
def F7p10 : List (Sg × List IOp) := [(.seq, [⟨some 74, .move, [.tmp 12], none, true, 0, 0⟩, ⟨some 75, .bin .neq, [.tmp 74, .val (.int .i64 0)], none, true, 0, 0⟩, ⟨some 76, .move, [.tmp 75], none, true, 0, 0⟩, ⟨some 77, .load (some 2), [.tmp 11], some (76, false), true, 0, 0⟩, ⟨some 78, .load (some 2), [.tmp 5], some (76, false), true, 0, 0⟩, ⟨some 79, .call, [.val (.fn 12 [] []), .tmp 77, .tmp 78], some (76, false), true, 0, 0⟩, ⟨some 80, .lenSl, [.tmp 79], some (76, false), true, 0, 0⟩, ⟨some 81, .bin .neq, [.tmp 80, .val (.int .i64 0)], some (76, false), true, 0, 0⟩, ⟨some 82, .pick, [.tmp 76, .val (.bool true), .tmp 81], none, true, 0, 0⟩, ⟨some 83, .move, [.tmp 82], none, true, 0, 0⟩, ⟨some 84, .load (some 2), [.tmp 11], some (83, false), true, 0, 0⟩, ⟨some 85, .load (some 2), [.tmp 6], some (83, false), true, 0, 0⟩, ⟨some 86, .call, [.val (.fn 12 [] []), .tmp 84, .tmp 85], some (83, false), true, 0, 0⟩, ⟨some 87, .lenSl, [.tmp 86], some (83, false), true, 0, 0⟩, ⟨some 88, .move, [.tmp 9], some (83, false), true, 0, 0⟩, ⟨some 89, .move, [.tmp 10], some (83, false), true, 0, 0⟩, ⟨some 90, .bin .add, [.tmp 88, .tmp 89], some (83, false), true, 0, 0⟩, ⟨some 91, .bin .neq, [.tmp 87, .tmp 90], some (83, false), true, 0, 0⟩, ⟨some 92, .pick, [.tmp 83, .val (.bool true), .tmp 91], none, true, 0, 0⟩])]
def F7o10 : IC := .ops F7p10
def F7p11 : List (Sg × List IOp) := [(.seq, [⟨some 4, .move, [.val (.bool false)], none, true, 0, 0⟩])]
def F7o11 : IC := .ops F7p11
def F7p12 : List (Sg × List IOp) := [(.seq, [⟨some 94, .load (some 2), [.tmp 11], none, true, 0, 0⟩, ⟨some 95, .load (some 2), [.tmp 6], none, true, 0, 0⟩, ⟨some 96, .load (some 2), [.tmp 5], none, true, 0, 0⟩, ⟨some 97, .call, [.val (.fn 19 [] []), .tmp 94, .tmp 95, .tmp 96], none, true, 0, 0⟩, ⟨some 93, .move, [.tmp 97], none, true, 0, 0⟩, ⟨some 98, .extract 0, [.tmp 93], none, true, 0, 0⟩, ⟨some 99, .extract 1, [.tmp 93], none, true, 0, 0⟩, ⟨some 13, .alloc 35 2 [.nilSlice, .nilSlice], [], none, true, 0, 0⟩, ⟨none, .store 2, [.tmp 13, .tmp 98], none, true, 0, 0⟩, ⟨some 12, .move, [.tmp 99], none, true, 0, 0⟩])]
def F7o12 : IC := .ops F7p12
def F7p13 : List (Sg × List IOp) := [(.seq, [⟨some 100, .move, [.tmp 12], none, true, 0, 0⟩, ⟨some 101, .bin .eql, [.tmp 100, .val (.int .i64 0)], none, true, 0, 0⟩, ⟨some 102, .move, [.tmp 101], none, true, 0, 0⟩, ⟨some 103, .load (some 2), [.tmp 13], some (102, true), true, 0, 0⟩, ⟨some 104, .load (some 2), [.tmp 5], some (102, true), true, 0, 0⟩, ⟨some 105, .call, [.val (.fn 12 [] []), .tmp 103, .tmp 104], some (102, true), true, 0, 0⟩, ⟨some 106, .lenSl, [.tmp 105], some (102, true), true, 0, 0⟩, ⟨some 107, .move, [.tmp 9], some (102, true), true, 0, 0⟩, ⟨some 108, .move, [.tmp 10], some (102, true), true, 0, 0⟩, ⟨some 109, .bin .add, [.tmp 107, .tmp 108], some (102, true), true, 0, 0⟩, ⟨some 110, .bin .eql, [.tmp 106, .tmp 109], some (102, true), true, 0, 0⟩, ⟨some 111, .pick, [.tmp 102, .tmp 110, .val (.bool false)], none, true, 0, 0⟩, ⟨some 112, .move, [.tmp 111], none, true, 0, 0⟩, ⟨some 113, .load (some 2), [.tmp 13], some (112, true), true, 0, 0⟩, ⟨some 114, .load (some 2), [.tmp 8], some (112, true), true, 0, 0⟩, ⟨some 115, .call, [.val (.fn 18 [] []), .tmp 113, .tmp 114], some (112, true), true, 0, 0⟩, ⟨some 116, .move, [.tmp 10], some (112, true), true, 0, 0⟩, ⟨some 117, .bin .eql, [.tmp 116, .val (.int .i64 0)], some (112, true), true, 0, 0⟩, ⟨some 118, .eqBool false, [.tmp 115, .tmp 117], some (112, true), true, 0, 0⟩, ⟨some 119, .pick, [.tmp 112, .tmp 118, .val (.bool false)], none, true, 0, 0⟩, ⟨some 120, .move, [.tmp 119], none, true, 0, 0⟩, ⟨some 121, .call, [.val (.fn 16 [] [])], some (120, true), true, 0, 0⟩, ⟨some 122, .pick, [.tmp 120, .tmp 121, .val (.bool false)], none, true, 0, 0⟩, ⟨some 4, .move, [.tmp 122], none, true, 0, 0⟩])]
def F7o13 : IC := .ops F7p13
def F7b : IC := .seq (F7o0) (.seq (F7o1) (.seq (F7o2) (.seq (F7o3) (.seq (F7o4) (.seq (F7o5) (.seq (.block 0 (.seq (F7o6) (.cond (.tmp 56) (.seq (F7o7) (.ret)) (.seq (F7o8) (.cond (.tmp 64) (.seq (F7o9) (.ret)) (.skip)))))) (.seq (.seq (F7o10) (.cond (.tmp 92) (.seq (F7o11) (.ret)) (.skip))) (.seq (F7o12) (.seq (F7o13) (.ret))))))))))
def F7 : IFn := ⟨123, [(4, none)], F7b⟩
/- 8: (gansey/ganseylaw03.B).of -/
def F8p0 : List (Sg × List IOp) := [(.seq, [⟨some 2, .alloc 31 80 [.nilSlice, .nilSlice, .nilSlice, .nilSlice, .nilSlice, .nilSlice, .nilSlice, .nilSlice, .nilSlice, .nilSlice, .nilSlice, .nilSlice, .nilSlice, .nilSlice, .nilSlice, .nilSlice, .nilSlice, .nilSlice, .nilSlice, .nilSlice, .nilSlice, .nilSlice, .nilSlice, .nilSlice, .nilSlice, .nilSlice, .nilSlice, .nilSlice, .nilSlice, .nilSlice, .nilSlice, .nilSlice, .nilSlice, .nilSlice, .nilSlice, .nilSlice, .nilSlice, .nilSlice, .nilSlice, .nilSlice, .nilSlice, .nilSlice, .nilSlice, .nilSlice, .nilSlice, .nilSlice, .nilSlice, .nilSlice, .nilSlice, .nilSlice, .nilSlice, .nilSlice, .nilSlice, .nilSlice, .nilSlice, .nilSlice, .nilSlice, .nilSlice, .nilSlice, .nilSlice, .nilSlice, .nilSlice, .nilSlice, .nilSlice, .nilSlice, .nilSlice, .nilSlice, .nilSlice, .nilSlice, .nilSlice, .nilSlice, .nilSlice, .nilSlice, .nilSlice, .nilSlice, .nilSlice, .nilSlice, .nilSlice, .nilSlice, .nilSlice], [], none, true, 0, 0⟩])]
def F8o0 : IC := .ops F8p0
def F8p1 : List (Sg × List IOp) := [(.seq, [⟨some 3, .alloc 31 80 [.nilSlice, .nilSlice, .nilSlice, .nilSlice, .nilSlice, .nilSlice, .nilSlice, .nilSlice, .nilSlice, .nilSlice, .nilSlice, .nilSlice, .nilSlice, .nilSlice, .nilSlice, .nilSlice, .nilSlice, .nilSlice, .nilSlice, .nilSlice, .nilSlice, .nilSlice, .nilSlice, .nilSlice, .nilSlice, .nilSlice, .nilSlice, .nilSlice, .nilSlice, .nilSlice, .nilSlice, .nilSlice, .nilSlice, .nilSlice, .nilSlice, .nilSlice, .nilSlice, .nilSlice, .nilSlice, .nilSlice, .nilSlice, .nilSlice, .nilSlice, .nilSlice, .nilSlice, .nilSlice, .nilSlice, .nilSlice, .nilSlice, .nilSlice, .nilSlice, .nilSlice, .nilSlice, .nilSlice, .nilSlice, .nilSlice, .nilSlice, .nilSlice, .nilSlice, .nilSlice, .nilSlice, .nilSlice, .nilSlice, .nilSlice, .nilSlice, .nilSlice, .nilSlice, .nilSlice, .nilSlice, .nilSlice, .nilSlice, .nilSlice, .nilSlice, .nilSlice, .nilSlice, .nilSlice, .nilSlice, .nilSlice, .nilSlice, .nilSlice], [], none, true, 0, 0⟩])]
def F8o1 : IC := .ops F8p1
def F8p2 : List (Sg × List IOp) := [(.seq, [⟨some 4, .move, [.val (.int .i64 0)], none, true, 0, 0⟩])]
def F8o2 : IC := .ops F8p2
def F8p3 : List (Sg × List IOp) := [(.seq, [⟨some 5, .move, [.val (.int .i64 0)], none, true, 0, 0⟩])]
def F8o3 : IC := .ops F8p3
def F8p4 : List (Sg × List IOp) := [(.seq, [⟨some 8, .move, [.tmp 5], none, true, 0, 0⟩, ⟨some 9, .move, [.tmp 0], none, true, 0, 0⟩, ⟨some 10, .lenSl, [.tmp 9], none, true, 0, 0⟩, ⟨some 11, .bin .lss, [.tmp 8, .tmp 10], none, true, 0, 0⟩, ⟨some 12, .move, [.tmp 11], none, true, 0, 0⟩, ⟨some 13, .move, [.tmp 5], some (12, true), true, 0, 0⟩, ⟨some 14, .bin .lss, [.tmp 13, .val (.int .i64 40)], some (12, true), true, 0, 0⟩, ⟨some 15, .pick, [.tmp 12, .tmp 14, .val (.bool false)], none, true, 0, 0⟩])]
def F8o4 : IC := .ops F8p4
def F8p5 : List (Sg × List IOp) := [(.seq, [⟨some 18, .move, [.tmp 0], none, true, 0, 0⟩, ⟨some 19, .move, [.tmp 5], none, true, 0, 0⟩, ⟨some 20, .idxSl 2, [.tmp 18, .tmp 19], none, true, 0, 0⟩, ⟨some 21, .fieldAddr 0, [.tmp 20], none, true, 0, 0⟩, ⟨some 22, .load none, [.tmp 21], none, true, 0, 0⟩, ⟨some 23, .bin .rem, [.tmp 22, .val (.int .u8 80)], none, true, 0, 0⟩, ⟨some 6, .move, [.tmp 23], none, true, 0, 0⟩])]
def F8o5 : IC := .ops F8p5
def F8p6 : List (Sg × List IOp) := [(.seq, [⟨some 7, .move, [.val (.int .i64 0)], none, true, 0, 0⟩])]
def F8o6 : IC := .ops F8p6
def F8p7 : List (Sg × List IOp) := [(.seq, [⟨some 24, .move, [.tmp 7], none, true, 0, 0⟩, ⟨some 25, .move, [.tmp 0], none, true, 0, 0⟩, ⟨some 26, .move, [.tmp 5], none, true, 0, 0⟩, ⟨some 27, .idxSl 2, [.tmp 25, .tmp 26], none, true, 0, 0⟩, ⟨some 28, .fieldAddr 1, [.tmp 27], none, true, 0, 0⟩, ⟨some 29, .load none, [.tmp 28], none, true, 0, 0⟩, ⟨some 30, .bin .rem, [.tmp 29, .val (.int .u8 5)], none, true, 0, 0⟩, ⟨some 31, .conv .i64, [.tmp 30], none, true, 0, 0⟩, ⟨some 32, .bin .lss, [.tmp 24, .tmp 31], none, true, 0, 0⟩, ⟨some 33, .move, [.tmp 32], none, true, 0, 0⟩, ⟨some 34, .move, [.tmp 6], some (33, true), true, 0, 0⟩, ⟨some 35, .idxArrAddr 80 1, [.tmp 3, .tmp 34], some (33, true), true, 0, 0⟩, ⟨some 36, .load none, [.tmp 35], some (33, true), true, 0, 0⟩, ⟨some 37, .lenSl, [.tmp 36], some (33, true), true, 0, 0⟩, ⟨some 38, .bin .lss, [.tmp 37, .val (.int .i64 4)], some (33, true), true, 0, 0⟩, ⟨some 39, .pick, [.tmp 33, .tmp 38, .val (.bool false)], none, true, 0, 0⟩])]
def F8o7 : IC := .ops F8p7
def F8p8 : List (Sg × List IOp) := [(.seq, [⟨some 42, .move, [.tmp 6], none, true, 0, 0⟩, ⟨some 43, .move, [.tmp 6], none, true, 0, 0⟩, ⟨some 44, .idxArrAddr 80 1, [.tmp 3, .tmp 43], none, true, 0, 0⟩, ⟨some 45, .load none, [.tmp 44], none, true, 0, 0⟩, ⟨some 46, .move, [.tmp 4], none, true, 0, 0⟩, ⟨some 47, .bin .rem, [.tmp 46, .val (.int .i64 3)], none, true, 0, 0⟩, ⟨some 48, .conv .u8, [.tmp 47], none, true, 0, 0⟩, ⟨some 49, .bin .add, [.val (.int .u8 1), .tmp 48], none, true, 0, 0⟩, ⟨some 50, .move, [.tmp 4], none, true, 0, 0⟩, ⟨some 51, .bin .quo, [.tmp 50, .val (.int .i64 3)], none, true, 0, 0⟩, ⟨some 52, .build [.int .u8 0, .int .i64 0] [(0, 1), (1, 1)], [.tmp 49, .tmp 51], none, true, 0, 0⟩, ⟨some 53, .buildSl 28 2 1 [.int .u8 0, .int .i64 0] [(0, 2)], [.tmp 52], none, true, 0, 0⟩, ⟨some 54, .append 28 2 16, [.tmp 45, .tmp 53], none, true, 0, 0⟩, ⟨some 55, .idxArrAddr 80 1, [.tmp 3, .tmp 42], none, true, 0, 0⟩, ⟨none, .store 1, [.tmp 55, .tmp 54], none, true, 0, 0⟩])]
def F8o8 : IC := .ops F8p8
def F8p9 : List (Sg × List IOp) := [(.seq, [⟨some 56, .move, [.tmp 4], none, true, 0, 0⟩, ⟨some 57, .bin .add, [.tmp 56, .val (.int .i64 1)], none, true, 0, 0⟩, ⟨some 4, .move, [.tmp 57], none, true, 0, 0⟩])]
def F8o9 : IC := .ops F8p9
def F8p10 : List (Sg × List IOp) := [(.seq, [⟨some 40, .move, [.tmp 7], none, true, 0, 0⟩, ⟨some 41, .bin .add, [.tmp 40, .val (.int .i64 1)], none, true, 0, 0⟩, ⟨some 7, .move, [.tmp 41], none, true, 0, 0⟩])]
def F8o10 : IC := .ops F8p10
def F8l11 : IC := .seq (.seq (F8o7) (.cond (.tmp 39) (.skip) (.exit 2))) (.seq (.block 3 (.seq (F8o8) (F8o9))) (F8o10))
def F8p12 : List (Sg × List IOp) := [(.seq, [⟨some 16, .move, [.tmp 5], none, true, 0, 0⟩, ⟨some 17, .bin .add, [.tmp 16, .val (.int .i64 1)], none, true, 0, 0⟩, ⟨some 5, .move, [.tmp 17], none, true, 0, 0⟩])]
def F8o12 : IC := .ops F8p12
def F8l13 : IC := .seq (.seq (F8o4) (.cond (.tmp 15) (.skip) (.exit 0))) (.seq (.block 1 (.seq (F8o5) (.seq (F8o6) (.block 2 (.loop F8l11))))) (F8o12))
def F8p14 : List (Sg × List IOp) := [(.seq, [⟨some 58, .load (some 80), [.tmp 3], none, true, 0, 0⟩, ⟨none, .store 80, [.tmp 2, .tmp 58], none, true, 0, 0⟩])]
def F8o14 : IC := .ops F8p14
def F8b : IC := .seq (F8o0) (.seq (F8o1) (.seq (F8o2) (.seq (.seq (F8o3) (.block 0 (.loop F8l13))) (.seq (F8o14) (.ret)))))
def F8 : IFn := ⟨59, [(2, some (some 80))], F8b⟩
/- 9: (gansey/ganseylaw03.table).beds -/
def F9p0 : List (Sg × List IOp) := [(.seq, [⟨some 1, .box 31 80, [.tmp 0], none, true, 0, 0⟩, ⟨some 2, .alloc 35 2 [.nilSlice, .nilSlice], [], none, true, 0, 0⟩])]
def F9o0 : IC := .ops F9p0
def F9p1 : List (Sg × List IOp) := [(.seq, [⟨some 3, .alloc 35 2 [.nilSlice, .nilSlice], [], none, true, 0, 0⟩])]
def F9o1 : IC := .ops F9p1
def F9p2 : List (Sg × List IOp) := [(.seq, [⟨some 4, .move, [.val (.int .i64 39)], none, true, 0, 0⟩])]
def F9o2 : IC := .ops F9p2
def F9p3 : List (Sg × List IOp) := [(.seq, [⟨some 7, .move, [.tmp 4], none, true, 0, 0⟩, ⟨some 8, .bin .geq, [.tmp 7, .val (.int .i64 0)], none, true, 0, 0⟩])]
def F9o3 : IC := .ops F9p3
def F9p4 : List (Sg × List IOp) := [(.seq, [⟨some 11, .fieldAddr 0, [.tmp 3], none, true, 0, 0⟩, ⟨some 12, .load none, [.tmp 11], none, true, 0, 0⟩, ⟨some 13, .lenSl, [.tmp 12], none, true, 0, 0⟩, ⟨some 14, .bin .eql, [.tmp 13, .val (.int .i64 0)], none, true, 0, 0⟩, ⟨some 15, .move, [.tmp 14], none, true, 0, 0⟩, ⟨some 16, .move, [.tmp 4], some (15, true), true, 0, 0⟩, ⟨some 17, .idxArrAddr 80 1, [.tmp 1, .tmp 16], some (15, true), true, 0, 0⟩, ⟨some 18, .load none, [.tmp 17], some (15, true), true, 0, 0⟩, ⟨some 19, .lenSl, [.tmp 18], some (15, true), true, 0, 0⟩, ⟨some 20, .bin .gtr, [.tmp 19, .val (.int .i64 0)], some (15, true), true, 0, 0⟩, ⟨some 21, .pick, [.tmp 15, .tmp 20, .val (.bool false)], none, true, 0, 0⟩])]
def F9o4 : IC := .ops F9p4
def F9p5 : List (Sg × List IOp) := [(.seq, [⟨some 22, .move, [.tmp 4], none, true, 0, 0⟩, ⟨some 23, .bin .add, [.tmp 22, .val (.int .i64 1)], none, true, 0, 0⟩, ⟨some 24, .mksl 29 1 24 [.nilSlice], [.tmp 23, .tmp 23], none, true, 0, 0⟩, ⟨some 25, .fieldAddr 0, [.tmp 3], none, true, 0, 0⟩, ⟨none, .store 1, [.tmp 25, .tmp 24], none, true, 0, 0⟩])]
def F9o5 : IC := .ops F9p5
def F9p6 : List (Sg × List IOp) := [(.seq, [⟨some 26, .fieldAddr 1, [.tmp 3], none, true, 0, 0⟩, ⟨some 27, .load none, [.tmp 26], none, true, 0, 0⟩, ⟨some 28, .lenSl, [.tmp 27], none, true, 0, 0⟩, ⟨some 29, .bin .eql, [.tmp 28, .val (.int .i64 0)], none, true, 0, 0⟩, ⟨some 30, .move, [.tmp 29], none, true, 0, 0⟩, ⟨some 31, .move, [.tmp 4], some (30, true), true, 0, 0⟩, ⟨some 32, .bin .add, [.val (.int .i64 40), .tmp 31], some (30, true), true, 0, 0⟩, ⟨some 33, .idxArrAddr 80 1, [.tmp 1, .tmp 32], some (30, true), true, 0, 0⟩, ⟨some 34, .load none, [.tmp 33], some (30, true), true, 0, 0⟩, ⟨some 35, .lenSl, [.tmp 34], some (30, true), true, 0, 0⟩, ⟨some 36, .bin .gtr, [.tmp 35, .val (.int .i64 0)], some (30, true), true, 0, 0⟩, ⟨some 37, .pick, [.tmp 30, .tmp 36, .val (.bool false)], none, true, 0, 0⟩])]
def F9o6 : IC := .ops F9p6
def F9p7 : List (Sg × List IOp) := [(.seq, [⟨some 38, .move, [.tmp 4], none, true, 0, 0⟩, ⟨some 39, .bin .add, [.tmp 38, .val (.int .i64 1)], none, true, 0, 0⟩, ⟨some 40, .mksl 29 1 24 [.nilSlice], [.tmp 39, .tmp 39], none, true, 0, 0⟩, ⟨some 41, .fieldAddr 1, [.tmp 3], none, true, 0, 0⟩, ⟨none, .store 1, [.tmp 41, .tmp 40], none, true, 0, 0⟩])]
def F9o7 : IC := .ops F9p7
def F9p8 : List (Sg × List IOp) := [(.seq, [⟨some 9, .move, [.tmp 4], none, true, 0, 0⟩, ⟨some 10, .bin .sub, [.tmp 9, .val (.int .i64 1)], none, true, 0, 0⟩, ⟨some 4, .move, [.tmp 10], none, true, 0, 0⟩])]
def F9o8 : IC := .ops F9p8
def F9l9 : IC := .seq (.seq (F9o3) (.cond (.tmp 8) (.skip) (.exit 0))) (.seq (.block 1 (.seq (.seq (F9o4) (.cond (.tmp 21) (F9o5) (.skip))) (.seq (F9o6) (.cond (.tmp 37) (F9o7) (.skip))))) (F9o8))
def F9p10 : List (Sg × List IOp) := [(.seq, [⟨some 5, .move, [.val (.int .i64 0)], none, true, 0, 0⟩])]
def F9o10 : IC := .ops F9p10
def F9p11 : List (Sg × List IOp) := [(.seq, [⟨some 42, .move, [.tmp 5], none, true, 0, 0⟩, ⟨some 43, .fieldAddr 0, [.tmp 3], none, true, 0, 0⟩, ⟨some 44, .load none, [.tmp 43], none, true, 0, 0⟩, ⟨some 45, .lenSl, [.tmp 44], none, true, 0, 0⟩, ⟨some 46, .bin .lss, [.tmp 42, .tmp 45], none, true, 0, 0⟩])]
def F9o11 : IC := .ops F9p11
def F9p12 : List (Sg × List IOp) := [(.free, [⟨some 49, .fieldAddr 0, [.tmp 3], none, false, 0, 0⟩, ⟨some 50, .load none, [.tmp 49], none, false, 1, 1⟩, ⟨some 51, .move, [.tmp 5], none, false, 2, 0⟩, ⟨some 52, .buildSl 28 2 0 [] [], [], none, false, 3, 0⟩, ⟨some 53, .move, [.tmp 5], none, false, 4, 0⟩, ⟨some 54, .idxArrAddr 80 1, [.tmp 1, .tmp 53], none, false, 5, 16⟩, ⟨some 55, .load none, [.tmp 54], none, false, 6, 48⟩, ⟨some 56, .append 28 2 16, [.tmp 52, .tmp 55], none, true, 7, 120⟩]), (.seq, [⟨some 57, .idxSl 1, [.tmp 50, .tmp 51], none, true, 8, 255⟩]), (.seq, [⟨none, .store 1, [.tmp 57, .tmp 56], none, true, 9, 511⟩])]
def F9o12 : IC := .ops F9p12
def F9p13 : List (Sg × List IOp) := [(.seq, [⟨some 47, .move, [.tmp 5], none, true, 0, 0⟩, ⟨some 48, .bin .add, [.tmp 47, .val (.int .i64 1)], none, true, 0, 0⟩, ⟨some 5, .move, [.tmp 48], none, true, 0, 0⟩])]
def F9o13 : IC := .ops F9p13
def F9l14 : IC := .seq (.seq (F9o11) (.cond (.tmp 46) (.skip) (.exit 2))) (.seq (.block 3 (F9o12)) (F9o13))
def F9p15 : List (Sg × List IOp) := [(.seq, [⟨some 6, .move, [.val (.int .i64 0)], none, true, 0, 0⟩])]
def F9o15 : IC := .ops F9p15
def F9p16 : List (Sg × List IOp) := [(.seq, [⟨some 58, .move, [.tmp 6], none, true, 0, 0⟩, ⟨some 59, .fieldAddr 1, [.tmp 3], none, true, 0, 0⟩, ⟨some 60, .load none, [.tmp 59], none, true, 0, 0⟩, ⟨some 61, .lenSl, [.tmp 60], none, true, 0, 0⟩, ⟨some 62, .bin .lss, [.tmp 58, .tmp 61], none, true, 0, 0⟩])]
def F9o16 : IC := .ops F9p16
def F9p17 : List (Sg × List IOp) := [(.free, [⟨some 65, .fieldAddr 1, [.tmp 3], none, false, 0, 0⟩, ⟨some 66, .load none, [.tmp 65], none, false, 1, 1⟩, ⟨some 67, .move, [.tmp 6], none, false, 2, 0⟩, ⟨some 68, .buildSl 28 2 0 [] [], [], none, false, 3, 0⟩, ⟨some 69, .move, [.tmp 6], none, false, 4, 0⟩, ⟨some 70, .bin .add, [.val (.int .i64 40), .tmp 69], none, false, 5, 16⟩, ⟨some 71, .idxArrAddr 80 1, [.tmp 1, .tmp 70], none, false, 6, 48⟩, ⟨some 72, .load none, [.tmp 71], none, false, 7, 112⟩, ⟨some 73, .append 28 2 16, [.tmp 68, .tmp 72], none, true, 8, 248⟩]), (.seq, [⟨some 74, .idxSl 1, [.tmp 66, .tmp 67], none, true, 9, 511⟩]), (.seq, [⟨none, .store 1, [.tmp 74, .tmp 73], none, true, 10, 1023⟩])]
def F9o17 : IC := .ops F9p17
def F9p18 : List (Sg × List IOp) := [(.seq, [⟨some 63, .move, [.tmp 6], none, true, 0, 0⟩, ⟨some 64, .bin .add, [.tmp 63, .val (.int .i64 1)], none, true, 0, 0⟩, ⟨some 6, .move, [.tmp 64], none, true, 0, 0⟩])]
def F9o18 : IC := .ops F9p18
def F9l19 : IC := .seq (.seq (F9o16) (.cond (.tmp 62) (.skip) (.exit 4))) (.seq (.block 5 (F9o17)) (F9o18))
def F9p20 : List (Sg × List IOp) := [(.seq, [⟨some 75, .load (some 2), [.tmp 3], none, true, 0, 0⟩, ⟨none, .store 2, [.tmp 2, .tmp 75], none, true, 0, 0⟩])]
def F9o20 : IC := .ops F9p20
def F9b : IC := .seq (F9o0) (.seq (F9o1) (.seq (.seq (F9o2) (.block 0 (.loop F9l9))) (.seq (.seq (F9o10) (.block 2 (.loop F9l14))) (.seq (.seq (F9o15) (.block 4 (.loop F9l19))) (.seq (F9o20) (.ret))))))
def F9 : IFn := ⟨76, [(2, some (some 2))], F9b⟩
/- 10: gansey/stacks.Check -/
def F10p0 : List (Sg × List IOp) := [(.seq, [⟨some 1, .box 35 2, [.tmp 0], none, true, 0, 0⟩, ⟨some 2, .alloc 37 1 [.int .i64 0], [], none, true, 0, 0⟩])]
def F10o0 : IC := .ops F10p0
def F10p1 : List (Sg × List IOp) := [(.seq, [⟨some 20, .load (some 2), [.tmp 1], none, true, 0, 0⟩, ⟨some 21, .call, [.val (.fn 22 [] []), .tmp 20], none, true, 0, 0⟩])]
def F10o1 : IC := .ops F10p1
def F10p2 : List (Sg × List IOp) := [(.seq, [⟨some 4, .move, [.tmp 23], none, true, 0, 0⟩])]
def F10o2 : IC := .ops F10p2
def F10p3 : List (Sg × List IOp) := [(.seq, [⟨some 24, .move, [.tmp 4], none, true, 0, 0⟩, ⟨some 25, .lenSl, [.tmp 24], none, true, 0, 0⟩, ⟨some 26, .bin .gtr, [.tmp 25, .val (.int .i64 40)], none, true, 0, 0⟩])]
def F10o3 : IC := .ops F10p3
def F10p4 : List (Sg × List IOp) := [(.seq, [⟨none, .store 1, [.tmp 2, .val (.int .i64 9)], none, true, 0, 0⟩])]
def F10o4 : IC := .ops F10p4
def F10p5 : List (Sg × List IOp) := [(.seq, [⟨some 27, .move, [.tmp 4], none, true, 0, 0⟩, ⟨some 28, .lenSl, [.tmp 27], none, true, 0, 0⟩, ⟨some 29, .move, [.val (.int .i64 0)], none, true, 0, 0⟩])]
def F10o5 : IC := .ops F10p5
def F10p6 : List (Sg × List IOp) := [(.seq, [⟨some 30, .bin .lss, [.tmp 29, .tmp 28], none, true, 0, 0⟩])]
def F10o6 : IC := .ops F10p6
def F10p7 : List (Sg × List IOp) := [(.seq, [⟨some 31, .idxSl 1, [.tmp 27, .tmp 29], none, true, 0, 0⟩, ⟨some 32, .load none, [.tmp 31], none, true, 0, 0⟩, ⟨some 6, .move, [.tmp 32], none, true, 0, 0⟩])]
def F10o7 : IC := .ops F10p7
def F10p8 : List (Sg × List IOp) := [(.seq, [⟨some 33, .move, [.tmp 6], none, true, 0, 0⟩, ⟨some 34, .lenSl, [.tmp 33], none, true, 0, 0⟩, ⟨some 35, .bin .gtr, [.tmp 34, .val (.int .i64 4)], none, true, 0, 0⟩])]
def F10o8 : IC := .ops F10p8
def F10p9 : List (Sg × List IOp) := [(.seq, [⟨none, .store 1, [.tmp 2, .val (.int .i64 9)], none, true, 0, 0⟩])]
def F10o9 : IC := .ops F10p9
def F10p10 : List (Sg × List IOp) := [(.seq, [⟨some 36, .bin .add, [.tmp 29, .val (.int .i64 1)], none, true, 0, 0⟩, ⟨some 29, .move, [.tmp 36], none, true, 0, 0⟩])]
def F10o10 : IC := .ops F10p10
def F10l11 : IC := .seq (F10o6) (.seq (.cond (.tmp 30) (.skip) (.exit 2)) (.seq (.block 3 (.seq (F10o7) (.seq (F10o8) (.cond (.tmp 35) (.seq (F10o9) (.ret)) (.skip))))) (F10o10)))
def F10p12 : List (Sg × List IOp) := [(.seq, [⟨some 37, .load (some 2), [.tmp 1], none, true, 0, 0⟩, ⟨some 38, .call, [.val (.fn 22 [] []), .tmp 37], none, true, 0, 0⟩])]
def F10o12 : IC := .ops F10p12
def F10p13 : List (Sg × List IOp) := [(.seq, [⟨some 8, .move, [.tmp 40], none, true, 0, 0⟩])]
def F10o13 : IC := .ops F10p13
def F10p14 : List (Sg × List IOp) := [(.seq, [⟨some 41, .move, [.tmp 8], none, true, 0, 0⟩, ⟨some 42, .lenSl, [.tmp 41], none, true, 0, 0⟩, ⟨some 43, .move, [.val (.int .i64 0)], none, true, 0, 0⟩])]
def F10o14 : IC := .ops F10p14
def F10p15 : List (Sg × List IOp) := [(.seq, [⟨some 44, .bin .lss, [.tmp 43, .tmp 42], none, true, 0, 0⟩])]
def F10o15 : IC := .ops F10p15
def F10p16 : List (Sg × List IOp) := [(.seq, [⟨some 45, .idxSl 1, [.tmp 41, .tmp 43], none, true, 0, 0⟩, ⟨some 46, .load none, [.tmp 45], none, true, 0, 0⟩, ⟨some 10, .move, [.tmp 46], none, true, 0, 0⟩])]
def F10o16 : IC := .ops F10p16
def F10p17 : List (Sg × List IOp) := [(.seq, [⟨some 47, .move, [.tmp 10], none, true, 0, 0⟩, ⟨some 48, .lenSl, [.tmp 47], none, true, 0, 0⟩, ⟨some 49, .move, [.val (.int .i64 0)], none, true, 0, 0⟩])]
def F10o17 : IC := .ops F10p17
def F10p18 : List (Sg × List IOp) := [(.seq, [⟨some 50, .bin .lss, [.tmp 49, .tmp 48], none, true, 0, 0⟩])]
def F10o18 : IC := .ops F10p18
def F10p19 : List (Sg × List IOp) := [(.seq, [⟨some 51, .idxSl 2, [.tmp 47, .tmp 49], none, true, 0, 0⟩, ⟨some 52, .load (some 2), [.tmp 51], none, true, 0, 0⟩, ⟨some 12, .alloc 28 2 [.int .u8 0, .int .i64 0], [], none, true, 0, 0⟩, ⟨none, .store 2, [.tmp 12, .tmp 52], none, true, 0, 0⟩])]
def F10o19 : IC := .ops F10p19
def F10p20 : List (Sg × List IOp) := [(.seq, [⟨some 53, .load (some 2), [.tmp 12], none, true, 0, 0⟩, ⟨some 54, .call, [.val (.fn 23 [] []), .tmp 53], none, true, 0, 0⟩, ⟨some 55, .un .not, [.tmp 54], none, true, 0, 0⟩])]
def F10o20 : IC := .ops F10p20
def F10p21 : List (Sg × List IOp) := [(.seq, [⟨none, .store 1, [.tmp 2, .val (.int .i64 1)], none, true, 0, 0⟩])]
def F10o21 : IC := .ops F10p21
def F10p22 : List (Sg × List IOp) := [(.seq, [⟨some 56, .bin .add, [.tmp 49, .val (.int .i64 1)], none, true, 0, 0⟩, ⟨some 49, .move, [.tmp 56], none, true, 0, 0⟩])]
def F10o22 : IC := .ops F10p22
def F10l23 : IC := .seq (F10o18) (.seq (.cond (.tmp 50) (.skip) (.exit 8)) (.seq (.block 9 (.seq (F10o19) (.seq (F10o20) (.cond (.tmp 55) (.seq (F10o21) (.ret)) (.skip))))) (F10o22)))
def F10p24 : List (Sg × List IOp) := [(.seq, [⟨some 57, .bin .add, [.tmp 43, .val (.int .i64 1)], none, true, 0, 0⟩, ⟨some 43, .move, [.tmp 57], none, true, 0, 0⟩])]
def F10o24 : IC := .ops F10p24
def F10l25 : IC := .seq (F10o15) (.seq (.cond (.tmp 44) (.skip) (.exit 6)) (.seq (.block 7 (.seq (F10o16) (.seq (F10o17) (.block 8 (.loop F10l23))))) (F10o24)))
def F10p26 : List (Sg × List IOp) := [(.seq, [⟨some 58, .load (some 2), [.tmp 1], none, true, 0, 0⟩, ⟨some 59, .call, [.val (.fn 15 [] []), .tmp 58], none, true, 0, 0⟩, ⟨some 60, .mkmap, [.tmp 59], none, true, 0, 0⟩, ⟨some 13, .alloc 62 1 [.nilMap], [], none, true, 0, 0⟩, ⟨none, .store 1, [.tmp 13, .tmp 60], none, true, 0, 0⟩])]
def F10o26 : IC := .ops F10p26
def F10p27 : List (Sg × List IOp) := [(.seq, [⟨some 61, .load (some 2), [.tmp 1], none, true, 0, 0⟩, ⟨some 62, .call, [.val (.fn 22 [] []), .tmp 61], none, true, 0, 0⟩])]
def F10o27 : IC := .ops F10p27
def F10p28 : List (Sg × List IOp) := [(.seq, [⟨some 15, .move, [.tmp 64], none, true, 0, 0⟩])]
def F10o28 : IC := .ops F10p28
def F10p29 : List (Sg × List IOp) := [(.seq, [⟨some 65, .move, [.tmp 15], none, true, 0, 0⟩, ⟨some 66, .lenSl, [.tmp 65], none, true, 0, 0⟩, ⟨some 67, .move, [.val (.int .i64 0)], none, true, 0, 0⟩])]
def F10o29 : IC := .ops F10p29
def F10p30 : List (Sg × List IOp) := [(.seq, [⟨some 68, .bin .lss, [.tmp 67, .tmp 66], none, true, 0, 0⟩])]
def F10o30 : IC := .ops F10p30
def F10p31 : List (Sg × List IOp) := [(.seq, [⟨some 69, .idxSl 1, [.tmp 65, .tmp 67], none, true, 0, 0⟩, ⟨some 70, .load none, [.tmp 69], none, true, 0, 0⟩, ⟨some 17, .move, [.tmp 70], none, true, 0, 0⟩])]
def F10o31 : IC := .ops F10p31
def F10p32 : List (Sg × List IOp) := [(.seq, [⟨some 71, .move, [.tmp 17], none, true, 0, 0⟩, ⟨some 72, .lenSl, [.tmp 71], none, true, 0, 0⟩, ⟨some 73, .move, [.val (.int .i64 0)], none, true, 0, 0⟩])]
def F10o32 : IC := .ops F10p32
def F10p33 : List (Sg × List IOp) := [(.seq, [⟨some 74, .bin .lss, [.tmp 73, .tmp 72], none, true, 0, 0⟩])]
def F10o33 : IC := .ops F10p33
def F10p34 : List (Sg × List IOp) := [(.seq, [⟨some 75, .idxSl 2, [.tmp 71, .tmp 73], none, true, 0, 0⟩, ⟨some 76, .load (some 2), [.tmp 75], none, true, 0, 0⟩, ⟨some 19, .alloc 28 2 [.int .u8 0, .int .i64 0], [], none, true, 0, 0⟩, ⟨none, .store 2, [.tmp 19, .tmp 76], none, true, 0, 0⟩])]
def F10o34 : IC := .ops F10p34
def F10p35 : List (Sg × List IOp) := [(.seq, [⟨some 77, .load none, [.tmp 13], none, true, 0, 0⟩, ⟨some 78, .load (some 2), [.tmp 19], none, true, 0, 0⟩, ⟨some 79, .lookup 62 (true, [.int, .int]) (.bool false) false, [.tmp 77, .tmp 78], none, true, 0, 0⟩])]
def F10o35 : IC := .ops F10p35
def F10p36 : List (Sg × List IOp) := [(.seq, [⟨none, .store 1, [.tmp 2, .val (.int .i64 8)], none, true, 0, 0⟩])]
def F10o36 : IC := .ops F10p36
def F10p37 : List (Sg × List IOp) := [(.seq, [⟨some 80, .load none, [.tmp 13], none, true, 0, 0⟩, ⟨some 81, .load (some 2), [.tmp 19], none, true, 0, 0⟩, ⟨none, .mapUpd (true, [.int, .int]), [.tmp 80, .tmp 81, .val (.bool true)], none, true, 0, 0⟩])]
def F10o37 : IC := .ops F10p37
def F10p38 : List (Sg × List IOp) := [(.seq, [⟨some 82, .bin .add, [.tmp 73, .val (.int .i64 1)], none, true, 0, 0⟩, ⟨some 73, .move, [.tmp 82], none, true, 0, 0⟩])]
def F10o38 : IC := .ops F10p38
def F10l39 : IC := .seq (F10o33) (.seq (.cond (.tmp 74) (.skip) (.exit 14)) (.seq (.block 15 (.seq (F10o34) (.seq (.seq (F10o35) (.cond (.tmp 79) (.seq (F10o36) (.ret)) (.skip))) (F10o37)))) (F10o38)))
def F10p40 : List (Sg × List IOp) := [(.seq, [⟨some 83, .bin .add, [.tmp 67, .val (.int .i64 1)], none, true, 0, 0⟩, ⟨some 67, .move, [.tmp 83], none, true, 0, 0⟩])]
def F10o40 : IC := .ops F10p40
def F10l41 : IC := .seq (F10o30) (.seq (.cond (.tmp 68) (.skip) (.exit 12)) (.seq (.block 13 (.seq (F10o31) (.seq (F10o32) (.block 14 (.loop F10l39))))) (F10o40)))
def F10p42 : List (Sg × List IOp) := [(.seq, [⟨none, .store 1, [.tmp 2, .val (.int .i64 0)], none, true, 0, 0⟩])]
def F10o42 : IC := .ops F10p42
def F10b : IC := .seq (F10o0) (.seq (.seq (F10o1) (.block 0 (.rfn (.tmp 21) [22, 23] (F10o2) (.block 1 (.seq (.seq (F10o3) (.cond (.tmp 26) (.seq (F10o4) (.ret)) (.skip))) (.seq (F10o5) (.block 2 (.loop F10l11)))))))) (.seq (.seq (F10o12) (.block 4 (.rfn (.tmp 38) [39, 40] (F10o13) (.block 5 (.seq (F10o14) (.block 6 (.loop F10l25))))))) (.seq (F10o26) (.seq (.seq (F10o27) (.block 10 (.rfn (.tmp 62) [63, 64] (F10o28) (.block 11 (.seq (F10o29) (.block 12 (.loop F10l41))))))) (.seq (F10o42) (.ret))))))
def F10 : IFn := ⟨84, [(2, some none)], F10b⟩
/- 11: (gansey/ganseylaw03.table).differs -/
def F11p0 : List (Sg × List IOp) := [(.seq, [⟨some 2, .box 31 80, [.tmp 0], none, true, 0, 0⟩, ⟨some 3, .box 35 2, [.tmp 1], none, true, 0, 0⟩, ⟨some 4, .move, [.val (.int .i64 0)], none, true, 0, 0⟩])]
def F11o0 : IC := .ops F11p0
def F11p1 : List (Sg × List IOp) := [(.seq, [⟨some 5, .move, [.val (.int .i64 0)], none, true, 0, 0⟩])]
def F11o1 : IC := .ops F11p1
def F11p2 : List (Sg × List IOp) := [(.seq, [⟨some 6, .move, [.val (.int .i64 0)], none, true, 0, 0⟩])]
def F11o2 : IC := .ops F11p2
def F11p3 : List (Sg × List IOp) := [(.seq, [⟨some 9, .move, [.tmp 6], none, true, 0, 0⟩, ⟨some 10, .bin .lss, [.tmp 9, .val (.int .i64 80)], none, true, 0, 0⟩])]
def F11o3 : IC := .ops F11p3
def F11p4 : List (Sg × List IOp) := [(.free, [⟨some 13, .load (some 2), [.tmp 3], none, false, 0, 0⟩, ⟨some 14, .move, [.tmp 6], none, false, 1, 0⟩, ⟨some 15, .conv .u8, [.tmp 14], none, false, 2, 2⟩, ⟨some 16, .call, [.val (.fn 13 [] []), .tmp 15], none, false, 3, 6⟩, ⟨some 17, .call, [.val (.fn 12 [] []), .tmp 13, .tmp 16], none, false, 4, 15⟩, ⟨some 18, .move, [.tmp 6], none, false, 5, 0⟩, ⟨some 19, .idxArrAddr 80 1, [.tmp 2, .tmp 18], none, false, 6, 32⟩, ⟨some 20, .load none, [.tmp 19], none, false, 7, 96⟩, ⟨some 21, .lenSl, [.tmp 20], none, false, 8, 224⟩, ⟨some 22, .mksl 28 2 16 [.int .u8 0, .int .i64 0], [.val (.int .i64 0), .tmp 21], none, false, 9, 480⟩, ⟨some 23, .move, [.tmp 6], none, false, 10, 0⟩, ⟨some 24, .idxArrAddr 80 1, [.tmp 2, .tmp 23], none, false, 11, 1024⟩, ⟨some 25, .load none, [.tmp 24], none, false, 12, 3072⟩]), (.seq, [⟨some 26, .append 28 2 16, [.tmp 22, .tmp 25], none, true, 13, 8191⟩]), (.seq, [⟨some 27, .call, [.val (.fn 20 [] []), .tmp 17, .tmp 26], none, true, 14, 16383⟩]), (.seq, [⟨some 28, .bin .eql, [.tmp 27, .val (.int .i64 0)], none, true, 15, 32767⟩])]
def F11o4 : IC := .ops F11p4
def F11p5 : List (Sg × List IOp) := [(.seq, [⟨some 29, .move, [.tmp 5], none, true, 0, 0⟩, ⟨some 30, .bin .add, [.tmp 29, .val (.int .i64 1)], none, true, 0, 0⟩, ⟨some 5, .move, [.tmp 30], none, true, 0, 0⟩])]
def F11o5 : IC := .ops F11p5
def F11p6 : List (Sg × List IOp) := [(.seq, [⟨some 11, .move, [.tmp 6], none, true, 0, 0⟩, ⟨some 12, .bin .add, [.tmp 11, .val (.int .i64 1)], none, true, 0, 0⟩, ⟨some 6, .move, [.tmp 12], none, true, 0, 0⟩])]
def F11o6 : IC := .ops F11p6
def F11l7 : IC := .seq (.seq (F11o3) (.cond (.tmp 10) (.skip) (.exit 0))) (.seq (.block 1 (.seq (F11o4) (.cond (.tmp 28) (F11o5) (.skip)))) (F11o6))
def F11p8 : List (Sg × List IOp) := [(.seq, [⟨some 31, .fieldAddr 0, [.tmp 3], none, true, 0, 0⟩, ⟨some 32, .load none, [.tmp 31], none, true, 0, 0⟩, ⟨some 33, .lenSl, [.tmp 32], none, true, 0, 0⟩, ⟨some 7, .move, [.tmp 33], none, true, 0, 0⟩])]
def F11o8 : IC := .ops F11p8
def F11p9 : List (Sg × List IOp) := [(.seq, [⟨some 34, .move, [.tmp 7], none, true, 0, 0⟩, ⟨some 35, .bin .gtr, [.tmp 34, .val (.int .i64 0)], none, true, 0, 0⟩, ⟨some 36, .move, [.tmp 35], none, true, 0, 0⟩, ⟨some 37, .fieldAddr 0, [.tmp 3], some (36, true), true, 0, 0⟩, ⟨some 38, .load none, [.tmp 37], some (36, true), true, 0, 0⟩, ⟨some 39, .move, [.tmp 7], some (36, true), true, 0, 0⟩, ⟨some 40, .bin .sub, [.tmp 39, .val (.int .i64 1)], some (36, true), true, 0, 0⟩, ⟨some 41, .idxSl 1, [.tmp 38, .tmp 40], some (36, true), true, 0, 0⟩, ⟨some 42, .load none, [.tmp 41], some (36, true), true, 0, 0⟩, ⟨some 43, .lenSl, [.tmp 42], some (36, true), true, 0, 0⟩, ⟨some 44, .bin .eql, [.tmp 43, .val (.int .i64 0)], some (36, true), true, 0, 0⟩, ⟨some 45, .pick, [.tmp 36, .tmp 44, .val (.bool false)], none, true, 0, 0⟩, ⟨some 46, .move, [.tmp 45], none, true, 0, 0⟩, ⟨some 47, .fieldAddr 0, [.tmp 3], some (46, false), true, 0, 0⟩, ⟨some 48, .load none, [.tmp 47], some (46, false), true, 0, 0⟩, ⟨some 49, .cap, [.tmp 48], some (46, false), true, 0, 0⟩, ⟨some 50, .move, [.tmp 7], some (46, false), true, 0, 0⟩, ⟨some 51, .bin .neq, [.tmp 49, .tmp 50], some (46, false), true, 0, 0⟩, ⟨some 52, .pick, [.tmp 46, .val (.bool true), .tmp 51], none, true, 0, 0⟩])]
def F11o9 : IC := .ops F11p9
def F11p10 : List (Sg × List IOp) := [(.seq, [⟨some 53, .move, [.tmp 5], none, true, 0, 0⟩, ⟨some 54, .bin .add, [.tmp 53, .val (.int .i64 1)], none, true, 0, 0⟩, ⟨some 5, .move, [.tmp 54], none, true, 0, 0⟩])]
def F11o10 : IC := .ops F11p10
def F11p11 : List (Sg × List IOp) := [(.seq, [⟨some 55, .fieldAddr 1, [.tmp 3], none, true, 0, 0⟩, ⟨some 56, .load none, [.tmp 55], none, true, 0, 0⟩, ⟨some 57, .lenSl, [.tmp 56], none, true, 0, 0⟩, ⟨some 8, .move, [.tmp 57], none, true, 0, 0⟩])]
def F11o11 : IC := .ops F11p11
def F11p12 : List (Sg × List IOp) := [(.seq, [⟨some 58, .move, [.tmp 8], none, true, 0, 0⟩, ⟨some 59, .bin .gtr, [.tmp 58, .val (.int .i64 0)], none, true, 0, 0⟩, ⟨some 60, .move, [.tmp 59], none, true, 0, 0⟩, ⟨some 61, .fieldAddr 1, [.tmp 3], some (60, true), true, 0, 0⟩, ⟨some 62, .load none, [.tmp 61], some (60, true), true, 0, 0⟩, ⟨some 63, .move, [.tmp 8], some (60, true), true, 0, 0⟩, ⟨some 64, .bin .sub, [.tmp 63, .val (.int .i64 1)], some (60, true), true, 0, 0⟩, ⟨some 65, .idxSl 1, [.tmp 62, .tmp 64], some (60, true), true, 0, 0⟩, ⟨some 66, .load none, [.tmp 65], some (60, true), true, 0, 0⟩, ⟨some 67, .lenSl, [.tmp 66], some (60, true), true, 0, 0⟩, ⟨some 68, .bin .eql, [.tmp 67, .val (.int .i64 0)], some (60, true), true, 0, 0⟩, ⟨some 69, .pick, [.tmp 60, .tmp 68, .val (.bool false)], none, true, 0, 0⟩, ⟨some 70, .move, [.tmp 69], none, true, 0, 0⟩, ⟨some 71, .fieldAddr 1, [.tmp 3], some (70, false), true, 0, 0⟩, ⟨some 72, .load none, [.tmp 71], some (70, false), true, 0, 0⟩, ⟨some 73, .cap, [.tmp 72], some (70, false), true, 0, 0⟩, ⟨some 74, .move, [.tmp 8], some (70, false), true, 0, 0⟩, ⟨some 75, .bin .neq, [.tmp 73, .tmp 74], some (70, false), true, 0, 0⟩, ⟨some 76, .pick, [.tmp 70, .val (.bool true), .tmp 75], none, true, 0, 0⟩])]
def F11o12 : IC := .ops F11p12
def F11p13 : List (Sg × List IOp) := [(.seq, [⟨some 77, .move, [.tmp 5], none, true, 0, 0⟩, ⟨some 78, .bin .add, [.tmp 77, .val (.int .i64 1)], none, true, 0, 0⟩, ⟨some 5, .move, [.tmp 78], none, true, 0, 0⟩])]
def F11o13 : IC := .ops F11p13
def F11p14 : List (Sg × List IOp) := [(.seq, [⟨some 79, .move, [.tmp 5], none, true, 0, 0⟩, ⟨some 4, .move, [.tmp 79], none, true, 0, 0⟩])]
def F11o14 : IC := .ops F11p14
def F11b : IC := .seq (F11o0) (.seq (F11o1) (.seq (.seq (F11o2) (.block 0 (.loop F11l7))) (.seq (.seq (F11o8) (.seq (F11o9) (.cond (.tmp 52) (F11o10) (.skip)))) (.seq (.seq (F11o11) (.seq (F11o12) (.cond (.tmp 76) (F11o13) (.skip)))) (.seq (F11o14) (.ret))))))
def F11 : IFn := ⟨80, [(4, none)], F11b⟩
/- 12: gansey/stacks.At -/
def F12p0 : List (Sg × List IOp) := [(.seq, [⟨some 2, .box 35 2, [.tmp 0], none, true, 0, 0⟩, ⟨some 3, .box 26 2, [.tmp 1], none, true, 0, 0⟩, ⟨some 4, .move, [.val (.nilSlice)], none, true, 0, 0⟩])]
def F12o0 : IC := .ops F12p0
def F12p1 : List (Sg × List IOp) := [(.seq, [⟨some 6, .load (some 2), [.tmp 3], none, true, 0, 0⟩, ⟨some 7, .call, [.val (.fn 24 [] []), .tmp 6], none, true, 0, 0⟩, ⟨some 8, .bin .neq, [.tmp 7, .val (.int .i64 0)], none, true, 0, 0⟩])]
def F12o1 : IC := .ops F12p1
def F12p2 : List (Sg × List IOp) := [(.seq, [⟨some 4, .move, [.val (.nilSlice)], none, true, 0, 0⟩])]
def F12o2 : IC := .ops F12p2
def F12p3 : List (Sg × List IOp) := [(.seq, [⟨some 9, .fieldAddr 0, [.tmp 2], none, true, 0, 0⟩, ⟨some 10, .load none, [.tmp 9], none, true, 0, 0⟩, ⟨some 5, .move, [.tmp 10], none, true, 0, 0⟩])]
def F12o3 : IC := .ops F12p3
def F12p4 : List (Sg × List IOp) := [(.seq, [⟨some 11, .fieldAddr 0, [.tmp 3], none, true, 0, 0⟩, ⟨some 12, .load none, [.tmp 11], none, true, 0, 0⟩, ⟨some 13, .bin .eql, [.tmp 12, .val (.int .u8 1)], none, true, 0, 0⟩])]
def F12o4 : IC := .ops F12p4
def F12p5 : List (Sg × List IOp) := [(.seq, [⟨some 14, .fieldAddr 1, [.tmp 2], none, true, 0, 0⟩, ⟨some 15, .load none, [.tmp 14], none, true, 0, 0⟩, ⟨some 5, .move, [.tmp 15], none, true, 0, 0⟩])]
def F12o5 : IC := .ops F12p5
def F12p6 : List (Sg × List IOp) := [(.seq, [⟨some 16, .fieldAddr 1, [.tmp 3], none, true, 0, 0⟩, ⟨some 17, .load none, [.tmp 16], none, true, 0, 0⟩, ⟨some 18, .move, [.tmp 5], none, true, 0, 0⟩, ⟨some 19, .lenSl, [.tmp 18], none, true, 0, 0⟩, ⟨some 20, .bin .gtr, [.tmp 17, .tmp 19], none, true, 0, 0⟩])]
def F12o6 : IC := .ops F12p6
def F12p7 : List (Sg × List IOp) := [(.seq, [⟨some 4, .move, [.val (.nilSlice)], none, true, 0, 0⟩])]
def F12o7 : IC := .ops F12p7
def F12p8 : List (Sg × List IOp) := [(.seq, [⟨some 21, .move, [.tmp 5], none, true, 0, 0⟩, ⟨some 22, .fieldAddr 1, [.tmp 3], none, true, 0, 0⟩, ⟨some 23, .load none, [.tmp 22], none, true, 0, 0⟩, ⟨some 24, .bin .sub, [.tmp 23, .val (.int .i64 1)], none, true, 0, 0⟩, ⟨some 25, .idxSl 1, [.tmp 21, .tmp 24], none, true, 0, 0⟩, ⟨some 26, .load none, [.tmp 25], none, true, 0, 0⟩, ⟨some 27, .call, [.val (.fn 25 [] []), .tmp 26], none, true, 0, 0⟩, ⟨some 4, .move, [.tmp 27], none, true, 0, 0⟩])]
def F12o8 : IC := .ops F12p8
def F12b : IC := .seq (F12o0) (.seq (.seq (F12o1) (.cond (.tmp 8) (.seq (F12o2) (.ret)) (.skip))) (.seq (F12o3) (.seq (.seq (F12o4) (.cond (.tmp 13) (F12o5) (.skip))) (.seq (.seq (F12o6) (.cond (.tmp 20) (.seq (F12o7) (.ret)) (.skip))) (.seq (F12o8) (.ret))))))
def F12 : IFn := ⟨28, [(4, none)], F12b⟩
/- 13: gansey/ganseylaw03.Needle -/
def F13p0 : List (Sg × List IOp) := [(.seq, [⟨some 2, .alloc 26 2 [.int .u8 0, .int .i64 0], [], none, true, 0, 0⟩])]
def F13o0 : IC := .ops F13p0
def F13p1 : List (Sg × List IOp) := [(.seq, [⟨some 3, .move, [.tmp 0], none, true, 0, 0⟩, ⟨some 4, .bin .rem, [.tmp 3, .val (.int .u8 80)], none, true, 0, 0⟩, ⟨some 5, .bin .quo, [.tmp 4, .val (.int .u8 40)], none, true, 0, 0⟩, ⟨some 6, .move, [.tmp 0], none, true, 0, 0⟩, ⟨some 7, .bin .rem, [.tmp 6, .val (.int .u8 40)], none, true, 0, 0⟩, ⟨some 8, .conv .i64, [.tmp 7], none, true, 0, 0⟩, ⟨some 9, .bin .add, [.val (.int .i64 1), .tmp 8], none, true, 0, 0⟩, ⟨some 10, .build [.int .u8 0, .int .i64 0] [(0, 1), (1, 1)], [.tmp 5, .tmp 9], none, true, 0, 0⟩, ⟨none, .store 2, [.tmp 2, .tmp 10], none, true, 0, 0⟩])]
def F13o1 : IC := .ops F13p1
def F13b : IC := .seq (F13o0) (.seq (F13o1) (.ret))
def F13 : IFn := ⟨11, [(2, some (some 2))], F13b⟩
/- 14: gansey/stacks.Find -/
def F14p0 : List (Sg × List IOp) := [(.seq, [⟨some 2, .box 35 2, [.tmp 0], none, true, 0, 0⟩, ⟨some 3, .box 28 2, [.tmp 1], none, true, 0, 0⟩, ⟨some 4, .alloc 26 2 [.int .u8 0, .int .i64 0], [], none, true, 0, 0⟩, ⟨some 5, .alloc 37 1 [.int .i64 0], [], none, true, 0, 0⟩])]
def F14o0 : IC := .ops F14p0
def F14p1 : List (Sg × List IOp) := [(.seq, [⟨some 8, .load (some 2), [.tmp 2], none, true, 0, 0⟩, ⟨some 9, .call, [.val (.fn 26 [] []), .tmp 8], none, true, 0, 0⟩])]
def F14o1 : IC := .ops F14p1
def F14p2 : List (Sg × List IOp) := [(.seq, [⟨some 6, .alloc 26 2 [.int .u8 0, .int .i64 0], [], none, true, 0, 0⟩, ⟨none, .store 2, [.tmp 6, .tmp 10], none, true, 0, 0⟩])]
def F14o2 : IC := .ops F14p2
def F14p3 : List (Sg × List IOp) := [(.seq, [⟨some 7, .move, [.tmp 11], none, true, 0, 0⟩])]
def F14o3 : IC := .ops F14p3
def F14p4 : List (Sg × List IOp) := [(.seq, [⟨some 12, .move, [.tmp 7], none, true, 0, 0⟩, ⟨some 13, .load (some 2), [.tmp 3], none, true, 0, 0⟩, ⟨some 14, .call, [.val (.fn 27 [] []), .tmp 12, .tmp 13], none, true, 0, 0⟩])]
def F14o4 : IC := .ops F14p4
def F14p5 : List (Sg × List IOp) := [(.seq, [⟨some 15, .load (some 2), [.tmp 6], none, true, 0, 0⟩, ⟨none, .store 2, [.tmp 4, .tmp 15], none, true, 0, 0⟩, ⟨none, .store 1, [.tmp 5, .val (.int .i64 0)], none, true, 0, 0⟩])]
def F14o5 : IC := .ops F14p5
def F14p6 : List (Sg × List IOp) := [(.seq, [⟨some 16, .build [.int .u8 0, .int .i64 0] [], [], none, true, 0, 0⟩, ⟨none, .store 2, [.tmp 4, .tmp 16], none, true, 0, 0⟩, ⟨none, .store 1, [.tmp 5, .val (.int .i64 7)], none, true, 0, 0⟩])]
def F14o6 : IC := .ops F14p6
def F14b : IC := .seq (F14o0) (.seq (.seq (F14o1) (.block 0 (.rfn (.tmp 9) [10, 11] (.seq (F14o2) (F14o3)) (.block 1 (.seq (F14o4) (.cond (.tmp 14) (.seq (F14o5) (.ret)) (.skip))))))) (.seq (F14o6) (.ret)))
def F14 : IFn := ⟨17, [(4, some (some 2)), (5, some none)], F14b⟩
/- 15: gansey/stacks.Count -/
def F15p0 : List (Sg × List IOp) := [(.seq, [⟨some 1, .box 35 2, [.tmp 0], none, true, 0, 0⟩, ⟨some 2, .move, [.val (.int .i64 0)], none, true, 0, 0⟩])]
def F15o0 : IC := .ops F15p0
def F15p1 : List (Sg × List IOp) := [(.seq, [⟨some 3, .alloc 3 1 [.int .i64 0], [], none, true, 0, 0⟩, ⟨none, .store 1, [.tmp 3, .val (.int .i64 0)], none, true, 0, 0⟩])]
def F15o1 : IC := .ops F15p1
def F15p2 : List (Sg × List IOp) := [(.seq, [⟨some 6, .load (some 2), [.tmp 1], none, true, 0, 0⟩, ⟨some 7, .call, [.val (.fn 26 [] []), .tmp 6], none, true, 0, 0⟩])]
def F15o2 : IC := .ops F15p2
def F15p3 : List (Sg × List IOp) := [(.seq, [⟨some 5, .move, [.tmp 9], none, true, 0, 0⟩])]
def F15o3 : IC := .ops F15p3
def F15p4 : List (Sg × List IOp) := [(.seq, [⟨some 10, .load none, [.tmp 3], none, true, 0, 0⟩, ⟨some 11, .move, [.tmp 5], none, true, 0, 0⟩, ⟨some 12, .lenSl, [.tmp 11], none, true, 0, 0⟩, ⟨some 13, .bin .add, [.tmp 10, .tmp 12], none, true, 0, 0⟩, ⟨none, .store 1, [.tmp 3, .tmp 13], none, true, 0, 0⟩])]
def F15o4 : IC := .ops F15p4
def F15p5 : List (Sg × List IOp) := [(.seq, [⟨some 14, .load none, [.tmp 3], none, true, 0, 0⟩, ⟨some 2, .move, [.tmp 14], none, true, 0, 0⟩])]
def F15o5 : IC := .ops F15p5
def F15b : IC := .seq (F15o0) (.seq (F15o1) (.seq (.seq (F15o2) (.block 0 (.rfn (.tmp 7) [8, 9] (F15o3) (.block 1 (F15o4))))) (.seq (F15o5) (.ret))))
def F15 : IFn := ⟨15, [(2, none)], F15b⟩
/- 16: gansey/ganseylaw03.lives -/
def F16p0 : List (Sg × List IOp) := [(.seq, [⟨some 0, .move, [.val (.bool false)], none, true, 0, 0⟩])]
def F16o0 : IC := .ops F16p0
def F16p1 : List (Sg × List IOp) := [(.seq, [⟨some 17, .build [.int .u8 0, .int .i64 0] [(0, 1)], [.val (.int .u8 1)], none, true, 0, 0⟩, ⟨some 18, .build [.int .u8 0, .int .i64 0] [(0, 1), (1, 1)], [.val (.int .u8 1), .val (.int .i64 1)], none, true, 0, 0⟩, ⟨some 19, .build [.int .u8 0, .int .i64 0] [(0, 1)], [.val (.int .u8 2)], none, true, 0, 0⟩, ⟨some 1, .alloc 28 2 [.int .u8 0, .int .i64 0], [], none, true, 0, 0⟩, ⟨some 2, .alloc 28 2 [.int .u8 0, .int .i64 0], [], none, true, 0, 0⟩, ⟨some 3, .alloc 28 2 [.int .u8 0, .int .i64 0], [], none, true, 0, 0⟩, ⟨none, .store 2, [.tmp 1, .tmp 17], none, true, 0, 0⟩, ⟨none, .store 2, [.tmp 2, .tmp 18], none, true, 0, 0⟩, ⟨none, .store 2, [.tmp 3, .tmp 19], none, true, 0, 0⟩])]
def F16o1 : IC := .ops F16p1
def F16p2 : List (Sg × List IOp) := [(.seq, [⟨some 20, .load (some 2), [.tmp 1], none, true, 0, 0⟩, ⟨some 21, .load (some 2), [.tmp 2], none, true, 0, 0⟩, ⟨some 22, .buildSl 28 2 2 [.int .u8 0, .int .i64 0, .int .u8 0, .int .i64 0] [(0, 2), (2, 2)], [.tmp 20, .tmp 21], none, true, 0, 0⟩, ⟨some 23, .buildSl 29 1 2 [.nilSlice, .nilSlice] [(0, 1), (1, 1)], [.val (.nilSlice), .tmp 22], none, true, 0, 0⟩, ⟨some 24, .load (some 2), [.tmp 3], none, true, 0, 0⟩, ⟨some 25, .buildSl 28 2 1 [.int .u8 0, .int .i64 0] [(0, 2)], [.tmp 24], none, true, 0, 0⟩, ⟨some 26, .buildSl 29 1 2 [.nilSlice, .nilSlice] [(0, 1), (1, 1)], [.val (.nilSlice), .tmp 25], none, true, 0, 0⟩, ⟨some 27, .build [.nilSlice, .nilSlice] [(0, 1), (1, 1)], [.tmp 23, .tmp 26], none, true, 0, 0⟩, ⟨some 4, .alloc 35 2 [.nilSlice, .nilSlice], [], none, true, 0, 0⟩, ⟨none, .store 2, [.tmp 4, .tmp 27], none, true, 0, 0⟩])]
def F16o2 : IC := .ops F16p2
def F16p3 : List (Sg × List IOp) := [(.seq, [⟨some 28, .build [.int .u8 0, .int .i64 0] [(1, 1)], [.val (.int .i64 1)], none, true, 0, 0⟩, ⟨some 29, .build [.int .u8 0, .int .i64 0] [(1, 1)], [.val (.int .i64 2)], none, true, 0, 0⟩, ⟨some 30, .build [.int .u8 0, .int .i64 0] [(0, 1), (1, 1)], [.val (.int .u8 1), .val (.int .i64 2)], none, true, 0, 0⟩, ⟨some 5, .alloc 26 2 [.int .u8 0, .int .i64 0], [], none, true, 0, 0⟩, ⟨some 6, .alloc 26 2 [.int .u8 0, .int .i64 0], [], none, true, 0, 0⟩, ⟨some 7, .alloc 26 2 [.int .u8 0, .int .i64 0], [], none, true, 0, 0⟩, ⟨none, .store 2, [.tmp 5, .tmp 28], none, true, 0, 0⟩, ⟨none, .store 2, [.tmp 6, .tmp 29], none, true, 0, 0⟩, ⟨none, .store 2, [.tmp 7, .tmp 30], none, true, 0, 0⟩])]
def F16o3 : IC := .ops F16p3
def F16p4 : List (Sg × List IOp) := [(.seq, [⟨some 32, .load (some 2), [.tmp 4], none, true, 0, 0⟩, ⟨some 33, .load (some 2), [.tmp 3], none, true, 0, 0⟩, ⟨some 34, .call, [.val (.fn 14 [] []), .tmp 32, .tmp 33], none, true, 0, 0⟩, ⟨some 31, .move, [.tmp 34], none, true, 0, 0⟩, ⟨some 35, .extract 0, [.tmp 31], none, true, 0, 0⟩, ⟨some 36, .extract 1, [.tmp 31], none, true, 0, 0⟩, ⟨some 8, .alloc 26 2 [.int .u8 0, .int .i64 0], [], none, true, 0, 0⟩, ⟨none, .store 2, [.tmp 8, .tmp 35], none, true, 0, 0⟩, ⟨some 9, .move, [.tmp 36], none, true, 0, 0⟩])]
def F16o4 : IC := .ops F16p4
def F16p5 : List (Sg × List IOp) := [(.seq, [⟨some 37, .load (some 2), [.tmp 4], none, true, 0, 0⟩, ⟨some 38, .call, [.val (.fn 10 [] []), .tmp 37], none, true, 0, 0⟩, ⟨some 39, .bin .neq, [.tmp 38, .val (.int .i64 0)], none, true, 0, 0⟩, ⟨some 40, .move, [.tmp 39], none, true, 0, 0⟩, ⟨some 41, .load (some 2), [.tmp 4], some (40, false), true, 0, 0⟩, ⟨some 42, .load (some 2), [.tmp 6], some (40, false), true, 0, 0⟩, ⟨some 43, .call, [.val (.fn 12 [] []), .tmp 41, .tmp 42], some (40, false), true, 0, 0⟩, ⟨some 44, .lenSl, [.tmp 43], some (40, false), true, 0, 0⟩, ⟨some 45, .bin .neq, [.tmp 44, .val (.int .i64 2)], some (40, false), true, 0, 0⟩, ⟨some 46, .pick, [.tmp 40, .val (.bool true), .tmp 45], none, true, 0, 0⟩, ⟨some 47, .move, [.tmp 46], none, true, 0, 0⟩, ⟨some 48, .load (some 2), [.tmp 4], some (47, false), true, 0, 0⟩, ⟨some 49, .load (some 2), [.tmp 5], some (47, false), true, 0, 0⟩, ⟨some 50, .call, [.val (.fn 12 [] []), .tmp 48, .tmp 49], some (47, false), true, 0, 0⟩, ⟨some 51, .lenSl, [.tmp 50], some (47, false), true, 0, 0⟩, ⟨some 52, .bin .neq, [.tmp 51, .val (.int .i64 0)], some (47, false), true, 0, 0⟩, ⟨some 53, .pick, [.tmp 47, .val (.bool true), .tmp 52], none, true, 0, 0⟩, ⟨some 54, .move, [.tmp 53], none, true, 0, 0⟩, ⟨some 55, .load (some 2), [.tmp 4], some (54, false), true, 0, 0⟩, ⟨some 56, .call, [.val (.fn 15 [] []), .tmp 55], some (54, false), true, 0, 0⟩, ⟨some 57, .bin .neq, [.tmp 56, .val (.int .i64 3)], some (54, false), true, 0, 0⟩, ⟨some 58, .pick, [.tmp 54, .val (.bool true), .tmp 57], none, true, 0, 0⟩, ⟨some 59, .move, [.tmp 58], none, true, 0, 0⟩, ⟨some 60, .load (some 2), [.tmp 8], some (59, false), true, 0, 0⟩, ⟨some 61, .load (some 2), [.tmp 7], some (59, false), true, 0, 0⟩, ⟨some 62, .eqFlat true [.int, .int], [.tmp 60, .tmp 61], some (59, false), true, 0, 0⟩, ⟨some 63, .pick, [.tmp 59, .val (.bool true), .tmp 62], none, true, 0, 0⟩, ⟨some 64, .move, [.tmp 63], none, true, 0, 0⟩, ⟨some 65, .move, [.tmp 9], some (64, false), true, 0, 0⟩, ⟨some 66, .bin .neq, [.tmp 65, .val (.int .i64 0)], some (64, false), true, 0, 0⟩, ⟨some 67, .pick, [.tmp 64, .val (.bool true), .tmp 66], none, true, 0, 0⟩])]
def F16o5 : IC := .ops F16p5
def F16p6 : List (Sg × List IOp) := [(.seq, [⟨some 0, .move, [.val (.bool false)], none, true, 0, 0⟩])]
def F16o6 : IC := .ops F16p6
def F16p7 : List (Sg × List IOp) := [(.seq, [⟨some 69, .load (some 2), [.tmp 4], none, true, 0, 0⟩, ⟨some 70, .load (some 2), [.tmp 6], none, true, 0, 0⟩, ⟨some 71, .load (some 2), [.tmp 7], none, true, 0, 0⟩, ⟨some 72, .call, [.val (.fn 19 [] []), .tmp 69, .tmp 70, .tmp 71], none, true, 0, 0⟩, ⟨some 68, .move, [.tmp 72], none, true, 0, 0⟩, ⟨some 73, .extract 0, [.tmp 68], none, true, 0, 0⟩, ⟨some 74, .extract 1, [.tmp 68], none, true, 0, 0⟩, ⟨some 10, .alloc 35 2 [.nilSlice, .nilSlice], [], none, true, 0, 0⟩, ⟨none, .store 2, [.tmp 10, .tmp 73], none, true, 0, 0⟩, ⟨some 9, .move, [.tmp 74], none, true, 0, 0⟩])]
def F16o7 : IC := .ops F16p7
def F16p8 : List (Sg × List IOp) := [(.seq, [⟨some 76, .load (some 2), [.tmp 4], none, true, 0, 0⟩, ⟨some 77, .load (some 2), [.tmp 7], none, true, 0, 0⟩, ⟨some 78, .load (some 2), [.tmp 6], none, true, 0, 0⟩, ⟨some 79, .call, [.val (.fn 19 [] []), .tmp 76, .tmp 77, .tmp 78], none, true, 0, 0⟩, ⟨some 75, .move, [.tmp 79], none, true, 0, 0⟩, ⟨some 80, .extract 0, [.tmp 75], none, true, 0, 0⟩, ⟨some 81, .extract 1, [.tmp 75], none, true, 0, 0⟩, ⟨some 11, .alloc 35 2 [.nilSlice, .nilSlice], [], none, true, 0, 0⟩, ⟨none, .store 2, [.tmp 11, .tmp 80], none, true, 0, 0⟩, ⟨some 12, .move, [.tmp 81], none, true, 0, 0⟩])]
def F16o8 : IC := .ops F16p8
def F16p9 : List (Sg × List IOp) := [(.seq, [⟨some 83, .load (some 2), [.tmp 4], none, true, 0, 0⟩, ⟨some 84, .load (some 2), [.tmp 5], none, true, 0, 0⟩, ⟨some 85, .build [.int .u8 0, .int .i64 0] [(0, 1), (1, 1)], [.val (.int .u8 1), .val (.int .i64 1)], none, true, 0, 0⟩, ⟨some 86, .call, [.val (.fn 19 [] []), .tmp 83, .tmp 84, .tmp 85], none, true, 0, 0⟩, ⟨some 82, .move, [.tmp 86], none, true, 0, 0⟩, ⟨some 87, .extract 0, [.tmp 82], none, true, 0, 0⟩, ⟨some 88, .extract 1, [.tmp 82], none, true, 0, 0⟩, ⟨some 13, .alloc 35 2 [.nilSlice, .nilSlice], [], none, true, 0, 0⟩, ⟨none, .store 2, [.tmp 13, .tmp 87], none, true, 0, 0⟩, ⟨some 14, .move, [.tmp 88], none, true, 0, 0⟩])]
def F16o9 : IC := .ops F16p9
def F16p10 : List (Sg × List IOp) := [(.seq, [⟨some 90, .load (some 2), [.tmp 4], none, true, 0, 0⟩, ⟨some 91, .load (some 2), [.tmp 6], none, true, 0, 0⟩, ⟨some 92, .build [.int .u8 0, .int .i64 0] [(1, 1)], [.val (.int .i64 3)], none, true, 0, 0⟩, ⟨some 93, .call, [.val (.fn 19 [] []), .tmp 90, .tmp 91, .tmp 92], none, true, 0, 0⟩, ⟨some 89, .move, [.tmp 93], none, true, 0, 0⟩, ⟨some 94, .extract 0, [.tmp 89], none, true, 0, 0⟩, ⟨some 95, .extract 1, [.tmp 89], none, true, 0, 0⟩, ⟨some 15, .alloc 35 2 [.nilSlice, .nilSlice], [], none, true, 0, 0⟩, ⟨none, .store 2, [.tmp 15, .tmp 94], none, true, 0, 0⟩, ⟨some 16, .move, [.tmp 95], none, true, 0, 0⟩])]
def F16o10 : IC := .ops F16p10
def F16p11 : List (Sg × List IOp) := [(.seq, [⟨some 96, .move, [.tmp 9], none, true, 0, 0⟩]), (.seq, [⟨some 97, .bin .neq, [.tmp 96, .val (.int .i64 0)], none, true, 1, 1⟩]), (.seq, [⟨some 98, .move, [.tmp 97], none, true, 2, 3⟩]), (.seq, [⟨some 99, .move, [.tmp 12], some (98, false), true, 3, 7⟩]), (.seq, [⟨some 100, .bin .neq, [.tmp 99, .val (.int .i64 0)], some (98, false), true, 4, 15⟩]), (.seq, [⟨some 101, .pick, [.tmp 98, .val (.bool true), .tmp 100], none, true, 5, 31⟩]), (.seq, [⟨some 102, .move, [.tmp 101], none, true, 6, 63⟩]), (.seq, [⟨some 103, .move, [.tmp 14], some (102, false), true, 7, 127⟩]), (.seq, [⟨some 104, .bin .neq, [.tmp 103, .val (.int .i64 13)], some (102, false), true, 8, 255⟩]), (.seq, [⟨some 105, .pick, [.tmp 102, .val (.bool true), .tmp 104], none, true, 9, 511⟩]), (.seq, [⟨some 106, .move, [.tmp 105], none, true, 10, 1023⟩]), (.seq, [⟨some 107, .move, [.tmp 16], some (106, false), true, 11, 2047⟩]), (.seq, [⟨some 108, .bin .neq, [.tmp 107, .val (.int .i64 1)], some (106, false), true, 12, 4095⟩]), (.seq, [⟨some 109, .pick, [.tmp 106, .val (.bool true), .tmp 108], none, true, 13, 8191⟩]), (.seq, [⟨some 110, .move, [.tmp 109], none, true, 14, 16383⟩]), (.free, [⟨some 111, .load (some 2), [.tmp 10], some (110, false), false, 15, 32767⟩, ⟨some 112, .load (some 2), [.tmp 7], some (110, false), false, 16, 32767⟩, ⟨some 113, .call, [.val (.fn 12 [] []), .tmp 111, .tmp 112], some (110, false), false, 17, 131071⟩, ⟨some 114, .load (some 2), [.tmp 3], some (110, false), false, 18, 32767⟩, ⟨some 115, .load (some 2), [.tmp 1], some (110, false), false, 19, 32767⟩, ⟨some 116, .load (some 2), [.tmp 2], some (110, false), false, 20, 32767⟩, ⟨some 117, .buildSl 28 2 3 [.int .u8 0, .int .i64 0, .int .u8 0, .int .i64 0, .int .u8 0, .int .i64 0] [(0, 2), (2, 2), (4, 2)], [.tmp 114, .tmp 115, .tmp 116], some (110, false), false, 21, 1867775⟩]), (.seq, [⟨some 118, .call, [.val (.fn 20 [] []), .tmp 113, .tmp 117], some (110, false), true, 22, 4194303⟩]), (.seq, [⟨some 119, .bin .eql, [.tmp 118, .val (.int .i64 0)], some (110, false), true, 23, 8388607⟩]), (.seq, [⟨some 120, .pick, [.tmp 110, .val (.bool true), .tmp 119], none, true, 24, 16777215⟩]), (.seq, [⟨some 121, .move, [.tmp 120], none, true, 25, 33554431⟩]), (.seq, [⟨some 122, .fieldAddr 0, [.tmp 10], some (121, false), true, 26, 67108863⟩]), (.seq, [⟨some 123, .load none, [.tmp 122], some (121, false), true, 27, 134217727⟩]), (.seq, [⟨some 124, .lenSl, [.tmp 123], some (121, false), true, 28, 268435455⟩]), (.seq, [⟨some 125, .bin .neq, [.tmp 124, .val (.int .i64 0)], some (121, false), true, 29, 536870911⟩]), (.seq, [⟨some 126, .pick, [.tmp 121, .val (.bool true), .tmp 125], none, true, 30, 1073741823⟩]), (.seq, [⟨some 127, .move, [.tmp 126], none, true, 31, 2147483647⟩]), (.free, [⟨some 128, .load (some 2), [.tmp 11], some (127, false), false, 32, 4294967295⟩, ⟨some 129, .load (some 2), [.tmp 6], some (127, false), false, 33, 4294967295⟩, ⟨some 130, .call, [.val (.fn 12 [] []), .tmp 128, .tmp 129], some (127, false), false, 34, 17179869183⟩, ⟨some 131, .load (some 2), [.tmp 3], some (127, false), false, 35, 4294967295⟩, ⟨some 132, .load (some 2), [.tmp 1], some (127, false), false, 36, 4294967295⟩, ⟨some 133, .load (some 2), [.tmp 2], some (127, false), false, 37, 4294967295⟩, ⟨some 134, .buildSl 28 2 3 [.int .u8 0, .int .i64 0, .int .u8 0, .int .i64 0, .int .u8 0, .int .i64 0] [(0, 2), (2, 2), (4, 2)], [.tmp 131, .tmp 132, .tmp 133], some (127, false), false, 38, 244813135871⟩]), (.seq, [⟨some 135, .call, [.val (.fn 20 [] []), .tmp 130, .tmp 134], some (127, false), true, 39, 549755813887⟩]), (.seq, [⟨some 136, .bin .eql, [.tmp 135, .val (.int .i64 0)], some (127, false), true, 40, 1099511627775⟩]), (.seq, [⟨some 137, .pick, [.tmp 127, .val (.bool true), .tmp 136], none, true, 41, 2199023255551⟩])]
def F16o11 : IC := .ops F16p11
def F16p12 : List (Sg × List IOp) := [(.seq, [⟨some 0, .move, [.val (.bool false)], none, true, 0, 0⟩])]
def F16o12 : IC := .ops F16p12
def F16p13 : List (Sg × List IOp) := [(.seq, [⟨some 139, .load (some 2), [.tmp 4], none, true, 0, 0⟩, ⟨some 140, .load (some 2), [.tmp 5], none, true, 0, 0⟩, ⟨some 141, .load (some 2), [.tmp 3], none, true, 0, 0⟩, ⟨some 142, .buildSl 28 2 1 [.int .u8 0, .int .i64 0] [(0, 2)], [.tmp 141], none, true, 0, 0⟩, ⟨some 143, .call, [.val (.fn 17 [] []), .tmp 139, .tmp 140, .tmp 142], none, true, 0, 0⟩, ⟨some 138, .move, [.tmp 143], none, true, 0, 0⟩, ⟨some 144, .extract 0, [.tmp 138], none, true, 0, 0⟩, ⟨some 145, .extract 1, [.tmp 138], none, true, 0, 0⟩, ⟨some 9, .move, [.tmp 145], none, true, 0, 0⟩])]
def F16o13 : IC := .ops F16p13
def F16p14 : List (Sg × List IOp) := [(.seq, [⟨some 147, .load (some 2), [.tmp 4], none, true, 0, 0⟩, ⟨some 148, .load (some 2), [.tmp 6], none, true, 0, 0⟩, ⟨some 149, .load (some 2), [.tmp 2], none, true, 0, 0⟩, ⟨some 150, .buildSl 28 2 1 [.int .u8 0, .int .i64 0] [(0, 2)], [.tmp 149], none, true, 0, 0⟩, ⟨some 151, .call, [.val (.fn 17 [] []), .tmp 147, .tmp 148, .tmp 150], none, true, 0, 0⟩, ⟨some 146, .move, [.tmp 151], none, true, 0, 0⟩, ⟨some 152, .extract 0, [.tmp 146], none, true, 0, 0⟩, ⟨some 153, .extract 1, [.tmp 146], none, true, 0, 0⟩, ⟨none, .store 2, [.tmp 10, .tmp 152], none, true, 0, 0⟩, ⟨some 12, .move, [.tmp 153], none, true, 0, 0⟩])]
def F16o14 : IC := .ops F16p14
def F16p15 : List (Sg × List IOp) := [(.seq, [⟨some 154, .move, [.tmp 9], none, true, 0, 0⟩]), (.seq, [⟨some 155, .bin .eql, [.tmp 154, .val (.int .i64 8)], none, true, 1, 1⟩]), (.seq, [⟨some 156, .move, [.tmp 155], none, true, 2, 3⟩]), (.seq, [⟨some 157, .move, [.tmp 12], some (156, true), true, 3, 7⟩]), (.seq, [⟨some 158, .bin .eql, [.tmp 157, .val (.int .i64 0)], some (156, true), true, 4, 15⟩]), (.seq, [⟨some 159, .pick, [.tmp 156, .tmp 158, .val (.bool false)], none, true, 5, 31⟩]), (.seq, [⟨some 160, .move, [.tmp 159], none, true, 6, 63⟩]), (.free, [⟨some 161, .load (some 2), [.tmp 10], some (160, true), false, 7, 127⟩, ⟨some 162, .load (some 2), [.tmp 6], some (160, true), false, 8, 127⟩, ⟨some 163, .call, [.val (.fn 12 [] []), .tmp 161, .tmp 162], some (160, true), false, 9, 511⟩, ⟨some 164, .load (some 2), [.tmp 2], some (160, true), false, 10, 127⟩, ⟨some 165, .buildSl 28 2 1 [.int .u8 0, .int .i64 0] [(0, 2)], [.tmp 164], some (160, true), false, 11, 1151⟩]), (.seq, [⟨some 166, .call, [.val (.fn 20 [] []), .tmp 163, .tmp 165], some (160, true), true, 12, 4095⟩]), (.seq, [⟨some 167, .bin .eql, [.tmp 166, .val (.int .i64 1)], some (160, true), true, 13, 8191⟩]), (.seq, [⟨some 168, .pick, [.tmp 160, .tmp 167, .val (.bool false)], none, true, 14, 16383⟩]), (.seq, [⟨some 169, .move, [.tmp 168], none, true, 15, 32767⟩]), (.seq, [⟨some 170, .load (some 2), [.tmp 10], some (169, true), true, 16, 65535⟩]), (.seq, [⟨some 171, .call, [.val (.fn 15 [] []), .tmp 170], some (169, true), true, 17, 131071⟩]), (.seq, [⟨some 172, .bin .eql, [.tmp 171, .val (.int .i64 2)], some (169, true), true, 18, 262143⟩]), (.seq, [⟨some 173, .pick, [.tmp 169, .tmp 172, .val (.bool false)], none, true, 19, 524287⟩]), (.seq, [⟨some 0, .move, [.tmp 173], none, true, 20, 1048575⟩])]
def F16o15 : IC := .ops F16p15
def F16b : IC := .seq (F16o0) (.seq (F16o1) (.seq (F16o2) (.seq (F16o3) (.seq (F16o4) (.seq (.seq (F16o5) (.cond (.tmp 67) (.seq (F16o6) (.ret)) (.skip))) (.seq (F16o7) (.seq (F16o8) (.seq (F16o9) (.seq (F16o10) (.seq (.seq (F16o11) (.cond (.tmp 137) (.seq (F16o12) (.ret)) (.skip))) (.seq (F16o13) (.seq (F16o14) (.seq (F16o15) (.ret))))))))))))))
def F16 : IFn := ⟨174, [(0, none)], F16b⟩
/- 17: gansey/stacks.Set -/
def F17p0 : List (Sg × List IOp) := [(.seq, [⟨some 3, .box 35 2, [.tmp 0], none, true, 0, 0⟩, ⟨some 4, .box 26 2, [.tmp 1], none, true, 0, 0⟩, ⟨some 6, .alloc 35 2 [.nilSlice, .nilSlice], [], none, true, 0, 0⟩, ⟨some 7, .move, [.val (.int .i64 0)], none, true, 0, 0⟩])]
def F17o0 : IC := .ops F17p0
def F17p1 : List (Sg × List IOp) := [(.seq, [⟨some 18, .load (some 2), [.tmp 3], none, true, 0, 0⟩, ⟨some 19, .call, [.val (.fn 10 [] []), .tmp 18], none, true, 0, 0⟩, ⟨some 8, .move, [.tmp 19], none, true, 0, 0⟩])]
def F17o1 : IC := .ops F17p1
def F17p2 : List (Sg × List IOp) := [(.seq, [⟨some 20, .move, [.tmp 8], none, true, 0, 0⟩, ⟨some 21, .bin .neq, [.tmp 20, .val (.int .i64 0)], none, true, 0, 0⟩])]
def F17o2 : IC := .ops F17p2
def F17p3 : List (Sg × List IOp) := [(.seq, [⟨some 22, .build [.nilSlice, .nilSlice] [], [], none, true, 0, 0⟩, ⟨some 23, .move, [.tmp 8], none, true, 0, 0⟩, ⟨none, .store 2, [.tmp 6, .tmp 22], none, true, 0, 0⟩, ⟨some 7, .move, [.tmp 23], none, true, 0, 0⟩])]
def F17o3 : IC := .ops F17p3
def F17p4 : List (Sg × List IOp) := [(.seq, [⟨some 24, .load (some 2), [.tmp 4], none, true, 0, 0⟩, ⟨some 25, .call, [.val (.fn 24 [] []), .tmp 24], none, true, 0, 0⟩, ⟨some 26, .bin .neq, [.tmp 25, .val (.int .i64 0)], none, true, 0, 0⟩])]
def F17o4 : IC := .ops F17p4
def F17p5 : List (Sg × List IOp) := [(.seq, [⟨some 27, .build [.nilSlice, .nilSlice] [], [], none, true, 0, 0⟩, ⟨none, .store 2, [.tmp 6, .tmp 27], none, true, 0, 0⟩, ⟨some 7, .move, [.val (.int .i64 1)], none, true, 0, 0⟩])]
def F17o5 : IC := .ops F17p5
def F17p6 : List (Sg × List IOp) := [(.seq, [⟨some 28, .move, [.tmp 2], none, true, 0, 0⟩, ⟨some 29, .lenSl, [.tmp 28], none, true, 0, 0⟩, ⟨some 30, .move, [.val (.int .i64 0)], none, true, 0, 0⟩])]
def F17o6 : IC := .ops F17p6
def F17p7 : List (Sg × List IOp) := [(.seq, [⟨some 31, .bin .lss, [.tmp 30, .tmp 29], none, true, 0, 0⟩])]
def F17o7 : IC := .ops F17p7
def F17p8 : List (Sg × List IOp) := [(.seq, [⟨some 32, .idxSl 2, [.tmp 28, .tmp 30], none, true, 0, 0⟩, ⟨some 33, .load (some 2), [.tmp 32], none, true, 0, 0⟩, ⟨some 10, .alloc 28 2 [.int .u8 0, .int .i64 0], [], none, true, 0, 0⟩, ⟨none, .store 2, [.tmp 10, .tmp 33], none, true, 0, 0⟩])]
def F17o8 : IC := .ops F17p8
def F17p9 : List (Sg × List IOp) := [(.seq, [⟨some 34, .load (some 2), [.tmp 10], none, true, 0, 0⟩, ⟨some 35, .call, [.val (.fn 23 [] []), .tmp 34], none, true, 0, 0⟩, ⟨some 36, .un .not, [.tmp 35], none, true, 0, 0⟩])]
def F17o9 : IC := .ops F17p9
def F17p10 : List (Sg × List IOp) := [(.seq, [⟨some 37, .build [.nilSlice, .nilSlice] [], [], none, true, 0, 0⟩, ⟨none, .store 2, [.tmp 6, .tmp 37], none, true, 0, 0⟩, ⟨some 7, .move, [.val (.int .i64 1)], none, true, 0, 0⟩])]
def F17o10 : IC := .ops F17p10
def F17p11 : List (Sg × List IOp) := [(.seq, [⟨some 38, .bin .add, [.tmp 30, .val (.int .i64 1)], none, true, 0, 0⟩, ⟨some 30, .move, [.tmp 38], none, true, 0, 0⟩])]
def F17o11 : IC := .ops F17p11
def F17l12 : IC := .seq (F17o7) (.seq (.cond (.tmp 31) (.skip) (.exit 0)) (.seq (.block 1 (.seq (F17o8) (.seq (F17o9) (.cond (.tmp 36) (.seq (F17o10) (.ret)) (.skip))))) (F17o11)))
def F17p13 : List (Sg × List IOp) := [(.seq, [⟨some 39, .move, [.tmp 2], none, true, 0, 0⟩, ⟨some 40, .lenSl, [.tmp 39], none, true, 0, 0⟩, ⟨some 41, .bin .gtr, [.tmp 40, .val (.int .i64 4)], none, true, 0, 0⟩])]
def F17o13 : IC := .ops F17p13
def F17p14 : List (Sg × List IOp) := [(.seq, [⟨some 42, .build [.nilSlice, .nilSlice] [], [], none, true, 0, 0⟩, ⟨none, .store 2, [.tmp 6, .tmp 42], none, true, 0, 0⟩, ⟨some 7, .move, [.val (.int .i64 9)], none, true, 0, 0⟩])]
def F17o14 : IC := .ops F17p14
def F17p15 : List (Sg × List IOp) := [(.seq, [⟨some 43, .mkmap, [], none, true, 0, 0⟩, ⟨some 11, .alloc 62 1 [.nilMap], [], none, true, 0, 0⟩, ⟨none, .store 1, [.tmp 11, .tmp 43], none, true, 0, 0⟩])]
def F17o15 : IC := .ops F17p15
def F17p16 : List (Sg × List IOp) := [(.seq, [⟨some 44, .load (some 2), [.tmp 3], none, true, 0, 0⟩, ⟨some 45, .call, [.val (.fn 26 [] []), .tmp 44], none, true, 0, 0⟩])]
def F17o16 : IC := .ops F17p16
def F17p17 : List (Sg × List IOp) := [(.seq, [⟨some 12, .alloc 26 2 [.int .u8 0, .int .i64 0], [], none, true, 0, 0⟩, ⟨none, .store 2, [.tmp 12, .tmp 46], none, true, 0, 0⟩])]
def F17o17 : IC := .ops F17p17
def F17p18 : List (Sg × List IOp) := [(.seq, [⟨some 13, .move, [.tmp 47], none, true, 0, 0⟩])]
def F17o18 : IC := .ops F17p18
def F17p19 : List (Sg × List IOp) := [(.seq, [⟨some 48, .load (some 2), [.tmp 12], none, true, 0, 0⟩, ⟨some 49, .load (some 2), [.tmp 4], none, true, 0, 0⟩, ⟨some 50, .eqFlat true [.int, .int], [.tmp 48, .tmp 49], none, true, 0, 0⟩])]
def F17o19 : IC := .ops F17p19
def F17p20 : List (Sg × List IOp) := [(.seq, [⟨some 51, .move, [.tmp 13], none, true, 0, 0⟩, ⟨some 52, .lenSl, [.tmp 51], none, true, 0, 0⟩, ⟨some 53, .move, [.val (.int .i64 0)], none, true, 0, 0⟩])]
def F17o20 : IC := .ops F17p20
def F17p21 : List (Sg × List IOp) := [(.seq, [⟨some 54, .bin .lss, [.tmp 53, .tmp 52], none, true, 0, 0⟩])]
def F17o21 : IC := .ops F17p21
def F17p22 : List (Sg × List IOp) := [(.seq, [⟨some 55, .idxSl 2, [.tmp 51, .tmp 53], none, true, 0, 0⟩, ⟨some 56, .load (some 2), [.tmp 55], none, true, 0, 0⟩, ⟨some 15, .alloc 28 2 [.int .u8 0, .int .i64 0], [], none, true, 0, 0⟩, ⟨none, .store 2, [.tmp 15, .tmp 56], none, true, 0, 0⟩])]
def F17o22 : IC := .ops F17p22
def F17p23 : List (Sg × List IOp) := [(.seq, [⟨some 57, .load none, [.tmp 11], none, true, 0, 0⟩, ⟨some 58, .load (some 2), [.tmp 15], none, true, 0, 0⟩, ⟨none, .mapUpd (true, [.int, .int]), [.tmp 57, .tmp 58, .val (.bool true)], none, true, 0, 0⟩])]
def F17o23 : IC := .ops F17p23
def F17p24 : List (Sg × List IOp) := [(.seq, [⟨some 59, .bin .add, [.tmp 53, .val (.int .i64 1)], none, true, 0, 0⟩, ⟨some 53, .move, [.tmp 59], none, true, 0, 0⟩])]
def F17o24 : IC := .ops F17p24
def F17l25 : IC := .seq (F17o21) (.seq (.cond (.tmp 54) (.skip) (.exit 4)) (.seq (.block 5 (.seq (F17o22) (F17o23))) (F17o24)))
def F17p26 : List (Sg × List IOp) := [(.seq, [⟨some 60, .move, [.tmp 2], none, true, 0, 0⟩, ⟨some 61, .lenSl, [.tmp 60], none, true, 0, 0⟩, ⟨some 62, .move, [.val (.int .i64 0)], none, true, 0, 0⟩])]
def F17o26 : IC := .ops F17p26
def F17p27 : List (Sg × List IOp) := [(.seq, [⟨some 63, .bin .lss, [.tmp 62, .tmp 61], none, true, 0, 0⟩])]
def F17o27 : IC := .ops F17p27
def F17p28 : List (Sg × List IOp) := [(.seq, [⟨some 64, .idxSl 2, [.tmp 60, .tmp 62], none, true, 0, 0⟩, ⟨some 65, .load (some 2), [.tmp 64], none, true, 0, 0⟩, ⟨some 17, .alloc 28 2 [.int .u8 0, .int .i64 0], [], none, true, 0, 0⟩, ⟨none, .store 2, [.tmp 17, .tmp 65], none, true, 0, 0⟩])]
def F17o28 : IC := .ops F17p28
def F17p29 : List (Sg × List IOp) := [(.seq, [⟨some 66, .load none, [.tmp 11], none, true, 0, 0⟩, ⟨some 67, .load (some 2), [.tmp 17], none, true, 0, 0⟩, ⟨some 68, .lookup 62 (true, [.int, .int]) (.bool false) false, [.tmp 66, .tmp 67], none, true, 0, 0⟩])]
def F17o29 : IC := .ops F17p29
def F17p30 : List (Sg × List IOp) := [(.seq, [⟨some 69, .build [.nilSlice, .nilSlice] [], [], none, true, 0, 0⟩, ⟨none, .store 2, [.tmp 6, .tmp 69], none, true, 0, 0⟩, ⟨some 7, .move, [.val (.int .i64 8)], none, true, 0, 0⟩])]
def F17o30 : IC := .ops F17p30
def F17p31 : List (Sg × List IOp) := [(.seq, [⟨some 70, .load none, [.tmp 11], none, true, 0, 0⟩, ⟨some 71, .load (some 2), [.tmp 17], none, true, 0, 0⟩, ⟨none, .mapUpd (true, [.int, .int]), [.tmp 70, .tmp 71, .val (.bool true)], none, true, 0, 0⟩])]
def F17o31 : IC := .ops F17p31
def F17p32 : List (Sg × List IOp) := [(.seq, [⟨some 72, .bin .add, [.tmp 62, .val (.int .i64 1)], none, true, 0, 0⟩, ⟨some 62, .move, [.tmp 72], none, true, 0, 0⟩])]
def F17o32 : IC := .ops F17p32
def F17l33 : IC := .seq (F17o27) (.seq (.cond (.tmp 63) (.skip) (.exit 6)) (.seq (.block 7 (.seq (F17o28) (.seq (.seq (F17o29) (.cond (.tmp 68) (.seq (F17o30) (.ret)) (.skip))) (F17o31)))) (F17o32)))
def F17p34 : List (Sg × List IOp) := [(.seq, [⟨some 73, .load (some 2), [.tmp 3], none, true, 0, 0⟩, ⟨some 74, .load (some 2), [.tmp 4], none, true, 0, 0⟩, ⟨some 75, .move, [.tmp 2], none, true, 0, 0⟩, ⟨some 76, .call, [.val (.fn 28 [] []), .tmp 73, .tmp 74, .tmp 75], none, true, 0, 0⟩, ⟨none, .store 2, [.tmp 6, .tmp 76], none, true, 0, 0⟩, ⟨some 7, .move, [.val (.int .i64 0)], none, true, 0, 0⟩])]
def F17o34 : IC := .ops F17p34
def F17b : IC := .seq (F17o0) (.seq (.seq (F17o1) (.seq (F17o2) (.cond (.tmp 21) (.seq (F17o3) (.ret)) (.skip)))) (.seq (.seq (F17o4) (.cond (.tmp 26) (.seq (F17o5) (.ret)) (.skip))) (.seq (.seq (F17o6) (.block 0 (.loop F17l12))) (.seq (.seq (F17o13) (.cond (.tmp 41) (.seq (F17o14) (.ret)) (.skip))) (.seq (F17o15) (.seq (.seq (F17o16) (.block 2 (.rfn (.tmp 45) [46, 47] (.seq (F17o17) (F17o18)) (.block 3 (.seq (F17o19) (.cond (.tmp 50) (.seq (F17o20) (.block 4 (.loop F17l25))) (.skip))))))) (.seq (.seq (F17o26) (.block 6 (.loop F17l33))) (.seq (F17o34) (.ret)))))))))
def F17 : IFn := ⟨77, [(6, some (some 2)), (7, none)], F17b⟩
/- 18: gansey/stacks.Same -/
def F18p0 : List (Sg × List IOp) := [(.seq, [⟨some 2, .box 35 2, [.tmp 0], none, true, 0, 0⟩, ⟨some 3, .box 35 2, [.tmp 1], none, true, 0, 0⟩, ⟨some 4, .move, [.val (.bool false)], none, true, 0, 0⟩])]
def F18o0 : IC := .ops F18p0
def F18p1 : List (Sg × List IOp) := [(.seq, [⟨some 5, .move, [.val (.fn 29 [] [])], none, true, 0, 0⟩])]
def F18o1 : IC := .ops F18p1
def F18p2 : List (Sg × List IOp) := [(.seq, [⟨some 6, .move, [.tmp 5], none, true, 0, 0⟩, ⟨some 7, .fieldAddr 0, [.tmp 2], none, true, 0, 0⟩, ⟨some 8, .load none, [.tmp 7], none, true, 0, 0⟩, ⟨some 9, .fieldAddr 0, [.tmp 3], none, true, 0, 0⟩, ⟨some 10, .load none, [.tmp 9], none, true, 0, 0⟩, ⟨some 11, .call, [.tmp 6, .tmp 8, .tmp 10], none, true, 0, 0⟩, ⟨some 12, .move, [.tmp 11], none, true, 0, 0⟩, ⟨some 13, .move, [.tmp 5], some (12, true), true, 0, 0⟩, ⟨some 14, .fieldAddr 1, [.tmp 2], some (12, true), true, 0, 0⟩, ⟨some 15, .load none, [.tmp 14], some (12, true), true, 0, 0⟩, ⟨some 16, .fieldAddr 1, [.tmp 3], some (12, true), true, 0, 0⟩, ⟨some 17, .load none, [.tmp 16], some (12, true), true, 0, 0⟩, ⟨some 18, .call, [.tmp 13, .tmp 15, .tmp 17], some (12, true), true, 0, 0⟩, ⟨some 19, .pick, [.tmp 12, .tmp 18, .val (.bool false)], none, true, 0, 0⟩, ⟨some 4, .move, [.tmp 19], none, true, 0, 0⟩])]
def F18o2 : IC := .ops F18p2
def F18b : IC := .seq (F18o0) (.seq (F18o1) (.seq (F18o2) (.ret)))
def F18 : IFn := ⟨20, [(4, none)], F18b⟩
/- 19: gansey/stacks.Join -/
def F19p0 : List (Sg × List IOp) := [(.seq, [⟨some 3, .box 35 2, [.tmp 0], none, true, 0, 0⟩, ⟨some 4, .box 26 2, [.tmp 1], none, true, 0, 0⟩, ⟨some 5, .box 26 2, [.tmp 2], none, true, 0, 0⟩, ⟨some 6, .alloc 35 2 [.nilSlice, .nilSlice], [], none, true, 0, 0⟩, ⟨some 7, .move, [.val (.int .i64 0)], none, true, 0, 0⟩])]
def F19o0 : IC := .ops F19p0
def F19p1 : List (Sg × List IOp) := [(.seq, [⟨some 12, .load (some 2), [.tmp 3], none, true, 0, 0⟩, ⟨some 13, .call, [.val (.fn 10 [] []), .tmp 12], none, true, 0, 0⟩, ⟨some 8, .move, [.tmp 13], none, true, 0, 0⟩])]
def F19o1 : IC := .ops F19p1
def F19p2 : List (Sg × List IOp) := [(.seq, [⟨some 14, .move, [.tmp 8], none, true, 0, 0⟩, ⟨some 15, .bin .neq, [.tmp 14, .val (.int .i64 0)], none, true, 0, 0⟩])]
def F19o2 : IC := .ops F19p2
def F19p3 : List (Sg × List IOp) := [(.seq, [⟨some 16, .build [.nilSlice, .nilSlice] [], [], none, true, 0, 0⟩, ⟨some 17, .move, [.tmp 8], none, true, 0, 0⟩, ⟨none, .store 2, [.tmp 6, .tmp 16], none, true, 0, 0⟩, ⟨some 7, .move, [.tmp 17], none, true, 0, 0⟩])]
def F19o3 : IC := .ops F19p3
def F19p4 : List (Sg × List IOp) := [(.seq, [⟨some 18, .load (some 2), [.tmp 4], none, true, 0, 0⟩, ⟨some 19, .call, [.val (.fn 24 [] []), .tmp 18], none, true, 0, 0⟩, ⟨some 20, .bin .neq, [.tmp 19, .val (.int .i64 0)], none, true, 0, 0⟩, ⟨some 21, .move, [.tmp 20], none, true, 0, 0⟩, ⟨some 22, .load (some 2), [.tmp 5], some (21, false), true, 0, 0⟩, ⟨some 23, .call, [.val (.fn 24 [] []), .tmp 22], some (21, false), true, 0, 0⟩, ⟨some 24, .bin .neq, [.tmp 23, .val (.int .i64 0)], some (21, false), true, 0, 0⟩, ⟨some 25, .pick, [.tmp 21, .val (.bool true), .tmp 24], none, true, 0, 0⟩, ⟨some 26, .move, [.tmp 25], none, true, 0, 0⟩, ⟨some 27, .fieldAddr 0, [.tmp 4], some (26, false), true, 0, 0⟩, ⟨some 28, .load none, [.tmp 27], some (26, false), true, 0, 0⟩, ⟨some 29, .fieldAddr 0, [.tmp 5], some (26, false), true, 0, 0⟩, ⟨some 30, .load none, [.tmp 29], some (26, false), true, 0, 0⟩, ⟨some 31, .bin .eql, [.tmp 28, .tmp 30], some (26, false), true, 0, 0⟩, ⟨some 32, .pick, [.tmp 26, .val (.bool true), .tmp 31], none, true, 0, 0⟩])]
def F19o4 : IC := .ops F19p4
def F19p5 : List (Sg × List IOp) := [(.seq, [⟨some 33, .build [.nilSlice, .nilSlice] [], [], none, true, 0, 0⟩, ⟨none, .store 2, [.tmp 6, .tmp 33], none, true, 0, 0⟩, ⟨some 7, .move, [.val (.int .i64 1)], none, true, 0, 0⟩])]
def F19o5 : IC := .ops F19p5
def F19p6 : List (Sg × List IOp) := [(.free, [⟨some 34, .load (some 2), [.tmp 3], none, false, 0, 0⟩, ⟨some 35, .load (some 2), [.tmp 4], none, false, 1, 0⟩, ⟨some 36, .call, [.val (.fn 12 [] []), .tmp 34, .tmp 35], none, false, 2, 3⟩, ⟨some 37, .load (some 2), [.tmp 3], none, false, 3, 0⟩, ⟨some 38, .load (some 2), [.tmp 5], none, false, 4, 0⟩]), (.seq, [⟨some 39, .call, [.val (.fn 12 [] []), .tmp 37, .tmp 38], none, true, 5, 31⟩]), (.seq, [⟨some 9, .move, [.tmp 36], none, true, 6, 63⟩]), (.seq, [⟨some 10, .move, [.tmp 39], none, true, 7, 127⟩])]
def F19o6 : IC := .ops F19p6
def F19p7 : List (Sg × List IOp) := [(.seq, [⟨some 40, .move, [.tmp 9], none, true, 0, 0⟩, ⟨some 41, .lenSl, [.tmp 40], none, true, 0, 0⟩, ⟨some 42, .bin .eql, [.tmp 41, .val (.int .i64 0)], none, true, 0, 0⟩])]
def F19o7 : IC := .ops F19p7
def F19p8 : List (Sg × List IOp) := [(.seq, [⟨some 43, .build [.nilSlice, .nilSlice] [], [], none, true, 0, 0⟩, ⟨none, .store 2, [.tmp 6, .tmp 43], none, true, 0, 0⟩, ⟨some 7, .move, [.val (.int .i64 13)], none, true, 0, 0⟩])]
def F19o8 : IC := .ops F19p8
def F19p9 : List (Sg × List IOp) := [(.seq, [⟨some 44, .move, [.tmp 9], none, true, 0, 0⟩, ⟨some 45, .lenSl, [.tmp 44], none, true, 0, 0⟩, ⟨some 46, .move, [.tmp 10], none, true, 0, 0⟩, ⟨some 47, .lenSl, [.tmp 46], none, true, 0, 0⟩, ⟨some 48, .bin .add, [.tmp 45, .tmp 47], none, true, 0, 0⟩, ⟨some 49, .bin .gtr, [.tmp 48, .val (.int .i64 4)], none, true, 0, 0⟩])]
def F19o9 : IC := .ops F19p9
def F19p10 : List (Sg × List IOp) := [(.seq, [⟨some 50, .build [.nilSlice, .nilSlice] [], [], none, true, 0, 0⟩, ⟨none, .store 2, [.tmp 6, .tmp 50], none, true, 0, 0⟩, ⟨some 7, .move, [.val (.int .i64 9)], none, true, 0, 0⟩])]
def F19o10 : IC := .ops F19p10
def F19p11 : List (Sg × List IOp) := [(.seq, [⟨some 51, .move, [.tmp 10], none, true, 0, 0⟩, ⟨some 52, .call, [.val (.fn 25 [] []), .tmp 51], none, true, 0, 0⟩, ⟨some 53, .move, [.tmp 9], none, true, 0, 0⟩, ⟨some 54, .append 28 2 16, [.tmp 52, .tmp 53], none, true, 0, 0⟩, ⟨some 11, .move, [.tmp 54], none, true, 0, 0⟩])]
def F19o11 : IC := .ops F19p11
def F19p12 : List (Sg × List IOp) := [(.seq, [⟨some 55, .fieldAddr 0, [.tmp 4], none, true, 0, 0⟩, ⟨some 56, .load none, [.tmp 55], none, true, 0, 0⟩, ⟨some 57, .bin .eql, [.tmp 56, .val (.int .u8 1)], none, true, 0, 0⟩])]
def F19o12 : IC := .ops F19p12
def F19p13 : List (Sg × List IOp) := [(.seq, [⟨some 58, .move, [.tmp 9], none, true, 0, 0⟩, ⟨some 59, .call, [.val (.fn 25 [] []), .tmp 58], none, true, 0, 0⟩, ⟨some 60, .move, [.tmp 10], none, true, 0, 0⟩, ⟨some 61, .append 28 2 16, [.tmp 59, .tmp 60], none, true, 0, 0⟩, ⟨some 11, .move, [.tmp 61], none, true, 0, 0⟩])]
def F19o13 : IC := .ops F19p13
def F19p14 : List (Sg × List IOp) := [(.free, [⟨some 62, .load (some 2), [.tmp 3], none, false, 0, 0⟩, ⟨some 63, .load (some 2), [.tmp 4], none, false, 1, 0⟩, ⟨some 64, .call, [.val (.fn 28 [] []), .tmp 62, .tmp 63, .val (.nilSlice)], none, false, 2, 3⟩, ⟨some 65, .load (some 2), [.tmp 5], none, false, 3, 0⟩, ⟨some 66, .move, [.tmp 11], none, false, 4, 0⟩]), (.seq, [⟨some 67, .call, [.val (.fn 28 [] []), .tmp 64, .tmp 65, .tmp 66], none, true, 5, 31⟩]), (.seq, [⟨none, .store 2, [.tmp 6, .tmp 67], none, true, 6, 63⟩]), (.seq, [⟨some 7, .move, [.val (.int .i64 0)], none, true, 7, 127⟩])]
def F19o14 : IC := .ops F19p14
def F19b : IC := .seq (F19o0) (.seq (.seq (F19o1) (.seq (F19o2) (.cond (.tmp 15) (.seq (F19o3) (.ret)) (.skip)))) (.seq (.seq (F19o4) (.cond (.tmp 32) (.seq (F19o5) (.ret)) (.skip))) (.seq (F19o6) (.seq (.seq (F19o7) (.cond (.tmp 42) (.seq (F19o8) (.ret)) (.skip))) (.seq (.seq (F19o9) (.cond (.tmp 49) (.seq (F19o10) (.ret)) (.skip))) (.seq (F19o11) (.seq (.seq (F19o12) (.cond (.tmp 57) (F19o13) (.skip))) (.seq (F19o14) (.ret)))))))))
def F19 : IFn := ⟨68, [(6, some (some 2)), (7, none)], F19b⟩
/- 20: gansey/ganseylaw03.same -/
def F20p0 : List (Sg × List IOp) := [(.seq, [⟨some 4, .move, [.val (.int .i64 0)], none, true, 0, 0⟩])]
def F20o0 : IC := .ops F20p0
def F20p1 : List (Sg × List IOp) := [(.seq, [⟨some 6, .move, [.tmp 0], none, true, 0, 0⟩, ⟨some 7, .lenSl, [.tmp 6], none, true, 0, 0⟩, ⟨some 8, .move, [.tmp 1], none, true, 0, 0⟩, ⟨some 9, .lenSl, [.tmp 8], none, true, 0, 0⟩, ⟨some 10, .bin .neq, [.tmp 7, .tmp 9], none, true, 0, 0⟩, ⟨some 11, .move, [.tmp 10], none, true, 0, 0⟩, ⟨some 12, .move, [.tmp 0], some (11, false), true, 0, 0⟩, ⟨some 13, .cap, [.tmp 12], some (11, false), true, 0, 0⟩, ⟨some 14, .move, [.tmp 0], some (11, false), true, 0, 0⟩, ⟨some 15, .lenSl, [.tmp 14], some (11, false), true, 0, 0⟩, ⟨some 16, .bin .neq, [.tmp 13, .tmp 15], some (11, false), true, 0, 0⟩, ⟨some 17, .pick, [.tmp 11, .val (.bool true), .tmp 16], none, true, 0, 0⟩])]
def F20o1 : IC := .ops F20p1
def F20p2 : List (Sg × List IOp) := [(.seq, [⟨some 4, .move, [.val (.int .i64 0)], none, true, 0, 0⟩])]
def F20o2 : IC := .ops F20p2
def F20p3 : List (Sg × List IOp) := [(.seq, [⟨some 5, .move, [.val (.int .i64 0)], none, true, 0, 0⟩])]
def F20o3 : IC := .ops F20p3
def F20p4 : List (Sg × List IOp) := [(.seq, [⟨some 18, .move, [.tmp 5], none, true, 0, 0⟩, ⟨some 19, .move, [.tmp 0], none, true, 0, 0⟩, ⟨some 20, .lenSl, [.tmp 19], none, true, 0, 0⟩, ⟨some 21, .bin .lss, [.tmp 18, .tmp 20], none, true, 0, 0⟩])]
def F20o4 : IC := .ops F20p4
def F20p5 : List (Sg × List IOp) := [(.free, [⟨some 24, .move, [.tmp 0], none, false, 0, 0⟩, ⟨some 25, .move, [.tmp 5], none, false, 1, 0⟩, ⟨some 26, .idxSl 2, [.tmp 24, .tmp 25], none, false, 2, 3⟩, ⟨some 27, .load (some 2), [.tmp 26], none, false, 3, 7⟩, ⟨some 28, .move, [.tmp 1], none, false, 4, 0⟩, ⟨some 29, .move, [.tmp 5], none, false, 5, 0⟩, ⟨some 30, .idxSl 2, [.tmp 28, .tmp 29], none, false, 6, 48⟩, ⟨some 31, .load (some 2), [.tmp 30], none, false, 7, 112⟩]), (.seq, [⟨some 32, .eqFlat true [.int, .int], [.tmp 27, .tmp 31], none, true, 8, 255⟩])]
def F20o5 : IC := .ops F20p5
def F20p6 : List (Sg × List IOp) := [(.seq, [⟨some 4, .move, [.val (.int .i64 0)], none, true, 0, 0⟩])]
def F20o6 : IC := .ops F20p6
def F20p7 : List (Sg × List IOp) := [(.seq, [⟨some 22, .move, [.tmp 5], none, true, 0, 0⟩, ⟨some 23, .bin .add, [.tmp 22, .val (.int .i64 1)], none, true, 0, 0⟩, ⟨some 5, .move, [.tmp 23], none, true, 0, 0⟩])]
def F20o7 : IC := .ops F20p7
def F20l8 : IC := .seq (.seq (F20o4) (.cond (.tmp 21) (.skip) (.exit 0))) (.seq (.block 1 (.seq (F20o5) (.cond (.tmp 32) (.seq (F20o6) (.ret)) (.skip)))) (F20o7))
def F20p9 : List (Sg × List IOp) := [(.seq, [⟨some 4, .move, [.val (.int .i64 1)], none, true, 0, 0⟩])]
def F20o9 : IC := .ops F20p9
def F20b : IC := .seq (F20o0) (.seq (.seq (F20o1) (.cond (.tmp 17) (.seq (F20o2) (.ret)) (.skip))) (.seq (.seq (F20o3) (.block 0 (.loop F20l8))) (.seq (F20o9) (.ret))))
def F20 : IFn := ⟨33, [(4, none)], F20b⟩
/- 21: (gansey/ganseylaw03.B).Of -/
def F21p0 : List (Sg × List IOp) := [(.seq, [⟨some 2, .alloc 35 2 [.nilSlice, .nilSlice], [], none, true, 0, 0⟩])]
def F21o0 : IC := .ops F21p0
def F21p1 : List (Sg × List IOp) := [(.seq, [⟨some 3, .move, [.tmp 0], none, true, 0, 0⟩, ⟨some 4, .call, [.val (.fn 8 [] []), .tmp 3], none, true, 0, 0⟩, ⟨some 5, .call, [.val (.fn 9 [] []), .tmp 4], none, true, 0, 0⟩, ⟨none, .store 2, [.tmp 2, .tmp 5], none, true, 0, 0⟩])]
def F21o1 : IC := .ops F21p1
def F21b : IC := .seq (F21o0) (.seq (F21o1) (.ret))
def F21 : IFn := ⟨6, [(2, some (some 2))], F21b⟩
/- 22: gansey/stacks.beds -/
def F22p0 : List (Sg × List IOp) := [(.seq, [⟨some 1, .box 35 2, [.tmp 0], none, true, 0, 0⟩, ⟨some 2, .move, [.val (.nilFunc)], none, true, 0, 0⟩])]
def F22o0 : IC := .ops F22p0
def F22p1 : List (Sg × List IOp) := [(.seq, [⟨some 3, .mkfn 33 0, [.tmp 1], none, true, 0, 0⟩, ⟨some 2, .move, [.tmp 3], none, true, 0, 0⟩])]
def F22o1 : IC := .ops F22p1
def F22b : IC := .seq (F22o0) (.seq (F22o1) (.ret))
def F22 : IFn := ⟨4, [(2, none)], F22b⟩
/- 23: gansey/yarns.Named -/
def F23p0 : List (Sg × List IOp) := [(.seq, [⟨some 1, .box 28 2, [.tmp 0], none, true, 0, 0⟩, ⟨some 2, .move, [.val (.bool false)], none, true, 0, 0⟩])]
def F23o0 : IC := .ops F23p0
def F23p1 : List (Sg × List IOp) := [(.seq, [⟨some 3, .fieldAddr 0, [.tmp 1], none, true, 0, 0⟩, ⟨some 4, .load none, [.tmp 3], none, true, 0, 0⟩, ⟨some 5, .bin .geq, [.tmp 4, .val (.int .u8 1)], none, true, 0, 0⟩, ⟨some 6, .move, [.tmp 5], none, true, 0, 0⟩, ⟨some 7, .fieldAddr 0, [.tmp 1], some (6, true), true, 0, 0⟩, ⟨some 8, .load none, [.tmp 7], some (6, true), true, 0, 0⟩, ⟨some 9, .bin .leq, [.tmp 8, .val (.int .u8 6)], some (6, true), true, 0, 0⟩, ⟨some 10, .pick, [.tmp 6, .tmp 9, .val (.bool false)], none, true, 0, 0⟩, ⟨some 11, .move, [.tmp 10], none, true, 0, 0⟩, ⟨some 12, .fieldAddr 1, [.tmp 1], some (11, true), true, 0, 0⟩, ⟨some 13, .load none, [.tmp 12], some (11, true), true, 0, 0⟩, ⟨some 14, .bin .geq, [.tmp 13, .val (.int .i64 0)], some (11, true), true, 0, 0⟩, ⟨some 15, .pick, [.tmp 11, .tmp 14, .val (.bool false)], none, true, 0, 0⟩, ⟨some 16, .move, [.tmp 15], none, true, 0, 0⟩, ⟨some 17, .fieldAddr 1, [.tmp 1], some (16, true), true, 0, 0⟩, ⟨some 18, .load none, [.tmp 17], some (16, true), true, 0, 0⟩, ⟨some 19, .bin .lss, [.tmp 18, .val (.int .i64 2048)], some (16, true), true, 0, 0⟩, ⟨some 20, .pick, [.tmp 16, .tmp 19, .val (.bool false)], none, true, 0, 0⟩, ⟨some 2, .move, [.tmp 20], none, true, 0, 0⟩])]
def F23o1 : IC := .ops F23p1
def F23b : IC := .seq (F23o0) (.seq (F23o1) (.ret))
def F23 : IFn := ⟨21, [(2, none)], F23b⟩
/- 24: gansey/needles.Check -/
def F24p0 : List (Sg × List IOp) := [(.seq, [⟨some 1, .box 26 2, [.tmp 0], none, true, 0, 0⟩, ⟨some 2, .move, [.val (.int .i64 0)], none, true, 0, 0⟩])]
def F24o0 : IC := .ops F24p0
def F24p1 : List (Sg × List IOp) := [(.seq, [⟨some 3, .fieldAddr 0, [.tmp 1], none, true, 0, 0⟩, ⟨some 4, .load none, [.tmp 3], none, true, 0, 0⟩, ⟨some 5, .bin .neq, [.tmp 4, .val (.int .u8 0)], none, true, 0, 0⟩, ⟨some 6, .move, [.tmp 5], none, true, 0, 0⟩, ⟨some 7, .fieldAddr 0, [.tmp 1], some (6, true), true, 0, 0⟩, ⟨some 8, .load none, [.tmp 7], some (6, true), true, 0, 0⟩, ⟨some 9, .bin .neq, [.tmp 8, .val (.int .u8 1)], some (6, true), true, 0, 0⟩, ⟨some 10, .pick, [.tmp 6, .tmp 9, .val (.bool false)], none, true, 0, 0⟩])]
def F24o1 : IC := .ops F24p1
def F24p2 : List (Sg × List IOp) := [(.seq, [⟨some 2, .move, [.val (.int .i64 1)], none, true, 0, 0⟩])]
def F24o2 : IC := .ops F24p2
def F24p3 : List (Sg × List IOp) := [(.seq, [⟨some 11, .fieldAddr 1, [.tmp 1], none, true, 0, 0⟩, ⟨some 12, .load none, [.tmp 11], none, true, 0, 0⟩, ⟨some 13, .bin .lss, [.tmp 12, .val (.int .i64 1)], none, true, 0, 0⟩, ⟨some 14, .move, [.tmp 13], none, true, 0, 0⟩, ⟨some 15, .fieldAddr 1, [.tmp 1], some (14, false), true, 0, 0⟩, ⟨some 16, .load none, [.tmp 15], some (14, false), true, 0, 0⟩, ⟨some 17, .bin .gtr, [.tmp 16, .val (.int .i64 40)], some (14, false), true, 0, 0⟩, ⟨some 18, .pick, [.tmp 14, .val (.bool true), .tmp 17], none, true, 0, 0⟩])]
def F24o3 : IC := .ops F24p3
def F24p4 : List (Sg × List IOp) := [(.seq, [⟨some 2, .move, [.val (.int .i64 1)], none, true, 0, 0⟩])]
def F24o4 : IC := .ops F24p4
def F24p5 : List (Sg × List IOp) := [(.seq, [⟨some 2, .move, [.val (.int .i64 0)], none, true, 0, 0⟩])]
def F24o5 : IC := .ops F24p5
def F24b : IC := .seq (F24o0) (.seq (.seq (F24o1) (.cond (.tmp 10) (.seq (F24o2) (.ret)) (.skip))) (.seq (.seq (F24o3) (.cond (.tmp 18) (.seq (F24o4) (.ret)) (.skip))) (.seq (F24o5) (.ret))))
def F24 : IFn := ⟨19, [(2, none)], F24b⟩
/- 25: gansey/stacks.copied[gansey/api.Id] -/
def F25p0 : List (Sg × List IOp) := [(.seq, [⟨some 2, .move, [.val (.nilSlice)], none, true, 0, 0⟩])]
def F25o0 : IC := .ops F25p0
def F25p1 : List (Sg × List IOp) := [(.seq, [⟨some 4, .move, [.tmp 0], none, true, 0, 0⟩, ⟨some 5, .lenSl, [.tmp 4], none, true, 0, 0⟩, ⟨some 6, .mksl 28 2 16 [.int .u8 0, .int .i64 0], [.tmp 5, .tmp 5], none, true, 0, 0⟩, ⟨some 3, .move, [.tmp 6], none, true, 0, 0⟩])]
def F25o1 : IC := .ops F25p1
def F25p2 : List (Sg × List IOp) := [(.seq, [⟨some 7, .move, [.tmp 3], none, true, 0, 0⟩, ⟨some 8, .move, [.tmp 0], none, true, 0, 0⟩, ⟨some 9, .copy 2, [.tmp 7, .tmp 8], none, true, 0, 0⟩])]
def F25o2 : IC := .ops F25p2
def F25p3 : List (Sg × List IOp) := [(.seq, [⟨some 10, .move, [.tmp 3], none, true, 0, 0⟩, ⟨some 2, .move, [.tmp 10], none, true, 0, 0⟩])]
def F25o3 : IC := .ops F25p3
def F25b : IC := .seq (F25o0) (.seq (F25o1) (.seq (F25o2) (.seq (F25o3) (.ret))))
def F25 : IFn := ⟨11, [(2, none)], F25b⟩
/- 26: gansey/stacks.needled -/
def F26p0 : List (Sg × List IOp) := [(.seq, [⟨some 1, .box 35 2, [.tmp 0], none, true, 0, 0⟩, ⟨some 2, .move, [.val (.nilFunc)], none, true, 0, 0⟩])]
def F26o0 : IC := .ops F26p0
def F26p1 : List (Sg × List IOp) := [(.seq, [⟨some 3, .mkfn 34 0, [.tmp 1], none, true, 0, 0⟩, ⟨some 2, .move, [.tmp 3], none, true, 0, 0⟩])]
def F26o1 : IC := .ops F26p1
def F26b : IC := .seq (F26o0) (.seq (F26o1) (.ret))
def F26 : IFn := ⟨4, [(2, none)], F26b⟩
/- 27: slices.Contains[[]gansey/api.Id,gansey/api.Id] -/
def F27p0 : List (Sg × List IOp) := [(.seq, [⟨some 3, .box 28 2, [.tmp 1], none, true, 0, 0⟩, ⟨some 4, .move, [.val (.bool false)], none, true, 0, 0⟩])]
def F27o0 : IC := .ops F27p0
def F27p1 : List (Sg × List IOp) := [(.seq, [⟨some 5, .move, [.tmp 0], none, true, 0, 0⟩, ⟨some 6, .load (some 2), [.tmp 3], none, true, 0, 0⟩, ⟨some 7, .call, [.val (.fn 35 [] []), .tmp 5, .tmp 6], none, true, 0, 0⟩, ⟨some 8, .bin .geq, [.tmp 7, .val (.int .i64 0)], none, true, 0, 0⟩, ⟨some 4, .move, [.tmp 8], none, true, 0, 0⟩])]
def F27o1 : IC := .ops F27p1
def F27b : IC := .seq (F27o0) (.seq (F27o1) (.ret))
def F27 : IFn := ⟨9, [(4, none)], F27b⟩
/- 28: gansey/stacks.placed -/
def F28p0 : List (Sg × List IOp) := [(.seq, [⟨some 3, .box 35 2, [.tmp 0], none, true, 0, 0⟩, ⟨some 4, .box 26 2, [.tmp 1], none, true, 0, 0⟩, ⟨some 6, .alloc 35 2 [.nilSlice, .nilSlice], [], none, true, 0, 0⟩])]
def F28o0 : IC := .ops F28p0
def F28p1 : List (Sg × List IOp) := [(.seq, [⟨some 7, .fieldAddr 0, [.tmp 4], none, true, 0, 0⟩, ⟨some 8, .load none, [.tmp 7], none, true, 0, 0⟩, ⟨some 9, .bin .eql, [.tmp 8, .val (.int .u8 0)], none, true, 0, 0⟩])]
def F28o1 : IC := .ops F28p1
def F28p2 : List (Sg × List IOp) := [(.free, [⟨some 10, .fieldAddr 0, [.tmp 3], none, false, 0, 0⟩, ⟨some 11, .load none, [.tmp 10], none, false, 1, 1⟩, ⟨some 12, .fieldAddr 1, [.tmp 4], none, false, 2, 0⟩, ⟨some 13, .load none, [.tmp 12], none, false, 3, 4⟩, ⟨some 14, .move, [.tmp 2], none, false, 4, 0⟩, ⟨some 15, .call, [.val (.fn 36 [] []), .tmp 11, .tmp 13, .tmp 14], none, false, 5, 31⟩, ⟨some 16, .fieldAddr 1, [.tmp 3], none, false, 6, 0⟩, ⟨some 17, .load none, [.tmp 16], none, false, 7, 64⟩]), (.seq, [⟨some 18, .call, [.val (.fn 36 [] []), .tmp 17, .val (.int .i64 0), .val (.nilSlice)], none, true, 8, 255⟩]), (.seq, [⟨some 19, .build [.nilSlice, .nilSlice] [(0, 1), (1, 1)], [.tmp 15, .tmp 18], none, true, 9, 511⟩]), (.seq, [⟨none, .store 2, [.tmp 6, .tmp 19], none, true, 10, 1023⟩])]
def F28o2 : IC := .ops F28p2
def F28p3 : List (Sg × List IOp) := [(.free, [⟨some 20, .fieldAddr 0, [.tmp 3], none, false, 0, 0⟩, ⟨some 21, .load none, [.tmp 20], none, false, 1, 1⟩, ⟨some 22, .call, [.val (.fn 36 [] []), .tmp 21, .val (.int .i64 0), .val (.nilSlice)], none, false, 2, 3⟩, ⟨some 23, .fieldAddr 1, [.tmp 3], none, false, 3, 0⟩, ⟨some 24, .load none, [.tmp 23], none, false, 4, 8⟩, ⟨some 25, .fieldAddr 1, [.tmp 4], none, false, 5, 0⟩, ⟨some 26, .load none, [.tmp 25], none, false, 6, 32⟩, ⟨some 27, .move, [.tmp 2], none, false, 7, 0⟩]), (.seq, [⟨some 28, .call, [.val (.fn 36 [] []), .tmp 24, .tmp 26, .tmp 27], none, true, 8, 255⟩]), (.seq, [⟨some 29, .build [.nilSlice, .nilSlice] [(0, 1), (1, 1)], [.tmp 22, .tmp 28], none, true, 9, 511⟩]), (.seq, [⟨none, .store 2, [.tmp 6, .tmp 29], none, true, 10, 1023⟩])]
def F28o3 : IC := .ops F28p3
def F28b : IC := .seq (F28o0) (.seq (.seq (F28o1) (.cond (.tmp 9) (.seq (F28o2) (.ret)) (.skip))) (.seq (F28o3) (.ret)))
def F28 : IFn := ⟨30, [(6, some (some 2))], F28b⟩
/- 29: gansey/stacks.Same$1 -/
def F29p0 : List (Sg × List IOp) := [(.seq, [⟨some 4, .move, [.val (.bool false)], none, true, 0, 0⟩])]
def F29o0 : IC := .ops F29p0
def F29p1 : List (Sg × List IOp) := [(.free, [⟨some 5, .move, [.tmp 0], none, false, 0, 0⟩, ⟨some 6, .move, [.tmp 0], none, true, 1, 0⟩, ⟨some 7, .call, [.val (.fn 31 [] []), .tmp 6], none, true, 2, 2⟩, ⟨some 8, .slc 1 false true false, [.tmp 5, .tmp 7], none, false, 3, 7⟩, ⟨some 9, .move, [.tmp 1], none, false, 4, 0⟩, ⟨some 10, .move, [.tmp 1], none, false, 5, 0⟩, ⟨some 11, .call, [.val (.fn 31 [] []), .tmp 10], none, false, 6, 38⟩, ⟨some 12, .slc 1 false true false, [.tmp 9, .tmp 11], none, false, 7, 118⟩]), (.seq, [⟨some 13, .call, [.val (.fn 30 [] []), .tmp 8, .tmp 12, .val (.fn 32 [] [])], none, true, 8, 255⟩]), (.seq, [⟨some 4, .move, [.tmp 13], none, true, 9, 511⟩])]
def F29o1 : IC := .ops F29p1
def F29b : IC := .seq (F29o0) (.seq (F29o1) (.ret))
def F29 : IFn := ⟨14, [(4, none)], F29b⟩
/- 30: slices.EqualFunc[[][]gansey/api.Id,[][]gansey/api.Id,[]gansey/api.Id,[]gansey/api.Id] -/
def F30p0 : List (Sg × List IOp) := [(.seq, [⟨some 6, .move, [.val (.bool false)], none, true, 0, 0⟩])]
def F30o0 : IC := .ops F30p0
def F30p1 : List (Sg × List IOp) := [(.seq, [⟨some 10, .move, [.tmp 0], none, true, 0, 0⟩, ⟨some 11, .lenSl, [.tmp 10], none, true, 0, 0⟩, ⟨some 12, .move, [.tmp 1], none, true, 0, 0⟩, ⟨some 13, .lenSl, [.tmp 12], none, true, 0, 0⟩, ⟨some 14, .bin .neq, [.tmp 11, .tmp 13], none, true, 0, 0⟩])]
def F30o1 : IC := .ops F30p1
def F30p2 : List (Sg × List IOp) := [(.seq, [⟨some 6, .move, [.val (.bool false)], none, true, 0, 0⟩])]
def F30o2 : IC := .ops F30p2
def F30p3 : List (Sg × List IOp) := [(.seq, [⟨some 15, .move, [.tmp 0], none, true, 0, 0⟩, ⟨some 16, .lenSl, [.tmp 15], none, true, 0, 0⟩, ⟨some 17, .move, [.val (.int .i64 0)], none, true, 0, 0⟩])]
def F30o3 : IC := .ops F30p3
def F30p4 : List (Sg × List IOp) := [(.seq, [⟨some 18, .bin .lss, [.tmp 17, .tmp 16], none, true, 0, 0⟩])]
def F30o4 : IC := .ops F30p4
def F30p5 : List (Sg × List IOp) := [(.seq, [⟨some 19, .move, [.tmp 17], none, true, 0, 0⟩, ⟨some 20, .idxSl 1, [.tmp 15, .tmp 17], none, true, 0, 0⟩, ⟨some 21, .load none, [.tmp 20], none, true, 0, 0⟩, ⟨some 7, .move, [.tmp 19], none, true, 0, 0⟩, ⟨some 8, .move, [.tmp 21], none, true, 0, 0⟩])]
def F30o5 : IC := .ops F30p5
def F30p6 : List (Sg × List IOp) := [(.seq, [⟨some 22, .move, [.tmp 1], none, true, 0, 0⟩, ⟨some 23, .move, [.tmp 7], none, true, 0, 0⟩, ⟨some 24, .idxSl 1, [.tmp 22, .tmp 23], none, true, 0, 0⟩, ⟨some 25, .load none, [.tmp 24], none, true, 0, 0⟩, ⟨some 9, .move, [.tmp 25], none, true, 0, 0⟩])]
def F30o6 : IC := .ops F30p6
def F30p7 : List (Sg × List IOp) := [(.seq, [⟨some 26, .move, [.tmp 2], none, true, 0, 0⟩, ⟨some 27, .move, [.tmp 8], none, true, 0, 0⟩, ⟨some 28, .move, [.tmp 9], none, true, 0, 0⟩, ⟨some 29, .call, [.tmp 26, .tmp 27, .tmp 28], none, true, 0, 0⟩, ⟨some 30, .un .not, [.tmp 29], none, true, 0, 0⟩])]
def F30o7 : IC := .ops F30p7
def F30p8 : List (Sg × List IOp) := [(.seq, [⟨some 6, .move, [.val (.bool false)], none, true, 0, 0⟩])]
def F30o8 : IC := .ops F30p8
def F30p9 : List (Sg × List IOp) := [(.seq, [⟨some 31, .bin .add, [.tmp 17, .val (.int .i64 1)], none, true, 0, 0⟩, ⟨some 17, .move, [.tmp 31], none, true, 0, 0⟩])]
def F30o9 : IC := .ops F30p9
def F30l10 : IC := .seq (F30o4) (.seq (.cond (.tmp 18) (.skip) (.exit 0)) (.seq (.block 1 (.seq (F30o5) (.seq (F30o6) (.seq (F30o7) (.cond (.tmp 30) (.seq (F30o8) (.ret)) (.skip)))))) (F30o9)))
def F30p11 : List (Sg × List IOp) := [(.seq, [⟨some 6, .move, [.val (.bool true)], none, true, 0, 0⟩])]
def F30o11 : IC := .ops F30p11
def F30b : IC := .seq (F30o0) (.seq (.seq (F30o1) (.cond (.tmp 14) (.seq (F30o2) (.ret)) (.skip))) (.seq (.seq (F30o3) (.block 0 (.loop F30l10))) (.seq (F30o11) (.ret))))
def F30 : IFn := ⟨32, [(6, none)], F30b⟩
/- 31: gansey/stacks.short -/
def F31p0 : List (Sg × List IOp) := [(.seq, [⟨some 2, .move, [.val (.int .i64 0)], none, true, 0, 0⟩])]
def F31o0 : IC := .ops F31p0
def F31p1 : List (Sg × List IOp) := [(.seq, [⟨some 4, .move, [.tmp 0], none, true, 0, 0⟩, ⟨some 5, .lenSl, [.tmp 4], none, true, 0, 0⟩, ⟨some 3, .move, [.tmp 5], none, true, 0, 0⟩])]
def F31o1 : IC := .ops F31p1
def F31p2 : List (Sg × List IOp) := [(.seq, [⟨some 6, .move, [.tmp 3], none, true, 0, 0⟩, ⟨some 7, .bin .gtr, [.tmp 6, .val (.int .i64 0)], none, true, 0, 0⟩, ⟨some 8, .move, [.tmp 7], none, true, 0, 0⟩, ⟨some 9, .move, [.tmp 0], some (8, true), true, 0, 0⟩, ⟨some 10, .move, [.tmp 3], some (8, true), true, 0, 0⟩, ⟨some 11, .bin .sub, [.tmp 10, .val (.int .i64 1)], some (8, true), true, 0, 0⟩, ⟨some 12, .idxSl 1, [.tmp 9, .tmp 11], some (8, true), true, 0, 0⟩, ⟨some 13, .load none, [.tmp 12], some (8, true), true, 0, 0⟩, ⟨some 14, .lenSl, [.tmp 13], some (8, true), true, 0, 0⟩, ⟨some 15, .bin .eql, [.tmp 14, .val (.int .i64 0)], some (8, true), true, 0, 0⟩, ⟨some 16, .pick, [.tmp 8, .tmp 15, .val (.bool false)], none, true, 0, 0⟩])]
def F31o2 : IC := .ops F31p2
def F31p3 : List (Sg × List IOp) := [(.seq, [⟨some 17, .move, [.tmp 3], none, true, 0, 0⟩, ⟨some 18, .bin .sub, [.tmp 17, .val (.int .i64 1)], none, true, 0, 0⟩, ⟨some 3, .move, [.tmp 18], none, true, 0, 0⟩])]
def F31o3 : IC := .ops F31p3
def F31l4 : IC := .seq (.seq (F31o2) (.cond (.tmp 16) (.skip) (.exit 0))) (.block 1 (F31o3))
def F31p5 : List (Sg × List IOp) := [(.seq, [⟨some 19, .move, [.tmp 3], none, true, 0, 0⟩, ⟨some 2, .move, [.tmp 19], none, true, 0, 0⟩])]
def F31o5 : IC := .ops F31p5
def F31b : IC := .seq (F31o0) (.seq (F31o1) (.seq (.block 0 (.loop F31l4)) (.seq (F31o5) (.ret))))
def F31 : IFn := ⟨20, [(2, none)], F31b⟩
/- 32: slices.Equal[[]gansey/api.Id,gansey/api.Id] -/
def F32p0 : List (Sg × List IOp) := [(.seq, [⟨some 4, .move, [.val (.bool false)], none, true, 0, 0⟩])]
def F32o0 : IC := .ops F32p0
def F32p1 : List (Sg × List IOp) := [(.seq, [⟨some 6, .move, [.tmp 0], none, true, 0, 0⟩, ⟨some 7, .lenSl, [.tmp 6], none, true, 0, 0⟩, ⟨some 8, .move, [.tmp 1], none, true, 0, 0⟩, ⟨some 9, .lenSl, [.tmp 8], none, true, 0, 0⟩, ⟨some 10, .bin .neq, [.tmp 7, .tmp 9], none, true, 0, 0⟩])]
def F32o1 : IC := .ops F32p1
def F32p2 : List (Sg × List IOp) := [(.seq, [⟨some 4, .move, [.val (.bool false)], none, true, 0, 0⟩])]
def F32o2 : IC := .ops F32p2
def F32p3 : List (Sg × List IOp) := [(.seq, [⟨some 11, .move, [.tmp 0], none, true, 0, 0⟩, ⟨some 12, .lenSl, [.tmp 11], none, true, 0, 0⟩, ⟨some 13, .move, [.val (.int .i64 0)], none, true, 0, 0⟩])]
def F32o3 : IC := .ops F32p3
def F32p4 : List (Sg × List IOp) := [(.seq, [⟨some 14, .bin .lss, [.tmp 13, .tmp 12], none, true, 0, 0⟩])]
def F32o4 : IC := .ops F32p4
def F32p5 : List (Sg × List IOp) := [(.seq, [⟨some 15, .move, [.tmp 13], none, true, 0, 0⟩, ⟨some 5, .move, [.tmp 15], none, true, 0, 0⟩])]
def F32o5 : IC := .ops F32p5
def F32p6 : List (Sg × List IOp) := [(.free, [⟨some 16, .move, [.tmp 0], none, false, 0, 0⟩, ⟨some 17, .move, [.tmp 5], none, false, 1, 0⟩, ⟨some 18, .idxSl 2, [.tmp 16, .tmp 17], none, false, 2, 3⟩, ⟨some 19, .load (some 2), [.tmp 18], none, false, 3, 7⟩, ⟨some 20, .move, [.tmp 1], none, false, 4, 0⟩, ⟨some 21, .move, [.tmp 5], none, false, 5, 0⟩, ⟨some 22, .idxSl 2, [.tmp 20, .tmp 21], none, false, 6, 48⟩, ⟨some 23, .load (some 2), [.tmp 22], none, false, 7, 112⟩]), (.seq, [⟨some 24, .eqFlat true [.int, .int], [.tmp 19, .tmp 23], none, true, 8, 255⟩])]
def F32o6 : IC := .ops F32p6
def F32p7 : List (Sg × List IOp) := [(.seq, [⟨some 4, .move, [.val (.bool false)], none, true, 0, 0⟩])]
def F32o7 : IC := .ops F32p7
def F32p8 : List (Sg × List IOp) := [(.seq, [⟨some 25, .bin .add, [.tmp 13, .val (.int .i64 1)], none, true, 0, 0⟩, ⟨some 13, .move, [.tmp 25], none, true, 0, 0⟩])]
def F32o8 : IC := .ops F32p8
def F32l9 : IC := .seq (F32o4) (.seq (.cond (.tmp 14) (.skip) (.exit 0)) (.seq (.block 1 (.seq (F32o5) (.seq (F32o6) (.cond (.tmp 24) (.seq (F32o7) (.ret)) (.skip))))) (F32o8)))
def F32p10 : List (Sg × List IOp) := [(.seq, [⟨some 4, .move, [.val (.bool true)], none, true, 0, 0⟩])]
def F32o10 : IC := .ops F32p10
def F32b : IC := .seq (F32o0) (.seq (.seq (F32o1) (.cond (.tmp 10) (.seq (F32o2) (.ret)) (.skip))) (.seq (.seq (F32o3) (.block 0 (.loop F32l9))) (.seq (F32o10) (.ret))))
def F32 : IFn := ⟨26, [(4, none)], F32b⟩
/- 33: gansey/stacks.beds$1 -/
def F33p0 : List (Sg × List IOp) := [(.seq, [⟨some 3, .move, [.tmp 0], none, true, 0, 0⟩, ⟨some 4, .fieldAddr 0, [.tmp 1], none, true, 0, 0⟩, ⟨some 5, .load none, [.tmp 4], none, true, 0, 0⟩, ⟨some 6, .call, [.tmp 3, .val (.int .u8 0), .tmp 5], none, true, 0, 0⟩])]
def F33o0 : IC := .ops F33p0
def F33p1 : List (Sg × List IOp) := [(.seq, [⟨some 7, .move, [.tmp 0], none, true, 0, 0⟩, ⟨some 8, .fieldAddr 1, [.tmp 1], none, true, 0, 0⟩, ⟨some 9, .load none, [.tmp 8], none, true, 0, 0⟩, ⟨some 10, .call, [.tmp 7, .val (.int .u8 1), .tmp 9], none, true, 0, 0⟩])]
def F33o1 : IC := .ops F33p1
def F33b : IC := .seq (F33o0) (.cond (.tmp 6) (F33o1) (.skip))
def F33 : IFn := ⟨11, [], F33b⟩
/- 34: gansey/stacks.needled$1 -/
def F34p0 : List (Sg × List IOp) := [(.seq, [⟨some 2, .box 75 1, [.tmp 0], none, true, 0, 0⟩])]
def F34o0 : IC := .ops F34p0
def F34p1 : List (Sg × List IOp) := [(.seq, [⟨some 7, .load (some 2), [.tmp 1], none, true, 0, 0⟩, ⟨some 8, .call, [.val (.fn 22 [] []), .tmp 7], none, true, 0, 0⟩])]
def F34o1 : IC := .ops F34p1
def F34p2 : List (Sg × List IOp) := [(.seq, [⟨some 3, .move, [.tmp 9], none, true, 0, 0⟩])]
def F34o2 : IC := .ops F34p2
def F34p3 : List (Sg × List IOp) := [(.seq, [⟨some 4, .move, [.tmp 10], none, true, 0, 0⟩])]
def F34o3 : IC := .ops F34p3
def F34p4 : List (Sg × List IOp) := [(.seq, [⟨some 11, .move, [.tmp 4], none, true, 0, 0⟩, ⟨some 12, .lenSl, [.tmp 11], none, true, 0, 0⟩, ⟨some 13, .move, [.val (.int .i64 0)], none, true, 0, 0⟩])]
def F34o4 : IC := .ops F34p4
def F34p5 : List (Sg × List IOp) := [(.seq, [⟨some 14, .bin .lss, [.tmp 13, .tmp 12], none, true, 0, 0⟩])]
def F34o5 : IC := .ops F34p5
def F34p6 : List (Sg × List IOp) := [(.seq, [⟨some 15, .move, [.tmp 13], none, true, 0, 0⟩, ⟨some 16, .idxSl 1, [.tmp 11, .tmp 13], none, true, 0, 0⟩, ⟨some 17, .load none, [.tmp 16], none, true, 0, 0⟩, ⟨some 5, .move, [.tmp 15], none, true, 0, 0⟩, ⟨some 6, .move, [.tmp 17], none, true, 0, 0⟩])]
def F34o6 : IC := .ops F34p6
def F34p7 : List (Sg × List IOp) := [(.seq, [⟨some 18, .move, [.tmp 5], none, true, 0, 0⟩, ⟨some 19, .bin .geq, [.tmp 18, .val (.int .i64 40)], none, true, 0, 0⟩])]
def F34o7 : IC := .ops F34p7
def F34p8 : List (Sg × List IOp) := [(.seq, [⟨some 20, .load none, [.tmp 2], none, true, 0, 0⟩, ⟨some 21, .move, [.tmp 3], none, true, 0, 0⟩, ⟨some 22, .move, [.tmp 5], none, true, 0, 0⟩, ⟨some 23, .bin .add, [.tmp 22, .val (.int .i64 1)], none, true, 0, 0⟩, ⟨some 24, .build [.int .u8 0, .int .i64 0] [(0, 1), (1, 1)], [.tmp 21, .tmp 23], none, true, 0, 0⟩, ⟨some 25, .move, [.tmp 6], none, true, 0, 0⟩, ⟨some 26, .call, [.tmp 20, .tmp 24, .tmp 25], none, true, 0, 0⟩, ⟨some 27, .un .not, [.tmp 26], none, true, 0, 0⟩])]
def F34o8 : IC := .ops F34p8
def F34p9 : List (Sg × List IOp) := [(.seq, [⟨some 28, .bin .add, [.tmp 13, .val (.int .i64 1)], none, true, 0, 0⟩, ⟨some 13, .move, [.tmp 28], none, true, 0, 0⟩])]
def F34o9 : IC := .ops F34p9
def F34l10 : IC := .seq (F34o5) (.seq (.cond (.tmp 14) (.skip) (.exit 2)) (.seq (.block 3 (.seq (F34o6) (.seq (.seq (F34o7) (.cond (.tmp 19) (.exit 2) (.skip))) (.seq (F34o8) (.cond (.tmp 27) (.ret) (.skip)))))) (F34o9)))
def F34b : IC := .seq (F34o0) (.seq (F34o1) (.block 0 (.rfn (.tmp 8) [9, 10] (.seq (F34o2) (F34o3)) (.block 1 (.seq (F34o4) (.block 2 (.loop F34l10)))))))
def F34 : IFn := ⟨29, [], F34b⟩
/- 35: slices.Index[[]gansey/api.Id,gansey/api.Id] -/
def F35p0 : List (Sg × List IOp) := [(.seq, [⟨some 3, .box 28 2, [.tmp 1], none, true, 0, 0⟩, ⟨some 4, .move, [.val (.int .i64 0)], none, true, 0, 0⟩])]
def F35o0 : IC := .ops F35p0
def F35p1 : List (Sg × List IOp) := [(.seq, [⟨some 6, .move, [.tmp 0], none, true, 0, 0⟩, ⟨some 7, .lenSl, [.tmp 6], none, true, 0, 0⟩, ⟨some 8, .move, [.val (.int .i64 0)], none, true, 0, 0⟩])]
def F35o1 : IC := .ops F35p1
def F35p2 : List (Sg × List IOp) := [(.seq, [⟨some 9, .bin .lss, [.tmp 8, .tmp 7], none, true, 0, 0⟩])]
def F35o2 : IC := .ops F35p2
def F35p3 : List (Sg × List IOp) := [(.seq, [⟨some 10, .move, [.tmp 8], none, true, 0, 0⟩, ⟨some 5, .move, [.tmp 10], none, true, 0, 0⟩])]
def F35o3 : IC := .ops F35p3
def F35p4 : List (Sg × List IOp) := [(.free, [⟨some 11, .load (some 2), [.tmp 3], none, false, 0, 0⟩, ⟨some 12, .move, [.tmp 0], none, false, 1, 0⟩, ⟨some 13, .move, [.tmp 5], none, false, 2, 0⟩, ⟨some 14, .idxSl 2, [.tmp 12, .tmp 13], none, false, 3, 6⟩, ⟨some 15, .load (some 2), [.tmp 14], none, false, 4, 14⟩]), (.seq, [⟨some 16, .eqFlat false [.int, .int], [.tmp 11, .tmp 15], none, true, 5, 31⟩])]
def F35o4 : IC := .ops F35p4
def F35p5 : List (Sg × List IOp) := [(.seq, [⟨some 17, .move, [.tmp 5], none, true, 0, 0⟩, ⟨some 4, .move, [.tmp 17], none, true, 0, 0⟩])]
def F35o5 : IC := .ops F35p5
def F35p6 : List (Sg × List IOp) := [(.seq, [⟨some 18, .bin .add, [.tmp 8, .val (.int .i64 1)], none, true, 0, 0⟩, ⟨some 8, .move, [.tmp 18], none, true, 0, 0⟩])]
def F35o6 : IC := .ops F35p6
def F35l7 : IC := .seq (F35o2) (.seq (.cond (.tmp 9) (.skip) (.exit 0)) (.seq (.block 1 (.seq (F35o3) (.seq (F35o4) (.cond (.tmp 16) (.seq (F35o5) (.ret)) (.skip))))) (F35o6)))
def F35p8 : List (Sg × List IOp) := [(.seq, [⟨some 4, .move, [.val (.int .i64 (-1))], none, true, 0, 0⟩])]
def F35o8 : IC := .ops F35p8
def F35b : IC := .seq (F35o0) (.seq (.seq (F35o1) (.block 0 (.loop F35l7))) (.seq (F35o8) (.ret)))
def F35 : IFn := ⟨19, [(4, none)], F35b⟩
/- 36: gansey/stacks.put -/
def F36p0 : List (Sg × List IOp) := [(.seq, [⟨some 6, .move, [.val (.nilSlice)], none, true, 0, 0⟩])]
def F36o0 : IC := .ops F36p0
def F36p1 : List (Sg × List IOp) := [(.seq, [⟨some 10, .move, [.tmp 0], none, true, 0, 0⟩, ⟨some 11, .lenSl, [.tmp 10], none, true, 0, 0⟩, ⟨some 12, .move, [.tmp 1], none, true, 0, 0⟩, ⟨some 13, .max, [.tmp 11, .tmp 12], none, true, 0, 0⟩, ⟨some 14, .mksl 29 1 24 [.nilSlice], [.tmp 13, .tmp 13], none, true, 0, 0⟩, ⟨some 7, .move, [.tmp 14], none, true, 0, 0⟩])]
def F36o1 : IC := .ops F36p1
def F36p2 : List (Sg × List IOp) := [(.seq, [⟨some 15, .move, [.tmp 7], none, true, 0, 0⟩, ⟨some 16, .move, [.tmp 0], none, true, 0, 0⟩, ⟨some 17, .copy 1, [.tmp 15, .tmp 16], none, true, 0, 0⟩])]
def F36o2 : IC := .ops F36p2
def F36p3 : List (Sg × List IOp) := [(.seq, [⟨some 18, .move, [.tmp 1], none, true, 0, 0⟩, ⟨some 19, .bin .gtr, [.tmp 18, .val (.int .i64 0)], none, true, 0, 0⟩])]
def F36o3 : IC := .ops F36p3
def F36p4 : List (Sg × List IOp) := [(.seq, [⟨some 20, .move, [.tmp 7], none, true, 0, 0⟩, ⟨some 21, .move, [.tmp 1], none, true, 0, 0⟩, ⟨some 22, .bin .sub, [.tmp 21, .val (.int .i64 1)], none, true, 0, 0⟩, ⟨some 23, .move, [.tmp 2], none, true, 0, 0⟩, ⟨some 24, .idxSl 1, [.tmp 20, .tmp 22], none, true, 0, 0⟩, ⟨none, .store 1, [.tmp 24, .tmp 23], none, true, 0, 0⟩])]
def F36o4 : IC := .ops F36p4
def F36p5 : List (Sg × List IOp) := [(.seq, [⟨some 25, .move, [.tmp 7], none, true, 0, 0⟩, ⟨some 26, .move, [.tmp 7], none, true, 0, 0⟩, ⟨some 27, .call, [.val (.fn 31 [] []), .tmp 26], none, true, 0, 0⟩, ⟨some 28, .slc 1 false true false, [.tmp 25, .tmp 27], none, true, 0, 0⟩, ⟨some 29, .call, [.val (.fn 37 [] []), .tmp 28], none, true, 0, 0⟩, ⟨some 7, .move, [.tmp 29], none, true, 0, 0⟩])]
def F36o5 : IC := .ops F36p5
def F36p6 : List (Sg × List IOp) := [(.seq, [⟨some 30, .move, [.tmp 7], none, true, 0, 0⟩, ⟨some 31, .lenSl, [.tmp 30], none, true, 0, 0⟩, ⟨some 32, .move, [.val (.int .i64 0)], none, true, 0, 0⟩])]
def F36o6 : IC := .ops F36p6
def F36p7 : List (Sg × List IOp) := [(.seq, [⟨some 33, .bin .lss, [.tmp 32, .tmp 31], none, true, 0, 0⟩])]
def F36o7 : IC := .ops F36p7
def F36p8 : List (Sg × List IOp) := [(.seq, [⟨some 34, .move, [.tmp 32], none, true, 0, 0⟩, ⟨some 35, .idxSl 1, [.tmp 30, .tmp 32], none, true, 0, 0⟩, ⟨some 36, .load none, [.tmp 35], none, true, 0, 0⟩, ⟨some 8, .move, [.tmp 34], none, true, 0, 0⟩, ⟨some 9, .move, [.tmp 36], none, true, 0, 0⟩])]
def F36o8 : IC := .ops F36p8
def F36p9 : List (Sg × List IOp) := [(.seq, [⟨some 37, .move, [.tmp 7], none, true, 0, 0⟩, ⟨some 38, .move, [.tmp 8], none, true, 0, 0⟩, ⟨some 39, .move, [.tmp 9], none, true, 0, 0⟩, ⟨some 40, .call, [.val (.fn 25 [] []), .tmp 39], none, true, 0, 0⟩, ⟨some 41, .idxSl 1, [.tmp 37, .tmp 38], none, true, 0, 0⟩, ⟨none, .store 1, [.tmp 41, .tmp 40], none, true, 0, 0⟩])]
def F36o9 : IC := .ops F36p9
def F36p10 : List (Sg × List IOp) := [(.seq, [⟨some 42, .bin .add, [.tmp 32, .val (.int .i64 1)], none, true, 0, 0⟩, ⟨some 32, .move, [.tmp 42], none, true, 0, 0⟩])]
def F36o10 : IC := .ops F36p10
def F36l11 : IC := .seq (F36o7) (.seq (.cond (.tmp 33) (.skip) (.exit 0)) (.seq (.block 1 (.seq (F36o8) (F36o9))) (F36o10)))
def F36p12 : List (Sg × List IOp) := [(.seq, [⟨some 43, .move, [.tmp 7], none, true, 0, 0⟩, ⟨some 6, .move, [.tmp 43], none, true, 0, 0⟩])]
def F36o12 : IC := .ops F36p12
def F36b : IC := .seq (F36o0) (.seq (F36o1) (.seq (F36o2) (.seq (.seq (F36o3) (.cond (.tmp 19) (F36o4) (.skip))) (.seq (F36o5) (.seq (.seq (F36o6) (.block 0 (.loop F36l11))) (.seq (F36o12) (.ret)))))))
def F36 : IFn := ⟨44, [(6, none)], F36b⟩
/- 37: gansey/stacks.copied[[]gansey/api.Id] -/
def F37p0 : List (Sg × List IOp) := [(.seq, [⟨some 2, .move, [.val (.nilSlice)], none, true, 0, 0⟩])]
def F37o0 : IC := .ops F37p0
def F37p1 : List (Sg × List IOp) := [(.seq, [⟨some 4, .move, [.tmp 0], none, true, 0, 0⟩, ⟨some 5, .lenSl, [.tmp 4], none, true, 0, 0⟩, ⟨some 6, .mksl 29 1 24 [.nilSlice], [.tmp 5, .tmp 5], none, true, 0, 0⟩, ⟨some 3, .move, [.tmp 6], none, true, 0, 0⟩])]
def F37o1 : IC := .ops F37p1
def F37p2 : List (Sg × List IOp) := [(.seq, [⟨some 7, .move, [.tmp 3], none, true, 0, 0⟩, ⟨some 8, .move, [.tmp 0], none, true, 0, 0⟩, ⟨some 9, .copy 1, [.tmp 7, .tmp 8], none, true, 0, 0⟩])]
def F37o2 : IC := .ops F37p2
def F37p3 : List (Sg × List IOp) := [(.seq, [⟨some 10, .move, [.tmp 3], none, true, 0, 0⟩, ⟨some 2, .move, [.tmp 10], none, true, 0, 0⟩])]
def F37o3 : IC := .ops F37p3
def F37b : IC := .seq (F37o0) (.seq (F37o1) (.seq (F37o2) (.seq (F37o3) (.ret))))
def F37 : IFn := ⟨11, [(2, none)], F37b⟩

def fnT : Tr IFn := .node (none) (.node (none) (.node (some F3) (.node (some F7) (.node (some F15) (.node (some F31) (.leaf) (.leaf)) (.leaf)) (.node (some F23) (.leaf) (.leaf))) (.node (some F11) (.node (some F19) (.node (some F35) (.leaf) (.leaf)) (.leaf)) (.node (some F27) (.leaf) (.leaf)))) (.node (some F5) (.node (some F9) (.node (some F17) (.node (some F33) (.leaf) (.leaf)) (.leaf)) (.node (some F25) (.leaf) (.leaf))) (.node (some F13) (.node (some F21) (.node (some F37) (.leaf) (.leaf)) (.leaf)) (.node (some F29) (.leaf) (.leaf))))) (.node (some F2) (.node (some F4) (.node (some F8) (.node (some F16) (.node (some F32) (.leaf) (.leaf)) (.leaf)) (.node (some F24) (.leaf) (.leaf))) (.node (some F12) (.node (some F20) (.node (some F36) (.leaf) (.leaf)) (.leaf)) (.node (some F28) (.leaf) (.leaf)))) (.node (some F6) (.node (some F10) (.node (some F18) (.node (some F34) (.leaf) (.leaf)) (.leaf)) (.node (some F26) (.leaf) (.leaf))) (.node (some F14) (.node (some F22) (.leaf) (.leaf)) (.node (some F30) (.leaf) (.leaf)))))
def E0 : Env := { fns := fnT.get, sums := fun f => if f = 16 then some trueSum else none, g0 := 0 }
def En : Env := { fns := fnT.get, sums := fun _ => none, g0 := 0 }
theorem plain : Plain E0 := by
  intro f s hs args lo H v H' h
  have hs' : (if f = 16 then some trueSum else none) = some s := hs
  split at hs'
  · injection hs' with hs'
    subst hs'
    cases args with
    | cons => cases h
    | nil => injection h with h; injection h with h1 h2; subst h1 h2; exact ⟨.refl _ _, fun _ _ => rfl⟩
  · cases hs'
theorem wF2o0 {lo : Nat} {rd : Option Nat} {fr : Fr} {H : Heap} {Q : Out → Heap → Prop} : W E0 lo (.code F2o0 rd fr) H Q = W E0 lo (.segs F2p0 rd fr) H Q := W_ops
theorem wF3o0 {lo : Nat} {rd : Option Nat} {fr : Fr} {H : Heap} {Q : Out → Heap → Prop} : W E0 lo (.code F3o0 rd fr) H Q = W E0 lo (.segs F3p0 rd fr) H Q := W_ops
theorem wF3o1 {lo : Nat} {rd : Option Nat} {fr : Fr} {H : Heap} {Q : Out → Heap → Prop} : W E0 lo (.code F3o1 rd fr) H Q = W E0 lo (.segs F3p1 rd fr) H Q := W_ops
theorem wF3o2 {lo : Nat} {rd : Option Nat} {fr : Fr} {H : Heap} {Q : Out → Heap → Prop} : W E0 lo (.code F3o2 rd fr) H Q = W E0 lo (.segs F3p2 rd fr) H Q := W_ops
theorem wF3o3 {lo : Nat} {rd : Option Nat} {fr : Fr} {H : Heap} {Q : Out → Heap → Prop} : W E0 lo (.code F3o3 rd fr) H Q = W E0 lo (.segs F3p3 rd fr) H Q := W_ops
theorem wF3o4 {lo : Nat} {rd : Option Nat} {fr : Fr} {H : Heap} {Q : Out → Heap → Prop} : W E0 lo (.code F3o4 rd fr) H Q = W E0 lo (.segs F3p4 rd fr) H Q := W_ops
theorem wF3o5 {lo : Nat} {rd : Option Nat} {fr : Fr} {H : Heap} {Q : Out → Heap → Prop} : W E0 lo (.code F3o5 rd fr) H Q = W E0 lo (.segs F3p5 rd fr) H Q := W_ops
theorem wF3o6 {lo : Nat} {rd : Option Nat} {fr : Fr} {H : Heap} {Q : Out → Heap → Prop} : W E0 lo (.code F3o6 rd fr) H Q = W E0 lo (.segs F3p6 rd fr) H Q := W_ops
theorem wF3o7 {lo : Nat} {rd : Option Nat} {fr : Fr} {H : Heap} {Q : Out → Heap → Prop} : W E0 lo (.code F3o7 rd fr) H Q = W E0 lo (.segs F3p7 rd fr) H Q := W_ops
theorem wF3o8 {lo : Nat} {rd : Option Nat} {fr : Fr} {H : Heap} {Q : Out → Heap → Prop} : W E0 lo (.code F3o8 rd fr) H Q = W E0 lo (.segs F3p8 rd fr) H Q := W_ops
theorem wF3o9 {lo : Nat} {rd : Option Nat} {fr : Fr} {H : Heap} {Q : Out → Heap → Prop} : W E0 lo (.code F3o9 rd fr) H Q = W E0 lo (.segs F3p9 rd fr) H Q := W_ops
theorem wF3o10 {lo : Nat} {rd : Option Nat} {fr : Fr} {H : Heap} {Q : Out → Heap → Prop} : W E0 lo (.code F3o10 rd fr) H Q = W E0 lo (.segs F3p10 rd fr) H Q := W_ops
theorem wF3o11 {lo : Nat} {rd : Option Nat} {fr : Fr} {H : Heap} {Q : Out → Heap → Prop} : W E0 lo (.code F3o11 rd fr) H Q = W E0 lo (.segs F3p11 rd fr) H Q := W_ops
theorem wF3o12 {lo : Nat} {rd : Option Nat} {fr : Fr} {H : Heap} {Q : Out → Heap → Prop} : W E0 lo (.code F3o12 rd fr) H Q = W E0 lo (.segs F3p12 rd fr) H Q := W_ops
theorem wF3o13 {lo : Nat} {rd : Option Nat} {fr : Fr} {H : Heap} {Q : Out → Heap → Prop} : W E0 lo (.code F3o13 rd fr) H Q = W E0 lo (.segs F3p13 rd fr) H Q := W_ops
theorem wF3o14 {lo : Nat} {rd : Option Nat} {fr : Fr} {H : Heap} {Q : Out → Heap → Prop} : W E0 lo (.code F3o14 rd fr) H Q = W E0 lo (.segs F3p14 rd fr) H Q := W_ops
theorem wF3o15 {lo : Nat} {rd : Option Nat} {fr : Fr} {H : Heap} {Q : Out → Heap → Prop} : W E0 lo (.code F3o15 rd fr) H Q = W E0 lo (.segs F3p15 rd fr) H Q := W_ops
theorem wF3o16 {lo : Nat} {rd : Option Nat} {fr : Fr} {H : Heap} {Q : Out → Heap → Prop} : W E0 lo (.code F3o16 rd fr) H Q = W E0 lo (.segs F3p16 rd fr) H Q := W_ops
theorem wF3o17 {lo : Nat} {rd : Option Nat} {fr : Fr} {H : Heap} {Q : Out → Heap → Prop} : W E0 lo (.code F3o17 rd fr) H Q = W E0 lo (.segs F3p17 rd fr) H Q := W_ops
theorem wF3o18 {lo : Nat} {rd : Option Nat} {fr : Fr} {H : Heap} {Q : Out → Heap → Prop} : W E0 lo (.code F3o18 rd fr) H Q = W E0 lo (.segs F3p18 rd fr) H Q := W_ops
theorem wF3o19 {lo : Nat} {rd : Option Nat} {fr : Fr} {H : Heap} {Q : Out → Heap → Prop} : W E0 lo (.code F3o19 rd fr) H Q = W E0 lo (.segs F3p19 rd fr) H Q := W_ops
theorem wF3o21 {lo : Nat} {rd : Option Nat} {fr : Fr} {H : Heap} {Q : Out → Heap → Prop} : W E0 lo (.code F3o21 rd fr) H Q = W E0 lo (.segs F3p21 rd fr) H Q := W_ops
theorem wF3o23 {lo : Nat} {rd : Option Nat} {fr : Fr} {H : Heap} {Q : Out → Heap → Prop} : W E0 lo (.code F3o23 rd fr) H Q = W E0 lo (.segs F3p23 rd fr) H Q := W_ops
theorem wF3o24 {lo : Nat} {rd : Option Nat} {fr : Fr} {H : Heap} {Q : Out → Heap → Prop} : W E0 lo (.code F3o24 rd fr) H Q = W E0 lo (.segs F3p24 rd fr) H Q := W_ops
theorem wF3o25 {lo : Nat} {rd : Option Nat} {fr : Fr} {H : Heap} {Q : Out → Heap → Prop} : W E0 lo (.code F3o25 rd fr) H Q = W E0 lo (.segs F3p25 rd fr) H Q := W_ops
theorem wF3o26 {lo : Nat} {rd : Option Nat} {fr : Fr} {H : Heap} {Q : Out → Heap → Prop} : W E0 lo (.code F3o26 rd fr) H Q = W E0 lo (.segs F3p26 rd fr) H Q := W_ops
theorem wF3o27 {lo : Nat} {rd : Option Nat} {fr : Fr} {H : Heap} {Q : Out → Heap → Prop} : W E0 lo (.code F3o27 rd fr) H Q = W E0 lo (.segs F3p27 rd fr) H Q := W_ops
theorem wF4o0 {lo : Nat} {rd : Option Nat} {fr : Fr} {H : Heap} {Q : Out → Heap → Prop} : W E0 lo (.code F4o0 rd fr) H Q = W E0 lo (.segs F4p0 rd fr) H Q := W_ops
theorem wF4o1 {lo : Nat} {rd : Option Nat} {fr : Fr} {H : Heap} {Q : Out → Heap → Prop} : W E0 lo (.code F4o1 rd fr) H Q = W E0 lo (.segs F4p1 rd fr) H Q := W_ops
theorem wF4o2 {lo : Nat} {rd : Option Nat} {fr : Fr} {H : Heap} {Q : Out → Heap → Prop} : W E0 lo (.code F4o2 rd fr) H Q = W E0 lo (.segs F4p2 rd fr) H Q := W_ops
theorem wF4o3 {lo : Nat} {rd : Option Nat} {fr : Fr} {H : Heap} {Q : Out → Heap → Prop} : W E0 lo (.code F4o3 rd fr) H Q = W E0 lo (.segs F4p3 rd fr) H Q := W_ops
theorem wF4o4 {lo : Nat} {rd : Option Nat} {fr : Fr} {H : Heap} {Q : Out → Heap → Prop} : W E0 lo (.code F4o4 rd fr) H Q = W E0 lo (.segs F4p4 rd fr) H Q := W_ops
theorem wF4o5 {lo : Nat} {rd : Option Nat} {fr : Fr} {H : Heap} {Q : Out → Heap → Prop} : W E0 lo (.code F4o5 rd fr) H Q = W E0 lo (.segs F4p5 rd fr) H Q := W_ops
theorem wF4o6 {lo : Nat} {rd : Option Nat} {fr : Fr} {H : Heap} {Q : Out → Heap → Prop} : W E0 lo (.code F4o6 rd fr) H Q = W E0 lo (.segs F4p6 rd fr) H Q := W_ops
theorem wF4o7 {lo : Nat} {rd : Option Nat} {fr : Fr} {H : Heap} {Q : Out → Heap → Prop} : W E0 lo (.code F4o7 rd fr) H Q = W E0 lo (.segs F4p7 rd fr) H Q := W_ops
theorem wF4o8 {lo : Nat} {rd : Option Nat} {fr : Fr} {H : Heap} {Q : Out → Heap → Prop} : W E0 lo (.code F4o8 rd fr) H Q = W E0 lo (.segs F4p8 rd fr) H Q := W_ops
theorem wF4o9 {lo : Nat} {rd : Option Nat} {fr : Fr} {H : Heap} {Q : Out → Heap → Prop} : W E0 lo (.code F4o9 rd fr) H Q = W E0 lo (.segs F4p9 rd fr) H Q := W_ops
theorem wF4o10 {lo : Nat} {rd : Option Nat} {fr : Fr} {H : Heap} {Q : Out → Heap → Prop} : W E0 lo (.code F4o10 rd fr) H Q = W E0 lo (.segs F4p10 rd fr) H Q := W_ops
theorem wF4o11 {lo : Nat} {rd : Option Nat} {fr : Fr} {H : Heap} {Q : Out → Heap → Prop} : W E0 lo (.code F4o11 rd fr) H Q = W E0 lo (.segs F4p11 rd fr) H Q := W_ops
theorem wF4o12 {lo : Nat} {rd : Option Nat} {fr : Fr} {H : Heap} {Q : Out → Heap → Prop} : W E0 lo (.code F4o12 rd fr) H Q = W E0 lo (.segs F4p12 rd fr) H Q := W_ops
theorem wF4o14 {lo : Nat} {rd : Option Nat} {fr : Fr} {H : Heap} {Q : Out → Heap → Prop} : W E0 lo (.code F4o14 rd fr) H Q = W E0 lo (.segs F4p14 rd fr) H Q := W_ops
theorem wF4o15 {lo : Nat} {rd : Option Nat} {fr : Fr} {H : Heap} {Q : Out → Heap → Prop} : W E0 lo (.code F4o15 rd fr) H Q = W E0 lo (.segs F4p15 rd fr) H Q := W_ops
theorem wF4o16 {lo : Nat} {rd : Option Nat} {fr : Fr} {H : Heap} {Q : Out → Heap → Prop} : W E0 lo (.code F4o16 rd fr) H Q = W E0 lo (.segs F4p16 rd fr) H Q := W_ops
theorem wF4o17 {lo : Nat} {rd : Option Nat} {fr : Fr} {H : Heap} {Q : Out → Heap → Prop} : W E0 lo (.code F4o17 rd fr) H Q = W E0 lo (.segs F4p17 rd fr) H Q := W_ops
theorem wF4o18 {lo : Nat} {rd : Option Nat} {fr : Fr} {H : Heap} {Q : Out → Heap → Prop} : W E0 lo (.code F4o18 rd fr) H Q = W E0 lo (.segs F4p18 rd fr) H Q := W_ops
theorem wF4o19 {lo : Nat} {rd : Option Nat} {fr : Fr} {H : Heap} {Q : Out → Heap → Prop} : W E0 lo (.code F4o19 rd fr) H Q = W E0 lo (.segs F4p19 rd fr) H Q := W_ops
theorem wF4o20 {lo : Nat} {rd : Option Nat} {fr : Fr} {H : Heap} {Q : Out → Heap → Prop} : W E0 lo (.code F4o20 rd fr) H Q = W E0 lo (.segs F4p20 rd fr) H Q := W_ops
theorem wF4o22 {lo : Nat} {rd : Option Nat} {fr : Fr} {H : Heap} {Q : Out → Heap → Prop} : W E0 lo (.code F4o22 rd fr) H Q = W E0 lo (.segs F4p22 rd fr) H Q := W_ops
theorem wF4o23 {lo : Nat} {rd : Option Nat} {fr : Fr} {H : Heap} {Q : Out → Heap → Prop} : W E0 lo (.code F4o23 rd fr) H Q = W E0 lo (.segs F4p23 rd fr) H Q := W_ops
theorem wF4o24 {lo : Nat} {rd : Option Nat} {fr : Fr} {H : Heap} {Q : Out → Heap → Prop} : W E0 lo (.code F4o24 rd fr) H Q = W E0 lo (.segs F4p24 rd fr) H Q := W_ops
theorem wF4o25 {lo : Nat} {rd : Option Nat} {fr : Fr} {H : Heap} {Q : Out → Heap → Prop} : W E0 lo (.code F4o25 rd fr) H Q = W E0 lo (.segs F4p25 rd fr) H Q := W_ops
theorem wF4o26 {lo : Nat} {rd : Option Nat} {fr : Fr} {H : Heap} {Q : Out → Heap → Prop} : W E0 lo (.code F4o26 rd fr) H Q = W E0 lo (.segs F4p26 rd fr) H Q := W_ops
theorem wF4o27 {lo : Nat} {rd : Option Nat} {fr : Fr} {H : Heap} {Q : Out → Heap → Prop} : W E0 lo (.code F4o27 rd fr) H Q = W E0 lo (.segs F4p27 rd fr) H Q := W_ops
theorem wF4o28 {lo : Nat} {rd : Option Nat} {fr : Fr} {H : Heap} {Q : Out → Heap → Prop} : W E0 lo (.code F4o28 rd fr) H Q = W E0 lo (.segs F4p28 rd fr) H Q := W_ops
theorem wF4o29 {lo : Nat} {rd : Option Nat} {fr : Fr} {H : Heap} {Q : Out → Heap → Prop} : W E0 lo (.code F4o29 rd fr) H Q = W E0 lo (.segs F4p29 rd fr) H Q := W_ops
theorem wF4o30 {lo : Nat} {rd : Option Nat} {fr : Fr} {H : Heap} {Q : Out → Heap → Prop} : W E0 lo (.code F4o30 rd fr) H Q = W E0 lo (.segs F4p30 rd fr) H Q := W_ops
theorem wF4o32 {lo : Nat} {rd : Option Nat} {fr : Fr} {H : Heap} {Q : Out → Heap → Prop} : W E0 lo (.code F4o32 rd fr) H Q = W E0 lo (.segs F4p32 rd fr) H Q := W_ops
theorem wF4o33 {lo : Nat} {rd : Option Nat} {fr : Fr} {H : Heap} {Q : Out → Heap → Prop} : W E0 lo (.code F4o33 rd fr) H Q = W E0 lo (.segs F4p33 rd fr) H Q := W_ops
theorem wF4o34 {lo : Nat} {rd : Option Nat} {fr : Fr} {H : Heap} {Q : Out → Heap → Prop} : W E0 lo (.code F4o34 rd fr) H Q = W E0 lo (.segs F4p34 rd fr) H Q := W_ops
theorem wF4o35 {lo : Nat} {rd : Option Nat} {fr : Fr} {H : Heap} {Q : Out → Heap → Prop} : W E0 lo (.code F4o35 rd fr) H Q = W E0 lo (.segs F4p35 rd fr) H Q := W_ops
theorem wF4o36 {lo : Nat} {rd : Option Nat} {fr : Fr} {H : Heap} {Q : Out → Heap → Prop} : W E0 lo (.code F4o36 rd fr) H Q = W E0 lo (.segs F4p36 rd fr) H Q := W_ops
theorem wF4o37 {lo : Nat} {rd : Option Nat} {fr : Fr} {H : Heap} {Q : Out → Heap → Prop} : W E0 lo (.code F4o37 rd fr) H Q = W E0 lo (.segs F4p37 rd fr) H Q := W_ops
theorem wF4o38 {lo : Nat} {rd : Option Nat} {fr : Fr} {H : Heap} {Q : Out → Heap → Prop} : W E0 lo (.code F4o38 rd fr) H Q = W E0 lo (.segs F4p38 rd fr) H Q := W_ops
theorem wF4o40 {lo : Nat} {rd : Option Nat} {fr : Fr} {H : Heap} {Q : Out → Heap → Prop} : W E0 lo (.code F4o40 rd fr) H Q = W E0 lo (.segs F4p40 rd fr) H Q := W_ops
theorem wF4o42 {lo : Nat} {rd : Option Nat} {fr : Fr} {H : Heap} {Q : Out → Heap → Prop} : W E0 lo (.code F4o42 rd fr) H Q = W E0 lo (.segs F4p42 rd fr) H Q := W_ops
theorem wF4o44 {lo : Nat} {rd : Option Nat} {fr : Fr} {H : Heap} {Q : Out → Heap → Prop} : W E0 lo (.code F4o44 rd fr) H Q = W E0 lo (.segs F4p44 rd fr) H Q := W_ops
theorem wF4o45 {lo : Nat} {rd : Option Nat} {fr : Fr} {H : Heap} {Q : Out → Heap → Prop} : W E0 lo (.code F4o45 rd fr) H Q = W E0 lo (.segs F4p45 rd fr) H Q := W_ops
theorem wF4o46 {lo : Nat} {rd : Option Nat} {fr : Fr} {H : Heap} {Q : Out → Heap → Prop} : W E0 lo (.code F4o46 rd fr) H Q = W E0 lo (.segs F4p46 rd fr) H Q := W_ops
theorem wF4o47 {lo : Nat} {rd : Option Nat} {fr : Fr} {H : Heap} {Q : Out → Heap → Prop} : W E0 lo (.code F4o47 rd fr) H Q = W E0 lo (.segs F4p47 rd fr) H Q := W_ops
theorem wF4o48 {lo : Nat} {rd : Option Nat} {fr : Fr} {H : Heap} {Q : Out → Heap → Prop} : W E0 lo (.code F4o48 rd fr) H Q = W E0 lo (.segs F4p48 rd fr) H Q := W_ops
theorem wF4o49 {lo : Nat} {rd : Option Nat} {fr : Fr} {H : Heap} {Q : Out → Heap → Prop} : W E0 lo (.code F4o49 rd fr) H Q = W E0 lo (.segs F4p49 rd fr) H Q := W_ops
theorem wF4o50 {lo : Nat} {rd : Option Nat} {fr : Fr} {H : Heap} {Q : Out → Heap → Prop} : W E0 lo (.code F4o50 rd fr) H Q = W E0 lo (.segs F4p50 rd fr) H Q := W_ops
theorem wF4o51 {lo : Nat} {rd : Option Nat} {fr : Fr} {H : Heap} {Q : Out → Heap → Prop} : W E0 lo (.code F4o51 rd fr) H Q = W E0 lo (.segs F4p51 rd fr) H Q := W_ops
theorem wF4o52 {lo : Nat} {rd : Option Nat} {fr : Fr} {H : Heap} {Q : Out → Heap → Prop} : W E0 lo (.code F4o52 rd fr) H Q = W E0 lo (.segs F4p52 rd fr) H Q := W_ops
theorem wF5o0 {lo : Nat} {rd : Option Nat} {fr : Fr} {H : Heap} {Q : Out → Heap → Prop} : W E0 lo (.code F5o0 rd fr) H Q = W E0 lo (.segs F5p0 rd fr) H Q := W_ops
theorem wF5o1 {lo : Nat} {rd : Option Nat} {fr : Fr} {H : Heap} {Q : Out → Heap → Prop} : W E0 lo (.code F5o1 rd fr) H Q = W E0 lo (.segs F5p1 rd fr) H Q := W_ops
theorem wF5o2 {lo : Nat} {rd : Option Nat} {fr : Fr} {H : Heap} {Q : Out → Heap → Prop} : W E0 lo (.code F5o2 rd fr) H Q = W E0 lo (.segs F5p2 rd fr) H Q := W_ops
theorem wF5o3 {lo : Nat} {rd : Option Nat} {fr : Fr} {H : Heap} {Q : Out → Heap → Prop} : W E0 lo (.code F5o3 rd fr) H Q = W E0 lo (.segs F5p3 rd fr) H Q := W_ops
theorem wF5o4 {lo : Nat} {rd : Option Nat} {fr : Fr} {H : Heap} {Q : Out → Heap → Prop} : W E0 lo (.code F5o4 rd fr) H Q = W E0 lo (.segs F5p4 rd fr) H Q := W_ops
theorem wF5o5 {lo : Nat} {rd : Option Nat} {fr : Fr} {H : Heap} {Q : Out → Heap → Prop} : W E0 lo (.code F5o5 rd fr) H Q = W E0 lo (.segs F5p5 rd fr) H Q := W_ops
theorem wF5o6 {lo : Nat} {rd : Option Nat} {fr : Fr} {H : Heap} {Q : Out → Heap → Prop} : W E0 lo (.code F5o6 rd fr) H Q = W E0 lo (.segs F5p6 rd fr) H Q := W_ops
theorem wF5o7 {lo : Nat} {rd : Option Nat} {fr : Fr} {H : Heap} {Q : Out → Heap → Prop} : W E0 lo (.code F5o7 rd fr) H Q = W E0 lo (.segs F5p7 rd fr) H Q := W_ops
theorem wF5o8 {lo : Nat} {rd : Option Nat} {fr : Fr} {H : Heap} {Q : Out → Heap → Prop} : W E0 lo (.code F5o8 rd fr) H Q = W E0 lo (.segs F5p8 rd fr) H Q := W_ops
theorem wF5o9 {lo : Nat} {rd : Option Nat} {fr : Fr} {H : Heap} {Q : Out → Heap → Prop} : W E0 lo (.code F5o9 rd fr) H Q = W E0 lo (.segs F5p9 rd fr) H Q := W_ops
theorem wF5o10 {lo : Nat} {rd : Option Nat} {fr : Fr} {H : Heap} {Q : Out → Heap → Prop} : W E0 lo (.code F5o10 rd fr) H Q = W E0 lo (.segs F5p10 rd fr) H Q := W_ops
theorem wF5o11 {lo : Nat} {rd : Option Nat} {fr : Fr} {H : Heap} {Q : Out → Heap → Prop} : W E0 lo (.code F5o11 rd fr) H Q = W E0 lo (.segs F5p11 rd fr) H Q := W_ops
theorem wF5o13 {lo : Nat} {rd : Option Nat} {fr : Fr} {H : Heap} {Q : Out → Heap → Prop} : W E0 lo (.code F5o13 rd fr) H Q = W E0 lo (.segs F5p13 rd fr) H Q := W_ops
theorem wF5o14 {lo : Nat} {rd : Option Nat} {fr : Fr} {H : Heap} {Q : Out → Heap → Prop} : W E0 lo (.code F5o14 rd fr) H Q = W E0 lo (.segs F5p14 rd fr) H Q := W_ops
theorem wF5o15 {lo : Nat} {rd : Option Nat} {fr : Fr} {H : Heap} {Q : Out → Heap → Prop} : W E0 lo (.code F5o15 rd fr) H Q = W E0 lo (.segs F5p15 rd fr) H Q := W_ops
theorem wF5o16 {lo : Nat} {rd : Option Nat} {fr : Fr} {H : Heap} {Q : Out → Heap → Prop} : W E0 lo (.code F5o16 rd fr) H Q = W E0 lo (.segs F5p16 rd fr) H Q := W_ops
theorem wF5o17 {lo : Nat} {rd : Option Nat} {fr : Fr} {H : Heap} {Q : Out → Heap → Prop} : W E0 lo (.code F5o17 rd fr) H Q = W E0 lo (.segs F5p17 rd fr) H Q := W_ops
theorem wF5o18 {lo : Nat} {rd : Option Nat} {fr : Fr} {H : Heap} {Q : Out → Heap → Prop} : W E0 lo (.code F5o18 rd fr) H Q = W E0 lo (.segs F5p18 rd fr) H Q := W_ops
theorem wF5o19 {lo : Nat} {rd : Option Nat} {fr : Fr} {H : Heap} {Q : Out → Heap → Prop} : W E0 lo (.code F5o19 rd fr) H Q = W E0 lo (.segs F5p19 rd fr) H Q := W_ops
theorem wF5o20 {lo : Nat} {rd : Option Nat} {fr : Fr} {H : Heap} {Q : Out → Heap → Prop} : W E0 lo (.code F5o20 rd fr) H Q = W E0 lo (.segs F5p20 rd fr) H Q := W_ops
theorem wF5o21 {lo : Nat} {rd : Option Nat} {fr : Fr} {H : Heap} {Q : Out → Heap → Prop} : W E0 lo (.code F5o21 rd fr) H Q = W E0 lo (.segs F5p21 rd fr) H Q := W_ops
theorem wF5o22 {lo : Nat} {rd : Option Nat} {fr : Fr} {H : Heap} {Q : Out → Heap → Prop} : W E0 lo (.code F5o22 rd fr) H Q = W E0 lo (.segs F5p22 rd fr) H Q := W_ops
theorem wF5o23 {lo : Nat} {rd : Option Nat} {fr : Fr} {H : Heap} {Q : Out → Heap → Prop} : W E0 lo (.code F5o23 rd fr) H Q = W E0 lo (.segs F5p23 rd fr) H Q := W_ops
theorem wF5o24 {lo : Nat} {rd : Option Nat} {fr : Fr} {H : Heap} {Q : Out → Heap → Prop} : W E0 lo (.code F5o24 rd fr) H Q = W E0 lo (.segs F5p24 rd fr) H Q := W_ops
theorem wF5o25 {lo : Nat} {rd : Option Nat} {fr : Fr} {H : Heap} {Q : Out → Heap → Prop} : W E0 lo (.code F5o25 rd fr) H Q = W E0 lo (.segs F5p25 rd fr) H Q := W_ops
theorem wF5o26 {lo : Nat} {rd : Option Nat} {fr : Fr} {H : Heap} {Q : Out → Heap → Prop} : W E0 lo (.code F5o26 rd fr) H Q = W E0 lo (.segs F5p26 rd fr) H Q := W_ops
theorem wF5o27 {lo : Nat} {rd : Option Nat} {fr : Fr} {H : Heap} {Q : Out → Heap → Prop} : W E0 lo (.code F5o27 rd fr) H Q = W E0 lo (.segs F5p27 rd fr) H Q := W_ops
theorem wF5o28 {lo : Nat} {rd : Option Nat} {fr : Fr} {H : Heap} {Q : Out → Heap → Prop} : W E0 lo (.code F5o28 rd fr) H Q = W E0 lo (.segs F5p28 rd fr) H Q := W_ops
theorem wF5o29 {lo : Nat} {rd : Option Nat} {fr : Fr} {H : Heap} {Q : Out → Heap → Prop} : W E0 lo (.code F5o29 rd fr) H Q = W E0 lo (.segs F5p29 rd fr) H Q := W_ops
theorem wF5o30 {lo : Nat} {rd : Option Nat} {fr : Fr} {H : Heap} {Q : Out → Heap → Prop} : W E0 lo (.code F5o30 rd fr) H Q = W E0 lo (.segs F5p30 rd fr) H Q := W_ops
theorem wF5o31 {lo : Nat} {rd : Option Nat} {fr : Fr} {H : Heap} {Q : Out → Heap → Prop} : W E0 lo (.code F5o31 rd fr) H Q = W E0 lo (.segs F5p31 rd fr) H Q := W_ops
theorem wF5o32 {lo : Nat} {rd : Option Nat} {fr : Fr} {H : Heap} {Q : Out → Heap → Prop} : W E0 lo (.code F5o32 rd fr) H Q = W E0 lo (.segs F5p32 rd fr) H Q := W_ops
theorem wF5o33 {lo : Nat} {rd : Option Nat} {fr : Fr} {H : Heap} {Q : Out → Heap → Prop} : W E0 lo (.code F5o33 rd fr) H Q = W E0 lo (.segs F5p33 rd fr) H Q := W_ops
theorem wF5o34 {lo : Nat} {rd : Option Nat} {fr : Fr} {H : Heap} {Q : Out → Heap → Prop} : W E0 lo (.code F5o34 rd fr) H Q = W E0 lo (.segs F5p34 rd fr) H Q := W_ops
theorem wF5o35 {lo : Nat} {rd : Option Nat} {fr : Fr} {H : Heap} {Q : Out → Heap → Prop} : W E0 lo (.code F5o35 rd fr) H Q = W E0 lo (.segs F5p35 rd fr) H Q := W_ops
theorem wF6o0 {lo : Nat} {rd : Option Nat} {fr : Fr} {H : Heap} {Q : Out → Heap → Prop} : W E0 lo (.code F6o0 rd fr) H Q = W E0 lo (.segs F6p0 rd fr) H Q := W_ops
theorem wF6o1 {lo : Nat} {rd : Option Nat} {fr : Fr} {H : Heap} {Q : Out → Heap → Prop} : W E0 lo (.code F6o1 rd fr) H Q = W E0 lo (.segs F6p1 rd fr) H Q := W_ops
theorem wF6o2 {lo : Nat} {rd : Option Nat} {fr : Fr} {H : Heap} {Q : Out → Heap → Prop} : W E0 lo (.code F6o2 rd fr) H Q = W E0 lo (.segs F6p2 rd fr) H Q := W_ops
theorem wF6o3 {lo : Nat} {rd : Option Nat} {fr : Fr} {H : Heap} {Q : Out → Heap → Prop} : W E0 lo (.code F6o3 rd fr) H Q = W E0 lo (.segs F6p3 rd fr) H Q := W_ops
theorem wF6o4 {lo : Nat} {rd : Option Nat} {fr : Fr} {H : Heap} {Q : Out → Heap → Prop} : W E0 lo (.code F6o4 rd fr) H Q = W E0 lo (.segs F6p4 rd fr) H Q := W_ops
theorem wF6o5 {lo : Nat} {rd : Option Nat} {fr : Fr} {H : Heap} {Q : Out → Heap → Prop} : W E0 lo (.code F6o5 rd fr) H Q = W E0 lo (.segs F6p5 rd fr) H Q := W_ops
theorem wF6o6 {lo : Nat} {rd : Option Nat} {fr : Fr} {H : Heap} {Q : Out → Heap → Prop} : W E0 lo (.code F6o6 rd fr) H Q = W E0 lo (.segs F6p6 rd fr) H Q := W_ops
theorem wF6o7 {lo : Nat} {rd : Option Nat} {fr : Fr} {H : Heap} {Q : Out → Heap → Prop} : W E0 lo (.code F6o7 rd fr) H Q = W E0 lo (.segs F6p7 rd fr) H Q := W_ops
theorem wF6o8 {lo : Nat} {rd : Option Nat} {fr : Fr} {H : Heap} {Q : Out → Heap → Prop} : W E0 lo (.code F6o8 rd fr) H Q = W E0 lo (.segs F6p8 rd fr) H Q := W_ops
theorem wF6o9 {lo : Nat} {rd : Option Nat} {fr : Fr} {H : Heap} {Q : Out → Heap → Prop} : W E0 lo (.code F6o9 rd fr) H Q = W E0 lo (.segs F6p9 rd fr) H Q := W_ops
theorem wF6o10 {lo : Nat} {rd : Option Nat} {fr : Fr} {H : Heap} {Q : Out → Heap → Prop} : W E0 lo (.code F6o10 rd fr) H Q = W E0 lo (.segs F6p10 rd fr) H Q := W_ops
theorem wF6o11 {lo : Nat} {rd : Option Nat} {fr : Fr} {H : Heap} {Q : Out → Heap → Prop} : W E0 lo (.code F6o11 rd fr) H Q = W E0 lo (.segs F6p11 rd fr) H Q := W_ops
theorem wF6o12 {lo : Nat} {rd : Option Nat} {fr : Fr} {H : Heap} {Q : Out → Heap → Prop} : W E0 lo (.code F6o12 rd fr) H Q = W E0 lo (.segs F6p12 rd fr) H Q := W_ops
theorem wF6o14 {lo : Nat} {rd : Option Nat} {fr : Fr} {H : Heap} {Q : Out → Heap → Prop} : W E0 lo (.code F6o14 rd fr) H Q = W E0 lo (.segs F6p14 rd fr) H Q := W_ops
theorem wF6o15 {lo : Nat} {rd : Option Nat} {fr : Fr} {H : Heap} {Q : Out → Heap → Prop} : W E0 lo (.code F6o15 rd fr) H Q = W E0 lo (.segs F6p15 rd fr) H Q := W_ops
theorem wF6o16 {lo : Nat} {rd : Option Nat} {fr : Fr} {H : Heap} {Q : Out → Heap → Prop} : W E0 lo (.code F6o16 rd fr) H Q = W E0 lo (.segs F6p16 rd fr) H Q := W_ops
theorem wF6o17 {lo : Nat} {rd : Option Nat} {fr : Fr} {H : Heap} {Q : Out → Heap → Prop} : W E0 lo (.code F6o17 rd fr) H Q = W E0 lo (.segs F6p17 rd fr) H Q := W_ops
theorem wF6o18 {lo : Nat} {rd : Option Nat} {fr : Fr} {H : Heap} {Q : Out → Heap → Prop} : W E0 lo (.code F6o18 rd fr) H Q = W E0 lo (.segs F6p18 rd fr) H Q := W_ops
theorem wF6o19 {lo : Nat} {rd : Option Nat} {fr : Fr} {H : Heap} {Q : Out → Heap → Prop} : W E0 lo (.code F6o19 rd fr) H Q = W E0 lo (.segs F6p19 rd fr) H Q := W_ops
theorem wF6o21 {lo : Nat} {rd : Option Nat} {fr : Fr} {H : Heap} {Q : Out → Heap → Prop} : W E0 lo (.code F6o21 rd fr) H Q = W E0 lo (.segs F6p21 rd fr) H Q := W_ops
theorem wF7o0 {lo : Nat} {rd : Option Nat} {fr : Fr} {H : Heap} {Q : Out → Heap → Prop} : W E0 lo (.code F7o0 rd fr) H Q = W E0 lo (.segs F7p0 rd fr) H Q := W_ops
theorem wF7o1 {lo : Nat} {rd : Option Nat} {fr : Fr} {H : Heap} {Q : Out → Heap → Prop} : W E0 lo (.code F7o1 rd fr) H Q = W E0 lo (.segs F7p1 rd fr) H Q := W_ops
theorem wF7o2 {lo : Nat} {rd : Option Nat} {fr : Fr} {H : Heap} {Q : Out → Heap → Prop} : W E0 lo (.code F7o2 rd fr) H Q = W E0 lo (.segs F7p2 rd fr) H Q := W_ops
theorem wF7o3 {lo : Nat} {rd : Option Nat} {fr : Fr} {H : Heap} {Q : Out → Heap → Prop} : W E0 lo (.code F7o3 rd fr) H Q = W E0 lo (.segs F7p3 rd fr) H Q := W_ops
theorem wF7o4 {lo : Nat} {rd : Option Nat} {fr : Fr} {H : Heap} {Q : Out → Heap → Prop} : W E0 lo (.code F7o4 rd fr) H Q = W E0 lo (.segs F7p4 rd fr) H Q := W_ops
theorem wF7o5 {lo : Nat} {rd : Option Nat} {fr : Fr} {H : Heap} {Q : Out → Heap → Prop} : W E0 lo (.code F7o5 rd fr) H Q = W E0 lo (.segs F7p5 rd fr) H Q := W_ops
theorem wF7o6 {lo : Nat} {rd : Option Nat} {fr : Fr} {H : Heap} {Q : Out → Heap → Prop} : W E0 lo (.code F7o6 rd fr) H Q = W E0 lo (.segs F7p6 rd fr) H Q := W_ops
theorem wF7o7 {lo : Nat} {rd : Option Nat} {fr : Fr} {H : Heap} {Q : Out → Heap → Prop} : W E0 lo (.code F7o7 rd fr) H Q = W E0 lo (.segs F7p7 rd fr) H Q := W_ops
theorem wF7o8 {lo : Nat} {rd : Option Nat} {fr : Fr} {H : Heap} {Q : Out → Heap → Prop} : W E0 lo (.code F7o8 rd fr) H Q = W E0 lo (.segs F7p8 rd fr) H Q := W_ops
theorem wF7o9 {lo : Nat} {rd : Option Nat} {fr : Fr} {H : Heap} {Q : Out → Heap → Prop} : W E0 lo (.code F7o9 rd fr) H Q = W E0 lo (.segs F7p9 rd fr) H Q := W_ops
theorem wF7o10 {lo : Nat} {rd : Option Nat} {fr : Fr} {H : Heap} {Q : Out → Heap → Prop} : W E0 lo (.code F7o10 rd fr) H Q = W E0 lo (.segs F7p10 rd fr) H Q := W_ops
theorem wF7o11 {lo : Nat} {rd : Option Nat} {fr : Fr} {H : Heap} {Q : Out → Heap → Prop} : W E0 lo (.code F7o11 rd fr) H Q = W E0 lo (.segs F7p11 rd fr) H Q := W_ops
theorem wF7o12 {lo : Nat} {rd : Option Nat} {fr : Fr} {H : Heap} {Q : Out → Heap → Prop} : W E0 lo (.code F7o12 rd fr) H Q = W E0 lo (.segs F7p12 rd fr) H Q := W_ops
theorem wF7o13 {lo : Nat} {rd : Option Nat} {fr : Fr} {H : Heap} {Q : Out → Heap → Prop} : W E0 lo (.code F7o13 rd fr) H Q = W E0 lo (.segs F7p13 rd fr) H Q := W_ops
theorem wF8o0 {lo : Nat} {rd : Option Nat} {fr : Fr} {H : Heap} {Q : Out → Heap → Prop} : W E0 lo (.code F8o0 rd fr) H Q = W E0 lo (.segs F8p0 rd fr) H Q := W_ops
theorem wF8o1 {lo : Nat} {rd : Option Nat} {fr : Fr} {H : Heap} {Q : Out → Heap → Prop} : W E0 lo (.code F8o1 rd fr) H Q = W E0 lo (.segs F8p1 rd fr) H Q := W_ops
theorem wF8o2 {lo : Nat} {rd : Option Nat} {fr : Fr} {H : Heap} {Q : Out → Heap → Prop} : W E0 lo (.code F8o2 rd fr) H Q = W E0 lo (.segs F8p2 rd fr) H Q := W_ops
theorem wF8o3 {lo : Nat} {rd : Option Nat} {fr : Fr} {H : Heap} {Q : Out → Heap → Prop} : W E0 lo (.code F8o3 rd fr) H Q = W E0 lo (.segs F8p3 rd fr) H Q := W_ops
theorem wF8o4 {lo : Nat} {rd : Option Nat} {fr : Fr} {H : Heap} {Q : Out → Heap → Prop} : W E0 lo (.code F8o4 rd fr) H Q = W E0 lo (.segs F8p4 rd fr) H Q := W_ops
theorem wF8o5 {lo : Nat} {rd : Option Nat} {fr : Fr} {H : Heap} {Q : Out → Heap → Prop} : W E0 lo (.code F8o5 rd fr) H Q = W E0 lo (.segs F8p5 rd fr) H Q := W_ops
theorem wF8o6 {lo : Nat} {rd : Option Nat} {fr : Fr} {H : Heap} {Q : Out → Heap → Prop} : W E0 lo (.code F8o6 rd fr) H Q = W E0 lo (.segs F8p6 rd fr) H Q := W_ops
theorem wF8o7 {lo : Nat} {rd : Option Nat} {fr : Fr} {H : Heap} {Q : Out → Heap → Prop} : W E0 lo (.code F8o7 rd fr) H Q = W E0 lo (.segs F8p7 rd fr) H Q := W_ops
theorem wF8o8 {lo : Nat} {rd : Option Nat} {fr : Fr} {H : Heap} {Q : Out → Heap → Prop} : W E0 lo (.code F8o8 rd fr) H Q = W E0 lo (.segs F8p8 rd fr) H Q := W_ops
theorem wF8o9 {lo : Nat} {rd : Option Nat} {fr : Fr} {H : Heap} {Q : Out → Heap → Prop} : W E0 lo (.code F8o9 rd fr) H Q = W E0 lo (.segs F8p9 rd fr) H Q := W_ops
theorem wF8o10 {lo : Nat} {rd : Option Nat} {fr : Fr} {H : Heap} {Q : Out → Heap → Prop} : W E0 lo (.code F8o10 rd fr) H Q = W E0 lo (.segs F8p10 rd fr) H Q := W_ops
theorem wF8o12 {lo : Nat} {rd : Option Nat} {fr : Fr} {H : Heap} {Q : Out → Heap → Prop} : W E0 lo (.code F8o12 rd fr) H Q = W E0 lo (.segs F8p12 rd fr) H Q := W_ops
theorem wF8o14 {lo : Nat} {rd : Option Nat} {fr : Fr} {H : Heap} {Q : Out → Heap → Prop} : W E0 lo (.code F8o14 rd fr) H Q = W E0 lo (.segs F8p14 rd fr) H Q := W_ops
theorem wF9o0 {lo : Nat} {rd : Option Nat} {fr : Fr} {H : Heap} {Q : Out → Heap → Prop} : W E0 lo (.code F9o0 rd fr) H Q = W E0 lo (.segs F9p0 rd fr) H Q := W_ops
theorem wF9o1 {lo : Nat} {rd : Option Nat} {fr : Fr} {H : Heap} {Q : Out → Heap → Prop} : W E0 lo (.code F9o1 rd fr) H Q = W E0 lo (.segs F9p1 rd fr) H Q := W_ops
theorem wF9o2 {lo : Nat} {rd : Option Nat} {fr : Fr} {H : Heap} {Q : Out → Heap → Prop} : W E0 lo (.code F9o2 rd fr) H Q = W E0 lo (.segs F9p2 rd fr) H Q := W_ops
theorem wF9o3 {lo : Nat} {rd : Option Nat} {fr : Fr} {H : Heap} {Q : Out → Heap → Prop} : W E0 lo (.code F9o3 rd fr) H Q = W E0 lo (.segs F9p3 rd fr) H Q := W_ops
theorem wF9o4 {lo : Nat} {rd : Option Nat} {fr : Fr} {H : Heap} {Q : Out → Heap → Prop} : W E0 lo (.code F9o4 rd fr) H Q = W E0 lo (.segs F9p4 rd fr) H Q := W_ops
theorem wF9o5 {lo : Nat} {rd : Option Nat} {fr : Fr} {H : Heap} {Q : Out → Heap → Prop} : W E0 lo (.code F9o5 rd fr) H Q = W E0 lo (.segs F9p5 rd fr) H Q := W_ops
theorem wF9o6 {lo : Nat} {rd : Option Nat} {fr : Fr} {H : Heap} {Q : Out → Heap → Prop} : W E0 lo (.code F9o6 rd fr) H Q = W E0 lo (.segs F9p6 rd fr) H Q := W_ops
theorem wF9o7 {lo : Nat} {rd : Option Nat} {fr : Fr} {H : Heap} {Q : Out → Heap → Prop} : W E0 lo (.code F9o7 rd fr) H Q = W E0 lo (.segs F9p7 rd fr) H Q := W_ops
theorem wF9o8 {lo : Nat} {rd : Option Nat} {fr : Fr} {H : Heap} {Q : Out → Heap → Prop} : W E0 lo (.code F9o8 rd fr) H Q = W E0 lo (.segs F9p8 rd fr) H Q := W_ops
theorem wF9o10 {lo : Nat} {rd : Option Nat} {fr : Fr} {H : Heap} {Q : Out → Heap → Prop} : W E0 lo (.code F9o10 rd fr) H Q = W E0 lo (.segs F9p10 rd fr) H Q := W_ops
theorem wF9o11 {lo : Nat} {rd : Option Nat} {fr : Fr} {H : Heap} {Q : Out → Heap → Prop} : W E0 lo (.code F9o11 rd fr) H Q = W E0 lo (.segs F9p11 rd fr) H Q := W_ops
theorem wF9o12 {lo : Nat} {rd : Option Nat} {fr : Fr} {H : Heap} {Q : Out → Heap → Prop} : W E0 lo (.code F9o12 rd fr) H Q = W E0 lo (.segs F9p12 rd fr) H Q := W_ops
theorem wF9o13 {lo : Nat} {rd : Option Nat} {fr : Fr} {H : Heap} {Q : Out → Heap → Prop} : W E0 lo (.code F9o13 rd fr) H Q = W E0 lo (.segs F9p13 rd fr) H Q := W_ops
theorem wF9o15 {lo : Nat} {rd : Option Nat} {fr : Fr} {H : Heap} {Q : Out → Heap → Prop} : W E0 lo (.code F9o15 rd fr) H Q = W E0 lo (.segs F9p15 rd fr) H Q := W_ops
theorem wF9o16 {lo : Nat} {rd : Option Nat} {fr : Fr} {H : Heap} {Q : Out → Heap → Prop} : W E0 lo (.code F9o16 rd fr) H Q = W E0 lo (.segs F9p16 rd fr) H Q := W_ops
theorem wF9o17 {lo : Nat} {rd : Option Nat} {fr : Fr} {H : Heap} {Q : Out → Heap → Prop} : W E0 lo (.code F9o17 rd fr) H Q = W E0 lo (.segs F9p17 rd fr) H Q := W_ops
theorem wF9o18 {lo : Nat} {rd : Option Nat} {fr : Fr} {H : Heap} {Q : Out → Heap → Prop} : W E0 lo (.code F9o18 rd fr) H Q = W E0 lo (.segs F9p18 rd fr) H Q := W_ops
theorem wF9o20 {lo : Nat} {rd : Option Nat} {fr : Fr} {H : Heap} {Q : Out → Heap → Prop} : W E0 lo (.code F9o20 rd fr) H Q = W E0 lo (.segs F9p20 rd fr) H Q := W_ops
theorem wF10o0 {lo : Nat} {rd : Option Nat} {fr : Fr} {H : Heap} {Q : Out → Heap → Prop} : W E0 lo (.code F10o0 rd fr) H Q = W E0 lo (.segs F10p0 rd fr) H Q := W_ops
theorem wF10o1 {lo : Nat} {rd : Option Nat} {fr : Fr} {H : Heap} {Q : Out → Heap → Prop} : W E0 lo (.code F10o1 rd fr) H Q = W E0 lo (.segs F10p1 rd fr) H Q := W_ops
theorem wF10o2 {lo : Nat} {rd : Option Nat} {fr : Fr} {H : Heap} {Q : Out → Heap → Prop} : W E0 lo (.code F10o2 rd fr) H Q = W E0 lo (.segs F10p2 rd fr) H Q := W_ops
theorem wF10o3 {lo : Nat} {rd : Option Nat} {fr : Fr} {H : Heap} {Q : Out → Heap → Prop} : W E0 lo (.code F10o3 rd fr) H Q = W E0 lo (.segs F10p3 rd fr) H Q := W_ops
theorem wF10o4 {lo : Nat} {rd : Option Nat} {fr : Fr} {H : Heap} {Q : Out → Heap → Prop} : W E0 lo (.code F10o4 rd fr) H Q = W E0 lo (.segs F10p4 rd fr) H Q := W_ops
theorem wF10o5 {lo : Nat} {rd : Option Nat} {fr : Fr} {H : Heap} {Q : Out → Heap → Prop} : W E0 lo (.code F10o5 rd fr) H Q = W E0 lo (.segs F10p5 rd fr) H Q := W_ops
theorem wF10o6 {lo : Nat} {rd : Option Nat} {fr : Fr} {H : Heap} {Q : Out → Heap → Prop} : W E0 lo (.code F10o6 rd fr) H Q = W E0 lo (.segs F10p6 rd fr) H Q := W_ops
theorem wF10o7 {lo : Nat} {rd : Option Nat} {fr : Fr} {H : Heap} {Q : Out → Heap → Prop} : W E0 lo (.code F10o7 rd fr) H Q = W E0 lo (.segs F10p7 rd fr) H Q := W_ops
theorem wF10o8 {lo : Nat} {rd : Option Nat} {fr : Fr} {H : Heap} {Q : Out → Heap → Prop} : W E0 lo (.code F10o8 rd fr) H Q = W E0 lo (.segs F10p8 rd fr) H Q := W_ops
theorem wF10o9 {lo : Nat} {rd : Option Nat} {fr : Fr} {H : Heap} {Q : Out → Heap → Prop} : W E0 lo (.code F10o9 rd fr) H Q = W E0 lo (.segs F10p9 rd fr) H Q := W_ops
theorem wF10o10 {lo : Nat} {rd : Option Nat} {fr : Fr} {H : Heap} {Q : Out → Heap → Prop} : W E0 lo (.code F10o10 rd fr) H Q = W E0 lo (.segs F10p10 rd fr) H Q := W_ops
theorem wF10o12 {lo : Nat} {rd : Option Nat} {fr : Fr} {H : Heap} {Q : Out → Heap → Prop} : W E0 lo (.code F10o12 rd fr) H Q = W E0 lo (.segs F10p12 rd fr) H Q := W_ops
theorem wF10o13 {lo : Nat} {rd : Option Nat} {fr : Fr} {H : Heap} {Q : Out → Heap → Prop} : W E0 lo (.code F10o13 rd fr) H Q = W E0 lo (.segs F10p13 rd fr) H Q := W_ops
theorem wF10o14 {lo : Nat} {rd : Option Nat} {fr : Fr} {H : Heap} {Q : Out → Heap → Prop} : W E0 lo (.code F10o14 rd fr) H Q = W E0 lo (.segs F10p14 rd fr) H Q := W_ops
theorem wF10o15 {lo : Nat} {rd : Option Nat} {fr : Fr} {H : Heap} {Q : Out → Heap → Prop} : W E0 lo (.code F10o15 rd fr) H Q = W E0 lo (.segs F10p15 rd fr) H Q := W_ops
theorem wF10o16 {lo : Nat} {rd : Option Nat} {fr : Fr} {H : Heap} {Q : Out → Heap → Prop} : W E0 lo (.code F10o16 rd fr) H Q = W E0 lo (.segs F10p16 rd fr) H Q := W_ops
theorem wF10o17 {lo : Nat} {rd : Option Nat} {fr : Fr} {H : Heap} {Q : Out → Heap → Prop} : W E0 lo (.code F10o17 rd fr) H Q = W E0 lo (.segs F10p17 rd fr) H Q := W_ops
theorem wF10o18 {lo : Nat} {rd : Option Nat} {fr : Fr} {H : Heap} {Q : Out → Heap → Prop} : W E0 lo (.code F10o18 rd fr) H Q = W E0 lo (.segs F10p18 rd fr) H Q := W_ops
theorem wF10o19 {lo : Nat} {rd : Option Nat} {fr : Fr} {H : Heap} {Q : Out → Heap → Prop} : W E0 lo (.code F10o19 rd fr) H Q = W E0 lo (.segs F10p19 rd fr) H Q := W_ops
theorem wF10o20 {lo : Nat} {rd : Option Nat} {fr : Fr} {H : Heap} {Q : Out → Heap → Prop} : W E0 lo (.code F10o20 rd fr) H Q = W E0 lo (.segs F10p20 rd fr) H Q := W_ops
theorem wF10o21 {lo : Nat} {rd : Option Nat} {fr : Fr} {H : Heap} {Q : Out → Heap → Prop} : W E0 lo (.code F10o21 rd fr) H Q = W E0 lo (.segs F10p21 rd fr) H Q := W_ops
theorem wF10o22 {lo : Nat} {rd : Option Nat} {fr : Fr} {H : Heap} {Q : Out → Heap → Prop} : W E0 lo (.code F10o22 rd fr) H Q = W E0 lo (.segs F10p22 rd fr) H Q := W_ops
theorem wF10o24 {lo : Nat} {rd : Option Nat} {fr : Fr} {H : Heap} {Q : Out → Heap → Prop} : W E0 lo (.code F10o24 rd fr) H Q = W E0 lo (.segs F10p24 rd fr) H Q := W_ops
theorem wF10o26 {lo : Nat} {rd : Option Nat} {fr : Fr} {H : Heap} {Q : Out → Heap → Prop} : W E0 lo (.code F10o26 rd fr) H Q = W E0 lo (.segs F10p26 rd fr) H Q := W_ops
theorem wF10o27 {lo : Nat} {rd : Option Nat} {fr : Fr} {H : Heap} {Q : Out → Heap → Prop} : W E0 lo (.code F10o27 rd fr) H Q = W E0 lo (.segs F10p27 rd fr) H Q := W_ops
theorem wF10o28 {lo : Nat} {rd : Option Nat} {fr : Fr} {H : Heap} {Q : Out → Heap → Prop} : W E0 lo (.code F10o28 rd fr) H Q = W E0 lo (.segs F10p28 rd fr) H Q := W_ops
theorem wF10o29 {lo : Nat} {rd : Option Nat} {fr : Fr} {H : Heap} {Q : Out → Heap → Prop} : W E0 lo (.code F10o29 rd fr) H Q = W E0 lo (.segs F10p29 rd fr) H Q := W_ops
theorem wF10o30 {lo : Nat} {rd : Option Nat} {fr : Fr} {H : Heap} {Q : Out → Heap → Prop} : W E0 lo (.code F10o30 rd fr) H Q = W E0 lo (.segs F10p30 rd fr) H Q := W_ops
theorem wF10o31 {lo : Nat} {rd : Option Nat} {fr : Fr} {H : Heap} {Q : Out → Heap → Prop} : W E0 lo (.code F10o31 rd fr) H Q = W E0 lo (.segs F10p31 rd fr) H Q := W_ops
theorem wF10o32 {lo : Nat} {rd : Option Nat} {fr : Fr} {H : Heap} {Q : Out → Heap → Prop} : W E0 lo (.code F10o32 rd fr) H Q = W E0 lo (.segs F10p32 rd fr) H Q := W_ops
theorem wF10o33 {lo : Nat} {rd : Option Nat} {fr : Fr} {H : Heap} {Q : Out → Heap → Prop} : W E0 lo (.code F10o33 rd fr) H Q = W E0 lo (.segs F10p33 rd fr) H Q := W_ops
theorem wF10o34 {lo : Nat} {rd : Option Nat} {fr : Fr} {H : Heap} {Q : Out → Heap → Prop} : W E0 lo (.code F10o34 rd fr) H Q = W E0 lo (.segs F10p34 rd fr) H Q := W_ops
theorem wF10o35 {lo : Nat} {rd : Option Nat} {fr : Fr} {H : Heap} {Q : Out → Heap → Prop} : W E0 lo (.code F10o35 rd fr) H Q = W E0 lo (.segs F10p35 rd fr) H Q := W_ops
theorem wF10o36 {lo : Nat} {rd : Option Nat} {fr : Fr} {H : Heap} {Q : Out → Heap → Prop} : W E0 lo (.code F10o36 rd fr) H Q = W E0 lo (.segs F10p36 rd fr) H Q := W_ops
theorem wF10o37 {lo : Nat} {rd : Option Nat} {fr : Fr} {H : Heap} {Q : Out → Heap → Prop} : W E0 lo (.code F10o37 rd fr) H Q = W E0 lo (.segs F10p37 rd fr) H Q := W_ops
theorem wF10o38 {lo : Nat} {rd : Option Nat} {fr : Fr} {H : Heap} {Q : Out → Heap → Prop} : W E0 lo (.code F10o38 rd fr) H Q = W E0 lo (.segs F10p38 rd fr) H Q := W_ops
theorem wF10o40 {lo : Nat} {rd : Option Nat} {fr : Fr} {H : Heap} {Q : Out → Heap → Prop} : W E0 lo (.code F10o40 rd fr) H Q = W E0 lo (.segs F10p40 rd fr) H Q := W_ops
theorem wF10o42 {lo : Nat} {rd : Option Nat} {fr : Fr} {H : Heap} {Q : Out → Heap → Prop} : W E0 lo (.code F10o42 rd fr) H Q = W E0 lo (.segs F10p42 rd fr) H Q := W_ops
theorem wF11o0 {lo : Nat} {rd : Option Nat} {fr : Fr} {H : Heap} {Q : Out → Heap → Prop} : W E0 lo (.code F11o0 rd fr) H Q = W E0 lo (.segs F11p0 rd fr) H Q := W_ops
theorem wF11o1 {lo : Nat} {rd : Option Nat} {fr : Fr} {H : Heap} {Q : Out → Heap → Prop} : W E0 lo (.code F11o1 rd fr) H Q = W E0 lo (.segs F11p1 rd fr) H Q := W_ops
theorem wF11o2 {lo : Nat} {rd : Option Nat} {fr : Fr} {H : Heap} {Q : Out → Heap → Prop} : W E0 lo (.code F11o2 rd fr) H Q = W E0 lo (.segs F11p2 rd fr) H Q := W_ops
theorem wF11o3 {lo : Nat} {rd : Option Nat} {fr : Fr} {H : Heap} {Q : Out → Heap → Prop} : W E0 lo (.code F11o3 rd fr) H Q = W E0 lo (.segs F11p3 rd fr) H Q := W_ops
theorem wF11o4 {lo : Nat} {rd : Option Nat} {fr : Fr} {H : Heap} {Q : Out → Heap → Prop} : W E0 lo (.code F11o4 rd fr) H Q = W E0 lo (.segs F11p4 rd fr) H Q := W_ops
theorem wF11o5 {lo : Nat} {rd : Option Nat} {fr : Fr} {H : Heap} {Q : Out → Heap → Prop} : W E0 lo (.code F11o5 rd fr) H Q = W E0 lo (.segs F11p5 rd fr) H Q := W_ops
theorem wF11o6 {lo : Nat} {rd : Option Nat} {fr : Fr} {H : Heap} {Q : Out → Heap → Prop} : W E0 lo (.code F11o6 rd fr) H Q = W E0 lo (.segs F11p6 rd fr) H Q := W_ops
theorem wF11o8 {lo : Nat} {rd : Option Nat} {fr : Fr} {H : Heap} {Q : Out → Heap → Prop} : W E0 lo (.code F11o8 rd fr) H Q = W E0 lo (.segs F11p8 rd fr) H Q := W_ops
theorem wF11o9 {lo : Nat} {rd : Option Nat} {fr : Fr} {H : Heap} {Q : Out → Heap → Prop} : W E0 lo (.code F11o9 rd fr) H Q = W E0 lo (.segs F11p9 rd fr) H Q := W_ops
theorem wF11o10 {lo : Nat} {rd : Option Nat} {fr : Fr} {H : Heap} {Q : Out → Heap → Prop} : W E0 lo (.code F11o10 rd fr) H Q = W E0 lo (.segs F11p10 rd fr) H Q := W_ops
theorem wF11o11 {lo : Nat} {rd : Option Nat} {fr : Fr} {H : Heap} {Q : Out → Heap → Prop} : W E0 lo (.code F11o11 rd fr) H Q = W E0 lo (.segs F11p11 rd fr) H Q := W_ops
theorem wF11o12 {lo : Nat} {rd : Option Nat} {fr : Fr} {H : Heap} {Q : Out → Heap → Prop} : W E0 lo (.code F11o12 rd fr) H Q = W E0 lo (.segs F11p12 rd fr) H Q := W_ops
theorem wF11o13 {lo : Nat} {rd : Option Nat} {fr : Fr} {H : Heap} {Q : Out → Heap → Prop} : W E0 lo (.code F11o13 rd fr) H Q = W E0 lo (.segs F11p13 rd fr) H Q := W_ops
theorem wF11o14 {lo : Nat} {rd : Option Nat} {fr : Fr} {H : Heap} {Q : Out → Heap → Prop} : W E0 lo (.code F11o14 rd fr) H Q = W E0 lo (.segs F11p14 rd fr) H Q := W_ops
theorem wF12o0 {lo : Nat} {rd : Option Nat} {fr : Fr} {H : Heap} {Q : Out → Heap → Prop} : W E0 lo (.code F12o0 rd fr) H Q = W E0 lo (.segs F12p0 rd fr) H Q := W_ops
theorem wF12o1 {lo : Nat} {rd : Option Nat} {fr : Fr} {H : Heap} {Q : Out → Heap → Prop} : W E0 lo (.code F12o1 rd fr) H Q = W E0 lo (.segs F12p1 rd fr) H Q := W_ops
theorem wF12o2 {lo : Nat} {rd : Option Nat} {fr : Fr} {H : Heap} {Q : Out → Heap → Prop} : W E0 lo (.code F12o2 rd fr) H Q = W E0 lo (.segs F12p2 rd fr) H Q := W_ops
theorem wF12o3 {lo : Nat} {rd : Option Nat} {fr : Fr} {H : Heap} {Q : Out → Heap → Prop} : W E0 lo (.code F12o3 rd fr) H Q = W E0 lo (.segs F12p3 rd fr) H Q := W_ops
theorem wF12o4 {lo : Nat} {rd : Option Nat} {fr : Fr} {H : Heap} {Q : Out → Heap → Prop} : W E0 lo (.code F12o4 rd fr) H Q = W E0 lo (.segs F12p4 rd fr) H Q := W_ops
theorem wF12o5 {lo : Nat} {rd : Option Nat} {fr : Fr} {H : Heap} {Q : Out → Heap → Prop} : W E0 lo (.code F12o5 rd fr) H Q = W E0 lo (.segs F12p5 rd fr) H Q := W_ops
theorem wF12o6 {lo : Nat} {rd : Option Nat} {fr : Fr} {H : Heap} {Q : Out → Heap → Prop} : W E0 lo (.code F12o6 rd fr) H Q = W E0 lo (.segs F12p6 rd fr) H Q := W_ops
theorem wF12o7 {lo : Nat} {rd : Option Nat} {fr : Fr} {H : Heap} {Q : Out → Heap → Prop} : W E0 lo (.code F12o7 rd fr) H Q = W E0 lo (.segs F12p7 rd fr) H Q := W_ops
theorem wF12o8 {lo : Nat} {rd : Option Nat} {fr : Fr} {H : Heap} {Q : Out → Heap → Prop} : W E0 lo (.code F12o8 rd fr) H Q = W E0 lo (.segs F12p8 rd fr) H Q := W_ops
theorem wF13o0 {lo : Nat} {rd : Option Nat} {fr : Fr} {H : Heap} {Q : Out → Heap → Prop} : W E0 lo (.code F13o0 rd fr) H Q = W E0 lo (.segs F13p0 rd fr) H Q := W_ops
theorem wF13o1 {lo : Nat} {rd : Option Nat} {fr : Fr} {H : Heap} {Q : Out → Heap → Prop} : W E0 lo (.code F13o1 rd fr) H Q = W E0 lo (.segs F13p1 rd fr) H Q := W_ops
theorem wF14o0 {lo : Nat} {rd : Option Nat} {fr : Fr} {H : Heap} {Q : Out → Heap → Prop} : W E0 lo (.code F14o0 rd fr) H Q = W E0 lo (.segs F14p0 rd fr) H Q := W_ops
theorem wF14o1 {lo : Nat} {rd : Option Nat} {fr : Fr} {H : Heap} {Q : Out → Heap → Prop} : W E0 lo (.code F14o1 rd fr) H Q = W E0 lo (.segs F14p1 rd fr) H Q := W_ops
theorem wF14o2 {lo : Nat} {rd : Option Nat} {fr : Fr} {H : Heap} {Q : Out → Heap → Prop} : W E0 lo (.code F14o2 rd fr) H Q = W E0 lo (.segs F14p2 rd fr) H Q := W_ops
theorem wF14o3 {lo : Nat} {rd : Option Nat} {fr : Fr} {H : Heap} {Q : Out → Heap → Prop} : W E0 lo (.code F14o3 rd fr) H Q = W E0 lo (.segs F14p3 rd fr) H Q := W_ops
theorem wF14o4 {lo : Nat} {rd : Option Nat} {fr : Fr} {H : Heap} {Q : Out → Heap → Prop} : W E0 lo (.code F14o4 rd fr) H Q = W E0 lo (.segs F14p4 rd fr) H Q := W_ops
theorem wF14o5 {lo : Nat} {rd : Option Nat} {fr : Fr} {H : Heap} {Q : Out → Heap → Prop} : W E0 lo (.code F14o5 rd fr) H Q = W E0 lo (.segs F14p5 rd fr) H Q := W_ops
theorem wF14o6 {lo : Nat} {rd : Option Nat} {fr : Fr} {H : Heap} {Q : Out → Heap → Prop} : W E0 lo (.code F14o6 rd fr) H Q = W E0 lo (.segs F14p6 rd fr) H Q := W_ops
theorem wF15o0 {lo : Nat} {rd : Option Nat} {fr : Fr} {H : Heap} {Q : Out → Heap → Prop} : W E0 lo (.code F15o0 rd fr) H Q = W E0 lo (.segs F15p0 rd fr) H Q := W_ops
theorem wF15o1 {lo : Nat} {rd : Option Nat} {fr : Fr} {H : Heap} {Q : Out → Heap → Prop} : W E0 lo (.code F15o1 rd fr) H Q = W E0 lo (.segs F15p1 rd fr) H Q := W_ops
theorem wF15o2 {lo : Nat} {rd : Option Nat} {fr : Fr} {H : Heap} {Q : Out → Heap → Prop} : W E0 lo (.code F15o2 rd fr) H Q = W E0 lo (.segs F15p2 rd fr) H Q := W_ops
theorem wF15o3 {lo : Nat} {rd : Option Nat} {fr : Fr} {H : Heap} {Q : Out → Heap → Prop} : W E0 lo (.code F15o3 rd fr) H Q = W E0 lo (.segs F15p3 rd fr) H Q := W_ops
theorem wF15o4 {lo : Nat} {rd : Option Nat} {fr : Fr} {H : Heap} {Q : Out → Heap → Prop} : W E0 lo (.code F15o4 rd fr) H Q = W E0 lo (.segs F15p4 rd fr) H Q := W_ops
theorem wF15o5 {lo : Nat} {rd : Option Nat} {fr : Fr} {H : Heap} {Q : Out → Heap → Prop} : W E0 lo (.code F15o5 rd fr) H Q = W E0 lo (.segs F15p5 rd fr) H Q := W_ops
theorem wF16o0 {lo : Nat} {rd : Option Nat} {fr : Fr} {H : Heap} {Q : Out → Heap → Prop} : W E0 lo (.code F16o0 rd fr) H Q = W E0 lo (.segs F16p0 rd fr) H Q := W_ops
theorem wF16o1 {lo : Nat} {rd : Option Nat} {fr : Fr} {H : Heap} {Q : Out → Heap → Prop} : W E0 lo (.code F16o1 rd fr) H Q = W E0 lo (.segs F16p1 rd fr) H Q := W_ops
theorem wF16o2 {lo : Nat} {rd : Option Nat} {fr : Fr} {H : Heap} {Q : Out → Heap → Prop} : W E0 lo (.code F16o2 rd fr) H Q = W E0 lo (.segs F16p2 rd fr) H Q := W_ops
theorem wF16o3 {lo : Nat} {rd : Option Nat} {fr : Fr} {H : Heap} {Q : Out → Heap → Prop} : W E0 lo (.code F16o3 rd fr) H Q = W E0 lo (.segs F16p3 rd fr) H Q := W_ops
theorem wF16o4 {lo : Nat} {rd : Option Nat} {fr : Fr} {H : Heap} {Q : Out → Heap → Prop} : W E0 lo (.code F16o4 rd fr) H Q = W E0 lo (.segs F16p4 rd fr) H Q := W_ops
theorem wF16o5 {lo : Nat} {rd : Option Nat} {fr : Fr} {H : Heap} {Q : Out → Heap → Prop} : W E0 lo (.code F16o5 rd fr) H Q = W E0 lo (.segs F16p5 rd fr) H Q := W_ops
theorem wF16o6 {lo : Nat} {rd : Option Nat} {fr : Fr} {H : Heap} {Q : Out → Heap → Prop} : W E0 lo (.code F16o6 rd fr) H Q = W E0 lo (.segs F16p6 rd fr) H Q := W_ops
theorem wF16o7 {lo : Nat} {rd : Option Nat} {fr : Fr} {H : Heap} {Q : Out → Heap → Prop} : W E0 lo (.code F16o7 rd fr) H Q = W E0 lo (.segs F16p7 rd fr) H Q := W_ops
theorem wF16o8 {lo : Nat} {rd : Option Nat} {fr : Fr} {H : Heap} {Q : Out → Heap → Prop} : W E0 lo (.code F16o8 rd fr) H Q = W E0 lo (.segs F16p8 rd fr) H Q := W_ops
theorem wF16o9 {lo : Nat} {rd : Option Nat} {fr : Fr} {H : Heap} {Q : Out → Heap → Prop} : W E0 lo (.code F16o9 rd fr) H Q = W E0 lo (.segs F16p9 rd fr) H Q := W_ops
theorem wF16o10 {lo : Nat} {rd : Option Nat} {fr : Fr} {H : Heap} {Q : Out → Heap → Prop} : W E0 lo (.code F16o10 rd fr) H Q = W E0 lo (.segs F16p10 rd fr) H Q := W_ops
theorem wF16o11 {lo : Nat} {rd : Option Nat} {fr : Fr} {H : Heap} {Q : Out → Heap → Prop} : W E0 lo (.code F16o11 rd fr) H Q = W E0 lo (.segs F16p11 rd fr) H Q := W_ops
theorem wF16o12 {lo : Nat} {rd : Option Nat} {fr : Fr} {H : Heap} {Q : Out → Heap → Prop} : W E0 lo (.code F16o12 rd fr) H Q = W E0 lo (.segs F16p12 rd fr) H Q := W_ops
theorem wF16o13 {lo : Nat} {rd : Option Nat} {fr : Fr} {H : Heap} {Q : Out → Heap → Prop} : W E0 lo (.code F16o13 rd fr) H Q = W E0 lo (.segs F16p13 rd fr) H Q := W_ops
theorem wF16o14 {lo : Nat} {rd : Option Nat} {fr : Fr} {H : Heap} {Q : Out → Heap → Prop} : W E0 lo (.code F16o14 rd fr) H Q = W E0 lo (.segs F16p14 rd fr) H Q := W_ops
theorem wF16o15 {lo : Nat} {rd : Option Nat} {fr : Fr} {H : Heap} {Q : Out → Heap → Prop} : W E0 lo (.code F16o15 rd fr) H Q = W E0 lo (.segs F16p15 rd fr) H Q := W_ops
theorem wF17o0 {lo : Nat} {rd : Option Nat} {fr : Fr} {H : Heap} {Q : Out → Heap → Prop} : W E0 lo (.code F17o0 rd fr) H Q = W E0 lo (.segs F17p0 rd fr) H Q := W_ops
theorem wF17o1 {lo : Nat} {rd : Option Nat} {fr : Fr} {H : Heap} {Q : Out → Heap → Prop} : W E0 lo (.code F17o1 rd fr) H Q = W E0 lo (.segs F17p1 rd fr) H Q := W_ops
theorem wF17o2 {lo : Nat} {rd : Option Nat} {fr : Fr} {H : Heap} {Q : Out → Heap → Prop} : W E0 lo (.code F17o2 rd fr) H Q = W E0 lo (.segs F17p2 rd fr) H Q := W_ops
theorem wF17o3 {lo : Nat} {rd : Option Nat} {fr : Fr} {H : Heap} {Q : Out → Heap → Prop} : W E0 lo (.code F17o3 rd fr) H Q = W E0 lo (.segs F17p3 rd fr) H Q := W_ops
theorem wF17o4 {lo : Nat} {rd : Option Nat} {fr : Fr} {H : Heap} {Q : Out → Heap → Prop} : W E0 lo (.code F17o4 rd fr) H Q = W E0 lo (.segs F17p4 rd fr) H Q := W_ops
theorem wF17o5 {lo : Nat} {rd : Option Nat} {fr : Fr} {H : Heap} {Q : Out → Heap → Prop} : W E0 lo (.code F17o5 rd fr) H Q = W E0 lo (.segs F17p5 rd fr) H Q := W_ops
theorem wF17o6 {lo : Nat} {rd : Option Nat} {fr : Fr} {H : Heap} {Q : Out → Heap → Prop} : W E0 lo (.code F17o6 rd fr) H Q = W E0 lo (.segs F17p6 rd fr) H Q := W_ops
theorem wF17o7 {lo : Nat} {rd : Option Nat} {fr : Fr} {H : Heap} {Q : Out → Heap → Prop} : W E0 lo (.code F17o7 rd fr) H Q = W E0 lo (.segs F17p7 rd fr) H Q := W_ops
theorem wF17o8 {lo : Nat} {rd : Option Nat} {fr : Fr} {H : Heap} {Q : Out → Heap → Prop} : W E0 lo (.code F17o8 rd fr) H Q = W E0 lo (.segs F17p8 rd fr) H Q := W_ops
theorem wF17o9 {lo : Nat} {rd : Option Nat} {fr : Fr} {H : Heap} {Q : Out → Heap → Prop} : W E0 lo (.code F17o9 rd fr) H Q = W E0 lo (.segs F17p9 rd fr) H Q := W_ops
theorem wF17o10 {lo : Nat} {rd : Option Nat} {fr : Fr} {H : Heap} {Q : Out → Heap → Prop} : W E0 lo (.code F17o10 rd fr) H Q = W E0 lo (.segs F17p10 rd fr) H Q := W_ops
theorem wF17o11 {lo : Nat} {rd : Option Nat} {fr : Fr} {H : Heap} {Q : Out → Heap → Prop} : W E0 lo (.code F17o11 rd fr) H Q = W E0 lo (.segs F17p11 rd fr) H Q := W_ops
theorem wF17o13 {lo : Nat} {rd : Option Nat} {fr : Fr} {H : Heap} {Q : Out → Heap → Prop} : W E0 lo (.code F17o13 rd fr) H Q = W E0 lo (.segs F17p13 rd fr) H Q := W_ops
theorem wF17o14 {lo : Nat} {rd : Option Nat} {fr : Fr} {H : Heap} {Q : Out → Heap → Prop} : W E0 lo (.code F17o14 rd fr) H Q = W E0 lo (.segs F17p14 rd fr) H Q := W_ops
theorem wF17o15 {lo : Nat} {rd : Option Nat} {fr : Fr} {H : Heap} {Q : Out → Heap → Prop} : W E0 lo (.code F17o15 rd fr) H Q = W E0 lo (.segs F17p15 rd fr) H Q := W_ops
theorem wF17o16 {lo : Nat} {rd : Option Nat} {fr : Fr} {H : Heap} {Q : Out → Heap → Prop} : W E0 lo (.code F17o16 rd fr) H Q = W E0 lo (.segs F17p16 rd fr) H Q := W_ops
theorem wF17o17 {lo : Nat} {rd : Option Nat} {fr : Fr} {H : Heap} {Q : Out → Heap → Prop} : W E0 lo (.code F17o17 rd fr) H Q = W E0 lo (.segs F17p17 rd fr) H Q := W_ops
theorem wF17o18 {lo : Nat} {rd : Option Nat} {fr : Fr} {H : Heap} {Q : Out → Heap → Prop} : W E0 lo (.code F17o18 rd fr) H Q = W E0 lo (.segs F17p18 rd fr) H Q := W_ops
theorem wF17o19 {lo : Nat} {rd : Option Nat} {fr : Fr} {H : Heap} {Q : Out → Heap → Prop} : W E0 lo (.code F17o19 rd fr) H Q = W E0 lo (.segs F17p19 rd fr) H Q := W_ops
theorem wF17o20 {lo : Nat} {rd : Option Nat} {fr : Fr} {H : Heap} {Q : Out → Heap → Prop} : W E0 lo (.code F17o20 rd fr) H Q = W E0 lo (.segs F17p20 rd fr) H Q := W_ops
theorem wF17o21 {lo : Nat} {rd : Option Nat} {fr : Fr} {H : Heap} {Q : Out → Heap → Prop} : W E0 lo (.code F17o21 rd fr) H Q = W E0 lo (.segs F17p21 rd fr) H Q := W_ops
theorem wF17o22 {lo : Nat} {rd : Option Nat} {fr : Fr} {H : Heap} {Q : Out → Heap → Prop} : W E0 lo (.code F17o22 rd fr) H Q = W E0 lo (.segs F17p22 rd fr) H Q := W_ops
theorem wF17o23 {lo : Nat} {rd : Option Nat} {fr : Fr} {H : Heap} {Q : Out → Heap → Prop} : W E0 lo (.code F17o23 rd fr) H Q = W E0 lo (.segs F17p23 rd fr) H Q := W_ops
theorem wF17o24 {lo : Nat} {rd : Option Nat} {fr : Fr} {H : Heap} {Q : Out → Heap → Prop} : W E0 lo (.code F17o24 rd fr) H Q = W E0 lo (.segs F17p24 rd fr) H Q := W_ops
theorem wF17o26 {lo : Nat} {rd : Option Nat} {fr : Fr} {H : Heap} {Q : Out → Heap → Prop} : W E0 lo (.code F17o26 rd fr) H Q = W E0 lo (.segs F17p26 rd fr) H Q := W_ops
theorem wF17o27 {lo : Nat} {rd : Option Nat} {fr : Fr} {H : Heap} {Q : Out → Heap → Prop} : W E0 lo (.code F17o27 rd fr) H Q = W E0 lo (.segs F17p27 rd fr) H Q := W_ops
theorem wF17o28 {lo : Nat} {rd : Option Nat} {fr : Fr} {H : Heap} {Q : Out → Heap → Prop} : W E0 lo (.code F17o28 rd fr) H Q = W E0 lo (.segs F17p28 rd fr) H Q := W_ops
theorem wF17o29 {lo : Nat} {rd : Option Nat} {fr : Fr} {H : Heap} {Q : Out → Heap → Prop} : W E0 lo (.code F17o29 rd fr) H Q = W E0 lo (.segs F17p29 rd fr) H Q := W_ops
theorem wF17o30 {lo : Nat} {rd : Option Nat} {fr : Fr} {H : Heap} {Q : Out → Heap → Prop} : W E0 lo (.code F17o30 rd fr) H Q = W E0 lo (.segs F17p30 rd fr) H Q := W_ops
theorem wF17o31 {lo : Nat} {rd : Option Nat} {fr : Fr} {H : Heap} {Q : Out → Heap → Prop} : W E0 lo (.code F17o31 rd fr) H Q = W E0 lo (.segs F17p31 rd fr) H Q := W_ops
theorem wF17o32 {lo : Nat} {rd : Option Nat} {fr : Fr} {H : Heap} {Q : Out → Heap → Prop} : W E0 lo (.code F17o32 rd fr) H Q = W E0 lo (.segs F17p32 rd fr) H Q := W_ops
theorem wF17o34 {lo : Nat} {rd : Option Nat} {fr : Fr} {H : Heap} {Q : Out → Heap → Prop} : W E0 lo (.code F17o34 rd fr) H Q = W E0 lo (.segs F17p34 rd fr) H Q := W_ops
theorem wF18o0 {lo : Nat} {rd : Option Nat} {fr : Fr} {H : Heap} {Q : Out → Heap → Prop} : W E0 lo (.code F18o0 rd fr) H Q = W E0 lo (.segs F18p0 rd fr) H Q := W_ops
theorem wF18o1 {lo : Nat} {rd : Option Nat} {fr : Fr} {H : Heap} {Q : Out → Heap → Prop} : W E0 lo (.code F18o1 rd fr) H Q = W E0 lo (.segs F18p1 rd fr) H Q := W_ops
theorem wF18o2 {lo : Nat} {rd : Option Nat} {fr : Fr} {H : Heap} {Q : Out → Heap → Prop} : W E0 lo (.code F18o2 rd fr) H Q = W E0 lo (.segs F18p2 rd fr) H Q := W_ops
theorem wF19o0 {lo : Nat} {rd : Option Nat} {fr : Fr} {H : Heap} {Q : Out → Heap → Prop} : W E0 lo (.code F19o0 rd fr) H Q = W E0 lo (.segs F19p0 rd fr) H Q := W_ops
theorem wF19o1 {lo : Nat} {rd : Option Nat} {fr : Fr} {H : Heap} {Q : Out → Heap → Prop} : W E0 lo (.code F19o1 rd fr) H Q = W E0 lo (.segs F19p1 rd fr) H Q := W_ops
theorem wF19o2 {lo : Nat} {rd : Option Nat} {fr : Fr} {H : Heap} {Q : Out → Heap → Prop} : W E0 lo (.code F19o2 rd fr) H Q = W E0 lo (.segs F19p2 rd fr) H Q := W_ops
theorem wF19o3 {lo : Nat} {rd : Option Nat} {fr : Fr} {H : Heap} {Q : Out → Heap → Prop} : W E0 lo (.code F19o3 rd fr) H Q = W E0 lo (.segs F19p3 rd fr) H Q := W_ops
theorem wF19o4 {lo : Nat} {rd : Option Nat} {fr : Fr} {H : Heap} {Q : Out → Heap → Prop} : W E0 lo (.code F19o4 rd fr) H Q = W E0 lo (.segs F19p4 rd fr) H Q := W_ops
theorem wF19o5 {lo : Nat} {rd : Option Nat} {fr : Fr} {H : Heap} {Q : Out → Heap → Prop} : W E0 lo (.code F19o5 rd fr) H Q = W E0 lo (.segs F19p5 rd fr) H Q := W_ops
theorem wF19o6 {lo : Nat} {rd : Option Nat} {fr : Fr} {H : Heap} {Q : Out → Heap → Prop} : W E0 lo (.code F19o6 rd fr) H Q = W E0 lo (.segs F19p6 rd fr) H Q := W_ops
theorem wF19o7 {lo : Nat} {rd : Option Nat} {fr : Fr} {H : Heap} {Q : Out → Heap → Prop} : W E0 lo (.code F19o7 rd fr) H Q = W E0 lo (.segs F19p7 rd fr) H Q := W_ops
theorem wF19o8 {lo : Nat} {rd : Option Nat} {fr : Fr} {H : Heap} {Q : Out → Heap → Prop} : W E0 lo (.code F19o8 rd fr) H Q = W E0 lo (.segs F19p8 rd fr) H Q := W_ops
theorem wF19o9 {lo : Nat} {rd : Option Nat} {fr : Fr} {H : Heap} {Q : Out → Heap → Prop} : W E0 lo (.code F19o9 rd fr) H Q = W E0 lo (.segs F19p9 rd fr) H Q := W_ops
theorem wF19o10 {lo : Nat} {rd : Option Nat} {fr : Fr} {H : Heap} {Q : Out → Heap → Prop} : W E0 lo (.code F19o10 rd fr) H Q = W E0 lo (.segs F19p10 rd fr) H Q := W_ops
theorem wF19o11 {lo : Nat} {rd : Option Nat} {fr : Fr} {H : Heap} {Q : Out → Heap → Prop} : W E0 lo (.code F19o11 rd fr) H Q = W E0 lo (.segs F19p11 rd fr) H Q := W_ops
theorem wF19o12 {lo : Nat} {rd : Option Nat} {fr : Fr} {H : Heap} {Q : Out → Heap → Prop} : W E0 lo (.code F19o12 rd fr) H Q = W E0 lo (.segs F19p12 rd fr) H Q := W_ops
theorem wF19o13 {lo : Nat} {rd : Option Nat} {fr : Fr} {H : Heap} {Q : Out → Heap → Prop} : W E0 lo (.code F19o13 rd fr) H Q = W E0 lo (.segs F19p13 rd fr) H Q := W_ops
theorem wF19o14 {lo : Nat} {rd : Option Nat} {fr : Fr} {H : Heap} {Q : Out → Heap → Prop} : W E0 lo (.code F19o14 rd fr) H Q = W E0 lo (.segs F19p14 rd fr) H Q := W_ops
theorem wF20o0 {lo : Nat} {rd : Option Nat} {fr : Fr} {H : Heap} {Q : Out → Heap → Prop} : W E0 lo (.code F20o0 rd fr) H Q = W E0 lo (.segs F20p0 rd fr) H Q := W_ops
theorem wF20o1 {lo : Nat} {rd : Option Nat} {fr : Fr} {H : Heap} {Q : Out → Heap → Prop} : W E0 lo (.code F20o1 rd fr) H Q = W E0 lo (.segs F20p1 rd fr) H Q := W_ops
theorem wF20o2 {lo : Nat} {rd : Option Nat} {fr : Fr} {H : Heap} {Q : Out → Heap → Prop} : W E0 lo (.code F20o2 rd fr) H Q = W E0 lo (.segs F20p2 rd fr) H Q := W_ops
theorem wF20o3 {lo : Nat} {rd : Option Nat} {fr : Fr} {H : Heap} {Q : Out → Heap → Prop} : W E0 lo (.code F20o3 rd fr) H Q = W E0 lo (.segs F20p3 rd fr) H Q := W_ops
theorem wF20o4 {lo : Nat} {rd : Option Nat} {fr : Fr} {H : Heap} {Q : Out → Heap → Prop} : W E0 lo (.code F20o4 rd fr) H Q = W E0 lo (.segs F20p4 rd fr) H Q := W_ops
theorem wF20o5 {lo : Nat} {rd : Option Nat} {fr : Fr} {H : Heap} {Q : Out → Heap → Prop} : W E0 lo (.code F20o5 rd fr) H Q = W E0 lo (.segs F20p5 rd fr) H Q := W_ops
theorem wF20o6 {lo : Nat} {rd : Option Nat} {fr : Fr} {H : Heap} {Q : Out → Heap → Prop} : W E0 lo (.code F20o6 rd fr) H Q = W E0 lo (.segs F20p6 rd fr) H Q := W_ops
theorem wF20o7 {lo : Nat} {rd : Option Nat} {fr : Fr} {H : Heap} {Q : Out → Heap → Prop} : W E0 lo (.code F20o7 rd fr) H Q = W E0 lo (.segs F20p7 rd fr) H Q := W_ops
theorem wF20o9 {lo : Nat} {rd : Option Nat} {fr : Fr} {H : Heap} {Q : Out → Heap → Prop} : W E0 lo (.code F20o9 rd fr) H Q = W E0 lo (.segs F20p9 rd fr) H Q := W_ops
theorem wF21o0 {lo : Nat} {rd : Option Nat} {fr : Fr} {H : Heap} {Q : Out → Heap → Prop} : W E0 lo (.code F21o0 rd fr) H Q = W E0 lo (.segs F21p0 rd fr) H Q := W_ops
theorem wF21o1 {lo : Nat} {rd : Option Nat} {fr : Fr} {H : Heap} {Q : Out → Heap → Prop} : W E0 lo (.code F21o1 rd fr) H Q = W E0 lo (.segs F21p1 rd fr) H Q := W_ops
theorem wF22o0 {lo : Nat} {rd : Option Nat} {fr : Fr} {H : Heap} {Q : Out → Heap → Prop} : W E0 lo (.code F22o0 rd fr) H Q = W E0 lo (.segs F22p0 rd fr) H Q := W_ops
theorem wF22o1 {lo : Nat} {rd : Option Nat} {fr : Fr} {H : Heap} {Q : Out → Heap → Prop} : W E0 lo (.code F22o1 rd fr) H Q = W E0 lo (.segs F22p1 rd fr) H Q := W_ops
theorem wF23o0 {lo : Nat} {rd : Option Nat} {fr : Fr} {H : Heap} {Q : Out → Heap → Prop} : W E0 lo (.code F23o0 rd fr) H Q = W E0 lo (.segs F23p0 rd fr) H Q := W_ops
theorem wF23o1 {lo : Nat} {rd : Option Nat} {fr : Fr} {H : Heap} {Q : Out → Heap → Prop} : W E0 lo (.code F23o1 rd fr) H Q = W E0 lo (.segs F23p1 rd fr) H Q := W_ops
theorem wF24o0 {lo : Nat} {rd : Option Nat} {fr : Fr} {H : Heap} {Q : Out → Heap → Prop} : W E0 lo (.code F24o0 rd fr) H Q = W E0 lo (.segs F24p0 rd fr) H Q := W_ops
theorem wF24o1 {lo : Nat} {rd : Option Nat} {fr : Fr} {H : Heap} {Q : Out → Heap → Prop} : W E0 lo (.code F24o1 rd fr) H Q = W E0 lo (.segs F24p1 rd fr) H Q := W_ops
theorem wF24o2 {lo : Nat} {rd : Option Nat} {fr : Fr} {H : Heap} {Q : Out → Heap → Prop} : W E0 lo (.code F24o2 rd fr) H Q = W E0 lo (.segs F24p2 rd fr) H Q := W_ops
theorem wF24o3 {lo : Nat} {rd : Option Nat} {fr : Fr} {H : Heap} {Q : Out → Heap → Prop} : W E0 lo (.code F24o3 rd fr) H Q = W E0 lo (.segs F24p3 rd fr) H Q := W_ops
theorem wF24o4 {lo : Nat} {rd : Option Nat} {fr : Fr} {H : Heap} {Q : Out → Heap → Prop} : W E0 lo (.code F24o4 rd fr) H Q = W E0 lo (.segs F24p4 rd fr) H Q := W_ops
theorem wF24o5 {lo : Nat} {rd : Option Nat} {fr : Fr} {H : Heap} {Q : Out → Heap → Prop} : W E0 lo (.code F24o5 rd fr) H Q = W E0 lo (.segs F24p5 rd fr) H Q := W_ops
theorem wF25o0 {lo : Nat} {rd : Option Nat} {fr : Fr} {H : Heap} {Q : Out → Heap → Prop} : W E0 lo (.code F25o0 rd fr) H Q = W E0 lo (.segs F25p0 rd fr) H Q := W_ops
theorem wF25o1 {lo : Nat} {rd : Option Nat} {fr : Fr} {H : Heap} {Q : Out → Heap → Prop} : W E0 lo (.code F25o1 rd fr) H Q = W E0 lo (.segs F25p1 rd fr) H Q := W_ops
theorem wF25o2 {lo : Nat} {rd : Option Nat} {fr : Fr} {H : Heap} {Q : Out → Heap → Prop} : W E0 lo (.code F25o2 rd fr) H Q = W E0 lo (.segs F25p2 rd fr) H Q := W_ops
theorem wF25o3 {lo : Nat} {rd : Option Nat} {fr : Fr} {H : Heap} {Q : Out → Heap → Prop} : W E0 lo (.code F25o3 rd fr) H Q = W E0 lo (.segs F25p3 rd fr) H Q := W_ops
theorem wF26o0 {lo : Nat} {rd : Option Nat} {fr : Fr} {H : Heap} {Q : Out → Heap → Prop} : W E0 lo (.code F26o0 rd fr) H Q = W E0 lo (.segs F26p0 rd fr) H Q := W_ops
theorem wF26o1 {lo : Nat} {rd : Option Nat} {fr : Fr} {H : Heap} {Q : Out → Heap → Prop} : W E0 lo (.code F26o1 rd fr) H Q = W E0 lo (.segs F26p1 rd fr) H Q := W_ops
theorem wF27o0 {lo : Nat} {rd : Option Nat} {fr : Fr} {H : Heap} {Q : Out → Heap → Prop} : W E0 lo (.code F27o0 rd fr) H Q = W E0 lo (.segs F27p0 rd fr) H Q := W_ops
theorem wF27o1 {lo : Nat} {rd : Option Nat} {fr : Fr} {H : Heap} {Q : Out → Heap → Prop} : W E0 lo (.code F27o1 rd fr) H Q = W E0 lo (.segs F27p1 rd fr) H Q := W_ops
theorem wF28o0 {lo : Nat} {rd : Option Nat} {fr : Fr} {H : Heap} {Q : Out → Heap → Prop} : W E0 lo (.code F28o0 rd fr) H Q = W E0 lo (.segs F28p0 rd fr) H Q := W_ops
theorem wF28o1 {lo : Nat} {rd : Option Nat} {fr : Fr} {H : Heap} {Q : Out → Heap → Prop} : W E0 lo (.code F28o1 rd fr) H Q = W E0 lo (.segs F28p1 rd fr) H Q := W_ops
theorem wF28o2 {lo : Nat} {rd : Option Nat} {fr : Fr} {H : Heap} {Q : Out → Heap → Prop} : W E0 lo (.code F28o2 rd fr) H Q = W E0 lo (.segs F28p2 rd fr) H Q := W_ops
theorem wF28o3 {lo : Nat} {rd : Option Nat} {fr : Fr} {H : Heap} {Q : Out → Heap → Prop} : W E0 lo (.code F28o3 rd fr) H Q = W E0 lo (.segs F28p3 rd fr) H Q := W_ops
theorem wF29o0 {lo : Nat} {rd : Option Nat} {fr : Fr} {H : Heap} {Q : Out → Heap → Prop} : W E0 lo (.code F29o0 rd fr) H Q = W E0 lo (.segs F29p0 rd fr) H Q := W_ops
theorem wF29o1 {lo : Nat} {rd : Option Nat} {fr : Fr} {H : Heap} {Q : Out → Heap → Prop} : W E0 lo (.code F29o1 rd fr) H Q = W E0 lo (.segs F29p1 rd fr) H Q := W_ops
theorem wF30o0 {lo : Nat} {rd : Option Nat} {fr : Fr} {H : Heap} {Q : Out → Heap → Prop} : W E0 lo (.code F30o0 rd fr) H Q = W E0 lo (.segs F30p0 rd fr) H Q := W_ops
theorem wF30o1 {lo : Nat} {rd : Option Nat} {fr : Fr} {H : Heap} {Q : Out → Heap → Prop} : W E0 lo (.code F30o1 rd fr) H Q = W E0 lo (.segs F30p1 rd fr) H Q := W_ops
theorem wF30o2 {lo : Nat} {rd : Option Nat} {fr : Fr} {H : Heap} {Q : Out → Heap → Prop} : W E0 lo (.code F30o2 rd fr) H Q = W E0 lo (.segs F30p2 rd fr) H Q := W_ops
theorem wF30o3 {lo : Nat} {rd : Option Nat} {fr : Fr} {H : Heap} {Q : Out → Heap → Prop} : W E0 lo (.code F30o3 rd fr) H Q = W E0 lo (.segs F30p3 rd fr) H Q := W_ops
theorem wF30o4 {lo : Nat} {rd : Option Nat} {fr : Fr} {H : Heap} {Q : Out → Heap → Prop} : W E0 lo (.code F30o4 rd fr) H Q = W E0 lo (.segs F30p4 rd fr) H Q := W_ops
theorem wF30o5 {lo : Nat} {rd : Option Nat} {fr : Fr} {H : Heap} {Q : Out → Heap → Prop} : W E0 lo (.code F30o5 rd fr) H Q = W E0 lo (.segs F30p5 rd fr) H Q := W_ops
theorem wF30o6 {lo : Nat} {rd : Option Nat} {fr : Fr} {H : Heap} {Q : Out → Heap → Prop} : W E0 lo (.code F30o6 rd fr) H Q = W E0 lo (.segs F30p6 rd fr) H Q := W_ops
theorem wF30o7 {lo : Nat} {rd : Option Nat} {fr : Fr} {H : Heap} {Q : Out → Heap → Prop} : W E0 lo (.code F30o7 rd fr) H Q = W E0 lo (.segs F30p7 rd fr) H Q := W_ops
theorem wF30o8 {lo : Nat} {rd : Option Nat} {fr : Fr} {H : Heap} {Q : Out → Heap → Prop} : W E0 lo (.code F30o8 rd fr) H Q = W E0 lo (.segs F30p8 rd fr) H Q := W_ops
theorem wF30o9 {lo : Nat} {rd : Option Nat} {fr : Fr} {H : Heap} {Q : Out → Heap → Prop} : W E0 lo (.code F30o9 rd fr) H Q = W E0 lo (.segs F30p9 rd fr) H Q := W_ops
theorem wF30o11 {lo : Nat} {rd : Option Nat} {fr : Fr} {H : Heap} {Q : Out → Heap → Prop} : W E0 lo (.code F30o11 rd fr) H Q = W E0 lo (.segs F30p11 rd fr) H Q := W_ops
theorem wF31o0 {lo : Nat} {rd : Option Nat} {fr : Fr} {H : Heap} {Q : Out → Heap → Prop} : W E0 lo (.code F31o0 rd fr) H Q = W E0 lo (.segs F31p0 rd fr) H Q := W_ops
theorem wF31o1 {lo : Nat} {rd : Option Nat} {fr : Fr} {H : Heap} {Q : Out → Heap → Prop} : W E0 lo (.code F31o1 rd fr) H Q = W E0 lo (.segs F31p1 rd fr) H Q := W_ops
theorem wF31o2 {lo : Nat} {rd : Option Nat} {fr : Fr} {H : Heap} {Q : Out → Heap → Prop} : W E0 lo (.code F31o2 rd fr) H Q = W E0 lo (.segs F31p2 rd fr) H Q := W_ops
theorem wF31o3 {lo : Nat} {rd : Option Nat} {fr : Fr} {H : Heap} {Q : Out → Heap → Prop} : W E0 lo (.code F31o3 rd fr) H Q = W E0 lo (.segs F31p3 rd fr) H Q := W_ops
theorem wF31o5 {lo : Nat} {rd : Option Nat} {fr : Fr} {H : Heap} {Q : Out → Heap → Prop} : W E0 lo (.code F31o5 rd fr) H Q = W E0 lo (.segs F31p5 rd fr) H Q := W_ops
theorem wF32o0 {lo : Nat} {rd : Option Nat} {fr : Fr} {H : Heap} {Q : Out → Heap → Prop} : W E0 lo (.code F32o0 rd fr) H Q = W E0 lo (.segs F32p0 rd fr) H Q := W_ops
theorem wF32o1 {lo : Nat} {rd : Option Nat} {fr : Fr} {H : Heap} {Q : Out → Heap → Prop} : W E0 lo (.code F32o1 rd fr) H Q = W E0 lo (.segs F32p1 rd fr) H Q := W_ops
theorem wF32o2 {lo : Nat} {rd : Option Nat} {fr : Fr} {H : Heap} {Q : Out → Heap → Prop} : W E0 lo (.code F32o2 rd fr) H Q = W E0 lo (.segs F32p2 rd fr) H Q := W_ops
theorem wF32o3 {lo : Nat} {rd : Option Nat} {fr : Fr} {H : Heap} {Q : Out → Heap → Prop} : W E0 lo (.code F32o3 rd fr) H Q = W E0 lo (.segs F32p3 rd fr) H Q := W_ops
theorem wF32o4 {lo : Nat} {rd : Option Nat} {fr : Fr} {H : Heap} {Q : Out → Heap → Prop} : W E0 lo (.code F32o4 rd fr) H Q = W E0 lo (.segs F32p4 rd fr) H Q := W_ops
theorem wF32o5 {lo : Nat} {rd : Option Nat} {fr : Fr} {H : Heap} {Q : Out → Heap → Prop} : W E0 lo (.code F32o5 rd fr) H Q = W E0 lo (.segs F32p5 rd fr) H Q := W_ops
theorem wF32o6 {lo : Nat} {rd : Option Nat} {fr : Fr} {H : Heap} {Q : Out → Heap → Prop} : W E0 lo (.code F32o6 rd fr) H Q = W E0 lo (.segs F32p6 rd fr) H Q := W_ops
theorem wF32o7 {lo : Nat} {rd : Option Nat} {fr : Fr} {H : Heap} {Q : Out → Heap → Prop} : W E0 lo (.code F32o7 rd fr) H Q = W E0 lo (.segs F32p7 rd fr) H Q := W_ops
theorem wF32o8 {lo : Nat} {rd : Option Nat} {fr : Fr} {H : Heap} {Q : Out → Heap → Prop} : W E0 lo (.code F32o8 rd fr) H Q = W E0 lo (.segs F32p8 rd fr) H Q := W_ops
theorem wF32o10 {lo : Nat} {rd : Option Nat} {fr : Fr} {H : Heap} {Q : Out → Heap → Prop} : W E0 lo (.code F32o10 rd fr) H Q = W E0 lo (.segs F32p10 rd fr) H Q := W_ops
theorem wF33o0 {lo : Nat} {rd : Option Nat} {fr : Fr} {H : Heap} {Q : Out → Heap → Prop} : W E0 lo (.code F33o0 rd fr) H Q = W E0 lo (.segs F33p0 rd fr) H Q := W_ops
theorem wF33o1 {lo : Nat} {rd : Option Nat} {fr : Fr} {H : Heap} {Q : Out → Heap → Prop} : W E0 lo (.code F33o1 rd fr) H Q = W E0 lo (.segs F33p1 rd fr) H Q := W_ops
theorem wF34o0 {lo : Nat} {rd : Option Nat} {fr : Fr} {H : Heap} {Q : Out → Heap → Prop} : W E0 lo (.code F34o0 rd fr) H Q = W E0 lo (.segs F34p0 rd fr) H Q := W_ops
theorem wF34o1 {lo : Nat} {rd : Option Nat} {fr : Fr} {H : Heap} {Q : Out → Heap → Prop} : W E0 lo (.code F34o1 rd fr) H Q = W E0 lo (.segs F34p1 rd fr) H Q := W_ops
theorem wF34o2 {lo : Nat} {rd : Option Nat} {fr : Fr} {H : Heap} {Q : Out → Heap → Prop} : W E0 lo (.code F34o2 rd fr) H Q = W E0 lo (.segs F34p2 rd fr) H Q := W_ops
theorem wF34o3 {lo : Nat} {rd : Option Nat} {fr : Fr} {H : Heap} {Q : Out → Heap → Prop} : W E0 lo (.code F34o3 rd fr) H Q = W E0 lo (.segs F34p3 rd fr) H Q := W_ops
theorem wF34o4 {lo : Nat} {rd : Option Nat} {fr : Fr} {H : Heap} {Q : Out → Heap → Prop} : W E0 lo (.code F34o4 rd fr) H Q = W E0 lo (.segs F34p4 rd fr) H Q := W_ops
theorem wF34o5 {lo : Nat} {rd : Option Nat} {fr : Fr} {H : Heap} {Q : Out → Heap → Prop} : W E0 lo (.code F34o5 rd fr) H Q = W E0 lo (.segs F34p5 rd fr) H Q := W_ops
theorem wF34o6 {lo : Nat} {rd : Option Nat} {fr : Fr} {H : Heap} {Q : Out → Heap → Prop} : W E0 lo (.code F34o6 rd fr) H Q = W E0 lo (.segs F34p6 rd fr) H Q := W_ops
theorem wF34o7 {lo : Nat} {rd : Option Nat} {fr : Fr} {H : Heap} {Q : Out → Heap → Prop} : W E0 lo (.code F34o7 rd fr) H Q = W E0 lo (.segs F34p7 rd fr) H Q := W_ops
theorem wF34o8 {lo : Nat} {rd : Option Nat} {fr : Fr} {H : Heap} {Q : Out → Heap → Prop} : W E0 lo (.code F34o8 rd fr) H Q = W E0 lo (.segs F34p8 rd fr) H Q := W_ops
theorem wF34o9 {lo : Nat} {rd : Option Nat} {fr : Fr} {H : Heap} {Q : Out → Heap → Prop} : W E0 lo (.code F34o9 rd fr) H Q = W E0 lo (.segs F34p9 rd fr) H Q := W_ops
theorem wF35o0 {lo : Nat} {rd : Option Nat} {fr : Fr} {H : Heap} {Q : Out → Heap → Prop} : W E0 lo (.code F35o0 rd fr) H Q = W E0 lo (.segs F35p0 rd fr) H Q := W_ops
theorem wF35o1 {lo : Nat} {rd : Option Nat} {fr : Fr} {H : Heap} {Q : Out → Heap → Prop} : W E0 lo (.code F35o1 rd fr) H Q = W E0 lo (.segs F35p1 rd fr) H Q := W_ops
theorem wF35o2 {lo : Nat} {rd : Option Nat} {fr : Fr} {H : Heap} {Q : Out → Heap → Prop} : W E0 lo (.code F35o2 rd fr) H Q = W E0 lo (.segs F35p2 rd fr) H Q := W_ops
theorem wF35o3 {lo : Nat} {rd : Option Nat} {fr : Fr} {H : Heap} {Q : Out → Heap → Prop} : W E0 lo (.code F35o3 rd fr) H Q = W E0 lo (.segs F35p3 rd fr) H Q := W_ops
theorem wF35o4 {lo : Nat} {rd : Option Nat} {fr : Fr} {H : Heap} {Q : Out → Heap → Prop} : W E0 lo (.code F35o4 rd fr) H Q = W E0 lo (.segs F35p4 rd fr) H Q := W_ops
theorem wF35o5 {lo : Nat} {rd : Option Nat} {fr : Fr} {H : Heap} {Q : Out → Heap → Prop} : W E0 lo (.code F35o5 rd fr) H Q = W E0 lo (.segs F35p5 rd fr) H Q := W_ops
theorem wF35o6 {lo : Nat} {rd : Option Nat} {fr : Fr} {H : Heap} {Q : Out → Heap → Prop} : W E0 lo (.code F35o6 rd fr) H Q = W E0 lo (.segs F35p6 rd fr) H Q := W_ops
theorem wF35o8 {lo : Nat} {rd : Option Nat} {fr : Fr} {H : Heap} {Q : Out → Heap → Prop} : W E0 lo (.code F35o8 rd fr) H Q = W E0 lo (.segs F35p8 rd fr) H Q := W_ops
theorem wF36o0 {lo : Nat} {rd : Option Nat} {fr : Fr} {H : Heap} {Q : Out → Heap → Prop} : W E0 lo (.code F36o0 rd fr) H Q = W E0 lo (.segs F36p0 rd fr) H Q := W_ops
theorem wF36o1 {lo : Nat} {rd : Option Nat} {fr : Fr} {H : Heap} {Q : Out → Heap → Prop} : W E0 lo (.code F36o1 rd fr) H Q = W E0 lo (.segs F36p1 rd fr) H Q := W_ops
theorem wF36o2 {lo : Nat} {rd : Option Nat} {fr : Fr} {H : Heap} {Q : Out → Heap → Prop} : W E0 lo (.code F36o2 rd fr) H Q = W E0 lo (.segs F36p2 rd fr) H Q := W_ops
theorem wF36o3 {lo : Nat} {rd : Option Nat} {fr : Fr} {H : Heap} {Q : Out → Heap → Prop} : W E0 lo (.code F36o3 rd fr) H Q = W E0 lo (.segs F36p3 rd fr) H Q := W_ops
theorem wF36o4 {lo : Nat} {rd : Option Nat} {fr : Fr} {H : Heap} {Q : Out → Heap → Prop} : W E0 lo (.code F36o4 rd fr) H Q = W E0 lo (.segs F36p4 rd fr) H Q := W_ops
theorem wF36o5 {lo : Nat} {rd : Option Nat} {fr : Fr} {H : Heap} {Q : Out → Heap → Prop} : W E0 lo (.code F36o5 rd fr) H Q = W E0 lo (.segs F36p5 rd fr) H Q := W_ops
theorem wF36o6 {lo : Nat} {rd : Option Nat} {fr : Fr} {H : Heap} {Q : Out → Heap → Prop} : W E0 lo (.code F36o6 rd fr) H Q = W E0 lo (.segs F36p6 rd fr) H Q := W_ops
theorem wF36o7 {lo : Nat} {rd : Option Nat} {fr : Fr} {H : Heap} {Q : Out → Heap → Prop} : W E0 lo (.code F36o7 rd fr) H Q = W E0 lo (.segs F36p7 rd fr) H Q := W_ops
theorem wF36o8 {lo : Nat} {rd : Option Nat} {fr : Fr} {H : Heap} {Q : Out → Heap → Prop} : W E0 lo (.code F36o8 rd fr) H Q = W E0 lo (.segs F36p8 rd fr) H Q := W_ops
theorem wF36o9 {lo : Nat} {rd : Option Nat} {fr : Fr} {H : Heap} {Q : Out → Heap → Prop} : W E0 lo (.code F36o9 rd fr) H Q = W E0 lo (.segs F36p9 rd fr) H Q := W_ops
theorem wF36o10 {lo : Nat} {rd : Option Nat} {fr : Fr} {H : Heap} {Q : Out → Heap → Prop} : W E0 lo (.code F36o10 rd fr) H Q = W E0 lo (.segs F36p10 rd fr) H Q := W_ops
theorem wF36o12 {lo : Nat} {rd : Option Nat} {fr : Fr} {H : Heap} {Q : Out → Heap → Prop} : W E0 lo (.code F36o12 rd fr) H Q = W E0 lo (.segs F36p12 rd fr) H Q := W_ops
theorem wF37o0 {lo : Nat} {rd : Option Nat} {fr : Fr} {H : Heap} {Q : Out → Heap → Prop} : W E0 lo (.code F37o0 rd fr) H Q = W E0 lo (.segs F37p0 rd fr) H Q := W_ops
theorem wF37o1 {lo : Nat} {rd : Option Nat} {fr : Fr} {H : Heap} {Q : Out → Heap → Prop} : W E0 lo (.code F37o1 rd fr) H Q = W E0 lo (.segs F37p1 rd fr) H Q := W_ops
theorem wF37o2 {lo : Nat} {rd : Option Nat} {fr : Fr} {H : Heap} {Q : Out → Heap → Prop} : W E0 lo (.code F37o2 rd fr) H Q = W E0 lo (.segs F37p2 rd fr) H Q := W_ops
theorem wF37o3 {lo : Nat} {rd : Option Nat} {fr : Fr} {H : Heap} {Q : Out → Heap → Prop} : W E0 lo (.code F37o3 rd fr) H Q = W E0 lo (.segs F37p3 rd fr) H Q := W_ops
theorem c2 {lo : Nat} {args : List IV} {H : Heap} {Q : Out → Heap → Prop} : W E0 lo (.call 2 args) H Q = W E0 lo (.code F2b none ⟨args ++ undefs (F2.ntmps - args.length), []⟩) H (retC lo F2.results Q) := W_call rfl rfl
theorem c3 {lo : Nat} {args : List IV} {H : Heap} {Q : Out → Heap → Prop} : W E0 lo (.call 3 args) H Q = W E0 lo (.code F3b none ⟨args ++ undefs (F3.ntmps - args.length), []⟩) H (retC lo F3.results Q) := W_call rfl rfl
theorem c4 {lo : Nat} {args : List IV} {H : Heap} {Q : Out → Heap → Prop} : W E0 lo (.call 4 args) H Q = W E0 lo (.code F4b none ⟨args ++ undefs (F4.ntmps - args.length), []⟩) H (retC lo F4.results Q) := W_call rfl rfl
theorem c5 {lo : Nat} {args : List IV} {H : Heap} {Q : Out → Heap → Prop} : W E0 lo (.call 5 args) H Q = W E0 lo (.code F5b none ⟨args ++ undefs (F5.ntmps - args.length), []⟩) H (retC lo F5.results Q) := W_call rfl rfl
theorem c6 {lo : Nat} {args : List IV} {H : Heap} {Q : Out → Heap → Prop} : W E0 lo (.call 6 args) H Q = W E0 lo (.code F6b none ⟨args ++ undefs (F6.ntmps - args.length), []⟩) H (retC lo F6.results Q) := W_call rfl rfl
theorem c7 {lo : Nat} {args : List IV} {H : Heap} {Q : Out → Heap → Prop} : W E0 lo (.call 7 args) H Q = W E0 lo (.code F7b none ⟨args ++ undefs (F7.ntmps - args.length), []⟩) H (retC lo F7.results Q) := W_call rfl rfl
theorem c8 {lo : Nat} {args : List IV} {H : Heap} {Q : Out → Heap → Prop} : W E0 lo (.call 8 args) H Q = W E0 lo (.code F8b none ⟨args ++ undefs (F8.ntmps - args.length), []⟩) H (retC lo F8.results Q) := W_call rfl rfl
theorem c9 {lo : Nat} {args : List IV} {H : Heap} {Q : Out → Heap → Prop} : W E0 lo (.call 9 args) H Q = W E0 lo (.code F9b none ⟨args ++ undefs (F9.ntmps - args.length), []⟩) H (retC lo F9.results Q) := W_call rfl rfl
theorem c10 {lo : Nat} {args : List IV} {H : Heap} {Q : Out → Heap → Prop} : W E0 lo (.call 10 args) H Q = W E0 lo (.code F10b none ⟨args ++ undefs (F10.ntmps - args.length), []⟩) H (retC lo F10.results Q) := W_call rfl rfl
theorem c11 {lo : Nat} {args : List IV} {H : Heap} {Q : Out → Heap → Prop} : W E0 lo (.call 11 args) H Q = W E0 lo (.code F11b none ⟨args ++ undefs (F11.ntmps - args.length), []⟩) H (retC lo F11.results Q) := W_call rfl rfl
theorem c12 {lo : Nat} {args : List IV} {H : Heap} {Q : Out → Heap → Prop} : W E0 lo (.call 12 args) H Q = W E0 lo (.code F12b none ⟨args ++ undefs (F12.ntmps - args.length), []⟩) H (retC lo F12.results Q) := W_call rfl rfl
theorem c13 {lo : Nat} {args : List IV} {H : Heap} {Q : Out → Heap → Prop} : W E0 lo (.call 13 args) H Q = W E0 lo (.code F13b none ⟨args ++ undefs (F13.ntmps - args.length), []⟩) H (retC lo F13.results Q) := W_call rfl rfl
theorem c14 {lo : Nat} {args : List IV} {H : Heap} {Q : Out → Heap → Prop} : W E0 lo (.call 14 args) H Q = W E0 lo (.code F14b none ⟨args ++ undefs (F14.ntmps - args.length), []⟩) H (retC lo F14.results Q) := W_call rfl rfl
theorem c15 {lo : Nat} {args : List IV} {H : Heap} {Q : Out → Heap → Prop} : W E0 lo (.call 15 args) H Q = W E0 lo (.code F15b none ⟨args ++ undefs (F15.ntmps - args.length), []⟩) H (retC lo F15.results Q) := W_call rfl rfl
theorem c17 {lo : Nat} {args : List IV} {H : Heap} {Q : Out → Heap → Prop} : W E0 lo (.call 17 args) H Q = W E0 lo (.code F17b none ⟨args ++ undefs (F17.ntmps - args.length), []⟩) H (retC lo F17.results Q) := W_call rfl rfl
theorem c18 {lo : Nat} {args : List IV} {H : Heap} {Q : Out → Heap → Prop} : W E0 lo (.call 18 args) H Q = W E0 lo (.code F18b none ⟨args ++ undefs (F18.ntmps - args.length), []⟩) H (retC lo F18.results Q) := W_call rfl rfl
theorem c19 {lo : Nat} {args : List IV} {H : Heap} {Q : Out → Heap → Prop} : W E0 lo (.call 19 args) H Q = W E0 lo (.code F19b none ⟨args ++ undefs (F19.ntmps - args.length), []⟩) H (retC lo F19.results Q) := W_call rfl rfl
theorem c20 {lo : Nat} {args : List IV} {H : Heap} {Q : Out → Heap → Prop} : W E0 lo (.call 20 args) H Q = W E0 lo (.code F20b none ⟨args ++ undefs (F20.ntmps - args.length), []⟩) H (retC lo F20.results Q) := W_call rfl rfl
theorem c21 {lo : Nat} {args : List IV} {H : Heap} {Q : Out → Heap → Prop} : W E0 lo (.call 21 args) H Q = W E0 lo (.code F21b none ⟨args ++ undefs (F21.ntmps - args.length), []⟩) H (retC lo F21.results Q) := W_call rfl rfl
theorem c22 {lo : Nat} {args : List IV} {H : Heap} {Q : Out → Heap → Prop} : W E0 lo (.call 22 args) H Q = W E0 lo (.code F22b none ⟨args ++ undefs (F22.ntmps - args.length), []⟩) H (retC lo F22.results Q) := W_call rfl rfl
theorem c23 {lo : Nat} {args : List IV} {H : Heap} {Q : Out → Heap → Prop} : W E0 lo (.call 23 args) H Q = W E0 lo (.code F23b none ⟨args ++ undefs (F23.ntmps - args.length), []⟩) H (retC lo F23.results Q) := W_call rfl rfl
theorem c24 {lo : Nat} {args : List IV} {H : Heap} {Q : Out → Heap → Prop} : W E0 lo (.call 24 args) H Q = W E0 lo (.code F24b none ⟨args ++ undefs (F24.ntmps - args.length), []⟩) H (retC lo F24.results Q) := W_call rfl rfl
theorem c25 {lo : Nat} {args : List IV} {H : Heap} {Q : Out → Heap → Prop} : W E0 lo (.call 25 args) H Q = W E0 lo (.code F25b none ⟨args ++ undefs (F25.ntmps - args.length), []⟩) H (retC lo F25.results Q) := W_call rfl rfl
theorem c26 {lo : Nat} {args : List IV} {H : Heap} {Q : Out → Heap → Prop} : W E0 lo (.call 26 args) H Q = W E0 lo (.code F26b none ⟨args ++ undefs (F26.ntmps - args.length), []⟩) H (retC lo F26.results Q) := W_call rfl rfl
theorem c27 {lo : Nat} {args : List IV} {H : Heap} {Q : Out → Heap → Prop} : W E0 lo (.call 27 args) H Q = W E0 lo (.code F27b none ⟨args ++ undefs (F27.ntmps - args.length), []⟩) H (retC lo F27.results Q) := W_call rfl rfl
theorem c28 {lo : Nat} {args : List IV} {H : Heap} {Q : Out → Heap → Prop} : W E0 lo (.call 28 args) H Q = W E0 lo (.code F28b none ⟨args ++ undefs (F28.ntmps - args.length), []⟩) H (retC lo F28.results Q) := W_call rfl rfl
theorem c29 {lo : Nat} {args : List IV} {H : Heap} {Q : Out → Heap → Prop} : W E0 lo (.call 29 args) H Q = W E0 lo (.code F29b none ⟨args ++ undefs (F29.ntmps - args.length), []⟩) H (retC lo F29.results Q) := W_call rfl rfl
theorem c30 {lo : Nat} {args : List IV} {H : Heap} {Q : Out → Heap → Prop} : W E0 lo (.call 30 args) H Q = W E0 lo (.code F30b none ⟨args ++ undefs (F30.ntmps - args.length), []⟩) H (retC lo F30.results Q) := W_call rfl rfl
theorem c31 {lo : Nat} {args : List IV} {H : Heap} {Q : Out → Heap → Prop} : W E0 lo (.call 31 args) H Q = W E0 lo (.code F31b none ⟨args ++ undefs (F31.ntmps - args.length), []⟩) H (retC lo F31.results Q) := W_call rfl rfl
theorem c32 {lo : Nat} {args : List IV} {H : Heap} {Q : Out → Heap → Prop} : W E0 lo (.call 32 args) H Q = W E0 lo (.code F32b none ⟨args ++ undefs (F32.ntmps - args.length), []⟩) H (retC lo F32.results Q) := W_call rfl rfl
theorem c33 {lo : Nat} {args : List IV} {H : Heap} {Q : Out → Heap → Prop} : W E0 lo (.call 33 args) H Q = W E0 lo (.code F33b none ⟨args ++ undefs (F33.ntmps - args.length), []⟩) H (retC lo F33.results Q) := W_call rfl rfl
theorem c34 {lo : Nat} {args : List IV} {H : Heap} {Q : Out → Heap → Prop} : W E0 lo (.call 34 args) H Q = W E0 lo (.code F34b none ⟨args ++ undefs (F34.ntmps - args.length), []⟩) H (retC lo F34.results Q) := W_call rfl rfl
theorem c35 {lo : Nat} {args : List IV} {H : Heap} {Q : Out → Heap → Prop} : W E0 lo (.call 35 args) H Q = W E0 lo (.code F35b none ⟨args ++ undefs (F35.ntmps - args.length), []⟩) H (retC lo F35.results Q) := W_call rfl rfl
theorem c36 {lo : Nat} {args : List IV} {H : Heap} {Q : Out → Heap → Prop} : W E0 lo (.call 36 args) H Q = W E0 lo (.code F36b none ⟨args ++ undefs (F36.ntmps - args.length), []⟩) H (retC lo F36.results Q) := W_call rfl rfl
theorem c37 {lo : Nat} {args : List IV} {H : Heap} {Q : Out → Heap → Prop} : W E0 lo (.call 37 args) H Q = W E0 lo (.code F37b none ⟨args ++ undefs (F37.ntmps - args.length), []⟩) H (retC lo F37.results Q) := W_call rfl rfl
theorem c16 {lo : Nat} {H : Heap} {Q : Out → Heap → Prop} (h : Q (.val (.bool true)) H) : W E0 lo (.call 16 []) H Q := W_sum (s := trueSum) rfl rfl h
end Go.Iso.Gen
end
