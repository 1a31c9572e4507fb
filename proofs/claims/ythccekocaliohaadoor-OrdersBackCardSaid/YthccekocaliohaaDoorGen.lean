/-
  the code of this seat for the evaluator, as a program has printed it.
-/
import Derived.Test.YthccekocaliohaaDoorIsoP5
import Derived.Test.YthccekocaliohaaDoorIsoP7
import Derived.Test.YthccekocaliohaaDoorProg
import Derived.KernelRfl
set_option linter.unusedSimpArgs false
set_option linter.unusedVariables false

section
set_option maxRecDepth 100000
namespace Go.Iso.Gen
/- 7: gansey/ganseylaw04.OrdersBack -/
def F7p0 : List (Sg × List IOp) := [(.seq, [⟨some 6, .move, [.val (.bool false)], none, true, 0, 0⟩])]
def F7o0 : IC := .ops F7p0
def F7p1 : List (Sg × List IOp) := [(.seq, [⟨some 20, .move, [.tmp 0], none, true, 0, 0⟩, ⟨some 21, .call, [.val (.fn 9 [] []), .tmp 20], none, true, 0, 0⟩, ⟨some 7, .alloc 26 2 [.nilSlice, .nilSlice], [], none, true, 0, 0⟩, ⟨none, .store 2, [.tmp 7, .tmp 21], none, true, 0, 0⟩])]
def F7o1 : IC := .ops F7p1
def F7p2 : List (Sg × List IOp) := [(.seq, [⟨some 22, .move, [.tmp 1], none, true, 0, 0⟩, ⟨some 23, .bin .rem, [.tmp 22, .val (.int .u8 8)], none, true, 0, 0⟩, ⟨some 24, .conv .i64, [.tmp 23], none, true, 0, 0⟩, ⟨some 25, .bin .sub, [.tmp 24, .val (.int .i64 4)], none, true, 0, 0⟩, ⟨some 8, .move, [.tmp 25], none, true, 0, 0⟩])]
def F7o2 : IC := .ops F7p2
def F7p3 : List (Sg × List IOp) := [(.seq, [⟨some 27, .load (some 2), [.tmp 7], none, true, 0, 0⟩, ⟨some 28, .move, [.tmp 8], none, true, 0, 0⟩, ⟨some 29, .call, [.val (.fn 13 [] []), .tmp 27, .tmp 28, .val (.int .u8 1)], none, true, 0, 0⟩, ⟨some 26, .move, [.tmp 29], none, true, 0, 0⟩, ⟨some 30, .extract 0, [.tmp 26], none, true, 0, 0⟩, ⟨some 31, .extract 1, [.tmp 26], none, true, 0, 0⟩, ⟨some 9, .move, [.tmp 30], none, true, 0, 0⟩, ⟨some 10, .move, [.tmp 31], none, true, 0, 0⟩])]
def F7o3 : IC := .ops F7p3
def F7p4 : List (Sg × List IOp) := [(.seq, [⟨some 33, .load (some 2), [.tmp 7], none, true, 0, 0⟩, ⟨some 34, .move, [.tmp 8], none, true, 0, 0⟩, ⟨some 35, .bin .add, [.tmp 34, .val (.int .i64 1)], none, true, 0, 0⟩, ⟨some 36, .call, [.val (.fn 13 [] []), .tmp 33, .tmp 35, .val (.int .u8 0)], none, true, 0, 0⟩, ⟨some 32, .move, [.tmp 36], none, true, 0, 0⟩, ⟨some 37, .extract 0, [.tmp 32], none, true, 0, 0⟩, ⟨some 38, .extract 1, [.tmp 32], none, true, 0, 0⟩, ⟨some 11, .move, [.tmp 37], none, true, 0, 0⟩, ⟨some 12, .move, [.tmp 38], none, true, 0, 0⟩])]
def F7o4 : IC := .ops F7p4
def F7p5 : List (Sg × List IOp) := [(.seq, [⟨some 39, .move, [.tmp 10], none, true, 0, 0⟩, ⟨some 40, .bin .neq, [.tmp 39, .val (.int .i64 0)], none, true, 0, 0⟩, ⟨some 41, .move, [.tmp 40], none, true, 0, 0⟩, ⟨some 42, .move, [.tmp 12], some (41, false), true, 0, 0⟩, ⟨some 43, .bin .neq, [.tmp 42, .val (.int .i64 0)], some (41, false), true, 0, 0⟩, ⟨some 44, .pick, [.tmp 41, .val (.bool true), .tmp 43], none, true, 0, 0⟩, ⟨some 45, .move, [.tmp 44], none, true, 0, 0⟩, ⟨some 46, .move, [.tmp 9], some (45, false), true, 0, 0⟩, ⟨some 47, .lenSl, [.tmp 46], some (45, false), true, 0, 0⟩, ⟨some 48, .move, [.tmp 11], some (45, false), true, 0, 0⟩, ⟨some 49, .lenSl, [.tmp 48], some (45, false), true, 0, 0⟩, ⟨some 50, .bin .neq, [.tmp 47, .tmp 49], some (45, false), true, 0, 0⟩, ⟨some 51, .pick, [.tmp 45, .val (.bool true), .tmp 50], none, true, 0, 0⟩])]
def F7o5 : IC := .ops F7p5
def F7p6 : List (Sg × List IOp) := [(.seq, [⟨some 6, .move, [.val (.bool false)], none, true, 0, 0⟩])]
def F7o6 : IC := .ops F7p6
def F7p7 : List (Sg × List IOp) := [(.seq, [⟨some 13, .move, [.val (.int .i64 0)], none, true, 0, 0⟩])]
def F7o7 : IC := .ops F7p7
def F7p8 : List (Sg × List IOp) := [(.seq, [⟨some 52, .move, [.tmp 13], none, true, 0, 0⟩, ⟨some 53, .move, [.tmp 9], none, true, 0, 0⟩, ⟨some 54, .lenSl, [.tmp 53], none, true, 0, 0⟩, ⟨some 55, .bin .lss, [.tmp 52, .tmp 54], none, true, 0, 0⟩])]
def F7o8 : IC := .ops F7p8
def F7p9 : List (Sg × List IOp) := [(.seq, [⟨some 58, .move, [.tmp 11], none, true, 0, 0⟩, ⟨some 59, .move, [.tmp 11], none, true, 0, 0⟩, ⟨some 60, .lenSl, [.tmp 59], none, true, 0, 0⟩, ⟨some 61, .bin .sub, [.tmp 60, .val (.int .i64 1)], none, true, 0, 0⟩, ⟨some 62, .move, [.tmp 13], none, true, 0, 0⟩, ⟨some 63, .bin .sub, [.tmp 61, .tmp 62], none, true, 0, 0⟩, ⟨some 64, .idxSl 5, [.tmp 58, .tmp 63], none, true, 0, 0⟩, ⟨some 65, .load (some 5), [.tmp 64], none, true, 0, 0⟩, ⟨some 14, .alloc 47 5 [.int .u8 0, .int .i64 0, .int .u8 0, .int .i64 0, .int .i64 0], [], none, true, 0, 0⟩, ⟨none, .store 5, [.tmp 14, .tmp 65], none, true, 0, 0⟩])]
def F7o9 : IC := .ops F7p9
def F7p10 : List (Sg × List IOp) := [(.free, [⟨some 66, .fieldAddr 0, [.tmp 14], none, false, 0, 0⟩, ⟨some 67, .load (some 2), [.tmp 66], none, false, 1, 1⟩, ⟨some 68, .move, [.tmp 9], none, false, 2, 0⟩, ⟨some 69, .move, [.tmp 13], none, false, 3, 0⟩, ⟨some 70, .idxSl 5, [.tmp 68, .tmp 69], none, false, 4, 12⟩, ⟨some 71, .fieldAddr 2, [.tmp 70], none, false, 5, 28⟩, ⟨some 72, .load (some 2), [.tmp 71], none, false, 6, 60⟩]), (.seq, [⟨some 73, .eqFlat true [.int, .int], [.tmp 67, .tmp 72], none, true, 7, 127⟩]), (.seq, [⟨some 74, .move, [.tmp 73], none, true, 8, 255⟩]), (.free, [⟨some 75, .fieldAddr 2, [.tmp 14], some (74, false), false, 9, 511⟩, ⟨some 76, .load (some 2), [.tmp 75], some (74, false), false, 10, 1023⟩, ⟨some 77, .move, [.tmp 9], some (74, false), false, 11, 511⟩, ⟨some 78, .move, [.tmp 13], some (74, false), false, 12, 511⟩, ⟨some 79, .idxSl 5, [.tmp 77, .tmp 78], some (74, false), false, 13, 6655⟩, ⟨some 80, .fieldAddr 0, [.tmp 79], some (74, false), false, 14, 14847⟩, ⟨some 81, .load (some 2), [.tmp 80], some (74, false), false, 15, 31231⟩]), (.seq, [⟨some 82, .eqFlat true [.int, .int], [.tmp 76, .tmp 81], some (74, false), true, 16, 65535⟩]), (.seq, [⟨some 83, .pick, [.tmp 74, .val (.bool true), .tmp 82], none, true, 17, 131071⟩]), (.seq, [⟨some 84, .move, [.tmp 83], none, true, 18, 262143⟩]), (.free, [⟨some 85, .fieldAddr 4, [.tmp 14], some (84, false), false, 19, 524287⟩, ⟨some 86, .load none, [.tmp 85], some (84, false), false, 20, 1048575⟩, ⟨some 87, .move, [.tmp 9], some (84, false), false, 21, 524287⟩, ⟨some 88, .move, [.tmp 13], some (84, false), false, 22, 524287⟩, ⟨some 89, .idxSl 5, [.tmp 87, .tmp 88], some (84, false), false, 23, 6815743⟩, ⟨some 90, .fieldAddr 4, [.tmp 89], some (84, false), false, 24, 15204351⟩, ⟨some 91, .load none, [.tmp 90], some (84, false), false, 25, 31981567⟩, ⟨some 92, .un .neg, [.tmp 91], some (84, false), false, 26, 65535999⟩]), (.seq, [⟨some 93, .bin .neq, [.tmp 86, .tmp 92], some (84, false), true, 27, 134217727⟩]), (.seq, [⟨some 94, .pick, [.tmp 84, .val (.bool true), .tmp 93], none, true, 28, 268435455⟩])]
def F7o10 : IC := .ops F7p10
def F7p11 : List (Sg × List IOp) := [(.seq, [⟨some 6, .move, [.val (.bool false)], none, true, 0, 0⟩])]
def F7o11 : IC := .ops F7p11
def F7p12 : List (Sg × List IOp) := [(.seq, [⟨some 56, .move, [.tmp 13], none, true, 0, 0⟩, ⟨some 57, .bin .add, [.tmp 56, .val (.int .i64 1)], none, true, 0, 0⟩, ⟨some 13, .move, [.tmp 57], none, true, 0, 0⟩])]
def F7o12 : IC := .ops F7p12
def F7l13 : IC := .seq (.seq (F7o8) (.cond (.tmp 55) (.skip) (.exit 0))) (.seq (.block 1 (.seq (F7o9) (.seq (F7o10) (.cond (.tmp 94) (.seq (F7o11) (.ret)) (.skip))))) (F7o12))
def F7p14 : List (Sg × List IOp) := [(.seq, [⟨some 95, .move, [.tmp 2], none, true, 0, 0⟩, ⟨some 96, .bin .rem, [.tmp 95, .val (.int .u8 97)], none, true, 0, 0⟩, ⟨some 97, .conv .i64, [.tmp 96], none, true, 0, 0⟩, ⟨some 98, .bin .mul, [.val (.int .i64 2), .tmp 97], none, true, 0, 0⟩, ⟨some 99, .bin .add, [.val (.int .i64 (-13)), .tmp 98], none, true, 0, 0⟩, ⟨some 15, .move, [.tmp 99], none, true, 0, 0⟩])]
def F7o14 : IC := .ops F7p14
def F7p15 : List (Sg × List IOp) := [(.seq, [⟨some 101, .load (some 2), [.tmp 7], none, true, 0, 0⟩, ⟨some 102, .move, [.tmp 8], none, true, 0, 0⟩, ⟨some 103, .move, [.tmp 15], none, true, 0, 0⟩, ⟨some 104, .call, [.val (.fn 14 [] []), .tmp 101, .tmp 102, .val (.int .u8 1), .tmp 103], none, true, 0, 0⟩, ⟨some 100, .move, [.tmp 104], none, true, 0, 0⟩, ⟨some 105, .extract 0, [.tmp 100], none, true, 0, 0⟩, ⟨some 106, .extract 1, [.tmp 100], none, true, 0, 0⟩, ⟨some 16, .move, [.tmp 105], none, true, 0, 0⟩, ⟨some 10, .move, [.tmp 106], none, true, 0, 0⟩])]
def F7o15 : IC := .ops F7p15
def F7p16 : List (Sg × List IOp) := [(.seq, [⟨some 108, .load (some 2), [.tmp 7], none, true, 0, 0⟩, ⟨some 109, .move, [.tmp 8], none, true, 0, 0⟩, ⟨some 110, .bin .add, [.tmp 109, .val (.int .i64 1)], none, true, 0, 0⟩, ⟨some 111, .move, [.tmp 15], none, true, 0, 0⟩, ⟨some 112, .call, [.val (.fn 14 [] []), .tmp 108, .tmp 110, .val (.int .u8 0), .tmp 111], none, true, 0, 0⟩, ⟨some 107, .move, [.tmp 112], none, true, 0, 0⟩, ⟨some 113, .extract 0, [.tmp 107], none, true, 0, 0⟩, ⟨some 114, .extract 1, [.tmp 107], none, true, 0, 0⟩, ⟨some 17, .move, [.tmp 113], none, true, 0, 0⟩, ⟨some 12, .move, [.tmp 114], none, true, 0, 0⟩])]
def F7o16 : IC := .ops F7p16
def F7p17 : List (Sg × List IOp) := [(.seq, [⟨some 115, .move, [.tmp 10], none, true, 0, 0⟩, ⟨some 116, .bin .neq, [.tmp 115, .val (.int .i64 0)], none, true, 0, 0⟩, ⟨some 117, .move, [.tmp 116], none, true, 0, 0⟩, ⟨some 118, .move, [.tmp 12], some (117, false), true, 0, 0⟩, ⟨some 119, .bin .neq, [.tmp 118, .val (.int .i64 0)], some (117, false), true, 0, 0⟩, ⟨some 120, .pick, [.tmp 117, .val (.bool true), .tmp 119], none, true, 0, 0⟩, ⟨some 121, .move, [.tmp 120], none, true, 0, 0⟩, ⟨some 122, .move, [.tmp 16], some (121, false), true, 0, 0⟩, ⟨some 123, .lenSl, [.tmp 122], some (121, false), true, 0, 0⟩, ⟨some 124, .move, [.tmp 17], some (121, false), true, 0, 0⟩, ⟨some 125, .lenSl, [.tmp 124], some (121, false), true, 0, 0⟩, ⟨some 126, .bin .neq, [.tmp 123, .tmp 125], some (121, false), true, 0, 0⟩, ⟨some 127, .pick, [.tmp 121, .val (.bool true), .tmp 126], none, true, 0, 0⟩])]
def F7o17 : IC := .ops F7p17
def F7p18 : List (Sg × List IOp) := [(.seq, [⟨some 6, .move, [.val (.bool false)], none, true, 0, 0⟩])]
def F7o18 : IC := .ops F7p18
def F7p19 : List (Sg × List IOp) := [(.seq, [⟨some 128, .move, [.tmp 16], none, true, 0, 0⟩, ⟨some 129, .call, [.val (.fn 16 [] []), .tmp 128], none, true, 0, 0⟩, ⟨some 18, .move, [.tmp 129], none, true, 0, 0⟩])]
def F7o19 : IC := .ops F7p19
def F7p20 : List (Sg × List IOp) := [(.seq, [⟨some 19, .move, [.val (.int .i64 0)], none, true, 0, 0⟩])]
def F7o20 : IC := .ops F7p20
def F7p21 : List (Sg × List IOp) := [(.seq, [⟨some 130, .move, [.tmp 19], none, true, 0, 0⟩, ⟨some 131, .move, [.tmp 18], none, true, 0, 0⟩, ⟨some 132, .lenSl, [.tmp 131], none, true, 0, 0⟩, ⟨some 133, .bin .lss, [.tmp 130, .tmp 132], none, true, 0, 0⟩])]
def F7o21 : IC := .ops F7p21
def F7p22 : List (Sg × List IOp) := [(.free, [⟨some 136, .move, [.tmp 18], none, false, 0, 0⟩, ⟨some 137, .move, [.tmp 19], none, false, 1, 0⟩, ⟨some 138, .idxSl 4, [.tmp 136, .tmp 137], none, false, 2, 3⟩, ⟨some 139, .load (some 4), [.tmp 138], none, false, 3, 7⟩, ⟨some 140, .move, [.tmp 17], none, false, 4, 0⟩, ⟨some 141, .move, [.tmp 19], none, false, 5, 0⟩, ⟨some 142, .idxSl 4, [.tmp 140, .tmp 141], none, false, 6, 48⟩, ⟨some 143, .load (some 4), [.tmp 142], none, false, 7, 112⟩]), (.seq, [⟨some 144, .eqFlat true [.int, .int, .bool, .int], [.tmp 139, .tmp 143], none, true, 8, 255⟩])]
def F7o22 : IC := .ops F7p22
def F7p23 : List (Sg × List IOp) := [(.seq, [⟨some 6, .move, [.val (.bool false)], none, true, 0, 0⟩])]
def F7o23 : IC := .ops F7p23
def F7p24 : List (Sg × List IOp) := [(.seq, [⟨some 134, .move, [.tmp 19], none, true, 0, 0⟩, ⟨some 135, .bin .add, [.tmp 134, .val (.int .i64 1)], none, true, 0, 0⟩, ⟨some 19, .move, [.tmp 135], none, true, 0, 0⟩])]
def F7o24 : IC := .ops F7p24
def F7l25 : IC := .seq (.seq (F7o21) (.cond (.tmp 133) (.skip) (.exit 2))) (.seq (.block 3 (.seq (F7o22) (.cond (.tmp 144) (.seq (F7o23) (.ret)) (.skip)))) (F7o24))
def F7p26 : List (Sg × List IOp) := [(.seq, [⟨some 145, .call, [.val (.fn 11 [] [])], none, true, 0, 0⟩, ⟨some 6, .move, [.tmp 145], none, true, 0, 0⟩])]
def F7o26 : IC := .ops F7p26
def F7b : IC := .seq (F7o0) (.seq (F7o1) (.seq (F7o2) (.seq (F7o3) (.seq (F7o4) (.seq (.seq (F7o5) (.cond (.tmp 51) (.seq (F7o6) (.ret)) (.skip))) (.seq (.seq (F7o7) (.block 0 (.loop F7l13))) (.seq (F7o14) (.seq (F7o15) (.seq (F7o16) (.seq (.seq (F7o17) (.cond (.tmp 127) (.seq (F7o18) (.ret)) (.skip))) (.seq (F7o19) (.seq (.seq (F7o20) (.block 2 (.loop F7l25))) (.seq (F7o26) (.ret))))))))))))))
def F7 : IFn := ⟨146, [(6, none)], F7b⟩
/- 9: (gansey/ganseylaw03.B).Of -/
def F9p0 : List (Sg × List IOp) := [(.seq, [⟨some 2, .alloc 26 2 [.nilSlice, .nilSlice], [], none, true, 0, 0⟩])]
def F9o0 : IC := .ops F9p0
def F9p1 : List (Sg × List IOp) := [(.seq, [⟨some 3, .move, [.tmp 0], none, true, 0, 0⟩, ⟨some 4, .call, [.val (.fn 20 [] []), .tmp 3], none, true, 0, 0⟩, ⟨some 5, .call, [.val (.fn 21 [] []), .tmp 4], none, true, 0, 0⟩, ⟨none, .store 2, [.tmp 2, .tmp 5], none, true, 0, 0⟩])]
def F9o1 : IC := .ops F9p1
def F9b : IC := .seq (F9o0) (.seq (F9o1) (.ret))
def F9 : IFn := ⟨6, [(2, some (some 2))], F9b⟩
/- 10: gansey/orders.List -/
def F10p0 : List (Sg × List IOp) := [(.seq, [⟨some 2, .box 26 2, [.tmp 0], none, true, 0, 0⟩, ⟨some 3, .box 3 1, [.tmp 1], none, true, 0, 0⟩, ⟨some 4, .move, [.val (.nilSlice)], none, true, 0, 0⟩, ⟨some 5, .move, [.val (.int .i64 0)], none, true, 0, 0⟩])]
def F10o0 : IC := .ops F10p0
def F10p1 : List (Sg × List IOp) := [(.seq, [⟨some 9, .load (some 2), [.tmp 2], none, true, 0, 0⟩, ⟨some 10, .load none, [.tmp 3], none, true, 0, 0⟩, ⟨some 11, .call, [.val (.fn 22 [] []), .tmp 9, .tmp 10], none, true, 0, 0⟩, ⟨some 6, .move, [.tmp 11], none, true, 0, 0⟩])]
def F10o1 : IC := .ops F10p1
def F10p2 : List (Sg × List IOp) := [(.seq, [⟨some 12, .move, [.tmp 6], none, true, 0, 0⟩, ⟨some 13, .bin .neq, [.tmp 12, .val (.int .i64 0)], none, true, 0, 0⟩])]
def F10o2 : IC := .ops F10p2
def F10p3 : List (Sg × List IOp) := [(.seq, [⟨some 14, .move, [.tmp 6], none, true, 0, 0⟩, ⟨some 4, .move, [.val (.nilSlice)], none, true, 0, 0⟩, ⟨some 5, .move, [.tmp 14], none, true, 0, 0⟩])]
def F10o3 : IC := .ops F10p3
def F10p4 : List (Sg × List IOp) := [(.seq, [⟨some 15, .load (some 2), [.tmp 2], none, true, 0, 0⟩, ⟨some 16, .call, [.val (.fn 23 [] []), .tmp 15], none, true, 0, 0⟩, ⟨some 17, .mksl 40 5 40 [.int .u8 0, .int .i64 0, .int .u8 0, .int .i64 0, .int .i64 0], [.val (.int .i64 0), .tmp 16], none, true, 0, 0⟩, ⟨some 7, .alloc 28 1 [.nilSlice], [], none, true, 0, 0⟩, ⟨none, .store 1, [.tmp 7, .tmp 17], none, true, 0, 0⟩])]
def F10o4 : IC := .ops F10p4
def F10p5 : List (Sg × List IOp) := [(.seq, [⟨some 18, .mkfn 24 0, [.tmp 7, .tmp 3], none, true, 0, 0⟩, ⟨some 8, .move, [.tmp 18], none, true, 0, 0⟩])]
def F10o5 : IC := .ops F10p5
def F10p6 : List (Sg × List IOp) := [(.seq, [⟨some 19, .move, [.tmp 8], none, true, 0, 0⟩, ⟨some 20, .fieldAddr 0, [.tmp 2], none, true, 0, 0⟩, ⟨some 21, .load none, [.tmp 20], none, true, 0, 0⟩, ⟨some 22, .call, [.tmp 19, .val (.int .u8 0), .tmp 21], none, true, 0, 0⟩])]
def F10o6 : IC := .ops F10p6
def F10p7 : List (Sg × List IOp) := [(.seq, [⟨some 23, .move, [.tmp 8], none, true, 0, 0⟩, ⟨some 24, .fieldAddr 1, [.tmp 2], none, true, 0, 0⟩, ⟨some 25, .load none, [.tmp 24], none, true, 0, 0⟩, ⟨some 26, .call, [.tmp 23, .val (.int .u8 1), .tmp 25], none, true, 0, 0⟩])]
def F10o7 : IC := .ops F10p7
def F10p8 : List (Sg × List IOp) := [(.seq, [⟨some 27, .load none, [.tmp 7], none, true, 0, 0⟩, ⟨some 28, .call, [.val (.fn 26 [] []), .tmp 27, .val (.fn 27 [] [])], none, true, 0, 0⟩])]
def F10o8 : IC := .ops F10p8
def F10p9 : List (Sg × List IOp) := [(.seq, [⟨some 29, .load none, [.tmp 7], none, true, 0, 0⟩, ⟨some 30, .call, [.val (.fn 29 [] []), .tmp 29], none, true, 0, 0⟩, ⟨some 4, .move, [.tmp 30], none, true, 0, 0⟩, ⟨some 5, .move, [.val (.int .i64 0)], none, true, 0, 0⟩])]
def F10o9 : IC := .ops F10p9
def F10b : IC := .seq (F10o0) (.seq (.seq (F10o1) (.seq (F10o2) (.cond (.tmp 13) (.seq (F10o3) (.ret)) (.skip)))) (.seq (F10o4) (.seq (F10o5) (.seq (F10o6) (.seq (F10o7) (.seq (F10o8) (.seq (F10o9) (.ret))))))))
def F10 : IFn := ⟨31, [(4, none), (5, none)], F10b⟩
/- 11: gansey/ganseylaw04.lives -/
def F11p0 : List (Sg × List IOp) := [(.seq, [⟨some 0, .move, [.val (.bool false)], none, true, 0, 0⟩])]
def F11o0 : IC := .ops F11p0
def F11p1 : List (Sg × List IOp) := [(.seq, [⟨some 18, .call, [.val (.fn 30 [] [])], none, true, 0, 0⟩, ⟨some 1, .alloc 26 2 [.nilSlice, .nilSlice], [], none, true, 0, 0⟩, ⟨none, .store 2, [.tmp 1, .tmp 18], none, true, 0, 0⟩])]
def F11o1 : IC := .ops F11p1
def F11p2 : List (Sg × List IOp) := [(.seq, [⟨some 20, .load (some 2), [.tmp 1], none, true, 0, 0⟩, ⟨some 21, .call, [.val (.fn 10 [] []), .tmp 20, .val (.int .i64 0)], none, true, 0, 0⟩, ⟨some 19, .move, [.tmp 21], none, true, 0, 0⟩, ⟨some 22, .extract 0, [.tmp 19], none, true, 0, 0⟩, ⟨some 23, .extract 1, [.tmp 19], none, true, 0, 0⟩, ⟨some 2, .move, [.tmp 22], none, true, 0, 0⟩, ⟨some 3, .move, [.tmp 23], none, true, 0, 0⟩])]
def F11o2 : IC := .ops F11p2
def F11p3 : List (Sg × List IOp) := [(.seq, [⟨some 25, .load (some 2), [.tmp 1], none, true, 0, 0⟩, ⟨some 26, .call, [.val (.fn 10 [] []), .tmp 25, .val (.int .i64 1)], none, true, 0, 0⟩, ⟨some 24, .move, [.tmp 26], none, true, 0, 0⟩, ⟨some 27, .extract 0, [.tmp 24], none, true, 0, 0⟩, ⟨some 28, .extract 1, [.tmp 24], none, true, 0, 0⟩, ⟨some 4, .move, [.tmp 27], none, true, 0, 0⟩, ⟨some 5, .move, [.tmp 28], none, true, 0, 0⟩])]
def F11o3 : IC := .ops F11p3
def F11p4 : List (Sg × List IOp) := [(.seq, [⟨some 30, .load (some 2), [.tmp 1], none, true, 0, 0⟩, ⟨some 31, .call, [.val (.fn 13 [] []), .tmp 30, .val (.int .i64 0), .val (.int .u8 1)], none, true, 0, 0⟩, ⟨some 29, .move, [.tmp 31], none, true, 0, 0⟩, ⟨some 32, .extract 0, [.tmp 29], none, true, 0, 0⟩, ⟨some 33, .extract 1, [.tmp 29], none, true, 0, 0⟩, ⟨some 6, .move, [.tmp 32], none, true, 0, 0⟩, ⟨some 7, .move, [.tmp 33], none, true, 0, 0⟩])]
def F11o4 : IC := .ops F11p4
def F11p5 : List (Sg × List IOp) := [(.seq, [⟨some 35, .load (some 2), [.tmp 1], none, true, 0, 0⟩, ⟨some 36, .call, [.val (.fn 13 [] []), .tmp 35, .val (.int .i64 1), .val (.int .u8 0)], none, true, 0, 0⟩, ⟨some 34, .move, [.tmp 36], none, true, 0, 0⟩, ⟨some 37, .extract 0, [.tmp 34], none, true, 0, 0⟩, ⟨some 38, .extract 1, [.tmp 34], none, true, 0, 0⟩, ⟨some 8, .move, [.tmp 37], none, true, 0, 0⟩, ⟨some 9, .move, [.tmp 38], none, true, 0, 0⟩])]
def F11o5 : IC := .ops F11p5
def F11p6 : List (Sg × List IOp) := [(.seq, [⟨some 40, .load (some 2), [.tmp 1], none, true, 0, 0⟩, ⟨some 41, .call, [.val (.fn 13 [] []), .tmp 40, .val (.int .i64 4), .val (.int .u8 1)], none, true, 0, 0⟩, ⟨some 39, .move, [.tmp 41], none, true, 0, 0⟩, ⟨some 42, .extract 0, [.tmp 39], none, true, 0, 0⟩, ⟨some 43, .extract 1, [.tmp 39], none, true, 0, 0⟩, ⟨some 10, .move, [.tmp 42], none, true, 0, 0⟩, ⟨some 11, .move, [.tmp 43], none, true, 0, 0⟩])]
def F11o6 : IC := .ops F11p6
def F11p7 : List (Sg × List IOp) := [(.seq, [⟨some 44, .move, [.tmp 3], none, true, 0, 0⟩, ⟨some 45, .bin .neq, [.tmp 44, .val (.int .i64 0)], none, true, 0, 0⟩, ⟨some 46, .move, [.tmp 45], none, true, 0, 0⟩, ⟨some 47, .move, [.tmp 5], some (46, false), true, 0, 0⟩, ⟨some 48, .bin .neq, [.tmp 47, .val (.int .i64 0)], some (46, false), true, 0, 0⟩, ⟨some 49, .pick, [.tmp 46, .val (.bool true), .tmp 48], none, true, 0, 0⟩, ⟨some 50, .move, [.tmp 49], none, true, 0, 0⟩, ⟨some 51, .move, [.tmp 7], some (50, false), true, 0, 0⟩, ⟨some 52, .bin .neq, [.tmp 51, .val (.int .i64 0)], some (50, false), true, 0, 0⟩, ⟨some 53, .pick, [.tmp 50, .val (.bool true), .tmp 52], none, true, 0, 0⟩, ⟨some 54, .move, [.tmp 53], none, true, 0, 0⟩, ⟨some 55, .move, [.tmp 9], some (54, false), true, 0, 0⟩, ⟨some 56, .bin .neq, [.tmp 55, .val (.int .i64 0)], some (54, false), true, 0, 0⟩, ⟨some 57, .pick, [.tmp 54, .val (.bool true), .tmp 56], none, true, 0, 0⟩, ⟨some 58, .move, [.tmp 57], none, true, 0, 0⟩, ⟨some 59, .move, [.tmp 11], some (58, false), true, 0, 0⟩, ⟨some 60, .bin .neq, [.tmp 59, .val (.int .i64 11)], some (58, false), true, 0, 0⟩, ⟨some 61, .pick, [.tmp 58, .val (.bool true), .tmp 60], none, true, 0, 0⟩, ⟨some 62, .move, [.tmp 61], none, true, 0, 0⟩, ⟨some 63, .move, [.tmp 2], some (62, false), true, 0, 0⟩, ⟨some 64, .call, [.val (.fn 32 [] []), .tmp 63], some (62, false), true, 0, 0⟩, ⟨some 65, .call, [.val (.fn 31 [] []), .tmp 64], some (62, false), true, 0, 0⟩, ⟨some 66, .bin .neq, [.tmp 65, .val (.str [50, 46, 48, 32, 50, 46, 49, 32, 49, 46, 48, 32, 49, 46, 49, 32, 50, 46, 50, 32])], some (62, false), true, 0, 0⟩, ⟨some 67, .pick, [.tmp 62, .val (.bool true), .tmp 66], none, true, 0, 0⟩, ⟨some 68, .move, [.tmp 67], none, true, 0, 0⟩, ⟨some 69, .move, [.tmp 4], some (68, false), true, 0, 0⟩, ⟨some 70, .call, [.val (.fn 32 [] []), .tmp 69], some (68, false), true, 0, 0⟩, ⟨some 71, .call, [.val (.fn 31 [] []), .tmp 70], some (68, false), true, 0, 0⟩, ⟨some 72, .bin .neq, [.tmp 71, .val (.str [49, 46, 48, 32, 49, 46, 49, 32, 50, 46, 48, 32, 50, 46, 49, 32, 50, 46, 50, 32])], some (68, false), true, 0, 0⟩, ⟨some 73, .pick, [.tmp 68, .val (.bool true), .tmp 72], none, true, 0, 0⟩, ⟨some 74, .move, [.tmp 73], none, true, 0, 0⟩, ⟨some 75, .move, [.tmp 6], some (74, false), true, 0, 0⟩, ⟨some 76, .lenSl, [.tmp 75], some (74, false), true, 0, 0⟩, ⟨some 77, .bin .neq, [.tmp 76, .val (.int .i64 4)], some (74, false), true, 0, 0⟩, ⟨some 78, .pick, [.tmp 74, .val (.bool true), .tmp 77], none, true, 0, 0⟩, ⟨some 79, .move, [.tmp 78], none, true, 0, 0⟩, ⟨some 80, .move, [.tmp 8], some (79, false), true, 0, 0⟩, ⟨some 81, .lenSl, [.tmp 80], some (79, false), true, 0, 0⟩, ⟨some 82, .bin .neq, [.tmp 81, .val (.int .i64 4)], some (79, false), true, 0, 0⟩, ⟨some 83, .pick, [.tmp 79, .val (.bool true), .tmp 82], none, true, 0, 0⟩])]
def F11o7 : IC := .ops F11p7
def F11p8 : List (Sg × List IOp) := [(.seq, [⟨some 0, .move, [.val (.bool false)], none, true, 0, 0⟩])]
def F11o8 : IC := .ops F11p8
def F11p9 : List (Sg × List IOp) := [(.seq, [⟨some 12, .move, [.val (.nilSlice)], none, true, 0, 0⟩, ⟨some 13, .move, [.val (.nilSlice)], none, true, 0, 0⟩])]
def F11o9 : IC := .ops F11p9
def F11p10 : List (Sg × List IOp) := [(.seq, [⟨some 14, .move, [.val (.int .i64 0)], none, true, 0, 0⟩])]
def F11o10 : IC := .ops F11p10
def F11p11 : List (Sg × List IOp) := [(.seq, [⟨some 84, .move, [.tmp 14], none, true, 0, 0⟩, ⟨some 85, .bin .lss, [.tmp 84, .val (.int .i64 4)], none, true, 0, 0⟩])]
def F11o11 : IC := .ops F11p11
def F11p12 : List (Sg × List IOp) := [(.free, [⟨some 88, .move, [.tmp 12], none, false, 0, 0⟩, ⟨some 89, .move, [.tmp 6], none, false, 1, 0⟩, ⟨some 90, .move, [.tmp 14], none, false, 2, 0⟩, ⟨some 91, .idxSl 5, [.tmp 89, .tmp 90], none, false, 3, 6⟩, ⟨some 92, .fieldAddr 0, [.tmp 91], none, false, 4, 14⟩, ⟨some 93, .load (some 2), [.tmp 92], none, false, 5, 30⟩, ⟨some 94, .move, [.tmp 6], none, false, 6, 0⟩, ⟨some 95, .move, [.tmp 14], none, false, 7, 0⟩, ⟨some 96, .idxSl 5, [.tmp 94, .tmp 95], none, false, 8, 192⟩, ⟨some 97, .fieldAddr 2, [.tmp 96], none, false, 9, 448⟩, ⟨some 98, .load (some 2), [.tmp 97], none, false, 10, 960⟩, ⟨some 99, .buildSl 35 2 2 [.int .u8 0, .int .i64 0, .int .u8 0, .int .i64 0] [(0, 2), (2, 2)], [.tmp 93, .tmp 98], none, true, 11, 2046⟩]), (.seq, [⟨some 100, .append 35 2 16, [.tmp 88, .tmp 99], none, true, 12, 4095⟩]), (.seq, [⟨some 12, .move, [.tmp 100], none, true, 13, 8191⟩])]
def F11o12 : IC := .ops F11p12
def F11p13 : List (Sg × List IOp) := [(.free, [⟨some 101, .move, [.tmp 13], none, false, 0, 0⟩, ⟨some 102, .move, [.tmp 8], none, false, 1, 0⟩, ⟨some 103, .move, [.tmp 14], none, false, 2, 0⟩, ⟨some 104, .idxSl 5, [.tmp 102, .tmp 103], none, false, 3, 6⟩, ⟨some 105, .fieldAddr 0, [.tmp 104], none, false, 4, 14⟩, ⟨some 106, .load (some 2), [.tmp 105], none, false, 5, 30⟩, ⟨some 107, .move, [.tmp 8], none, false, 6, 0⟩, ⟨some 108, .move, [.tmp 14], none, false, 7, 0⟩, ⟨some 109, .idxSl 5, [.tmp 107, .tmp 108], none, false, 8, 192⟩, ⟨some 110, .fieldAddr 2, [.tmp 109], none, false, 9, 448⟩, ⟨some 111, .load (some 2), [.tmp 110], none, false, 10, 960⟩, ⟨some 112, .buildSl 35 2 2 [.int .u8 0, .int .i64 0, .int .u8 0, .int .i64 0] [(0, 2), (2, 2)], [.tmp 106, .tmp 111], none, true, 11, 2046⟩]), (.seq, [⟨some 113, .append 35 2 16, [.tmp 101, .tmp 112], none, true, 12, 4095⟩]), (.seq, [⟨some 13, .move, [.tmp 113], none, true, 13, 8191⟩])]
def F11o13 : IC := .ops F11p13
def F11p14 : List (Sg × List IOp) := [(.seq, [⟨some 114, .move, [.tmp 6], none, true, 0, 0⟩, ⟨some 115, .move, [.tmp 14], none, true, 0, 0⟩, ⟨some 116, .idxSl 5, [.tmp 114, .tmp 115], none, true, 0, 0⟩, ⟨some 117, .fieldAddr 4, [.tmp 116], none, true, 0, 0⟩, ⟨some 118, .load none, [.tmp 117], none, true, 0, 0⟩, ⟨some 119, .bin .neq, [.tmp 118, .val (.int .i64 (-1))], none, true, 0, 0⟩, ⟨some 120, .move, [.tmp 119], none, true, 0, 0⟩, ⟨some 121, .move, [.tmp 8], some (120, false), true, 0, 0⟩, ⟨some 122, .move, [.tmp 14], some (120, false), true, 0, 0⟩, ⟨some 123, .idxSl 5, [.tmp 121, .tmp 122], some (120, false), true, 0, 0⟩, ⟨some 124, .fieldAddr 4, [.tmp 123], some (120, false), true, 0, 0⟩, ⟨some 125, .load none, [.tmp 124], some (120, false), true, 0, 0⟩, ⟨some 126, .bin .neq, [.tmp 125, .val (.int .i64 1)], some (120, false), true, 0, 0⟩, ⟨some 127, .pick, [.tmp 120, .val (.bool true), .tmp 126], none, true, 0, 0⟩])]
def F11o14 : IC := .ops F11p14
def F11p15 : List (Sg × List IOp) := [(.seq, [⟨some 0, .move, [.val (.bool false)], none, true, 0, 0⟩])]
def F11o15 : IC := .ops F11p15
def F11p16 : List (Sg × List IOp) := [(.seq, [⟨some 86, .move, [.tmp 14], none, true, 0, 0⟩, ⟨some 87, .bin .add, [.tmp 86, .val (.int .i64 1)], none, true, 0, 0⟩, ⟨some 14, .move, [.tmp 87], none, true, 0, 0⟩])]
def F11o16 : IC := .ops F11p16
def F11l17 : IC := .seq (.seq (F11o11) (.cond (.tmp 85) (.skip) (.exit 0))) (.seq (.block 1 (.seq (F11o12) (.seq (F11o13) (.seq (F11o14) (.cond (.tmp 127) (.seq (F11o15) (.ret)) (.skip)))))) (F11o16))
def F11p18 : List (Sg × List IOp) := [(.seq, [⟨some 128, .move, [.tmp 12], none, true, 0, 0⟩, ⟨some 129, .call, [.val (.fn 31 [] []), .tmp 128], none, true, 0, 0⟩, ⟨some 130, .bin .neq, [.tmp 129, .val (.str [50, 46, 49, 32, 49, 46, 48, 32, 50, 46, 49, 32, 49, 46, 49, 32, 50, 46, 48, 32, 49, 46, 48, 32, 50, 46, 48, 32, 49, 46, 49, 32])], none, true, 0, 0⟩, ⟨some 131, .move, [.tmp 130], none, true, 0, 0⟩, ⟨some 132, .move, [.tmp 13], some (131, false), true, 0, 0⟩, ⟨some 133, .call, [.val (.fn 31 [] []), .tmp 132], some (131, false), true, 0, 0⟩, ⟨some 134, .bin .neq, [.tmp 133, .val (.str [49, 46, 49, 32, 50, 46, 48, 32, 49, 46, 48, 32, 50, 46, 48, 32, 49, 46, 49, 32, 50, 46, 49, 32, 49, 46, 48, 32, 50, 46, 49, 32])], some (131, false), true, 0, 0⟩, ⟨some 135, .pick, [.tmp 131, .val (.bool true), .tmp 134], none, true, 0, 0⟩])]
def F11o18 : IC := .ops F11p18
def F11p19 : List (Sg × List IOp) := [(.seq, [⟨some 0, .move, [.val (.bool false)], none, true, 0, 0⟩])]
def F11o19 : IC := .ops F11p19
def F11p20 : List (Sg × List IOp) := [(.seq, [⟨some 136, .move, [.tmp 2], none, true, 0, 0⟩, ⟨some 137, .call, [.val (.fn 17 [] []), .tmp 136, .val (.int .i64 (-13)), .val (.int .i64 11)], none, true, 0, 0⟩, ⟨some 15, .move, [.tmp 137], none, true, 0, 0⟩])]
def F11o20 : IC := .ops F11p20
def F11p21 : List (Sg × List IOp) := [(.seq, [⟨some 138, .move, [.tmp 2], none, true, 0, 0⟩, ⟨some 139, .call, [.val (.fn 17 [] []), .tmp 138, .val (.int .i64 11), .val (.int .i64 9)], none, true, 0, 0⟩, ⟨some 16, .move, [.tmp 139], none, true, 0, 0⟩])]
def F11o21 : IC := .ops F11p21
def F11p22 : List (Sg × List IOp) := [(.seq, [⟨some 140, .move, [.tmp 15], none, true, 0, 0⟩, ⟨some 141, .call, [.val (.fn 18 [] []), .tmp 140], none, true, 0, 0⟩, ⟨some 142, .bin .neq, [.tmp 141, .val (.str [50, 46, 48, 43, 62, 32, 50, 46, 49, 43, 62, 32, 49, 46, 48, 62, 32, 49, 46, 49, 62, 32])], none, true, 0, 0⟩, ⟨some 143, .move, [.tmp 142], none, true, 0, 0⟩, ⟨some 144, .move, [.tmp 16], some (143, false), true, 0, 0⟩, ⟨some 145, .call, [.val (.fn 18 [] []), .tmp 144], some (143, false), true, 0, 0⟩, ⟨some 146, .bin .neq, [.tmp 145, .val (.str [49, 46, 49, 60, 32, 49, 46, 48, 60, 32])], some (143, false), true, 0, 0⟩, ⟨some 147, .pick, [.tmp 143, .val (.bool true), .tmp 146], none, true, 0, 0⟩])]
def F11o22 : IC := .ops F11p22
def F11p23 : List (Sg × List IOp) := [(.seq, [⟨some 0, .move, [.val (.bool false)], none, true, 0, 0⟩])]
def F11o23 : IC := .ops F11p23
def F11p24 : List (Sg × List IOp) := [(.seq, [⟨some 149, .load (some 2), [.tmp 1], none, true, 0, 0⟩, ⟨some 150, .call, [.val (.fn 14 [] []), .tmp 149, .val (.int .i64 0), .val (.int .u8 1), .val (.int .i64 9)], none, true, 0, 0⟩, ⟨some 148, .move, [.tmp 150], none, true, 0, 0⟩, ⟨some 151, .extract 0, [.tmp 148], none, true, 0, 0⟩, ⟨some 152, .extract 1, [.tmp 148], none, true, 0, 0⟩, ⟨some 15, .move, [.tmp 151], none, true, 0, 0⟩, ⟨some 3, .move, [.tmp 152], none, true, 0, 0⟩])]
def F11o24 : IC := .ops F11p24
def F11p25 : List (Sg × List IOp) := [(.seq, [⟨some 154, .load (some 2), [.tmp 1], none, true, 0, 0⟩, ⟨some 155, .call, [.val (.fn 14 [] []), .tmp 154, .val (.int .i64 0), .val (.int .u8 1), .val (.int .i64 11)], none, true, 0, 0⟩, ⟨some 153, .move, [.tmp 155], none, true, 0, 0⟩, ⟨some 156, .extract 0, [.tmp 153], none, true, 0, 0⟩, ⟨some 157, .extract 1, [.tmp 153], none, true, 0, 0⟩, ⟨some 16, .move, [.tmp 156], none, true, 0, 0⟩, ⟨some 5, .move, [.tmp 157], none, true, 0, 0⟩])]
def F11o25 : IC := .ops F11p25
def F11p26 : List (Sg × List IOp) := [(.seq, [⟨some 159, .load (some 2), [.tmp 1], none, true, 0, 0⟩, ⟨some 160, .call, [.val (.fn 14 [] []), .tmp 159, .val (.int .i64 0), .val (.int .u8 1), .val (.int .i64 13)], none, true, 0, 0⟩, ⟨some 158, .move, [.tmp 160], none, true, 0, 0⟩, ⟨some 161, .extract 0, [.tmp 158], none, true, 0, 0⟩, ⟨some 162, .extract 1, [.tmp 158], none, true, 0, 0⟩, ⟨some 17, .move, [.tmp 161], none, true, 0, 0⟩, ⟨some 7, .move, [.tmp 162], none, true, 0, 0⟩])]
def F11o26 : IC := .ops F11p26
def F11p27 : List (Sg × List IOp) := [(.seq, [⟨some 163, .move, [.tmp 15], none, true, 0, 0⟩, ⟨some 164, .call, [.val (.fn 18 [] []), .tmp 163], none, true, 0, 0⟩, ⟨some 165, .bin .eql, [.tmp 164, .val (.str [50, 46, 49, 43, 60, 32, 50, 46, 48, 43, 60, 32])], none, true, 0, 0⟩, ⟨some 166, .move, [.tmp 165], none, true, 0, 0⟩, ⟨some 167, .move, [.tmp 16], some (166, true), true, 0, 0⟩, ⟨some 168, .call, [.val (.fn 18 [] []), .tmp 167], some (166, true), true, 0, 0⟩, ⟨some 169, .move, [.tmp 15], some (166, true), true, 0, 0⟩, ⟨some 170, .call, [.val (.fn 18 [] []), .tmp 169], some (166, true), true, 0, 0⟩, ⟨some 171, .bin .eql, [.tmp 168, .tmp 170], some (166, true), true, 0, 0⟩, ⟨some 172, .pick, [.tmp 166, .tmp 171, .val (.bool false)], none, true, 0, 0⟩, ⟨some 173, .move, [.tmp 172], none, true, 0, 0⟩, ⟨some 174, .move, [.tmp 17], some (173, true), true, 0, 0⟩, ⟨some 175, .lenSl, [.tmp 174], some (173, true), true, 0, 0⟩, ⟨some 176, .bin .eql, [.tmp 175, .val (.int .i64 0)], some (173, true), true, 0, 0⟩, ⟨some 177, .pick, [.tmp 173, .tmp 176, .val (.bool false)], none, true, 0, 0⟩, ⟨some 178, .move, [.tmp 177], none, true, 0, 0⟩, ⟨some 179, .move, [.tmp 3], some (178, true), true, 0, 0⟩, ⟨some 180, .bin .eql, [.tmp 179, .val (.int .i64 0)], some (178, true), true, 0, 0⟩, ⟨some 181, .pick, [.tmp 178, .tmp 180, .val (.bool false)], none, true, 0, 0⟩, ⟨some 182, .move, [.tmp 181], none, true, 0, 0⟩, ⟨some 183, .move, [.tmp 5], some (182, true), true, 0, 0⟩, ⟨some 184, .bin .eql, [.tmp 183, .val (.int .i64 0)], some (182, true), true, 0, 0⟩, ⟨some 185, .pick, [.tmp 182, .tmp 184, .val (.bool false)], none, true, 0, 0⟩, ⟨some 186, .move, [.tmp 185], none, true, 0, 0⟩, ⟨some 187, .move, [.tmp 7], some (186, true), true, 0, 0⟩, ⟨some 188, .bin .eql, [.tmp 187, .val (.int .i64 0)], some (186, true), true, 0, 0⟩, ⟨some 189, .pick, [.tmp 186, .tmp 188, .val (.bool false)], none, true, 0, 0⟩, ⟨some 0, .move, [.tmp 189], none, true, 0, 0⟩])]
def F11o27 : IC := .ops F11p27
def F11b : IC := .seq (F11o0) (.seq (F11o1) (.seq (F11o2) (.seq (F11o3) (.seq (F11o4) (.seq (F11o5) (.seq (F11o6) (.seq (.seq (F11o7) (.cond (.tmp 83) (.seq (F11o8) (.ret)) (.skip))) (.seq (F11o9) (.seq (.seq (F11o10) (.block 0 (.loop F11l17))) (.seq (.seq (F11o18) (.cond (.tmp 135) (.seq (F11o19) (.ret)) (.skip))) (.seq (F11o20) (.seq (F11o21) (.seq (.seq (F11o22) (.cond (.tmp 147) (.seq (F11o23) (.ret)) (.skip))) (.seq (F11o24) (.seq (F11o25) (.seq (F11o26) (.seq (F11o27) (.ret))))))))))))))))))
def F11 : IFn := ⟨190, [(0, none)], F11b⟩
/- 13: gansey/orders.Step -/
def F13p0 : List (Sg × List IOp) := [(.seq, [⟨some 3, .box 26 2, [.tmp 0], none, true, 0, 0⟩, ⟨some 6, .move, [.val (.nilSlice)], none, true, 0, 0⟩, ⟨some 7, .move, [.val (.int .i64 0)], none, true, 0, 0⟩])]
def F13o0 : IC := .ops F13p0
def F13p1 : List (Sg × List IOp) := [(.seq, [⟨some 18, .load (some 2), [.tmp 3], none, true, 0, 0⟩, ⟨some 19, .move, [.tmp 1], none, true, 0, 0⟩, ⟨some 20, .move, [.tmp 2], none, true, 0, 0⟩, ⟨some 21, .call, [.val (.fn 35 [] []), .tmp 18, .tmp 19, .tmp 20], none, true, 0, 0⟩, ⟨some 8, .move, [.tmp 21], none, true, 0, 0⟩])]
def F13o1 : IC := .ops F13p1
def F13p2 : List (Sg × List IOp) := [(.seq, [⟨some 22, .move, [.tmp 8], none, true, 0, 0⟩, ⟨some 23, .bin .neq, [.tmp 22, .val (.int .i64 0)], none, true, 0, 0⟩])]
def F13o2 : IC := .ops F13p2
def F13p3 : List (Sg × List IOp) := [(.seq, [⟨some 24, .move, [.tmp 8], none, true, 0, 0⟩, ⟨some 6, .move, [.val (.nilSlice)], none, true, 0, 0⟩, ⟨some 7, .move, [.tmp 24], none, true, 0, 0⟩])]
def F13o3 : IC := .ops F13p3
def F13p4 : List (Sg × List IOp) := [(.seq, [⟨some 9, .move, [.val (.nilSlice)], none, true, 0, 0⟩])]
def F13o4 : IC := .ops F13p4
def F13p5 : List (Sg × List IOp) := [(.seq, [⟨some 25, .fieldAddr 1, [.tmp 3], none, true, 0, 0⟩, ⟨some 26, .load none, [.tmp 25], none, true, 0, 0⟩, ⟨some 27, .lenSl, [.tmp 26], none, true, 0, 0⟩, ⟨some 28, .move, [.val (.int .i64 0)], none, true, 0, 0⟩])]
def F13o5 : IC := .ops F13p5
def F13p6 : List (Sg × List IOp) := [(.seq, [⟨some 29, .bin .lss, [.tmp 28, .tmp 27], none, true, 0, 0⟩])]
def F13o6 : IC := .ops F13p6
def F13p7 : List (Sg × List IOp) := [(.seq, [⟨some 30, .move, [.tmp 28], none, true, 0, 0⟩, ⟨some 31, .idxSl 1, [.tmp 26, .tmp 28], none, true, 0, 0⟩, ⟨some 32, .load none, [.tmp 31], none, true, 0, 0⟩, ⟨some 10, .move, [.tmp 30], none, true, 0, 0⟩, ⟨some 11, .move, [.tmp 32], none, true, 0, 0⟩])]
def F13o7 : IC := .ops F13p7
def F13p8 : List (Sg × List IOp) := [(.seq, [⟨some 33, .move, [.tmp 10], none, true, 0, 0⟩, ⟨some 34, .bin .add, [.tmp 33, .val (.int .i64 1)], none, true, 0, 0⟩, ⟨some 35, .move, [.tmp 1], none, true, 0, 0⟩, ⟨some 36, .bin .add, [.tmp 34, .tmp 35], none, true, 0, 0⟩, ⟨some 12, .move, [.tmp 36], none, true, 0, 0⟩])]
def F13o8 : IC := .ops F13p8
def F13p9 : List (Sg × List IOp) := [(.seq, [⟨some 37, .move, [.tmp 2], none, true, 0, 0⟩, ⟨some 38, .bin .eql, [.tmp 37, .val (.int .u8 0)], none, true, 0, 0⟩])]
def F13o9 : IC := .ops F13p9
def F13p10 : List (Sg × List IOp) := [(.seq, [⟨some 39, .move, [.tmp 12], none, true, 0, 0⟩, ⟨some 40, .bin .sub, [.tmp 39, .val (.int .i64 1)], none, true, 0, 0⟩, ⟨some 12, .move, [.tmp 40], none, true, 0, 0⟩])]
def F13o10 : IC := .ops F13p10
def F13p11 : List (Sg × List IOp) := [(.seq, [⟨some 41, .load (some 2), [.tmp 3], none, true, 0, 0⟩, ⟨some 42, .move, [.tmp 12], none, true, 0, 0⟩, ⟨some 43, .build [.int .u8 0, .int .i64 0] [(0, 1), (1, 1)], [.val (.int .u8 0), .tmp 42], none, true, 0, 0⟩, ⟨some 44, .call, [.val (.fn 34 [] []), .tmp 41, .tmp 43], none, true, 0, 0⟩, ⟨some 13, .move, [.tmp 44], none, true, 0, 0⟩])]
def F13o11 : IC := .ops F13p11
def F13p12 : List (Sg × List IOp) := [(.seq, [⟨some 45, .move, [.tmp 13], none, true, 0, 0⟩, ⟨some 46, .call, [.val (.fn 36 [] []), .tmp 45], none, true, 0, 0⟩])]
def F13o12 : IC := .ops F13p12
def F13p13 : List (Sg × List IOp) := [(.seq, [⟨some 47, .move, [.tmp 11], none, true, 0, 0⟩, ⟨some 48, .lenSl, [.tmp 47], none, true, 0, 0⟩, ⟨some 49, .move, [.val (.int .i64 0)], none, true, 0, 0⟩])]
def F13o13 : IC := .ops F13p13
def F13p14 : List (Sg × List IOp) := [(.seq, [⟨some 50, .bin .lss, [.tmp 49, .tmp 48], none, true, 0, 0⟩])]
def F13o14 : IC := .ops F13p14
def F13p15 : List (Sg × List IOp) := [(.seq, [⟨some 51, .idxSl 2, [.tmp 47, .tmp 49], none, true, 0, 0⟩, ⟨some 52, .load (some 2), [.tmp 51], none, true, 0, 0⟩, ⟨some 15, .alloc 35 2 [.int .u8 0, .int .i64 0], [], none, true, 0, 0⟩, ⟨none, .store 2, [.tmp 15, .tmp 52], none, true, 0, 0⟩])]
def F13o15 : IC := .ops F13p15
def F13p16 : List (Sg × List IOp) := [(.seq, [⟨some 53, .move, [.tmp 13], none, true, 0, 0⟩, ⟨some 54, .lenSl, [.tmp 53], none, true, 0, 0⟩, ⟨some 55, .move, [.val (.int .i64 0)], none, true, 0, 0⟩])]
def F13o16 : IC := .ops F13p16
def F13p17 : List (Sg × List IOp) := [(.seq, [⟨some 56, .bin .lss, [.tmp 55, .tmp 54], none, true, 0, 0⟩])]
def F13o17 : IC := .ops F13p17
def F13p18 : List (Sg × List IOp) := [(.seq, [⟨some 57, .idxSl 2, [.tmp 53, .tmp 55], none, true, 0, 0⟩, ⟨some 58, .load (some 2), [.tmp 57], none, true, 0, 0⟩, ⟨some 17, .alloc 35 2 [.int .u8 0, .int .i64 0], [], none, true, 0, 0⟩, ⟨none, .store 2, [.tmp 17, .tmp 58], none, true, 0, 0⟩])]
def F13o18 : IC := .ops F13p18
def F13p19 : List (Sg × List IOp) := [(.seq, [⟨some 59, .move, [.tmp 2], none, true, 0, 0⟩, ⟨some 60, .bin .eql, [.tmp 59, .val (.int .u8 0)], none, true, 0, 0⟩])]
def F13o19 : IC := .ops F13p19
def F13p20 : List (Sg × List IOp) := [(.seq, [⟨some 61, .move, [.tmp 9], none, true, 0, 0⟩, ⟨some 62, .load (some 2), [.tmp 17], none, true, 0, 0⟩, ⟨some 63, .load (some 2), [.tmp 15], none, true, 0, 0⟩, ⟨some 64, .build [.int .u8 0, .int .i64 0, .int .u8 0, .int .i64 0, .int .i64 0] [(0, 2), (2, 2), (4, 1)], [.tmp 62, .tmp 63, .val (.int .i64 1)], none, true, 0, 0⟩, ⟨some 65, .buildSl 47 5 1 [.int .u8 0, .int .i64 0, .int .u8 0, .int .i64 0, .int .i64 0] [(0, 5)], [.tmp 64], none, true, 0, 0⟩, ⟨some 66, .append 47 5 40, [.tmp 61, .tmp 65], none, true, 0, 0⟩, ⟨some 9, .move, [.tmp 66], none, true, 0, 0⟩])]
def F13o20 : IC := .ops F13p20
def F13p21 : List (Sg × List IOp) := [(.seq, [⟨some 67, .move, [.tmp 9], none, true, 0, 0⟩, ⟨some 68, .load (some 2), [.tmp 15], none, true, 0, 0⟩, ⟨some 69, .load (some 2), [.tmp 17], none, true, 0, 0⟩, ⟨some 70, .build [.int .u8 0, .int .i64 0, .int .u8 0, .int .i64 0, .int .i64 0] [(0, 2), (2, 2), (4, 1)], [.tmp 68, .tmp 69, .val (.int .i64 (-1))], none, true, 0, 0⟩, ⟨some 71, .buildSl 47 5 1 [.int .u8 0, .int .i64 0, .int .u8 0, .int .i64 0, .int .i64 0] [(0, 5)], [.tmp 70], none, true, 0, 0⟩, ⟨some 72, .append 47 5 40, [.tmp 67, .tmp 71], none, true, 0, 0⟩, ⟨some 9, .move, [.tmp 72], none, true, 0, 0⟩])]
def F13o21 : IC := .ops F13p21
def F13p22 : List (Sg × List IOp) := [(.seq, [⟨some 73, .bin .add, [.tmp 55, .val (.int .i64 1)], none, true, 0, 0⟩, ⟨some 55, .move, [.tmp 73], none, true, 0, 0⟩])]
def F13o22 : IC := .ops F13p22
def F13l23 : IC := .seq (F13o17) (.seq (.cond (.tmp 56) (.skip) (.exit 4)) (.seq (.block 5 (.seq (F13o18) (.seq (F13o19) (.cond (.tmp 60) (F13o20) (F13o21))))) (F13o22)))
def F13p24 : List (Sg × List IOp) := [(.seq, [⟨some 74, .bin .add, [.tmp 49, .val (.int .i64 1)], none, true, 0, 0⟩, ⟨some 49, .move, [.tmp 74], none, true, 0, 0⟩])]
def F13o24 : IC := .ops F13p24
def F13l25 : IC := .seq (F13o14) (.seq (.cond (.tmp 50) (.skip) (.exit 2)) (.seq (.block 3 (.seq (F13o15) (.seq (F13o16) (.block 4 (.loop F13l23))))) (F13o24)))
def F13p26 : List (Sg × List IOp) := [(.seq, [⟨some 75, .bin .add, [.tmp 28, .val (.int .i64 1)], none, true, 0, 0⟩, ⟨some 28, .move, [.tmp 75], none, true, 0, 0⟩])]
def F13o26 : IC := .ops F13p26
def F13l27 : IC := .seq (F13o6) (.seq (.cond (.tmp 29) (.skip) (.exit 0)) (.seq (.block 1 (.seq (F13o7) (.seq (F13o8) (.seq (.seq (F13o9) (.cond (.tmp 38) (F13o10) (.skip))) (.seq (F13o11) (.seq (F13o12) (.seq (F13o13) (.block 2 (.loop F13l25))))))))) (F13o26)))
def F13p28 : List (Sg × List IOp) := [(.seq, [⟨some 76, .move, [.tmp 2], none, true, 0, 0⟩, ⟨some 77, .bin .eql, [.tmp 76, .val (.int .u8 1)], none, true, 0, 0⟩])]
def F13o28 : IC := .ops F13p28
def F13p29 : List (Sg × List IOp) := [(.seq, [⟨some 78, .move, [.tmp 9], none, true, 0, 0⟩, ⟨some 79, .call, [.val (.fn 37 [] []), .tmp 78], none, true, 0, 0⟩])]
def F13o29 : IC := .ops F13p29
def F13p30 : List (Sg × List IOp) := [(.seq, [⟨some 80, .move, [.tmp 9], none, true, 0, 0⟩, ⟨some 81, .call, [.val (.fn 38 [] []), .tmp 80], none, true, 0, 0⟩, ⟨some 6, .move, [.tmp 81], none, true, 0, 0⟩, ⟨some 7, .move, [.val (.int .i64 0)], none, true, 0, 0⟩])]
def F13o30 : IC := .ops F13p30
def F13b : IC := .seq (F13o0) (.seq (.seq (F13o1) (.seq (F13o2) (.cond (.tmp 23) (.seq (F13o3) (.ret)) (.skip)))) (.seq (F13o4) (.seq (.seq (F13o5) (.block 0 (.loop F13l27))) (.seq (.seq (F13o28) (.cond (.tmp 77) (F13o29) (.skip))) (.seq (F13o30) (.ret))))))
def F13 : IFn := ⟨82, [(6, none), (7, none)], F13b⟩
/- 14: gansey/orders.Meets -/
def F14p0 : List (Sg × List IOp) := [(.seq, [⟨some 4, .box 26 2, [.tmp 0], none, true, 0, 0⟩, ⟨some 8, .move, [.val (.nilSlice)], none, true, 0, 0⟩, ⟨some 9, .move, [.val (.int .i64 0)], none, true, 0, 0⟩])]
def F14o0 : IC := .ops F14p0
def F14p1 : List (Sg × List IOp) := [(.seq, [⟨some 18, .load (some 2), [.tmp 4], none, true, 0, 0⟩, ⟨some 19, .move, [.tmp 1], none, true, 0, 0⟩, ⟨some 20, .move, [.tmp 2], none, true, 0, 0⟩, ⟨some 21, .call, [.val (.fn 35 [] []), .tmp 18, .tmp 19, .tmp 20], none, true, 0, 0⟩, ⟨some 10, .move, [.tmp 21], none, true, 0, 0⟩])]
def F14o1 : IC := .ops F14p1
def F14p2 : List (Sg × List IOp) := [(.seq, [⟨some 22, .move, [.tmp 10], none, true, 0, 0⟩, ⟨some 23, .bin .neq, [.tmp 22, .val (.int .i64 0)], none, true, 0, 0⟩])]
def F14o2 : IC := .ops F14p2
def F14p3 : List (Sg × List IOp) := [(.seq, [⟨some 24, .move, [.tmp 10], none, true, 0, 0⟩, ⟨some 8, .move, [.val (.nilSlice)], none, true, 0, 0⟩, ⟨some 9, .move, [.tmp 24], none, true, 0, 0⟩])]
def F14o3 : IC := .ops F14p3
def F14p4 : List (Sg × List IOp) := [(.seq, [⟨some 25, .move, [.tmp 3], none, true, 0, 0⟩, ⟨some 26, .bin .rem, [.tmp 25, .val (.int .i64 2)], none, true, 0, 0⟩, ⟨some 27, .bin .eql, [.tmp 26, .val (.int .i64 0)], none, true, 0, 0⟩])]
def F14o4 : IC := .ops F14p4
def F14p5 : List (Sg × List IOp) := [(.seq, [⟨some 8, .move, [.val (.nilSlice)], none, true, 0, 0⟩, ⟨some 9, .move, [.val (.int .i64 1)], none, true, 0, 0⟩])]
def F14o5 : IC := .ops F14p5
def F14p6 : List (Sg × List IOp) := [(.seq, [⟨some 11, .move, [.val (.int .u8 0)], none, true, 0, 0⟩])]
def F14o6 : IC := .ops F14p6
def F14p7 : List (Sg × List IOp) := [(.seq, [⟨some 28, .move, [.tmp 2], none, true, 0, 0⟩, ⟨some 29, .bin .eql, [.tmp 28, .val (.int .u8 0)], none, true, 0, 0⟩])]
def F14o7 : IC := .ops F14p7
def F14p8 : List (Sg × List IOp) := [(.seq, [⟨some 11, .move, [.val (.int .u8 1)], none, true, 0, 0⟩])]
def F14o8 : IC := .ops F14p8
def F14p9 : List (Sg × List IOp) := [(.seq, [⟨some 12, .move, [.val (.nilSlice)], none, true, 0, 0⟩])]
def F14o9 : IC := .ops F14p9
def F14p10 : List (Sg × List IOp) := [(.seq, [⟨some 30, .fieldAddr 1, [.tmp 4], none, true, 0, 0⟩, ⟨some 31, .load none, [.tmp 30], none, true, 0, 0⟩, ⟨some 32, .lenSl, [.tmp 31], none, true, 0, 0⟩, ⟨some 33, .move, [.val (.int .i64 0)], none, true, 0, 0⟩])]
def F14o10 : IC := .ops F14p10
def F14p11 : List (Sg × List IOp) := [(.seq, [⟨some 34, .bin .lss, [.tmp 33, .tmp 32], none, true, 0, 0⟩])]
def F14o11 : IC := .ops F14p11
def F14p12 : List (Sg × List IOp) := [(.seq, [⟨some 35, .move, [.tmp 33], none, true, 0, 0⟩, ⟨some 36, .idxSl 1, [.tmp 31, .tmp 33], none, true, 0, 0⟩, ⟨some 37, .load none, [.tmp 36], none, true, 0, 0⟩, ⟨some 13, .move, [.tmp 35], none, true, 0, 0⟩, ⟨some 14, .move, [.tmp 37], none, true, 0, 0⟩])]
def F14o12 : IC := .ops F14p12
def F14p13 : List (Sg × List IOp) := [(.seq, [⟨some 38, .move, [.tmp 13], none, true, 0, 0⟩, ⟨some 39, .bin .add, [.tmp 38, .val (.int .i64 1)], none, true, 0, 0⟩, ⟨some 40, .build [.int .u8 0, .int .i64 0] [(0, 1), (1, 1)], [.val (.int .u8 1), .tmp 39], none, true, 0, 0⟩, ⟨some 41, .move, [.tmp 1], none, true, 0, 0⟩, ⟨some 42, .call, [.val (.fn 25 [] []), .tmp 40, .tmp 41], none, true, 0, 0⟩, ⟨some 15, .move, [.tmp 42], none, true, 0, 0⟩])]
def F14o13 : IC := .ops F14p13
def F14p14 : List (Sg × List IOp) := [(.seq, [⟨some 43, .move, [.tmp 3], none, true, 0, 0⟩, ⟨some 44, .move, [.tmp 15], none, true, 0, 0⟩, ⟨some 45, .move, [.tmp 2], none, true, 0, 0⟩, ⟨some 46, .idxArrAddr 2 1, [.glob 0, .tmp 45], none, true, 0, 0⟩, ⟨some 47, .load none, [.tmp 46], none, true, 0, 0⟩, ⟨some 48, .bin .add, [.tmp 44, .tmp 47], none, true, 0, 0⟩, ⟨some 49, .bin .neq, [.tmp 43, .tmp 48], none, true, 0, 0⟩, ⟨some 50, .move, [.tmp 49], none, true, 0, 0⟩, ⟨some 51, .move, [.tmp 3], some (50, true), true, 0, 0⟩, ⟨some 52, .move, [.tmp 15], some (50, true), true, 0, 0⟩, ⟨some 53, .move, [.tmp 2], some (50, true), true, 0, 0⟩, ⟨some 54, .idxArrAddr 2 1, [.glob 0, .tmp 53], some (50, true), true, 0, 0⟩, ⟨some 55, .load none, [.tmp 54], some (50, true), true, 0, 0⟩, ⟨some 56, .bin .mul, [.val (.int .i64 3), .tmp 55], some (50, true), true, 0, 0⟩, ⟨some 57, .bin .add, [.tmp 52, .tmp 56], some (50, true), true, 0, 0⟩, ⟨some 58, .bin .neq, [.tmp 51, .tmp 57], some (50, true), true, 0, 0⟩, ⟨some 59, .pick, [.tmp 50, .tmp 58, .val (.bool false)], none, true, 0, 0⟩])]
def F14o14 : IC := .ops F14p14
def F14p15 : List (Sg × List IOp) := [(.seq, [⟨some 60, .move, [.tmp 14], none, true, 0, 0⟩, ⟨some 61, .lenSl, [.tmp 60], none, true, 0, 0⟩, ⟨some 62, .move, [.val (.int .i64 0)], none, true, 0, 0⟩])]
def F14o15 : IC := .ops F14p15
def F14p16 : List (Sg × List IOp) := [(.seq, [⟨some 63, .bin .lss, [.tmp 62, .tmp 61], none, true, 0, 0⟩])]
def F14o16 : IC := .ops F14p16
def F14p17 : List (Sg × List IOp) := [(.seq, [⟨some 64, .idxSl 2, [.tmp 60, .tmp 62], none, true, 0, 0⟩, ⟨some 65, .load (some 2), [.tmp 64], none, true, 0, 0⟩, ⟨some 17, .alloc 35 2 [.int .u8 0, .int .i64 0], [], none, true, 0, 0⟩, ⟨none, .store 2, [.tmp 17, .tmp 65], none, true, 0, 0⟩])]
def F14o17 : IC := .ops F14p17
def F14p18 : List (Sg × List IOp) := [(.seq, [⟨some 66, .move, [.tmp 12], none, true, 0, 0⟩, ⟨some 67, .load (some 2), [.tmp 17], none, true, 0, 0⟩, ⟨some 68, .move, [.tmp 11], none, true, 0, 0⟩, ⟨some 69, .build [.int .u8 0, .int .i64 0, .bool false, .int .u8 0] [(0, 2), (2, 1), (3, 1)], [.tmp 67, .val (.bool true), .tmp 68], none, true, 0, 0⟩, ⟨some 70, .buildSl 54 4 1 [.int .u8 0, .int .i64 0, .bool false, .int .u8 0] [(0, 4)], [.tmp 69], none, true, 0, 0⟩, ⟨some 71, .append 54 4 24, [.tmp 66, .tmp 70], none, true, 0, 0⟩, ⟨some 12, .move, [.tmp 71], none, true, 0, 0⟩])]
def F14o18 : IC := .ops F14p18
def F14p19 : List (Sg × List IOp) := [(.seq, [⟨some 72, .bin .add, [.tmp 62, .val (.int .i64 1)], none, true, 0, 0⟩, ⟨some 62, .move, [.tmp 72], none, true, 0, 0⟩])]
def F14o19 : IC := .ops F14p19
def F14l20 : IC := .seq (F14o16) (.seq (.cond (.tmp 63) (.skip) (.exit 2)) (.seq (.block 3 (.seq (F14o17) (F14o18))) (F14o19)))
def F14p21 : List (Sg × List IOp) := [(.seq, [⟨some 73, .bin .add, [.tmp 33, .val (.int .i64 1)], none, true, 0, 0⟩, ⟨some 33, .move, [.tmp 73], none, true, 0, 0⟩])]
def F14o21 : IC := .ops F14p21
def F14l22 : IC := .seq (F14o11) (.seq (.cond (.tmp 34) (.skip) (.exit 0)) (.seq (.block 1 (.seq (F14o12) (.seq (F14o13) (.seq (.seq (F14o14) (.cond (.tmp 59) (.exit 1) (.skip))) (.seq (F14o15) (.block 2 (.loop F14l20))))))) (F14o21)))
def F14p23 : List (Sg × List IOp) := [(.seq, [⟨some 74, .move, [.tmp 11], none, true, 0, 0⟩, ⟨some 75, .bin .eql, [.tmp 74, .val (.int .u8 0)], none, true, 0, 0⟩])]
def F14o23 : IC := .ops F14p23
def F14p24 : List (Sg × List IOp) := [(.seq, [⟨some 76, .move, [.tmp 12], none, true, 0, 0⟩, ⟨some 77, .call, [.val (.fn 39 [] []), .tmp 76], none, true, 0, 0⟩])]
def F14o24 : IC := .ops F14p24
def F14p25 : List (Sg × List IOp) := [(.seq, [⟨some 78, .move, [.tmp 12], none, true, 0, 0⟩, ⟨some 79, .call, [.val (.fn 40 [] []), .tmp 78], none, true, 0, 0⟩, ⟨some 8, .move, [.tmp 79], none, true, 0, 0⟩, ⟨some 9, .move, [.val (.int .i64 0)], none, true, 0, 0⟩])]
def F14o25 : IC := .ops F14p25
def F14b : IC := .seq (F14o0) (.seq (.seq (F14o1) (.seq (F14o2) (.cond (.tmp 23) (.seq (F14o3) (.ret)) (.skip)))) (.seq (.seq (F14o4) (.cond (.tmp 27) (.seq (F14o5) (.ret)) (.skip))) (.seq (F14o6) (.seq (.seq (F14o7) (.cond (.tmp 29) (F14o8) (.skip))) (.seq (F14o9) (.seq (.seq (F14o10) (.block 0 (.loop F14l22))) (.seq (.seq (F14o23) (.cond (.tmp 75) (F14o24) (.skip))) (.seq (F14o25) (.ret)))))))))
def F14 : IFn := ⟨80, [(8, none), (9, none)], F14b⟩
/- 15: gansey/stacks.Check -/
def F15p0 : List (Sg × List IOp) := [(.seq, [⟨some 1, .box 26 2, [.tmp 0], none, true, 0, 0⟩, ⟨some 2, .alloc 29 1 [.int .i64 0], [], none, true, 0, 0⟩])]
def F15o0 : IC := .ops F15p0
def F15p1 : List (Sg × List IOp) := [(.seq, [⟨some 20, .load (some 2), [.tmp 1], none, true, 0, 0⟩, ⟨some 21, .call, [.val (.fn 41 [] []), .tmp 20], none, true, 0, 0⟩])]
def F15o1 : IC := .ops F15p1
def F15p2 : List (Sg × List IOp) := [(.seq, [⟨some 4, .move, [.tmp 23], none, true, 0, 0⟩])]
def F15o2 : IC := .ops F15p2
def F15p3 : List (Sg × List IOp) := [(.seq, [⟨some 24, .move, [.tmp 4], none, true, 0, 0⟩, ⟨some 25, .lenSl, [.tmp 24], none, true, 0, 0⟩, ⟨some 26, .bin .gtr, [.tmp 25, .val (.int .i64 40)], none, true, 0, 0⟩])]
def F15o3 : IC := .ops F15p3
def F15p4 : List (Sg × List IOp) := [(.seq, [⟨none, .store 1, [.tmp 2, .val (.int .i64 9)], none, true, 0, 0⟩])]
def F15o4 : IC := .ops F15p4
def F15p5 : List (Sg × List IOp) := [(.seq, [⟨some 27, .move, [.tmp 4], none, true, 0, 0⟩, ⟨some 28, .lenSl, [.tmp 27], none, true, 0, 0⟩, ⟨some 29, .move, [.val (.int .i64 0)], none, true, 0, 0⟩])]
def F15o5 : IC := .ops F15p5
def F15p6 : List (Sg × List IOp) := [(.seq, [⟨some 30, .bin .lss, [.tmp 29, .tmp 28], none, true, 0, 0⟩])]
def F15o6 : IC := .ops F15p6
def F15p7 : List (Sg × List IOp) := [(.seq, [⟨some 31, .idxSl 1, [.tmp 27, .tmp 29], none, true, 0, 0⟩, ⟨some 32, .load none, [.tmp 31], none, true, 0, 0⟩, ⟨some 6, .move, [.tmp 32], none, true, 0, 0⟩])]
def F15o7 : IC := .ops F15p7
def F15p8 : List (Sg × List IOp) := [(.seq, [⟨some 33, .move, [.tmp 6], none, true, 0, 0⟩, ⟨some 34, .lenSl, [.tmp 33], none, true, 0, 0⟩, ⟨some 35, .bin .gtr, [.tmp 34, .val (.int .i64 4)], none, true, 0, 0⟩])]
def F15o8 : IC := .ops F15p8
def F15p9 : List (Sg × List IOp) := [(.seq, [⟨none, .store 1, [.tmp 2, .val (.int .i64 9)], none, true, 0, 0⟩])]
def F15o9 : IC := .ops F15p9
def F15p10 : List (Sg × List IOp) := [(.seq, [⟨some 36, .bin .add, [.tmp 29, .val (.int .i64 1)], none, true, 0, 0⟩, ⟨some 29, .move, [.tmp 36], none, true, 0, 0⟩])]
def F15o10 : IC := .ops F15p10
def F15l11 : IC := .seq (F15o6) (.seq (.cond (.tmp 30) (.skip) (.exit 2)) (.seq (.block 3 (.seq (F15o7) (.seq (F15o8) (.cond (.tmp 35) (.seq (F15o9) (.ret)) (.skip))))) (F15o10)))
def F15p12 : List (Sg × List IOp) := [(.seq, [⟨some 37, .load (some 2), [.tmp 1], none, true, 0, 0⟩, ⟨some 38, .call, [.val (.fn 41 [] []), .tmp 37], none, true, 0, 0⟩])]
def F15o12 : IC := .ops F15p12
def F15p13 : List (Sg × List IOp) := [(.seq, [⟨some 8, .move, [.tmp 40], none, true, 0, 0⟩])]
def F15o13 : IC := .ops F15p13
def F15p14 : List (Sg × List IOp) := [(.seq, [⟨some 41, .move, [.tmp 8], none, true, 0, 0⟩, ⟨some 42, .lenSl, [.tmp 41], none, true, 0, 0⟩, ⟨some 43, .move, [.val (.int .i64 0)], none, true, 0, 0⟩])]
def F15o14 : IC := .ops F15p14
def F15p15 : List (Sg × List IOp) := [(.seq, [⟨some 44, .bin .lss, [.tmp 43, .tmp 42], none, true, 0, 0⟩])]
def F15o15 : IC := .ops F15p15
def F15p16 : List (Sg × List IOp) := [(.seq, [⟨some 45, .idxSl 1, [.tmp 41, .tmp 43], none, true, 0, 0⟩, ⟨some 46, .load none, [.tmp 45], none, true, 0, 0⟩, ⟨some 10, .move, [.tmp 46], none, true, 0, 0⟩])]
def F15o16 : IC := .ops F15p16
def F15p17 : List (Sg × List IOp) := [(.seq, [⟨some 47, .move, [.tmp 10], none, true, 0, 0⟩, ⟨some 48, .lenSl, [.tmp 47], none, true, 0, 0⟩, ⟨some 49, .move, [.val (.int .i64 0)], none, true, 0, 0⟩])]
def F15o17 : IC := .ops F15p17
def F15p18 : List (Sg × List IOp) := [(.seq, [⟨some 50, .bin .lss, [.tmp 49, .tmp 48], none, true, 0, 0⟩])]
def F15o18 : IC := .ops F15p18
def F15p19 : List (Sg × List IOp) := [(.seq, [⟨some 51, .idxSl 2, [.tmp 47, .tmp 49], none, true, 0, 0⟩, ⟨some 52, .load (some 2), [.tmp 51], none, true, 0, 0⟩, ⟨some 12, .alloc 35 2 [.int .u8 0, .int .i64 0], [], none, true, 0, 0⟩, ⟨none, .store 2, [.tmp 12, .tmp 52], none, true, 0, 0⟩])]
def F15o19 : IC := .ops F15p19
def F15p20 : List (Sg × List IOp) := [(.seq, [⟨some 53, .load (some 2), [.tmp 12], none, true, 0, 0⟩, ⟨some 54, .call, [.val (.fn 42 [] []), .tmp 53], none, true, 0, 0⟩, ⟨some 55, .un .not, [.tmp 54], none, true, 0, 0⟩])]
def F15o20 : IC := .ops F15p20
def F15p21 : List (Sg × List IOp) := [(.seq, [⟨none, .store 1, [.tmp 2, .val (.int .i64 1)], none, true, 0, 0⟩])]
def F15o21 : IC := .ops F15p21
def F15p22 : List (Sg × List IOp) := [(.seq, [⟨some 56, .bin .add, [.tmp 49, .val (.int .i64 1)], none, true, 0, 0⟩, ⟨some 49, .move, [.tmp 56], none, true, 0, 0⟩])]
def F15o22 : IC := .ops F15p22
def F15l23 : IC := .seq (F15o18) (.seq (.cond (.tmp 50) (.skip) (.exit 8)) (.seq (.block 9 (.seq (F15o19) (.seq (F15o20) (.cond (.tmp 55) (.seq (F15o21) (.ret)) (.skip))))) (F15o22)))
def F15p24 : List (Sg × List IOp) := [(.seq, [⟨some 57, .bin .add, [.tmp 43, .val (.int .i64 1)], none, true, 0, 0⟩, ⟨some 43, .move, [.tmp 57], none, true, 0, 0⟩])]
def F15o24 : IC := .ops F15p24
def F15l25 : IC := .seq (F15o15) (.seq (.cond (.tmp 44) (.skip) (.exit 6)) (.seq (.block 7 (.seq (F15o16) (.seq (F15o17) (.block 8 (.loop F15l23))))) (F15o24)))
def F15p26 : List (Sg × List IOp) := [(.seq, [⟨some 58, .load (some 2), [.tmp 1], none, true, 0, 0⟩, ⟨some 59, .call, [.val (.fn 23 [] []), .tmp 58], none, true, 0, 0⟩, ⟨some 60, .mkmap, [.tmp 59], none, true, 0, 0⟩, ⟨some 13, .alloc 88 1 [.nilMap], [], none, true, 0, 0⟩, ⟨none, .store 1, [.tmp 13, .tmp 60], none, true, 0, 0⟩])]
def F15o26 : IC := .ops F15p26
def F15p27 : List (Sg × List IOp) := [(.seq, [⟨some 61, .load (some 2), [.tmp 1], none, true, 0, 0⟩, ⟨some 62, .call, [.val (.fn 41 [] []), .tmp 61], none, true, 0, 0⟩])]
def F15o27 : IC := .ops F15p27
def F15p28 : List (Sg × List IOp) := [(.seq, [⟨some 15, .move, [.tmp 64], none, true, 0, 0⟩])]
def F15o28 : IC := .ops F15p28
def F15p29 : List (Sg × List IOp) := [(.seq, [⟨some 65, .move, [.tmp 15], none, true, 0, 0⟩, ⟨some 66, .lenSl, [.tmp 65], none, true, 0, 0⟩, ⟨some 67, .move, [.val (.int .i64 0)], none, true, 0, 0⟩])]
def F15o29 : IC := .ops F15p29
def F15p30 : List (Sg × List IOp) := [(.seq, [⟨some 68, .bin .lss, [.tmp 67, .tmp 66], none, true, 0, 0⟩])]
def F15o30 : IC := .ops F15p30
def F15p31 : List (Sg × List IOp) := [(.seq, [⟨some 69, .idxSl 1, [.tmp 65, .tmp 67], none, true, 0, 0⟩, ⟨some 70, .load none, [.tmp 69], none, true, 0, 0⟩, ⟨some 17, .move, [.tmp 70], none, true, 0, 0⟩])]
def F15o31 : IC := .ops F15p31
def F15p32 : List (Sg × List IOp) := [(.seq, [⟨some 71, .move, [.tmp 17], none, true, 0, 0⟩, ⟨some 72, .lenSl, [.tmp 71], none, true, 0, 0⟩, ⟨some 73, .move, [.val (.int .i64 0)], none, true, 0, 0⟩])]
def F15o32 : IC := .ops F15p32
def F15p33 : List (Sg × List IOp) := [(.seq, [⟨some 74, .bin .lss, [.tmp 73, .tmp 72], none, true, 0, 0⟩])]
def F15o33 : IC := .ops F15p33
def F15p34 : List (Sg × List IOp) := [(.seq, [⟨some 75, .idxSl 2, [.tmp 71, .tmp 73], none, true, 0, 0⟩, ⟨some 76, .load (some 2), [.tmp 75], none, true, 0, 0⟩, ⟨some 19, .alloc 35 2 [.int .u8 0, .int .i64 0], [], none, true, 0, 0⟩, ⟨none, .store 2, [.tmp 19, .tmp 76], none, true, 0, 0⟩])]
def F15o34 : IC := .ops F15p34
def F15p35 : List (Sg × List IOp) := [(.seq, [⟨some 77, .load none, [.tmp 13], none, true, 0, 0⟩, ⟨some 78, .load (some 2), [.tmp 19], none, true, 0, 0⟩, ⟨some 79, .lookup 88 (true, [.int, .int]) (.bool false) false, [.tmp 77, .tmp 78], none, true, 0, 0⟩])]
def F15o35 : IC := .ops F15p35
def F15p36 : List (Sg × List IOp) := [(.seq, [⟨none, .store 1, [.tmp 2, .val (.int .i64 8)], none, true, 0, 0⟩])]
def F15o36 : IC := .ops F15p36
def F15p37 : List (Sg × List IOp) := [(.seq, [⟨some 80, .load none, [.tmp 13], none, true, 0, 0⟩, ⟨some 81, .load (some 2), [.tmp 19], none, true, 0, 0⟩, ⟨none, .mapUpd (true, [.int, .int]), [.tmp 80, .tmp 81, .val (.bool true)], none, true, 0, 0⟩])]
def F15o37 : IC := .ops F15p37
def F15p38 : List (Sg × List IOp) := [(.seq, [⟨some 82, .bin .add, [.tmp 73, .val (.int .i64 1)], none, true, 0, 0⟩, ⟨some 73, .move, [.tmp 82], none, true, 0, 0⟩])]
def F15o38 : IC := .ops F15p38
def F15l39 : IC := .seq (F15o33) (.seq (.cond (.tmp 74) (.skip) (.exit 14)) (.seq (.block 15 (.seq (F15o34) (.seq (.seq (F15o35) (.cond (.tmp 79) (.seq (F15o36) (.ret)) (.skip))) (F15o37)))) (F15o38)))
def F15p40 : List (Sg × List IOp) := [(.seq, [⟨some 83, .bin .add, [.tmp 67, .val (.int .i64 1)], none, true, 0, 0⟩, ⟨some 67, .move, [.tmp 83], none, true, 0, 0⟩])]
def F15o40 : IC := .ops F15p40
def F15l41 : IC := .seq (F15o30) (.seq (.cond (.tmp 68) (.skip) (.exit 12)) (.seq (.block 13 (.seq (F15o31) (.seq (F15o32) (.block 14 (.loop F15l39))))) (F15o40)))
def F15p42 : List (Sg × List IOp) := [(.seq, [⟨none, .store 1, [.tmp 2, .val (.int .i64 0)], none, true, 0, 0⟩])]
def F15o42 : IC := .ops F15p42
def F15b : IC := .seq (F15o0) (.seq (.seq (F15o1) (.block 0 (.rfn (.tmp 21) [22, 23] (F15o2) (.block 1 (.seq (.seq (F15o3) (.cond (.tmp 26) (.seq (F15o4) (.ret)) (.skip))) (.seq (F15o5) (.block 2 (.loop F15l11)))))))) (.seq (.seq (F15o12) (.block 4 (.rfn (.tmp 38) [39, 40] (F15o13) (.block 5 (.seq (F15o14) (.block 6 (.loop F15l25))))))) (.seq (F15o26) (.seq (.seq (F15o27) (.block 10 (.rfn (.tmp 62) [63, 64] (F15o28) (.block 11 (.seq (F15o29) (.block 12 (.loop F15l41))))))) (.seq (F15o42) (.ret))))))
def F15 : IFn := ⟨84, [(2, some none)], F15b⟩
/- 16: gansey/yarns.Inverse -/
def F16p0 : List (Sg × List IOp) := [(.seq, [⟨some 2, .move, [.val (.nilSlice)], none, true, 0, 0⟩])]
def F16o0 : IC := .ops F16p0
def F16p1 : List (Sg × List IOp) := [(.seq, [⟨some 6, .move, [.tmp 0], none, true, 0, 0⟩, ⟨some 7, .lenSl, [.tmp 6], none, true, 0, 0⟩, ⟨some 8, .mksl 54 4 24 [.int .u8 0, .int .i64 0, .bool false, .int .u8 0], [.tmp 7, .tmp 7], none, true, 0, 0⟩, ⟨some 3, .move, [.tmp 8], none, true, 0, 0⟩])]
def F16o1 : IC := .ops F16p1
def F16p2 : List (Sg × List IOp) := [(.seq, [⟨some 9, .move, [.tmp 0], none, true, 0, 0⟩, ⟨some 10, .lenSl, [.tmp 9], none, true, 0, 0⟩, ⟨some 11, .move, [.val (.int .i64 0)], none, true, 0, 0⟩])]
def F16o2 : IC := .ops F16p2
def F16p3 : List (Sg × List IOp) := [(.seq, [⟨some 12, .bin .lss, [.tmp 11, .tmp 10], none, true, 0, 0⟩])]
def F16o3 : IC := .ops F16p3
def F16p4 : List (Sg × List IOp) := [(.seq, [⟨some 13, .move, [.tmp 11], none, true, 0, 0⟩, ⟨some 14, .idxSl 4, [.tmp 9, .tmp 11], none, true, 0, 0⟩, ⟨some 15, .load (some 4), [.tmp 14], none, true, 0, 0⟩, ⟨some 5, .alloc 54 4 [.int .u8 0, .int .i64 0, .bool false, .int .u8 0], [], none, true, 0, 0⟩, ⟨some 4, .move, [.tmp 13], none, true, 0, 0⟩, ⟨none, .store 4, [.tmp 5, .tmp 15], none, true, 0, 0⟩])]
def F16o4 : IC := .ops F16p4
def F16p5 : List (Sg × List IOp) := [(.seq, [⟨some 16, .fieldAddr 3, [.tmp 5], none, true, 0, 0⟩, ⟨some 17, .load none, [.tmp 16], none, true, 0, 0⟩, ⟨some 18, .bin .eql, [.tmp 17, .val (.int .u8 1)], none, true, 0, 0⟩])]
def F16o5 : IC := .ops F16p5
def F16p6 : List (Sg × List IOp) := [(.seq, [⟨some 19, .fieldAddr 3, [.tmp 5], none, true, 0, 0⟩, ⟨none, .store 1, [.tmp 19, .val (.int .u8 0)], none, true, 0, 0⟩])]
def F16o6 : IC := .ops F16p6
def F16p7 : List (Sg × List IOp) := [(.seq, [⟨some 20, .fieldAddr 3, [.tmp 5], none, true, 0, 0⟩, ⟨none, .store 1, [.tmp 20, .val (.int .u8 1)], none, true, 0, 0⟩])]
def F16o7 : IC := .ops F16p7
def F16p8 : List (Sg × List IOp) := [(.seq, [⟨some 21, .move, [.tmp 3], none, true, 0, 0⟩, ⟨some 22, .move, [.tmp 0], none, true, 0, 0⟩, ⟨some 23, .lenSl, [.tmp 22], none, true, 0, 0⟩, ⟨some 24, .bin .sub, [.tmp 23, .val (.int .i64 1)], none, true, 0, 0⟩, ⟨some 25, .move, [.tmp 4], none, true, 0, 0⟩, ⟨some 26, .bin .sub, [.tmp 24, .tmp 25], none, true, 0, 0⟩, ⟨some 27, .load (some 4), [.tmp 5], none, true, 0, 0⟩, ⟨some 28, .idxSl 4, [.tmp 21, .tmp 26], none, true, 0, 0⟩, ⟨none, .store 4, [.tmp 28, .tmp 27], none, true, 0, 0⟩])]
def F16o8 : IC := .ops F16p8
def F16p9 : List (Sg × List IOp) := [(.seq, [⟨some 29, .bin .add, [.tmp 11, .val (.int .i64 1)], none, true, 0, 0⟩, ⟨some 11, .move, [.tmp 29], none, true, 0, 0⟩])]
def F16o9 : IC := .ops F16p9
def F16l10 : IC := .seq (F16o3) (.seq (.cond (.tmp 12) (.skip) (.exit 0)) (.seq (.block 1 (.seq (F16o4) (.seq (.seq (F16o5) (.cond (.tmp 18) (F16o6) (F16o7))) (F16o8)))) (F16o9)))
def F16p11 : List (Sg × List IOp) := [(.seq, [⟨some 30, .move, [.tmp 3], none, true, 0, 0⟩, ⟨some 2, .move, [.tmp 30], none, true, 0, 0⟩])]
def F16o11 : IC := .ops F16p11
def F16b : IC := .seq (F16o0) (.seq (F16o1) (.seq (.seq (F16o2) (.block 0 (.loop F16l10))) (.seq (F16o11) (.ret))))
def F16 : IFn := ⟨31, [(2, none)], F16b⟩
/- 17: gansey/orders.Between -/
def F17p0 : List (Sg × List IOp) := [(.seq, [⟨some 6, .move, [.val (.nilSlice)], none, true, 0, 0⟩])]
def F17o0 : IC := .ops F17p0
def F17p1 : List (Sg × List IOp) := [(.seq, [⟨some 13, .move, [.tmp 2], none, true, 0, 0⟩, ⟨some 14, .move, [.tmp 1], none, true, 0, 0⟩, ⟨some 7, .move, [.tmp 13], none, true, 0, 0⟩, ⟨some 8, .move, [.tmp 14], none, true, 0, 0⟩, ⟨some 9, .move, [.val (.int .u8 0)], none, true, 0, 0⟩])]
def F17o1 : IC := .ops F17p1
def F17p2 : List (Sg × List IOp) := [(.seq, [⟨some 15, .move, [.tmp 2], none, true, 0, 0⟩, ⟨some 16, .move, [.tmp 1], none, true, 0, 0⟩, ⟨some 17, .bin .gtr, [.tmp 15, .tmp 16], none, true, 0, 0⟩])]
def F17o2 : IC := .ops F17p2
def F17p3 : List (Sg × List IOp) := [(.seq, [⟨some 18, .move, [.tmp 1], none, true, 0, 0⟩, ⟨some 19, .move, [.tmp 2], none, true, 0, 0⟩, ⟨some 7, .move, [.tmp 18], none, true, 0, 0⟩, ⟨some 8, .move, [.tmp 19], none, true, 0, 0⟩, ⟨some 9, .move, [.val (.int .u8 1)], none, true, 0, 0⟩])]
def F17o3 : IC := .ops F17p3
def F17p4 : List (Sg × List IOp) := [(.seq, [⟨some 10, .move, [.val (.nilSlice)], none, true, 0, 0⟩])]
def F17o4 : IC := .ops F17p4
def F17p5 : List (Sg × List IOp) := [(.seq, [⟨some 20, .move, [.tmp 0], none, true, 0, 0⟩, ⟨some 21, .lenSl, [.tmp 20], none, true, 0, 0⟩, ⟨some 22, .move, [.val (.int .i64 0)], none, true, 0, 0⟩])]
def F17o5 : IC := .ops F17p5
def F17p6 : List (Sg × List IOp) := [(.seq, [⟨some 23, .bin .lss, [.tmp 22, .tmp 21], none, true, 0, 0⟩])]
def F17o6 : IC := .ops F17p6
def F17p7 : List (Sg × List IOp) := [(.seq, [⟨some 24, .idxSl 5, [.tmp 20, .tmp 22], none, true, 0, 0⟩, ⟨some 25, .load (some 5), [.tmp 24], none, true, 0, 0⟩, ⟨some 12, .alloc 40 5 [.int .u8 0, .int .i64 0, .int .u8 0, .int .i64 0, .int .i64 0], [], none, true, 0, 0⟩, ⟨none, .store 5, [.tmp 12, .tmp 25], none, true, 0, 0⟩])]
def F17o7 : IC := .ops F17p7
def F17p8 : List (Sg × List IOp) := [(.seq, [⟨some 26, .fieldAddr 4, [.tmp 12], none, true, 0, 0⟩, ⟨some 27, .load none, [.tmp 26], none, true, 0, 0⟩, ⟨some 28, .move, [.tmp 7], none, true, 0, 0⟩, ⟨some 29, .bin .gtr, [.tmp 27, .tmp 28], none, true, 0, 0⟩, ⟨some 30, .move, [.tmp 29], none, true, 0, 0⟩, ⟨some 31, .fieldAddr 4, [.tmp 12], some (30, true), true, 0, 0⟩, ⟨some 32, .load none, [.tmp 31], some (30, true), true, 0, 0⟩, ⟨some 33, .move, [.tmp 8], some (30, true), true, 0, 0⟩, ⟨some 34, .bin .lss, [.tmp 32, .tmp 33], some (30, true), true, 0, 0⟩, ⟨some 35, .pick, [.tmp 30, .tmp 34, .val (.bool false)], none, true, 0, 0⟩])]
def F17o8 : IC := .ops F17p8
def F17p9 : List (Sg × List IOp) := [(.seq, [⟨some 36, .move, [.tmp 10], none, true, 0, 0⟩, ⟨some 37, .fieldAddr 0, [.tmp 12], none, true, 0, 0⟩, ⟨some 38, .load (some 2), [.tmp 37], none, true, 0, 0⟩, ⟨some 39, .fieldAddr 2, [.tmp 12], none, true, 0, 0⟩, ⟨some 40, .fieldAddr 0, [.tmp 39], none, true, 0, 0⟩, ⟨some 41, .load none, [.tmp 40], none, true, 0, 0⟩, ⟨some 42, .bin .eql, [.tmp 41, .val (.int .u8 1)], none, true, 0, 0⟩, ⟨some 43, .move, [.tmp 9], none, true, 0, 0⟩, ⟨some 44, .build [.int .u8 0, .int .i64 0, .bool false, .int .u8 0] [(0, 2), (2, 1), (3, 1)], [.tmp 38, .tmp 42, .tmp 43], none, true, 0, 0⟩, ⟨some 45, .buildSl 54 4 1 [.int .u8 0, .int .i64 0, .bool false, .int .u8 0] [(0, 4)], [.tmp 44], none, true, 0, 0⟩, ⟨some 46, .append 54 4 24, [.tmp 36, .tmp 45], none, true, 0, 0⟩, ⟨some 10, .move, [.tmp 46], none, true, 0, 0⟩])]
def F17o9 : IC := .ops F17p9
def F17p10 : List (Sg × List IOp) := [(.seq, [⟨some 47, .bin .add, [.tmp 22, .val (.int .i64 1)], none, true, 0, 0⟩, ⟨some 22, .move, [.tmp 47], none, true, 0, 0⟩])]
def F17o10 : IC := .ops F17p10
def F17l11 : IC := .seq (F17o6) (.seq (.cond (.tmp 23) (.skip) (.exit 0)) (.seq (.block 1 (.seq (F17o7) (.seq (F17o8) (.cond (.tmp 35) (F17o9) (.skip))))) (F17o10)))
def F17p12 : List (Sg × List IOp) := [(.seq, [⟨some 48, .move, [.tmp 9], none, true, 0, 0⟩, ⟨some 49, .bin .eql, [.tmp 48, .val (.int .u8 0)], none, true, 0, 0⟩])]
def F17o12 : IC := .ops F17p12
def F17p13 : List (Sg × List IOp) := [(.seq, [⟨some 50, .move, [.tmp 10], none, true, 0, 0⟩, ⟨some 51, .call, [.val (.fn 39 [] []), .tmp 50], none, true, 0, 0⟩])]
def F17o13 : IC := .ops F17p13
def F17p14 : List (Sg × List IOp) := [(.seq, [⟨some 52, .move, [.tmp 10], none, true, 0, 0⟩, ⟨some 53, .call, [.val (.fn 40 [] []), .tmp 52], none, true, 0, 0⟩, ⟨some 6, .move, [.tmp 53], none, true, 0, 0⟩])]
def F17o14 : IC := .ops F17p14
def F17b : IC := .seq (F17o0) (.seq (F17o1) (.seq (.seq (F17o2) (.cond (.tmp 17) (F17o3) (.skip))) (.seq (F17o4) (.seq (.seq (F17o5) (.block 0 (.loop F17l11))) (.seq (.seq (F17o12) (.cond (.tmp 49) (F17o13) (.skip))) (.seq (F17o14) (.ret)))))))
def F17 : IFn := ⟨54, [(6, none)], F17b⟩
/- 18: gansey/ganseylaw04.passed -/
def F18p0 : List (Sg × List IOp) := [(.seq, [⟨some 2, .move, [.val (.str [])], none, true, 0, 0⟩])]
def F18o0 : IC := .ops F18p0
def F18p1 : List (Sg × List IOp) := [(.seq, [⟨some 3, .move, [.val (.str [])], none, true, 0, 0⟩])]
def F18o1 : IC := .ops F18p1
def F18p2 : List (Sg × List IOp) := [(.seq, [⟨some 4, .move, [.val (.int .i64 0)], none, true, 0, 0⟩])]
def F18o2 : IC := .ops F18p2
def F18p3 : List (Sg × List IOp) := [(.seq, [⟨some 5, .move, [.tmp 4], none, true, 0, 0⟩, ⟨some 6, .move, [.tmp 0], none, true, 0, 0⟩, ⟨some 7, .lenSl, [.tmp 6], none, true, 0, 0⟩, ⟨some 8, .bin .lss, [.tmp 5, .tmp 7], none, true, 0, 0⟩])]
def F18o3 : IC := .ops F18p3
def F18p4 : List (Sg × List IOp) := [(.free, [⟨some 11, .move, [.tmp 3], none, false, 0, 0⟩, ⟨some 12, .move, [.tmp 0], none, false, 1, 0⟩, ⟨some 13, .move, [.tmp 4], none, false, 2, 0⟩, ⟨some 14, .idxSl 4, [.tmp 12, .tmp 13], none, false, 3, 6⟩, ⟨some 15, .fieldAddr 0, [.tmp 14], none, false, 4, 14⟩, ⟨some 16, .fieldAddr 0, [.tmp 15], none, false, 5, 30⟩, ⟨some 17, .load none, [.tmp 16], none, false, 6, 62⟩, ⟨some 18, .bin .add, [.val (.int .u8 48), .tmp 17], none, false, 7, 126⟩, ⟨some 19, .move, [.tmp 0], none, false, 8, 0⟩, ⟨some 20, .move, [.tmp 4], none, false, 9, 0⟩, ⟨some 21, .idxSl 4, [.tmp 19, .tmp 20], none, false, 10, 768⟩, ⟨some 22, .fieldAddr 0, [.tmp 21], none, false, 11, 1792⟩, ⟨some 23, .fieldAddr 1, [.tmp 22], none, false, 12, 3840⟩, ⟨some 24, .load none, [.tmp 23], none, false, 13, 7936⟩, ⟨some 25, .bin .rem, [.tmp 24, .val (.int .i64 10)], none, false, 14, 16128⟩, ⟨some 26, .conv .u8, [.tmp 25], none, false, 15, 32512⟩, ⟨some 27, .bin .add, [.val (.int .u8 48), .tmp 26], none, false, 16, 65280⟩, ⟨some 28, .buildSl 5 1 3 [.int .u8 0, .int .u8 0, .int .u8 0] [(0, 1), (1, 1), (2, 1)], [.tmp 18, .val (.int .u8 46), .tmp 27], none, true, 17, 131070⟩, ⟨some 29, .strOf, [.tmp 28], none, true, 18, 262142⟩]), (.seq, [⟨some 30, .bin .add, [.tmp 11, .tmp 29], none, true, 19, 524287⟩]), (.seq, [⟨some 3, .move, [.tmp 30], none, true, 20, 1048575⟩])]
def F18o4 : IC := .ops F18p4
def F18p5 : List (Sg × List IOp) := [(.seq, [⟨some 31, .move, [.tmp 0], none, true, 0, 0⟩, ⟨some 32, .move, [.tmp 4], none, true, 0, 0⟩, ⟨some 33, .idxSl 4, [.tmp 31, .tmp 32], none, true, 0, 0⟩, ⟨some 34, .fieldAddr 2, [.tmp 33], none, true, 0, 0⟩, ⟨some 35, .load none, [.tmp 34], none, true, 0, 0⟩])]
def F18o5 : IC := .ops F18p5
def F18p6 : List (Sg × List IOp) := [(.seq, [⟨some 36, .move, [.tmp 3], none, true, 0, 0⟩, ⟨some 37, .bin .add, [.tmp 36, .val (.str [43])], none, true, 0, 0⟩, ⟨some 3, .move, [.tmp 37], none, true, 0, 0⟩])]
def F18o6 : IC := .ops F18p6
def F18p7 : List (Sg × List IOp) := [(.seq, [⟨some 38, .move, [.tmp 3], none, true, 0, 0⟩, ⟨some 39, .buildSl 9 1 2 [.str [], .str []] [(0, 1), (1, 1)], [.val (.str [60, 32]), .val (.str [62, 32])], none, true, 0, 0⟩, ⟨some 40, .move, [.tmp 0], none, true, 0, 0⟩, ⟨some 41, .move, [.tmp 4], none, true, 0, 0⟩, ⟨some 42, .idxSl 4, [.tmp 40, .tmp 41], none, true, 0, 0⟩, ⟨some 43, .fieldAddr 3, [.tmp 42], none, true, 0, 0⟩, ⟨some 44, .load none, [.tmp 43], none, true, 0, 0⟩, ⟨some 45, .idxSl 1, [.tmp 39, .tmp 44], none, true, 0, 0⟩, ⟨some 46, .load none, [.tmp 45], none, true, 0, 0⟩, ⟨some 47, .bin .add, [.tmp 38, .tmp 46], none, true, 0, 0⟩, ⟨some 3, .move, [.tmp 47], none, true, 0, 0⟩])]
def F18o7 : IC := .ops F18p7
def F18p8 : List (Sg × List IOp) := [(.seq, [⟨some 9, .move, [.tmp 4], none, true, 0, 0⟩, ⟨some 10, .bin .add, [.tmp 9, .val (.int .i64 1)], none, true, 0, 0⟩, ⟨some 4, .move, [.tmp 10], none, true, 0, 0⟩])]
def F18o8 : IC := .ops F18p8
def F18l9 : IC := .seq (.seq (F18o3) (.cond (.tmp 8) (.skip) (.exit 0))) (.seq (.block 1 (.seq (F18o4) (.seq (.seq (F18o5) (.cond (.tmp 35) (F18o6) (.skip))) (F18o7)))) (F18o8))
def F18p10 : List (Sg × List IOp) := [(.seq, [⟨some 48, .move, [.tmp 3], none, true, 0, 0⟩, ⟨some 2, .move, [.tmp 48], none, true, 0, 0⟩])]
def F18o10 : IC := .ops F18p10
def F18b : IC := .seq (F18o0) (.seq (F18o1) (.seq (.seq (F18o2) (.block 0 (.loop F18l9))) (.seq (F18o10) (.ret))))
def F18 : IFn := ⟨49, [(2, none)], F18b⟩
/- 20: (gansey/ganseylaw03.B).of -/
def F20p0 : List (Sg × List IOp) := [(.seq, [⟨some 2, .alloc 65 80 [.nilSlice, .nilSlice, .nilSlice, .nilSlice, .nilSlice, .nilSlice, .nilSlice, .nilSlice, .nilSlice, .nilSlice, .nilSlice, .nilSlice, .nilSlice, .nilSlice, .nilSlice, .nilSlice, .nilSlice, .nilSlice, .nilSlice, .nilSlice, .nilSlice, .nilSlice, .nilSlice, .nilSlice, .nilSlice, .nilSlice, .nilSlice, .nilSlice, .nilSlice, .nilSlice, .nilSlice, .nilSlice, .nilSlice, .nilSlice, .nilSlice, .nilSlice, .nilSlice, .nilSlice, .nilSlice, .nilSlice, .nilSlice, .nilSlice, .nilSlice, .nilSlice, .nilSlice, .nilSlice, .nilSlice, .nilSlice, .nilSlice, .nilSlice, .nilSlice, .nilSlice, .nilSlice, .nilSlice, .nilSlice, .nilSlice, .nilSlice, .nilSlice, .nilSlice, .nilSlice, .nilSlice, .nilSlice, .nilSlice, .nilSlice, .nilSlice, .nilSlice, .nilSlice, .nilSlice, .nilSlice, .nilSlice, .nilSlice, .nilSlice, .nilSlice, .nilSlice, .nilSlice, .nilSlice, .nilSlice, .nilSlice, .nilSlice, .nilSlice], [], none, true, 0, 0⟩])]
def F20o0 : IC := .ops F20p0
def F20p1 : List (Sg × List IOp) := [(.seq, [⟨some 3, .alloc 65 80 [.nilSlice, .nilSlice, .nilSlice, .nilSlice, .nilSlice, .nilSlice, .nilSlice, .nilSlice, .nilSlice, .nilSlice, .nilSlice, .nilSlice, .nilSlice, .nilSlice, .nilSlice, .nilSlice, .nilSlice, .nilSlice, .nilSlice, .nilSlice, .nilSlice, .nilSlice, .nilSlice, .nilSlice, .nilSlice, .nilSlice, .nilSlice, .nilSlice, .nilSlice, .nilSlice, .nilSlice, .nilSlice, .nilSlice, .nilSlice, .nilSlice, .nilSlice, .nilSlice, .nilSlice, .nilSlice, .nilSlice, .nilSlice, .nilSlice, .nilSlice, .nilSlice, .nilSlice, .nilSlice, .nilSlice, .nilSlice, .nilSlice, .nilSlice, .nilSlice, .nilSlice, .nilSlice, .nilSlice, .nilSlice, .nilSlice, .nilSlice, .nilSlice, .nilSlice, .nilSlice, .nilSlice, .nilSlice, .nilSlice, .nilSlice, .nilSlice, .nilSlice, .nilSlice, .nilSlice, .nilSlice, .nilSlice, .nilSlice, .nilSlice, .nilSlice, .nilSlice, .nilSlice, .nilSlice, .nilSlice, .nilSlice, .nilSlice, .nilSlice], [], none, true, 0, 0⟩])]
def F20o1 : IC := .ops F20p1
def F20p2 : List (Sg × List IOp) := [(.seq, [⟨some 4, .move, [.val (.int .i64 0)], none, true, 0, 0⟩])]
def F20o2 : IC := .ops F20p2
def F20p3 : List (Sg × List IOp) := [(.seq, [⟨some 5, .move, [.val (.int .i64 0)], none, true, 0, 0⟩])]
def F20o3 : IC := .ops F20p3
def F20p4 : List (Sg × List IOp) := [(.seq, [⟨some 8, .move, [.tmp 5], none, true, 0, 0⟩, ⟨some 9, .move, [.tmp 0], none, true, 0, 0⟩, ⟨some 10, .lenSl, [.tmp 9], none, true, 0, 0⟩, ⟨some 11, .bin .lss, [.tmp 8, .tmp 10], none, true, 0, 0⟩, ⟨some 12, .move, [.tmp 11], none, true, 0, 0⟩, ⟨some 13, .move, [.tmp 5], some (12, true), true, 0, 0⟩, ⟨some 14, .bin .lss, [.tmp 13, .val (.int .i64 40)], some (12, true), true, 0, 0⟩, ⟨some 15, .pick, [.tmp 12, .tmp 14, .val (.bool false)], none, true, 0, 0⟩])]
def F20o4 : IC := .ops F20p4
def F20p5 : List (Sg × List IOp) := [(.seq, [⟨some 18, .move, [.tmp 0], none, true, 0, 0⟩, ⟨some 19, .move, [.tmp 5], none, true, 0, 0⟩, ⟨some 20, .idxSl 2, [.tmp 18, .tmp 19], none, true, 0, 0⟩, ⟨some 21, .fieldAddr 0, [.tmp 20], none, true, 0, 0⟩, ⟨some 22, .load none, [.tmp 21], none, true, 0, 0⟩, ⟨some 23, .bin .rem, [.tmp 22, .val (.int .u8 80)], none, true, 0, 0⟩, ⟨some 6, .move, [.tmp 23], none, true, 0, 0⟩])]
def F20o5 : IC := .ops F20p5
def F20p6 : List (Sg × List IOp) := [(.seq, [⟨some 7, .move, [.val (.int .i64 0)], none, true, 0, 0⟩])]
def F20o6 : IC := .ops F20p6
def F20p7 : List (Sg × List IOp) := [(.seq, [⟨some 24, .move, [.tmp 7], none, true, 0, 0⟩, ⟨some 25, .move, [.tmp 0], none, true, 0, 0⟩, ⟨some 26, .move, [.tmp 5], none, true, 0, 0⟩, ⟨some 27, .idxSl 2, [.tmp 25, .tmp 26], none, true, 0, 0⟩, ⟨some 28, .fieldAddr 1, [.tmp 27], none, true, 0, 0⟩, ⟨some 29, .load none, [.tmp 28], none, true, 0, 0⟩, ⟨some 30, .bin .rem, [.tmp 29, .val (.int .u8 5)], none, true, 0, 0⟩, ⟨some 31, .conv .i64, [.tmp 30], none, true, 0, 0⟩, ⟨some 32, .bin .lss, [.tmp 24, .tmp 31], none, true, 0, 0⟩, ⟨some 33, .move, [.tmp 32], none, true, 0, 0⟩, ⟨some 34, .move, [.tmp 6], some (33, true), true, 0, 0⟩, ⟨some 35, .idxArrAddr 80 1, [.tmp 3, .tmp 34], some (33, true), true, 0, 0⟩, ⟨some 36, .load none, [.tmp 35], some (33, true), true, 0, 0⟩, ⟨some 37, .lenSl, [.tmp 36], some (33, true), true, 0, 0⟩, ⟨some 38, .bin .lss, [.tmp 37, .val (.int .i64 4)], some (33, true), true, 0, 0⟩, ⟨some 39, .pick, [.tmp 33, .tmp 38, .val (.bool false)], none, true, 0, 0⟩])]
def F20o7 : IC := .ops F20p7
def F20p8 : List (Sg × List IOp) := [(.seq, [⟨some 42, .move, [.tmp 6], none, true, 0, 0⟩, ⟨some 43, .move, [.tmp 6], none, true, 0, 0⟩, ⟨some 44, .idxArrAddr 80 1, [.tmp 3, .tmp 43], none, true, 0, 0⟩, ⟨some 45, .load none, [.tmp 44], none, true, 0, 0⟩, ⟨some 46, .move, [.tmp 4], none, true, 0, 0⟩, ⟨some 47, .bin .rem, [.tmp 46, .val (.int .i64 3)], none, true, 0, 0⟩, ⟨some 48, .conv .u8, [.tmp 47], none, true, 0, 0⟩, ⟨some 49, .bin .add, [.val (.int .u8 1), .tmp 48], none, true, 0, 0⟩, ⟨some 50, .move, [.tmp 4], none, true, 0, 0⟩, ⟨some 51, .bin .quo, [.tmp 50, .val (.int .i64 3)], none, true, 0, 0⟩, ⟨some 52, .build [.int .u8 0, .int .i64 0] [(0, 1), (1, 1)], [.tmp 49, .tmp 51], none, true, 0, 0⟩, ⟨some 53, .buildSl 35 2 1 [.int .u8 0, .int .i64 0] [(0, 2)], [.tmp 52], none, true, 0, 0⟩, ⟨some 54, .append 35 2 16, [.tmp 45, .tmp 53], none, true, 0, 0⟩, ⟨some 55, .idxArrAddr 80 1, [.tmp 3, .tmp 42], none, true, 0, 0⟩, ⟨none, .store 1, [.tmp 55, .tmp 54], none, true, 0, 0⟩])]
def F20o8 : IC := .ops F20p8
def F20p9 : List (Sg × List IOp) := [(.seq, [⟨some 56, .move, [.tmp 4], none, true, 0, 0⟩, ⟨some 57, .bin .add, [.tmp 56, .val (.int .i64 1)], none, true, 0, 0⟩, ⟨some 4, .move, [.tmp 57], none, true, 0, 0⟩])]
def F20o9 : IC := .ops F20p9
def F20p10 : List (Sg × List IOp) := [(.seq, [⟨some 40, .move, [.tmp 7], none, true, 0, 0⟩, ⟨some 41, .bin .add, [.tmp 40, .val (.int .i64 1)], none, true, 0, 0⟩, ⟨some 7, .move, [.tmp 41], none, true, 0, 0⟩])]
def F20o10 : IC := .ops F20p10
def F20l11 : IC := .seq (.seq (F20o7) (.cond (.tmp 39) (.skip) (.exit 2))) (.seq (.block 3 (.seq (F20o8) (F20o9))) (F20o10))
def F20p12 : List (Sg × List IOp) := [(.seq, [⟨some 16, .move, [.tmp 5], none, true, 0, 0⟩, ⟨some 17, .bin .add, [.tmp 16, .val (.int .i64 1)], none, true, 0, 0⟩, ⟨some 5, .move, [.tmp 17], none, true, 0, 0⟩])]
def F20o12 : IC := .ops F20p12
def F20l13 : IC := .seq (.seq (F20o4) (.cond (.tmp 15) (.skip) (.exit 0))) (.seq (.block 1 (.seq (F20o5) (.seq (F20o6) (.block 2 (.loop F20l11))))) (F20o12))
def F20p14 : List (Sg × List IOp) := [(.seq, [⟨some 58, .load (some 80), [.tmp 3], none, true, 0, 0⟩, ⟨none, .store 80, [.tmp 2, .tmp 58], none, true, 0, 0⟩])]
def F20o14 : IC := .ops F20p14
def F20b : IC := .seq (F20o0) (.seq (F20o1) (.seq (F20o2) (.seq (.seq (F20o3) (.block 0 (.loop F20l13))) (.seq (F20o14) (.ret)))))
def F20 : IFn := ⟨59, [(2, some (some 80))], F20b⟩
/- 21: (gansey/ganseylaw03.table).beds -/
def F21p0 : List (Sg × List IOp) := [(.seq, [⟨some 1, .box 65 80, [.tmp 0], none, true, 0, 0⟩, ⟨some 2, .alloc 26 2 [.nilSlice, .nilSlice], [], none, true, 0, 0⟩])]
def F21o0 : IC := .ops F21p0
def F21p1 : List (Sg × List IOp) := [(.seq, [⟨some 3, .alloc 26 2 [.nilSlice, .nilSlice], [], none, true, 0, 0⟩])]
def F21o1 : IC := .ops F21p1
def F21p2 : List (Sg × List IOp) := [(.seq, [⟨some 4, .move, [.val (.int .i64 39)], none, true, 0, 0⟩])]
def F21o2 : IC := .ops F21p2
def F21p3 : List (Sg × List IOp) := [(.seq, [⟨some 7, .move, [.tmp 4], none, true, 0, 0⟩, ⟨some 8, .bin .geq, [.tmp 7, .val (.int .i64 0)], none, true, 0, 0⟩])]
def F21o3 : IC := .ops F21p3
def F21p4 : List (Sg × List IOp) := [(.seq, [⟨some 11, .fieldAddr 0, [.tmp 3], none, true, 0, 0⟩, ⟨some 12, .load none, [.tmp 11], none, true, 0, 0⟩, ⟨some 13, .lenSl, [.tmp 12], none, true, 0, 0⟩, ⟨some 14, .bin .eql, [.tmp 13, .val (.int .i64 0)], none, true, 0, 0⟩, ⟨some 15, .move, [.tmp 14], none, true, 0, 0⟩, ⟨some 16, .move, [.tmp 4], some (15, true), true, 0, 0⟩, ⟨some 17, .idxArrAddr 80 1, [.tmp 1, .tmp 16], some (15, true), true, 0, 0⟩, ⟨some 18, .load none, [.tmp 17], some (15, true), true, 0, 0⟩, ⟨some 19, .lenSl, [.tmp 18], some (15, true), true, 0, 0⟩, ⟨some 20, .bin .gtr, [.tmp 19, .val (.int .i64 0)], some (15, true), true, 0, 0⟩, ⟨some 21, .pick, [.tmp 15, .tmp 20, .val (.bool false)], none, true, 0, 0⟩])]
def F21o4 : IC := .ops F21p4
def F21p5 : List (Sg × List IOp) := [(.seq, [⟨some 22, .move, [.tmp 4], none, true, 0, 0⟩, ⟨some 23, .bin .add, [.tmp 22, .val (.int .i64 1)], none, true, 0, 0⟩, ⟨some 24, .mksl 56 1 24 [.nilSlice], [.tmp 23, .tmp 23], none, true, 0, 0⟩, ⟨some 25, .fieldAddr 0, [.tmp 3], none, true, 0, 0⟩, ⟨none, .store 1, [.tmp 25, .tmp 24], none, true, 0, 0⟩])]
def F21o5 : IC := .ops F21p5
def F21p6 : List (Sg × List IOp) := [(.seq, [⟨some 26, .fieldAddr 1, [.tmp 3], none, true, 0, 0⟩, ⟨some 27, .load none, [.tmp 26], none, true, 0, 0⟩, ⟨some 28, .lenSl, [.tmp 27], none, true, 0, 0⟩, ⟨some 29, .bin .eql, [.tmp 28, .val (.int .i64 0)], none, true, 0, 0⟩, ⟨some 30, .move, [.tmp 29], none, true, 0, 0⟩, ⟨some 31, .move, [.tmp 4], some (30, true), true, 0, 0⟩, ⟨some 32, .bin .add, [.val (.int .i64 40), .tmp 31], some (30, true), true, 0, 0⟩, ⟨some 33, .idxArrAddr 80 1, [.tmp 1, .tmp 32], some (30, true), true, 0, 0⟩, ⟨some 34, .load none, [.tmp 33], some (30, true), true, 0, 0⟩, ⟨some 35, .lenSl, [.tmp 34], some (30, true), true, 0, 0⟩, ⟨some 36, .bin .gtr, [.tmp 35, .val (.int .i64 0)], some (30, true), true, 0, 0⟩, ⟨some 37, .pick, [.tmp 30, .tmp 36, .val (.bool false)], none, true, 0, 0⟩])]
def F21o6 : IC := .ops F21p6
def F21p7 : List (Sg × List IOp) := [(.seq, [⟨some 38, .move, [.tmp 4], none, true, 0, 0⟩, ⟨some 39, .bin .add, [.tmp 38, .val (.int .i64 1)], none, true, 0, 0⟩, ⟨some 40, .mksl 56 1 24 [.nilSlice], [.tmp 39, .tmp 39], none, true, 0, 0⟩, ⟨some 41, .fieldAddr 1, [.tmp 3], none, true, 0, 0⟩, ⟨none, .store 1, [.tmp 41, .tmp 40], none, true, 0, 0⟩])]
def F21o7 : IC := .ops F21p7
def F21p8 : List (Sg × List IOp) := [(.seq, [⟨some 9, .move, [.tmp 4], none, true, 0, 0⟩, ⟨some 10, .bin .sub, [.tmp 9, .val (.int .i64 1)], none, true, 0, 0⟩, ⟨some 4, .move, [.tmp 10], none, true, 0, 0⟩])]
def F21o8 : IC := .ops F21p8
def F21l9 : IC := .seq (.seq (F21o3) (.cond (.tmp 8) (.skip) (.exit 0))) (.seq (.block 1 (.seq (.seq (F21o4) (.cond (.tmp 21) (F21o5) (.skip))) (.seq (F21o6) (.cond (.tmp 37) (F21o7) (.skip))))) (F21o8))
def F21p10 : List (Sg × List IOp) := [(.seq, [⟨some 5, .move, [.val (.int .i64 0)], none, true, 0, 0⟩])]
def F21o10 : IC := .ops F21p10
def F21p11 : List (Sg × List IOp) := [(.seq, [⟨some 42, .move, [.tmp 5], none, true, 0, 0⟩, ⟨some 43, .fieldAddr 0, [.tmp 3], none, true, 0, 0⟩, ⟨some 44, .load none, [.tmp 43], none, true, 0, 0⟩, ⟨some 45, .lenSl, [.tmp 44], none, true, 0, 0⟩, ⟨some 46, .bin .lss, [.tmp 42, .tmp 45], none, true, 0, 0⟩])]
def F21o11 : IC := .ops F21p11
def F21p12 : List (Sg × List IOp) := [(.free, [⟨some 49, .fieldAddr 0, [.tmp 3], none, false, 0, 0⟩, ⟨some 50, .load none, [.tmp 49], none, false, 1, 1⟩, ⟨some 51, .move, [.tmp 5], none, false, 2, 0⟩, ⟨some 52, .buildSl 35 2 0 [] [], [], none, false, 3, 0⟩, ⟨some 53, .move, [.tmp 5], none, false, 4, 0⟩, ⟨some 54, .idxArrAddr 80 1, [.tmp 1, .tmp 53], none, false, 5, 16⟩, ⟨some 55, .load none, [.tmp 54], none, false, 6, 48⟩, ⟨some 56, .append 35 2 16, [.tmp 52, .tmp 55], none, true, 7, 120⟩]), (.seq, [⟨some 57, .idxSl 1, [.tmp 50, .tmp 51], none, true, 8, 255⟩]), (.seq, [⟨none, .store 1, [.tmp 57, .tmp 56], none, true, 9, 511⟩])]
def F21o12 : IC := .ops F21p12
def F21p13 : List (Sg × List IOp) := [(.seq, [⟨some 47, .move, [.tmp 5], none, true, 0, 0⟩, ⟨some 48, .bin .add, [.tmp 47, .val (.int .i64 1)], none, true, 0, 0⟩, ⟨some 5, .move, [.tmp 48], none, true, 0, 0⟩])]
def F21o13 : IC := .ops F21p13
def F21l14 : IC := .seq (.seq (F21o11) (.cond (.tmp 46) (.skip) (.exit 2))) (.seq (.block 3 (F21o12)) (F21o13))
def F21p15 : List (Sg × List IOp) := [(.seq, [⟨some 6, .move, [.val (.int .i64 0)], none, true, 0, 0⟩])]
def F21o15 : IC := .ops F21p15
def F21p16 : List (Sg × List IOp) := [(.seq, [⟨some 58, .move, [.tmp 6], none, true, 0, 0⟩, ⟨some 59, .fieldAddr 1, [.tmp 3], none, true, 0, 0⟩, ⟨some 60, .load none, [.tmp 59], none, true, 0, 0⟩, ⟨some 61, .lenSl, [.tmp 60], none, true, 0, 0⟩, ⟨some 62, .bin .lss, [.tmp 58, .tmp 61], none, true, 0, 0⟩])]
def F21o16 : IC := .ops F21p16
def F21p17 : List (Sg × List IOp) := [(.free, [⟨some 65, .fieldAddr 1, [.tmp 3], none, false, 0, 0⟩, ⟨some 66, .load none, [.tmp 65], none, false, 1, 1⟩, ⟨some 67, .move, [.tmp 6], none, false, 2, 0⟩, ⟨some 68, .buildSl 35 2 0 [] [], [], none, false, 3, 0⟩, ⟨some 69, .move, [.tmp 6], none, false, 4, 0⟩, ⟨some 70, .bin .add, [.val (.int .i64 40), .tmp 69], none, false, 5, 16⟩, ⟨some 71, .idxArrAddr 80 1, [.tmp 1, .tmp 70], none, false, 6, 48⟩, ⟨some 72, .load none, [.tmp 71], none, false, 7, 112⟩, ⟨some 73, .append 35 2 16, [.tmp 68, .tmp 72], none, true, 8, 248⟩]), (.seq, [⟨some 74, .idxSl 1, [.tmp 66, .tmp 67], none, true, 9, 511⟩]), (.seq, [⟨none, .store 1, [.tmp 74, .tmp 73], none, true, 10, 1023⟩])]
def F21o17 : IC := .ops F21p17
def F21p18 : List (Sg × List IOp) := [(.seq, [⟨some 63, .move, [.tmp 6], none, true, 0, 0⟩, ⟨some 64, .bin .add, [.tmp 63, .val (.int .i64 1)], none, true, 0, 0⟩, ⟨some 6, .move, [.tmp 64], none, true, 0, 0⟩])]
def F21o18 : IC := .ops F21p18
def F21l19 : IC := .seq (.seq (F21o16) (.cond (.tmp 62) (.skip) (.exit 4))) (.seq (.block 5 (F21o17)) (F21o18))
def F21p20 : List (Sg × List IOp) := [(.seq, [⟨some 75, .load (some 2), [.tmp 3], none, true, 0, 0⟩, ⟨none, .store 2, [.tmp 2, .tmp 75], none, true, 0, 0⟩])]
def F21o20 : IC := .ops F21p20
def F21b : IC := .seq (F21o0) (.seq (F21o1) (.seq (.seq (F21o2) (.block 0 (.loop F21l9))) (.seq (.seq (F21o10) (.block 2 (.loop F21l14))) (.seq (.seq (F21o15) (.block 4 (.loop F21l19))) (.seq (F21o20) (.ret))))))
def F21 : IFn := ⟨76, [(2, some (some 2))], F21b⟩
/- 22: gansey/orders.check -/
def F22p0 : List (Sg × List IOp) := [(.seq, [⟨some 2, .box 26 2, [.tmp 0], none, true, 0, 0⟩, ⟨some 4, .move, [.val (.int .i64 0)], none, true, 0, 0⟩])]
def F22o0 : IC := .ops F22p0
def F22p1 : List (Sg × List IOp) := [(.seq, [⟨some 6, .load (some 2), [.tmp 2], none, true, 0, 0⟩, ⟨some 7, .call, [.val (.fn 15 [] []), .tmp 6], none, true, 0, 0⟩, ⟨some 5, .move, [.tmp 7], none, true, 0, 0⟩])]
def F22o1 : IC := .ops F22p1
def F22p2 : List (Sg × List IOp) := [(.seq, [⟨some 8, .move, [.tmp 5], none, true, 0, 0⟩, ⟨some 9, .bin .neq, [.tmp 8, .val (.int .i64 0)], none, true, 0, 0⟩])]
def F22o2 : IC := .ops F22p2
def F22p3 : List (Sg × List IOp) := [(.seq, [⟨some 10, .move, [.tmp 5], none, true, 0, 0⟩, ⟨some 4, .move, [.tmp 10], none, true, 0, 0⟩])]
def F22o3 : IC := .ops F22p3
def F22p4 : List (Sg × List IOp) := [(.seq, [⟨some 11, .move, [.tmp 1], none, true, 0, 0⟩, ⟨some 12, .call, [.val (.fn 45 [] []), .tmp 11], none, true, 0, 0⟩, ⟨some 13, .un .not, [.tmp 12], none, true, 0, 0⟩])]
def F22o4 : IC := .ops F22p4
def F22p5 : List (Sg × List IOp) := [(.seq, [⟨some 4, .move, [.val (.int .i64 11)], none, true, 0, 0⟩])]
def F22o5 : IC := .ops F22p5
def F22p6 : List (Sg × List IOp) := [(.seq, [⟨some 4, .move, [.val (.int .i64 0)], none, true, 0, 0⟩])]
def F22o6 : IC := .ops F22p6
def F22b : IC := .seq (F22o0) (.seq (.seq (F22o1) (.seq (F22o2) (.cond (.tmp 9) (.seq (F22o3) (.ret)) (.skip)))) (.seq (.seq (F22o4) (.cond (.tmp 13) (.seq (F22o5) (.ret)) (.skip))) (.seq (F22o6) (.ret))))
def F22 : IFn := ⟨14, [(4, none)], F22b⟩
/- 23: gansey/stacks.Count -/
def F23p0 : List (Sg × List IOp) := [(.seq, [⟨some 1, .box 26 2, [.tmp 0], none, true, 0, 0⟩, ⟨some 2, .move, [.val (.int .i64 0)], none, true, 0, 0⟩])]
def F23o0 : IC := .ops F23p0
def F23p1 : List (Sg × List IOp) := [(.seq, [⟨some 3, .alloc 3 1 [.int .i64 0], [], none, true, 0, 0⟩, ⟨none, .store 1, [.tmp 3, .val (.int .i64 0)], none, true, 0, 0⟩])]
def F23o1 : IC := .ops F23p1
def F23p2 : List (Sg × List IOp) := [(.seq, [⟨some 6, .load (some 2), [.tmp 1], none, true, 0, 0⟩, ⟨some 7, .call, [.val (.fn 46 [] []), .tmp 6], none, true, 0, 0⟩])]
def F23o2 : IC := .ops F23p2
def F23p3 : List (Sg × List IOp) := [(.seq, [⟨some 5, .move, [.tmp 9], none, true, 0, 0⟩])]
def F23o3 : IC := .ops F23p3
def F23p4 : List (Sg × List IOp) := [(.seq, [⟨some 10, .load none, [.tmp 3], none, true, 0, 0⟩, ⟨some 11, .move, [.tmp 5], none, true, 0, 0⟩, ⟨some 12, .lenSl, [.tmp 11], none, true, 0, 0⟩, ⟨some 13, .bin .add, [.tmp 10, .tmp 12], none, true, 0, 0⟩, ⟨none, .store 1, [.tmp 3, .tmp 13], none, true, 0, 0⟩])]
def F23o4 : IC := .ops F23p4
def F23p5 : List (Sg × List IOp) := [(.seq, [⟨some 14, .load none, [.tmp 3], none, true, 0, 0⟩, ⟨some 2, .move, [.tmp 14], none, true, 0, 0⟩])]
def F23o5 : IC := .ops F23p5
def F23b : IC := .seq (F23o0) (.seq (F23o1) (.seq (.seq (F23o2) (.block 0 (.rfn (.tmp 7) [8, 9] (F23o3) (.block 1 (F23o4))))) (.seq (F23o5) (.ret))))
def F23 : IFn := ⟨15, [(2, none)], F23b⟩
/- 24: gansey/orders.List$1 -/
def F24p0 : List (Sg × List IOp) := [(.seq, [⟨some 11, .move, [.tmp 1], none, true, 0, 0⟩, ⟨some 12, .lenSl, [.tmp 11], none, true, 0, 0⟩, ⟨some 13, .move, [.val (.int .i64 0)], none, true, 0, 0⟩])]
def F24o0 : IC := .ops F24p0
def F24p1 : List (Sg × List IOp) := [(.seq, [⟨some 14, .bin .lss, [.tmp 13, .tmp 12], none, true, 0, 0⟩])]
def F24o1 : IC := .ops F24p1
def F24p2 : List (Sg × List IOp) := [(.seq, [⟨some 15, .move, [.tmp 13], none, true, 0, 0⟩, ⟨some 16, .idxSl 1, [.tmp 11, .tmp 13], none, true, 0, 0⟩, ⟨some 17, .load none, [.tmp 16], none, true, 0, 0⟩, ⟨some 6, .move, [.tmp 15], none, true, 0, 0⟩, ⟨some 7, .move, [.tmp 17], none, true, 0, 0⟩])]
def F24o2 : IC := .ops F24p2
def F24p3 : List (Sg × List IOp) := [(.seq, [⟨some 18, .move, [.tmp 0], none, true, 0, 0⟩, ⟨some 19, .move, [.tmp 6], none, true, 0, 0⟩, ⟨some 20, .bin .add, [.tmp 19, .val (.int .i64 1)], none, true, 0, 0⟩, ⟨some 21, .build [.int .u8 0, .int .i64 0] [(0, 1), (1, 1)], [.tmp 18, .tmp 20], none, true, 0, 0⟩, ⟨some 8, .alloc 38 2 [.int .u8 0, .int .i64 0], [], none, true, 0, 0⟩, ⟨none, .store 2, [.tmp 8, .tmp 21], none, true, 0, 0⟩])]
def F24o3 : IC := .ops F24p3
def F24p4 : List (Sg × List IOp) := [(.seq, [⟨some 22, .move, [.tmp 7], none, true, 0, 0⟩, ⟨some 23, .lenSl, [.tmp 22], none, true, 0, 0⟩, ⟨some 24, .move, [.val (.int .i64 0)], none, true, 0, 0⟩])]
def F24o4 : IC := .ops F24p4
def F24p5 : List (Sg × List IOp) := [(.seq, [⟨some 25, .bin .lss, [.tmp 24, .tmp 23], none, true, 0, 0⟩])]
def F24o5 : IC := .ops F24p5
def F24p6 : List (Sg × List IOp) := [(.seq, [⟨some 26, .idxSl 2, [.tmp 22, .tmp 24], none, true, 0, 0⟩, ⟨some 27, .load (some 2), [.tmp 26], none, true, 0, 0⟩, ⟨some 10, .alloc 35 2 [.int .u8 0, .int .i64 0], [], none, true, 0, 0⟩, ⟨none, .store 2, [.tmp 10, .tmp 27], none, true, 0, 0⟩])]
def F24o6 : IC := .ops F24p6
def F24p7 : List (Sg × List IOp) := [(.free, [⟨some 28, .load none, [.tmp 2], none, false, 0, 0⟩, ⟨some 29, .load (some 2), [.tmp 10], none, false, 1, 0⟩, ⟨some 30, .load (some 2), [.tmp 8], none, false, 2, 0⟩, ⟨some 31, .load (some 2), [.tmp 8], none, false, 3, 0⟩, ⟨some 32, .load none, [.tmp 3], none, false, 4, 0⟩, ⟨some 33, .call, [.val (.fn 25 [] []), .tmp 31, .tmp 32], none, false, 5, 24⟩, ⟨some 34, .build [.int .u8 0, .int .i64 0, .int .u8 0, .int .i64 0, .int .i64 0] [(0, 2), (2, 2), (4, 1)], [.tmp 29, .tmp 30, .tmp 33], none, false, 6, 62⟩, ⟨some 35, .buildSl 40 5 1 [.int .u8 0, .int .i64 0, .int .u8 0, .int .i64 0, .int .i64 0] [(0, 5)], [.tmp 34], none, false, 7, 126⟩]), (.seq, [⟨some 36, .append 40 5 40, [.tmp 28, .tmp 35], none, true, 8, 255⟩]), (.seq, [⟨none, .store 1, [.tmp 2, .tmp 36], none, true, 9, 511⟩])]
def F24o7 : IC := .ops F24p7
def F24p8 : List (Sg × List IOp) := [(.seq, [⟨some 37, .bin .add, [.tmp 24, .val (.int .i64 1)], none, true, 0, 0⟩, ⟨some 24, .move, [.tmp 37], none, true, 0, 0⟩])]
def F24o8 : IC := .ops F24p8
def F24l9 : IC := .seq (F24o5) (.seq (.cond (.tmp 25) (.skip) (.exit 2)) (.seq (.block 3 (.seq (F24o6) (F24o7))) (F24o8)))
def F24p10 : List (Sg × List IOp) := [(.seq, [⟨some 38, .bin .add, [.tmp 13, .val (.int .i64 1)], none, true, 0, 0⟩, ⟨some 13, .move, [.tmp 38], none, true, 0, 0⟩])]
def F24o10 : IC := .ops F24p10
def F24l11 : IC := .seq (F24o1) (.seq (.cond (.tmp 14) (.skip) (.exit 0)) (.seq (.block 1 (.seq (F24o2) (.seq (F24o3) (.seq (F24o4) (.block 2 (.loop F24l9)))))) (F24o10)))
def F24b : IC := .seq (F24o0) (.block 0 (.loop F24l11))
def F24 : IFn := ⟨39, [], F24b⟩
/- 25: gansey/needles.Spot -/
def F25p0 : List (Sg × List IOp) := [(.seq, [⟨some 2, .box 38 2, [.tmp 0], none, true, 0, 0⟩, ⟨some 4, .move, [.val (.int .i64 0)], none, true, 0, 0⟩])]
def F25o0 : IC := .ops F25p0
def F25p1 : List (Sg × List IOp) := [(.seq, [⟨some 5, .load (some 2), [.tmp 2], none, true, 0, 0⟩, ⟨some 6, .call, [.val (.fn 47 [] []), .tmp 5], none, true, 0, 0⟩, ⟨some 7, .bin .neq, [.tmp 6, .val (.int .i64 0)], none, true, 0, 0⟩, ⟨some 8, .move, [.tmp 7], none, true, 0, 0⟩, ⟨some 9, .move, [.tmp 1], some (8, false), true, 0, 0⟩, ⟨some 10, .call, [.val (.fn 48 [] []), .tmp 9], some (8, false), true, 0, 0⟩, ⟨some 11, .un .not, [.tmp 10], some (8, false), true, 0, 0⟩, ⟨some 12, .pick, [.tmp 8, .val (.bool true), .tmp 11], none, true, 0, 0⟩])]
def F25o1 : IC := .ops F25p1
def F25p2 : List (Sg × List IOp) := [(.seq, [⟨some 4, .move, [.val (.int .i64 0)], none, true, 0, 0⟩])]
def F25o2 : IC := .ops F25p2
def F25p3 : List (Sg × List IOp) := [(.seq, [⟨some 13, .fieldAddr 0, [.tmp 2], none, true, 0, 0⟩, ⟨some 14, .load none, [.tmp 13], none, true, 0, 0⟩, ⟨some 15, .bin .eql, [.tmp 14, .val (.int .u8 0)], none, true, 0, 0⟩])]
def F25o3 : IC := .ops F25p3
def F25p4 : List (Sg × List IOp) := [(.seq, [⟨some 16, .fieldAddr 1, [.tmp 2], none, true, 0, 0⟩, ⟨some 17, .load none, [.tmp 16], none, true, 0, 0⟩, ⟨some 18, .bin .mul, [.val (.int .i64 4), .tmp 17], none, true, 0, 0⟩, ⟨some 19, .bin .add, [.tmp 18, .val (.int .i64 2)], none, true, 0, 0⟩, ⟨some 4, .move, [.tmp 19], none, true, 0, 0⟩])]
def F25o4 : IC := .ops F25p4
def F25p5 : List (Sg × List IOp) := [(.seq, [⟨some 20, .fieldAddr 1, [.tmp 2], none, true, 0, 0⟩, ⟨some 21, .load none, [.tmp 20], none, true, 0, 0⟩, ⟨some 22, .move, [.tmp 1], none, true, 0, 0⟩, ⟨some 23, .bin .add, [.tmp 21, .tmp 22], none, true, 0, 0⟩, ⟨some 24, .bin .mul, [.val (.int .i64 4), .tmp 23], none, true, 0, 0⟩, ⟨some 4, .move, [.tmp 24], none, true, 0, 0⟩])]
def F25o5 : IC := .ops F25p5
def F25b : IC := .seq (F25o0) (.seq (.seq (F25o1) (.cond (.tmp 12) (.seq (F25o2) (.ret)) (.skip))) (.seq (.seq (F25o3) (.cond (.tmp 15) (.seq (F25o4) (.ret)) (.skip))) (.seq (F25o5) (.ret))))
def F25 : IFn := ⟨25, [(4, none)], F25b⟩
/- 26: slices.SortStableFunc[[]gansey/orders.Held,gansey/orders.Held] -/
def F26p0 : List (Sg × List IOp) := [(.seq, [⟨some 4, .move, [.tmp 0], none, true, 0, 0⟩, ⟨some 5, .move, [.tmp 0], none, true, 0, 0⟩, ⟨some 6, .lenSl, [.tmp 5], none, true, 0, 0⟩, ⟨some 7, .move, [.tmp 1], none, true, 0, 0⟩, ⟨some 8, .call, [.val (.fn 49 [] []), .tmp 4, .tmp 6, .tmp 7], none, true, 0, 0⟩])]
def F26o0 : IC := .ops F26p0
def F26b : IC := F26o0
def F26 : IFn := ⟨9, [], F26b⟩
/- 27: gansey/orders.List$2 -/
def F27p0 : List (Sg × List IOp) := [(.seq, [⟨some 2, .box 40 5, [.tmp 0], none, true, 0, 0⟩, ⟨some 3, .box 40 5, [.tmp 1], none, true, 0, 0⟩, ⟨some 4, .move, [.val (.int .i64 0)], none, true, 0, 0⟩])]
def F27o0 : IC := .ops F27p0
def F27p1 : List (Sg × List IOp) := [(.seq, [⟨some 5, .fieldAddr 4, [.tmp 2], none, true, 0, 0⟩, ⟨some 6, .load none, [.tmp 5], none, true, 0, 0⟩, ⟨some 7, .fieldAddr 4, [.tmp 3], none, true, 0, 0⟩, ⟨some 8, .load none, [.tmp 7], none, true, 0, 0⟩, ⟨some 9, .call, [.val (.fn 28 [] []), .tmp 6, .tmp 8], none, true, 0, 0⟩, ⟨some 4, .move, [.tmp 9], none, true, 0, 0⟩])]
def F27o1 : IC := .ops F27p1
def F27b : IC := .seq (F27o0) (.seq (F27o1) (.ret))
def F27 : IFn := ⟨10, [(4, none)], F27b⟩
/- 28: cmp.Compare[int] -/
def F28p0 : List (Sg × List IOp) := [(.seq, [⟨some 4, .move, [.val (.int .i64 0)], none, true, 0, 0⟩])]
def F28o0 : IC := .ops F28p0
def F28p1 : List (Sg × List IOp) := [(.seq, [⟨some 7, .move, [.tmp 0], none, true, 0, 0⟩, ⟨some 8, .call, [.val (.fn 50 [] []), .tmp 7], none, true, 0, 0⟩, ⟨some 5, .move, [.tmp 8], none, true, 0, 0⟩])]
def F28o1 : IC := .ops F28p1
def F28p2 : List (Sg × List IOp) := [(.seq, [⟨some 9, .move, [.tmp 1], none, true, 0, 0⟩, ⟨some 10, .call, [.val (.fn 50 [] []), .tmp 9], none, true, 0, 0⟩, ⟨some 6, .move, [.tmp 10], none, true, 0, 0⟩])]
def F28o2 : IC := .ops F28p2
def F28p3 : List (Sg × List IOp) := [(.seq, [⟨some 11, .move, [.tmp 5], none, true, 0, 0⟩])]
def F28o3 : IC := .ops F28p3
def F28p4 : List (Sg × List IOp) := [(.seq, [⟨some 12, .move, [.tmp 6], none, true, 0, 0⟩])]
def F28o4 : IC := .ops F28p4
def F28p5 : List (Sg × List IOp) := [(.seq, [⟨some 4, .move, [.val (.int .i64 0)], none, true, 0, 0⟩])]
def F28o5 : IC := .ops F28p5
def F28p6 : List (Sg × List IOp) := [(.seq, [⟨some 4, .move, [.val (.int .i64 (-1))], none, true, 0, 0⟩])]
def F28o6 : IC := .ops F28p6
def F28p7 : List (Sg × List IOp) := [(.seq, [⟨some 13, .move, [.tmp 6], none, true, 0, 0⟩])]
def F28o7 : IC := .ops F28p7
def F28p8 : List (Sg × List IOp) := [(.seq, [⟨some 4, .move, [.val (.int .i64 1)], none, true, 0, 0⟩])]
def F28o8 : IC := .ops F28p8
def F28p9 : List (Sg × List IOp) := [(.seq, [⟨some 14, .move, [.tmp 0], none, true, 0, 0⟩, ⟨some 15, .move, [.tmp 1], none, true, 0, 0⟩, ⟨some 16, .bin .lss, [.tmp 14, .tmp 15], none, true, 0, 0⟩])]
def F28o9 : IC := .ops F28p9
def F28p10 : List (Sg × List IOp) := [(.seq, [⟨some 4, .move, [.val (.int .i64 (-1))], none, true, 0, 0⟩])]
def F28o10 : IC := .ops F28p10
def F28p11 : List (Sg × List IOp) := [(.seq, [⟨some 17, .move, [.tmp 0], none, true, 0, 0⟩, ⟨some 18, .move, [.tmp 1], none, true, 0, 0⟩, ⟨some 19, .bin .gtr, [.tmp 17, .tmp 18], none, true, 0, 0⟩])]
def F28o11 : IC := .ops F28p11
def F28p12 : List (Sg × List IOp) := [(.seq, [⟨some 4, .move, [.val (.int .i64 1)], none, true, 0, 0⟩])]
def F28o12 : IC := .ops F28p12
def F28p13 : List (Sg × List IOp) := [(.seq, [⟨some 4, .move, [.val (.int .i64 0)], none, true, 0, 0⟩])]
def F28o13 : IC := .ops F28p13
def F28b : IC := .seq (F28o0) (.seq (F28o1) (.seq (F28o2) (.seq (.seq (F28o3) (.cond (.tmp 11) (.seq (.seq (F28o4) (.cond (.tmp 12) (.seq (F28o5) (.ret)) (.skip))) (.seq (F28o6) (.ret))) (.skip))) (.seq (.seq (F28o7) (.cond (.tmp 13) (.seq (F28o8) (.ret)) (.skip))) (.seq (.seq (F28o9) (.cond (.tmp 16) (.seq (F28o10) (.ret)) (.skip))) (.seq (.seq (F28o11) (.cond (.tmp 19) (.seq (F28o12) (.ret)) (.skip))) (.seq (F28o13) (.ret))))))))
def F28 : IFn := ⟨20, [(4, none)], F28b⟩
/- 29: gansey/orders.copied[gansey/orders.Held] -/
def F29p0 : List (Sg × List IOp) := [(.seq, [⟨some 2, .move, [.val (.nilSlice)], none, true, 0, 0⟩])]
def F29o0 : IC := .ops F29p0
def F29p1 : List (Sg × List IOp) := [(.seq, [⟨some 4, .move, [.tmp 0], none, true, 0, 0⟩, ⟨some 5, .lenSl, [.tmp 4], none, true, 0, 0⟩, ⟨some 6, .mksl 40 5 40 [.int .u8 0, .int .i64 0, .int .u8 0, .int .i64 0, .int .i64 0], [.tmp 5, .tmp 5], none, true, 0, 0⟩, ⟨some 3, .move, [.tmp 6], none, true, 0, 0⟩])]
def F29o1 : IC := .ops F29p1
def F29p2 : List (Sg × List IOp) := [(.seq, [⟨some 7, .move, [.tmp 3], none, true, 0, 0⟩, ⟨some 8, .move, [.tmp 0], none, true, 0, 0⟩, ⟨some 9, .copy 5, [.tmp 7, .tmp 8], none, true, 0, 0⟩])]
def F29o2 : IC := .ops F29p2
def F29p3 : List (Sg × List IOp) := [(.seq, [⟨some 10, .move, [.tmp 3], none, true, 0, 0⟩, ⟨some 2, .move, [.tmp 10], none, true, 0, 0⟩])]
def F29o3 : IC := .ops F29p3
def F29b : IC := .seq (F29o0) (.seq (F29o1) (.seq (F29o2) (.seq (F29o3) (.ret))))
def F29 : IFn := ⟨11, [(2, none)], F29b⟩
/- 30: gansey/ganseylaw04.example -/
def F30p0 : List (Sg × List IOp) := [(.seq, [⟨some 0, .alloc 26 2 [.nilSlice, .nilSlice], [], none, true, 0, 0⟩])]
def F30o0 : IC := .ops F30p0
def F30p1 : List (Sg × List IOp) := [(.seq, [⟨some 1, .build [.int .u8 0, .int .i64 0] [(0, 1)], [.val (.int .u8 1)], none, true, 0, 0⟩, ⟨some 2, .build [.int .u8 0, .int .i64 0] [(0, 1), (1, 1)], [.val (.int .u8 1), .val (.int .i64 1)], none, true, 0, 0⟩, ⟨some 3, .buildSl 35 2 2 [.int .u8 0, .int .i64 0, .int .u8 0, .int .i64 0] [(0, 2), (2, 2)], [.tmp 1, .tmp 2], none, true, 0, 0⟩, ⟨some 4, .buildSl 56 1 2 [.nilSlice, .nilSlice] [(0, 1), (1, 1)], [.val (.nilSlice), .tmp 3], none, true, 0, 0⟩, ⟨some 5, .build [.int .u8 0, .int .i64 0] [(0, 1)], [.val (.int .u8 2)], none, true, 0, 0⟩, ⟨some 6, .build [.int .u8 0, .int .i64 0] [(0, 1), (1, 1)], [.val (.int .u8 2), .val (.int .i64 1)], none, true, 0, 0⟩, ⟨some 7, .buildSl 35 2 2 [.int .u8 0, .int .i64 0, .int .u8 0, .int .i64 0] [(0, 2), (2, 2)], [.tmp 5, .tmp 6], none, true, 0, 0⟩, ⟨some 8, .build [.int .u8 0, .int .i64 0] [(0, 1), (1, 1)], [.val (.int .u8 2), .val (.int .i64 2)], none, true, 0, 0⟩, ⟨some 9, .buildSl 35 2 1 [.int .u8 0, .int .i64 0] [(0, 2)], [.tmp 8], none, true, 0, 0⟩, ⟨some 10, .buildSl 56 1 4 [.nilSlice, .nilSlice, .nilSlice, .nilSlice] [(0, 1), (1, 1), (2, 1), (3, 1)], [.val (.nilSlice), .tmp 7, .val (.nilSlice), .tmp 9], none, true, 0, 0⟩, ⟨some 11, .build [.nilSlice, .nilSlice] [(0, 1), (1, 1)], [.tmp 4, .tmp 10], none, true, 0, 0⟩, ⟨none, .store 2, [.tmp 0, .tmp 11], none, true, 0, 0⟩])]
def F30o1 : IC := .ops F30p1
def F30b : IC := .seq (F30o0) (.seq (F30o1) (.ret))
def F30 : IFn := ⟨12, [(0, some (some 2))], F30b⟩
/- 31: gansey/ganseylaw04.text -/
def F31p0 : List (Sg × List IOp) := [(.seq, [⟨some 2, .move, [.val (.str [])], none, true, 0, 0⟩])]
def F31o0 : IC := .ops F31p0
def F31p1 : List (Sg × List IOp) := [(.seq, [⟨some 3, .move, [.val (.str [])], none, true, 0, 0⟩])]
def F31o1 : IC := .ops F31p1
def F31p2 : List (Sg × List IOp) := [(.seq, [⟨some 4, .move, [.val (.int .i64 0)], none, true, 0, 0⟩])]
def F31o2 : IC := .ops F31p2
def F31p3 : List (Sg × List IOp) := [(.seq, [⟨some 5, .move, [.tmp 4], none, true, 0, 0⟩, ⟨some 6, .move, [.tmp 0], none, true, 0, 0⟩, ⟨some 7, .lenSl, [.tmp 6], none, true, 0, 0⟩, ⟨some 8, .bin .lss, [.tmp 5, .tmp 7], none, true, 0, 0⟩])]
def F31o3 : IC := .ops F31p3
def F31p4 : List (Sg × List IOp) := [(.free, [⟨some 11, .move, [.tmp 3], none, false, 0, 0⟩, ⟨some 12, .move, [.tmp 0], none, false, 1, 0⟩, ⟨some 13, .move, [.tmp 4], none, false, 2, 0⟩, ⟨some 14, .idxSl 2, [.tmp 12, .tmp 13], none, false, 3, 6⟩, ⟨some 15, .fieldAddr 0, [.tmp 14], none, false, 4, 14⟩, ⟨some 16, .load none, [.tmp 15], none, false, 5, 30⟩, ⟨some 17, .bin .add, [.val (.int .u8 48), .tmp 16], none, false, 6, 62⟩, ⟨some 18, .move, [.tmp 0], none, false, 7, 0⟩, ⟨some 19, .move, [.tmp 4], none, false, 8, 0⟩, ⟨some 20, .idxSl 2, [.tmp 18, .tmp 19], none, false, 9, 384⟩, ⟨some 21, .fieldAddr 1, [.tmp 20], none, false, 10, 896⟩, ⟨some 22, .load none, [.tmp 21], none, false, 11, 1920⟩, ⟨some 23, .bin .rem, [.tmp 22, .val (.int .i64 10)], none, false, 12, 3968⟩, ⟨some 24, .conv .u8, [.tmp 23], none, false, 13, 8064⟩, ⟨some 25, .bin .add, [.val (.int .u8 48), .tmp 24], none, false, 14, 16256⟩, ⟨some 26, .buildSl 5 1 4 [.int .u8 0, .int .u8 0, .int .u8 0, .int .u8 0] [(0, 1), (1, 1), (2, 1), (3, 1)], [.tmp 17, .val (.int .u8 46), .tmp 25, .val (.int .u8 32)], none, true, 15, 32766⟩, ⟨some 27, .strOf, [.tmp 26], none, true, 16, 65534⟩]), (.seq, [⟨some 28, .bin .add, [.tmp 11, .tmp 27], none, true, 17, 131071⟩]), (.seq, [⟨some 3, .move, [.tmp 28], none, true, 18, 262143⟩])]
def F31o4 : IC := .ops F31p4
def F31p5 : List (Sg × List IOp) := [(.seq, [⟨some 9, .move, [.tmp 4], none, true, 0, 0⟩, ⟨some 10, .bin .add, [.tmp 9, .val (.int .i64 1)], none, true, 0, 0⟩, ⟨some 4, .move, [.tmp 10], none, true, 0, 0⟩])]
def F31o5 : IC := .ops F31p5
def F31l6 : IC := .seq (.seq (F31o3) (.cond (.tmp 8) (.skip) (.exit 0))) (.seq (.block 1 (F31o4)) (F31o5))
def F31p7 : List (Sg × List IOp) := [(.seq, [⟨some 29, .move, [.tmp 3], none, true, 0, 0⟩, ⟨some 2, .move, [.tmp 29], none, true, 0, 0⟩])]
def F31o7 : IC := .ops F31p7
def F31b : IC := .seq (F31o0) (.seq (F31o1) (.seq (.seq (F31o2) (.block 0 (.loop F31l6))) (.seq (F31o7) (.ret))))
def F31 : IFn := ⟨30, [(2, none)], F31b⟩
/- 32: gansey/ganseylaw04.ids -/
def F32p0 : List (Sg × List IOp) := [(.seq, [⟨some 2, .move, [.val (.nilSlice)], none, true, 0, 0⟩])]
def F32o0 : IC := .ops F32p0
def F32p1 : List (Sg × List IOp) := [(.seq, [⟨some 3, .move, [.val (.nilSlice)], none, true, 0, 0⟩])]
def F32o1 : IC := .ops F32p1
def F32p2 : List (Sg × List IOp) := [(.seq, [⟨some 4, .move, [.val (.int .i64 0)], none, true, 0, 0⟩])]
def F32o2 : IC := .ops F32p2
def F32p3 : List (Sg × List IOp) := [(.seq, [⟨some 5, .move, [.tmp 4], none, true, 0, 0⟩, ⟨some 6, .move, [.tmp 0], none, true, 0, 0⟩, ⟨some 7, .lenSl, [.tmp 6], none, true, 0, 0⟩, ⟨some 8, .bin .lss, [.tmp 5, .tmp 7], none, true, 0, 0⟩])]
def F32o3 : IC := .ops F32p3
def F32p4 : List (Sg × List IOp) := [(.seq, [⟨some 11, .move, [.tmp 3], none, true, 0, 0⟩, ⟨some 12, .move, [.tmp 0], none, true, 0, 0⟩, ⟨some 13, .move, [.tmp 4], none, true, 0, 0⟩, ⟨some 14, .idxSl 5, [.tmp 12, .tmp 13], none, true, 0, 0⟩, ⟨some 15, .fieldAddr 0, [.tmp 14], none, true, 0, 0⟩, ⟨some 16, .load (some 2), [.tmp 15], none, true, 0, 0⟩, ⟨some 17, .buildSl 35 2 1 [.int .u8 0, .int .i64 0] [(0, 2)], [.tmp 16], none, true, 0, 0⟩, ⟨some 18, .append 35 2 16, [.tmp 11, .tmp 17], none, true, 0, 0⟩, ⟨some 3, .move, [.tmp 18], none, true, 0, 0⟩])]
def F32o4 : IC := .ops F32p4
def F32p5 : List (Sg × List IOp) := [(.seq, [⟨some 9, .move, [.tmp 4], none, true, 0, 0⟩, ⟨some 10, .bin .add, [.tmp 9, .val (.int .i64 1)], none, true, 0, 0⟩, ⟨some 4, .move, [.tmp 10], none, true, 0, 0⟩])]
def F32o5 : IC := .ops F32p5
def F32l6 : IC := .seq (.seq (F32o3) (.cond (.tmp 8) (.skip) (.exit 0))) (.seq (.block 1 (F32o4)) (F32o5))
def F32p7 : List (Sg × List IOp) := [(.seq, [⟨some 19, .move, [.tmp 3], none, true, 0, 0⟩, ⟨some 2, .move, [.tmp 19], none, true, 0, 0⟩])]
def F32o7 : IC := .ops F32p7
def F32b : IC := .seq (F32o0) (.seq (F32o1) (.seq (.seq (F32o2) (.block 0 (.loop F32l6))) (.seq (F32o7) (.ret))))
def F32 : IFn := ⟨20, [(2, none)], F32b⟩
/- 34: gansey/stacks.At -/
def F34p0 : List (Sg × List IOp) := [(.seq, [⟨some 2, .box 26 2, [.tmp 0], none, true, 0, 0⟩, ⟨some 3, .box 38 2, [.tmp 1], none, true, 0, 0⟩, ⟨some 4, .move, [.val (.nilSlice)], none, true, 0, 0⟩])]
def F34o0 : IC := .ops F34p0
def F34p1 : List (Sg × List IOp) := [(.seq, [⟨some 6, .load (some 2), [.tmp 3], none, true, 0, 0⟩, ⟨some 7, .call, [.val (.fn 47 [] []), .tmp 6], none, true, 0, 0⟩, ⟨some 8, .bin .neq, [.tmp 7, .val (.int .i64 0)], none, true, 0, 0⟩])]
def F34o1 : IC := .ops F34p1
def F34p2 : List (Sg × List IOp) := [(.seq, [⟨some 4, .move, [.val (.nilSlice)], none, true, 0, 0⟩])]
def F34o2 : IC := .ops F34p2
def F34p3 : List (Sg × List IOp) := [(.seq, [⟨some 9, .fieldAddr 0, [.tmp 2], none, true, 0, 0⟩, ⟨some 10, .load none, [.tmp 9], none, true, 0, 0⟩, ⟨some 5, .move, [.tmp 10], none, true, 0, 0⟩])]
def F34o3 : IC := .ops F34p3
def F34p4 : List (Sg × List IOp) := [(.seq, [⟨some 11, .fieldAddr 0, [.tmp 3], none, true, 0, 0⟩, ⟨some 12, .load none, [.tmp 11], none, true, 0, 0⟩, ⟨some 13, .bin .eql, [.tmp 12, .val (.int .u8 1)], none, true, 0, 0⟩])]
def F34o4 : IC := .ops F34p4
def F34p5 : List (Sg × List IOp) := [(.seq, [⟨some 14, .fieldAddr 1, [.tmp 2], none, true, 0, 0⟩, ⟨some 15, .load none, [.tmp 14], none, true, 0, 0⟩, ⟨some 5, .move, [.tmp 15], none, true, 0, 0⟩])]
def F34o5 : IC := .ops F34p5
def F34p6 : List (Sg × List IOp) := [(.seq, [⟨some 16, .fieldAddr 1, [.tmp 3], none, true, 0, 0⟩, ⟨some 17, .load none, [.tmp 16], none, true, 0, 0⟩, ⟨some 18, .move, [.tmp 5], none, true, 0, 0⟩, ⟨some 19, .lenSl, [.tmp 18], none, true, 0, 0⟩, ⟨some 20, .bin .gtr, [.tmp 17, .tmp 19], none, true, 0, 0⟩])]
def F34o6 : IC := .ops F34p6
def F34p7 : List (Sg × List IOp) := [(.seq, [⟨some 4, .move, [.val (.nilSlice)], none, true, 0, 0⟩])]
def F34o7 : IC := .ops F34p7
def F34p8 : List (Sg × List IOp) := [(.seq, [⟨some 21, .move, [.tmp 5], none, true, 0, 0⟩, ⟨some 22, .fieldAddr 1, [.tmp 3], none, true, 0, 0⟩, ⟨some 23, .load none, [.tmp 22], none, true, 0, 0⟩, ⟨some 24, .bin .sub, [.tmp 23, .val (.int .i64 1)], none, true, 0, 0⟩, ⟨some 25, .idxSl 1, [.tmp 21, .tmp 24], none, true, 0, 0⟩, ⟨some 26, .load none, [.tmp 25], none, true, 0, 0⟩, ⟨some 27, .call, [.val (.fn 51 [] []), .tmp 26], none, true, 0, 0⟩, ⟨some 4, .move, [.tmp 27], none, true, 0, 0⟩])]
def F34o8 : IC := .ops F34p8
def F34b : IC := .seq (F34o0) (.seq (.seq (F34o1) (.cond (.tmp 8) (.seq (F34o2) (.ret)) (.skip))) (.seq (F34o3) (.seq (.seq (F34o4) (.cond (.tmp 13) (F34o5) (.skip))) (.seq (.seq (F34o6) (.cond (.tmp 20) (.seq (F34o7) (.ret)) (.skip))) (.seq (F34o8) (.ret))))))
def F34 : IFn := ⟨28, [(4, none)], F34b⟩
/- 35: gansey/orders.checkStep -/
def F35p0 : List (Sg × List IOp) := [(.seq, [⟨some 3, .box 26 2, [.tmp 0], none, true, 0, 0⟩, ⟨some 6, .move, [.val (.int .i64 0)], none, true, 0, 0⟩])]
def F35o0 : IC := .ops F35p0
def F35p1 : List (Sg × List IOp) := [(.seq, [⟨some 8, .load (some 2), [.tmp 3], none, true, 0, 0⟩, ⟨some 9, .move, [.tmp 1], none, true, 0, 0⟩, ⟨some 10, .call, [.val (.fn 22 [] []), .tmp 8, .tmp 9], none, true, 0, 0⟩, ⟨some 7, .move, [.tmp 10], none, true, 0, 0⟩])]
def F35o1 : IC := .ops F35p1
def F35p2 : List (Sg × List IOp) := [(.seq, [⟨some 11, .move, [.tmp 7], none, true, 0, 0⟩, ⟨some 12, .bin .neq, [.tmp 11, .val (.int .i64 0)], none, true, 0, 0⟩])]
def F35o2 : IC := .ops F35p2
def F35p3 : List (Sg × List IOp) := [(.seq, [⟨some 13, .move, [.tmp 7], none, true, 0, 0⟩, ⟨some 6, .move, [.tmp 13], none, true, 0, 0⟩])]
def F35o3 : IC := .ops F35p3
def F35p4 : List (Sg × List IOp) := [(.seq, [⟨some 14, .move, [.tmp 2], none, true, 0, 0⟩, ⟨some 15, .bin .neq, [.tmp 14, .val (.int .u8 0)], none, true, 0, 0⟩, ⟨some 16, .move, [.tmp 15], none, true, 0, 0⟩, ⟨some 17, .move, [.tmp 2], some (16, true), true, 0, 0⟩, ⟨some 18, .bin .neq, [.tmp 17, .val (.int .u8 1)], some (16, true), true, 0, 0⟩, ⟨some 19, .pick, [.tmp 16, .tmp 18, .val (.bool false)], none, true, 0, 0⟩])]
def F35o4 : IC := .ops F35p4
def F35p5 : List (Sg × List IOp) := [(.seq, [⟨some 6, .move, [.val (.int .i64 1)], none, true, 0, 0⟩])]
def F35o5 : IC := .ops F35p5
def F35p6 : List (Sg × List IOp) := [(.seq, [⟨some 20, .move, [.tmp 1], none, true, 0, 0⟩, ⟨some 21, .move, [.tmp 2], none, true, 0, 0⟩, ⟨some 22, .idxArrAddr 2 1, [.glob 0, .tmp 21], none, true, 0, 0⟩, ⟨some 23, .load none, [.tmp 22], none, true, 0, 0⟩, ⟨some 24, .bin .add, [.tmp 20, .tmp 23], none, true, 0, 0⟩, ⟨some 25, .call, [.val (.fn 45 [] []), .tmp 24], none, true, 0, 0⟩, ⟨some 26, .un .not, [.tmp 25], none, true, 0, 0⟩])]
def F35o6 : IC := .ops F35p6
def F35p7 : List (Sg × List IOp) := [(.seq, [⟨some 6, .move, [.val (.int .i64 11)], none, true, 0, 0⟩])]
def F35o7 : IC := .ops F35p7
def F35p8 : List (Sg × List IOp) := [(.seq, [⟨some 6, .move, [.val (.int .i64 0)], none, true, 0, 0⟩])]
def F35o8 : IC := .ops F35p8
def F35b : IC := .seq (F35o0) (.seq (.seq (F35o1) (.seq (F35o2) (.cond (.tmp 12) (.seq (F35o3) (.ret)) (.skip)))) (.seq (.seq (F35o4) (.cond (.tmp 19) (.seq (F35o5) (.ret)) (.skip))) (.seq (.seq (F35o6) (.cond (.tmp 26) (.seq (F35o7) (.ret)) (.skip))) (.seq (F35o8) (.ret)))))
def F35 : IFn := ⟨27, [(6, none)], F35b⟩
/- 36: slices.Reverse[[]gansey/api.Id,gansey/api.Id] -/
def F36p0 : List (Sg × List IOp) := [(.seq, [⟨some 4, .move, [.tmp 0], none, true, 0, 0⟩, ⟨some 5, .lenSl, [.tmp 4], none, true, 0, 0⟩, ⟨some 6, .bin .sub, [.tmp 5, .val (.int .i64 1)], none, true, 0, 0⟩, ⟨some 2, .move, [.val (.int .i64 0)], none, true, 0, 0⟩, ⟨some 3, .move, [.tmp 6], none, true, 0, 0⟩])]
def F36o0 : IC := .ops F36p0
def F36p1 : List (Sg × List IOp) := [(.seq, [⟨some 7, .move, [.tmp 2], none, true, 0, 0⟩, ⟨some 8, .move, [.tmp 3], none, true, 0, 0⟩, ⟨some 9, .bin .lss, [.tmp 7, .tmp 8], none, true, 0, 0⟩])]
def F36o1 : IC := .ops F36p1
def F36p2 : List (Sg × List IOp) := [(.free, [⟨some 14, .move, [.tmp 0], none, false, 0, 0⟩, ⟨some 15, .move, [.tmp 2], none, false, 1, 0⟩, ⟨some 16, .move, [.tmp 0], none, false, 2, 0⟩, ⟨some 17, .move, [.tmp 3], none, false, 3, 0⟩, ⟨some 18, .move, [.tmp 0], none, false, 4, 0⟩, ⟨some 19, .move, [.tmp 3], none, false, 5, 0⟩, ⟨some 20, .idxSl 2, [.tmp 18, .tmp 19], none, false, 6, 48⟩, ⟨some 21, .load (some 2), [.tmp 20], none, false, 7, 112⟩, ⟨some 22, .move, [.tmp 0], none, false, 8, 0⟩, ⟨some 23, .move, [.tmp 2], none, false, 9, 0⟩, ⟨some 24, .idxSl 2, [.tmp 22, .tmp 23], none, false, 10, 768⟩, ⟨some 25, .load (some 2), [.tmp 24], none, false, 11, 1792⟩, ⟨some 26, .idxSl 2, [.tmp 14, .tmp 15], none, true, 12, 4083⟩, ⟨none, .store 2, [.tmp 26, .tmp 21], none, true, 13, 8179⟩]), (.seq, [⟨some 27, .idxSl 2, [.tmp 16, .tmp 17], none, true, 14, 16383⟩]), (.seq, [⟨none, .store 2, [.tmp 27, .tmp 25], none, true, 15, 32767⟩])]
def F36o2 : IC := .ops F36p2
def F36p3 : List (Sg × List IOp) := [(.seq, [⟨some 10, .move, [.tmp 2], none, true, 0, 0⟩, ⟨some 11, .bin .add, [.tmp 10, .val (.int .i64 1)], none, true, 0, 0⟩, ⟨some 12, .move, [.tmp 3], none, true, 0, 0⟩, ⟨some 13, .bin .sub, [.tmp 12, .val (.int .i64 1)], none, true, 0, 0⟩, ⟨some 2, .move, [.tmp 11], none, true, 0, 0⟩, ⟨some 3, .move, [.tmp 13], none, true, 0, 0⟩])]
def F36o3 : IC := .ops F36p3
def F36l4 : IC := .seq (.seq (F36o1) (.cond (.tmp 9) (.skip) (.exit 0))) (.seq (.block 1 (F36o2)) (F36o3))
def F36b : IC := .seq (F36o0) (.block 0 (.loop F36l4))
def F36 : IFn := ⟨28, [], F36b⟩
/- 37: slices.Reverse[[]gansey/orders.Cross,gansey/orders.Cross] -/
def F37p0 : List (Sg × List IOp) := [(.seq, [⟨some 4, .move, [.tmp 0], none, true, 0, 0⟩, ⟨some 5, .lenSl, [.tmp 4], none, true, 0, 0⟩, ⟨some 6, .bin .sub, [.tmp 5, .val (.int .i64 1)], none, true, 0, 0⟩, ⟨some 2, .move, [.val (.int .i64 0)], none, true, 0, 0⟩, ⟨some 3, .move, [.tmp 6], none, true, 0, 0⟩])]
def F37o0 : IC := .ops F37p0
def F37p1 : List (Sg × List IOp) := [(.seq, [⟨some 7, .move, [.tmp 2], none, true, 0, 0⟩, ⟨some 8, .move, [.tmp 3], none, true, 0, 0⟩, ⟨some 9, .bin .lss, [.tmp 7, .tmp 8], none, true, 0, 0⟩])]
def F37o1 : IC := .ops F37p1
def F37p2 : List (Sg × List IOp) := [(.free, [⟨some 14, .move, [.tmp 0], none, false, 0, 0⟩, ⟨some 15, .move, [.tmp 2], none, false, 1, 0⟩, ⟨some 16, .move, [.tmp 0], none, false, 2, 0⟩, ⟨some 17, .move, [.tmp 3], none, false, 3, 0⟩, ⟨some 18, .move, [.tmp 0], none, false, 4, 0⟩, ⟨some 19, .move, [.tmp 3], none, false, 5, 0⟩, ⟨some 20, .idxSl 5, [.tmp 18, .tmp 19], none, false, 6, 48⟩, ⟨some 21, .load (some 5), [.tmp 20], none, false, 7, 112⟩, ⟨some 22, .move, [.tmp 0], none, false, 8, 0⟩, ⟨some 23, .move, [.tmp 2], none, false, 9, 0⟩, ⟨some 24, .idxSl 5, [.tmp 22, .tmp 23], none, false, 10, 768⟩, ⟨some 25, .load (some 5), [.tmp 24], none, false, 11, 1792⟩, ⟨some 26, .idxSl 5, [.tmp 14, .tmp 15], none, true, 12, 4083⟩, ⟨none, .store 5, [.tmp 26, .tmp 21], none, true, 13, 8179⟩]), (.seq, [⟨some 27, .idxSl 5, [.tmp 16, .tmp 17], none, true, 14, 16383⟩]), (.seq, [⟨none, .store 5, [.tmp 27, .tmp 25], none, true, 15, 32767⟩])]
def F37o2 : IC := .ops F37p2
def F37p3 : List (Sg × List IOp) := [(.seq, [⟨some 10, .move, [.tmp 2], none, true, 0, 0⟩, ⟨some 11, .bin .add, [.tmp 10, .val (.int .i64 1)], none, true, 0, 0⟩, ⟨some 12, .move, [.tmp 3], none, true, 0, 0⟩, ⟨some 13, .bin .sub, [.tmp 12, .val (.int .i64 1)], none, true, 0, 0⟩, ⟨some 2, .move, [.tmp 11], none, true, 0, 0⟩, ⟨some 3, .move, [.tmp 13], none, true, 0, 0⟩])]
def F37o3 : IC := .ops F37p3
def F37l4 : IC := .seq (.seq (F37o1) (.cond (.tmp 9) (.skip) (.exit 0))) (.seq (.block 1 (F37o2)) (F37o3))
def F37b : IC := .seq (F37o0) (.block 0 (.loop F37l4))
def F37 : IFn := ⟨28, [], F37b⟩
/- 38: gansey/orders.copied[gansey/orders.Cross] -/
def F38p0 : List (Sg × List IOp) := [(.seq, [⟨some 2, .move, [.val (.nilSlice)], none, true, 0, 0⟩])]
def F38o0 : IC := .ops F38p0
def F38p1 : List (Sg × List IOp) := [(.seq, [⟨some 4, .move, [.tmp 0], none, true, 0, 0⟩, ⟨some 5, .lenSl, [.tmp 4], none, true, 0, 0⟩, ⟨some 6, .mksl 47 5 40 [.int .u8 0, .int .i64 0, .int .u8 0, .int .i64 0, .int .i64 0], [.tmp 5, .tmp 5], none, true, 0, 0⟩, ⟨some 3, .move, [.tmp 6], none, true, 0, 0⟩])]
def F38o1 : IC := .ops F38p1
def F38p2 : List (Sg × List IOp) := [(.seq, [⟨some 7, .move, [.tmp 3], none, true, 0, 0⟩, ⟨some 8, .move, [.tmp 0], none, true, 0, 0⟩, ⟨some 9, .copy 5, [.tmp 7, .tmp 8], none, true, 0, 0⟩])]
def F38o2 : IC := .ops F38p2
def F38p3 : List (Sg × List IOp) := [(.seq, [⟨some 10, .move, [.tmp 3], none, true, 0, 0⟩, ⟨some 2, .move, [.tmp 10], none, true, 0, 0⟩])]
def F38o3 : IC := .ops F38p3
def F38b : IC := .seq (F38o0) (.seq (F38o1) (.seq (F38o2) (.seq (F38o3) (.ret))))
def F38 : IFn := ⟨11, [(2, none)], F38b⟩
/- 39: slices.Reverse[[]gansey/yarns.Pass,gansey/yarns.Pass] -/
def F39p0 : List (Sg × List IOp) := [(.seq, [⟨some 4, .move, [.tmp 0], none, true, 0, 0⟩, ⟨some 5, .lenSl, [.tmp 4], none, true, 0, 0⟩, ⟨some 6, .bin .sub, [.tmp 5, .val (.int .i64 1)], none, true, 0, 0⟩, ⟨some 2, .move, [.val (.int .i64 0)], none, true, 0, 0⟩, ⟨some 3, .move, [.tmp 6], none, true, 0, 0⟩])]
def F39o0 : IC := .ops F39p0
def F39p1 : List (Sg × List IOp) := [(.seq, [⟨some 7, .move, [.tmp 2], none, true, 0, 0⟩, ⟨some 8, .move, [.tmp 3], none, true, 0, 0⟩, ⟨some 9, .bin .lss, [.tmp 7, .tmp 8], none, true, 0, 0⟩])]
def F39o1 : IC := .ops F39p1
def F39p2 : List (Sg × List IOp) := [(.free, [⟨some 14, .move, [.tmp 0], none, false, 0, 0⟩, ⟨some 15, .move, [.tmp 2], none, false, 1, 0⟩, ⟨some 16, .move, [.tmp 0], none, false, 2, 0⟩, ⟨some 17, .move, [.tmp 3], none, false, 3, 0⟩, ⟨some 18, .move, [.tmp 0], none, false, 4, 0⟩, ⟨some 19, .move, [.tmp 3], none, false, 5, 0⟩, ⟨some 20, .idxSl 4, [.tmp 18, .tmp 19], none, false, 6, 48⟩, ⟨some 21, .load (some 4), [.tmp 20], none, false, 7, 112⟩, ⟨some 22, .move, [.tmp 0], none, false, 8, 0⟩, ⟨some 23, .move, [.tmp 2], none, false, 9, 0⟩, ⟨some 24, .idxSl 4, [.tmp 22, .tmp 23], none, false, 10, 768⟩, ⟨some 25, .load (some 4), [.tmp 24], none, false, 11, 1792⟩, ⟨some 26, .idxSl 4, [.tmp 14, .tmp 15], none, true, 12, 4083⟩, ⟨none, .store 4, [.tmp 26, .tmp 21], none, true, 13, 8179⟩]), (.seq, [⟨some 27, .idxSl 4, [.tmp 16, .tmp 17], none, true, 14, 16383⟩]), (.seq, [⟨none, .store 4, [.tmp 27, .tmp 25], none, true, 15, 32767⟩])]
def F39o2 : IC := .ops F39p2
def F39p3 : List (Sg × List IOp) := [(.seq, [⟨some 10, .move, [.tmp 2], none, true, 0, 0⟩, ⟨some 11, .bin .add, [.tmp 10, .val (.int .i64 1)], none, true, 0, 0⟩, ⟨some 12, .move, [.tmp 3], none, true, 0, 0⟩, ⟨some 13, .bin .sub, [.tmp 12, .val (.int .i64 1)], none, true, 0, 0⟩, ⟨some 2, .move, [.tmp 11], none, true, 0, 0⟩, ⟨some 3, .move, [.tmp 13], none, true, 0, 0⟩])]
def F39o3 : IC := .ops F39p3
def F39l4 : IC := .seq (.seq (F39o1) (.cond (.tmp 9) (.skip) (.exit 0))) (.seq (.block 1 (F39o2)) (F39o3))
def F39b : IC := .seq (F39o0) (.block 0 (.loop F39l4))
def F39 : IFn := ⟨28, [], F39b⟩
/- 40: gansey/orders.copied[gansey/yarns.Pass] -/
def F40p0 : List (Sg × List IOp) := [(.seq, [⟨some 2, .move, [.val (.nilSlice)], none, true, 0, 0⟩])]
def F40o0 : IC := .ops F40p0
def F40p1 : List (Sg × List IOp) := [(.seq, [⟨some 4, .move, [.tmp 0], none, true, 0, 0⟩, ⟨some 5, .lenSl, [.tmp 4], none, true, 0, 0⟩, ⟨some 6, .mksl 54 4 24 [.int .u8 0, .int .i64 0, .bool false, .int .u8 0], [.tmp 5, .tmp 5], none, true, 0, 0⟩, ⟨some 3, .move, [.tmp 6], none, true, 0, 0⟩])]
def F40o1 : IC := .ops F40p1
def F40p2 : List (Sg × List IOp) := [(.seq, [⟨some 7, .move, [.tmp 3], none, true, 0, 0⟩, ⟨some 8, .move, [.tmp 0], none, true, 0, 0⟩, ⟨some 9, .copy 4, [.tmp 7, .tmp 8], none, true, 0, 0⟩])]
def F40o2 : IC := .ops F40p2
def F40p3 : List (Sg × List IOp) := [(.seq, [⟨some 10, .move, [.tmp 3], none, true, 0, 0⟩, ⟨some 2, .move, [.tmp 10], none, true, 0, 0⟩])]
def F40o3 : IC := .ops F40p3
def F40b : IC := .seq (F40o0) (.seq (F40o1) (.seq (F40o2) (.seq (F40o3) (.ret))))
def F40 : IFn := ⟨11, [(2, none)], F40b⟩
/- 41: gansey/stacks.beds -/
def F41p0 : List (Sg × List IOp) := [(.seq, [⟨some 1, .box 26 2, [.tmp 0], none, true, 0, 0⟩, ⟨some 2, .move, [.val (.nilFunc)], none, true, 0, 0⟩])]
def F41o0 : IC := .ops F41p0
def F41p1 : List (Sg × List IOp) := [(.seq, [⟨some 3, .mkfn 52 0, [.tmp 1], none, true, 0, 0⟩, ⟨some 2, .move, [.tmp 3], none, true, 0, 0⟩])]
def F41o1 : IC := .ops F41p1
def F41b : IC := .seq (F41o0) (.seq (F41o1) (.ret))
def F41 : IFn := ⟨4, [(2, none)], F41b⟩
/- 42: gansey/yarns.Named -/
def F42p0 : List (Sg × List IOp) := [(.seq, [⟨some 1, .box 35 2, [.tmp 0], none, true, 0, 0⟩, ⟨some 2, .move, [.val (.bool false)], none, true, 0, 0⟩])]
def F42o0 : IC := .ops F42p0
def F42p1 : List (Sg × List IOp) := [(.seq, [⟨some 3, .fieldAddr 0, [.tmp 1], none, true, 0, 0⟩, ⟨some 4, .load none, [.tmp 3], none, true, 0, 0⟩, ⟨some 5, .bin .geq, [.tmp 4, .val (.int .u8 1)], none, true, 0, 0⟩, ⟨some 6, .move, [.tmp 5], none, true, 0, 0⟩, ⟨some 7, .fieldAddr 0, [.tmp 1], some (6, true), true, 0, 0⟩, ⟨some 8, .load none, [.tmp 7], some (6, true), true, 0, 0⟩, ⟨some 9, .bin .leq, [.tmp 8, .val (.int .u8 6)], some (6, true), true, 0, 0⟩, ⟨some 10, .pick, [.tmp 6, .tmp 9, .val (.bool false)], none, true, 0, 0⟩, ⟨some 11, .move, [.tmp 10], none, true, 0, 0⟩, ⟨some 12, .fieldAddr 1, [.tmp 1], some (11, true), true, 0, 0⟩, ⟨some 13, .load none, [.tmp 12], some (11, true), true, 0, 0⟩, ⟨some 14, .bin .geq, [.tmp 13, .val (.int .i64 0)], some (11, true), true, 0, 0⟩, ⟨some 15, .pick, [.tmp 11, .tmp 14, .val (.bool false)], none, true, 0, 0⟩, ⟨some 16, .move, [.tmp 15], none, true, 0, 0⟩, ⟨some 17, .fieldAddr 1, [.tmp 1], some (16, true), true, 0, 0⟩, ⟨some 18, .load none, [.tmp 17], some (16, true), true, 0, 0⟩, ⟨some 19, .bin .lss, [.tmp 18, .val (.int .i64 2048)], some (16, true), true, 0, 0⟩, ⟨some 20, .pick, [.tmp 16, .tmp 19, .val (.bool false)], none, true, 0, 0⟩, ⟨some 2, .move, [.tmp 20], none, true, 0, 0⟩])]
def F42o1 : IC := .ops F42p1
def F42b : IC := .seq (F42o0) (.seq (F42o1) (.ret))
def F42 : IFn := ⟨21, [(2, none)], F42b⟩
/- 45: gansey/orders.racked -/
def F45p0 : List (Sg × List IOp) := [(.seq, [⟨some 2, .move, [.val (.bool false)], none, true, 0, 0⟩])]
def F45o0 : IC := .ops F45p0
def F45p1 : List (Sg × List IOp) := [(.seq, [⟨some 3, .move, [.tmp 0], none, true, 0, 0⟩, ⟨some 4, .bin .geq, [.tmp 3, .val (.int .i64 (-4))], none, true, 0, 0⟩, ⟨some 5, .move, [.tmp 4], none, true, 0, 0⟩, ⟨some 6, .move, [.tmp 0], some (5, true), true, 0, 0⟩, ⟨some 7, .bin .leq, [.tmp 6, .val (.int .i64 4)], some (5, true), true, 0, 0⟩, ⟨some 8, .pick, [.tmp 5, .tmp 7, .val (.bool false)], none, true, 0, 0⟩, ⟨some 2, .move, [.tmp 8], none, true, 0, 0⟩])]
def F45o1 : IC := .ops F45p1
def F45b : IC := .seq (F45o0) (.seq (F45o1) (.ret))
def F45 : IFn := ⟨9, [(2, none)], F45b⟩
/- 46: gansey/stacks.needled -/
def F46p0 : List (Sg × List IOp) := [(.seq, [⟨some 1, .box 26 2, [.tmp 0], none, true, 0, 0⟩, ⟨some 2, .move, [.val (.nilFunc)], none, true, 0, 0⟩])]
def F46o0 : IC := .ops F46p0
def F46p1 : List (Sg × List IOp) := [(.seq, [⟨some 3, .mkfn 54 0, [.tmp 1], none, true, 0, 0⟩, ⟨some 2, .move, [.tmp 3], none, true, 0, 0⟩])]
def F46o1 : IC := .ops F46p1
def F46b : IC := .seq (F46o0) (.seq (F46o1) (.ret))
def F46 : IFn := ⟨4, [(2, none)], F46b⟩
/- 47: gansey/needles.Check -/
def F47p0 : List (Sg × List IOp) := [(.seq, [⟨some 1, .box 38 2, [.tmp 0], none, true, 0, 0⟩, ⟨some 2, .move, [.val (.int .i64 0)], none, true, 0, 0⟩])]
def F47o0 : IC := .ops F47p0
def F47p1 : List (Sg × List IOp) := [(.seq, [⟨some 3, .fieldAddr 0, [.tmp 1], none, true, 0, 0⟩, ⟨some 4, .load none, [.tmp 3], none, true, 0, 0⟩, ⟨some 5, .bin .neq, [.tmp 4, .val (.int .u8 0)], none, true, 0, 0⟩, ⟨some 6, .move, [.tmp 5], none, true, 0, 0⟩, ⟨some 7, .fieldAddr 0, [.tmp 1], some (6, true), true, 0, 0⟩, ⟨some 8, .load none, [.tmp 7], some (6, true), true, 0, 0⟩, ⟨some 9, .bin .neq, [.tmp 8, .val (.int .u8 1)], some (6, true), true, 0, 0⟩, ⟨some 10, .pick, [.tmp 6, .tmp 9, .val (.bool false)], none, true, 0, 0⟩])]
def F47o1 : IC := .ops F47p1
def F47p2 : List (Sg × List IOp) := [(.seq, [⟨some 2, .move, [.val (.int .i64 1)], none, true, 0, 0⟩])]
def F47o2 : IC := .ops F47p2
def F47p3 : List (Sg × List IOp) := [(.seq, [⟨some 11, .fieldAddr 1, [.tmp 1], none, true, 0, 0⟩, ⟨some 12, .load none, [.tmp 11], none, true, 0, 0⟩, ⟨some 13, .bin .lss, [.tmp 12, .val (.int .i64 1)], none, true, 0, 0⟩, ⟨some 14, .move, [.tmp 13], none, true, 0, 0⟩, ⟨some 15, .fieldAddr 1, [.tmp 1], some (14, false), true, 0, 0⟩, ⟨some 16, .load none, [.tmp 15], some (14, false), true, 0, 0⟩, ⟨some 17, .bin .gtr, [.tmp 16, .val (.int .i64 40)], some (14, false), true, 0, 0⟩, ⟨some 18, .pick, [.tmp 14, .val (.bool true), .tmp 17], none, true, 0, 0⟩])]
def F47o3 : IC := .ops F47p3
def F47p4 : List (Sg × List IOp) := [(.seq, [⟨some 2, .move, [.val (.int .i64 1)], none, true, 0, 0⟩])]
def F47o4 : IC := .ops F47p4
def F47p5 : List (Sg × List IOp) := [(.seq, [⟨some 2, .move, [.val (.int .i64 0)], none, true, 0, 0⟩])]
def F47o5 : IC := .ops F47p5
def F47b : IC := .seq (F47o0) (.seq (.seq (F47o1) (.cond (.tmp 10) (.seq (F47o2) (.ret)) (.skip))) (.seq (.seq (F47o3) (.cond (.tmp 18) (.seq (F47o4) (.ret)) (.skip))) (.seq (F47o5) (.ret))))
def F47 : IFn := ⟨19, [(2, none)], F47b⟩
/- 48: gansey/needles.racked -/
def F48p0 : List (Sg × List IOp) := [(.seq, [⟨some 2, .move, [.val (.bool false)], none, true, 0, 0⟩])]
def F48o0 : IC := .ops F48p0
def F48p1 : List (Sg × List IOp) := [(.seq, [⟨some 3, .move, [.tmp 0], none, true, 0, 0⟩, ⟨some 4, .bin .geq, [.tmp 3, .val (.int .i64 (-4))], none, true, 0, 0⟩, ⟨some 5, .move, [.tmp 4], none, true, 0, 0⟩, ⟨some 6, .move, [.tmp 0], some (5, true), true, 0, 0⟩, ⟨some 7, .bin .leq, [.tmp 6, .val (.int .i64 4)], some (5, true), true, 0, 0⟩, ⟨some 8, .pick, [.tmp 5, .tmp 7, .val (.bool false)], none, true, 0, 0⟩, ⟨some 2, .move, [.tmp 8], none, true, 0, 0⟩])]
def F48o1 : IC := .ops F48p1
def F48b : IC := .seq (F48o0) (.seq (F48o1) (.ret))
def F48 : IFn := ⟨9, [(2, none)], F48b⟩
/- 49: slices.stableCmpFunc[gansey/orders.Held] -/
def F49p0 : List (Sg × List IOp) := [(.seq, [⟨some 6, .move, [.val (.int .i64 20)], none, true, 0, 0⟩])]
def F49o0 : IC := .ops F49p0
def F49p1 : List (Sg × List IOp) := [(.seq, [⟨some 10, .move, [.tmp 6], none, true, 0, 0⟩, ⟨some 7, .move, [.val (.int .i64 0)], none, true, 0, 0⟩, ⟨some 8, .move, [.tmp 10], none, true, 0, 0⟩])]
def F49o1 : IC := .ops F49p1
def F49p2 : List (Sg × List IOp) := [(.seq, [⟨some 11, .move, [.tmp 8], none, true, 0, 0⟩, ⟨some 12, .move, [.tmp 1], none, true, 0, 0⟩, ⟨some 13, .bin .leq, [.tmp 11, .tmp 12], none, true, 0, 0⟩])]
def F49o2 : IC := .ops F49p2
def F49p3 : List (Sg × List IOp) := [(.seq, [⟨some 14, .move, [.tmp 0], none, true, 0, 0⟩, ⟨some 15, .move, [.tmp 7], none, true, 0, 0⟩, ⟨some 16, .move, [.tmp 8], none, true, 0, 0⟩, ⟨some 17, .move, [.tmp 2], none, true, 0, 0⟩, ⟨some 18, .call, [.val (.fn 55 [] []), .tmp 14, .tmp 15, .tmp 16, .tmp 17], none, true, 0, 0⟩])]
def F49o3 : IC := .ops F49p3
def F49p4 : List (Sg × List IOp) := [(.seq, [⟨some 19, .move, [.tmp 8], none, true, 0, 0⟩, ⟨some 7, .move, [.tmp 19], none, true, 0, 0⟩])]
def F49o4 : IC := .ops F49p4
def F49p5 : List (Sg × List IOp) := [(.seq, [⟨some 20, .move, [.tmp 8], none, true, 0, 0⟩, ⟨some 21, .move, [.tmp 6], none, true, 0, 0⟩, ⟨some 22, .bin .add, [.tmp 20, .tmp 21], none, true, 0, 0⟩, ⟨some 8, .move, [.tmp 22], none, true, 0, 0⟩])]
def F49o5 : IC := .ops F49p5
def F49l6 : IC := .seq (.seq (F49o2) (.cond (.tmp 13) (.skip) (.exit 0))) (.block 1 (.seq (F49o3) (.seq (F49o4) (F49o5))))
def F49p7 : List (Sg × List IOp) := [(.seq, [⟨some 23, .move, [.tmp 0], none, true, 0, 0⟩, ⟨some 24, .move, [.tmp 7], none, true, 0, 0⟩, ⟨some 25, .move, [.tmp 1], none, true, 0, 0⟩, ⟨some 26, .move, [.tmp 2], none, true, 0, 0⟩, ⟨some 27, .call, [.val (.fn 55 [] []), .tmp 23, .tmp 24, .tmp 25, .tmp 26], none, true, 0, 0⟩])]
def F49o7 : IC := .ops F49p7
def F49p8 : List (Sg × List IOp) := [(.seq, [⟨some 28, .move, [.tmp 6], none, true, 0, 0⟩, ⟨some 29, .move, [.tmp 1], none, true, 0, 0⟩, ⟨some 30, .bin .lss, [.tmp 28, .tmp 29], none, true, 0, 0⟩])]
def F49o8 : IC := .ops F49p8
def F49p9 : List (Sg × List IOp) := [(.seq, [⟨some 31, .move, [.tmp 6], none, true, 0, 0⟩, ⟨some 32, .bin .mul, [.val (.int .i64 2), .tmp 31], none, true, 0, 0⟩, ⟨some 7, .move, [.val (.int .i64 0)], none, true, 0, 0⟩, ⟨some 8, .move, [.tmp 32], none, true, 0, 0⟩])]
def F49o9 : IC := .ops F49p9
def F49p10 : List (Sg × List IOp) := [(.seq, [⟨some 33, .move, [.tmp 8], none, true, 0, 0⟩, ⟨some 34, .move, [.tmp 1], none, true, 0, 0⟩, ⟨some 35, .bin .leq, [.tmp 33, .tmp 34], none, true, 0, 0⟩])]
def F49o10 : IC := .ops F49p10
def F49p11 : List (Sg × List IOp) := [(.seq, [⟨some 36, .move, [.tmp 0], none, true, 0, 0⟩, ⟨some 37, .move, [.tmp 7], none, true, 0, 0⟩, ⟨some 38, .move, [.tmp 7], none, true, 0, 0⟩, ⟨some 39, .move, [.tmp 6], none, true, 0, 0⟩, ⟨some 40, .bin .add, [.tmp 38, .tmp 39], none, true, 0, 0⟩, ⟨some 41, .move, [.tmp 8], none, true, 0, 0⟩, ⟨some 42, .move, [.tmp 2], none, true, 0, 0⟩, ⟨some 43, .call, [.val (.fn 56 [] []), .tmp 36, .tmp 37, .tmp 40, .tmp 41, .tmp 42], none, true, 0, 0⟩])]
def F49o11 : IC := .ops F49p11
def F49p12 : List (Sg × List IOp) := [(.seq, [⟨some 44, .move, [.tmp 8], none, true, 0, 0⟩, ⟨some 7, .move, [.tmp 44], none, true, 0, 0⟩])]
def F49o12 : IC := .ops F49p12
def F49p13 : List (Sg × List IOp) := [(.seq, [⟨some 45, .move, [.tmp 8], none, true, 0, 0⟩, ⟨some 46, .move, [.tmp 6], none, true, 0, 0⟩, ⟨some 47, .bin .mul, [.val (.int .i64 2), .tmp 46], none, true, 0, 0⟩, ⟨some 48, .bin .add, [.tmp 45, .tmp 47], none, true, 0, 0⟩, ⟨some 8, .move, [.tmp 48], none, true, 0, 0⟩])]
def F49o13 : IC := .ops F49p13
def F49l14 : IC := .seq (.seq (F49o10) (.cond (.tmp 35) (.skip) (.exit 4))) (.block 5 (.seq (F49o11) (.seq (F49o12) (F49o13))))
def F49p15 : List (Sg × List IOp) := [(.seq, [⟨some 49, .move, [.tmp 7], none, true, 0, 0⟩, ⟨some 50, .move, [.tmp 6], none, true, 0, 0⟩, ⟨some 51, .bin .add, [.tmp 49, .tmp 50], none, true, 0, 0⟩, ⟨some 9, .move, [.tmp 51], none, true, 0, 0⟩])]
def F49o15 : IC := .ops F49p15
def F49p16 : List (Sg × List IOp) := [(.seq, [⟨some 52, .move, [.tmp 9], none, true, 0, 0⟩, ⟨some 53, .move, [.tmp 1], none, true, 0, 0⟩, ⟨some 54, .bin .lss, [.tmp 52, .tmp 53], none, true, 0, 0⟩])]
def F49o16 : IC := .ops F49p16
def F49p17 : List (Sg × List IOp) := [(.seq, [⟨some 55, .move, [.tmp 0], none, true, 0, 0⟩, ⟨some 56, .move, [.tmp 7], none, true, 0, 0⟩, ⟨some 57, .move, [.tmp 9], none, true, 0, 0⟩, ⟨some 58, .move, [.tmp 1], none, true, 0, 0⟩, ⟨some 59, .move, [.tmp 2], none, true, 0, 0⟩, ⟨some 60, .call, [.val (.fn 56 [] []), .tmp 55, .tmp 56, .tmp 57, .tmp 58, .tmp 59], none, true, 0, 0⟩])]
def F49o17 : IC := .ops F49p17
def F49p18 : List (Sg × List IOp) := [(.seq, [⟨some 61, .move, [.tmp 6], none, true, 0, 0⟩, ⟨some 62, .bin .mul, [.tmp 61, .val (.int .i64 2)], none, true, 0, 0⟩, ⟨some 6, .move, [.tmp 62], none, true, 0, 0⟩])]
def F49o18 : IC := .ops F49p18
def F49l19 : IC := .seq (.seq (F49o8) (.cond (.tmp 30) (.skip) (.exit 2))) (.block 3 (.seq (F49o9) (.seq (.block 4 (.loop F49l14)) (.seq (.seq (F49o15) (.seq (F49o16) (.cond (.tmp 54) (F49o17) (.skip)))) (F49o18)))))
def F49b : IC := .seq (F49o0) (.seq (F49o1) (.seq (.block 0 (.loop F49l6)) (.seq (F49o7) (.block 2 (.loop F49l19)))))
def F49 : IFn := ⟨63, [], F49b⟩
/- 50: cmp.isNaN[int] -/
def F50p0 : List (Sg × List IOp) := [(.seq, [⟨some 2, .move, [.val (.bool false)], none, true, 0, 0⟩])]
def F50o0 : IC := .ops F50p0
def F50p1 : List (Sg × List IOp) := [(.seq, [⟨some 3, .move, [.tmp 0], none, true, 0, 0⟩, ⟨some 4, .move, [.tmp 0], none, true, 0, 0⟩, ⟨some 5, .bin .neq, [.tmp 3, .tmp 4], none, true, 0, 0⟩, ⟨some 2, .move, [.tmp 5], none, true, 0, 0⟩])]
def F50o1 : IC := .ops F50p1
def F50b : IC := .seq (F50o0) (.seq (F50o1) (.ret))
def F50 : IFn := ⟨6, [(2, none)], F50b⟩
/- 51: gansey/stacks.copied[gansey/api.Id] -/
def F51p0 : List (Sg × List IOp) := [(.seq, [⟨some 2, .move, [.val (.nilSlice)], none, true, 0, 0⟩])]
def F51o0 : IC := .ops F51p0
def F51p1 : List (Sg × List IOp) := [(.seq, [⟨some 4, .move, [.tmp 0], none, true, 0, 0⟩, ⟨some 5, .lenSl, [.tmp 4], none, true, 0, 0⟩, ⟨some 6, .mksl 35 2 16 [.int .u8 0, .int .i64 0], [.tmp 5, .tmp 5], none, true, 0, 0⟩, ⟨some 3, .move, [.tmp 6], none, true, 0, 0⟩])]
def F51o1 : IC := .ops F51p1
def F51p2 : List (Sg × List IOp) := [(.seq, [⟨some 7, .move, [.tmp 3], none, true, 0, 0⟩, ⟨some 8, .move, [.tmp 0], none, true, 0, 0⟩, ⟨some 9, .copy 2, [.tmp 7, .tmp 8], none, true, 0, 0⟩])]
def F51o2 : IC := .ops F51p2
def F51p3 : List (Sg × List IOp) := [(.seq, [⟨some 10, .move, [.tmp 3], none, true, 0, 0⟩, ⟨some 2, .move, [.tmp 10], none, true, 0, 0⟩])]
def F51o3 : IC := .ops F51p3
def F51b : IC := .seq (F51o0) (.seq (F51o1) (.seq (F51o2) (.seq (F51o3) (.ret))))
def F51 : IFn := ⟨11, [(2, none)], F51b⟩
/- 52: gansey/stacks.beds$1 -/
def F52p0 : List (Sg × List IOp) := [(.seq, [⟨some 3, .move, [.tmp 0], none, true, 0, 0⟩, ⟨some 4, .fieldAddr 0, [.tmp 1], none, true, 0, 0⟩, ⟨some 5, .load none, [.tmp 4], none, true, 0, 0⟩, ⟨some 6, .call, [.tmp 3, .val (.int .u8 0), .tmp 5], none, true, 0, 0⟩])]
def F52o0 : IC := .ops F52p0
def F52p1 : List (Sg × List IOp) := [(.seq, [⟨some 7, .move, [.tmp 0], none, true, 0, 0⟩, ⟨some 8, .fieldAddr 1, [.tmp 1], none, true, 0, 0⟩, ⟨some 9, .load none, [.tmp 8], none, true, 0, 0⟩, ⟨some 10, .call, [.tmp 7, .val (.int .u8 1), .tmp 9], none, true, 0, 0⟩])]
def F52o1 : IC := .ops F52p1
def F52b : IC := .seq (F52o0) (.cond (.tmp 6) (F52o1) (.skip))
def F52 : IFn := ⟨11, [], F52b⟩
/- 54: gansey/stacks.needled$1 -/
def F54p0 : List (Sg × List IOp) := [(.seq, [⟨some 2, .box 103 1, [.tmp 0], none, true, 0, 0⟩])]
def F54o0 : IC := .ops F54p0
def F54p1 : List (Sg × List IOp) := [(.seq, [⟨some 7, .load (some 2), [.tmp 1], none, true, 0, 0⟩, ⟨some 8, .call, [.val (.fn 41 [] []), .tmp 7], none, true, 0, 0⟩])]
def F54o1 : IC := .ops F54p1
def F54p2 : List (Sg × List IOp) := [(.seq, [⟨some 3, .move, [.tmp 9], none, true, 0, 0⟩])]
def F54o2 : IC := .ops F54p2
def F54p3 : List (Sg × List IOp) := [(.seq, [⟨some 4, .move, [.tmp 10], none, true, 0, 0⟩])]
def F54o3 : IC := .ops F54p3
def F54p4 : List (Sg × List IOp) := [(.seq, [⟨some 11, .move, [.tmp 4], none, true, 0, 0⟩, ⟨some 12, .lenSl, [.tmp 11], none, true, 0, 0⟩, ⟨some 13, .move, [.val (.int .i64 0)], none, true, 0, 0⟩])]
def F54o4 : IC := .ops F54p4
def F54p5 : List (Sg × List IOp) := [(.seq, [⟨some 14, .bin .lss, [.tmp 13, .tmp 12], none, true, 0, 0⟩])]
def F54o5 : IC := .ops F54p5
def F54p6 : List (Sg × List IOp) := [(.seq, [⟨some 15, .move, [.tmp 13], none, true, 0, 0⟩, ⟨some 16, .idxSl 1, [.tmp 11, .tmp 13], none, true, 0, 0⟩, ⟨some 17, .load none, [.tmp 16], none, true, 0, 0⟩, ⟨some 5, .move, [.tmp 15], none, true, 0, 0⟩, ⟨some 6, .move, [.tmp 17], none, true, 0, 0⟩])]
def F54o6 : IC := .ops F54p6
def F54p7 : List (Sg × List IOp) := [(.seq, [⟨some 18, .move, [.tmp 5], none, true, 0, 0⟩, ⟨some 19, .bin .geq, [.tmp 18, .val (.int .i64 40)], none, true, 0, 0⟩])]
def F54o7 : IC := .ops F54p7
def F54p8 : List (Sg × List IOp) := [(.seq, [⟨some 20, .load none, [.tmp 2], none, true, 0, 0⟩, ⟨some 21, .move, [.tmp 3], none, true, 0, 0⟩, ⟨some 22, .move, [.tmp 5], none, true, 0, 0⟩, ⟨some 23, .bin .add, [.tmp 22, .val (.int .i64 1)], none, true, 0, 0⟩, ⟨some 24, .build [.int .u8 0, .int .i64 0] [(0, 1), (1, 1)], [.tmp 21, .tmp 23], none, true, 0, 0⟩, ⟨some 25, .move, [.tmp 6], none, true, 0, 0⟩, ⟨some 26, .call, [.tmp 20, .tmp 24, .tmp 25], none, true, 0, 0⟩, ⟨some 27, .un .not, [.tmp 26], none, true, 0, 0⟩])]
def F54o8 : IC := .ops F54p8
def F54p9 : List (Sg × List IOp) := [(.seq, [⟨some 28, .bin .add, [.tmp 13, .val (.int .i64 1)], none, true, 0, 0⟩, ⟨some 13, .move, [.tmp 28], none, true, 0, 0⟩])]
def F54o9 : IC := .ops F54p9
def F54l10 : IC := .seq (F54o5) (.seq (.cond (.tmp 14) (.skip) (.exit 2)) (.seq (.block 3 (.seq (F54o6) (.seq (.seq (F54o7) (.cond (.tmp 19) (.exit 2) (.skip))) (.seq (F54o8) (.cond (.tmp 27) (.ret) (.skip)))))) (F54o9)))
def F54b : IC := .seq (F54o0) (.seq (F54o1) (.block 0 (.rfn (.tmp 8) [9, 10] (.seq (F54o2) (F54o3)) (.block 1 (.seq (F54o4) (.block 2 (.loop F54l10)))))))
def F54 : IFn := ⟨29, [], F54b⟩
/- 55: slices.insertionSortCmpFunc[gansey/orders.Held] -/
def F55p0 : List (Sg × List IOp) := [(.seq, [⟨some 10, .move, [.tmp 1], none, true, 0, 0⟩, ⟨some 11, .bin .add, [.tmp 10, .val (.int .i64 1)], none, true, 0, 0⟩, ⟨some 8, .move, [.tmp 11], none, true, 0, 0⟩])]
def F55o0 : IC := .ops F55p0
def F55p1 : List (Sg × List IOp) := [(.seq, [⟨some 12, .move, [.tmp 8], none, true, 0, 0⟩, ⟨some 13, .move, [.tmp 2], none, true, 0, 0⟩, ⟨some 14, .bin .lss, [.tmp 12, .tmp 13], none, true, 0, 0⟩])]
def F55o1 : IC := .ops F55p1
def F55p2 : List (Sg × List IOp) := [(.seq, [⟨some 17, .move, [.tmp 8], none, true, 0, 0⟩, ⟨some 9, .move, [.tmp 17], none, true, 0, 0⟩])]
def F55o2 : IC := .ops F55p2
def F55p3 : List (Sg × List IOp) := [(.free, [⟨some 18, .move, [.tmp 9], none, true, 0, 0⟩, ⟨some 19, .move, [.tmp 1], none, true, 1, 0⟩]), (.seq, [⟨some 20, .bin .gtr, [.tmp 18, .tmp 19], none, true, 2, 3⟩]), (.seq, [⟨some 21, .move, [.tmp 20], none, true, 3, 7⟩]), (.free, [⟨some 22, .move, [.tmp 3], some (21, true), false, 4, 15⟩, ⟨some 23, .move, [.tmp 0], some (21, true), false, 5, 15⟩, ⟨some 24, .move, [.tmp 9], some (21, true), false, 6, 15⟩, ⟨some 25, .idxSl 5, [.tmp 23, .tmp 24], some (21, true), false, 7, 111⟩, ⟨some 26, .load (some 5), [.tmp 25], some (21, true), false, 8, 239⟩, ⟨some 27, .move, [.tmp 0], some (21, true), false, 9, 15⟩, ⟨some 28, .move, [.tmp 9], some (21, true), false, 10, 15⟩, ⟨some 29, .bin .sub, [.tmp 28, .val (.int .i64 1)], some (21, true), false, 11, 1039⟩, ⟨some 30, .idxSl 5, [.tmp 27, .tmp 29], some (21, true), false, 12, 3599⟩, ⟨some 31, .load (some 5), [.tmp 30], some (21, true), false, 13, 7695⟩]), (.seq, [⟨some 32, .call, [.tmp 22, .tmp 26, .tmp 31], some (21, true), true, 14, 16383⟩]), (.seq, [⟨some 33, .bin .lss, [.tmp 32, .val (.int .i64 0)], some (21, true), true, 15, 32767⟩]), (.seq, [⟨some 34, .pick, [.tmp 21, .tmp 33, .val (.bool false)], none, true, 16, 65535⟩])]
def F55o3 : IC := .ops F55p3
def F55p4 : List (Sg × List IOp) := [(.free, [⟨some 37, .move, [.tmp 0], none, false, 0, 0⟩, ⟨some 38, .move, [.tmp 9], none, false, 1, 0⟩, ⟨some 39, .move, [.tmp 0], none, false, 2, 0⟩, ⟨some 40, .move, [.tmp 9], none, false, 3, 0⟩, ⟨some 41, .bin .sub, [.tmp 40, .val (.int .i64 1)], none, false, 4, 8⟩, ⟨some 42, .move, [.tmp 0], none, false, 5, 0⟩, ⟨some 43, .move, [.tmp 9], none, false, 6, 0⟩, ⟨some 44, .bin .sub, [.tmp 43, .val (.int .i64 1)], none, false, 7, 64⟩, ⟨some 45, .idxSl 5, [.tmp 42, .tmp 44], none, false, 8, 224⟩, ⟨some 46, .load (some 5), [.tmp 45], none, false, 9, 480⟩, ⟨some 47, .move, [.tmp 0], none, false, 10, 0⟩, ⟨some 48, .move, [.tmp 9], none, false, 11, 0⟩, ⟨some 49, .idxSl 5, [.tmp 47, .tmp 48], none, false, 12, 3072⟩, ⟨some 50, .load (some 5), [.tmp 49], none, false, 13, 7168⟩, ⟨some 51, .idxSl 5, [.tmp 37, .tmp 38], none, true, 14, 16355⟩, ⟨none, .store 5, [.tmp 51, .tmp 46], none, true, 15, 32739⟩]), (.seq, [⟨some 52, .idxSl 5, [.tmp 39, .tmp 41], none, true, 16, 65535⟩]), (.seq, [⟨none, .store 5, [.tmp 52, .tmp 50], none, true, 17, 131071⟩])]
def F55o4 : IC := .ops F55p4
def F55p5 : List (Sg × List IOp) := [(.seq, [⟨some 35, .move, [.tmp 9], none, true, 0, 0⟩, ⟨some 36, .bin .sub, [.tmp 35, .val (.int .i64 1)], none, true, 0, 0⟩, ⟨some 9, .move, [.tmp 36], none, true, 0, 0⟩])]
def F55o5 : IC := .ops F55p5
def F55l6 : IC := .seq (.seq (F55o3) (.cond (.tmp 34) (.skip) (.exit 2))) (.seq (.block 3 (F55o4)) (F55o5))
def F55p7 : List (Sg × List IOp) := [(.seq, [⟨some 15, .move, [.tmp 8], none, true, 0, 0⟩, ⟨some 16, .bin .add, [.tmp 15, .val (.int .i64 1)], none, true, 0, 0⟩, ⟨some 8, .move, [.tmp 16], none, true, 0, 0⟩])]
def F55o7 : IC := .ops F55p7
def F55l8 : IC := .seq (.seq (F55o1) (.cond (.tmp 14) (.skip) (.exit 0))) (.seq (.block 1 (.seq (F55o2) (.block 2 (.loop F55l6)))) (F55o7))
def F55b : IC := .seq (F55o0) (.block 0 (.loop F55l8))
def F55 : IFn := ⟨53, [], F55b⟩
/- 56: slices.symMergeCmpFunc[gansey/orders.Held] -/
def F56p0 : List (Sg × List IOp) := [(.seq, [⟨some 25, .move, [.tmp 2], none, true, 0, 0⟩, ⟨some 26, .move, [.tmp 1], none, true, 0, 0⟩, ⟨some 27, .bin .sub, [.tmp 25, .tmp 26], none, true, 0, 0⟩, ⟨some 28, .bin .eql, [.tmp 27, .val (.int .i64 1)], none, true, 0, 0⟩])]
def F56o0 : IC := .ops F56p0
def F56p1 : List (Sg × List IOp) := [(.seq, [⟨some 29, .move, [.tmp 2], none, true, 0, 0⟩, ⟨some 10, .move, [.tmp 29], none, true, 0, 0⟩])]
def F56o1 : IC := .ops F56p1
def F56p2 : List (Sg × List IOp) := [(.seq, [⟨some 30, .move, [.tmp 3], none, true, 0, 0⟩, ⟨some 11, .move, [.tmp 30], none, true, 0, 0⟩])]
def F56o2 : IC := .ops F56p2
def F56p3 : List (Sg × List IOp) := [(.seq, [⟨some 31, .move, [.tmp 10], none, true, 0, 0⟩, ⟨some 32, .move, [.tmp 11], none, true, 0, 0⟩, ⟨some 33, .bin .lss, [.tmp 31, .tmp 32], none, true, 0, 0⟩])]
def F56o3 : IC := .ops F56p3
def F56p4 : List (Sg × List IOp) := [(.seq, [⟨some 34, .move, [.tmp 10], none, true, 0, 0⟩, ⟨some 35, .move, [.tmp 11], none, true, 0, 0⟩, ⟨some 36, .bin .add, [.tmp 34, .tmp 35], none, true, 0, 0⟩, ⟨some 37, .conv .u64, [.tmp 36], none, true, 0, 0⟩, ⟨some 38, .bin .shr, [.tmp 37, .val (.int .u64 1)], none, true, 0, 0⟩, ⟨some 39, .conv .i64, [.tmp 38], none, true, 0, 0⟩, ⟨some 12, .move, [.tmp 39], none, true, 0, 0⟩])]
def F56o4 : IC := .ops F56p4
def F56p5 : List (Sg × List IOp) := [(.free, [⟨some 40, .move, [.tmp 4], none, false, 0, 0⟩, ⟨some 41, .move, [.tmp 0], none, false, 1, 0⟩, ⟨some 42, .move, [.tmp 12], none, false, 2, 0⟩, ⟨some 43, .idxSl 5, [.tmp 41, .tmp 42], none, false, 3, 6⟩, ⟨some 44, .load (some 5), [.tmp 43], none, false, 4, 14⟩, ⟨some 45, .move, [.tmp 0], none, false, 5, 0⟩, ⟨some 46, .move, [.tmp 1], none, false, 6, 0⟩, ⟨some 47, .idxSl 5, [.tmp 45, .tmp 46], none, false, 7, 96⟩, ⟨some 48, .load (some 5), [.tmp 47], none, false, 8, 224⟩]), (.seq, [⟨some 49, .call, [.tmp 40, .tmp 44, .tmp 48], none, true, 9, 511⟩]), (.seq, [⟨some 50, .bin .lss, [.tmp 49, .val (.int .i64 0)], none, true, 10, 1023⟩])]
def F56o5 : IC := .ops F56p5
def F56p6 : List (Sg × List IOp) := [(.seq, [⟨some 51, .move, [.tmp 12], none, true, 0, 0⟩, ⟨some 52, .bin .add, [.tmp 51, .val (.int .i64 1)], none, true, 0, 0⟩, ⟨some 10, .move, [.tmp 52], none, true, 0, 0⟩])]
def F56o6 : IC := .ops F56p6
def F56p7 : List (Sg × List IOp) := [(.seq, [⟨some 53, .move, [.tmp 12], none, true, 0, 0⟩, ⟨some 11, .move, [.tmp 53], none, true, 0, 0⟩])]
def F56o7 : IC := .ops F56p7
def F56l8 : IC := .seq (.seq (F56o3) (.cond (.tmp 33) (.skip) (.exit 0))) (.block 1 (.seq (F56o4) (.seq (F56o5) (.cond (.tmp 50) (F56o6) (F56o7)))))
def F56p9 : List (Sg × List IOp) := [(.seq, [⟨some 54, .move, [.tmp 1], none, true, 0, 0⟩, ⟨some 13, .move, [.tmp 54], none, true, 0, 0⟩])]
def F56o9 : IC := .ops F56p9
def F56p10 : List (Sg × List IOp) := [(.seq, [⟨some 55, .move, [.tmp 13], none, true, 0, 0⟩, ⟨some 56, .move, [.tmp 10], none, true, 0, 0⟩, ⟨some 57, .bin .sub, [.tmp 56, .val (.int .i64 1)], none, true, 0, 0⟩, ⟨some 58, .bin .lss, [.tmp 55, .tmp 57], none, true, 0, 0⟩])]
def F56o10 : IC := .ops F56p10
def F56p11 : List (Sg × List IOp) := [(.free, [⟨some 61, .move, [.tmp 0], none, false, 0, 0⟩, ⟨some 62, .move, [.tmp 13], none, false, 1, 0⟩, ⟨some 63, .move, [.tmp 0], none, false, 2, 0⟩, ⟨some 64, .move, [.tmp 13], none, false, 3, 0⟩, ⟨some 65, .bin .add, [.tmp 64, .val (.int .i64 1)], none, false, 4, 8⟩, ⟨some 66, .move, [.tmp 0], none, false, 5, 0⟩, ⟨some 67, .move, [.tmp 13], none, false, 6, 0⟩, ⟨some 68, .bin .add, [.tmp 67, .val (.int .i64 1)], none, false, 7, 64⟩, ⟨some 69, .idxSl 5, [.tmp 66, .tmp 68], none, false, 8, 224⟩, ⟨some 70, .load (some 5), [.tmp 69], none, false, 9, 480⟩, ⟨some 71, .move, [.tmp 0], none, false, 10, 0⟩, ⟨some 72, .move, [.tmp 13], none, false, 11, 0⟩, ⟨some 73, .idxSl 5, [.tmp 71, .tmp 72], none, false, 12, 3072⟩, ⟨some 74, .load (some 5), [.tmp 73], none, false, 13, 7168⟩, ⟨some 75, .idxSl 5, [.tmp 61, .tmp 62], none, true, 14, 16355⟩, ⟨none, .store 5, [.tmp 75, .tmp 70], none, true, 15, 32739⟩]), (.seq, [⟨some 76, .idxSl 5, [.tmp 63, .tmp 65], none, true, 16, 65535⟩]), (.seq, [⟨none, .store 5, [.tmp 76, .tmp 74], none, true, 17, 131071⟩])]
def F56o11 : IC := .ops F56p11
def F56p12 : List (Sg × List IOp) := [(.seq, [⟨some 59, .move, [.tmp 13], none, true, 0, 0⟩, ⟨some 60, .bin .add, [.tmp 59, .val (.int .i64 1)], none, true, 0, 0⟩, ⟨some 13, .move, [.tmp 60], none, true, 0, 0⟩])]
def F56o12 : IC := .ops F56p12
def F56l13 : IC := .seq (.seq (F56o10) (.cond (.tmp 58) (.skip) (.exit 2))) (.seq (.block 3 (F56o11)) (F56o12))
def F56p14 : List (Sg × List IOp) := [(.seq, [⟨some 77, .move, [.tmp 3], none, true, 0, 0⟩, ⟨some 78, .move, [.tmp 2], none, true, 0, 0⟩, ⟨some 79, .bin .sub, [.tmp 77, .tmp 78], none, true, 0, 0⟩, ⟨some 80, .bin .eql, [.tmp 79, .val (.int .i64 1)], none, true, 0, 0⟩])]
def F56o14 : IC := .ops F56p14
def F56p15 : List (Sg × List IOp) := [(.seq, [⟨some 81, .move, [.tmp 1], none, true, 0, 0⟩, ⟨some 14, .move, [.tmp 81], none, true, 0, 0⟩])]
def F56o15 : IC := .ops F56p15
def F56p16 : List (Sg × List IOp) := [(.seq, [⟨some 82, .move, [.tmp 2], none, true, 0, 0⟩, ⟨some 15, .move, [.tmp 82], none, true, 0, 0⟩])]
def F56o16 : IC := .ops F56p16
def F56p17 : List (Sg × List IOp) := [(.seq, [⟨some 83, .move, [.tmp 14], none, true, 0, 0⟩, ⟨some 84, .move, [.tmp 15], none, true, 0, 0⟩, ⟨some 85, .bin .lss, [.tmp 83, .tmp 84], none, true, 0, 0⟩])]
def F56o17 : IC := .ops F56p17
def F56p18 : List (Sg × List IOp) := [(.seq, [⟨some 86, .move, [.tmp 14], none, true, 0, 0⟩, ⟨some 87, .move, [.tmp 15], none, true, 0, 0⟩, ⟨some 88, .bin .add, [.tmp 86, .tmp 87], none, true, 0, 0⟩, ⟨some 89, .conv .u64, [.tmp 88], none, true, 0, 0⟩, ⟨some 90, .bin .shr, [.tmp 89, .val (.int .u64 1)], none, true, 0, 0⟩, ⟨some 91, .conv .i64, [.tmp 90], none, true, 0, 0⟩, ⟨some 16, .move, [.tmp 91], none, true, 0, 0⟩])]
def F56o18 : IC := .ops F56p18
def F56p19 : List (Sg × List IOp) := [(.free, [⟨some 92, .move, [.tmp 4], none, false, 0, 0⟩, ⟨some 93, .move, [.tmp 0], none, false, 1, 0⟩, ⟨some 94, .move, [.tmp 2], none, false, 2, 0⟩, ⟨some 95, .idxSl 5, [.tmp 93, .tmp 94], none, false, 3, 6⟩, ⟨some 96, .load (some 5), [.tmp 95], none, false, 4, 14⟩, ⟨some 97, .move, [.tmp 0], none, false, 5, 0⟩, ⟨some 98, .move, [.tmp 16], none, false, 6, 0⟩, ⟨some 99, .idxSl 5, [.tmp 97, .tmp 98], none, false, 7, 96⟩, ⟨some 100, .load (some 5), [.tmp 99], none, false, 8, 224⟩]), (.seq, [⟨some 101, .call, [.tmp 92, .tmp 96, .tmp 100], none, true, 9, 511⟩]), (.seq, [⟨some 102, .bin .lss, [.tmp 101, .val (.int .i64 0)], none, true, 10, 1023⟩]), (.seq, [⟨some 103, .un .not, [.tmp 102], none, true, 11, 2047⟩])]
def F56o19 : IC := .ops F56p19
def F56p20 : List (Sg × List IOp) := [(.seq, [⟨some 104, .move, [.tmp 16], none, true, 0, 0⟩, ⟨some 105, .bin .add, [.tmp 104, .val (.int .i64 1)], none, true, 0, 0⟩, ⟨some 14, .move, [.tmp 105], none, true, 0, 0⟩])]
def F56o20 : IC := .ops F56p20
def F56p21 : List (Sg × List IOp) := [(.seq, [⟨some 106, .move, [.tmp 16], none, true, 0, 0⟩, ⟨some 15, .move, [.tmp 106], none, true, 0, 0⟩])]
def F56o21 : IC := .ops F56p21
def F56l22 : IC := .seq (.seq (F56o17) (.cond (.tmp 85) (.skip) (.exit 4))) (.block 5 (.seq (F56o18) (.seq (F56o19) (.cond (.tmp 103) (F56o20) (F56o21)))))
def F56p23 : List (Sg × List IOp) := [(.seq, [⟨some 107, .move, [.tmp 2], none, true, 0, 0⟩, ⟨some 17, .move, [.tmp 107], none, true, 0, 0⟩])]
def F56o23 : IC := .ops F56p23
def F56p24 : List (Sg × List IOp) := [(.seq, [⟨some 108, .move, [.tmp 17], none, true, 0, 0⟩, ⟨some 109, .move, [.tmp 14], none, true, 0, 0⟩, ⟨some 110, .bin .gtr, [.tmp 108, .tmp 109], none, true, 0, 0⟩])]
def F56o24 : IC := .ops F56p24
def F56p25 : List (Sg × List IOp) := [(.free, [⟨some 113, .move, [.tmp 0], none, false, 0, 0⟩, ⟨some 114, .move, [.tmp 17], none, false, 1, 0⟩, ⟨some 115, .move, [.tmp 0], none, false, 2, 0⟩, ⟨some 116, .move, [.tmp 17], none, false, 3, 0⟩, ⟨some 117, .bin .sub, [.tmp 116, .val (.int .i64 1)], none, false, 4, 8⟩, ⟨some 118, .move, [.tmp 0], none, false, 5, 0⟩, ⟨some 119, .move, [.tmp 17], none, false, 6, 0⟩, ⟨some 120, .bin .sub, [.tmp 119, .val (.int .i64 1)], none, false, 7, 64⟩, ⟨some 121, .idxSl 5, [.tmp 118, .tmp 120], none, false, 8, 224⟩, ⟨some 122, .load (some 5), [.tmp 121], none, false, 9, 480⟩, ⟨some 123, .move, [.tmp 0], none, false, 10, 0⟩, ⟨some 124, .move, [.tmp 17], none, false, 11, 0⟩, ⟨some 125, .idxSl 5, [.tmp 123, .tmp 124], none, false, 12, 3072⟩, ⟨some 126, .load (some 5), [.tmp 125], none, false, 13, 7168⟩, ⟨some 127, .idxSl 5, [.tmp 113, .tmp 114], none, true, 14, 16355⟩, ⟨none, .store 5, [.tmp 127, .tmp 122], none, true, 15, 32739⟩]), (.seq, [⟨some 128, .idxSl 5, [.tmp 115, .tmp 117], none, true, 16, 65535⟩]), (.seq, [⟨none, .store 5, [.tmp 128, .tmp 126], none, true, 17, 131071⟩])]
def F56o25 : IC := .ops F56p25
def F56p26 : List (Sg × List IOp) := [(.seq, [⟨some 111, .move, [.tmp 17], none, true, 0, 0⟩, ⟨some 112, .bin .sub, [.tmp 111, .val (.int .i64 1)], none, true, 0, 0⟩, ⟨some 17, .move, [.tmp 112], none, true, 0, 0⟩])]
def F56o26 : IC := .ops F56p26
def F56l27 : IC := .seq (.seq (F56o24) (.cond (.tmp 110) (.skip) (.exit 6))) (.seq (.block 7 (F56o25)) (F56o26))
def F56p28 : List (Sg × List IOp) := [(.seq, [⟨some 129, .move, [.tmp 1], none, true, 0, 0⟩, ⟨some 130, .move, [.tmp 3], none, true, 0, 0⟩, ⟨some 131, .bin .add, [.tmp 129, .tmp 130], none, true, 0, 0⟩, ⟨some 132, .conv .u64, [.tmp 131], none, true, 0, 0⟩, ⟨some 133, .bin .shr, [.tmp 132, .val (.int .u64 1)], none, true, 0, 0⟩, ⟨some 134, .conv .i64, [.tmp 133], none, true, 0, 0⟩, ⟨some 18, .move, [.tmp 134], none, true, 0, 0⟩])]
def F56o28 : IC := .ops F56p28
def F56p29 : List (Sg × List IOp) := [(.seq, [⟨some 135, .move, [.tmp 18], none, true, 0, 0⟩, ⟨some 136, .move, [.tmp 2], none, true, 0, 0⟩, ⟨some 137, .bin .add, [.tmp 135, .tmp 136], none, true, 0, 0⟩, ⟨some 19, .move, [.tmp 137], none, true, 0, 0⟩])]
def F56o29 : IC := .ops F56p29
def F56p30 : List (Sg × List IOp) := [(.seq, [⟨some 20, .move, [.val (.int .i64 0)], none, true, 0, 0⟩, ⟨some 21, .move, [.val (.int .i64 0)], none, true, 0, 0⟩])]
def F56o30 : IC := .ops F56p30
def F56p31 : List (Sg × List IOp) := [(.seq, [⟨some 138, .move, [.tmp 2], none, true, 0, 0⟩, ⟨some 139, .move, [.tmp 18], none, true, 0, 0⟩, ⟨some 140, .bin .gtr, [.tmp 138, .tmp 139], none, true, 0, 0⟩])]
def F56o31 : IC := .ops F56p31
def F56p32 : List (Sg × List IOp) := [(.seq, [⟨some 141, .move, [.tmp 19], none, true, 0, 0⟩, ⟨some 142, .move, [.tmp 3], none, true, 0, 0⟩, ⟨some 143, .bin .sub, [.tmp 141, .tmp 142], none, true, 0, 0⟩, ⟨some 20, .move, [.tmp 143], none, true, 0, 0⟩])]
def F56o32 : IC := .ops F56p32
def F56p33 : List (Sg × List IOp) := [(.seq, [⟨some 144, .move, [.tmp 18], none, true, 0, 0⟩, ⟨some 21, .move, [.tmp 144], none, true, 0, 0⟩])]
def F56o33 : IC := .ops F56p33
def F56p34 : List (Sg × List IOp) := [(.seq, [⟨some 145, .move, [.tmp 1], none, true, 0, 0⟩, ⟨some 20, .move, [.tmp 145], none, true, 0, 0⟩])]
def F56o34 : IC := .ops F56p34
def F56p35 : List (Sg × List IOp) := [(.seq, [⟨some 146, .move, [.tmp 2], none, true, 0, 0⟩, ⟨some 21, .move, [.tmp 146], none, true, 0, 0⟩])]
def F56o35 : IC := .ops F56p35
def F56p36 : List (Sg × List IOp) := [(.seq, [⟨some 147, .move, [.tmp 19], none, true, 0, 0⟩, ⟨some 148, .bin .sub, [.tmp 147, .val (.int .i64 1)], none, true, 0, 0⟩, ⟨some 22, .move, [.tmp 148], none, true, 0, 0⟩])]
def F56o36 : IC := .ops F56p36
def F56p37 : List (Sg × List IOp) := [(.seq, [⟨some 149, .move, [.tmp 20], none, true, 0, 0⟩, ⟨some 150, .move, [.tmp 21], none, true, 0, 0⟩, ⟨some 151, .bin .lss, [.tmp 149, .tmp 150], none, true, 0, 0⟩])]
def F56o37 : IC := .ops F56p37
def F56p38 : List (Sg × List IOp) := [(.seq, [⟨some 152, .move, [.tmp 20], none, true, 0, 0⟩, ⟨some 153, .move, [.tmp 21], none, true, 0, 0⟩, ⟨some 154, .bin .add, [.tmp 152, .tmp 153], none, true, 0, 0⟩, ⟨some 155, .conv .u64, [.tmp 154], none, true, 0, 0⟩, ⟨some 156, .bin .shr, [.tmp 155, .val (.int .u64 1)], none, true, 0, 0⟩, ⟨some 157, .conv .i64, [.tmp 156], none, true, 0, 0⟩, ⟨some 23, .move, [.tmp 157], none, true, 0, 0⟩])]
def F56o38 : IC := .ops F56p38
def F56p39 : List (Sg × List IOp) := [(.free, [⟨some 158, .move, [.tmp 4], none, false, 0, 0⟩, ⟨some 159, .move, [.tmp 0], none, false, 1, 0⟩, ⟨some 160, .move, [.tmp 22], none, false, 2, 0⟩, ⟨some 161, .move, [.tmp 23], none, false, 3, 0⟩, ⟨some 162, .bin .sub, [.tmp 160, .tmp 161], none, false, 4, 12⟩, ⟨some 163, .idxSl 5, [.tmp 159, .tmp 162], none, false, 5, 30⟩, ⟨some 164, .load (some 5), [.tmp 163], none, false, 6, 62⟩, ⟨some 165, .move, [.tmp 0], none, false, 7, 0⟩, ⟨some 166, .move, [.tmp 23], none, false, 8, 0⟩, ⟨some 167, .idxSl 5, [.tmp 165, .tmp 166], none, false, 9, 384⟩, ⟨some 168, .load (some 5), [.tmp 167], none, false, 10, 896⟩]), (.seq, [⟨some 169, .call, [.tmp 158, .tmp 164, .tmp 168], none, true, 11, 2047⟩]), (.seq, [⟨some 170, .bin .lss, [.tmp 169, .val (.int .i64 0)], none, true, 12, 4095⟩]), (.seq, [⟨some 171, .un .not, [.tmp 170], none, true, 13, 8191⟩])]
def F56o39 : IC := .ops F56p39
def F56p40 : List (Sg × List IOp) := [(.seq, [⟨some 172, .move, [.tmp 23], none, true, 0, 0⟩, ⟨some 173, .bin .add, [.tmp 172, .val (.int .i64 1)], none, true, 0, 0⟩, ⟨some 20, .move, [.tmp 173], none, true, 0, 0⟩])]
def F56o40 : IC := .ops F56p40
def F56p41 : List (Sg × List IOp) := [(.seq, [⟨some 174, .move, [.tmp 23], none, true, 0, 0⟩, ⟨some 21, .move, [.tmp 174], none, true, 0, 0⟩])]
def F56o41 : IC := .ops F56p41
def F56l42 : IC := .seq (.seq (F56o37) (.cond (.tmp 151) (.skip) (.exit 8))) (.block 9 (.seq (F56o38) (.seq (F56o39) (.cond (.tmp 171) (F56o40) (F56o41)))))
def F56p43 : List (Sg × List IOp) := [(.seq, [⟨some 175, .move, [.tmp 19], none, true, 0, 0⟩, ⟨some 176, .move, [.tmp 20], none, true, 0, 0⟩, ⟨some 177, .bin .sub, [.tmp 175, .tmp 176], none, true, 0, 0⟩, ⟨some 24, .move, [.tmp 177], none, true, 0, 0⟩])]
def F56o43 : IC := .ops F56p43
def F56p44 : List (Sg × List IOp) := [(.seq, [⟨some 178, .move, [.tmp 20], none, true, 0, 0⟩, ⟨some 179, .move, [.tmp 2], none, true, 0, 0⟩, ⟨some 180, .bin .lss, [.tmp 178, .tmp 179], none, true, 0, 0⟩, ⟨some 181, .move, [.tmp 180], none, true, 0, 0⟩, ⟨some 182, .move, [.tmp 2], some (181, true), true, 0, 0⟩, ⟨some 183, .move, [.tmp 24], some (181, true), true, 0, 0⟩, ⟨some 184, .bin .lss, [.tmp 182, .tmp 183], some (181, true), true, 0, 0⟩, ⟨some 185, .pick, [.tmp 181, .tmp 184, .val (.bool false)], none, true, 0, 0⟩])]
def F56o44 : IC := .ops F56p44
def F56p45 : List (Sg × List IOp) := [(.seq, [⟨some 186, .move, [.tmp 0], none, true, 0, 0⟩, ⟨some 187, .move, [.tmp 20], none, true, 0, 0⟩, ⟨some 188, .move, [.tmp 2], none, true, 0, 0⟩, ⟨some 189, .move, [.tmp 24], none, true, 0, 0⟩, ⟨some 190, .move, [.tmp 4], none, true, 0, 0⟩, ⟨some 191, .call, [.val (.fn 58 [] []), .tmp 186, .tmp 187, .tmp 188, .tmp 189, .tmp 190], none, true, 0, 0⟩])]
def F56o45 : IC := .ops F56p45
def F56p46 : List (Sg × List IOp) := [(.seq, [⟨some 192, .move, [.tmp 1], none, true, 0, 0⟩, ⟨some 193, .move, [.tmp 20], none, true, 0, 0⟩, ⟨some 194, .bin .lss, [.tmp 192, .tmp 193], none, true, 0, 0⟩, ⟨some 195, .move, [.tmp 194], none, true, 0, 0⟩, ⟨some 196, .move, [.tmp 20], some (195, true), true, 0, 0⟩, ⟨some 197, .move, [.tmp 18], some (195, true), true, 0, 0⟩, ⟨some 198, .bin .lss, [.tmp 196, .tmp 197], some (195, true), true, 0, 0⟩, ⟨some 199, .pick, [.tmp 195, .tmp 198, .val (.bool false)], none, true, 0, 0⟩])]
def F56o46 : IC := .ops F56p46
def F56p47 : List (Sg × List IOp) := [(.seq, [⟨some 200, .move, [.tmp 0], none, true, 0, 0⟩, ⟨some 201, .move, [.tmp 1], none, true, 0, 0⟩, ⟨some 202, .move, [.tmp 20], none, true, 0, 0⟩, ⟨some 203, .move, [.tmp 18], none, true, 0, 0⟩, ⟨some 204, .move, [.tmp 4], none, true, 0, 0⟩, ⟨some 205, .call, [.val (.fn 56 [] []), .tmp 200, .tmp 201, .tmp 202, .tmp 203, .tmp 204], none, true, 0, 0⟩])]
def F56o47 : IC := .ops F56p47
def F56p48 : List (Sg × List IOp) := [(.seq, [⟨some 206, .move, [.tmp 18], none, true, 0, 0⟩, ⟨some 207, .move, [.tmp 24], none, true, 0, 0⟩, ⟨some 208, .bin .lss, [.tmp 206, .tmp 207], none, true, 0, 0⟩, ⟨some 209, .move, [.tmp 208], none, true, 0, 0⟩, ⟨some 210, .move, [.tmp 24], some (209, true), true, 0, 0⟩, ⟨some 211, .move, [.tmp 3], some (209, true), true, 0, 0⟩, ⟨some 212, .bin .lss, [.tmp 210, .tmp 211], some (209, true), true, 0, 0⟩, ⟨some 213, .pick, [.tmp 209, .tmp 212, .val (.bool false)], none, true, 0, 0⟩])]
def F56o48 : IC := .ops F56p48
def F56p49 : List (Sg × List IOp) := [(.seq, [⟨some 214, .move, [.tmp 0], none, true, 0, 0⟩, ⟨some 215, .move, [.tmp 18], none, true, 0, 0⟩, ⟨some 216, .move, [.tmp 24], none, true, 0, 0⟩, ⟨some 217, .move, [.tmp 3], none, true, 0, 0⟩, ⟨some 218, .move, [.tmp 4], none, true, 0, 0⟩, ⟨some 219, .call, [.val (.fn 56 [] []), .tmp 214, .tmp 215, .tmp 216, .tmp 217, .tmp 218], none, true, 0, 0⟩])]
def F56o49 : IC := .ops F56p49
def F56b : IC := .seq (.seq (F56o0) (.cond (.tmp 28) (.seq (F56o1) (.seq (F56o2) (.seq (.block 0 (.loop F56l8)) (.seq (.seq (F56o9) (.block 2 (.loop F56l13))) (.ret))))) (.skip))) (.seq (.seq (F56o14) (.cond (.tmp 80) (.seq (F56o15) (.seq (F56o16) (.seq (.block 4 (.loop F56l22)) (.seq (.seq (F56o23) (.block 6 (.loop F56l27))) (.ret))))) (.skip))) (.seq (F56o28) (.seq (F56o29) (.seq (F56o30) (.seq (.seq (F56o31) (.cond (.tmp 140) (.seq (F56o32) (F56o33)) (.seq (F56o34) (F56o35)))) (.seq (F56o36) (.seq (.block 8 (.loop F56l42)) (.seq (F56o43) (.seq (.seq (F56o44) (.cond (.tmp 185) (F56o45) (.skip))) (.seq (.seq (F56o46) (.cond (.tmp 199) (F56o47) (.skip))) (.seq (F56o48) (.cond (.tmp 213) (F56o49) (.skip)))))))))))))
def F56 : IFn := ⟨220, [], F56b⟩
/- 58: slices.rotateCmpFunc[gansey/orders.Held] -/
def F58p0 : List (Sg × List IOp) := [(.seq, [⟨some 12, .move, [.tmp 2], none, true, 0, 0⟩, ⟨some 13, .move, [.tmp 1], none, true, 0, 0⟩, ⟨some 14, .bin .sub, [.tmp 12, .tmp 13], none, true, 0, 0⟩, ⟨some 10, .move, [.tmp 14], none, true, 0, 0⟩])]
def F58o0 : IC := .ops F58p0
def F58p1 : List (Sg × List IOp) := [(.seq, [⟨some 15, .move, [.tmp 3], none, true, 0, 0⟩, ⟨some 16, .move, [.tmp 2], none, true, 0, 0⟩, ⟨some 17, .bin .sub, [.tmp 15, .tmp 16], none, true, 0, 0⟩, ⟨some 11, .move, [.tmp 17], none, true, 0, 0⟩])]
def F58o1 : IC := .ops F58p1
def F58p2 : List (Sg × List IOp) := [(.seq, [⟨some 18, .move, [.tmp 10], none, true, 0, 0⟩, ⟨some 19, .move, [.tmp 11], none, true, 0, 0⟩, ⟨some 20, .bin .neq, [.tmp 18, .tmp 19], none, true, 0, 0⟩])]
def F58o2 : IC := .ops F58p2
def F58p3 : List (Sg × List IOp) := [(.seq, [⟨some 21, .move, [.tmp 10], none, true, 0, 0⟩, ⟨some 22, .move, [.tmp 11], none, true, 0, 0⟩, ⟨some 23, .bin .gtr, [.tmp 21, .tmp 22], none, true, 0, 0⟩])]
def F58o3 : IC := .ops F58p3
def F58p4 : List (Sg × List IOp) := [(.seq, [⟨some 24, .move, [.tmp 0], none, true, 0, 0⟩, ⟨some 25, .move, [.tmp 2], none, true, 0, 0⟩, ⟨some 26, .move, [.tmp 10], none, true, 0, 0⟩, ⟨some 27, .bin .sub, [.tmp 25, .tmp 26], none, true, 0, 0⟩, ⟨some 28, .move, [.tmp 2], none, true, 0, 0⟩, ⟨some 29, .move, [.tmp 11], none, true, 0, 0⟩, ⟨some 30, .move, [.tmp 4], none, true, 0, 0⟩, ⟨some 31, .call, [.val (.fn 59 [] []), .tmp 24, .tmp 27, .tmp 28, .tmp 29, .tmp 30], none, true, 0, 0⟩])]
def F58o4 : IC := .ops F58p4
def F58p5 : List (Sg × List IOp) := [(.seq, [⟨some 32, .move, [.tmp 10], none, true, 0, 0⟩, ⟨some 33, .move, [.tmp 11], none, true, 0, 0⟩, ⟨some 34, .bin .sub, [.tmp 32, .tmp 33], none, true, 0, 0⟩, ⟨some 10, .move, [.tmp 34], none, true, 0, 0⟩])]
def F58o5 : IC := .ops F58p5
def F58p6 : List (Sg × List IOp) := [(.seq, [⟨some 35, .move, [.tmp 0], none, true, 0, 0⟩, ⟨some 36, .move, [.tmp 2], none, true, 0, 0⟩, ⟨some 37, .move, [.tmp 10], none, true, 0, 0⟩, ⟨some 38, .bin .sub, [.tmp 36, .tmp 37], none, true, 0, 0⟩, ⟨some 39, .move, [.tmp 2], none, true, 0, 0⟩, ⟨some 40, .move, [.tmp 11], none, true, 0, 0⟩, ⟨some 41, .bin .add, [.tmp 39, .tmp 40], none, true, 0, 0⟩, ⟨some 42, .move, [.tmp 10], none, true, 0, 0⟩, ⟨some 43, .bin .sub, [.tmp 41, .tmp 42], none, true, 0, 0⟩, ⟨some 44, .move, [.tmp 10], none, true, 0, 0⟩, ⟨some 45, .move, [.tmp 4], none, true, 0, 0⟩, ⟨some 46, .call, [.val (.fn 59 [] []), .tmp 35, .tmp 38, .tmp 43, .tmp 44, .tmp 45], none, true, 0, 0⟩])]
def F58o6 : IC := .ops F58p6
def F58p7 : List (Sg × List IOp) := [(.seq, [⟨some 47, .move, [.tmp 11], none, true, 0, 0⟩, ⟨some 48, .move, [.tmp 10], none, true, 0, 0⟩, ⟨some 49, .bin .sub, [.tmp 47, .tmp 48], none, true, 0, 0⟩, ⟨some 11, .move, [.tmp 49], none, true, 0, 0⟩])]
def F58o7 : IC := .ops F58p7
def F58l8 : IC := .seq (.seq (F58o2) (.cond (.tmp 20) (.skip) (.exit 0))) (.block 1 (.seq (F58o3) (.cond (.tmp 23) (.seq (F58o4) (F58o5)) (.seq (F58o6) (F58o7)))))
def F58p9 : List (Sg × List IOp) := [(.seq, [⟨some 50, .move, [.tmp 0], none, true, 0, 0⟩, ⟨some 51, .move, [.tmp 2], none, true, 0, 0⟩, ⟨some 52, .move, [.tmp 10], none, true, 0, 0⟩, ⟨some 53, .bin .sub, [.tmp 51, .tmp 52], none, true, 0, 0⟩, ⟨some 54, .move, [.tmp 2], none, true, 0, 0⟩, ⟨some 55, .move, [.tmp 10], none, true, 0, 0⟩, ⟨some 56, .move, [.tmp 4], none, true, 0, 0⟩, ⟨some 57, .call, [.val (.fn 59 [] []), .tmp 50, .tmp 53, .tmp 54, .tmp 55, .tmp 56], none, true, 0, 0⟩])]
def F58o9 : IC := .ops F58p9
def F58b : IC := .seq (F58o0) (.seq (F58o1) (.seq (.block 0 (.loop F58l8)) (F58o9)))
def F58 : IFn := ⟨58, [], F58b⟩
/- 59: slices.swapRangeCmpFunc[gansey/orders.Held] -/
def F59p0 : List (Sg × List IOp) := [(.seq, [⟨some 10, .move, [.val (.int .i64 0)], none, true, 0, 0⟩])]
def F59o0 : IC := .ops F59p0
def F59p1 : List (Sg × List IOp) := [(.seq, [⟨some 11, .move, [.tmp 10], none, true, 0, 0⟩, ⟨some 12, .move, [.tmp 3], none, true, 0, 0⟩, ⟨some 13, .bin .lss, [.tmp 11, .tmp 12], none, true, 0, 0⟩])]
def F59o1 : IC := .ops F59p1
def F59p2 : List (Sg × List IOp) := [(.free, [⟨some 16, .move, [.tmp 0], none, false, 0, 0⟩, ⟨some 17, .move, [.tmp 1], none, false, 1, 0⟩, ⟨some 18, .move, [.tmp 10], none, false, 2, 0⟩, ⟨some 19, .bin .add, [.tmp 17, .tmp 18], none, false, 3, 6⟩, ⟨some 20, .move, [.tmp 0], none, false, 4, 0⟩, ⟨some 21, .move, [.tmp 2], none, false, 5, 0⟩, ⟨some 22, .move, [.tmp 10], none, false, 6, 0⟩, ⟨some 23, .bin .add, [.tmp 21, .tmp 22], none, false, 7, 96⟩, ⟨some 24, .move, [.tmp 0], none, false, 8, 0⟩, ⟨some 25, .move, [.tmp 2], none, false, 9, 0⟩, ⟨some 26, .move, [.tmp 10], none, false, 10, 0⟩, ⟨some 27, .bin .add, [.tmp 25, .tmp 26], none, false, 11, 1536⟩, ⟨some 28, .idxSl 5, [.tmp 24, .tmp 27], none, false, 12, 3840⟩, ⟨some 29, .load (some 5), [.tmp 28], none, false, 13, 7936⟩, ⟨some 30, .move, [.tmp 0], none, false, 14, 0⟩, ⟨some 31, .move, [.tmp 1], none, false, 15, 0⟩, ⟨some 32, .move, [.tmp 10], none, false, 16, 0⟩, ⟨some 33, .bin .add, [.tmp 31, .tmp 32], none, false, 17, 98304⟩, ⟨some 34, .idxSl 5, [.tmp 30, .tmp 33], none, false, 18, 245760⟩, ⟨some 35, .load (some 5), [.tmp 34], none, false, 19, 507904⟩, ⟨some 36, .idxSl 5, [.tmp 16, .tmp 19], none, true, 20, 1048335⟩, ⟨none, .store 5, [.tmp 36, .tmp 29], none, true, 21, 2096911⟩]), (.seq, [⟨some 37, .idxSl 5, [.tmp 20, .tmp 23], none, true, 22, 4194303⟩]), (.seq, [⟨none, .store 5, [.tmp 37, .tmp 35], none, true, 23, 8388607⟩])]
def F59o2 : IC := .ops F59p2
def F59p3 : List (Sg × List IOp) := [(.seq, [⟨some 14, .move, [.tmp 10], none, true, 0, 0⟩, ⟨some 15, .bin .add, [.tmp 14, .val (.int .i64 1)], none, true, 0, 0⟩, ⟨some 10, .move, [.tmp 15], none, true, 0, 0⟩])]
def F59o3 : IC := .ops F59p3
def F59l4 : IC := .seq (.seq (F59o1) (.cond (.tmp 13) (.skip) (.exit 0))) (.seq (.block 1 (F59o2)) (F59o3))
def F59b : IC := .seq (F59o0) (.block 0 (.loop F59l4))
def F59 : IFn := ⟨38, [], F59b⟩

def fnT : Tr IFn := .node (none) (.node (none) (.node (none) (.node (some F7) (.node (some F15) (.node (some F31) (.leaf) (.leaf)) (.node (some F47) (.leaf) (.leaf))) (.node (some F23) (.node (some F39) (.leaf) (.leaf)) (.node (some F55) (.leaf) (.leaf)))) (.node (some F11) (.node (none) (.node (some F35) (.leaf) (.leaf)) (.node (some F51) (.leaf) (.leaf))) (.node (some F27) (.leaf) (.node (some F59) (.leaf) (.leaf))))) (.node (none) (.node (some F9) (.node (some F17) (.leaf) (.node (some F49) (.leaf) (.leaf))) (.node (some F25) (.node (some F41) (.leaf) (.leaf)) (.leaf))) (.node (some F13) (.node (some F21) (.node (some F37) (.leaf) (.leaf)) (.leaf)) (.node (some F29) (.node (some F45) (.leaf) (.leaf)) (.leaf))))) (.node (none) (.node (none) (.node (none) (.node (some F16) (.node (some F32) (.leaf) (.leaf)) (.node (some F48) (.leaf) (.leaf))) (.node (some F24) (.node (some F40) (.leaf) (.leaf)) (.node (some F56) (.leaf) (.leaf)))) (.node (none) (.node (some F20) (.node (some F36) (.leaf) (.leaf)) (.node (some F52) (.leaf) (.leaf))) (.node (some F28) (.leaf) (.leaf)))) (.node (none) (.node (some F10) (.node (some F18) (.node (some F34) (.leaf) (.leaf)) (.node (some F50) (.leaf) (.leaf))) (.node (some F26) (.node (some F42) (.leaf) (.leaf)) (.node (some F58) (.leaf) (.leaf)))) (.node (some F14) (.node (some F22) (.node (some F38) (.leaf) (.leaf)) (.node (some F54) (.leaf) (.leaf))) (.node (some F30) (.node (some F46) (.leaf) (.leaf)) (.leaf)))))
def tabs : List (List Int) := [[-1, 1]]
def E0 : Env := { fns := fnT.get, sums := fun f => if f = 11 then some (tabSum tabs) else none, g0 := 1 }
def En : Env := { fns := fnT.get, sums := fun _ => none, g0 := 1 }
theorem g0E : E0.g0 = 1 := rfl
theorem plain : Plain E0 := by
  intro f s hs args lo H v H' h
  have hs' : (if f = 11 then some (tabSum tabs) else none) = some s := hs
  split at hs'
  · injection hs' with hs'
    subst hs'
    cases args with
    | cons => cases h
    | nil =>
      simp only [tabSum] at h
      split at h
      · rename_i hok
        injection h with h; injection h with h1 h2; subst h1 h2; exact ⟨.refl _ _, fun _ _ => by simp only [tabSum, hok]; rfl⟩
      · cases h
  · cases hs'
section
variable {lo : Nat} {rd : Option Nat} {fr : Fr} {H : Heap} {Q : Out → Heap → Prop} {args : List IV}
theorem wF7o0 : W E0 lo (.code F7o0 rd fr) H Q = W E0 lo (.segs F7p0 rd fr) H Q := W_ops
theorem wF7o1 : W E0 lo (.code F7o1 rd fr) H Q = W E0 lo (.segs F7p1 rd fr) H Q := W_ops
theorem wF7o2 : W E0 lo (.code F7o2 rd fr) H Q = W E0 lo (.segs F7p2 rd fr) H Q := W_ops
theorem wF7o3 : W E0 lo (.code F7o3 rd fr) H Q = W E0 lo (.segs F7p3 rd fr) H Q := W_ops
theorem wF7o4 : W E0 lo (.code F7o4 rd fr) H Q = W E0 lo (.segs F7p4 rd fr) H Q := W_ops
theorem wF7o5 : W E0 lo (.code F7o5 rd fr) H Q = W E0 lo (.segs F7p5 rd fr) H Q := W_ops
theorem wF7o6 : W E0 lo (.code F7o6 rd fr) H Q = W E0 lo (.segs F7p6 rd fr) H Q := W_ops
theorem wF7o7 : W E0 lo (.code F7o7 rd fr) H Q = W E0 lo (.segs F7p7 rd fr) H Q := W_ops
theorem wF7o8 : W E0 lo (.code F7o8 rd fr) H Q = W E0 lo (.segs F7p8 rd fr) H Q := W_ops
theorem wF7o9 : W E0 lo (.code F7o9 rd fr) H Q = W E0 lo (.segs F7p9 rd fr) H Q := W_ops
theorem wF7o10 : W E0 lo (.code F7o10 rd fr) H Q = W E0 lo (.segs F7p10 rd fr) H Q := W_ops
theorem wF7o11 : W E0 lo (.code F7o11 rd fr) H Q = W E0 lo (.segs F7p11 rd fr) H Q := W_ops
theorem wF7o12 : W E0 lo (.code F7o12 rd fr) H Q = W E0 lo (.segs F7p12 rd fr) H Q := W_ops
theorem wF7o14 : W E0 lo (.code F7o14 rd fr) H Q = W E0 lo (.segs F7p14 rd fr) H Q := W_ops
theorem wF7o15 : W E0 lo (.code F7o15 rd fr) H Q = W E0 lo (.segs F7p15 rd fr) H Q := W_ops
theorem wF7o16 : W E0 lo (.code F7o16 rd fr) H Q = W E0 lo (.segs F7p16 rd fr) H Q := W_ops
theorem wF7o17 : W E0 lo (.code F7o17 rd fr) H Q = W E0 lo (.segs F7p17 rd fr) H Q := W_ops
theorem wF7o18 : W E0 lo (.code F7o18 rd fr) H Q = W E0 lo (.segs F7p18 rd fr) H Q := W_ops
theorem wF7o19 : W E0 lo (.code F7o19 rd fr) H Q = W E0 lo (.segs F7p19 rd fr) H Q := W_ops
theorem wF7o20 : W E0 lo (.code F7o20 rd fr) H Q = W E0 lo (.segs F7p20 rd fr) H Q := W_ops
theorem wF7o21 : W E0 lo (.code F7o21 rd fr) H Q = W E0 lo (.segs F7p21 rd fr) H Q := W_ops
theorem wF7o22 : W E0 lo (.code F7o22 rd fr) H Q = W E0 lo (.segs F7p22 rd fr) H Q := W_ops
theorem wF7o23 : W E0 lo (.code F7o23 rd fr) H Q = W E0 lo (.segs F7p23 rd fr) H Q := W_ops
theorem wF7o24 : W E0 lo (.code F7o24 rd fr) H Q = W E0 lo (.segs F7p24 rd fr) H Q := W_ops
theorem wF7o26 : W E0 lo (.code F7o26 rd fr) H Q = W E0 lo (.segs F7p26 rd fr) H Q := W_ops
theorem wF9o0 : W E0 lo (.code F9o0 rd fr) H Q = W E0 lo (.segs F9p0 rd fr) H Q := W_ops
theorem wF9o1 : W E0 lo (.code F9o1 rd fr) H Q = W E0 lo (.segs F9p1 rd fr) H Q := W_ops
theorem wF13o0 : W E0 lo (.code F13o0 rd fr) H Q = W E0 lo (.segs F13p0 rd fr) H Q := W_ops
theorem wF13o1 : W E0 lo (.code F13o1 rd fr) H Q = W E0 lo (.segs F13p1 rd fr) H Q := W_ops
theorem wF13o2 : W E0 lo (.code F13o2 rd fr) H Q = W E0 lo (.segs F13p2 rd fr) H Q := W_ops
theorem wF13o3 : W E0 lo (.code F13o3 rd fr) H Q = W E0 lo (.segs F13p3 rd fr) H Q := W_ops
theorem wF13o4 : W E0 lo (.code F13o4 rd fr) H Q = W E0 lo (.segs F13p4 rd fr) H Q := W_ops
theorem wF13o5 : W E0 lo (.code F13o5 rd fr) H Q = W E0 lo (.segs F13p5 rd fr) H Q := W_ops
theorem wF13o6 : W E0 lo (.code F13o6 rd fr) H Q = W E0 lo (.segs F13p6 rd fr) H Q := W_ops
theorem wF13o7 : W E0 lo (.code F13o7 rd fr) H Q = W E0 lo (.segs F13p7 rd fr) H Q := W_ops
theorem wF13o8 : W E0 lo (.code F13o8 rd fr) H Q = W E0 lo (.segs F13p8 rd fr) H Q := W_ops
theorem wF13o9 : W E0 lo (.code F13o9 rd fr) H Q = W E0 lo (.segs F13p9 rd fr) H Q := W_ops
theorem wF13o10 : W E0 lo (.code F13o10 rd fr) H Q = W E0 lo (.segs F13p10 rd fr) H Q := W_ops
theorem wF13o11 : W E0 lo (.code F13o11 rd fr) H Q = W E0 lo (.segs F13p11 rd fr) H Q := W_ops
theorem wF13o12 : W E0 lo (.code F13o12 rd fr) H Q = W E0 lo (.segs F13p12 rd fr) H Q := W_ops
theorem wF13o13 : W E0 lo (.code F13o13 rd fr) H Q = W E0 lo (.segs F13p13 rd fr) H Q := W_ops
theorem wF13o14 : W E0 lo (.code F13o14 rd fr) H Q = W E0 lo (.segs F13p14 rd fr) H Q := W_ops
theorem wF13o15 : W E0 lo (.code F13o15 rd fr) H Q = W E0 lo (.segs F13p15 rd fr) H Q := W_ops
theorem wF13o16 : W E0 lo (.code F13o16 rd fr) H Q = W E0 lo (.segs F13p16 rd fr) H Q := W_ops
theorem wF13o17 : W E0 lo (.code F13o17 rd fr) H Q = W E0 lo (.segs F13p17 rd fr) H Q := W_ops
theorem wF13o18 : W E0 lo (.code F13o18 rd fr) H Q = W E0 lo (.segs F13p18 rd fr) H Q := W_ops
theorem wF13o19 : W E0 lo (.code F13o19 rd fr) H Q = W E0 lo (.segs F13p19 rd fr) H Q := W_ops
theorem wF13o20 : W E0 lo (.code F13o20 rd fr) H Q = W E0 lo (.segs F13p20 rd fr) H Q := W_ops
theorem wF13o21 : W E0 lo (.code F13o21 rd fr) H Q = W E0 lo (.segs F13p21 rd fr) H Q := W_ops
theorem wF13o22 : W E0 lo (.code F13o22 rd fr) H Q = W E0 lo (.segs F13p22 rd fr) H Q := W_ops
theorem wF13o24 : W E0 lo (.code F13o24 rd fr) H Q = W E0 lo (.segs F13p24 rd fr) H Q := W_ops
theorem wF13o26 : W E0 lo (.code F13o26 rd fr) H Q = W E0 lo (.segs F13p26 rd fr) H Q := W_ops
theorem wF13o28 : W E0 lo (.code F13o28 rd fr) H Q = W E0 lo (.segs F13p28 rd fr) H Q := W_ops
theorem wF13o29 : W E0 lo (.code F13o29 rd fr) H Q = W E0 lo (.segs F13p29 rd fr) H Q := W_ops
theorem wF13o30 : W E0 lo (.code F13o30 rd fr) H Q = W E0 lo (.segs F13p30 rd fr) H Q := W_ops
theorem wF14o0 : W E0 lo (.code F14o0 rd fr) H Q = W E0 lo (.segs F14p0 rd fr) H Q := W_ops
theorem wF14o1 : W E0 lo (.code F14o1 rd fr) H Q = W E0 lo (.segs F14p1 rd fr) H Q := W_ops
theorem wF14o2 : W E0 lo (.code F14o2 rd fr) H Q = W E0 lo (.segs F14p2 rd fr) H Q := W_ops
theorem wF14o3 : W E0 lo (.code F14o3 rd fr) H Q = W E0 lo (.segs F14p3 rd fr) H Q := W_ops
theorem wF14o4 : W E0 lo (.code F14o4 rd fr) H Q = W E0 lo (.segs F14p4 rd fr) H Q := W_ops
theorem wF14o5 : W E0 lo (.code F14o5 rd fr) H Q = W E0 lo (.segs F14p5 rd fr) H Q := W_ops
theorem wF14o6 : W E0 lo (.code F14o6 rd fr) H Q = W E0 lo (.segs F14p6 rd fr) H Q := W_ops
theorem wF14o7 : W E0 lo (.code F14o7 rd fr) H Q = W E0 lo (.segs F14p7 rd fr) H Q := W_ops
theorem wF14o8 : W E0 lo (.code F14o8 rd fr) H Q = W E0 lo (.segs F14p8 rd fr) H Q := W_ops
theorem wF14o9 : W E0 lo (.code F14o9 rd fr) H Q = W E0 lo (.segs F14p9 rd fr) H Q := W_ops
theorem wF14o10 : W E0 lo (.code F14o10 rd fr) H Q = W E0 lo (.segs F14p10 rd fr) H Q := W_ops
theorem wF14o11 : W E0 lo (.code F14o11 rd fr) H Q = W E0 lo (.segs F14p11 rd fr) H Q := W_ops
theorem wF14o12 : W E0 lo (.code F14o12 rd fr) H Q = W E0 lo (.segs F14p12 rd fr) H Q := W_ops
theorem wF14o13 : W E0 lo (.code F14o13 rd fr) H Q = W E0 lo (.segs F14p13 rd fr) H Q := W_ops
theorem wF14o14 : W E0 lo (.code F14o14 rd fr) H Q = W E0 lo (.segs F14p14 rd fr) H Q := W_ops
theorem wF14o15 : W E0 lo (.code F14o15 rd fr) H Q = W E0 lo (.segs F14p15 rd fr) H Q := W_ops
theorem wF14o16 : W E0 lo (.code F14o16 rd fr) H Q = W E0 lo (.segs F14p16 rd fr) H Q := W_ops
theorem wF14o17 : W E0 lo (.code F14o17 rd fr) H Q = W E0 lo (.segs F14p17 rd fr) H Q := W_ops
theorem wF14o18 : W E0 lo (.code F14o18 rd fr) H Q = W E0 lo (.segs F14p18 rd fr) H Q := W_ops
theorem wF14o19 : W E0 lo (.code F14o19 rd fr) H Q = W E0 lo (.segs F14p19 rd fr) H Q := W_ops
theorem wF14o21 : W E0 lo (.code F14o21 rd fr) H Q = W E0 lo (.segs F14p21 rd fr) H Q := W_ops
theorem wF14o23 : W E0 lo (.code F14o23 rd fr) H Q = W E0 lo (.segs F14p23 rd fr) H Q := W_ops
theorem wF14o24 : W E0 lo (.code F14o24 rd fr) H Q = W E0 lo (.segs F14p24 rd fr) H Q := W_ops
theorem wF14o25 : W E0 lo (.code F14o25 rd fr) H Q = W E0 lo (.segs F14p25 rd fr) H Q := W_ops
theorem wF15o0 : W E0 lo (.code F15o0 rd fr) H Q = W E0 lo (.segs F15p0 rd fr) H Q := W_ops
theorem wF15o1 : W E0 lo (.code F15o1 rd fr) H Q = W E0 lo (.segs F15p1 rd fr) H Q := W_ops
theorem wF15o2 : W E0 lo (.code F15o2 rd fr) H Q = W E0 lo (.segs F15p2 rd fr) H Q := W_ops
theorem wF15o3 : W E0 lo (.code F15o3 rd fr) H Q = W E0 lo (.segs F15p3 rd fr) H Q := W_ops
theorem wF15o4 : W E0 lo (.code F15o4 rd fr) H Q = W E0 lo (.segs F15p4 rd fr) H Q := W_ops
theorem wF15o5 : W E0 lo (.code F15o5 rd fr) H Q = W E0 lo (.segs F15p5 rd fr) H Q := W_ops
theorem wF15o6 : W E0 lo (.code F15o6 rd fr) H Q = W E0 lo (.segs F15p6 rd fr) H Q := W_ops
theorem wF15o7 : W E0 lo (.code F15o7 rd fr) H Q = W E0 lo (.segs F15p7 rd fr) H Q := W_ops
theorem wF15o8 : W E0 lo (.code F15o8 rd fr) H Q = W E0 lo (.segs F15p8 rd fr) H Q := W_ops
theorem wF15o9 : W E0 lo (.code F15o9 rd fr) H Q = W E0 lo (.segs F15p9 rd fr) H Q := W_ops
theorem wF15o10 : W E0 lo (.code F15o10 rd fr) H Q = W E0 lo (.segs F15p10 rd fr) H Q := W_ops
theorem wF15o12 : W E0 lo (.code F15o12 rd fr) H Q = W E0 lo (.segs F15p12 rd fr) H Q := W_ops
theorem wF15o13 : W E0 lo (.code F15o13 rd fr) H Q = W E0 lo (.segs F15p13 rd fr) H Q := W_ops
theorem wF15o14 : W E0 lo (.code F15o14 rd fr) H Q = W E0 lo (.segs F15p14 rd fr) H Q := W_ops
theorem wF15o15 : W E0 lo (.code F15o15 rd fr) H Q = W E0 lo (.segs F15p15 rd fr) H Q := W_ops
theorem wF15o16 : W E0 lo (.code F15o16 rd fr) H Q = W E0 lo (.segs F15p16 rd fr) H Q := W_ops
theorem wF15o17 : W E0 lo (.code F15o17 rd fr) H Q = W E0 lo (.segs F15p17 rd fr) H Q := W_ops
theorem wF15o18 : W E0 lo (.code F15o18 rd fr) H Q = W E0 lo (.segs F15p18 rd fr) H Q := W_ops
theorem wF15o19 : W E0 lo (.code F15o19 rd fr) H Q = W E0 lo (.segs F15p19 rd fr) H Q := W_ops
theorem wF15o20 : W E0 lo (.code F15o20 rd fr) H Q = W E0 lo (.segs F15p20 rd fr) H Q := W_ops
theorem wF15o21 : W E0 lo (.code F15o21 rd fr) H Q = W E0 lo (.segs F15p21 rd fr) H Q := W_ops
theorem wF15o22 : W E0 lo (.code F15o22 rd fr) H Q = W E0 lo (.segs F15p22 rd fr) H Q := W_ops
theorem wF15o24 : W E0 lo (.code F15o24 rd fr) H Q = W E0 lo (.segs F15p24 rd fr) H Q := W_ops
theorem wF15o26 : W E0 lo (.code F15o26 rd fr) H Q = W E0 lo (.segs F15p26 rd fr) H Q := W_ops
theorem wF15o27 : W E0 lo (.code F15o27 rd fr) H Q = W E0 lo (.segs F15p27 rd fr) H Q := W_ops
theorem wF15o28 : W E0 lo (.code F15o28 rd fr) H Q = W E0 lo (.segs F15p28 rd fr) H Q := W_ops
theorem wF15o29 : W E0 lo (.code F15o29 rd fr) H Q = W E0 lo (.segs F15p29 rd fr) H Q := W_ops
theorem wF15o30 : W E0 lo (.code F15o30 rd fr) H Q = W E0 lo (.segs F15p30 rd fr) H Q := W_ops
theorem wF15o31 : W E0 lo (.code F15o31 rd fr) H Q = W E0 lo (.segs F15p31 rd fr) H Q := W_ops
theorem wF15o32 : W E0 lo (.code F15o32 rd fr) H Q = W E0 lo (.segs F15p32 rd fr) H Q := W_ops
theorem wF15o33 : W E0 lo (.code F15o33 rd fr) H Q = W E0 lo (.segs F15p33 rd fr) H Q := W_ops
theorem wF15o34 : W E0 lo (.code F15o34 rd fr) H Q = W E0 lo (.segs F15p34 rd fr) H Q := W_ops
theorem wF15o35 : W E0 lo (.code F15o35 rd fr) H Q = W E0 lo (.segs F15p35 rd fr) H Q := W_ops
theorem wF15o36 : W E0 lo (.code F15o36 rd fr) H Q = W E0 lo (.segs F15p36 rd fr) H Q := W_ops
theorem wF15o37 : W E0 lo (.code F15o37 rd fr) H Q = W E0 lo (.segs F15p37 rd fr) H Q := W_ops
theorem wF15o38 : W E0 lo (.code F15o38 rd fr) H Q = W E0 lo (.segs F15p38 rd fr) H Q := W_ops
theorem wF15o40 : W E0 lo (.code F15o40 rd fr) H Q = W E0 lo (.segs F15p40 rd fr) H Q := W_ops
theorem wF15o42 : W E0 lo (.code F15o42 rd fr) H Q = W E0 lo (.segs F15p42 rd fr) H Q := W_ops
theorem wF16o0 : W E0 lo (.code F16o0 rd fr) H Q = W E0 lo (.segs F16p0 rd fr) H Q := W_ops
theorem wF16o1 : W E0 lo (.code F16o1 rd fr) H Q = W E0 lo (.segs F16p1 rd fr) H Q := W_ops
theorem wF16o2 : W E0 lo (.code F16o2 rd fr) H Q = W E0 lo (.segs F16p2 rd fr) H Q := W_ops
theorem wF16o3 : W E0 lo (.code F16o3 rd fr) H Q = W E0 lo (.segs F16p3 rd fr) H Q := W_ops
theorem wF16o4 : W E0 lo (.code F16o4 rd fr) H Q = W E0 lo (.segs F16p4 rd fr) H Q := W_ops
theorem wF16o5 : W E0 lo (.code F16o5 rd fr) H Q = W E0 lo (.segs F16p5 rd fr) H Q := W_ops
theorem wF16o6 : W E0 lo (.code F16o6 rd fr) H Q = W E0 lo (.segs F16p6 rd fr) H Q := W_ops
theorem wF16o7 : W E0 lo (.code F16o7 rd fr) H Q = W E0 lo (.segs F16p7 rd fr) H Q := W_ops
theorem wF16o8 : W E0 lo (.code F16o8 rd fr) H Q = W E0 lo (.segs F16p8 rd fr) H Q := W_ops
theorem wF16o9 : W E0 lo (.code F16o9 rd fr) H Q = W E0 lo (.segs F16p9 rd fr) H Q := W_ops
theorem wF16o11 : W E0 lo (.code F16o11 rd fr) H Q = W E0 lo (.segs F16p11 rd fr) H Q := W_ops
theorem wF20o0 : W E0 lo (.code F20o0 rd fr) H Q = W E0 lo (.segs F20p0 rd fr) H Q := W_ops
theorem wF20o1 : W E0 lo (.code F20o1 rd fr) H Q = W E0 lo (.segs F20p1 rd fr) H Q := W_ops
theorem wF20o2 : W E0 lo (.code F20o2 rd fr) H Q = W E0 lo (.segs F20p2 rd fr) H Q := W_ops
theorem wF20o3 : W E0 lo (.code F20o3 rd fr) H Q = W E0 lo (.segs F20p3 rd fr) H Q := W_ops
theorem wF20o4 : W E0 lo (.code F20o4 rd fr) H Q = W E0 lo (.segs F20p4 rd fr) H Q := W_ops
theorem wF20o5 : W E0 lo (.code F20o5 rd fr) H Q = W E0 lo (.segs F20p5 rd fr) H Q := W_ops
theorem wF20o6 : W E0 lo (.code F20o6 rd fr) H Q = W E0 lo (.segs F20p6 rd fr) H Q := W_ops
theorem wF20o7 : W E0 lo (.code F20o7 rd fr) H Q = W E0 lo (.segs F20p7 rd fr) H Q := W_ops
theorem wF20o8 : W E0 lo (.code F20o8 rd fr) H Q = W E0 lo (.segs F20p8 rd fr) H Q := W_ops
theorem wF20o9 : W E0 lo (.code F20o9 rd fr) H Q = W E0 lo (.segs F20p9 rd fr) H Q := W_ops
theorem wF20o10 : W E0 lo (.code F20o10 rd fr) H Q = W E0 lo (.segs F20p10 rd fr) H Q := W_ops
theorem wF20o12 : W E0 lo (.code F20o12 rd fr) H Q = W E0 lo (.segs F20p12 rd fr) H Q := W_ops
theorem wF20o14 : W E0 lo (.code F20o14 rd fr) H Q = W E0 lo (.segs F20p14 rd fr) H Q := W_ops
theorem wF21o0 : W E0 lo (.code F21o0 rd fr) H Q = W E0 lo (.segs F21p0 rd fr) H Q := W_ops
theorem wF21o1 : W E0 lo (.code F21o1 rd fr) H Q = W E0 lo (.segs F21p1 rd fr) H Q := W_ops
theorem wF21o2 : W E0 lo (.code F21o2 rd fr) H Q = W E0 lo (.segs F21p2 rd fr) H Q := W_ops
theorem wF21o3 : W E0 lo (.code F21o3 rd fr) H Q = W E0 lo (.segs F21p3 rd fr) H Q := W_ops
theorem wF21o4 : W E0 lo (.code F21o4 rd fr) H Q = W E0 lo (.segs F21p4 rd fr) H Q := W_ops
theorem wF21o5 : W E0 lo (.code F21o5 rd fr) H Q = W E0 lo (.segs F21p5 rd fr) H Q := W_ops
theorem wF21o6 : W E0 lo (.code F21o6 rd fr) H Q = W E0 lo (.segs F21p6 rd fr) H Q := W_ops
theorem wF21o7 : W E0 lo (.code F21o7 rd fr) H Q = W E0 lo (.segs F21p7 rd fr) H Q := W_ops
theorem wF21o8 : W E0 lo (.code F21o8 rd fr) H Q = W E0 lo (.segs F21p8 rd fr) H Q := W_ops
theorem wF21o10 : W E0 lo (.code F21o10 rd fr) H Q = W E0 lo (.segs F21p10 rd fr) H Q := W_ops
theorem wF21o11 : W E0 lo (.code F21o11 rd fr) H Q = W E0 lo (.segs F21p11 rd fr) H Q := W_ops
theorem wF21o12 : W E0 lo (.code F21o12 rd fr) H Q = W E0 lo (.segs F21p12 rd fr) H Q := W_ops
theorem wF21o13 : W E0 lo (.code F21o13 rd fr) H Q = W E0 lo (.segs F21p13 rd fr) H Q := W_ops
theorem wF21o15 : W E0 lo (.code F21o15 rd fr) H Q = W E0 lo (.segs F21p15 rd fr) H Q := W_ops
theorem wF21o16 : W E0 lo (.code F21o16 rd fr) H Q = W E0 lo (.segs F21p16 rd fr) H Q := W_ops
theorem wF21o17 : W E0 lo (.code F21o17 rd fr) H Q = W E0 lo (.segs F21p17 rd fr) H Q := W_ops
theorem wF21o18 : W E0 lo (.code F21o18 rd fr) H Q = W E0 lo (.segs F21p18 rd fr) H Q := W_ops
theorem wF21o20 : W E0 lo (.code F21o20 rd fr) H Q = W E0 lo (.segs F21p20 rd fr) H Q := W_ops
theorem wF22o0 : W E0 lo (.code F22o0 rd fr) H Q = W E0 lo (.segs F22p0 rd fr) H Q := W_ops
theorem wF22o1 : W E0 lo (.code F22o1 rd fr) H Q = W E0 lo (.segs F22p1 rd fr) H Q := W_ops
theorem wF22o2 : W E0 lo (.code F22o2 rd fr) H Q = W E0 lo (.segs F22p2 rd fr) H Q := W_ops
theorem wF22o3 : W E0 lo (.code F22o3 rd fr) H Q = W E0 lo (.segs F22p3 rd fr) H Q := W_ops
theorem wF22o4 : W E0 lo (.code F22o4 rd fr) H Q = W E0 lo (.segs F22p4 rd fr) H Q := W_ops
theorem wF22o5 : W E0 lo (.code F22o5 rd fr) H Q = W E0 lo (.segs F22p5 rd fr) H Q := W_ops
theorem wF22o6 : W E0 lo (.code F22o6 rd fr) H Q = W E0 lo (.segs F22p6 rd fr) H Q := W_ops
theorem wF23o0 : W E0 lo (.code F23o0 rd fr) H Q = W E0 lo (.segs F23p0 rd fr) H Q := W_ops
theorem wF23o1 : W E0 lo (.code F23o1 rd fr) H Q = W E0 lo (.segs F23p1 rd fr) H Q := W_ops
theorem wF23o2 : W E0 lo (.code F23o2 rd fr) H Q = W E0 lo (.segs F23p2 rd fr) H Q := W_ops
theorem wF23o3 : W E0 lo (.code F23o3 rd fr) H Q = W E0 lo (.segs F23p3 rd fr) H Q := W_ops
theorem wF23o4 : W E0 lo (.code F23o4 rd fr) H Q = W E0 lo (.segs F23p4 rd fr) H Q := W_ops
theorem wF23o5 : W E0 lo (.code F23o5 rd fr) H Q = W E0 lo (.segs F23p5 rd fr) H Q := W_ops
theorem wF25o0 : W E0 lo (.code F25o0 rd fr) H Q = W E0 lo (.segs F25p0 rd fr) H Q := W_ops
theorem wF25o1 : W E0 lo (.code F25o1 rd fr) H Q = W E0 lo (.segs F25p1 rd fr) H Q := W_ops
theorem wF25o2 : W E0 lo (.code F25o2 rd fr) H Q = W E0 lo (.segs F25p2 rd fr) H Q := W_ops
theorem wF25o3 : W E0 lo (.code F25o3 rd fr) H Q = W E0 lo (.segs F25p3 rd fr) H Q := W_ops
theorem wF25o4 : W E0 lo (.code F25o4 rd fr) H Q = W E0 lo (.segs F25p4 rd fr) H Q := W_ops
theorem wF25o5 : W E0 lo (.code F25o5 rd fr) H Q = W E0 lo (.segs F25p5 rd fr) H Q := W_ops
theorem wF34o0 : W E0 lo (.code F34o0 rd fr) H Q = W E0 lo (.segs F34p0 rd fr) H Q := W_ops
theorem wF34o1 : W E0 lo (.code F34o1 rd fr) H Q = W E0 lo (.segs F34p1 rd fr) H Q := W_ops
theorem wF34o2 : W E0 lo (.code F34o2 rd fr) H Q = W E0 lo (.segs F34p2 rd fr) H Q := W_ops
theorem wF34o3 : W E0 lo (.code F34o3 rd fr) H Q = W E0 lo (.segs F34p3 rd fr) H Q := W_ops
theorem wF34o4 : W E0 lo (.code F34o4 rd fr) H Q = W E0 lo (.segs F34p4 rd fr) H Q := W_ops
theorem wF34o5 : W E0 lo (.code F34o5 rd fr) H Q = W E0 lo (.segs F34p5 rd fr) H Q := W_ops
theorem wF34o6 : W E0 lo (.code F34o6 rd fr) H Q = W E0 lo (.segs F34p6 rd fr) H Q := W_ops
theorem wF34o7 : W E0 lo (.code F34o7 rd fr) H Q = W E0 lo (.segs F34p7 rd fr) H Q := W_ops
theorem wF34o8 : W E0 lo (.code F34o8 rd fr) H Q = W E0 lo (.segs F34p8 rd fr) H Q := W_ops
theorem wF35o0 : W E0 lo (.code F35o0 rd fr) H Q = W E0 lo (.segs F35p0 rd fr) H Q := W_ops
theorem wF35o1 : W E0 lo (.code F35o1 rd fr) H Q = W E0 lo (.segs F35p1 rd fr) H Q := W_ops
theorem wF35o2 : W E0 lo (.code F35o2 rd fr) H Q = W E0 lo (.segs F35p2 rd fr) H Q := W_ops
theorem wF35o3 : W E0 lo (.code F35o3 rd fr) H Q = W E0 lo (.segs F35p3 rd fr) H Q := W_ops
theorem wF35o4 : W E0 lo (.code F35o4 rd fr) H Q = W E0 lo (.segs F35p4 rd fr) H Q := W_ops
theorem wF35o5 : W E0 lo (.code F35o5 rd fr) H Q = W E0 lo (.segs F35p5 rd fr) H Q := W_ops
theorem wF35o6 : W E0 lo (.code F35o6 rd fr) H Q = W E0 lo (.segs F35p6 rd fr) H Q := W_ops
theorem wF35o7 : W E0 lo (.code F35o7 rd fr) H Q = W E0 lo (.segs F35p7 rd fr) H Q := W_ops
theorem wF35o8 : W E0 lo (.code F35o8 rd fr) H Q = W E0 lo (.segs F35p8 rd fr) H Q := W_ops
theorem wF36o0 : W E0 lo (.code F36o0 rd fr) H Q = W E0 lo (.segs F36p0 rd fr) H Q := W_ops
theorem wF36o1 : W E0 lo (.code F36o1 rd fr) H Q = W E0 lo (.segs F36p1 rd fr) H Q := W_ops
theorem wF36o2 : W E0 lo (.code F36o2 rd fr) H Q = W E0 lo (.segs F36p2 rd fr) H Q := W_ops
theorem wF36o3 : W E0 lo (.code F36o3 rd fr) H Q = W E0 lo (.segs F36p3 rd fr) H Q := W_ops
theorem wF37o0 : W E0 lo (.code F37o0 rd fr) H Q = W E0 lo (.segs F37p0 rd fr) H Q := W_ops
theorem wF37o1 : W E0 lo (.code F37o1 rd fr) H Q = W E0 lo (.segs F37p1 rd fr) H Q := W_ops
theorem wF37o2 : W E0 lo (.code F37o2 rd fr) H Q = W E0 lo (.segs F37p2 rd fr) H Q := W_ops
theorem wF37o3 : W E0 lo (.code F37o3 rd fr) H Q = W E0 lo (.segs F37p3 rd fr) H Q := W_ops
theorem wF38o0 : W E0 lo (.code F38o0 rd fr) H Q = W E0 lo (.segs F38p0 rd fr) H Q := W_ops
theorem wF38o1 : W E0 lo (.code F38o1 rd fr) H Q = W E0 lo (.segs F38p1 rd fr) H Q := W_ops
theorem wF38o2 : W E0 lo (.code F38o2 rd fr) H Q = W E0 lo (.segs F38p2 rd fr) H Q := W_ops
theorem wF38o3 : W E0 lo (.code F38o3 rd fr) H Q = W E0 lo (.segs F38p3 rd fr) H Q := W_ops
theorem wF39o0 : W E0 lo (.code F39o0 rd fr) H Q = W E0 lo (.segs F39p0 rd fr) H Q := W_ops
theorem wF39o1 : W E0 lo (.code F39o1 rd fr) H Q = W E0 lo (.segs F39p1 rd fr) H Q := W_ops
theorem wF39o2 : W E0 lo (.code F39o2 rd fr) H Q = W E0 lo (.segs F39p2 rd fr) H Q := W_ops
theorem wF39o3 : W E0 lo (.code F39o3 rd fr) H Q = W E0 lo (.segs F39p3 rd fr) H Q := W_ops
theorem wF40o0 : W E0 lo (.code F40o0 rd fr) H Q = W E0 lo (.segs F40p0 rd fr) H Q := W_ops
theorem wF40o1 : W E0 lo (.code F40o1 rd fr) H Q = W E0 lo (.segs F40p1 rd fr) H Q := W_ops
theorem wF40o2 : W E0 lo (.code F40o2 rd fr) H Q = W E0 lo (.segs F40p2 rd fr) H Q := W_ops
theorem wF40o3 : W E0 lo (.code F40o3 rd fr) H Q = W E0 lo (.segs F40p3 rd fr) H Q := W_ops
theorem wF41o0 : W E0 lo (.code F41o0 rd fr) H Q = W E0 lo (.segs F41p0 rd fr) H Q := W_ops
theorem wF41o1 : W E0 lo (.code F41o1 rd fr) H Q = W E0 lo (.segs F41p1 rd fr) H Q := W_ops
theorem wF42o0 : W E0 lo (.code F42o0 rd fr) H Q = W E0 lo (.segs F42p0 rd fr) H Q := W_ops
theorem wF42o1 : W E0 lo (.code F42o1 rd fr) H Q = W E0 lo (.segs F42p1 rd fr) H Q := W_ops
theorem wF45o0 : W E0 lo (.code F45o0 rd fr) H Q = W E0 lo (.segs F45p0 rd fr) H Q := W_ops
theorem wF45o1 : W E0 lo (.code F45o1 rd fr) H Q = W E0 lo (.segs F45p1 rd fr) H Q := W_ops
theorem wF46o0 : W E0 lo (.code F46o0 rd fr) H Q = W E0 lo (.segs F46p0 rd fr) H Q := W_ops
theorem wF46o1 : W E0 lo (.code F46o1 rd fr) H Q = W E0 lo (.segs F46p1 rd fr) H Q := W_ops
theorem wF47o0 : W E0 lo (.code F47o0 rd fr) H Q = W E0 lo (.segs F47p0 rd fr) H Q := W_ops
theorem wF47o1 : W E0 lo (.code F47o1 rd fr) H Q = W E0 lo (.segs F47p1 rd fr) H Q := W_ops
theorem wF47o2 : W E0 lo (.code F47o2 rd fr) H Q = W E0 lo (.segs F47p2 rd fr) H Q := W_ops
theorem wF47o3 : W E0 lo (.code F47o3 rd fr) H Q = W E0 lo (.segs F47p3 rd fr) H Q := W_ops
theorem wF47o4 : W E0 lo (.code F47o4 rd fr) H Q = W E0 lo (.segs F47p4 rd fr) H Q := W_ops
theorem wF47o5 : W E0 lo (.code F47o5 rd fr) H Q = W E0 lo (.segs F47p5 rd fr) H Q := W_ops
theorem wF48o0 : W E0 lo (.code F48o0 rd fr) H Q = W E0 lo (.segs F48p0 rd fr) H Q := W_ops
theorem wF48o1 : W E0 lo (.code F48o1 rd fr) H Q = W E0 lo (.segs F48p1 rd fr) H Q := W_ops
theorem wF51o0 : W E0 lo (.code F51o0 rd fr) H Q = W E0 lo (.segs F51p0 rd fr) H Q := W_ops
theorem wF51o1 : W E0 lo (.code F51o1 rd fr) H Q = W E0 lo (.segs F51p1 rd fr) H Q := W_ops
theorem wF51o2 : W E0 lo (.code F51o2 rd fr) H Q = W E0 lo (.segs F51p2 rd fr) H Q := W_ops
theorem wF51o3 : W E0 lo (.code F51o3 rd fr) H Q = W E0 lo (.segs F51p3 rd fr) H Q := W_ops
theorem wF52o0 : W E0 lo (.code F52o0 rd fr) H Q = W E0 lo (.segs F52p0 rd fr) H Q := W_ops
theorem wF52o1 : W E0 lo (.code F52o1 rd fr) H Q = W E0 lo (.segs F52p1 rd fr) H Q := W_ops
theorem wF54o0 : W E0 lo (.code F54o0 rd fr) H Q = W E0 lo (.segs F54p0 rd fr) H Q := W_ops
theorem wF54o1 : W E0 lo (.code F54o1 rd fr) H Q = W E0 lo (.segs F54p1 rd fr) H Q := W_ops
theorem wF54o2 : W E0 lo (.code F54o2 rd fr) H Q = W E0 lo (.segs F54p2 rd fr) H Q := W_ops
theorem wF54o3 : W E0 lo (.code F54o3 rd fr) H Q = W E0 lo (.segs F54p3 rd fr) H Q := W_ops
theorem wF54o4 : W E0 lo (.code F54o4 rd fr) H Q = W E0 lo (.segs F54p4 rd fr) H Q := W_ops
theorem wF54o5 : W E0 lo (.code F54o5 rd fr) H Q = W E0 lo (.segs F54p5 rd fr) H Q := W_ops
theorem wF54o6 : W E0 lo (.code F54o6 rd fr) H Q = W E0 lo (.segs F54p6 rd fr) H Q := W_ops
theorem wF54o7 : W E0 lo (.code F54o7 rd fr) H Q = W E0 lo (.segs F54p7 rd fr) H Q := W_ops
theorem wF54o8 : W E0 lo (.code F54o8 rd fr) H Q = W E0 lo (.segs F54p8 rd fr) H Q := W_ops
theorem wF54o9 : W E0 lo (.code F54o9 rd fr) H Q = W E0 lo (.segs F54p9 rd fr) H Q := W_ops
theorem B7 : type_of% (And.intro @wF7o0 (And.intro @wF7o1 (And.intro @wF7o2 (And.intro @wF7o3 (And.intro @wF7o4 (And.intro @wF7o5 (And.intro @wF7o6 (And.intro @wF7o7 (And.intro @wF7o8 (And.intro @wF7o9 (And.intro @wF7o10 (And.intro @wF7o11 (And.intro @wF7o12 (And.intro @wF7o14 (And.intro @wF7o15 (And.intro @wF7o16 (And.intro @wF7o17 (And.intro @wF7o18 (And.intro @wF7o19 (And.intro @wF7o20 (And.intro @wF7o21 (And.intro @wF7o22 (And.intro @wF7o23 (And.intro @wF7o24 (And.intro @wF7o26 (And.intro F7p0.eq_1 (And.intro F7p1.eq_1 (And.intro F7p2.eq_1 (And.intro F7p3.eq_1 (And.intro F7p4.eq_1 (And.intro F7p5.eq_1 (And.intro F7p6.eq_1 (And.intro F7p7.eq_1 (And.intro F7p8.eq_1 (And.intro F7p9.eq_1 (And.intro F7p10.eq_1 (And.intro F7p11.eq_1 (And.intro F7p12.eq_1 (And.intro F7p14.eq_1 (And.intro F7p15.eq_1 (And.intro F7p16.eq_1 (And.intro F7p17.eq_1 (And.intro F7p18.eq_1 (And.intro F7p19.eq_1 (And.intro F7p20.eq_1 (And.intro F7p21.eq_1 (And.intro F7p22.eq_1 (And.intro F7p23.eq_1 (And.intro F7p24.eq_1 (And.intro F7p26.eq_1 (And.intro F7b.eq_1 (F7.eq_1)))))))))))))))))))))))))))))))))))))))))))))))))))) := And.intro @wF7o0 (And.intro @wF7o1 (And.intro @wF7o2 (And.intro @wF7o3 (And.intro @wF7o4 (And.intro @wF7o5 (And.intro @wF7o6 (And.intro @wF7o7 (And.intro @wF7o8 (And.intro @wF7o9 (And.intro @wF7o10 (And.intro @wF7o11 (And.intro @wF7o12 (And.intro @wF7o14 (And.intro @wF7o15 (And.intro @wF7o16 (And.intro @wF7o17 (And.intro @wF7o18 (And.intro @wF7o19 (And.intro @wF7o20 (And.intro @wF7o21 (And.intro @wF7o22 (And.intro @wF7o23 (And.intro @wF7o24 (And.intro @wF7o26 (And.intro F7p0.eq_1 (And.intro F7p1.eq_1 (And.intro F7p2.eq_1 (And.intro F7p3.eq_1 (And.intro F7p4.eq_1 (And.intro F7p5.eq_1 (And.intro F7p6.eq_1 (And.intro F7p7.eq_1 (And.intro F7p8.eq_1 (And.intro F7p9.eq_1 (And.intro F7p10.eq_1 (And.intro F7p11.eq_1 (And.intro F7p12.eq_1 (And.intro F7p14.eq_1 (And.intro F7p15.eq_1 (And.intro F7p16.eq_1 (And.intro F7p17.eq_1 (And.intro F7p18.eq_1 (And.intro F7p19.eq_1 (And.intro F7p20.eq_1 (And.intro F7p21.eq_1 (And.intro F7p22.eq_1 (And.intro F7p23.eq_1 (And.intro F7p24.eq_1 (And.intro F7p26.eq_1 (And.intro F7b.eq_1 (F7.eq_1)))))))))))))))))))))))))))))))))))))))))))))))))))
theorem B9 : type_of% (And.intro @wF9o0 (And.intro @wF9o1 (And.intro F9p0.eq_1 (And.intro F9p1.eq_1 (And.intro F9b.eq_1 (F9.eq_1)))))) := And.intro @wF9o0 (And.intro @wF9o1 (And.intro F9p0.eq_1 (And.intro F9p1.eq_1 (And.intro F9b.eq_1 (F9.eq_1)))))
theorem B13 : type_of% (And.intro @wF13o0 (And.intro @wF13o1 (And.intro @wF13o2 (And.intro @wF13o3 (And.intro @wF13o4 (And.intro @wF13o5 (And.intro @wF13o6 (And.intro @wF13o7 (And.intro @wF13o8 (And.intro @wF13o9 (And.intro @wF13o10 (And.intro @wF13o11 (And.intro @wF13o12 (And.intro @wF13o13 (And.intro @wF13o14 (And.intro @wF13o15 (And.intro @wF13o16 (And.intro @wF13o17 (And.intro @wF13o18 (And.intro @wF13o19 (And.intro @wF13o20 (And.intro @wF13o21 (And.intro @wF13o22 (And.intro @wF13o24 (And.intro @wF13o26 (And.intro @wF13o28 (And.intro @wF13o29 (And.intro @wF13o30 (And.intro F13p0.eq_1 (And.intro F13p1.eq_1 (And.intro F13p2.eq_1 (And.intro F13p3.eq_1 (And.intro F13p4.eq_1 (And.intro F13p5.eq_1 (And.intro F13p6.eq_1 (And.intro F13p7.eq_1 (And.intro F13p8.eq_1 (And.intro F13p9.eq_1 (And.intro F13p10.eq_1 (And.intro F13p11.eq_1 (And.intro F13p12.eq_1 (And.intro F13p13.eq_1 (And.intro F13p14.eq_1 (And.intro F13p15.eq_1 (And.intro F13p16.eq_1 (And.intro F13p17.eq_1 (And.intro F13p18.eq_1 (And.intro F13p19.eq_1 (And.intro F13p20.eq_1 (And.intro F13p21.eq_1 (And.intro F13p22.eq_1 (And.intro F13p24.eq_1 (And.intro F13p26.eq_1 (And.intro F13p28.eq_1 (And.intro F13p29.eq_1 (And.intro F13p30.eq_1 (And.intro F13b.eq_1 (F13.eq_1)))))))))))))))))))))))))))))))))))))))))))))))))))))))))) := And.intro @wF13o0 (And.intro @wF13o1 (And.intro @wF13o2 (And.intro @wF13o3 (And.intro @wF13o4 (And.intro @wF13o5 (And.intro @wF13o6 (And.intro @wF13o7 (And.intro @wF13o8 (And.intro @wF13o9 (And.intro @wF13o10 (And.intro @wF13o11 (And.intro @wF13o12 (And.intro @wF13o13 (And.intro @wF13o14 (And.intro @wF13o15 (And.intro @wF13o16 (And.intro @wF13o17 (And.intro @wF13o18 (And.intro @wF13o19 (And.intro @wF13o20 (And.intro @wF13o21 (And.intro @wF13o22 (And.intro @wF13o24 (And.intro @wF13o26 (And.intro @wF13o28 (And.intro @wF13o29 (And.intro @wF13o30 (And.intro F13p0.eq_1 (And.intro F13p1.eq_1 (And.intro F13p2.eq_1 (And.intro F13p3.eq_1 (And.intro F13p4.eq_1 (And.intro F13p5.eq_1 (And.intro F13p6.eq_1 (And.intro F13p7.eq_1 (And.intro F13p8.eq_1 (And.intro F13p9.eq_1 (And.intro F13p10.eq_1 (And.intro F13p11.eq_1 (And.intro F13p12.eq_1 (And.intro F13p13.eq_1 (And.intro F13p14.eq_1 (And.intro F13p15.eq_1 (And.intro F13p16.eq_1 (And.intro F13p17.eq_1 (And.intro F13p18.eq_1 (And.intro F13p19.eq_1 (And.intro F13p20.eq_1 (And.intro F13p21.eq_1 (And.intro F13p22.eq_1 (And.intro F13p24.eq_1 (And.intro F13p26.eq_1 (And.intro F13p28.eq_1 (And.intro F13p29.eq_1 (And.intro F13p30.eq_1 (And.intro F13b.eq_1 (F13.eq_1)))))))))))))))))))))))))))))))))))))))))))))))))))))))))
theorem B14 : type_of% (And.intro @wF14o0 (And.intro @wF14o1 (And.intro @wF14o2 (And.intro @wF14o3 (And.intro @wF14o4 (And.intro @wF14o5 (And.intro @wF14o6 (And.intro @wF14o7 (And.intro @wF14o8 (And.intro @wF14o9 (And.intro @wF14o10 (And.intro @wF14o11 (And.intro @wF14o12 (And.intro @wF14o13 (And.intro @wF14o14 (And.intro @wF14o15 (And.intro @wF14o16 (And.intro @wF14o17 (And.intro @wF14o18 (And.intro @wF14o19 (And.intro @wF14o21 (And.intro @wF14o23 (And.intro @wF14o24 (And.intro @wF14o25 (And.intro F14p0.eq_1 (And.intro F14p1.eq_1 (And.intro F14p2.eq_1 (And.intro F14p3.eq_1 (And.intro F14p4.eq_1 (And.intro F14p5.eq_1 (And.intro F14p6.eq_1 (And.intro F14p7.eq_1 (And.intro F14p8.eq_1 (And.intro F14p9.eq_1 (And.intro F14p10.eq_1 (And.intro F14p11.eq_1 (And.intro F14p12.eq_1 (And.intro F14p13.eq_1 (And.intro F14p14.eq_1 (And.intro F14p15.eq_1 (And.intro F14p16.eq_1 (And.intro F14p17.eq_1 (And.intro F14p18.eq_1 (And.intro F14p19.eq_1 (And.intro F14p21.eq_1 (And.intro F14p23.eq_1 (And.intro F14p24.eq_1 (And.intro F14p25.eq_1 (And.intro F14b.eq_1 (F14.eq_1)))))))))))))))))))))))))))))))))))))))))))))))))) := And.intro @wF14o0 (And.intro @wF14o1 (And.intro @wF14o2 (And.intro @wF14o3 (And.intro @wF14o4 (And.intro @wF14o5 (And.intro @wF14o6 (And.intro @wF14o7 (And.intro @wF14o8 (And.intro @wF14o9 (And.intro @wF14o10 (And.intro @wF14o11 (And.intro @wF14o12 (And.intro @wF14o13 (And.intro @wF14o14 (And.intro @wF14o15 (And.intro @wF14o16 (And.intro @wF14o17 (And.intro @wF14o18 (And.intro @wF14o19 (And.intro @wF14o21 (And.intro @wF14o23 (And.intro @wF14o24 (And.intro @wF14o25 (And.intro F14p0.eq_1 (And.intro F14p1.eq_1 (And.intro F14p2.eq_1 (And.intro F14p3.eq_1 (And.intro F14p4.eq_1 (And.intro F14p5.eq_1 (And.intro F14p6.eq_1 (And.intro F14p7.eq_1 (And.intro F14p8.eq_1 (And.intro F14p9.eq_1 (And.intro F14p10.eq_1 (And.intro F14p11.eq_1 (And.intro F14p12.eq_1 (And.intro F14p13.eq_1 (And.intro F14p14.eq_1 (And.intro F14p15.eq_1 (And.intro F14p16.eq_1 (And.intro F14p17.eq_1 (And.intro F14p18.eq_1 (And.intro F14p19.eq_1 (And.intro F14p21.eq_1 (And.intro F14p23.eq_1 (And.intro F14p24.eq_1 (And.intro F14p25.eq_1 (And.intro F14b.eq_1 (F14.eq_1)))))))))))))))))))))))))))))))))))))))))))))))))
theorem B15 : type_of% (And.intro @wF15o0 (And.intro @wF15o1 (And.intro @wF15o2 (And.intro @wF15o3 (And.intro @wF15o4 (And.intro @wF15o5 (And.intro @wF15o6 (And.intro @wF15o7 (And.intro @wF15o8 (And.intro @wF15o9 (And.intro @wF15o10 (And.intro @wF15o12 (And.intro @wF15o13 (And.intro @wF15o14 (And.intro @wF15o15 (And.intro @wF15o16 (And.intro @wF15o17 (And.intro @wF15o18 (And.intro @wF15o19 (And.intro @wF15o20 (And.intro @wF15o21 (And.intro @wF15o22 (And.intro @wF15o24 (And.intro @wF15o26 (And.intro @wF15o27 (And.intro @wF15o28 (And.intro @wF15o29 (And.intro @wF15o30 (And.intro @wF15o31 (And.intro @wF15o32 (And.intro @wF15o33 (And.intro @wF15o34 (And.intro @wF15o35 (And.intro @wF15o36 (And.intro @wF15o37 (And.intro @wF15o38 (And.intro @wF15o40 (And.intro @wF15o42 (And.intro F15p0.eq_1 (And.intro F15p1.eq_1 (And.intro F15p2.eq_1 (And.intro F15p3.eq_1 (And.intro F15p4.eq_1 (And.intro F15p5.eq_1 (And.intro F15p6.eq_1 (And.intro F15p7.eq_1 (And.intro F15p8.eq_1 (And.intro F15p9.eq_1 (And.intro F15p10.eq_1 (And.intro F15p12.eq_1 (And.intro F15p13.eq_1 (And.intro F15p14.eq_1 (And.intro F15p15.eq_1 (And.intro F15p16.eq_1 (And.intro F15p17.eq_1 (And.intro F15p18.eq_1 (And.intro F15p19.eq_1 (And.intro F15p20.eq_1 (And.intro F15p21.eq_1 (And.intro F15p22.eq_1 (And.intro F15p24.eq_1 (And.intro F15p26.eq_1 (And.intro F15p27.eq_1 (And.intro F15p28.eq_1 (And.intro F15p29.eq_1 (And.intro F15p30.eq_1 (And.intro F15p31.eq_1 (And.intro F15p32.eq_1 (And.intro F15p33.eq_1 (And.intro F15p34.eq_1 (And.intro F15p35.eq_1 (And.intro F15p36.eq_1 (And.intro F15p37.eq_1 (And.intro F15p38.eq_1 (And.intro F15p40.eq_1 (And.intro F15p42.eq_1 (And.intro F15b.eq_1 (F15.eq_1)))))))))))))))))))))))))))))))))))))))))))))))))))))))))))))))))))))))))))))) := And.intro @wF15o0 (And.intro @wF15o1 (And.intro @wF15o2 (And.intro @wF15o3 (And.intro @wF15o4 (And.intro @wF15o5 (And.intro @wF15o6 (And.intro @wF15o7 (And.intro @wF15o8 (And.intro @wF15o9 (And.intro @wF15o10 (And.intro @wF15o12 (And.intro @wF15o13 (And.intro @wF15o14 (And.intro @wF15o15 (And.intro @wF15o16 (And.intro @wF15o17 (And.intro @wF15o18 (And.intro @wF15o19 (And.intro @wF15o20 (And.intro @wF15o21 (And.intro @wF15o22 (And.intro @wF15o24 (And.intro @wF15o26 (And.intro @wF15o27 (And.intro @wF15o28 (And.intro @wF15o29 (And.intro @wF15o30 (And.intro @wF15o31 (And.intro @wF15o32 (And.intro @wF15o33 (And.intro @wF15o34 (And.intro @wF15o35 (And.intro @wF15o36 (And.intro @wF15o37 (And.intro @wF15o38 (And.intro @wF15o40 (And.intro @wF15o42 (And.intro F15p0.eq_1 (And.intro F15p1.eq_1 (And.intro F15p2.eq_1 (And.intro F15p3.eq_1 (And.intro F15p4.eq_1 (And.intro F15p5.eq_1 (And.intro F15p6.eq_1 (And.intro F15p7.eq_1 (And.intro F15p8.eq_1 (And.intro F15p9.eq_1 (And.intro F15p10.eq_1 (And.intro F15p12.eq_1 (And.intro F15p13.eq_1 (And.intro F15p14.eq_1 (And.intro F15p15.eq_1 (And.intro F15p16.eq_1 (And.intro F15p17.eq_1 (And.intro F15p18.eq_1 (And.intro F15p19.eq_1 (And.intro F15p20.eq_1 (And.intro F15p21.eq_1 (And.intro F15p22.eq_1 (And.intro F15p24.eq_1 (And.intro F15p26.eq_1 (And.intro F15p27.eq_1 (And.intro F15p28.eq_1 (And.intro F15p29.eq_1 (And.intro F15p30.eq_1 (And.intro F15p31.eq_1 (And.intro F15p32.eq_1 (And.intro F15p33.eq_1 (And.intro F15p34.eq_1 (And.intro F15p35.eq_1 (And.intro F15p36.eq_1 (And.intro F15p37.eq_1 (And.intro F15p38.eq_1 (And.intro F15p40.eq_1 (And.intro F15p42.eq_1 (And.intro F15b.eq_1 (F15.eq_1)))))))))))))))))))))))))))))))))))))))))))))))))))))))))))))))))))))))))))))
theorem B16 : type_of% (And.intro @wF16o0 (And.intro @wF16o1 (And.intro @wF16o2 (And.intro @wF16o3 (And.intro @wF16o4 (And.intro @wF16o5 (And.intro @wF16o6 (And.intro @wF16o7 (And.intro @wF16o8 (And.intro @wF16o9 (And.intro @wF16o11 (And.intro F16p0.eq_1 (And.intro F16p1.eq_1 (And.intro F16p2.eq_1 (And.intro F16p3.eq_1 (And.intro F16p4.eq_1 (And.intro F16p5.eq_1 (And.intro F16p6.eq_1 (And.intro F16p7.eq_1 (And.intro F16p8.eq_1 (And.intro F16p9.eq_1 (And.intro F16p11.eq_1 (And.intro F16b.eq_1 (F16.eq_1)))))))))))))))))))))))) := And.intro @wF16o0 (And.intro @wF16o1 (And.intro @wF16o2 (And.intro @wF16o3 (And.intro @wF16o4 (And.intro @wF16o5 (And.intro @wF16o6 (And.intro @wF16o7 (And.intro @wF16o8 (And.intro @wF16o9 (And.intro @wF16o11 (And.intro F16p0.eq_1 (And.intro F16p1.eq_1 (And.intro F16p2.eq_1 (And.intro F16p3.eq_1 (And.intro F16p4.eq_1 (And.intro F16p5.eq_1 (And.intro F16p6.eq_1 (And.intro F16p7.eq_1 (And.intro F16p8.eq_1 (And.intro F16p9.eq_1 (And.intro F16p11.eq_1 (And.intro F16b.eq_1 (F16.eq_1)))))))))))))))))))))))
theorem B20 : type_of% (And.intro @wF20o0 (And.intro @wF20o1 (And.intro @wF20o2 (And.intro @wF20o3 (And.intro @wF20o4 (And.intro @wF20o5 (And.intro @wF20o6 (And.intro @wF20o7 (And.intro @wF20o8 (And.intro @wF20o9 (And.intro @wF20o10 (And.intro @wF20o12 (And.intro @wF20o14 (And.intro F20p0.eq_1 (And.intro F20p1.eq_1 (And.intro F20p2.eq_1 (And.intro F20p3.eq_1 (And.intro F20p4.eq_1 (And.intro F20p5.eq_1 (And.intro F20p6.eq_1 (And.intro F20p7.eq_1 (And.intro F20p8.eq_1 (And.intro F20p9.eq_1 (And.intro F20p10.eq_1 (And.intro F20p12.eq_1 (And.intro F20p14.eq_1 (And.intro F20b.eq_1 (F20.eq_1)))))))))))))))))))))))))))) := And.intro @wF20o0 (And.intro @wF20o1 (And.intro @wF20o2 (And.intro @wF20o3 (And.intro @wF20o4 (And.intro @wF20o5 (And.intro @wF20o6 (And.intro @wF20o7 (And.intro @wF20o8 (And.intro @wF20o9 (And.intro @wF20o10 (And.intro @wF20o12 (And.intro @wF20o14 (And.intro F20p0.eq_1 (And.intro F20p1.eq_1 (And.intro F20p2.eq_1 (And.intro F20p3.eq_1 (And.intro F20p4.eq_1 (And.intro F20p5.eq_1 (And.intro F20p6.eq_1 (And.intro F20p7.eq_1 (And.intro F20p8.eq_1 (And.intro F20p9.eq_1 (And.intro F20p10.eq_1 (And.intro F20p12.eq_1 (And.intro F20p14.eq_1 (And.intro F20b.eq_1 (F20.eq_1)))))))))))))))))))))))))))
theorem B21 : type_of% (And.intro @wF21o0 (And.intro @wF21o1 (And.intro @wF21o2 (And.intro @wF21o3 (And.intro @wF21o4 (And.intro @wF21o5 (And.intro @wF21o6 (And.intro @wF21o7 (And.intro @wF21o8 (And.intro @wF21o10 (And.intro @wF21o11 (And.intro @wF21o12 (And.intro @wF21o13 (And.intro @wF21o15 (And.intro @wF21o16 (And.intro @wF21o17 (And.intro @wF21o18 (And.intro @wF21o20 (And.intro F21p0.eq_1 (And.intro F21p1.eq_1 (And.intro F21p2.eq_1 (And.intro F21p3.eq_1 (And.intro F21p4.eq_1 (And.intro F21p5.eq_1 (And.intro F21p6.eq_1 (And.intro F21p7.eq_1 (And.intro F21p8.eq_1 (And.intro F21p10.eq_1 (And.intro F21p11.eq_1 (And.intro F21p12.eq_1 (And.intro F21p13.eq_1 (And.intro F21p15.eq_1 (And.intro F21p16.eq_1 (And.intro F21p17.eq_1 (And.intro F21p18.eq_1 (And.intro F21p20.eq_1 (And.intro F21b.eq_1 (F21.eq_1)))))))))))))))))))))))))))))))))))))) := And.intro @wF21o0 (And.intro @wF21o1 (And.intro @wF21o2 (And.intro @wF21o3 (And.intro @wF21o4 (And.intro @wF21o5 (And.intro @wF21o6 (And.intro @wF21o7 (And.intro @wF21o8 (And.intro @wF21o10 (And.intro @wF21o11 (And.intro @wF21o12 (And.intro @wF21o13 (And.intro @wF21o15 (And.intro @wF21o16 (And.intro @wF21o17 (And.intro @wF21o18 (And.intro @wF21o20 (And.intro F21p0.eq_1 (And.intro F21p1.eq_1 (And.intro F21p2.eq_1 (And.intro F21p3.eq_1 (And.intro F21p4.eq_1 (And.intro F21p5.eq_1 (And.intro F21p6.eq_1 (And.intro F21p7.eq_1 (And.intro F21p8.eq_1 (And.intro F21p10.eq_1 (And.intro F21p11.eq_1 (And.intro F21p12.eq_1 (And.intro F21p13.eq_1 (And.intro F21p15.eq_1 (And.intro F21p16.eq_1 (And.intro F21p17.eq_1 (And.intro F21p18.eq_1 (And.intro F21p20.eq_1 (And.intro F21b.eq_1 (F21.eq_1)))))))))))))))))))))))))))))))))))))
theorem B22 : type_of% (And.intro @wF22o0 (And.intro @wF22o1 (And.intro @wF22o2 (And.intro @wF22o3 (And.intro @wF22o4 (And.intro @wF22o5 (And.intro @wF22o6 (And.intro F22p0.eq_1 (And.intro F22p1.eq_1 (And.intro F22p2.eq_1 (And.intro F22p3.eq_1 (And.intro F22p4.eq_1 (And.intro F22p5.eq_1 (And.intro F22p6.eq_1 (And.intro F22b.eq_1 (F22.eq_1)))))))))))))))) := And.intro @wF22o0 (And.intro @wF22o1 (And.intro @wF22o2 (And.intro @wF22o3 (And.intro @wF22o4 (And.intro @wF22o5 (And.intro @wF22o6 (And.intro F22p0.eq_1 (And.intro F22p1.eq_1 (And.intro F22p2.eq_1 (And.intro F22p3.eq_1 (And.intro F22p4.eq_1 (And.intro F22p5.eq_1 (And.intro F22p6.eq_1 (And.intro F22b.eq_1 (F22.eq_1)))))))))))))))
theorem B23 : type_of% (And.intro @wF23o0 (And.intro @wF23o1 (And.intro @wF23o2 (And.intro @wF23o3 (And.intro @wF23o4 (And.intro @wF23o5 (And.intro F23p0.eq_1 (And.intro F23p1.eq_1 (And.intro F23p2.eq_1 (And.intro F23p3.eq_1 (And.intro F23p4.eq_1 (And.intro F23p5.eq_1 (And.intro F23b.eq_1 (F23.eq_1)))))))))))))) := And.intro @wF23o0 (And.intro @wF23o1 (And.intro @wF23o2 (And.intro @wF23o3 (And.intro @wF23o4 (And.intro @wF23o5 (And.intro F23p0.eq_1 (And.intro F23p1.eq_1 (And.intro F23p2.eq_1 (And.intro F23p3.eq_1 (And.intro F23p4.eq_1 (And.intro F23p5.eq_1 (And.intro F23b.eq_1 (F23.eq_1)))))))))))))
theorem B25 : type_of% (And.intro @wF25o0 (And.intro @wF25o1 (And.intro @wF25o2 (And.intro @wF25o3 (And.intro @wF25o4 (And.intro @wF25o5 (And.intro F25p0.eq_1 (And.intro F25p1.eq_1 (And.intro F25p2.eq_1 (And.intro F25p3.eq_1 (And.intro F25p4.eq_1 (And.intro F25p5.eq_1 (And.intro F25b.eq_1 (F25.eq_1)))))))))))))) := And.intro @wF25o0 (And.intro @wF25o1 (And.intro @wF25o2 (And.intro @wF25o3 (And.intro @wF25o4 (And.intro @wF25o5 (And.intro F25p0.eq_1 (And.intro F25p1.eq_1 (And.intro F25p2.eq_1 (And.intro F25p3.eq_1 (And.intro F25p4.eq_1 (And.intro F25p5.eq_1 (And.intro F25b.eq_1 (F25.eq_1)))))))))))))
theorem B34 : type_of% (And.intro @wF34o0 (And.intro @wF34o1 (And.intro @wF34o2 (And.intro @wF34o3 (And.intro @wF34o4 (And.intro @wF34o5 (And.intro @wF34o6 (And.intro @wF34o7 (And.intro @wF34o8 (And.intro F34p0.eq_1 (And.intro F34p1.eq_1 (And.intro F34p2.eq_1 (And.intro F34p3.eq_1 (And.intro F34p4.eq_1 (And.intro F34p5.eq_1 (And.intro F34p6.eq_1 (And.intro F34p7.eq_1 (And.intro F34p8.eq_1 (And.intro F34b.eq_1 (F34.eq_1)))))))))))))))))))) := And.intro @wF34o0 (And.intro @wF34o1 (And.intro @wF34o2 (And.intro @wF34o3 (And.intro @wF34o4 (And.intro @wF34o5 (And.intro @wF34o6 (And.intro @wF34o7 (And.intro @wF34o8 (And.intro F34p0.eq_1 (And.intro F34p1.eq_1 (And.intro F34p2.eq_1 (And.intro F34p3.eq_1 (And.intro F34p4.eq_1 (And.intro F34p5.eq_1 (And.intro F34p6.eq_1 (And.intro F34p7.eq_1 (And.intro F34p8.eq_1 (And.intro F34b.eq_1 (F34.eq_1)))))))))))))))))))
theorem B35 : type_of% (And.intro @wF35o0 (And.intro @wF35o1 (And.intro @wF35o2 (And.intro @wF35o3 (And.intro @wF35o4 (And.intro @wF35o5 (And.intro @wF35o6 (And.intro @wF35o7 (And.intro @wF35o8 (And.intro F35p0.eq_1 (And.intro F35p1.eq_1 (And.intro F35p2.eq_1 (And.intro F35p3.eq_1 (And.intro F35p4.eq_1 (And.intro F35p5.eq_1 (And.intro F35p6.eq_1 (And.intro F35p7.eq_1 (And.intro F35p8.eq_1 (And.intro F35b.eq_1 (F35.eq_1)))))))))))))))))))) := And.intro @wF35o0 (And.intro @wF35o1 (And.intro @wF35o2 (And.intro @wF35o3 (And.intro @wF35o4 (And.intro @wF35o5 (And.intro @wF35o6 (And.intro @wF35o7 (And.intro @wF35o8 (And.intro F35p0.eq_1 (And.intro F35p1.eq_1 (And.intro F35p2.eq_1 (And.intro F35p3.eq_1 (And.intro F35p4.eq_1 (And.intro F35p5.eq_1 (And.intro F35p6.eq_1 (And.intro F35p7.eq_1 (And.intro F35p8.eq_1 (And.intro F35b.eq_1 (F35.eq_1)))))))))))))))))))
theorem B36 : type_of% (And.intro @wF36o0 (And.intro @wF36o1 (And.intro @wF36o2 (And.intro @wF36o3 (And.intro F36p0.eq_1 (And.intro F36p1.eq_1 (And.intro F36p2.eq_1 (And.intro F36p3.eq_1 (And.intro F36b.eq_1 (F36.eq_1)))))))))) := And.intro @wF36o0 (And.intro @wF36o1 (And.intro @wF36o2 (And.intro @wF36o3 (And.intro F36p0.eq_1 (And.intro F36p1.eq_1 (And.intro F36p2.eq_1 (And.intro F36p3.eq_1 (And.intro F36b.eq_1 (F36.eq_1)))))))))
theorem B37 : type_of% (And.intro @wF37o0 (And.intro @wF37o1 (And.intro @wF37o2 (And.intro @wF37o3 (And.intro F37p0.eq_1 (And.intro F37p1.eq_1 (And.intro F37p2.eq_1 (And.intro F37p3.eq_1 (And.intro F37b.eq_1 (F37.eq_1)))))))))) := And.intro @wF37o0 (And.intro @wF37o1 (And.intro @wF37o2 (And.intro @wF37o3 (And.intro F37p0.eq_1 (And.intro F37p1.eq_1 (And.intro F37p2.eq_1 (And.intro F37p3.eq_1 (And.intro F37b.eq_1 (F37.eq_1)))))))))
theorem B38 : type_of% (And.intro @wF38o0 (And.intro @wF38o1 (And.intro @wF38o2 (And.intro @wF38o3 (And.intro F38p0.eq_1 (And.intro F38p1.eq_1 (And.intro F38p2.eq_1 (And.intro F38p3.eq_1 (And.intro F38b.eq_1 (F38.eq_1)))))))))) := And.intro @wF38o0 (And.intro @wF38o1 (And.intro @wF38o2 (And.intro @wF38o3 (And.intro F38p0.eq_1 (And.intro F38p1.eq_1 (And.intro F38p2.eq_1 (And.intro F38p3.eq_1 (And.intro F38b.eq_1 (F38.eq_1)))))))))
theorem B39 : type_of% (And.intro @wF39o0 (And.intro @wF39o1 (And.intro @wF39o2 (And.intro @wF39o3 (And.intro F39p0.eq_1 (And.intro F39p1.eq_1 (And.intro F39p2.eq_1 (And.intro F39p3.eq_1 (And.intro F39b.eq_1 (F39.eq_1)))))))))) := And.intro @wF39o0 (And.intro @wF39o1 (And.intro @wF39o2 (And.intro @wF39o3 (And.intro F39p0.eq_1 (And.intro F39p1.eq_1 (And.intro F39p2.eq_1 (And.intro F39p3.eq_1 (And.intro F39b.eq_1 (F39.eq_1)))))))))
theorem B40 : type_of% (And.intro @wF40o0 (And.intro @wF40o1 (And.intro @wF40o2 (And.intro @wF40o3 (And.intro F40p0.eq_1 (And.intro F40p1.eq_1 (And.intro F40p2.eq_1 (And.intro F40p3.eq_1 (And.intro F40b.eq_1 (F40.eq_1)))))))))) := And.intro @wF40o0 (And.intro @wF40o1 (And.intro @wF40o2 (And.intro @wF40o3 (And.intro F40p0.eq_1 (And.intro F40p1.eq_1 (And.intro F40p2.eq_1 (And.intro F40p3.eq_1 (And.intro F40b.eq_1 (F40.eq_1)))))))))
theorem B41 : type_of% (And.intro @wF41o0 (And.intro @wF41o1 (And.intro F41p0.eq_1 (And.intro F41p1.eq_1 (And.intro F41b.eq_1 (F41.eq_1)))))) := And.intro @wF41o0 (And.intro @wF41o1 (And.intro F41p0.eq_1 (And.intro F41p1.eq_1 (And.intro F41b.eq_1 (F41.eq_1)))))
theorem B42 : type_of% (And.intro @wF42o0 (And.intro @wF42o1 (And.intro F42p0.eq_1 (And.intro F42p1.eq_1 (And.intro F42b.eq_1 (F42.eq_1)))))) := And.intro @wF42o0 (And.intro @wF42o1 (And.intro F42p0.eq_1 (And.intro F42p1.eq_1 (And.intro F42b.eq_1 (F42.eq_1)))))
theorem B45 : type_of% (And.intro @wF45o0 (And.intro @wF45o1 (And.intro F45p0.eq_1 (And.intro F45p1.eq_1 (And.intro F45b.eq_1 (F45.eq_1)))))) := And.intro @wF45o0 (And.intro @wF45o1 (And.intro F45p0.eq_1 (And.intro F45p1.eq_1 (And.intro F45b.eq_1 (F45.eq_1)))))
theorem B46 : type_of% (And.intro @wF46o0 (And.intro @wF46o1 (And.intro F46p0.eq_1 (And.intro F46p1.eq_1 (And.intro F46b.eq_1 (F46.eq_1)))))) := And.intro @wF46o0 (And.intro @wF46o1 (And.intro F46p0.eq_1 (And.intro F46p1.eq_1 (And.intro F46b.eq_1 (F46.eq_1)))))
theorem B47 : type_of% (And.intro @wF47o0 (And.intro @wF47o1 (And.intro @wF47o2 (And.intro @wF47o3 (And.intro @wF47o4 (And.intro @wF47o5 (And.intro F47p0.eq_1 (And.intro F47p1.eq_1 (And.intro F47p2.eq_1 (And.intro F47p3.eq_1 (And.intro F47p4.eq_1 (And.intro F47p5.eq_1 (And.intro F47b.eq_1 (F47.eq_1)))))))))))))) := And.intro @wF47o0 (And.intro @wF47o1 (And.intro @wF47o2 (And.intro @wF47o3 (And.intro @wF47o4 (And.intro @wF47o5 (And.intro F47p0.eq_1 (And.intro F47p1.eq_1 (And.intro F47p2.eq_1 (And.intro F47p3.eq_1 (And.intro F47p4.eq_1 (And.intro F47p5.eq_1 (And.intro F47b.eq_1 (F47.eq_1)))))))))))))
theorem B48 : type_of% (And.intro @wF48o0 (And.intro @wF48o1 (And.intro F48p0.eq_1 (And.intro F48p1.eq_1 (And.intro F48b.eq_1 (F48.eq_1)))))) := And.intro @wF48o0 (And.intro @wF48o1 (And.intro F48p0.eq_1 (And.intro F48p1.eq_1 (And.intro F48b.eq_1 (F48.eq_1)))))
theorem B51 : type_of% (And.intro @wF51o0 (And.intro @wF51o1 (And.intro @wF51o2 (And.intro @wF51o3 (And.intro F51p0.eq_1 (And.intro F51p1.eq_1 (And.intro F51p2.eq_1 (And.intro F51p3.eq_1 (And.intro F51b.eq_1 (F51.eq_1)))))))))) := And.intro @wF51o0 (And.intro @wF51o1 (And.intro @wF51o2 (And.intro @wF51o3 (And.intro F51p0.eq_1 (And.intro F51p1.eq_1 (And.intro F51p2.eq_1 (And.intro F51p3.eq_1 (And.intro F51b.eq_1 (F51.eq_1)))))))))
theorem B52 : type_of% (And.intro @wF52o0 (And.intro @wF52o1 (And.intro F52p0.eq_1 (And.intro F52p1.eq_1 (And.intro F52b.eq_1 (F52.eq_1)))))) := And.intro @wF52o0 (And.intro @wF52o1 (And.intro F52p0.eq_1 (And.intro F52p1.eq_1 (And.intro F52b.eq_1 (F52.eq_1)))))
theorem B54 : type_of% (And.intro @wF54o0 (And.intro @wF54o1 (And.intro @wF54o2 (And.intro @wF54o3 (And.intro @wF54o4 (And.intro @wF54o5 (And.intro @wF54o6 (And.intro @wF54o7 (And.intro @wF54o8 (And.intro @wF54o9 (And.intro F54p0.eq_1 (And.intro F54p1.eq_1 (And.intro F54p2.eq_1 (And.intro F54p3.eq_1 (And.intro F54p4.eq_1 (And.intro F54p5.eq_1 (And.intro F54p6.eq_1 (And.intro F54p7.eq_1 (And.intro F54p8.eq_1 (And.intro F54p9.eq_1 (And.intro F54b.eq_1 (F54.eq_1)))))))))))))))))))))) := And.intro @wF54o0 (And.intro @wF54o1 (And.intro @wF54o2 (And.intro @wF54o3 (And.intro @wF54o4 (And.intro @wF54o5 (And.intro @wF54o6 (And.intro @wF54o7 (And.intro @wF54o8 (And.intro @wF54o9 (And.intro F54p0.eq_1 (And.intro F54p1.eq_1 (And.intro F54p2.eq_1 (And.intro F54p3.eq_1 (And.intro F54p4.eq_1 (And.intro F54p5.eq_1 (And.intro F54p6.eq_1 (And.intro F54p7.eq_1 (And.intro F54p8.eq_1 (And.intro F54p9.eq_1 (And.intro F54b.eq_1 (F54.eq_1)))))))))))))))))))))
theorem c7 : W E0 lo (.call 7 args) H Q = W E0 lo (.code F7b none ⟨args ++ undefs (F7.ntmps - args.length), []⟩) H (retC lo F7.results Q) := W_call rfl rfl
theorem c9 : W E0 lo (.call 9 args) H Q = W E0 lo (.code F9b none ⟨args ++ undefs (F9.ntmps - args.length), []⟩) H (retC lo F9.results Q) := W_call rfl rfl
theorem c13 : W E0 lo (.call 13 args) H Q = W E0 lo (.code F13b none ⟨args ++ undefs (F13.ntmps - args.length), []⟩) H (retC lo F13.results Q) := W_call rfl rfl
theorem c14 : W E0 lo (.call 14 args) H Q = W E0 lo (.code F14b none ⟨args ++ undefs (F14.ntmps - args.length), []⟩) H (retC lo F14.results Q) := W_call rfl rfl
theorem c15 : W E0 lo (.call 15 args) H Q = W E0 lo (.code F15b none ⟨args ++ undefs (F15.ntmps - args.length), []⟩) H (retC lo F15.results Q) := W_call rfl rfl
theorem c16 : W E0 lo (.call 16 args) H Q = W E0 lo (.code F16b none ⟨args ++ undefs (F16.ntmps - args.length), []⟩) H (retC lo F16.results Q) := W_call rfl rfl
theorem c20 : W E0 lo (.call 20 args) H Q = W E0 lo (.code F20b none ⟨args ++ undefs (F20.ntmps - args.length), []⟩) H (retC lo F20.results Q) := W_call rfl rfl
theorem c21 : W E0 lo (.call 21 args) H Q = W E0 lo (.code F21b none ⟨args ++ undefs (F21.ntmps - args.length), []⟩) H (retC lo F21.results Q) := W_call rfl rfl
theorem c22 : W E0 lo (.call 22 args) H Q = W E0 lo (.code F22b none ⟨args ++ undefs (F22.ntmps - args.length), []⟩) H (retC lo F22.results Q) := W_call rfl rfl
theorem c23 : W E0 lo (.call 23 args) H Q = W E0 lo (.code F23b none ⟨args ++ undefs (F23.ntmps - args.length), []⟩) H (retC lo F23.results Q) := W_call rfl rfl
theorem c25 : W E0 lo (.call 25 args) H Q = W E0 lo (.code F25b none ⟨args ++ undefs (F25.ntmps - args.length), []⟩) H (retC lo F25.results Q) := W_call rfl rfl
theorem c34 : W E0 lo (.call 34 args) H Q = W E0 lo (.code F34b none ⟨args ++ undefs (F34.ntmps - args.length), []⟩) H (retC lo F34.results Q) := W_call rfl rfl
theorem c35 : W E0 lo (.call 35 args) H Q = W E0 lo (.code F35b none ⟨args ++ undefs (F35.ntmps - args.length), []⟩) H (retC lo F35.results Q) := W_call rfl rfl
theorem c36 : W E0 lo (.call 36 args) H Q = W E0 lo (.code F36b none ⟨args ++ undefs (F36.ntmps - args.length), []⟩) H (retC lo F36.results Q) := W_call rfl rfl
theorem c37 : W E0 lo (.call 37 args) H Q = W E0 lo (.code F37b none ⟨args ++ undefs (F37.ntmps - args.length), []⟩) H (retC lo F37.results Q) := W_call rfl rfl
theorem c38 : W E0 lo (.call 38 args) H Q = W E0 lo (.code F38b none ⟨args ++ undefs (F38.ntmps - args.length), []⟩) H (retC lo F38.results Q) := W_call rfl rfl
theorem c39 : W E0 lo (.call 39 args) H Q = W E0 lo (.code F39b none ⟨args ++ undefs (F39.ntmps - args.length), []⟩) H (retC lo F39.results Q) := W_call rfl rfl
theorem c40 : W E0 lo (.call 40 args) H Q = W E0 lo (.code F40b none ⟨args ++ undefs (F40.ntmps - args.length), []⟩) H (retC lo F40.results Q) := W_call rfl rfl
theorem c41 : W E0 lo (.call 41 args) H Q = W E0 lo (.code F41b none ⟨args ++ undefs (F41.ntmps - args.length), []⟩) H (retC lo F41.results Q) := W_call rfl rfl
theorem c42 : W E0 lo (.call 42 args) H Q = W E0 lo (.code F42b none ⟨args ++ undefs (F42.ntmps - args.length), []⟩) H (retC lo F42.results Q) := W_call rfl rfl
theorem c45 : W E0 lo (.call 45 args) H Q = W E0 lo (.code F45b none ⟨args ++ undefs (F45.ntmps - args.length), []⟩) H (retC lo F45.results Q) := W_call rfl rfl
theorem c46 : W E0 lo (.call 46 args) H Q = W E0 lo (.code F46b none ⟨args ++ undefs (F46.ntmps - args.length), []⟩) H (retC lo F46.results Q) := W_call rfl rfl
theorem c47 : W E0 lo (.call 47 args) H Q = W E0 lo (.code F47b none ⟨args ++ undefs (F47.ntmps - args.length), []⟩) H (retC lo F47.results Q) := W_call rfl rfl
theorem c48 : W E0 lo (.call 48 args) H Q = W E0 lo (.code F48b none ⟨args ++ undefs (F48.ntmps - args.length), []⟩) H (retC lo F48.results Q) := W_call rfl rfl
theorem c51 : W E0 lo (.call 51 args) H Q = W E0 lo (.code F51b none ⟨args ++ undefs (F51.ntmps - args.length), []⟩) H (retC lo F51.results Q) := W_call rfl rfl
theorem c52 : W E0 lo (.call 52 args) H Q = W E0 lo (.code F52b none ⟨args ++ undefs (F52.ntmps - args.length), []⟩) H (retC lo F52.results Q) := W_call rfl rfl
theorem c54 : W E0 lo (.call 54 args) H Q = W E0 lo (.code F54b none ⟨args ++ undefs (F54.ntmps - args.length), []⟩) H (retC lo F54.results Q) := W_call rfl rfl
theorem c11 (ht : Tabs tabs H) (h : Q (.val (.bool true)) H) : W E0 lo (.call 11 []) H Q := W_sum (s := tabSum tabs) rfl (by simp only [tabSum, ht.ok]; rfl) h
end
end Go.Iso.Gen
end
