/-
  the code of this seat for the evaluator, as a program has printed it.
-/
import Derived.Test.YtpmcjiplhekgpaaGreatDoorIsoP5
import Derived.Test.YtpmcjiplhekgpaaGreatDoorIsoP7
import Derived.Test.YtpmcjiplhekgpaaGreatDoorProg
import Derived.KernelRfl
set_option linter.unusedSimpArgs false
set_option linter.unusedVariables false

section
set_option maxRecDepth 100000
namespace Go.Iso.Gen
set_option linter.defProp false
abbrev OPS := List (Sg × List IOp)
theorem J {a b : Prop} (h : a) (k : b) : a ∧ b := ⟨h, k⟩
/- 4: gansey/ganseylaw38.CostsPercent -/
def F4p0 : OPS := [(.seq, [⟨some 4, .move, [.val (.bool false)], none, true, 0, 0⟩])]
def F4o0 : IC := .ops F4p0
def F4p1 : OPS := [(.seq, [⟨some 8, .move, [.tmp 0], none, true, 0, 0⟩, ⟨some 9, .move, [.tmp 1], none, true, 0, 0⟩, ⟨some 10, .call, [.val (.fn 12 [] []), .tmp 8, .tmp 9], none, true, 0, 0⟩, ⟨some 7, .move, [.tmp 10], none, true, 0, 0⟩, ⟨some 11, .extract 0, [.tmp 7], none, true, 0, 0⟩, ⟨some 12, .extract 1, [.tmp 7], none, true, 0, 0⟩, ⟨some 5, .move, [.tmp 11], none, true, 0, 0⟩, ⟨some 6, .move, [.tmp 12], none, true, 0, 0⟩])]
def F4o1 : IC := .ops F4p1
def F4p2 : OPS := [(.seq, [⟨some 13, .move, [.tmp 0], none, true, 0, 0⟩, ⟨some 14, .bin .lss, [.tmp 13, .val (.int .i64 0)], none, true, 0, 0⟩, ⟨some 15, .move, [.tmp 14], none, true, 0, 0⟩, ⟨some 16, .move, [.tmp 0], some (15, false), true, 0, 0⟩, ⟨some 17, .bin .gtr, [.tmp 16, .val (.int .i64 1000000000)], some (15, false), true, 0, 0⟩, ⟨some 18, .pick, [.tmp 15, .val (.bool true), .tmp 17], none, true, 0, 0⟩, ⟨some 19, .move, [.tmp 18], none, true, 0, 0⟩, ⟨some 20, .move, [.tmp 1], some (19, false), true, 0, 0⟩, ⟨some 21, .bin .lss, [.tmp 20, .val (.int .i64 0)], some (19, false), true, 0, 0⟩, ⟨some 22, .pick, [.tmp 19, .val (.bool true), .tmp 21], none, true, 0, 0⟩, ⟨some 23, .move, [.tmp 22], none, true, 0, 0⟩, ⟨some 24, .move, [.tmp 1], some (23, false), true, 0, 0⟩, ⟨some 25, .bin .gtr, [.tmp 24, .val (.int .i64 1000)], some (23, false), true, 0, 0⟩, ⟨some 26, .pick, [.tmp 23, .val (.bool true), .tmp 25], none, true, 0, 0⟩])]
def F4o2 : IC := .ops F4p2
def F4p3 : OPS := [(.seq, [⟨some 27, .move, [.tmp 6], none, true, 0, 0⟩, ⟨some 28, .bin .eql, [.tmp 27, .val (.int .i64 1)], none, true, 0, 0⟩, ⟨some 29, .move, [.tmp 28], none, true, 0, 0⟩, ⟨some 30, .move, [.tmp 5], some (29, true), true, 0, 0⟩, ⟨some 31, .bin .eql, [.tmp 30, .val (.int .i64 0)], some (29, true), true, 0, 0⟩, ⟨some 32, .pick, [.tmp 29, .tmp 31, .val (.bool false)], none, true, 0, 0⟩, ⟨some 33, .move, [.tmp 32], none, true, 0, 0⟩, ⟨some 34, .call, [.val (.fn 13 [] [])], some (33, true), true, 0, 0⟩, ⟨some 35, .pick, [.tmp 33, .tmp 34, .val (.bool false)], none, true, 0, 0⟩, ⟨some 4, .move, [.tmp 35], none, true, 0, 0⟩])]
def F4o3 : IC := .ops F4p3
def F4p4 : OPS := [(.seq, [⟨some 36, .move, [.tmp 6], none, true, 0, 0⟩, ⟨some 37, .bin .eql, [.tmp 36, .val (.int .i64 0)], none, true, 0, 0⟩, ⟨some 38, .move, [.tmp 37], none, true, 0, 0⟩, ⟨some 39, .move, [.tmp 5], some (38, true), true, 0, 0⟩, ⟨some 40, .bin .mul, [.val (.int .i64 100), .tmp 39], some (38, true), true, 0, 0⟩, ⟨some 41, .move, [.tmp 0], some (38, true), true, 0, 0⟩, ⟨some 42, .move, [.tmp 1], some (38, true), true, 0, 0⟩, ⟨some 43, .bin .mul, [.tmp 41, .tmp 42], some (38, true), true, 0, 0⟩, ⟨some 44, .bin .geq, [.tmp 40, .tmp 43], some (38, true), true, 0, 0⟩, ⟨some 45, .pick, [.tmp 38, .tmp 44, .val (.bool false)], none, true, 0, 0⟩, ⟨some 46, .move, [.tmp 45], none, true, 0, 0⟩, ⟨some 47, .move, [.tmp 5], some (46, true), true, 0, 0⟩, ⟨some 48, .bin .mul, [.val (.int .i64 100), .tmp 47], some (46, true), true, 0, 0⟩, ⟨some 49, .move, [.tmp 0], some (46, true), true, 0, 0⟩, ⟨some 50, .move, [.tmp 1], some (46, true), true, 0, 0⟩, ⟨some 51, .bin .mul, [.tmp 49, .tmp 50], some (46, true), true, 0, 0⟩, ⟨some 52, .bin .add, [.tmp 51, .val (.int .i64 100)], some (46, true), true, 0, 0⟩, ⟨some 53, .bin .lss, [.tmp 48, .tmp 52], some (46, true), true, 0, 0⟩, ⟨some 54, .pick, [.tmp 46, .tmp 53, .val (.bool false)], none, true, 0, 0⟩, ⟨some 55, .move, [.tmp 54], none, true, 0, 0⟩, ⟨some 56, .call, [.val (.fn 13 [] [])], some (55, true), true, 0, 0⟩, ⟨some 57, .pick, [.tmp 55, .tmp 56, .val (.bool false)], none, true, 0, 0⟩, ⟨some 4, .move, [.tmp 57], none, true, 0, 0⟩])]
def F4o4 : IC := .ops F4p4
def F4b : IC := .seq (F4o0) (.seq (F4o1) (.seq (.seq (F4o2) (.cond (.tmp 26) (.seq (F4o3) (.ret)) (.skip))) (.seq (F4o4) (.ret))))
def F4 : IFn := ⟨58, [(4, none)], F4b⟩
/- 5: gansey/ganseylaw38.CostsNumbers -/
def F5p0 : OPS := [(.seq, [⟨some 3, .box 40 3, [.tmp 0], none, true, 0, 0⟩, ⟨some 4, .box 40 3, [.tmp 1], none, true, 0, 0⟩, ⟨some 5, .box 41 2, [.tmp 2], none, true, 0, 0⟩, ⟨some 6, .move, [.val (.bool false)], none, true, 0, 0⟩])]
def F5o0 : IC := .ops F5p0
def F5p1 : OPS := [(.seq, [⟨some 7, .move, [.val (.int .i64 0)], none, true, 0, 0⟩])]
def F5o1 : IC := .ops F5p1
def F5p2 : OPS := [(.seq, [⟨some 17, .idxArrAddr 2 1, [.tmp 5, .val (.int .i64 1)], none, true, 0, 0⟩, ⟨some 18, .load none, [.tmp 17], none, true, 0, 0⟩, ⟨some 19, .bin .gtr, [.tmp 18, .val (.int .i64 0)], none, true, 0, 0⟩])]
def F5o2 : IC := .ops F5p2
def F5p3 : OPS := [(.seq, [⟨some 20, .idxArrAddr 2 1, [.tmp 5, .val (.int .i64 1)], none, true, 0, 0⟩, ⟨some 21, .load none, [.tmp 20], none, true, 0, 0⟩, ⟨some 22, .bin .rem, [.tmp 21, .val (.int .i64 6)], none, true, 0, 0⟩, ⟨some 7, .move, [.tmp 22], none, true, 0, 0⟩])]
def F5o3 : IC := .ops F5p3
def F5p4 : OPS := [(.free, [⟨some 23, .idxArrAddr 2 1, [.tmp 5, .val (.int .i64 0)], none, false, 0, 0⟩, ⟨some 24, .load none, [.tmp 23], none, false, 1, 1⟩, ⟨some 25, .idxArrAddr 2 1, [.tmp 5, .val (.int .i64 1)], none, false, 2, 0⟩, ⟨some 26, .load none, [.tmp 25], none, false, 3, 4⟩, ⟨some 27, .build [.int .i64 0, .int .i64 0, .int .i64 0, .int .i64 0, .int .i64 0, .int .i64 0, .int .i64 0, .int .i64 0, .int .i64 0, .int .i64 0, .int .i64 0, .int .i64 0, .int .i64 0, .int .i64 0, .int .i64 0, .int .i64 0, .int .i64 0, .int .i64 0, .int .i64 0, .int .i64 0] [(18, 1), (19, 1)], [.tmp 24, .tmp 26], none, false, 4, 15⟩, ⟨some 28, .idxArrAddr 2 1, [.tmp 5, .val (.int .i64 1)], none, false, 5, 0⟩, ⟨some 29, .load none, [.tmp 28], none, false, 6, 32⟩, ⟨some 30, .fieldAddr 0, [.tmp 3], none, false, 7, 0⟩, ⟨some 31, .load none, [.tmp 30], none, false, 8, 128⟩, ⟨some 32, .build [.int .i64 0, .int .i64 0, .int .i64 0, .int .i64 0, .int .i64 0, .int .i64 0, .int .i64 0, .int .i64 0, .int .i64 0, .int .i64 0, .int .i64 0, .int .i64 0, .int .i64 0, .int .i64 0, .int .i64 0, .int .i64 0, .int .i64 0, .int .i64 0, .int .i64 0, .int .i64 0] [(18, 1), (19, 1)], [.tmp 29, .tmp 31], none, false, 9, 480⟩, ⟨some 8, .alloc 44 20 [.int .i64 0, .int .i64 0, .int .i64 0, .int .i64 0, .int .i64 0, .int .i64 0, .int .i64 0, .int .i64 0, .int .i64 0, .int .i64 0, .int .i64 0, .int .i64 0, .int .i64 0, .int .i64 0, .int .i64 0, .int .i64 0, .int .i64 0, .int .i64 0, .int .i64 0, .int .i64 0], [], none, false, 10, 0⟩, ⟨some 9, .alloc 44 20 [.int .i64 0, .int .i64 0, .int .i64 0, .int .i64 0, .int .i64 0, .int .i64 0, .int .i64 0, .int .i64 0, .int .i64 0, .int .i64 0, .int .i64 0, .int .i64 0, .int .i64 0, .int .i64 0, .int .i64 0, .int .i64 0, .int .i64 0, .int .i64 0, .int .i64 0, .int .i64 0], [], none, false, 11, 0⟩, ⟨none, .store 20, [.tmp 8, .tmp 27], none, true, 12, 3103⟩]), (.seq, [⟨none, .store 20, [.tmp 9, .tmp 32], none, true, 13, 8191⟩])]
def F5o4 : IC := .ops F5p4
def F5p5 : OPS := [(.seq, [⟨some 33, .move, [.tmp 7], none, true, 0, 0⟩, ⟨some 34, .load (some 3), [.tmp 3], none, true, 0, 0⟩, ⟨some 35, .fieldAddr 0, [.tmp 8], none, true, 0, 0⟩, ⟨some 36, .idxArrAddr 6 3, [.tmp 35, .tmp 33], none, true, 0, 0⟩, ⟨none, .store 3, [.tmp 36, .tmp 34], none, true, 0, 0⟩])]
def F5o5 : IC := .ops F5p5
def F5p6 : OPS := [(.seq, [⟨some 37, .move, [.tmp 7], none, true, 0, 0⟩, ⟨some 38, .load (some 3), [.tmp 4], none, true, 0, 0⟩, ⟨some 39, .fieldAddr 0, [.tmp 9], none, true, 0, 0⟩, ⟨some 40, .idxArrAddr 6 3, [.tmp 39, .tmp 37], none, true, 0, 0⟩, ⟨none, .store 3, [.tmp 40, .tmp 38], none, true, 0, 0⟩])]
def F5o6 : IC := .ops F5p6
def F5p7 : OPS := [(.seq, [⟨some 41, .load (some 20), [.tmp 8], none, true, 0, 0⟩, ⟨some 42, .load (some 20), [.tmp 9], none, true, 0, 0⟩, ⟨some 43, .call, [.val (.fn 14 [] []), .tmp 41, .tmp 42], none, true, 0, 0⟩, ⟨some 10, .alloc 44 20 [.int .i64 0, .int .i64 0, .int .i64 0, .int .i64 0, .int .i64 0, .int .i64 0, .int .i64 0, .int .i64 0, .int .i64 0, .int .i64 0, .int .i64 0, .int .i64 0, .int .i64 0, .int .i64 0, .int .i64 0, .int .i64 0, .int .i64 0, .int .i64 0, .int .i64 0, .int .i64 0], [], none, true, 0, 0⟩, ⟨none, .store 20, [.tmp 10, .tmp 43], none, true, 0, 0⟩])]
def F5o7 : IC := .ops F5p7
def F5p8 : OPS := [(.seq, [⟨some 11, .alloc 44 20 [.int .i64 0, .int .i64 0, .int .i64 0, .int .i64 0, .int .i64 0, .int .i64 0, .int .i64 0, .int .i64 0, .int .i64 0, .int .i64 0, .int .i64 0, .int .i64 0, .int .i64 0, .int .i64 0, .int .i64 0, .int .i64 0, .int .i64 0, .int .i64 0, .int .i64 0, .int .i64 0], [], none, true, 0, 0⟩])]
def F5o8 : IC := .ops F5p8
def F5p9 : OPS := [(.free, [⟨some 44, .idxArrAddr 2 1, [.tmp 5, .val (.int .i64 0)], none, false, 0, 0⟩, ⟨some 45, .load none, [.tmp 44], none, false, 1, 1⟩, ⟨some 46, .call, [.val (.fn 15 [] []), .tmp 45], none, false, 2, 3⟩, ⟨some 47, .idxArrAddr 2 1, [.tmp 5, .val (.int .i64 1)], none, false, 3, 0⟩, ⟨some 48, .load none, [.tmp 47], none, false, 4, 8⟩]), (.seq, [⟨some 49, .call, [.val (.fn 15 [] []), .tmp 48], none, true, 5, 31⟩]), (.seq, [⟨some 50, .bin .add, [.tmp 46, .tmp 49], none, true, 6, 63⟩]), (.seq, [⟨some 51, .call, [.val (.fn 15 [] []), .tmp 50], none, true, 7, 127⟩]), (.seq, [⟨some 52, .fieldAddr 18, [.tmp 11], none, true, 8, 255⟩]), (.seq, [⟨none, .store 1, [.tmp 52, .tmp 51], none, true, 9, 511⟩])]
def F5o9 : IC := .ops F5p9
def F5p10 : OPS := [(.free, [⟨some 53, .idxArrAddr 2 1, [.tmp 5, .val (.int .i64 1)], none, false, 0, 0⟩, ⟨some 54, .load none, [.tmp 53], none, false, 1, 1⟩, ⟨some 55, .call, [.val (.fn 15 [] []), .tmp 54], none, false, 2, 3⟩, ⟨some 56, .fieldAddr 0, [.tmp 3], none, false, 3, 0⟩, ⟨some 57, .load none, [.tmp 56], none, false, 4, 8⟩]), (.seq, [⟨some 58, .call, [.val (.fn 15 [] []), .tmp 57], none, true, 5, 31⟩]), (.seq, [⟨some 59, .bin .add, [.tmp 55, .tmp 58], none, true, 6, 63⟩]), (.seq, [⟨some 60, .call, [.val (.fn 15 [] []), .tmp 59], none, true, 7, 127⟩]), (.seq, [⟨some 61, .fieldAddr 19, [.tmp 11], none, true, 8, 255⟩]), (.seq, [⟨none, .store 1, [.tmp 61, .tmp 60], none, true, 9, 511⟩])]
def F5o10 : IC := .ops F5p10
def F5p11 : OPS := [(.free, [⟨some 62, .move, [.tmp 7], none, false, 0, 0⟩, ⟨some 63, .fieldAddr 0, [.tmp 3], none, false, 1, 0⟩, ⟨some 64, .load none, [.tmp 63], none, false, 2, 2⟩, ⟨some 65, .call, [.val (.fn 15 [] []), .tmp 64], none, false, 3, 6⟩, ⟨some 66, .fieldAddr 0, [.tmp 4], none, false, 4, 0⟩, ⟨some 67, .load none, [.tmp 66], none, false, 5, 16⟩, ⟨some 68, .call, [.val (.fn 15 [] []), .tmp 67], none, false, 6, 62⟩, ⟨some 69, .bin .add, [.tmp 65, .tmp 68], none, false, 7, 126⟩, ⟨some 70, .call, [.val (.fn 15 [] []), .tmp 69], none, false, 8, 254⟩, ⟨some 71, .fieldAddr 1, [.tmp 3], none, false, 9, 0⟩, ⟨some 72, .load none, [.tmp 71], none, false, 10, 512⟩, ⟨some 73, .call, [.val (.fn 15 [] []), .tmp 72], none, false, 11, 2046⟩, ⟨some 74, .fieldAddr 1, [.tmp 4], none, false, 12, 0⟩, ⟨some 75, .load none, [.tmp 74], none, false, 13, 4096⟩, ⟨some 76, .call, [.val (.fn 15 [] []), .tmp 75], none, false, 14, 16382⟩, ⟨some 77, .bin .add, [.tmp 73, .tmp 76], none, false, 15, 32766⟩, ⟨some 78, .call, [.val (.fn 15 [] []), .tmp 77], none, false, 16, 65534⟩, ⟨some 79, .fieldAddr 2, [.tmp 3], none, false, 17, 0⟩, ⟨some 80, .load none, [.tmp 79], none, false, 18, 131072⟩, ⟨some 81, .call, [.val (.fn 15 [] []), .tmp 80], none, false, 19, 524286⟩, ⟨some 82, .fieldAddr 2, [.tmp 4], none, false, 20, 0⟩, ⟨some 83, .load none, [.tmp 82], none, false, 21, 1048576⟩, ⟨some 84, .call, [.val (.fn 15 [] []), .tmp 83], none, true, 22, 4194302⟩, ⟨some 85, .bin .add, [.tmp 81, .tmp 84], none, true, 23, 8388606⟩, ⟨some 86, .call, [.val (.fn 15 [] []), .tmp 85], none, true, 24, 16777214⟩, ⟨some 87, .build [.int .i64 0, .int .i64 0, .int .i64 0] [(0, 1), (1, 1), (2, 1)], [.tmp 70, .tmp 78, .tmp 86], none, true, 25, 33554430⟩, ⟨some 88, .fieldAddr 0, [.tmp 11], none, false, 26, 0⟩]), (.seq, [⟨some 89, .idxArrAddr 6 3, [.tmp 88, .tmp 62], none, true, 27, 134217727⟩]), (.seq, [⟨none, .store 3, [.tmp 89, .tmp 87], none, true, 28, 268435455⟩])]
def F5o11 : IC := .ops F5p11
def F5p12 : OPS := [(.free, [⟨some 90, .fieldAddr 0, [.tmp 3], none, false, 0, 0⟩, ⟨some 91, .load none, [.tmp 90], none, false, 1, 1⟩, ⟨some 92, .call, [.val (.fn 15 [] []), .tmp 91], none, false, 2, 3⟩, ⟨some 93, .bin .mul, [.val (.int .i64 110), .tmp 92], none, false, 3, 7⟩, ⟨some 94, .fieldAddr 1, [.tmp 3], none, false, 4, 0⟩, ⟨some 95, .load none, [.tmp 94], none, false, 5, 16⟩, ⟨some 96, .call, [.val (.fn 15 [] []), .tmp 95], none, false, 6, 55⟩, ⟨some 97, .bin .mul, [.val (.int .i64 8), .tmp 96], none, false, 7, 119⟩, ⟨some 98, .bin .add, [.tmp 93, .tmp 97], none, false, 8, 255⟩, ⟨some 99, .fieldAddr 2, [.tmp 3], none, false, 9, 0⟩, ⟨some 100, .load none, [.tmp 99], none, false, 10, 512⟩, ⟨some 101, .call, [.val (.fn 15 [] []), .tmp 100], none, true, 11, 1655⟩, ⟨some 102, .bin .mul, [.val (.int .i64 1500), .tmp 101], none, true, 12, 3703⟩]), (.seq, [⟨some 103, .bin .add, [.tmp 98, .tmp 102], none, true, 13, 8191⟩]), (.seq, [⟨some 12, .move, [.tmp 103], none, true, 14, 16383⟩])]
def F5o12 : IC := .ops F5p12
def F5p13 : OPS := [(.seq, [⟨some 104, .load (some 20), [.tmp 8], none, true, 0, 0⟩, ⟨some 105, .call, [.val (.fn 16 [] []), .tmp 104], none, true, 0, 0⟩, ⟨some 13, .alloc 47 6 [.int .i64 0, .int .i64 0, .int .i64 0, .int .i64 0, .int .i64 0, .int .i64 0], [], none, true, 0, 0⟩, ⟨none, .store 6, [.tmp 13, .tmp 105], none, true, 0, 0⟩])]
def F5o13 : IC := .ops F5p13
def F5p14 : OPS := [(.seq, [⟨some 14, .alloc 47 6 [.int .i64 0, .int .i64 0, .int .i64 0, .int .i64 0, .int .i64 0, .int .i64 0], [], none, true, 0, 0⟩])]
def F5o14 : IC := .ops F5p14
def F5p15 : OPS := [(.seq, [⟨some 106, .move, [.tmp 7], none, true, 0, 0⟩, ⟨some 107, .move, [.tmp 12], none, true, 0, 0⟩, ⟨some 108, .idxArrAddr 6 1, [.tmp 14, .tmp 106], none, true, 0, 0⟩, ⟨none, .store 1, [.tmp 108, .tmp 107], none, true, 0, 0⟩])]
def F5o15 : IC := .ops F5p15
def F5p16 : OPS := [(.seq, [⟨some 109, .load (some 20), [.tmp 10], none, true, 0, 0⟩, ⟨some 110, .load (some 20), [.tmp 11], none, true, 0, 0⟩, ⟨some 111, .eqFlat true [.int, .int, .int, .int, .int, .int, .int, .int, .int, .int, .int, .int, .int, .int, .int, .int, .int, .int, .int, .int], [.tmp 109, .tmp 110], none, true, 0, 0⟩, ⟨some 112, .move, [.tmp 111], none, true, 0, 0⟩, ⟨some 113, .load (some 3), [.tmp 3], some (112, false), true, 0, 0⟩, ⟨some 114, .call, [.val (.fn 17 [] []), .tmp 113], some (112, false), true, 0, 0⟩, ⟨some 115, .move, [.tmp 12], some (112, false), true, 0, 0⟩, ⟨some 116, .bin .neq, [.tmp 114, .tmp 115], some (112, false), true, 0, 0⟩, ⟨some 117, .pick, [.tmp 112, .val (.bool true), .tmp 116], none, true, 0, 0⟩, ⟨some 118, .move, [.tmp 117], none, true, 0, 0⟩, ⟨some 119, .load (some 6), [.tmp 13], some (118, false), true, 0, 0⟩, ⟨some 120, .load (some 6), [.tmp 14], some (118, false), true, 0, 0⟩, ⟨some 121, .eqFlat true [.int, .int, .int, .int, .int, .int], [.tmp 119, .tmp 120], some (118, false), true, 0, 0⟩, ⟨some 122, .pick, [.tmp 118, .val (.bool true), .tmp 121], none, true, 0, 0⟩])]
def F5o16 : IC := .ops F5p16
def F5p17 : OPS := [(.seq, [⟨some 6, .move, [.val (.bool false)], none, true, 0, 0⟩])]
def F5o17 : IC := .ops F5p17
def F5p18 : OPS := [(.seq, [⟨some 124, .load (some 20), [.tmp 8], none, true, 0, 0⟩, ⟨some 125, .idxArrAddr 2 1, [.tmp 5, .val (.int .i64 0)], none, true, 0, 0⟩, ⟨some 126, .load none, [.tmp 125], none, true, 0, 0⟩, ⟨some 127, .call, [.val (.fn 18 [] []), .tmp 124, .tmp 126], none, true, 0, 0⟩, ⟨some 123, .move, [.tmp 127], none, true, 0, 0⟩, ⟨some 128, .extract 0, [.tmp 123], none, true, 0, 0⟩, ⟨some 129, .extract 1, [.tmp 123], none, true, 0, 0⟩, ⟨some 15, .alloc 44 20 [.int .i64 0, .int .i64 0, .int .i64 0, .int .i64 0, .int .i64 0, .int .i64 0, .int .i64 0, .int .i64 0, .int .i64 0, .int .i64 0, .int .i64 0, .int .i64 0, .int .i64 0, .int .i64 0, .int .i64 0, .int .i64 0, .int .i64 0, .int .i64 0, .int .i64 0, .int .i64 0], [], none, true, 0, 0⟩, ⟨none, .store 20, [.tmp 15, .tmp 128], none, true, 0, 0⟩, ⟨some 16, .move, [.tmp 129], none, true, 0, 0⟩])]
def F5o18 : IC := .ops F5p18
def F5p19 : OPS := [(.seq, [⟨some 130, .idxArrAddr 2 1, [.tmp 5, .val (.int .i64 0)], none, true, 0, 0⟩, ⟨some 131, .load none, [.tmp 130], none, true, 0, 0⟩, ⟨some 132, .bin .lss, [.tmp 131, .val (.int .i64 0)], none, true, 0, 0⟩, ⟨some 133, .move, [.tmp 132], none, true, 0, 0⟩, ⟨some 134, .idxArrAddr 2 1, [.tmp 5, .val (.int .i64 0)], some (133, false), true, 0, 0⟩, ⟨some 135, .load none, [.tmp 134], some (133, false), true, 0, 0⟩, ⟨some 136, .bin .gtr, [.tmp 135, .val (.int .i64 1000000)], some (133, false), true, 0, 0⟩, ⟨some 137, .pick, [.tmp 133, .val (.bool true), .tmp 136], none, true, 0, 0⟩])]
def F5o19 : IC := .ops F5p19
def F5p20 : OPS := [(.seq, [⟨some 138, .move, [.tmp 16], none, true, 0, 0⟩, ⟨some 139, .bin .eql, [.tmp 138, .val (.int .i64 1)], none, true, 0, 0⟩, ⟨some 140, .move, [.tmp 139], none, true, 0, 0⟩, ⟨some 141, .load (some 20), [.tmp 15], some (140, true), true, 0, 0⟩, ⟨some 142, .build [.int .i64 0, .int .i64 0, .int .i64 0, .int .i64 0, .int .i64 0, .int .i64 0, .int .i64 0, .int .i64 0, .int .i64 0, .int .i64 0, .int .i64 0, .int .i64 0, .int .i64 0, .int .i64 0, .int .i64 0, .int .i64 0, .int .i64 0, .int .i64 0, .int .i64 0, .int .i64 0] [], [], some (140, true), true, 0, 0⟩, ⟨some 143, .eqFlat false [.int, .int, .int, .int, .int, .int, .int, .int, .int, .int, .int, .int, .int, .int, .int, .int, .int, .int, .int, .int], [.tmp 141, .tmp 142], some (140, true), true, 0, 0⟩, ⟨some 144, .pick, [.tmp 140, .tmp 143, .val (.bool false)], none, true, 0, 0⟩, ⟨some 145, .move, [.tmp 144], none, true, 0, 0⟩, ⟨some 146, .call, [.val (.fn 13 [] [])], some (145, true), true, 0, 0⟩, ⟨some 147, .pick, [.tmp 145, .tmp 146, .val (.bool false)], none, true, 0, 0⟩, ⟨some 6, .move, [.tmp 147], none, true, 0, 0⟩])]
def F5o20 : IC := .ops F5p20
def F5p21 : OPS := [(.free, [⟨some 148, .idxArrAddr 2 1, [.tmp 5, .val (.int .i64 0)], none, false, 0, 0⟩, ⟨some 149, .load none, [.tmp 148], none, false, 1, 1⟩, ⟨some 150, .call, [.val (.fn 15 [] []), .tmp 149], none, false, 2, 3⟩, ⟨some 151, .idxArrAddr 2 1, [.tmp 5, .val (.int .i64 0)], none, false, 3, 0⟩, ⟨some 152, .load none, [.tmp 151], none, false, 4, 8⟩]), (.seq, [⟨some 153, .bin .mul, [.tmp 150, .tmp 152], none, true, 5, 31⟩]), (.seq, [⟨some 154, .call, [.val (.fn 15 [] []), .tmp 153], none, true, 6, 63⟩]), (.seq, [⟨some 155, .fieldAddr 18, [.tmp 11], none, true, 7, 127⟩]), (.seq, [⟨none, .store 1, [.tmp 155, .tmp 154], none, true, 8, 255⟩])]
def F5o21 : IC := .ops F5p21
def F5p22 : OPS := [(.free, [⟨some 156, .idxArrAddr 2 1, [.tmp 5, .val (.int .i64 1)], none, false, 0, 0⟩, ⟨some 157, .load none, [.tmp 156], none, false, 1, 1⟩, ⟨some 158, .call, [.val (.fn 15 [] []), .tmp 157], none, false, 2, 3⟩, ⟨some 159, .idxArrAddr 2 1, [.tmp 5, .val (.int .i64 0)], none, false, 3, 0⟩, ⟨some 160, .load none, [.tmp 159], none, false, 4, 8⟩]), (.seq, [⟨some 161, .bin .mul, [.tmp 158, .tmp 160], none, true, 5, 31⟩]), (.seq, [⟨some 162, .call, [.val (.fn 15 [] []), .tmp 161], none, true, 6, 63⟩]), (.seq, [⟨some 163, .fieldAddr 19, [.tmp 11], none, true, 7, 127⟩]), (.seq, [⟨none, .store 1, [.tmp 163, .tmp 162], none, true, 8, 255⟩])]
def F5o22 : IC := .ops F5p22
def F5p23 : OPS := [(.free, [⟨some 164, .move, [.tmp 7], none, false, 0, 0⟩, ⟨some 165, .fieldAddr 0, [.tmp 3], none, false, 1, 0⟩, ⟨some 166, .load none, [.tmp 165], none, false, 2, 2⟩, ⟨some 167, .call, [.val (.fn 15 [] []), .tmp 166], none, false, 3, 6⟩, ⟨some 168, .idxArrAddr 2 1, [.tmp 5, .val (.int .i64 0)], none, false, 4, 0⟩, ⟨some 169, .load none, [.tmp 168], none, false, 5, 16⟩, ⟨some 170, .bin .mul, [.tmp 167, .tmp 169], none, false, 6, 62⟩, ⟨some 171, .call, [.val (.fn 15 [] []), .tmp 170], none, false, 7, 126⟩, ⟨some 172, .fieldAddr 1, [.tmp 3], none, false, 8, 0⟩, ⟨some 173, .load none, [.tmp 172], none, false, 9, 256⟩, ⟨some 174, .call, [.val (.fn 15 [] []), .tmp 173], none, false, 10, 1022⟩, ⟨some 175, .idxArrAddr 2 1, [.tmp 5, .val (.int .i64 0)], none, false, 11, 0⟩, ⟨some 176, .load none, [.tmp 175], none, false, 12, 2048⟩, ⟨some 177, .bin .mul, [.tmp 174, .tmp 176], none, false, 13, 8190⟩, ⟨some 178, .call, [.val (.fn 15 [] []), .tmp 177], none, false, 14, 16382⟩, ⟨some 179, .fieldAddr 2, [.tmp 3], none, false, 15, 0⟩, ⟨some 180, .load none, [.tmp 179], none, false, 16, 32768⟩, ⟨some 181, .call, [.val (.fn 15 [] []), .tmp 180], none, false, 17, 131070⟩, ⟨some 182, .idxArrAddr 2 1, [.tmp 5, .val (.int .i64 0)], none, false, 18, 0⟩, ⟨some 183, .load none, [.tmp 182], none, false, 19, 262144⟩, ⟨some 184, .bin .mul, [.tmp 181, .tmp 183], none, true, 20, 1048574⟩, ⟨some 185, .call, [.val (.fn 15 [] []), .tmp 184], none, true, 21, 2097150⟩, ⟨some 186, .build [.int .i64 0, .int .i64 0, .int .i64 0] [(0, 1), (1, 1), (2, 1)], [.tmp 171, .tmp 178, .tmp 185], none, true, 22, 4194302⟩, ⟨some 187, .fieldAddr 0, [.tmp 11], none, false, 23, 0⟩]), (.seq, [⟨some 188, .idxArrAddr 6 3, [.tmp 187, .tmp 164], none, true, 24, 16777215⟩]), (.seq, [⟨none, .store 3, [.tmp 188, .tmp 186], none, true, 25, 33554431⟩])]
def F5o23 : IC := .ops F5p23
def F5p24 : OPS := [(.seq, [⟨some 189, .move, [.tmp 16], none, true, 0, 0⟩, ⟨some 190, .bin .eql, [.tmp 189, .val (.int .i64 0)], none, true, 0, 0⟩, ⟨some 191, .move, [.tmp 190], none, true, 0, 0⟩, ⟨some 192, .load (some 20), [.tmp 15], some (191, true), true, 0, 0⟩, ⟨some 193, .load (some 20), [.tmp 11], some (191, true), true, 0, 0⟩, ⟨some 194, .eqFlat false [.int, .int, .int, .int, .int, .int, .int, .int, .int, .int, .int, .int, .int, .int, .int, .int, .int, .int, .int, .int], [.tmp 192, .tmp 193], some (191, true), true, 0, 0⟩, ⟨some 195, .pick, [.tmp 191, .tmp 194, .val (.bool false)], none, true, 0, 0⟩, ⟨some 196, .move, [.tmp 195], none, true, 0, 0⟩, ⟨some 197, .call, [.val (.fn 13 [] [])], some (196, true), true, 0, 0⟩, ⟨some 198, .pick, [.tmp 196, .tmp 197, .val (.bool false)], none, true, 0, 0⟩, ⟨some 6, .move, [.tmp 198], none, true, 0, 0⟩])]
def F5o24 : IC := .ops F5p24
def F5b : IC := .seq (F5o0) (.seq (F5o1) (.seq (.seq (F5o2) (.cond (.tmp 19) (F5o3) (.skip))) (.seq (F5o4) (.seq (F5o5) (.seq (F5o6) (.seq (F5o7) (.seq (F5o8) (.seq (F5o9) (.seq (F5o10) (.seq (F5o11) (.seq (F5o12) (.seq (F5o13) (.seq (F5o14) (.seq (F5o15) (.seq (.seq (F5o16) (.cond (.tmp 122) (.seq (F5o17) (.ret)) (.skip))) (.seq (F5o18) (.seq (.seq (F5o19) (.cond (.tmp 137) (.seq (F5o20) (.ret)) (.skip))) (.seq (F5o21) (.seq (F5o22) (.seq (F5o23) (.seq (F5o24) (.ret))))))))))))))))))))))
def F5 : IFn := ⟨199, [(6, none)], F5b⟩
/- 12: gansey/costs.Percent -/
def F12p0 : OPS := [(.seq, [⟨some 4, .move, [.val (.int .i64 0)], none, true, 0, 0⟩, ⟨some 5, .move, [.val (.int .i64 0)], none, true, 0, 0⟩])]
def F12o0 : IC := .ops F12p0
def F12p1 : OPS := [(.seq, [⟨some 6, .move, [.tmp 0], none, true, 0, 0⟩, ⟨some 7, .bin .lss, [.tmp 6, .val (.int .i64 0)], none, true, 0, 0⟩, ⟨some 8, .move, [.tmp 7], none, true, 0, 0⟩, ⟨some 9, .move, [.tmp 0], some (8, false), true, 0, 0⟩, ⟨some 10, .bin .gtr, [.tmp 9, .val (.int .i64 1000000000)], some (8, false), true, 0, 0⟩, ⟨some 11, .pick, [.tmp 8, .val (.bool true), .tmp 10], none, true, 0, 0⟩, ⟨some 12, .move, [.tmp 11], none, true, 0, 0⟩, ⟨some 13, .move, [.tmp 1], some (12, false), true, 0, 0⟩, ⟨some 14, .bin .lss, [.tmp 13, .val (.int .i64 0)], some (12, false), true, 0, 0⟩, ⟨some 15, .pick, [.tmp 12, .val (.bool true), .tmp 14], none, true, 0, 0⟩, ⟨some 16, .move, [.tmp 15], none, true, 0, 0⟩, ⟨some 17, .move, [.tmp 1], some (16, false), true, 0, 0⟩, ⟨some 18, .bin .gtr, [.tmp 17, .val (.int .i64 1000)], some (16, false), true, 0, 0⟩, ⟨some 19, .pick, [.tmp 16, .val (.bool true), .tmp 18], none, true, 0, 0⟩])]
def F12o1 : IC := .ops F12p1
def F12p2 : OPS := [(.seq, [⟨some 4, .move, [.val (.int .i64 0)], none, true, 0, 0⟩, ⟨some 5, .move, [.val (.int .i64 1)], none, true, 0, 0⟩])]
def F12o2 : IC := .ops F12p2
def F12p3 : OPS := [(.seq, [⟨some 20, .move, [.tmp 0], none, true, 0, 0⟩, ⟨some 21, .move, [.tmp 1], none, true, 0, 0⟩, ⟨some 22, .bin .mul, [.tmp 20, .tmp 21], none, true, 0, 0⟩, ⟨some 23, .bin .add, [.tmp 22, .val (.int .i64 99)], none, true, 0, 0⟩, ⟨some 24, .bin .quo, [.tmp 23, .val (.int .i64 100)], none, true, 0, 0⟩, ⟨some 4, .move, [.tmp 24], none, true, 0, 0⟩, ⟨some 5, .move, [.val (.int .i64 0)], none, true, 0, 0⟩])]
def F12o3 : IC := .ops F12p3
def F12b : IC := .seq (F12o0) (.seq (.seq (F12o1) (.cond (.tmp 19) (.seq (F12o2) (.ret)) (.skip))) (.seq (F12o3) (.ret)))
def F12 : IFn := ⟨25, [(4, none), (5, none)], F12b⟩
/- 13: gansey/ganseylaw38.lives -/
noncomputable def F13 : IFn := (compF Go.Proofs.Tryz.prog 13).getD ⟨0, [], .skip⟩
/- 14: gansey/costs.Add -/
def F14p0 : OPS := [(.seq, [⟨some 2, .box 44 20, [.tmp 0], none, true, 0, 0⟩, ⟨some 3, .box 44 20, [.tmp 1], none, true, 0, 0⟩, ⟨some 4, .alloc 44 20 [.int .i64 0, .int .i64 0, .int .i64 0, .int .i64 0, .int .i64 0, .int .i64 0, .int .i64 0, .int .i64 0, .int .i64 0, .int .i64 0, .int .i64 0, .int .i64 0, .int .i64 0, .int .i64 0, .int .i64 0, .int .i64 0, .int .i64 0, .int .i64 0, .int .i64 0, .int .i64 0], [], none, true, 0, 0⟩])]
def F14o0 : IC := .ops F14p0
def F14p1 : OPS := [(.seq, [⟨some 5, .load (some 20), [.tmp 2], none, true, 0, 0⟩, ⟨some 6, .load (some 20), [.tmp 3], none, true, 0, 0⟩, ⟨some 7, .call, [.val (.fn 37 [] []), .tmp 5, .tmp 6, .val (.fn 38 [] [])], none, true, 0, 0⟩, ⟨none, .store 20, [.tmp 4, .tmp 7], none, true, 0, 0⟩])]
def F14o1 : IC := .ops F14p1
def F14b : IC := .seq (F14o0) (.seq (F14o1) (.ret))
def F14 : IFn := ⟨8, [(4, some (some 20))], F14b⟩
/- 15: gansey/ganseylaw38.clip -/
def F15p0 : OPS := [(.seq, [⟨some 2, .move, [.val (.int .i64 0)], none, true, 0, 0⟩])]
def F15o0 : IC := .ops F15p0
def F15p1 : OPS := [(.seq, [⟨some 3, .move, [.tmp 0], none, true, 0, 0⟩, ⟨some 4, .bin .lss, [.tmp 3, .val (.int .i64 0)], none, true, 0, 0⟩])]
def F15o1 : IC := .ops F15p1
def F15p2 : OPS := [(.seq, [⟨some 2, .move, [.val (.int .i64 0)], none, true, 0, 0⟩])]
def F15o2 : IC := .ops F15p2
def F15p3 : OPS := [(.seq, [⟨some 5, .move, [.tmp 0], none, true, 0, 0⟩, ⟨some 6, .bin .gtr, [.tmp 5, .val (.int .i64 1000000)], none, true, 0, 0⟩])]
def F15o3 : IC := .ops F15p3
def F15p4 : OPS := [(.seq, [⟨some 2, .move, [.val (.int .i64 1000000)], none, true, 0, 0⟩])]
def F15o4 : IC := .ops F15p4
def F15p5 : OPS := [(.seq, [⟨some 7, .move, [.tmp 0], none, true, 0, 0⟩, ⟨some 2, .move, [.tmp 7], none, true, 0, 0⟩])]
def F15o5 : IC := .ops F15p5
def F15b : IC := .seq (F15o0) (.seq (.seq (F15o1) (.cond (.tmp 4) (.seq (F15o2) (.ret)) (.skip))) (.seq (.seq (F15o3) (.cond (.tmp 6) (.seq (F15o4) (.ret)) (.skip))) (.seq (F15o5) (.ret))))
def F15 : IFn := ⟨8, [(2, none)], F15b⟩
/- 16: gansey/costs.Lengths -/
def F16p0 : OPS := [(.seq, [⟨some 1, .box 44 20, [.tmp 0], none, true, 0, 0⟩, ⟨some 2, .alloc 47 6 [.int .i64 0, .int .i64 0, .int .i64 0, .int .i64 0, .int .i64 0, .int .i64 0], [], none, true, 0, 0⟩])]
def F16o0 : IC := .ops F16p0
def F16p1 : OPS := [(.seq, [⟨some 3, .alloc 47 6 [.int .i64 0, .int .i64 0, .int .i64 0, .int .i64 0, .int .i64 0, .int .i64 0], [], none, true, 0, 0⟩])]
def F16o1 : IC := .ops F16p1
def F16p2 : OPS := [(.seq, [⟨some 6, .fieldAddr 0, [.tmp 1], none, true, 0, 0⟩, ⟨some 7, .load (some 18), [.tmp 6], none, true, 0, 0⟩, ⟨some 8, .move, [.val (.int .i64 0)], none, true, 0, 0⟩])]
def F16o2 : IC := .ops F16p2
def F16p3 : OPS := [(.seq, [⟨some 9, .bin .lss, [.tmp 8, .val (.int .i64 6)], none, true, 0, 0⟩])]
def F16o3 : IC := .ops F16p3
def F16p4 : OPS := [(.seq, [⟨some 10, .move, [.tmp 8], none, true, 0, 0⟩, ⟨some 11, .idxArr 6 3 (some 3), [.tmp 7, .tmp 8], none, true, 0, 0⟩, ⟨some 5, .alloc 40 3 [.int .i64 0, .int .i64 0, .int .i64 0], [], none, true, 0, 0⟩, ⟨some 4, .move, [.tmp 10], none, true, 0, 0⟩, ⟨none, .store 3, [.tmp 5, .tmp 11], none, true, 0, 0⟩])]
def F16o4 : IC := .ops F16p4
def F16p5 : OPS := [(.seq, [⟨some 12, .move, [.tmp 4], none, true, 0, 0⟩, ⟨some 13, .load (some 3), [.tmp 5], none, true, 0, 0⟩, ⟨some 14, .call, [.val (.fn 17 [] []), .tmp 13], none, true, 0, 0⟩, ⟨some 15, .idxArrAddr 6 1, [.tmp 3, .tmp 12], none, true, 0, 0⟩, ⟨none, .store 1, [.tmp 15, .tmp 14], none, true, 0, 0⟩])]
def F16o5 : IC := .ops F16p5
def F16p6 : OPS := [(.seq, [⟨some 16, .bin .add, [.tmp 8, .val (.int .i64 1)], none, true, 0, 0⟩, ⟨some 8, .move, [.tmp 16], none, true, 0, 0⟩])]
def F16o6 : IC := .ops F16p6
def F16l7 : IC := .seq (F16o3) (.seq (.cond (.tmp 9) (.skip) (.exit 0)) (.seq (.block 1 (.seq (F16o4) (F16o5))) (F16o6)))
def F16p8 : OPS := [(.seq, [⟨some 17, .load (some 6), [.tmp 3], none, true, 0, 0⟩, ⟨none, .store 6, [.tmp 2, .tmp 17], none, true, 0, 0⟩])]
def F16o8 : IC := .ops F16p8
def F16b : IC := .seq (F16o0) (.seq (F16o1) (.seq (.seq (F16o2) (.block 0 (.loop F16l7))) (.seq (F16o8) (.ret))))
def F16 : IFn := ⟨18, [(2, some (some 6))], F16b⟩
/- 17: gansey/costs.Length -/
def F17p0 : OPS := [(.seq, [⟨some 1, .box 40 3, [.tmp 0], none, true, 0, 0⟩, ⟨some 2, .move, [.val (.int .i64 0)], none, true, 0, 0⟩])]
def F17o0 : IC := .ops F17p0
def F17p1 : OPS := [(.free, [⟨some 3, .fieldAddr 0, [.tmp 1], none, false, 0, 0⟩, ⟨some 4, .load none, [.tmp 3], none, false, 1, 1⟩, ⟨some 5, .call, [.val (.fn 39 [] []), .tmp 4, .val (.int .i64 1000000)], none, false, 2, 3⟩, ⟨some 6, .bin .mul, [.val (.int .i64 110), .tmp 5], none, false, 3, 7⟩, ⟨some 7, .fieldAddr 1, [.tmp 1], none, false, 4, 0⟩, ⟨some 8, .load none, [.tmp 7], none, false, 5, 16⟩, ⟨some 9, .call, [.val (.fn 39 [] []), .tmp 8, .val (.int .i64 1000000)], none, false, 6, 55⟩, ⟨some 10, .bin .mul, [.val (.int .i64 8), .tmp 9], none, false, 7, 119⟩, ⟨some 11, .bin .add, [.tmp 6, .tmp 10], none, false, 8, 255⟩, ⟨some 12, .fieldAddr 2, [.tmp 1], none, false, 9, 0⟩, ⟨some 13, .load none, [.tmp 12], none, false, 10, 512⟩, ⟨some 14, .call, [.val (.fn 39 [] []), .tmp 13, .val (.int .i64 1000000)], none, true, 11, 1655⟩, ⟨some 15, .bin .mul, [.val (.int .i64 1500), .tmp 14], none, true, 12, 3703⟩]), (.seq, [⟨some 16, .bin .add, [.tmp 11, .tmp 15], none, true, 13, 8191⟩]), (.seq, [⟨some 2, .move, [.tmp 16], none, true, 14, 16383⟩])]
def F17o1 : IC := .ops F17p1
def F17b : IC := .seq (F17o0) (.seq (F17o1) (.ret))
def F17 : IFn := ⟨17, [(2, none)], F17b⟩
/- 18: gansey/costs.Times -/
def F18p0 : OPS := [(.seq, [⟨some 2, .box 44 20, [.tmp 0], none, true, 0, 0⟩, ⟨some 3, .box 3 1, [.tmp 1], none, true, 0, 0⟩, ⟨some 4, .alloc 44 20 [.int .i64 0, .int .i64 0, .int .i64 0, .int .i64 0, .int .i64 0, .int .i64 0, .int .i64 0, .int .i64 0, .int .i64 0, .int .i64 0, .int .i64 0, .int .i64 0, .int .i64 0, .int .i64 0, .int .i64 0, .int .i64 0, .int .i64 0, .int .i64 0, .int .i64 0, .int .i64 0], [], none, true, 0, 0⟩, ⟨some 5, .move, [.val (.int .i64 0)], none, true, 0, 0⟩])]
def F18o0 : IC := .ops F18p0
def F18p1 : OPS := [(.seq, [⟨some 6, .load none, [.tmp 3], none, true, 0, 0⟩, ⟨some 7, .bin .lss, [.tmp 6, .val (.int .i64 0)], none, true, 0, 0⟩, ⟨some 8, .move, [.tmp 7], none, true, 0, 0⟩, ⟨some 9, .load none, [.tmp 3], some (8, false), true, 0, 0⟩, ⟨some 10, .bin .gtr, [.tmp 9, .val (.int .i64 1000000)], some (8, false), true, 0, 0⟩, ⟨some 11, .pick, [.tmp 8, .val (.bool true), .tmp 10], none, true, 0, 0⟩])]
def F18o1 : IC := .ops F18p1
def F18p2 : OPS := [(.seq, [⟨some 12, .build [.int .i64 0, .int .i64 0, .int .i64 0, .int .i64 0, .int .i64 0, .int .i64 0, .int .i64 0, .int .i64 0, .int .i64 0, .int .i64 0, .int .i64 0, .int .i64 0, .int .i64 0, .int .i64 0, .int .i64 0, .int .i64 0, .int .i64 0, .int .i64 0, .int .i64 0, .int .i64 0] [], [], none, true, 0, 0⟩, ⟨none, .store 20, [.tmp 4, .tmp 12], none, true, 0, 0⟩, ⟨some 5, .move, [.val (.int .i64 1)], none, true, 0, 0⟩])]
def F18o2 : IC := .ops F18p2
def F18p3 : OPS := [(.seq, [⟨some 13, .load (some 20), [.tmp 2], none, true, 0, 0⟩, ⟨some 14, .build [.int .i64 0, .int .i64 0, .int .i64 0, .int .i64 0, .int .i64 0, .int .i64 0, .int .i64 0, .int .i64 0, .int .i64 0, .int .i64 0, .int .i64 0, .int .i64 0, .int .i64 0, .int .i64 0, .int .i64 0, .int .i64 0, .int .i64 0, .int .i64 0, .int .i64 0, .int .i64 0] [], [], none, true, 0, 0⟩, ⟨some 15, .mkfn 40 0, [.tmp 3], none, true, 0, 0⟩, ⟨some 16, .call, [.val (.fn 37 [] []), .tmp 13, .tmp 14, .tmp 15], none, true, 0, 0⟩, ⟨none, .store 20, [.tmp 4, .tmp 16], none, true, 0, 0⟩, ⟨some 5, .move, [.val (.int .i64 0)], none, true, 0, 0⟩])]
def F18o3 : IC := .ops F18p3
def F18b : IC := .seq (F18o0) (.seq (.seq (F18o1) (.cond (.tmp 11) (.seq (F18o2) (.ret)) (.skip))) (.seq (F18o3) (.ret)))
def F18 : IFn := ⟨17, [(4, some (some 20)), (5, none)], F18b⟩
/- 35: gansey/ganseylaw38.lives$1 -/
noncomputable def F35 : IFn := (compF Go.Proofs.Tryz.prog 35).getD ⟨0, [], .skip⟩
/- 36: gansey/costs.Of -/
noncomputable def F36 : IFn := (compF Go.Proofs.Tryz.prog 36).getD ⟨0, [], .skip⟩
/- 37: gansey/costs.join -/
def F37p0 : OPS := [(.seq, [⟨some 3, .box 44 20, [.tmp 0], none, true, 0, 0⟩, ⟨some 4, .box 44 20, [.tmp 1], none, true, 0, 0⟩, ⟨some 6, .alloc 44 20 [.int .i64 0, .int .i64 0, .int .i64 0, .int .i64 0, .int .i64 0, .int .i64 0, .int .i64 0, .int .i64 0, .int .i64 0, .int .i64 0, .int .i64 0, .int .i64 0, .int .i64 0, .int .i64 0, .int .i64 0, .int .i64 0, .int .i64 0, .int .i64 0, .int .i64 0, .int .i64 0], [], none, true, 0, 0⟩])]
def F37o0 : IC := .ops F37p0
def F37p1 : OPS := [(.free, [⟨some 11, .move, [.tmp 2], none, false, 0, 0⟩, ⟨some 12, .fieldAddr 18, [.tmp 3], none, false, 1, 0⟩, ⟨some 13, .load none, [.tmp 12], none, false, 2, 2⟩, ⟨some 14, .fieldAddr 18, [.tmp 4], none, false, 3, 0⟩, ⟨some 15, .load none, [.tmp 14], none, false, 4, 8⟩, ⟨some 16, .call, [.tmp 11, .tmp 13, .tmp 15], none, false, 5, 31⟩, ⟨some 17, .move, [.tmp 2], none, false, 6, 0⟩, ⟨some 18, .fieldAddr 19, [.tmp 3], none, false, 7, 0⟩, ⟨some 19, .load none, [.tmp 18], none, false, 8, 128⟩, ⟨some 20, .fieldAddr 19, [.tmp 4], none, false, 9, 0⟩, ⟨some 21, .load none, [.tmp 20], none, false, 10, 512⟩, ⟨some 22, .call, [.tmp 17, .tmp 19, .tmp 21], none, false, 11, 2047⟩, ⟨some 23, .build [.int .i64 0, .int .i64 0, .int .i64 0, .int .i64 0, .int .i64 0, .int .i64 0, .int .i64 0, .int .i64 0, .int .i64 0, .int .i64 0, .int .i64 0, .int .i64 0, .int .i64 0, .int .i64 0, .int .i64 0, .int .i64 0, .int .i64 0, .int .i64 0, .int .i64 0, .int .i64 0] [(18, 1), (19, 1)], [.tmp 16, .tmp 22], none, false, 12, 4095⟩, ⟨some 7, .alloc 44 20 [.int .i64 0, .int .i64 0, .int .i64 0, .int .i64 0, .int .i64 0, .int .i64 0, .int .i64 0, .int .i64 0, .int .i64 0, .int .i64 0, .int .i64 0, .int .i64 0, .int .i64 0, .int .i64 0, .int .i64 0, .int .i64 0, .int .i64 0, .int .i64 0, .int .i64 0, .int .i64 0], [], none, false, 13, 0⟩]), (.seq, [⟨none, .store 20, [.tmp 7, .tmp 23], none, true, 14, 16383⟩])]
def F37o1 : IC := .ops F37p1
def F37p2 : OPS := [(.seq, [⟨some 24, .move, [.val (.int .i64 0)], none, true, 0, 0⟩])]
def F37o2 : IC := .ops F37p2
def F37p3 : OPS := [(.seq, [⟨some 25, .bin .lss, [.tmp 24, .val (.int .i64 6)], none, true, 0, 0⟩])]
def F37o3 : IC := .ops F37p3
def F37p4 : OPS := [(.seq, [⟨some 26, .move, [.tmp 24], none, true, 0, 0⟩, ⟨some 8, .move, [.tmp 26], none, true, 0, 0⟩])]
def F37o4 : IC := .ops F37p4
def F37p5 : OPS := [(.free, [⟨some 27, .move, [.tmp 8], none, false, 0, 0⟩, ⟨some 28, .fieldAddr 0, [.tmp 3], none, false, 1, 0⟩, ⟨some 29, .idxArrAddr 6 3, [.tmp 28, .tmp 27], none, false, 2, 3⟩, ⟨some 30, .load (some 3), [.tmp 29], none, false, 3, 7⟩, ⟨some 31, .move, [.tmp 8], none, false, 4, 0⟩, ⟨some 32, .fieldAddr 0, [.tmp 4], none, false, 5, 0⟩, ⟨some 33, .idxArrAddr 6 3, [.tmp 32, .tmp 31], none, false, 6, 48⟩, ⟨some 34, .load (some 3), [.tmp 33], none, false, 7, 112⟩, ⟨some 9, .alloc 40 3 [.int .i64 0, .int .i64 0, .int .i64 0], [], none, false, 8, 0⟩, ⟨some 10, .alloc 40 3 [.int .i64 0, .int .i64 0, .int .i64 0], [], none, false, 9, 0⟩, ⟨none, .store 3, [.tmp 9, .tmp 30], none, true, 10, 783⟩]), (.seq, [⟨none, .store 3, [.tmp 10, .tmp 34], none, true, 11, 2047⟩])]
def F37o5 : IC := .ops F37p5
def F37p6 : OPS := [(.free, [⟨some 35, .move, [.tmp 8], none, false, 0, 0⟩, ⟨some 36, .move, [.tmp 2], none, false, 1, 0⟩, ⟨some 37, .fieldAddr 0, [.tmp 9], none, false, 2, 0⟩, ⟨some 38, .load none, [.tmp 37], none, false, 3, 4⟩, ⟨some 39, .fieldAddr 0, [.tmp 10], none, false, 4, 0⟩, ⟨some 40, .load none, [.tmp 39], none, false, 5, 16⟩, ⟨some 41, .call, [.tmp 36, .tmp 38, .tmp 40], none, false, 6, 62⟩, ⟨some 42, .move, [.tmp 2], none, false, 7, 0⟩, ⟨some 43, .fieldAddr 1, [.tmp 9], none, false, 8, 0⟩, ⟨some 44, .load none, [.tmp 43], none, false, 9, 256⟩, ⟨some 45, .fieldAddr 1, [.tmp 10], none, false, 10, 0⟩, ⟨some 46, .load none, [.tmp 45], none, false, 11, 1024⟩, ⟨some 47, .call, [.tmp 42, .tmp 44, .tmp 46], none, false, 12, 4094⟩, ⟨some 48, .move, [.tmp 2], none, false, 13, 0⟩, ⟨some 49, .fieldAddr 2, [.tmp 9], none, false, 14, 0⟩, ⟨some 50, .load none, [.tmp 49], none, false, 15, 16384⟩, ⟨some 51, .fieldAddr 2, [.tmp 10], none, false, 16, 0⟩, ⟨some 52, .load none, [.tmp 51], none, false, 17, 65536⟩, ⟨some 53, .call, [.tmp 48, .tmp 50, .tmp 52], none, true, 18, 262142⟩, ⟨some 54, .build [.int .i64 0, .int .i64 0, .int .i64 0] [(0, 1), (1, 1), (2, 1)], [.tmp 41, .tmp 47, .tmp 53], none, true, 19, 524286⟩, ⟨some 55, .fieldAddr 0, [.tmp 7], none, false, 20, 0⟩]), (.seq, [⟨some 56, .idxArrAddr 6 3, [.tmp 55, .tmp 35], none, true, 21, 2097151⟩]), (.seq, [⟨none, .store 3, [.tmp 56, .tmp 54], none, true, 22, 4194303⟩])]
def F37o6 : IC := .ops F37p6
def F37p7 : OPS := [(.seq, [⟨some 57, .bin .add, [.tmp 24, .val (.int .i64 1)], none, true, 0, 0⟩, ⟨some 24, .move, [.tmp 57], none, true, 0, 0⟩])]
def F37o7 : IC := .ops F37p7
def F37l8 : IC := .seq (F37o3) (.seq (.cond (.tmp 25) (.skip) (.exit 0)) (.seq (.block 1 (.seq (F37o4) (.seq (F37o5) (F37o6)))) (F37o7)))
def F37p9 : OPS := [(.seq, [⟨some 58, .load (some 20), [.tmp 7], none, true, 0, 0⟩, ⟨none, .store 20, [.tmp 6, .tmp 58], none, true, 0, 0⟩])]
def F37o9 : IC := .ops F37p9
def F37b : IC := .seq (F37o0) (.seq (F37o1) (.seq (.seq (F37o2) (.block 0 (.loop F37l8))) (.seq (F37o9) (.ret))))
def F37 : IFn := ⟨59, [(6, some (some 20))], F37b⟩
/- 38: gansey/costs.Add$1 -/
def F38p0 : OPS := [(.seq, [⟨some 4, .move, [.val (.int .i64 0)], none, true, 0, 0⟩])]
def F38o0 : IC := .ops F38p0
def F38p1 : OPS := [(.seq, [⟨some 5, .move, [.tmp 0], none, true, 0, 0⟩, ⟨some 6, .call, [.val (.fn 39 [] []), .tmp 5, .val (.int .i64 1000000)], none, true, 0, 0⟩, ⟨some 7, .move, [.tmp 1], none, true, 0, 0⟩, ⟨some 8, .call, [.val (.fn 39 [] []), .tmp 7, .val (.int .i64 1000000)], none, true, 0, 0⟩, ⟨some 9, .bin .add, [.tmp 6, .tmp 8], none, true, 0, 0⟩, ⟨some 10, .call, [.val (.fn 39 [] []), .tmp 9, .val (.int .i64 1000000)], none, true, 0, 0⟩, ⟨some 4, .move, [.tmp 10], none, true, 0, 0⟩])]
def F38o1 : IC := .ops F38p1
def F38b : IC := .seq (F38o0) (.seq (F38o1) (.ret))
def F38 : IFn := ⟨11, [(4, none)], F38b⟩
/- 39: gansey/costs.clip[int] -/
def F39p0 : OPS := [(.seq, [⟨some 4, .move, [.val (.int .i64 0)], none, true, 0, 0⟩])]
def F39o0 : IC := .ops F39p0
def F39p1 : OPS := [(.seq, [⟨some 5, .move, [.tmp 0], none, true, 0, 0⟩, ⟨some 6, .max, [.tmp 5, .val (.int .i64 0)], none, true, 0, 0⟩, ⟨some 7, .move, [.tmp 1], none, true, 0, 0⟩, ⟨some 8, .min, [.tmp 6, .tmp 7], none, true, 0, 0⟩, ⟨some 4, .move, [.tmp 8], none, true, 0, 0⟩])]
def F39o1 : IC := .ops F39p1
def F39b : IC := .seq (F39o0) (.seq (F39o1) (.ret))
def F39 : IFn := ⟨9, [(4, none)], F39b⟩
/- 40: gansey/costs.Times$1 -/
def F40p0 : OPS := [(.seq, [⟨some 5, .move, [.val (.int .i64 0)], none, true, 0, 0⟩])]
def F40o0 : IC := .ops F40p0
def F40p1 : OPS := [(.free, [⟨some 6, .move, [.tmp 0], none, false, 0, 0⟩, ⟨some 7, .call, [.val (.fn 39 [] []), .tmp 6, .val (.int .i64 1000000)], none, false, 1, 1⟩, ⟨some 8, .load none, [.tmp 2], none, false, 2, 0⟩]), (.seq, [⟨some 9, .bin .mul, [.tmp 7, .tmp 8], none, true, 3, 7⟩]), (.seq, [⟨some 10, .call, [.val (.fn 39 [] []), .tmp 9, .val (.int .i64 1000000)], none, true, 4, 15⟩]), (.seq, [⟨some 5, .move, [.tmp 10], none, true, 5, 31⟩])]
def F40o1 : IC := .ops F40p1
def F40b : IC := .seq (F40o0) (.seq (F40o1) (.ret))
def F40 : IFn := ⟨11, [(5, none)], F40b⟩
/- 55: gansey/machines.Run -/
noncomputable def F55 : IFn := (compF Go.Proofs.Tryz.prog 55).getD ⟨0, [], .skip⟩
/- 56: gansey/machines.Start -/
noncomputable def F56 : IFn := (compF Go.Proofs.Tryz.prog 56).getD ⟨0, [], .skip⟩
/- 65: gansey/passes.Count -/
noncomputable def F65 : IFn := (compF Go.Proofs.Tryz.prog 65).getD ⟨0, [], .skip⟩
/- 66: gansey/passes.Time -/
noncomputable def F66 : IFn := (compF Go.Proofs.Tryz.prog 66).getD ⟨0, [], .skip⟩
/- 67: gansey/needles.Spot -/
noncomputable def F67 : IFn := (compF Go.Proofs.Tryz.prog 67).getD ⟨0, [], .skip⟩
/- 69: slices.Equal[[]gansey/api.Id,gansey/api.Id] -/
noncomputable def F69 : IFn := (compF Go.Proofs.Tryz.prog 69).getD ⟨0, [], .skip⟩
/- 78: gansey/machines.Check -/
noncomputable def F78 : IFn := (compF Go.Proofs.Tryz.prog 78).getD ⟨0, [], .skip⟩
/- 79: gansey/machines.open -/
noncomputable def F79 : IFn := (compF Go.Proofs.Tryz.prog 79).getD ⟨0, [], .skip⟩
/- 80: gansey/machines.actions -/
noncomputable def F80 : IFn := (compF Go.Proofs.Tryz.prog 80).getD ⟨0, [], .skip⟩
/- 81: (*gansey/machines.machine).do -/
noncomputable def F81 : IFn := (compF Go.Proofs.Tryz.prog 81).getD ⟨0, [], .skip⟩
/- 82: (*gansey/machines.machine).state -/
noncomputable def F82 : IFn := (compF Go.Proofs.Tryz.prog 82).getD ⟨0, [], .skip⟩
/- 83: gansey/fabrics.Empty -/
noncomputable def F83 : IFn := (compF Go.Proofs.Tryz.prog 83).getD ⟨0, [], .skip⟩
/- 85: gansey/passes.valid -/
noncomputable def F85 : IFn := (compF Go.Proofs.Tryz.prog 85).getD ⟨0, [], .skip⟩
/- 86: gansey/passes.divide -/
noncomputable def F86 : IFn := (compF Go.Proofs.Tryz.prog 86).getD ⟨0, [], .skip⟩
/- 87: gansey/passes.classOf -/
noncomputable def F87 : IFn := (compF Go.Proofs.Tryz.prog 87).getD ⟨0, [], .skip⟩
/- 88: gansey/needles.Check -/
noncomputable def F88 : IFn := (compF Go.Proofs.Tryz.prog 88).getD ⟨0, [], .skip⟩
/- 89: gansey/needles.racked -/
noncomputable def F89 : IFn := (compF Go.Proofs.Tryz.prog 89).getD ⟨0, [], .skip⟩
/- 90: gansey/stacks.Check -/
noncomputable def F90 : IFn := (compF Go.Proofs.Tryz.prog 90).getD ⟨0, [], .skip⟩
/- 91: gansey/yarns.Check -/
noncomputable def F91 : IFn := (compF Go.Proofs.Tryz.prog 91).getD ⟨0, [], .skip⟩
/- 92: gansey/fabrics.Check -/
noncomputable def F92 : IFn := (compF Go.Proofs.Tryz.prog 92).getD ⟨0, [], .skip⟩
/- 93: gansey/machines.held -/
noncomputable def F93 : IFn := (compF Go.Proofs.Tryz.prog 93).getD ⟨0, [], .skip⟩
/- 94: gansey/machines.copyBed -/
noncomputable def F94 : IFn := (compF Go.Proofs.Tryz.prog 94).getD ⟨0, [], .skip⟩
/- 95: gansey/machines.copyYarns -/
noncomputable def F95 : IFn := (compF Go.Proofs.Tryz.prog 95).getD ⟨0, [], .skip⟩
/- 96: gansey/machines.copyTable -/
noncomputable def F96 : IFn := (compF Go.Proofs.Tryz.prog 96).getD ⟨0, [], .skip⟩
/- 97: gansey/machines.copied[gansey/api.Id] -/
noncomputable def F97 : IFn := (compF Go.Proofs.Tryz.prog 97).getD ⟨0, [], .skip⟩
/- 98: (*gansey/machines.machine).in -/
noncomputable def F98 : IFn := (compF Go.Proofs.Tryz.prog 98).getD ⟨0, [], .skip⟩
/- 99: (*gansey/machines.machine).out -/
noncomputable def F99 : IFn := (compF Go.Proofs.Tryz.prog 99).getD ⟨0, [], .skip⟩
/- 100: (*gansey/machines.machine).moveTo -/
noncomputable def F100 : IFn := (compF Go.Proofs.Tryz.prog 100).getD ⟨0, [], .skip⟩
/- 101: (*gansey/machines.machine).knit -/
noncomputable def F101 : IFn := (compF Go.Proofs.Tryz.prog 101).getD ⟨0, [], .skip⟩
/- 102: (*gansey/machines.machine).tuck -/
noncomputable def F102 : IFn := (compF Go.Proofs.Tryz.prog 102).getD ⟨0, [], .skip⟩
/- 103: (*gansey/machines.machine).miss -/
noncomputable def F103 : IFn := (compF Go.Proofs.Tryz.prog 103).getD ⟨0, [], .skip⟩
/- 104: (*gansey/machines.machine).xfer -/
noncomputable def F104 : IFn := (compF Go.Proofs.Tryz.prog 104).getD ⟨0, [], .skip⟩
/- 105: (*gansey/machines.machine).drop -/
noncomputable def F105 : IFn := (compF Go.Proofs.Tryz.prog 105).getD ⟨0, [], .skip⟩
/- 106: gansey/operations.Check -/
noncomputable def F106 : IFn := (compF Go.Proofs.Tryz.prog 106).getD ⟨0, [], .skip⟩
/- 107: slices.SortFunc[[]gansey/fabrics.Crossing,gansey/fabrics.Crossing] -/
noncomputable def F107 : IFn := (compF Go.Proofs.Tryz.prog 107).getD ⟨0, [], .skip⟩
/- 108: (*gansey/machines.machine).state$1 -/
noncomputable def F108 : IFn := (compF Go.Proofs.Tryz.prog 108).getD ⟨0, [], .skip⟩
/- 109: gansey/fabrics.Compare -/
noncomputable def F109 : IFn := (compF Go.Proofs.Tryz.prog 109).getD ⟨0, [], .skip⟩
/- 110: gansey/machines.copied[gansey/loops.Loop] -/
noncomputable def F110 : IFn := (compF Go.Proofs.Tryz.prog 110).getD ⟨0, [], .skip⟩
/- 111: slices.SortFunc[[]gansey/api.Id,gansey/api.Id] -/
noncomputable def F111 : IFn := (compF Go.Proofs.Tryz.prog 111).getD ⟨0, [], .skip⟩
/- 112: gansey/machines.copied[gansey/fabrics.Crossing] -/
noncomputable def F112 : IFn := (compF Go.Proofs.Tryz.prog 112).getD ⟨0, [], .skip⟩
/- 113: gansey/loops.Empty -/
noncomputable def F113 : IFn := (compF Go.Proofs.Tryz.prog 113).getD ⟨0, [], .skip⟩
/- 114: gansey/passes.divide$1 -/
noncomputable def F114 : IFn := (compF Go.Proofs.Tryz.prog 114).getD ⟨0, [], .skip⟩
/- 115: gansey/passes.follows -/
noncomputable def F115 : IFn := (compF Go.Proofs.Tryz.prog 115).getD ⟨0, [], .skip⟩
/- 116: gansey/stacks.beds -/
noncomputable def F116 : IFn := (compF Go.Proofs.Tryz.prog 116).getD ⟨0, [], .skip⟩
/- 117: gansey/yarns.Named -/
noncomputable def F117 : IFn := (compF Go.Proofs.Tryz.prog 117).getD ⟨0, [], .skip⟩
/- 118: gansey/stacks.Count -/
noncomputable def F118 : IFn := (compF Go.Proofs.Tryz.prog 118).getD ⟨0, [], .skip⟩
/- 119: gansey/yarns.isPlace -/
noncomputable def F119 : IFn := (compF Go.Proofs.Tryz.prog 119).getD ⟨0, [], .skip⟩
/- 120: gansey/yarns.valid -/
noncomputable def F120 : IFn := (compF Go.Proofs.Tryz.prog 120).getD ⟨0, [], .skip⟩
/- 121: gansey/yarns.cancel -/
noncomputable def F121 : IFn := (compF Go.Proofs.Tryz.prog 121).getD ⟨0, [], .skip⟩
/- 122: gansey/loops.Check -/
noncomputable def F122 : IFn := (compF Go.Proofs.Tryz.prog 122).getD ⟨0, [], .skip⟩
/- 123: gansey/fabrics.checkCrossings -/
noncomputable def F123 : IFn := (compF Go.Proofs.Tryz.prog 123).getD ⟨0, [], .skip⟩
/- 124: gansey/fabrics.checkPlaces -/
noncomputable def F124 : IFn := (compF Go.Proofs.Tryz.prog 124).getD ⟨0, [], .skip⟩
/- 125: gansey/orders.List -/
noncomputable def F125 : IFn := (compF Go.Proofs.Tryz.prog 125).getD ⟨0, [], .skip⟩
/- 126: gansey/machines.copied[gansey/yarns.Yarn] -/
noncomputable def F126 : IFn := (compF Go.Proofs.Tryz.prog 126).getD ⟨0, [], .skip⟩
/- 127: gansey/machines.copied[gansey/yarns.Pass] -/
noncomputable def F127 : IFn := (compF Go.Proofs.Tryz.prog 127).getD ⟨0, [], .skip⟩
/- 128: gansey/yarns.Enter -/
noncomputable def F128 : IFn := (compF Go.Proofs.Tryz.prog 128).getD ⟨0, [], .skip⟩
/- 129: gansey/yarns.Leave -/
noncomputable def F129 : IFn := (compF Go.Proofs.Tryz.prog 129).getD ⟨0, [], .skip⟩
/- 130: (*gansey/machines.machine).step -/
noncomputable def F130 : IFn := (compF Go.Proofs.Tryz.prog 130).getD ⟨0, [], .skip⟩
/- 131: (*gansey/machines.machine).behind -/
noncomputable def F131 : IFn := (compF Go.Proofs.Tryz.prog 131).getD ⟨0, [], .skip⟩
/- 132: (*gansey/machines.machine).carry -/
noncomputable def F132 : IFn := (compF Go.Proofs.Tryz.prog 132).getD ⟨0, [], .skip⟩
/- 133: (*gansey/machines.machine).make -/
noncomputable def F133 : IFn := (compF Go.Proofs.Tryz.prog 133).getD ⟨0, [], .skip⟩
/- 134: gansey/stacks.At -/
noncomputable def F134 : IFn := (compF Go.Proofs.Tryz.prog 134).getD ⟨0, [], .skip⟩
/- 135: gansey/needles.Opposite -/
noncomputable def F135 : IFn := (compF Go.Proofs.Tryz.prog 135).getD ⟨0, [], .skip⟩
/- 136: gansey/stacks.Join -/
noncomputable def F136 : IFn := (compF Go.Proofs.Tryz.prog 136).getD ⟨0, [], .skip⟩
/- 137: gansey/stacks.Set -/
noncomputable def F137 : IFn := (compF Go.Proofs.Tryz.prog 137).getD ⟨0, [], .skip⟩
/- 138: gansey/operations.plain -/
noncomputable def F138 : IFn := (compF Go.Proofs.Tryz.prog 138).getD ⟨0, [], .skip⟩
/- 139: slices.pdqsortCmpFunc[gansey/fabrics.Crossing] -/
noncomputable def F139 : IFn := (compF Go.Proofs.Tryz.prog 139).getD ⟨0, [], .skip⟩
/- 140: math/bits.Len -/
noncomputable def F140 : IFn := (compF Go.Proofs.Tryz.prog 140).getD ⟨0, [], .skip⟩
/- 141: cmp.Or[int] -/
noncomputable def F141 : IFn := (compF Go.Proofs.Tryz.prog 141).getD ⟨0, [], .skip⟩
/- 142: cmp.Compare[uint8] -/
noncomputable def F142 : IFn := (compF Go.Proofs.Tryz.prog 142).getD ⟨0, [], .skip⟩
/- 143: cmp.Compare[int] -/
noncomputable def F143 : IFn := (compF Go.Proofs.Tryz.prog 143).getD ⟨0, [], .skip⟩
/- 144: slices.pdqsortCmpFunc[gansey/api.Id] -/
noncomputable def F144 : IFn := (compF Go.Proofs.Tryz.prog 144).getD ⟨0, [], .skip⟩
/- 145: gansey/stacks.beds$1 -/
noncomputable def F145 : IFn := (compF Go.Proofs.Tryz.prog 145).getD ⟨0, [], .skip⟩
/- 146: gansey/stacks.needled -/
noncomputable def F146 : IFn := (compF Go.Proofs.Tryz.prog 146).getD ⟨0, [], .skip⟩
/- 147: gansey/yarns.sided -/
noncomputable def F147 : IFn := (compF Go.Proofs.Tryz.prog 147).getD ⟨0, [], .skip⟩
/- 148: gansey/loops.check -/
noncomputable def F148 : IFn := (compF Go.Proofs.Tryz.prog 148).getD ⟨0, [], .skip⟩
/- 149: gansey/fabrics.has -/
noncomputable def F149 : IFn := (compF Go.Proofs.Tryz.prog 149).getD ⟨0, [], .skip⟩
/- 150: gansey/fabrics.comparePairs -/
noncomputable def F150 : IFn := (compF Go.Proofs.Tryz.prog 150).getD ⟨0, [], .skip⟩
/- 151: gansey/fabrics.checkPlaces$1 -/
noncomputable def F151 : IFn := (compF Go.Proofs.Tryz.prog 151).getD ⟨0, [], .skip⟩
/- 152: gansey/orders.check -/
noncomputable def F152 : IFn := (compF Go.Proofs.Tryz.prog 152).getD ⟨0, [], .skip⟩
/- 153: gansey/orders.List$1 -/
noncomputable def F153 : IFn := (compF Go.Proofs.Tryz.prog 153).getD ⟨0, [], .skip⟩
/- 154: slices.SortStableFunc[[]gansey/orders.Held,gansey/orders.Held] -/
noncomputable def F154 : IFn := (compF Go.Proofs.Tryz.prog 154).getD ⟨0, [], .skip⟩
/- 155: gansey/orders.List$2 -/
noncomputable def F155 : IFn := (compF Go.Proofs.Tryz.prog 155).getD ⟨0, [], .skip⟩
/- 156: gansey/orders.copied[gansey/orders.Held] -/
noncomputable def F156 : IFn := (compF Go.Proofs.Tryz.prog 156).getD ⟨0, [], .skip⟩
/- 157: gansey/orders.Meets -/
noncomputable def F157 : IFn := (compF Go.Proofs.Tryz.prog 157).getD ⟨0, [], .skip⟩
/- 158: gansey/yarns.Go -/
noncomputable def F158 : IFn := (compF Go.Proofs.Tryz.prog 158).getD ⟨0, [], .skip⟩
/- 159: gansey/orders.Step -/
noncomputable def F159 : IFn := (compF Go.Proofs.Tryz.prog 159).getD ⟨0, [], .skip⟩
/- 160: (*gansey/machines.machine).add -/
noncomputable def F160 : IFn := (compF Go.Proofs.Tryz.prog 160).getD ⟨0, [], .skip⟩
/- 161: gansey/orders.Between -/
noncomputable def F161 : IFn := (compF Go.Proofs.Tryz.prog 161).getD ⟨0, [], .skip⟩
/- 162: gansey/yarns.Make -/
noncomputable def F162 : IFn := (compF Go.Proofs.Tryz.prog 162).getD ⟨0, [], .skip⟩
/- 163: gansey/loops.Count -/
noncomputable def F163 : IFn := (compF Go.Proofs.Tryz.prog 163).getD ⟨0, [], .skip⟩
/- 164: gansey/stacks.copied[gansey/api.Id] -/
noncomputable def F164 : IFn := (compF Go.Proofs.Tryz.prog 164).getD ⟨0, [], .skip⟩
/- 165: gansey/stacks.placed -/
noncomputable def F165 : IFn := (compF Go.Proofs.Tryz.prog 165).getD ⟨0, [], .skip⟩
/- 166: gansey/operations.uses -/
noncomputable def F166 : IFn := (compF Go.Proofs.Tryz.prog 166).getD ⟨0, [], .skip⟩
/- 167: slices.insertionSortCmpFunc[gansey/fabrics.Crossing] -/
noncomputable def F167 : IFn := (compF Go.Proofs.Tryz.prog 167).getD ⟨0, [], .skip⟩
/- 168: slices.heapSortCmpFunc[gansey/fabrics.Crossing] -/
noncomputable def F168 : IFn := (compF Go.Proofs.Tryz.prog 168).getD ⟨0, [], .skip⟩
/- 169: slices.breakPatternsCmpFunc[gansey/fabrics.Crossing] -/
noncomputable def F169 : IFn := (compF Go.Proofs.Tryz.prog 169).getD ⟨0, [], .skip⟩
/- 170: slices.choosePivotCmpFunc[gansey/fabrics.Crossing] -/
noncomputable def F170 : IFn := (compF Go.Proofs.Tryz.prog 170).getD ⟨0, [], .skip⟩
/- 171: slices.reverseRangeCmpFunc[gansey/fabrics.Crossing] -/
noncomputable def F171 : IFn := (compF Go.Proofs.Tryz.prog 171).getD ⟨0, [], .skip⟩
/- 172: slices.partialInsertionSortCmpFunc[gansey/fabrics.Crossing] -/
noncomputable def F172 : IFn := (compF Go.Proofs.Tryz.prog 172).getD ⟨0, [], .skip⟩
/- 173: slices.partitionEqualCmpFunc[gansey/fabrics.Crossing] -/
noncomputable def F173 : IFn := (compF Go.Proofs.Tryz.prog 173).getD ⟨0, [], .skip⟩
/- 174: slices.partitionCmpFunc[gansey/fabrics.Crossing] -/
noncomputable def F174 : IFn := (compF Go.Proofs.Tryz.prog 174).getD ⟨0, [], .skip⟩
/- 175: math/bits.Len32 -/
noncomputable def F175 : IFn := (compF Go.Proofs.Tryz.prog 175).getD ⟨0, [], .skip⟩
/- 176: math/bits.Len64 -/
noncomputable def F176 : IFn := (compF Go.Proofs.Tryz.prog 176).getD ⟨0, [], .skip⟩
/- 177: cmp.isNaN[uint8] -/
noncomputable def F177 : IFn := (compF Go.Proofs.Tryz.prog 177).getD ⟨0, [], .skip⟩
/- 178: cmp.isNaN[int] -/
noncomputable def F178 : IFn := (compF Go.Proofs.Tryz.prog 178).getD ⟨0, [], .skip⟩
/- 179: slices.insertionSortCmpFunc[gansey/api.Id] -/
noncomputable def F179 : IFn := (compF Go.Proofs.Tryz.prog 179).getD ⟨0, [], .skip⟩
/- 180: slices.heapSortCmpFunc[gansey/api.Id] -/
noncomputable def F180 : IFn := (compF Go.Proofs.Tryz.prog 180).getD ⟨0, [], .skip⟩
/- 181: slices.breakPatternsCmpFunc[gansey/api.Id] -/
noncomputable def F181 : IFn := (compF Go.Proofs.Tryz.prog 181).getD ⟨0, [], .skip⟩
/- 182: slices.choosePivotCmpFunc[gansey/api.Id] -/
noncomputable def F182 : IFn := (compF Go.Proofs.Tryz.prog 182).getD ⟨0, [], .skip⟩
/- 183: slices.reverseRangeCmpFunc[gansey/api.Id] -/
noncomputable def F183 : IFn := (compF Go.Proofs.Tryz.prog 183).getD ⟨0, [], .skip⟩
/- 184: slices.partialInsertionSortCmpFunc[gansey/api.Id] -/
noncomputable def F184 : IFn := (compF Go.Proofs.Tryz.prog 184).getD ⟨0, [], .skip⟩
/- 185: slices.partitionEqualCmpFunc[gansey/api.Id] -/
noncomputable def F185 : IFn := (compF Go.Proofs.Tryz.prog 185).getD ⟨0, [], .skip⟩
/- 186: slices.partitionCmpFunc[gansey/api.Id] -/
noncomputable def F186 : IFn := (compF Go.Proofs.Tryz.prog 186).getD ⟨0, [], .skip⟩
/- 187: gansey/stacks.needled$1 -/
noncomputable def F187 : IFn := (compF Go.Proofs.Tryz.prog 187).getD ⟨0, [], .skip⟩
/- 188: gansey/loops.checkLoops -/
noncomputable def F188 : IFn := (compF Go.Proofs.Tryz.prog 188).getD ⟨0, [], .skip⟩
/- 189: gansey/loops.checkThrough -/
noncomputable def F189 : IFn := (compF Go.Proofs.Tryz.prog 189).getD ⟨0, [], .skip⟩
/- 190: gansey/loops.first -/
noncomputable def F190 : IFn := (compF Go.Proofs.Tryz.prog 190).getD ⟨0, [], .skip⟩
/- 191: gansey/loops.copied[gansey/api.Id] -/
noncomputable def F191 : IFn := (compF Go.Proofs.Tryz.prog 191).getD ⟨0, [], .skip⟩
/- 192: gansey/orders.racked -/
noncomputable def F192 : IFn := (compF Go.Proofs.Tryz.prog 192).getD ⟨0, [], .skip⟩
/- 193: slices.stableCmpFunc[gansey/orders.Held] -/
noncomputable def F193 : IFn := (compF Go.Proofs.Tryz.prog 193).getD ⟨0, [], .skip⟩
/- 194: gansey/orders.checkStep -/
noncomputable def F194 : IFn := (compF Go.Proofs.Tryz.prog 194).getD ⟨0, [], .skip⟩
/- 195: slices.Reverse[[]gansey/yarns.Pass,gansey/yarns.Pass] -/
noncomputable def F195 : IFn := (compF Go.Proofs.Tryz.prog 195).getD ⟨0, [], .skip⟩
/- 196: gansey/orders.copied[gansey/yarns.Pass] -/
noncomputable def F196 : IFn := (compF Go.Proofs.Tryz.prog 196).getD ⟨0, [], .skip⟩
/- 197: gansey/yarns.push -/
noncomputable def F197 : IFn := (compF Go.Proofs.Tryz.prog 197).getD ⟨0, [], .skip⟩
/- 198: gansey/yarns.copied -/
noncomputable def F198 : IFn := (compF Go.Proofs.Tryz.prog 198).getD ⟨0, [], .skip⟩
/- 199: slices.Reverse[[]gansey/api.Id,gansey/api.Id] -/
noncomputable def F199 : IFn := (compF Go.Proofs.Tryz.prog 199).getD ⟨0, [], .skip⟩
/- 200: slices.Reverse[[]gansey/orders.Cross,gansey/orders.Cross] -/
noncomputable def F200 : IFn := (compF Go.Proofs.Tryz.prog 200).getD ⟨0, [], .skip⟩
/- 201: gansey/orders.copied[gansey/orders.Cross] -/
noncomputable def F201 : IFn := (compF Go.Proofs.Tryz.prog 201).getD ⟨0, [], .skip⟩
/- 202: gansey/stacks.put -/
noncomputable def F202 : IFn := (compF Go.Proofs.Tryz.prog 202).getD ⟨0, [], .skip⟩
/- 203: slices.siftDownCmpFunc[gansey/fabrics.Crossing] -/
noncomputable def F203 : IFn := (compF Go.Proofs.Tryz.prog 203).getD ⟨0, [], .skip⟩
/- 204: slices.nextPowerOfTwo -/
noncomputable def F204 : IFn := (compF Go.Proofs.Tryz.prog 204).getD ⟨0, [], .skip⟩
/- 205: (*slices.xorshift).Next -/
noncomputable def F205 : IFn := (compF Go.Proofs.Tryz.prog 205).getD ⟨0, [], .skip⟩
/- 206: slices.medianAdjacentCmpFunc[gansey/fabrics.Crossing] -/
noncomputable def F206 : IFn := (compF Go.Proofs.Tryz.prog 206).getD ⟨0, [], .skip⟩
/- 207: slices.medianCmpFunc[gansey/fabrics.Crossing] -/
noncomputable def F207 : IFn := (compF Go.Proofs.Tryz.prog 207).getD ⟨0, [], .skip⟩
/- 208: slices.siftDownCmpFunc[gansey/api.Id] -/
noncomputable def F208 : IFn := (compF Go.Proofs.Tryz.prog 208).getD ⟨0, [], .skip⟩
/- 209: slices.medianAdjacentCmpFunc[gansey/api.Id] -/
noncomputable def F209 : IFn := (compF Go.Proofs.Tryz.prog 209).getD ⟨0, [], .skip⟩
/- 210: slices.medianCmpFunc[gansey/api.Id] -/
noncomputable def F210 : IFn := (compF Go.Proofs.Tryz.prog 210).getD ⟨0, [], .skip⟩
/- 211: gansey/loops.right -/
noncomputable def F211 : IFn := (compF Go.Proofs.Tryz.prog 211).getD ⟨0, [], .skip⟩
/- 212: gansey/loops.need -/
noncomputable def F212 : IFn := (compF Go.Proofs.Tryz.prog 212).getD ⟨0, [], .skip⟩
/- 213: slices.insertionSortCmpFunc[gansey/orders.Held] -/
noncomputable def F213 : IFn := (compF Go.Proofs.Tryz.prog 213).getD ⟨0, [], .skip⟩
/- 214: slices.symMergeCmpFunc[gansey/orders.Held] -/
noncomputable def F214 : IFn := (compF Go.Proofs.Tryz.prog 214).getD ⟨0, [], .skip⟩
/- 215: gansey/stacks.copied[[]gansey/api.Id] -/
noncomputable def F215 : IFn := (compF Go.Proofs.Tryz.prog 215).getD ⟨0, [], .skip⟩
/- 216: gansey/stacks.short -/
noncomputable def F216 : IFn := (compF Go.Proofs.Tryz.prog 216).getD ⟨0, [], .skip⟩
/- 217: slices.order2CmpFunc[gansey/fabrics.Crossing] -/
noncomputable def F217 : IFn := (compF Go.Proofs.Tryz.prog 217).getD ⟨0, [], .skip⟩
/- 218: slices.order2CmpFunc[gansey/api.Id] -/
noncomputable def F218 : IFn := (compF Go.Proofs.Tryz.prog 218).getD ⟨0, [], .skip⟩
/- 219: gansey/loops.has -/
noncomputable def F219 : IFn := (compF Go.Proofs.Tryz.prog 219).getD ⟨0, [], .skip⟩
/- 220: gansey/yarns.Reduce -/
noncomputable def F220 : IFn := (compF Go.Proofs.Tryz.prog 220).getD ⟨0, [], .skip⟩
/- 221: slices.rotateCmpFunc[gansey/orders.Held] -/
noncomputable def F221 : IFn := (compF Go.Proofs.Tryz.prog 221).getD ⟨0, [], .skip⟩
/- 222: slices.swapRangeCmpFunc[gansey/orders.Held] -/
noncomputable def F222 : IFn := (compF Go.Proofs.Tryz.prog 222).getD ⟨0, [], .skip⟩

noncomputable def fnT : Tr IFn := .node (none) (.node (none) (.node (none) (.node (none) (.node (some F15) (.node (none) (.node (none) (.node (some F127) (.leaf) (.leaf)) (.node (some F191) (.leaf) (.leaf))) (.node (some F95) (.node (some F159) (.leaf) (.leaf)) (.leaf))) (.node (none) (.node (some F79) (.node (some F143) (.leaf) (.leaf)) (.node (some F207) (.leaf) (.leaf))) (.node (some F111) (.node (some F175) (.leaf) (.leaf)) (.leaf)))) (.node (none) (.node (some F39) (.node (none) (.node (some F135) (.leaf) (.leaf)) (.node (some F199) (.leaf) (.leaf))) (.node (some F103) (.node (some F167) (.leaf) (.leaf)) (.leaf))) (.node (some F55) (.node (some F87) (.node (some F151) (.leaf) (.leaf)) (.node (some F215) (.leaf) (.leaf))) (.node (some F119) (.node (some F183) (.leaf) (.leaf)) (.leaf))))) (.node (none) (.node (none) (.node (some F35) (.node (some F67) (.node (some F131) (.leaf) (.leaf)) (.node (some F195) (.leaf) (.leaf))) (.node (some F99) (.node (some F163) (.leaf) (.leaf)) (.leaf))) (.node (none) (.node (some F83) (.node (some F147) (.leaf) (.leaf)) (.node (some F211) (.leaf) (.leaf))) (.node (some F115) (.node (some F179) (.leaf) (.leaf)) (.leaf)))) (.node (none) (.node (none) (.node (none) (.node (some F139) (.leaf) (.leaf)) (.node (some F203) (.leaf) (.leaf))) (.node (some F107) (.node (some F171) (.leaf) (.leaf)) (.leaf))) (.node (none) (.node (some F91) (.node (some F155) (.leaf) (.leaf)) (.node (some F219) (.leaf) (.leaf))) (.node (some F123) (.node (some F187) (.leaf) (.leaf)) (.leaf)))))) (.node (some F5) (.node (none) (.node (some F17) (.node (none) (.node (some F65) (.node (some F129) (.leaf) (.leaf)) (.node (some F193) (.leaf) (.leaf))) (.node (some F97) (.node (some F161) (.leaf) (.leaf)) (.leaf))) (.node (none) (.node (some F81) (.node (some F145) (.leaf) (.leaf)) (.node (some F209) (.leaf) (.leaf))) (.node (some F113) (.node (some F177) (.leaf) (.leaf)) (.leaf)))) (.node (none) (.node (none) (.node (none) (.node (some F137) (.leaf) (.leaf)) (.node (some F201) (.leaf) (.leaf))) (.node (some F105) (.node (some F169) (.leaf) (.leaf)) (.leaf))) (.node (none) (.node (some F89) (.node (some F153) (.leaf) (.leaf)) (.node (some F217) (.leaf) (.leaf))) (.node (some F121) (.node (some F185) (.leaf) (.leaf)) (.leaf))))) (.node (some F13) (.node (none) (.node (some F37) (.node (some F69) (.node (some F133) (.leaf) (.leaf)) (.node (some F197) (.leaf) (.leaf))) (.node (some F101) (.node (some F165) (.leaf) (.leaf)) (.leaf))) (.node (none) (.node (some F85) (.node (some F149) (.leaf) (.leaf)) (.node (some F213) (.leaf) (.leaf))) (.node (some F117) (.node (some F181) (.leaf) (.leaf)) (.leaf)))) (.node (none) (.node (none) (.node (none) (.node (some F141) (.leaf) (.leaf)) (.node (some F205) (.leaf) (.leaf))) (.node (some F109) (.node (some F173) (.leaf) (.leaf)) (.leaf))) (.node (none) (.node (some F93) (.node (some F157) (.leaf) (.leaf)) (.node (some F221) (.leaf) (.leaf))) (.node (some F125) (.node (some F189) (.leaf) (.leaf)) (.leaf))))))) (.node (none) (.node (some F4) (.node (none) (.node (some F16) (.node (none) (.node (none) (.node (some F128) (.leaf) (.leaf)) (.node (some F192) (.leaf) (.leaf))) (.node (some F96) (.node (some F160) (.leaf) (.leaf)) (.leaf))) (.node (none) (.node (some F80) (.node (some F144) (.leaf) (.leaf)) (.node (some F208) (.leaf) (.leaf))) (.node (some F112) (.node (some F176) (.leaf) (.leaf)) (.leaf)))) (.node (none) (.node (some F40) (.node (none) (.node (some F136) (.leaf) (.leaf)) (.node (some F200) (.leaf) (.leaf))) (.node (some F104) (.node (some F168) (.leaf) (.leaf)) (.leaf))) (.node (some F56) (.node (some F88) (.node (some F152) (.leaf) (.leaf)) (.node (some F216) (.leaf) (.leaf))) (.node (some F120) (.node (some F184) (.leaf) (.leaf)) (.leaf))))) (.node (some F12) (.node (none) (.node (some F36) (.node (none) (.node (some F132) (.leaf) (.leaf)) (.node (some F196) (.leaf) (.leaf))) (.node (some F100) (.node (some F164) (.leaf) (.leaf)) (.leaf))) (.node (none) (.node (none) (.node (some F148) (.leaf) (.leaf)) (.node (some F212) (.leaf) (.leaf))) (.node (some F116) (.node (some F180) (.leaf) (.leaf)) (.leaf)))) (.node (none) (.node (none) (.node (none) (.node (some F140) (.leaf) (.leaf)) (.node (some F204) (.leaf) (.leaf))) (.node (some F108) (.node (some F172) (.leaf) (.leaf)) (.leaf))) (.node (none) (.node (some F92) (.node (some F156) (.leaf) (.leaf)) (.node (some F220) (.leaf) (.leaf))) (.node (some F124) (.node (some F188) (.leaf) (.leaf)) (.leaf)))))) (.node (none) (.node (none) (.node (some F18) (.node (none) (.node (some F66) (.node (some F130) (.leaf) (.leaf)) (.node (some F194) (.leaf) (.leaf))) (.node (some F98) (.node (some F162) (.leaf) (.leaf)) (.leaf))) (.node (none) (.node (some F82) (.node (some F146) (.leaf) (.leaf)) (.node (some F210) (.leaf) (.leaf))) (.node (some F114) (.node (some F178) (.leaf) (.leaf)) (.leaf)))) (.node (none) (.node (none) (.node (none) (.node (some F138) (.leaf) (.leaf)) (.node (some F202) (.leaf) (.leaf))) (.node (some F106) (.node (some F170) (.leaf) (.leaf)) (.leaf))) (.node (none) (.node (some F90) (.node (some F154) (.leaf) (.leaf)) (.node (some F218) (.leaf) (.leaf))) (.node (some F122) (.node (some F186) (.leaf) (.leaf)) (.leaf))))) (.node (some F14) (.node (none) (.node (some F38) (.node (none) (.node (some F134) (.leaf) (.leaf)) (.node (some F198) (.leaf) (.leaf))) (.node (some F102) (.node (some F166) (.leaf) (.leaf)) (.leaf))) (.node (none) (.node (some F86) (.node (some F150) (.leaf) (.leaf)) (.node (some F214) (.leaf) (.leaf))) (.node (some F118) (.node (some F182) (.leaf) (.leaf)) (.leaf)))) (.node (none) (.node (none) (.node (some F78) (.node (some F142) (.leaf) (.leaf)) (.node (some F206) (.leaf) (.leaf))) (.node (some F110) (.node (some F174) (.leaf) (.leaf)) (.leaf))) (.node (none) (.node (some F94) (.node (some F158) (.leaf) (.leaf)) (.node (some F222) (.leaf) (.leaf))) (.node (some F126) (.node (some F190) (.leaf) (.leaf)) (.leaf)))))))
def tabs : List (List Int) := [[-1, 1]]
noncomputable def E0 : Env := { fns := fnT.get, sums := fun f => if f = 13 then some (tabSum tabs) else none, g0 := 1 }
noncomputable def En : Env := { fns := fnT.get, sums := fun _ => none, g0 := 1 }
theorem plain : Plain E0 := by
  intro f s hs args lo H v H' h
  have hs' : (if f = 13 then some (tabSum tabs) else none) = some s := hs
  split at hs'
  · injection hs' with hs'
    subst hs'
    cases args with
    | cons => cases h
    | nil =>
      simp only [tabSum] at h
      split at h
      · rename_i hok
        injection h with h; injection h with h1 h2; subst h1 h2; exact ⟨.refl _ _, fun _ _ => by simp only [tabSum, hok]; rfl⟩
      · cases h
  · cases hs'
abbrev Wo (c : IC) (l : OPS) : Prop := ∀ {lo : Nat} {rd : Option Nat} {fr : Fr} {H : Heap} {Q : Out → Heap → Prop}, W E0 lo (.code c rd fr) H Q = W E0 lo (.segs l rd fr) H Q
abbrev Wc (n : Nat) (f : IFn) (b : IC) : Prop := ∀ {lo : Nat} {H : Heap} {Q : Out → Heap → Prop} {args : List IV}, W E0 lo (.call n args) H Q = W E0 lo (.code b none ⟨args ++ undefs (f.ntmps - args.length), []⟩) H (retC lo f.results Q)
section
variable {lo : Nat} {rd : Option Nat} {fr : Fr} {H : Heap} {Q : Out → Heap → Prop} {args : List IV}
theorem wF4o0 : Wo F4o0 F4p0 := W_ops
theorem wF4o1 : Wo F4o1 F4p1 := W_ops
theorem wF4o2 : Wo F4o2 F4p2 := W_ops
theorem wF4o3 : Wo F4o3 F4p3 := W_ops
theorem wF4o4 : Wo F4o4 F4p4 := W_ops
theorem wF12o0 : Wo F12o0 F12p0 := W_ops
theorem wF12o1 : Wo F12o1 F12p1 := W_ops
theorem wF12o2 : Wo F12o2 F12p2 := W_ops
theorem wF12o3 : Wo F12o3 F12p3 := W_ops
def B4 := J @wF4o0 (J @wF4o1 (J @wF4o2 (J @wF4o3 (J @wF4o4 (J F4p0.eq_1 (J F4p1.eq_1 (J F4p2.eq_1 (J F4p3.eq_1 (J F4p4.eq_1 (J F4b.eq_1 (F4.eq_1)))))))))))
def B12 := J @wF12o0 (J @wF12o1 (J @wF12o2 (J @wF12o3 (J F12p0.eq_1 (J F12p1.eq_1 (J F12p2.eq_1 (J F12p3.eq_1 (J F12b.eq_1 (F12.eq_1)))))))))
theorem c4 : Wc 4 F4 F4b := W_call rfl rfl
theorem c5 : Wc 5 F5 F5b := W_call rfl rfl
theorem c12 : Wc 12 F12 F12b := W_call rfl rfl
theorem c13 (ht : Tabs tabs H) (h : Q (.val (.bool true)) H) : W E0 lo (.call 13 []) H Q := W_sum (s := tabSum tabs) rfl (by simp only [tabSum, ht.ok]; rfl) h
end
end Go.Iso.Gen
end
