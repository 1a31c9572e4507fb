/-
  the code of this seat for the evaluator, as a program has printed it.
-/
import Derived.Test.YtpmcjiplhekgpaaGreatDoorIsoP5
import Derived.Test.YtpmcjiplhekgpaaGreatDoorIsoP7
import Derived.Test.YtpmcjiplhekgpaaGreatDoorProg
import Derived.KernelRfl
set_option linter.unusedSimpArgs false
set_option linter.unusedVariables false

section
set_option maxRecDepth 100000
namespace Go.Iso.Gen
set_option linter.defProp false
def q (d : Nat) (k : Kd) (a : List IA) : IOp := ⟨some d, k, a, none, true, 0, 0⟩
def q0 (k : Kd) (a : List IA) : IOp := ⟨none, k, a, none, true, 0, 0⟩
abbrev OPS := List (Sg × List IOp)
theorem J {a b : Prop} (h : a) (k : b) : a ∧ b := ⟨h, k⟩
/- 6: gansey/ganseylaw43.WorkshopsErrors -/
def F6p0 : OPS := [(.seq, [⟨some 6, .move, [.val (.bool false)], none, true, 0, 0⟩])]
def F6o0 : IC := .ops F6p0
def F6p1 : OPS := [(.seq, [⟨some 26, .move, [.tmp 2], none, true, 0, 0⟩, ⟨some 27, .lenSl, [.tmp 26], none, true, 0, 0⟩, ⟨some 28, .bin .gtr, [.tmp 27, .val (.int .i64 6)], none, true, 0, 0⟩])]
def F6o1 : IC := .ops F6p1
def F6p2 : OPS := [(.seq, [⟨some 29, .call, [.val (.fn 19 [] [])], none, true, 0, 0⟩, ⟨some 6, .move, [.tmp 29], none, true, 0, 0⟩])]
def F6o2 : IC := .ops F6p2
def F6p3 : OPS := [(.seq, [⟨some 31, .call, [.val (.fn 20 [] []), .val (.int .i64 3)], none, true, 0, 0⟩, ⟨some 30, .move, [.tmp 31], none, true, 0, 0⟩, ⟨some 32, .extract 0, [.tmp 30], none, true, 0, 0⟩, ⟨some 33, .extract 1, [.tmp 30], none, true, 0, 0⟩, ⟨some 7, .move, [.tmp 32], none, true, 0, 0⟩, ⟨some 8, .move, [.tmp 33], none, true, 0, 0⟩])]
def F6o3 : IC := .ops F6p3
def F6p4 : OPS := [(.seq, [⟨some 34, .move, [.tmp 8], none, true, 0, 0⟩, ⟨some 35, .bin .neq, [.tmp 34, .val (.int .i64 0)], none, true, 0, 0⟩])]
def F6o4 : IC := .ops F6p4
def F6p5 : OPS := [(.seq, [⟨some 6, .move, [.val (.bool false)], none, true, 0, 0⟩])]
def F6o5 : IC := .ops F6p5
def F6p6 : OPS := [(.seq, [⟨some 37, .move, [.tmp 7], none, true, 0, 0⟩, ⟨some 38, .move, [.tmp 0], none, true, 0, 0⟩, ⟨some 39, .call, [.val (.fn 21 [] []), .tmp 37, .tmp 38], none, true, 0, 0⟩, ⟨some 36, .move, [.tmp 39], none, true, 0, 0⟩, ⟨some 40, .extract 0, [.tmp 36], none, true, 0, 0⟩, ⟨some 41, .extract 1, [.tmp 36], none, true, 0, 0⟩, ⟨some 9, .alloc 59 4 [.int .u8 0, .int .i64 0, .int .i64 0, .int .i64 0], [], none, true, 0, 0⟩, ⟨none, .store 4, [.tmp 9, .tmp 40], none, true, 0, 0⟩, ⟨some 10, .move, [.tmp 41], none, true, 0, 0⟩])]
def F6o6 : IC := .ops F6p6
def F6p7 : OPS := [(.seq, [⟨some 43, .move, [.tmp 7], none, true, 0, 0⟩, ⟨some 44, .move, [.tmp 0], none, true, 0, 0⟩, ⟨some 45, .call, [.val (.fn 22 [] []), .tmp 43, .tmp 44], none, true, 0, 0⟩, ⟨some 42, .move, [.tmp 45], none, true, 0, 0⟩, ⟨some 46, .extract 0, [.tmp 42], none, true, 0, 0⟩, ⟨some 47, .extract 1, [.tmp 42], none, true, 0, 0⟩, ⟨some 48, .extract 2, [.tmp 42], none, true, 0, 0⟩, ⟨some 12, .alloc 67 4 [.nilSlice, .nilSlice, .nilSlice, .nilSlice], [], none, true, 0, 0⟩, ⟨some 11, .move, [.tmp 46], none, true, 0, 0⟩, ⟨none, .store 4, [.tmp 12, .tmp 47], none, true, 0, 0⟩, ⟨some 13, .move, [.tmp 48], none, true, 0, 0⟩])]
def F6o7 : IC := .ops F6p7
def F6p8 : OPS := [(.seq, [⟨some 14, .move, [.val (.int .i64 1)], none, true, 0, 0⟩])]
def F6o8 : IC := .ops F6p8
def F6p9 : OPS := [(.seq, [⟨some 49, .move, [.tmp 0], none, true, 0, 0⟩, ⟨some 50, .bin .geq, [.tmp 49, .val (.int .i64 0)], none, true, 0, 0⟩, ⟨some 51, .move, [.tmp 50], none, true, 0, 0⟩, ⟨some 52, .move, [.tmp 0], some (51, true), true, 0, 0⟩, ⟨some 53, .bin .lss, [.tmp 52, .val (.int .i64 3)], some (51, true), true, 0, 0⟩, ⟨some 54, .pick, [.tmp 51, .tmp 53, .val (.bool false)], none, true, 0, 0⟩])]
def F6o9 : IC := .ops F6p9
def F6p10 : OPS := [(.seq, [⟨some 14, .move, [.val (.int .i64 7)], none, true, 0, 0⟩])]
def F6o10 : IC := .ops F6p10
def F6p11 : OPS := [(.seq, [⟨some 15, .move, [.val (.int .i64 1)], none, true, 0, 0⟩])]
def F6o11 : IC := .ops F6p11
def F6p12 : OPS := [(.seq, [⟨some 55, .move, [.tmp 14], none, true, 0, 0⟩, ⟨some 56, .bin .eql, [.tmp 55, .val (.int .i64 7)], none, true, 0, 0⟩])]
def F6o12 : IC := .ops F6p12
def F6p13 : OPS := [(.seq, [⟨some 15, .move, [.val (.int .i64 6)], none, true, 0, 0⟩])]
def F6o13 : IC := .ops F6p13
def F6p14 : OPS := [(.seq, [⟨some 57, .move, [.tmp 10], none, true, 0, 0⟩, ⟨some 58, .bin .eql, [.tmp 57, .val (.int .i64 0)], none, true, 0, 0⟩, ⟨some 59, .move, [.tmp 14], none, true, 0, 0⟩, ⟨some 60, .bin .eql, [.tmp 59, .val (.int .i64 7)], none, true, 0, 0⟩, ⟨some 61, .eqBool true, [.tmp 58, .tmp 60], none, true, 0, 0⟩, ⟨some 62, .move, [.tmp 61], none, true, 0, 0⟩, ⟨some 63, .move, [.tmp 13], some (62, false), true, 0, 0⟩, ⟨some 64, .move, [.tmp 14], some (62, false), true, 0, 0⟩, ⟨some 65, .bin .neq, [.tmp 63, .tmp 64], some (62, false), true, 0, 0⟩, ⟨some 66, .pick, [.tmp 62, .val (.bool true), .tmp 65], none, true, 0, 0⟩, ⟨some 67, .move, [.tmp 66], none, true, 0, 0⟩, ⟨some 68, .move, [.tmp 7], some (67, false), true, 0, 0⟩, ⟨some 69, .move, [.tmp 0], some (67, false), true, 0, 0⟩, ⟨some 70, .call, [.val (.fn 23 [] []), .tmp 68, .tmp 69], some (67, false), true, 0, 0⟩, ⟨some 71, .move, [.tmp 15], some (67, false), true, 0, 0⟩, ⟨some 72, .bin .neq, [.tmp 70, .tmp 71], some (67, false), true, 0, 0⟩, ⟨some 73, .pick, [.tmp 67, .val (.bool true), .tmp 72], none, true, 0, 0⟩, ⟨some 74, .move, [.tmp 73], none, true, 0, 0⟩, ⟨some 75, .move, [.tmp 7], some (74, false), true, 0, 0⟩, ⟨some 76, .move, [.tmp 0], some (74, false), true, 0, 0⟩, ⟨some 77, .call, [.val (.fn 24 [] []), .tmp 75, .tmp 76], some (74, false), true, 0, 0⟩, ⟨some 78, .move, [.tmp 15], some (74, false), true, 0, 0⟩, ⟨some 79, .bin .neq, [.tmp 77, .tmp 78], some (74, false), true, 0, 0⟩, ⟨some 80, .pick, [.tmp 74, .val (.bool true), .tmp 79], none, true, 0, 0⟩, ⟨some 81, .move, [.tmp 80], none, true, 0, 0⟩, ⟨some 82, .move, [.tmp 7], some (81, false), true, 0, 0⟩, ⟨some 83, .call, [.val (.fn 25 [] []), .tmp 82], some (81, false), true, 0, 0⟩, ⟨some 84, .bin .neq, [.tmp 83, .val (.int .i64 6)], some (81, false), true, 0, 0⟩, ⟨some 85, .pick, [.tmp 81, .val (.bool true), .tmp 84], none, true, 0, 0⟩, ⟨some 86, .move, [.tmp 85], none, true, 0, 0⟩, ⟨some 87, .move, [.tmp 1], some (86, false), true, 0, 0⟩, ⟨some 88, .bin .neq, [.tmp 87, .val (.int .i64 0)], some (86, false), true, 0, 0⟩, ⟨some 89, .move, [.tmp 88], some (86, false), true, 0, 0⟩, ⟨some 90, .move, [.tmp 1], some (89, true), true, 0, 0⟩, ⟨some 91, .bin .lss, [.tmp 90, .val (.int .i64 1000)], some (89, true), true, 0, 0⟩, ⟨some 92, .pick, [.tmp 89, .tmp 91, .val (.bool false)], some (86, false), true, 0, 0⟩, ⟨some 93, .move, [.tmp 92], some (86, false), true, 0, 0⟩, ⟨some 94, .move, [.tmp 7], some (93, true), true, 0, 0⟩, ⟨some 95, .move, [.tmp 1], some (93, true), true, 0, 0⟩, ⟨some 96, .call, [.val (.fn 26 [] []), .tmp 94, .tmp 95], some (93, true), true, 0, 0⟩, ⟨some 97, .bin .eql, [.tmp 96, .val (.int .i64 0)], some (93, true), true, 0, 0⟩, ⟨some 98, .move, [.tmp 1], some (93, true), true, 0, 0⟩, ⟨some 99, .bin .gtr, [.tmp 98, .val (.int .i64 0)], some (93, true), true, 0, 0⟩, ⟨some 100, .eqBool true, [.tmp 97, .tmp 99], some (93, true), true, 0, 0⟩, ⟨some 101, .pick, [.tmp 93, .tmp 100, .val (.bool false)], some (86, false), true, 0, 0⟩, ⟨some 102, .pick, [.tmp 86, .val (.bool true), .tmp 101], none, true, 0, 0⟩, ⟨some 103, .move, [.tmp 102], none, true, 0, 0⟩, ⟨some 104, .move, [.tmp 7], some (103, false), true, 0, 0⟩, ⟨some 105, .call, [.val (.fn 26 [] []), .tmp 104, .val (.int .i64 100001)], some (103, false), true, 0, 0⟩, ⟨some 106, .bin .neq, [.tmp 105, .val (.int .i64 1)], some (103, false), true, 0, 0⟩, ⟨some 107, .pick, [.tmp 103, .val (.bool true), .tmp 106], none, true, 0, 0⟩])]
def F6o14 : IC := .ops F6p14
def F6p15 : OPS := [(.seq, [⟨some 6, .move, [.val (.bool false)], none, true, 0, 0⟩])]
def F6o15 : IC := .ops F6p15
def F6p16 : OPS := [(.seq, [⟨some 108, .move, [.tmp 2], none, true, 0, 0⟩, ⟨some 109, .lenSl, [.tmp 108], none, true, 0, 0⟩, ⟨some 110, .bin .leq, [.tmp 109, .val (.int .i64 3)], none, true, 0, 0⟩, ⟨some 16, .move, [.tmp 110], none, true, 0, 0⟩])]
def F6o16 : IC := .ops F6p16
def F6p17 : OPS := [(.seq, [⟨some 17, .move, [.val (.int .i64 0)], none, true, 0, 0⟩])]
def F6o17 : IC := .ops F6p17
def F6p18 : OPS := [(.seq, [⟨some 111, .move, [.tmp 17], none, true, 0, 0⟩, ⟨some 112, .move, [.tmp 2], none, true, 0, 0⟩, ⟨some 113, .lenSl, [.tmp 112], none, true, 0, 0⟩, ⟨some 114, .bin .lss, [.tmp 111, .tmp 113], none, true, 0, 0⟩])]
def F6o18 : IC := .ops F6p18
def F6p19 : OPS := [(.seq, [⟨some 117, .move, [.tmp 16], none, true, 0, 0⟩, ⟨some 118, .move, [.tmp 117], none, true, 0, 0⟩, ⟨some 119, .move, [.tmp 2], some (118, true), true, 0, 0⟩, ⟨some 120, .move, [.tmp 17], some (118, true), true, 0, 0⟩, ⟨some 121, .idxSl 1, [.tmp 119, .tmp 120], some (118, true), true, 0, 0⟩, ⟨some 122, .load none, [.tmp 121], some (118, true), true, 0, 0⟩, ⟨some 123, .bin .geq, [.tmp 122, .val (.int .i64 0)], some (118, true), true, 0, 0⟩, ⟨some 124, .pick, [.tmp 118, .tmp 123, .val (.bool false)], none, true, 0, 0⟩, ⟨some 125, .move, [.tmp 124], none, true, 0, 0⟩, ⟨some 126, .move, [.tmp 2], some (125, true), true, 0, 0⟩, ⟨some 127, .move, [.tmp 17], some (125, true), true, 0, 0⟩, ⟨some 128, .idxSl 1, [.tmp 126, .tmp 127], some (125, true), true, 0, 0⟩, ⟨some 129, .load none, [.tmp 128], some (125, true), true, 0, 0⟩, ⟨some 130, .bin .leq, [.tmp 129, .val (.int .i64 10)], some (125, true), true, 0, 0⟩, ⟨some 131, .pick, [.tmp 125, .tmp 130, .val (.bool false)], none, true, 0, 0⟩, ⟨some 16, .move, [.tmp 131], none, true, 0, 0⟩])]
def F6o19 : IC := .ops F6p19
def F6p20 : OPS := [(.seq, [⟨some 115, .move, [.tmp 17], none, true, 0, 0⟩, ⟨some 116, .bin .add, [.tmp 115, .val (.int .i64 1)], none, true, 0, 0⟩, ⟨some 17, .move, [.tmp 116], none, true, 0, 0⟩])]
def F6o20 : IC := .ops F6p20
def F6l21 : IC := .seq (.seq (F6o18) (.cond (.tmp 114) (.skip) (.exit 0))) (.seq (.block 1 (F6o19)) (F6o20))
def F6p22 : OPS := [(.seq, [⟨some 132, .move, [.tmp 7], none, true, 0, 0⟩, ⟨some 133, .move, [.tmp 2], none, true, 0, 0⟩, ⟨some 134, .call, [.val (.fn 27 [] []), .tmp 132, .tmp 133], none, true, 0, 0⟩, ⟨some 18, .move, [.tmp 134], none, true, 0, 0⟩])]
def F6o22 : IC := .ops F6p22
def F6p23 : OPS := [(.seq, [⟨some 135, .move, [.tmp 18], none, true, 0, 0⟩, ⟨some 136, .bin .eql, [.tmp 135, .val (.int .i64 0)], none, true, 0, 0⟩, ⟨some 137, .move, [.tmp 16], none, true, 0, 0⟩, ⟨some 138, .eqBool true, [.tmp 136, .tmp 137], none, true, 0, 0⟩, ⟨some 139, .move, [.tmp 138], none, true, 0, 0⟩, ⟨some 140, .move, [.tmp 16], some (139, false), true, 0, 0⟩, ⟨some 141, .un .not, [.tmp 140], some (139, false), true, 0, 0⟩, ⟨some 142, .move, [.tmp 141], some (139, false), true, 0, 0⟩, ⟨some 143, .move, [.tmp 18], some (142, true), true, 0, 0⟩, ⟨some 144, .bin .neq, [.tmp 143, .val (.int .i64 1)], some (142, true), true, 0, 0⟩, ⟨some 145, .pick, [.tmp 142, .tmp 144, .val (.bool false)], some (139, false), true, 0, 0⟩, ⟨some 146, .pick, [.tmp 139, .val (.bool true), .tmp 145], none, true, 0, 0⟩])]
def F6o23 : IC := .ops F6p23
def F6p24 : OPS := [(.seq, [⟨some 6, .move, [.val (.bool false)], none, true, 0, 0⟩])]
def F6o24 : IC := .ops F6p24
def F6p25 : OPS := [(.seq, [⟨some 147, .move, [.tmp 16], none, true, 0, 0⟩, ⟨some 148, .move, [.tmp 147], none, true, 0, 0⟩, ⟨some 149, .move, [.tmp 7], some (148, true), true, 0, 0⟩, ⟨some 150, .call, [.val (.fn 27 [] []), .tmp 149, .val (.nilSlice)], some (148, true), true, 0, 0⟩, ⟨some 151, .bin .neq, [.tmp 150, .val (.int .i64 6)], some (148, true), true, 0, 0⟩, ⟨some 152, .move, [.tmp 151], some (148, true), true, 0, 0⟩, ⟨some 153, .move, [.tmp 7], some (152, false), true, 0, 0⟩, ⟨some 154, .call, [.val (.fn 28 [] []), .tmp 153, .val (.int .i64 0), .val (.int .i64 1), .val (.nilSlice)], some (152, false), true, 0, 0⟩, ⟨some 155, .bin .neq, [.tmp 154, .val (.int .i64 6)], some (152, false), true, 0, 0⟩, ⟨some 156, .pick, [.tmp 152, .val (.bool true), .tmp 155], some (148, true), true, 0, 0⟩, ⟨some 157, .move, [.tmp 156], some (148, true), true, 0, 0⟩, ⟨some 158, .move, [.tmp 7], some (157, false), true, 0, 0⟩, ⟨some 159, .call, [.val (.fn 26 [] []), .tmp 158, .val (.int .i64 0)], some (157, false), true, 0, 0⟩, ⟨some 160, .bin .neq, [.tmp 159, .val (.int .i64 6)], some (157, false), true, 0, 0⟩, ⟨some 161, .pick, [.tmp 157, .val (.bool true), .tmp 160], some (148, true), true, 0, 0⟩, ⟨some 162, .move, [.tmp 161], some (148, true), true, 0, 0⟩, ⟨some 163, .move, [.tmp 7], some (162, false), true, 0, 0⟩, ⟨some 164, .call, [.val (.fn 29 [] []), .tmp 163], some (162, false), true, 0, 0⟩, ⟨some 165, .lenSl, [.tmp 164], some (162, false), true, 0, 0⟩, ⟨some 166, .bin .neq, [.tmp 165, .val (.int .i64 0)], some (162, false), true, 0, 0⟩, ⟨some 167, .pick, [.tmp 162, .val (.bool true), .tmp 166], some (148, true), true, 0, 0⟩, ⟨some 168, .move, [.tmp 167], some (148, true), true, 0, 0⟩, ⟨some 169, .move, [.tmp 7], some (168, false), true, 0, 0⟩, ⟨some 170, .call, [.val (.fn 25 [] []), .tmp 169], some (168, false), true, 0, 0⟩, ⟨some 171, .bin .neq, [.tmp 170, .val (.int .i64 0)], some (168, false), true, 0, 0⟩, ⟨some 172, .pick, [.tmp 168, .val (.bool true), .tmp 171], some (148, true), true, 0, 0⟩, ⟨some 173, .move, [.tmp 172], some (148, true), true, 0, 0⟩, ⟨some 174, .move, [.tmp 7], some (173, false), true, 0, 0⟩, ⟨some 175, .call, [.val (.fn 29 [] []), .tmp 174], some (173, false), true, 0, 0⟩, ⟨some 176, .lenSl, [.tmp 175], some (173, false), true, 0, 0⟩, ⟨some 177, .bin .neq, [.tmp 176, .val (.int .i64 3)], some (173, false), true, 0, 0⟩, ⟨some 178, .pick, [.tmp 173, .val (.bool true), .tmp 177], some (148, true), true, 0, 0⟩, ⟨some 179, .pick, [.tmp 148, .tmp 178, .val (.bool false)], none, true, 0, 0⟩])]
def F6o25 : IC := .ops F6p25
def F6p26 : OPS := [(.seq, [⟨some 6, .move, [.val (.bool false)], none, true, 0, 0⟩])]
def F6o26 : IC := .ops F6p26
def F6p27 : OPS := [(.seq, [⟨some 19, .move, [.val (.nilPtr)], none, true, 0, 0⟩])]
def F6o27 : IC := .ops F6p27
def F6p28 : OPS := [(.seq, [⟨some 180, .build [.bool false, .nilSlice] [], [], none, true, 0, 0⟩, ⟨some 181, .box 77 2, [.tmp 180], none, true, 0, 0⟩, ⟨some 20, .move, [.tmp 181], none, true, 0, 0⟩])]
def F6o28 : IC := .ops F6p28
def F6p29 : OPS := [(.seq, [⟨some 183, .move, [.tmp 19], none, true, 0, 0⟩, ⟨some 184, .call, [.val (.fn 21 [] []), .tmp 183, .val (.int .i64 0)], none, true, 0, 0⟩, ⟨some 182, .move, [.tmp 184], none, true, 0, 0⟩, ⟨some 185, .extract 0, [.tmp 182], none, true, 0, 0⟩, ⟨some 186, .extract 1, [.tmp 182], none, true, 0, 0⟩, ⟨some 21, .alloc 59 4 [.int .u8 0, .int .i64 0, .int .i64 0, .int .i64 0], [], none, true, 0, 0⟩, ⟨none, .store 4, [.tmp 21, .tmp 185], none, true, 0, 0⟩, ⟨some 22, .move, [.tmp 186], none, true, 0, 0⟩])]
def F6o29 : IC := .ops F6p29
def F6p30 : OPS := [(.seq, [⟨some 188, .move, [.tmp 20], none, true, 0, 0⟩, ⟨some 189, .call, [.val (.fn 22 [] []), .tmp 188, .val (.int .i64 0)], none, true, 0, 0⟩, ⟨some 187, .move, [.tmp 189], none, true, 0, 0⟩, ⟨some 190, .extract 0, [.tmp 187], none, true, 0, 0⟩, ⟨some 191, .extract 1, [.tmp 187], none, true, 0, 0⟩, ⟨some 192, .extract 2, [.tmp 187], none, true, 0, 0⟩, ⟨some 24, .alloc 67 4 [.nilSlice, .nilSlice, .nilSlice, .nilSlice], [], none, true, 0, 0⟩, ⟨some 23, .move, [.tmp 190], none, true, 0, 0⟩, ⟨none, .store 4, [.tmp 24, .tmp 191], none, true, 0, 0⟩, ⟨some 25, .move, [.tmp 192], none, true, 0, 0⟩])]
def F6o30 : IC := .ops F6p30
def F6p31 : OPS := [(.seq, [⟨some 193, .move, [.tmp 22], none, true, 0, 0⟩, ⟨some 194, .bin .eql, [.tmp 193, .val (.int .i64 2)], none, true, 0, 0⟩, ⟨some 195, .move, [.tmp 194], none, true, 0, 0⟩, ⟨some 196, .move, [.tmp 25], some (195, true), true, 0, 0⟩, ⟨some 197, .bin .eql, [.tmp 196, .val (.int .i64 2)], some (195, true), true, 0, 0⟩, ⟨some 198, .pick, [.tmp 195, .tmp 197, .val (.bool false)], none, true, 0, 0⟩, ⟨some 199, .move, [.tmp 198], none, true, 0, 0⟩, ⟨some 200, .move, [.tmp 19], some (199, true), true, 0, 0⟩, ⟨some 201, .call, [.val (.fn 28 [] []), .tmp 200, .val (.int .i64 0), .val (.int .i64 1), .val (.nilSlice)], some (199, true), true, 0, 0⟩, ⟨some 202, .bin .eql, [.tmp 201, .val (.int .i64 2)], some (199, true), true, 0, 0⟩, ⟨some 203, .pick, [.tmp 199, .tmp 202, .val (.bool false)], none, true, 0, 0⟩, ⟨some 204, .move, [.tmp 203], none, true, 0, 0⟩, ⟨some 205, .move, [.tmp 20], some (204, true), true, 0, 0⟩, ⟨some 206, .call, [.val (.fn 26 [] []), .tmp 205, .val (.int .i64 0)], some (204, true), true, 0, 0⟩, ⟨some 207, .bin .eql, [.tmp 206, .val (.int .i64 2)], some (204, true), true, 0, 0⟩, ⟨some 208, .pick, [.tmp 204, .tmp 207, .val (.bool false)], none, true, 0, 0⟩, ⟨some 209, .move, [.tmp 208], none, true, 0, 0⟩, ⟨some 210, .move, [.tmp 19], some (209, true), true, 0, 0⟩, ⟨some 211, .call, [.val (.fn 23 [] []), .tmp 210, .val (.int .i64 0)], some (209, true), true, 0, 0⟩, ⟨some 212, .bin .eql, [.tmp 211, .val (.int .i64 2)], some (209, true), true, 0, 0⟩, ⟨some 213, .pick, [.tmp 209, .tmp 212, .val (.bool false)], none, true, 0, 0⟩, ⟨some 214, .move, [.tmp 213], none, true, 0, 0⟩, ⟨some 215, .move, [.tmp 20], some (214, true), true, 0, 0⟩, ⟨some 216, .call, [.val (.fn 24 [] []), .tmp 215, .val (.int .i64 0)], some (214, true), true, 0, 0⟩, ⟨some 217, .bin .eql, [.tmp 216, .val (.int .i64 2)], some (214, true), true, 0, 0⟩, ⟨some 218, .pick, [.tmp 214, .tmp 217, .val (.bool false)], none, true, 0, 0⟩, ⟨some 219, .move, [.tmp 218], none, true, 0, 0⟩, ⟨some 220, .move, [.tmp 19], some (219, true), true, 0, 0⟩, ⟨some 221, .call, [.val (.fn 27 [] []), .tmp 220, .val (.nilSlice)], some (219, true), true, 0, 0⟩, ⟨some 222, .bin .eql, [.tmp 221, .val (.int .i64 2)], some (219, true), true, 0, 0⟩, ⟨some 223, .pick, [.tmp 219, .tmp 222, .val (.bool false)], none, true, 0, 0⟩, ⟨some 224, .move, [.tmp 223], none, true, 0, 0⟩, ⟨some 225, .move, [.tmp 20], some (224, true), true, 0, 0⟩, ⟨some 226, .call, [.val (.fn 25 [] []), .tmp 225], some (224, true), true, 0, 0⟩, ⟨some 227, .bin .eql, [.tmp 226, .val (.int .i64 2)], some (224, true), true, 0, 0⟩, ⟨some 228, .pick, [.tmp 224, .tmp 227, .val (.bool false)], none, true, 0, 0⟩, ⟨some 229, .move, [.tmp 228], none, true, 0, 0⟩, ⟨some 230, .move, [.tmp 19], some (229, true), true, 0, 0⟩, ⟨some 231, .call, [.val (.fn 29 [] []), .tmp 230], some (229, true), true, 0, 0⟩, ⟨some 232, .lenSl, [.tmp 231], some (229, true), true, 0, 0⟩, ⟨some 233, .move, [.tmp 20], some (229, true), true, 0, 0⟩, ⟨some 234, .call, [.val (.fn 29 [] []), .tmp 233], some (229, true), true, 0, 0⟩, ⟨some 235, .lenSl, [.tmp 234], some (229, true), true, 0, 0⟩, ⟨some 236, .bin .add, [.tmp 232, .tmp 235], some (229, true), true, 0, 0⟩, ⟨some 237, .bin .eql, [.tmp 236, .val (.int .i64 0)], some (229, true), true, 0, 0⟩, ⟨some 238, .pick, [.tmp 229, .tmp 237, .val (.bool false)], none, true, 0, 0⟩, ⟨some 239, .move, [.tmp 238], none, true, 0, 0⟩, ⟨some 240, .call, [.val (.fn 19 [] [])], some (239, true), true, 0, 0⟩, ⟨some 241, .pick, [.tmp 239, .tmp 240, .val (.bool false)], none, true, 0, 0⟩, ⟨some 6, .move, [.tmp 241], none, true, 0, 0⟩])]
def F6o31 : IC := .ops F6p31
def F6b : IC := .seq (F6o0) (.seq (.seq (F6o1) (.cond (.tmp 28) (.seq (F6o2) (.ret)) (.skip))) (.seq (F6o3) (.seq (.seq (F6o4) (.cond (.tmp 35) (.seq (F6o5) (.ret)) (.skip))) (.seq (F6o6) (.seq (F6o7) (.seq (F6o8) (.seq (.seq (F6o9) (.cond (.tmp 54) (F6o10) (.skip))) (.seq (F6o11) (.seq (.seq (F6o12) (.cond (.tmp 56) (F6o13) (.skip))) (.seq (.seq (F6o14) (.cond (.tmp 107) (.seq (F6o15) (.ret)) (.skip))) (.seq (F6o16) (.seq (.seq (F6o17) (.block 0 (.loop F6l21))) (.seq (F6o22) (.seq (.seq (F6o23) (.cond (.tmp 146) (.seq (F6o24) (.ret)) (.skip))) (.seq (.seq (F6o25) (.cond (.tmp 179) (.seq (F6o26) (.ret)) (.skip))) (.seq (F6o27) (.seq (F6o28) (.seq (F6o29) (.seq (F6o30) (.seq (F6o31) (.ret)))))))))))))))))))))
def F6 : IFn := ⟨242, [(6, none)], F6b⟩
/- 8: gansey/journals.Done -/
noncomputable def F8 : IFn := (compF Go.Proofs.Tryz.prog 8).getD ⟨0, [], .skip⟩
/- 9: gansey/journals.Begin -/
noncomputable def F9 : IFn := (compF Go.Proofs.Tryz.prog 9).getD ⟨0, [], .skip⟩
/- 19: gansey/ganseylaw43.lives -/
def F19p0 : OPS := [(.seq, [q 0 .move [.val (.bool false)]])]
def F19o0 : IC := .ops F19p0
def F19p1 : OPS := [(.seq, [q 12 .call [.val (.fn 20 [] []), .val (.int .i64 2)], q 11 .move [.tmp 12], q 13 (.extract 0) [.tmp 11], q 14 (.extract 1) [.tmp 11], q 1 .move [.tmp 13], q 2 .move [.tmp 14]])]
def F19o1 : IC := .ops F19p1
def F19p2 : OPS := [(.seq, [q 15 .move [.tmp 2], q 16 (.bin .neq) [.tmp 15, .val (.int .i64 0)], q 17 .move [.tmp 16], ⟨some 18, .move, [.tmp 1], some (17, false), true, 0, 0⟩, ⟨some 19, .call, [.val (.fn 29 [] []), .tmp 18], some (17, false), true, 0, 0⟩, ⟨some 20, .lenSl, [.tmp 19], some (17, false), true, 0, 0⟩, ⟨some 21, .bin .neq, [.tmp 20, .val (.int .i64 2)], some (17, false), true, 0, 0⟩, q 22 .pick [.tmp 17, .val (.bool true), .tmp 21], q 23 .move [.tmp 22], ⟨some 24, .move, [.tmp 1], some (23, false), true, 0, 0⟩, ⟨some 25, .call, [.val (.fn 41 [] [])], some (23, false), true, 0, 0⟩, ⟨some 26, .call, [.val (.fn 28 [] []), .tmp 24, .val (.int .i64 1), .val (.int .i64 5), .tmp 25], some (23, false), true, 0, 0⟩, ⟨some 27, .bin .neq, [.tmp 26, .val (.int .i64 0)], some (23, false), true, 0, 0⟩, q 28 .pick [.tmp 23, .val (.bool true), .tmp 27], q 29 .move [.tmp 28], ⟨some 30, .move, [.tmp 1], some (29, false), true, 0, 0⟩, ⟨some 31, .call, [.val (.fn 29 [] []), .tmp 30], some (29, false), true, 0, 0⟩, ⟨some 32, .lenSl, [.tmp 31], some (29, false), true, 0, 0⟩, ⟨some 33, .bin .neq, [.tmp 32, .val (.int .i64 1)], some (29, false), true, 0, 0⟩, q 34 .pick [.tmp 29, .val (.bool true), .tmp 33], q 35 .move [.tmp 34], ⟨some 36, .move, [.tmp 1], some (35, false), true, 0, 0⟩, ⟨some 37, .call, [.val (.fn 29 [] []), .tmp 36], some (35, false), true, 0, 0⟩, ⟨some 38, .idxSl 1, [.tmp 37, .val (.int .i64 0)], some (35, false), true, 0, 0⟩, ⟨some 39, .load none, [.tmp 38], some (35, false), true, 0, 0⟩, ⟨some 40, .bin .neq, [.tmp 39, .val (.int .i64 0)], some (35, false), true, 0, 0⟩, q 41 .pick [.tmp 35, .val (.bool true), .tmp 40], q 42 .move [.tmp 41], ⟨some 43, .move, [.tmp 1], some (42, false), true, 0, 0⟩, ⟨some 44, .call, [.val (.fn 26 [] []), .tmp 43, .val (.int .i64 2)], some (42, false), true, 0, 0⟩, ⟨some 45, .bin .neq, [.tmp 44, .val (.int .i64 0)], some (42, false), true, 0, 0⟩, q 46 .pick [.tmp 42, .val (.bool true), .tmp 45], q 47 .move [.tmp 46], ⟨some 48, .move, [.tmp 1], some (47, false), true, 0, 0⟩, ⟨some 49, .build [.int .u8 0, .int .i64 0, .int .i64 0, .int .i64 0] [(0, 1), (1, 1), (2, 1), (3, 1)], [.val (.int .u8 2), .val (.int .i64 5), .val (.int .i64 2), .val (.int .i64 4)], some (47, false), true, 0, 0⟩, ⟨some 50, .call, [.val (.fn 42 [] []), .tmp 48, .val (.int .i64 1), .tmp 49], some (47, false), true, 0, 0⟩, ⟨some 51, .un .not, [.tmp 50], some (47, false), true, 0, 0⟩, q 52 .pick [.tmp 47, .val (.bool true), .tmp 51]])]
def F19o2 : IC := .ops F19p2
def F19p3 : OPS := [(.seq, [q 0 .move [.val (.bool false)]])]
def F19o3 : IC := .ops F19p3
def F19p4 : OPS := [(.seq, [q 53 .move [.tmp 1], q 54 (.buildSl 3 1 2 [.int .i64 0, .int .i64 0] [(0, 1), (1, 1)]) [.val (.int .i64 0), .val (.int .i64 6)], q 55 .call [.val (.fn 27 [] []), .tmp 53, .tmp 54], q 56 (.bin .neq) [.tmp 55, .val (.int .i64 0)], q 57 .move [.tmp 56], ⟨some 58, .move, [.tmp 1], some (57, false), true, 0, 0⟩, ⟨some 59, .build [.int .u8 0, .int .i64 0, .int .i64 0, .int .i64 0] [(0, 1), (1, 1), (2, 1), (3, 1)], [.val (.int .u8 5), .val (.int .i64 5), .val (.int .i64 2), .val (.int .i64 4)], some (57, false), true, 0, 0⟩, ⟨some 60, .call, [.val (.fn 42 [] []), .tmp 58, .val (.int .i64 1), .tmp 59], some (57, false), true, 0, 0⟩, ⟨some 61, .un .not, [.tmp 60], some (57, false), true, 0, 0⟩, q 62 .pick [.tmp 57, .val (.bool true), .tmp 61], q 63 .move [.tmp 62], ⟨some 64, .move, [.tmp 1], some (63, false), true, 0, 0⟩, ⟨some 65, .call, [.val (.fn 25 [] []), .tmp 64], some (63, false), true, 0, 0⟩, ⟨some 66, .bin .neq, [.tmp 65, .val (.int .i64 0)], some (63, false), true, 0, 0⟩, q 67 .pick [.tmp 63, .val (.bool true), .tmp 66], q 68 .move [.tmp 67], ⟨some 69, .move, [.tmp 1], some (68, false), true, 0, 0⟩, ⟨some 70, .build [.int .u8 0, .int .i64 0, .int .i64 0, .int .i64 0] [(0, 1), (1, 1), (2, 1), (3, 1)], [.val (.int .u8 2), .val (.int .i64 5), .val (.int .i64 3), .val (.int .i64 4)], some (68, false), true, 0, 0⟩, ⟨some 71, .call, [.val (.fn 42 [] []), .tmp 69, .val (.int .i64 1), .tmp 70], some (68, false), true, 0, 0⟩, ⟨some 72, .un .not, [.tmp 71], some (68, false), true, 0, 0⟩, q 73 .pick [.tmp 68, .val (.bool true), .tmp 72]])]
def F19o4 : IC := .ops F19p4
def F19p5 : OPS := [(.seq, [q 0 .move [.val (.bool false)]])]
def F19o5 : IC := .ops F19p5
def F19p6 : OPS := [(.seq, [q 74 .move [.tmp 1], q 75 .call [.val (.fn 23 [] []), .tmp 74, .val (.int .i64 1)], q 76 (.bin .neq) [.tmp 75, .val (.int .i64 0)], q 77 .move [.tmp 76], ⟨some 78, .move, [.tmp 1], some (77, false), true, 0, 0⟩, ⟨some 79, .call, [.val (.fn 26 [] []), .tmp 78, .val (.int .i64 9)], some (77, false), true, 0, 0⟩, ⟨some 80, .bin .neq, [.tmp 79, .val (.int .i64 0)], some (77, false), true, 0, 0⟩, q 81 .pick [.tmp 77, .val (.bool true), .tmp 80], q 82 .move [.tmp 81], ⟨some 83, .move, [.tmp 1], some (82, false), true, 0, 0⟩, ⟨some 84, .call, [.val (.fn 24 [] []), .tmp 83, .val (.int .i64 1)], some (82, false), true, 0, 0⟩, ⟨some 85, .bin .neq, [.tmp 84, .val (.int .i64 0)], some (82, false), true, 0, 0⟩, q 86 .pick [.tmp 82, .val (.bool true), .tmp 85], q 87 .move [.tmp 86], ⟨some 88, .move, [.tmp 1], some (87, false), true, 0, 0⟩, ⟨some 89, .call, [.val (.fn 26 [] []), .tmp 88, .val (.int .i64 1)], some (87, false), true, 0, 0⟩, ⟨some 90, .bin .neq, [.tmp 89, .val (.int .i64 0)], some (87, false), true, 0, 0⟩, q 91 .pick [.tmp 87, .val (.bool true), .tmp 90], q 92 .move [.tmp 91], ⟨some 93, .move, [.tmp 1], some (92, false), true, 0, 0⟩, ⟨some 94, .build [.int .u8 0, .int .i64 0, .int .i64 0, .int .i64 0] [(0, 1), (1, 1), (2, 1), (3, 1)], [.val (.int .u8 4), .val (.int .i64 5), .val (.int .i64 4), .val (.int .i64 4)], some (92, false), true, 0, 0⟩, ⟨some 95, .call, [.val (.fn 42 [] []), .tmp 93, .val (.int .i64 1), .tmp 94], some (92, false), true, 0, 0⟩, ⟨some 96, .un .not, [.tmp 95], some (92, false), true, 0, 0⟩, q 97 .pick [.tmp 92, .val (.bool true), .tmp 96]])]
def F19o6 : IC := .ops F19p6
def F19p7 : OPS := [(.seq, [q 0 .move [.val (.bool false)]])]
def F19o7 : IC := .ops F19p7
def F19p8 : OPS := [(.seq, [q 99 .move [.tmp 1], q 100 .call [.val (.fn 22 [] []), .tmp 99, .val (.int .i64 1)], q 98 .move [.tmp 100], q 101 (.extract 0) [.tmp 98], q 102 (.extract 1) [.tmp 98], q 103 (.extract 2) [.tmp 98], q 4 (.alloc 67 4 [.nilSlice, .nilSlice, .nilSlice, .nilSlice]) [], q 3 .move [.tmp 101], q0 (.store 4) [.tmp 4, .tmp 102], q 5 .move [.tmp 103]])]
def F19o8 : IC := .ops F19p8
def F19p9 : OPS := [(.seq, [q 105 .call [.val (.fn 41 [] [])], q 106 .call [.val (.fn 43 [] []), .tmp 105], q 104 .move [.tmp 106], q 107 (.extract 0) [.tmp 104], q 108 (.extract 1) [.tmp 104], q 6 (.alloc 67 4 [.nilSlice, .nilSlice, .nilSlice, .nilSlice]) [], q0 (.store 4) [.tmp 6, .tmp 107], q 7 .move [.tmp 108]])]
def F19o9 : IC := .ops F19p9
def F19p10 : OPS := [(.seq, [q 110 .move [.tmp 1], q 111 .call [.val (.fn 22 [] []), .tmp 110, .val (.int .i64 1)], q 109 .move [.tmp 111], q 112 (.extract 0) [.tmp 109], q 113 (.extract 1) [.tmp 109], q 114 (.extract 2) [.tmp 109], q 9 (.alloc 67 4 [.nilSlice, .nilSlice, .nilSlice, .nilSlice]) [], q 8 .move [.tmp 112], q0 (.store 4) [.tmp 9, .tmp 113], q 10 .move [.tmp 114]])]
def F19o10 : IC := .ops F19p10
def F19p11 : OPS := [(.seq, [q 115 .move [.tmp 5], q 116 (.bin .eql) [.tmp 115, .val (.int .i64 0)], q 117 .move [.tmp 116], ⟨some 118, .move, [.tmp 7], some (117, true), true, 0, 0⟩, ⟨some 119, .bin .eql, [.tmp 118, .val (.int .i64 0)], some (117, true), true, 0, 0⟩, q 120 .pick [.tmp 117, .tmp 119, .val (.bool false)], q 121 .move [.tmp 120], ⟨some 122, .move, [.tmp 3], some (121, true), true, 0, 0⟩, ⟨some 123, .bin .eql, [.tmp 122, .val (.int .i64 5)], some (121, true), true, 0, 0⟩, q 124 .pick [.tmp 121, .tmp 123, .val (.bool false)], q 125 .move [.tmp 124], ⟨some 126, .load (some 4), [.tmp 4], some (125, true), true, 0, 0⟩, ⟨some 127, .load (some 4), [.tmp 6], some (125, true), true, 0, 0⟩, ⟨some 128, .call, [.val (.fn 44 [] []), .tmp 126, .tmp 127], some (125, true), true, 0, 0⟩, q 129 .pick [.tmp 125, .tmp 128, .val (.bool false)], q 130 .move [.tmp 129], ⟨some 131, .move, [.tmp 10], some (130, true), true, 0, 0⟩, ⟨some 132, .bin .eql, [.tmp 131, .val (.int .i64 7)], some (130, true), true, 0, 0⟩, q 133 .pick [.tmp 130, .tmp 132, .val (.bool false)], q 0 .move [.tmp 133]])]
def F19o11 : IC := .ops F19p11
def F19b : IC := .seq (F19o0) (.seq (F19o1) (.seq (.seq (F19o2) (.cond (.tmp 52) (.seq (F19o3) (.ret)) (.skip))) (.seq (.seq (F19o4) (.cond (.tmp 73) (.seq (F19o5) (.ret)) (.skip))) (.seq (.seq (F19o6) (.cond (.tmp 97) (.seq (F19o7) (.ret)) (.skip))) (.seq (F19o8) (.seq (F19o9) (.seq (F19o10) (.seq (F19o11) (.ret)))))))))
def F19 : IFn := ⟨134, [(0, none)], F19b⟩
/- 20: gansey/workshops.New -/
def F20p0 : OPS := [(.seq, [⟨some 2, .move, [.val (.nilPtr)], none, true, 0, 0⟩, ⟨some 3, .move, [.val (.int .i64 0)], none, true, 0, 0⟩])]
def F20o0 : IC := .ops F20p0
def F20p1 : OPS := [(.seq, [⟨some 6, .move, [.tmp 0], none, true, 0, 0⟩, ⟨some 7, .bin .lss, [.tmp 6, .val (.int .i64 1)], none, true, 0, 0⟩, ⟨some 8, .move, [.tmp 7], none, true, 0, 0⟩, ⟨some 9, .move, [.tmp 0], some (8, false), true, 0, 0⟩, ⟨some 10, .bin .gtr, [.tmp 9, .val (.int .i64 16)], some (8, false), true, 0, 0⟩, ⟨some 11, .pick, [.tmp 8, .val (.bool true), .tmp 10], none, true, 0, 0⟩])]
def F20o1 : IC := .ops F20p1
def F20p2 : OPS := [(.seq, [⟨some 2, .move, [.val (.nilPtr)], none, true, 0, 0⟩, ⟨some 3, .move, [.val (.int .i64 1)], none, true, 0, 0⟩])]
def F20o2 : IC := .ops F20p2
def F20p3 : OPS := [(.seq, [⟨some 12, .move, [.tmp 0], none, true, 0, 0⟩, ⟨some 13, .mksl 115 14 256 [.nilSlice, .int .u8 0, .int .i64 0, .nilSlice, .int .i64 0, .int .i64 0, .nilSlice, .nilSlice, .nilSlice, .nilSlice, .nilSlice, .nilSlice, .nilSlice, .int .i64 0], [.tmp 12, .tmp 12], none, true, 0, 0⟩, ⟨some 14, .build [.bool false, .nilSlice] [(1, 1)], [.tmp 13], none, true, 0, 0⟩, ⟨some 15, .box 77 2, [.tmp 14], none, true, 0, 0⟩, ⟨some 4, .move, [.tmp 15], none, true, 0, 0⟩])]
def F20o3 : IC := .ops F20p3
def F20p4 : OPS := [(.seq, [⟨some 16, .move, [.tmp 4], none, true, 0, 0⟩, ⟨some 17, .nilCheck, [.tmp 16], none, true, 0, 0⟩, ⟨some 18, .fieldAddr 1, [.tmp 17], none, true, 0, 0⟩, ⟨some 19, .load none, [.tmp 18], none, true, 0, 0⟩, ⟨some 20, .lenSl, [.tmp 19], none, true, 0, 0⟩, ⟨some 21, .move, [.val (.int .i64 0)], none, true, 0, 0⟩])]
def F20o4 : IC := .ops F20p4
def F20p5 : OPS := [(.seq, [⟨some 22, .bin .lss, [.tmp 21, .tmp 20], none, true, 0, 0⟩])]
def F20o5 : IC := .ops F20p5
def F20p6 : OPS := [(.seq, [⟨some 23, .move, [.tmp 21], none, true, 0, 0⟩, ⟨some 5, .move, [.tmp 23], none, true, 0, 0⟩])]
def F20o6 : IC := .ops F20p6
def F20p7 : OPS := [(.seq, [⟨some 24, .move, [.tmp 4], none, true, 0, 0⟩, ⟨some 25, .nilCheck, [.tmp 24], none, true, 0, 0⟩, ⟨some 26, .fieldAddr 1, [.tmp 25], none, true, 0, 0⟩, ⟨some 27, .load none, [.tmp 26], none, true, 0, 0⟩, ⟨some 28, .move, [.tmp 5], none, true, 0, 0⟩, ⟨some 29, .idxSl 14, [.tmp 27, .tmp 28], none, true, 0, 0⟩, ⟨some 30, .fieldAddr 1, [.tmp 29], none, true, 0, 0⟩, ⟨none, .store 1, [.tmp 30, .val (.int .u8 1)], none, true, 0, 0⟩])]
def F20o7 : IC := .ops F20p7
def F20p8 : OPS := [(.seq, [⟨some 31, .bin .add, [.tmp 21, .val (.int .i64 1)], none, true, 0, 0⟩, ⟨some 21, .move, [.tmp 31], none, true, 0, 0⟩])]
def F20o8 : IC := .ops F20p8
def F20l9 : IC := .seq (F20o5) (.seq (.cond (.tmp 22) (.skip) (.exit 0)) (.seq (.block 1 (.seq (F20o6) (F20o7))) (F20o8)))
def F20p10 : OPS := [(.seq, [⟨some 32, .move, [.tmp 4], none, true, 0, 0⟩, ⟨some 2, .move, [.tmp 32], none, true, 0, 0⟩, ⟨some 3, .move, [.val (.int .i64 0)], none, true, 0, 0⟩])]
def F20o10 : IC := .ops F20p10
def F20b : IC := .seq (F20o0) (.seq (.seq (F20o1) (.cond (.tmp 11) (.seq (F20o2) (.ret)) (.skip))) (.seq (F20o3) (.seq (.seq (F20o4) (.block 0 (.loop F20l9))) (.seq (F20o10) (.ret)))))
def F20 : IFn := ⟨33, [(2, none), (3, none)], F20b⟩
/- 21: (*gansey/workshops.Workshop).Look -/
def F21p0 : OPS := [(.seq, [⟨some 4, .alloc 59 4 [.int .u8 0, .int .i64 0, .int .i64 0, .int .i64 0], [], none, true, 0, 0⟩, ⟨some 5, .move, [.val (.int .i64 0)], none, true, 0, 0⟩])]
def F21o0 : IC := .ops F21p0
def F21p1 : OPS := [(.seq, [⟨some 8, .move, [.tmp 0], none, true, 0, 0⟩, ⟨some 9, .call, [.val (.fn 45 [] []), .tmp 8], none, true, 0, 0⟩])]
def F21o1 : IC := .ops F21p1
def F21p2 : OPS := [(.seq, [⟨some 10, .build [.int .u8 0, .int .i64 0, .int .i64 0, .int .i64 0] [], [], none, true, 0, 0⟩, ⟨none, .store 4, [.tmp 4, .tmp 10], none, true, 0, 0⟩, ⟨some 5, .move, [.val (.int .i64 2)], none, true, 0, 0⟩])]
def F21o2 : IC := .ops F21p2
def F21p3 : OPS := [(.seq, [⟨some 11, .move, [.tmp 0], none, true, 0, 0⟩, ⟨some 12, .move, [.tmp 1], none, true, 0, 0⟩, ⟨some 13, .call, [.val (.fn 46 [] []), .tmp 11, .tmp 12], none, true, 0, 0⟩, ⟨some 14, .un .not, [.tmp 13], none, true, 0, 0⟩])]
def F21o3 : IC := .ops F21p3
def F21p4 : OPS := [(.seq, [⟨some 15, .build [.int .u8 0, .int .i64 0, .int .i64 0, .int .i64 0] [], [], none, true, 0, 0⟩, ⟨none, .store 4, [.tmp 4, .tmp 15], none, true, 0, 0⟩, ⟨some 5, .move, [.val (.int .i64 1)], none, true, 0, 0⟩])]
def F21o4 : IC := .ops F21p4
def F21p5 : OPS := [(.seq, [⟨some 16, .move, [.tmp 0], none, true, 0, 0⟩, ⟨some 17, .nilCheck, [.tmp 16], none, true, 0, 0⟩, ⟨some 18, .fieldAddr 1, [.tmp 17], none, true, 0, 0⟩, ⟨some 19, .load none, [.tmp 18], none, true, 0, 0⟩, ⟨some 20, .move, [.tmp 1], none, true, 0, 0⟩, ⟨some 21, .idxSl 14, [.tmp 19, .tmp 20], none, true, 0, 0⟩, ⟨some 6, .move, [.tmp 21], none, true, 0, 0⟩])]
def F21o5 : IC := .ops F21p5
def F21p6 : OPS := [(.free, [⟨some 22, .move, [.tmp 6], none, false, 0, 0⟩, ⟨some 23, .nilCheck, [.tmp 22], none, false, 1, 1⟩, ⟨some 24, .fieldAddr 1, [.tmp 23], none, false, 2, 3⟩, ⟨some 25, .load none, [.tmp 24], none, false, 3, 7⟩, ⟨some 26, .move, [.tmp 6], none, false, 4, 0⟩, ⟨some 27, .nilCheck, [.tmp 26], none, false, 5, 16⟩, ⟨some 28, .fieldAddr 2, [.tmp 27], none, false, 6, 48⟩, ⟨some 29, .load none, [.tmp 28], none, false, 7, 112⟩, ⟨some 30, .move, [.tmp 6], none, false, 8, 0⟩, ⟨some 31, .nilCheck, [.tmp 30], none, false, 9, 256⟩, ⟨some 32, .fieldAddr 4, [.tmp 31], none, false, 10, 768⟩, ⟨some 33, .load none, [.tmp 32], none, false, 11, 1792⟩, ⟨some 34, .move, [.tmp 6], none, false, 12, 0⟩, ⟨some 35, .nilCheck, [.tmp 34], none, false, 13, 4096⟩, ⟨some 36, .fieldAddr 3, [.tmp 35], none, false, 14, 12288⟩, ⟨some 37, .load none, [.tmp 36], none, false, 15, 28672⟩, ⟨some 38, .lenSl, [.tmp 37], none, false, 16, 61440⟩, ⟨some 39, .build [.int .u8 0, .int .i64 0, .int .i64 0, .int .i64 0] [(0, 1), (1, 1), (2, 1), (3, 1)], [.tmp 25, .tmp 29, .tmp 33, .tmp 38], none, false, 17, 131071⟩, ⟨some 7, .alloc 59 4 [.int .u8 0, .int .i64 0, .int .i64 0, .int .i64 0], [], none, false, 18, 0⟩]), (.seq, [⟨none, .store 4, [.tmp 7, .tmp 39], none, true, 19, 524287⟩])]
def F21o6 : IC := .ops F21p6
def F21p7 : OPS := [(.seq, [⟨some 40, .move, [.tmp 0], none, true, 0, 0⟩, ⟨some 41, .nilCheck, [.tmp 40], none, true, 0, 0⟩, ⟨some 42, .fieldAddr 0, [.tmp 41], none, true, 0, 0⟩, ⟨some 43, .load none, [.tmp 42], none, true, 0, 0⟩])]
def F21o7 : IC := .ops F21p7
def F21p8 : OPS := [(.seq, [⟨some 44, .fieldAddr 0, [.tmp 7], none, true, 0, 0⟩, ⟨none, .store 1, [.tmp 44, .val (.int .u8 5)], none, true, 0, 0⟩])]
def F21o8 : IC := .ops F21p8
def F21p9 : OPS := [(.seq, [⟨some 45, .load (some 4), [.tmp 7], none, true, 0, 0⟩, ⟨none, .store 4, [.tmp 4, .tmp 45], none, true, 0, 0⟩, ⟨some 5, .move, [.val (.int .i64 0)], none, true, 0, 0⟩])]
def F21o9 : IC := .ops F21p9
def F21b : IC := .seq (F21o0) (.seq (.seq (F21o1) (.cond (.tmp 9) (.seq (F21o2) (.ret)) (.skip))) (.seq (.seq (F21o3) (.cond (.tmp 14) (.seq (F21o4) (.ret)) (.skip))) (.seq (F21o5) (.seq (F21o6) (.seq (.seq (F21o7) (.cond (.tmp 43) (F21o8) (.skip))) (.seq (F21o9) (.ret)))))))
def F21 : IFn := ⟨46, [(4, some (some 4)), (5, none)], F21b⟩
/- 22: (*gansey/workshops.Workshop).Take -/
def F22p0 : OPS := [(.seq, [⟨some 4, .move, [.val (.int .i64 0)], none, true, 0, 0⟩, ⟨some 5, .alloc 67 4 [.nilSlice, .nilSlice, .nilSlice, .nilSlice], [], none, true, 0, 0⟩, ⟨some 6, .move, [.val (.int .i64 0)], none, true, 0, 0⟩])]
def F22o0 : IC := .ops F22p0
def F22p1 : OPS := [(.seq, [⟨some 8, .move, [.tmp 0], none, true, 0, 0⟩, ⟨some 9, .call, [.val (.fn 47 [] []), .tmp 8], none, true, 0, 0⟩, ⟨some 6, .move, [.tmp 9], none, true, 0, 0⟩])]
def F22o1 : IC := .ops F22p1
def F22p2 : OPS := [(.seq, [⟨some 10, .move, [.tmp 6], none, true, 0, 0⟩, ⟨some 11, .bin .neq, [.tmp 10, .val (.int .i64 0)], none, true, 0, 0⟩])]
def F22o2 : IC := .ops F22p2
def F22p3 : OPS := [(.seq, [⟨some 12, .build [.nilSlice, .nilSlice, .nilSlice, .nilSlice] [], [], none, true, 0, 0⟩, ⟨some 13, .move, [.tmp 6], none, true, 0, 0⟩, ⟨some 4, .move, [.val (.int .i64 0)], none, true, 0, 0⟩, ⟨none, .store 4, [.tmp 5, .tmp 12], none, true, 0, 0⟩, ⟨some 6, .move, [.tmp 13], none, true, 0, 0⟩])]
def F22o3 : IC := .ops F22p3
def F22p4 : OPS := [(.seq, [⟨some 14, .move, [.tmp 0], none, true, 0, 0⟩, ⟨some 15, .move, [.tmp 1], none, true, 0, 0⟩, ⟨some 16, .call, [.val (.fn 46 [] []), .tmp 14, .tmp 15], none, true, 0, 0⟩, ⟨some 17, .un .not, [.tmp 16], none, true, 0, 0⟩])]
def F22o4 : IC := .ops F22p4
def F22p5 : OPS := [(.seq, [⟨some 18, .build [.nilSlice, .nilSlice, .nilSlice, .nilSlice] [], [], none, true, 0, 0⟩, ⟨some 4, .move, [.val (.int .i64 0)], none, true, 0, 0⟩, ⟨none, .store 4, [.tmp 5, .tmp 18], none, true, 0, 0⟩, ⟨some 6, .move, [.val (.int .i64 1)], none, true, 0, 0⟩])]
def F22o5 : IC := .ops F22p5
def F22p6 : OPS := [(.seq, [⟨some 19, .move, [.tmp 0], none, true, 0, 0⟩, ⟨some 20, .nilCheck, [.tmp 19], none, true, 0, 0⟩, ⟨some 21, .fieldAddr 1, [.tmp 20], none, true, 0, 0⟩, ⟨some 22, .load none, [.tmp 21], none, true, 0, 0⟩, ⟨some 23, .move, [.tmp 1], none, true, 0, 0⟩, ⟨some 24, .idxSl 14, [.tmp 22, .tmp 23], none, true, 0, 0⟩, ⟨some 7, .move, [.tmp 24], none, true, 0, 0⟩])]
def F22o6 : IC := .ops F22p6
def F22p7 : OPS := [(.seq, [⟨some 25, .move, [.tmp 7], none, true, 0, 0⟩, ⟨some 26, .nilCheck, [.tmp 25], none, true, 0, 0⟩, ⟨some 27, .fieldAddr 1, [.tmp 26], none, true, 0, 0⟩, ⟨some 28, .load none, [.tmp 27], none, true, 0, 0⟩, ⟨some 29, .bin .neq, [.tmp 28, .val (.int .u8 4)], none, true, 0, 0⟩])]
def F22o7 : IC := .ops F22p7
def F22p8 : OPS := [(.seq, [⟨some 30, .build [.nilSlice, .nilSlice, .nilSlice, .nilSlice] [], [], none, true, 0, 0⟩, ⟨some 4, .move, [.val (.int .i64 0)], none, true, 0, 0⟩, ⟨none, .store 4, [.tmp 5, .tmp 30], none, true, 0, 0⟩, ⟨some 6, .move, [.val (.int .i64 7)], none, true, 0, 0⟩])]
def F22o8 : IC := .ops F22p8
def F22p9 : OPS := [(.seq, [⟨some 31, .move, [.tmp 7], none, true, 0, 0⟩, ⟨some 32, .call, [.val (.fn 48 [] []), .tmp 31], none, true, 0, 0⟩])]
def F22o9 : IC := .ops F22p9
def F22p10 : OPS := [(.free, [⟨some 33, .move, [.tmp 7], none, false, 0, 0⟩, ⟨some 34, .nilCheck, [.tmp 33], none, false, 1, 1⟩, ⟨some 35, .fieldAddr 2, [.tmp 34], none, false, 2, 3⟩, ⟨some 36, .load none, [.tmp 35], none, false, 3, 7⟩, ⟨some 37, .move, [.tmp 7], none, false, 4, 0⟩, ⟨some 38, .nilCheck, [.tmp 37], none, false, 5, 16⟩, ⟨some 39, .fieldAddr 5, [.tmp 38], none, false, 6, 48⟩, ⟨some 40, .fieldAddr 4, [.tmp 39], none, false, 7, 112⟩, ⟨some 41, .load (some 4), [.tmp 40], none, false, 8, 240⟩, ⟨some 4, .move, [.tmp 36], none, false, 9, 15⟩]), (.seq, [⟨none, .store 4, [.tmp 5, .tmp 41], none, true, 10, 1023⟩])]
def F22o10 : IC := .ops F22p10
def F22p11 : OPS := [(.seq, [⟨some 42, .move, [.tmp 0], none, true, 0, 0⟩, ⟨some 43, .nilCheck, [.tmp 42], none, true, 0, 0⟩, ⟨some 44, .fieldAddr 1, [.tmp 43], none, true, 0, 0⟩, ⟨some 45, .load none, [.tmp 44], none, true, 0, 0⟩, ⟨some 46, .move, [.tmp 1], none, true, 0, 0⟩, ⟨some 47, .build [.nilSlice, .int .u8 0, .int .i64 0, .nilSlice, .int .i64 0, .int .i64 0, .nilSlice, .nilSlice, .nilSlice, .nilSlice, .nilSlice, .nilSlice, .nilSlice, .int .i64 0] [(1, 1)], [.val (.int .u8 1)], none, true, 0, 0⟩, ⟨some 48, .idxSl 14, [.tmp 45, .tmp 46], none, true, 0, 0⟩, ⟨none, .store 14, [.tmp 48, .tmp 47], none, true, 0, 0⟩])]
def F22o11 : IC := .ops F22p11
def F22p12 : OPS := [(.free, [⟨some 49, .move, [.tmp 4], none, false, 0, 0⟩, ⟨some 50, .load (some 4), [.tmp 5], none, true, 1, 0⟩, ⟨some 4, .move, [.tmp 49], none, false, 2, 1⟩]), (.seq, [⟨none, .store 4, [.tmp 5, .tmp 50], none, true, 3, 7⟩]), (.seq, [⟨some 6, .move, [.val (.int .i64 0)], none, true, 4, 15⟩])]
def F22o12 : IC := .ops F22p12
def F22b : IC := .seq (F22o0) (.seq (.seq (F22o1) (.seq (F22o2) (.cond (.tmp 11) (.seq (F22o3) (.ret)) (.skip)))) (.seq (.seq (F22o4) (.cond (.tmp 17) (.seq (F22o5) (.ret)) (.skip))) (.seq (F22o6) (.seq (.seq (F22o7) (.cond (.tmp 29) (.seq (F22o8) (.ret)) (.skip))) (.seq (F22o9) (.seq (F22o10) (.seq (F22o11) (.seq (F22o12) (.ret)))))))))
def F22 : IFn := ⟨51, [(4, none), (5, some (some 4)), (6, none)], F22b⟩
/- 23: (*gansey/workshops.Workshop).Break -/
def F23p0 : OPS := [(.seq, [⟨some 4, .move, [.val (.int .i64 0)], none, true, 0, 0⟩])]
def F23o0 : IC := .ops F23p0
def F23p1 : OPS := [(.seq, [⟨some 5, .move, [.tmp 0], none, true, 0, 0⟩, ⟨some 6, .move, [.tmp 1], none, true, 0, 0⟩, ⟨some 7, .call, [.val (.fn 49 [] []), .tmp 5, .tmp 6, .val (.int .u8 2), .val (.int .u8 3)], none, true, 0, 0⟩, ⟨some 4, .move, [.tmp 7], none, true, 0, 0⟩])]
def F23o1 : IC := .ops F23p1
def F23b : IC := .seq (F23o0) (.seq (F23o1) (.ret))
def F23 : IFn := ⟨8, [(4, none)], F23b⟩
/- 24: (*gansey/workshops.Workshop).Mend -/
def F24p0 : OPS := [(.seq, [⟨some 4, .move, [.val (.int .i64 0)], none, true, 0, 0⟩])]
def F24o0 : IC := .ops F24p0
def F24p1 : OPS := [(.seq, [⟨some 5, .move, [.tmp 0], none, true, 0, 0⟩, ⟨some 6, .move, [.tmp 1], none, true, 0, 0⟩, ⟨some 7, .call, [.val (.fn 49 [] []), .tmp 5, .tmp 6, .val (.int .u8 3), .val (.int .u8 2)], none, true, 0, 0⟩, ⟨some 4, .move, [.tmp 7], none, true, 0, 0⟩])]
def F24o1 : IC := .ops F24p1
def F24b : IC := .seq (F24o0) (.seq (F24o1) (.ret))
def F24 : IFn := ⟨8, [(4, none)], F24b⟩
/- 25: (*gansey/workshops.Workshop).Power -/
def F25p0 : OPS := [(.seq, [⟨some 2, .move, [.val (.int .i64 0)], none, true, 0, 0⟩])]
def F25o0 : IC := .ops F25p0
def F25p1 : OPS := [(.seq, [⟨some 7, .move, [.tmp 0], none, true, 0, 0⟩, ⟨some 8, .call, [.val (.fn 45 [] []), .tmp 7], none, true, 0, 0⟩])]
def F25o1 : IC := .ops F25p1
def F25p2 : OPS := [(.seq, [⟨some 2, .move, [.val (.int .i64 2)], none, true, 0, 0⟩])]
def F25o2 : IC := .ops F25p2
def F25p3 : OPS := [(.seq, [⟨some 9, .move, [.tmp 0], none, true, 0, 0⟩, ⟨some 10, .nilCheck, [.tmp 9], none, true, 0, 0⟩, ⟨some 11, .fieldAddr 0, [.tmp 10], none, true, 0, 0⟩, ⟨some 12, .load none, [.tmp 11], none, true, 0, 0⟩, ⟨some 13, .un .not, [.tmp 12], none, true, 0, 0⟩])]
def F25o3 : IC := .ops F25p3
def F25p4 : OPS := [(.seq, [⟨some 2, .move, [.val (.int .i64 6)], none, true, 0, 0⟩])]
def F25o4 : IC := .ops F25p4
def F25p5 : OPS := [(.seq, [⟨some 14, .move, [.tmp 0], none, true, 0, 0⟩, ⟨some 15, .nilCheck, [.tmp 14], none, true, 0, 0⟩, ⟨some 16, .fieldAddr 0, [.tmp 15], none, true, 0, 0⟩, ⟨none, .store 1, [.tmp 16, .val (.bool false)], none, true, 0, 0⟩])]
def F25o5 : IC := .ops F25p5
def F25p6 : OPS := [(.seq, [⟨some 17, .move, [.tmp 0], none, true, 0, 0⟩, ⟨some 18, .nilCheck, [.tmp 17], none, true, 0, 0⟩, ⟨some 19, .fieldAddr 1, [.tmp 18], none, true, 0, 0⟩, ⟨some 20, .load none, [.tmp 19], none, true, 0, 0⟩, ⟨some 21, .lenSl, [.tmp 20], none, true, 0, 0⟩, ⟨some 22, .move, [.val (.int .i64 0)], none, true, 0, 0⟩])]
def F25o6 : IC := .ops F25p6
def F25p7 : OPS := [(.seq, [⟨some 23, .bin .lss, [.tmp 22, .tmp 21], none, true, 0, 0⟩])]
def F25o7 : IC := .ops F25p7
def F25p8 : OPS := [(.seq, [⟨some 24, .move, [.tmp 22], none, true, 0, 0⟩, ⟨some 3, .move, [.tmp 24], none, true, 0, 0⟩])]
def F25o8 : IC := .ops F25p8
def F25p9 : OPS := [(.seq, [⟨some 25, .move, [.tmp 0], none, true, 0, 0⟩, ⟨some 26, .nilCheck, [.tmp 25], none, true, 0, 0⟩, ⟨some 27, .fieldAddr 1, [.tmp 26], none, true, 0, 0⟩, ⟨some 28, .load none, [.tmp 27], none, true, 0, 0⟩, ⟨some 29, .move, [.tmp 3], none, true, 0, 0⟩, ⟨some 30, .idxSl 14, [.tmp 28, .tmp 29], none, true, 0, 0⟩, ⟨some 4, .move, [.tmp 30], none, true, 0, 0⟩])]
def F25o9 : IC := .ops F25p9
def F25p10 : OPS := [(.seq, [⟨some 31, .move, [.tmp 4], none, true, 0, 0⟩, ⟨some 32, .nilCheck, [.tmp 31], none, true, 0, 0⟩, ⟨some 33, .fieldAddr 1, [.tmp 32], none, true, 0, 0⟩, ⟨some 34, .load none, [.tmp 33], none, true, 0, 0⟩, ⟨some 35, .bin .neq, [.tmp 34, .val (.int .u8 2)], none, true, 0, 0⟩, ⟨some 36, .move, [.tmp 35], none, true, 0, 0⟩, ⟨some 37, .move, [.tmp 4], some (36, true), true, 0, 0⟩, ⟨some 38, .nilCheck, [.tmp 37], some (36, true), true, 0, 0⟩, ⟨some 39, .fieldAddr 1, [.tmp 38], some (36, true), true, 0, 0⟩, ⟨some 40, .load none, [.tmp 39], some (36, true), true, 0, 0⟩, ⟨some 41, .bin .neq, [.tmp 40, .val (.int .u8 3)], some (36, true), true, 0, 0⟩, ⟨some 42, .pick, [.tmp 36, .tmp 41, .val (.bool false)], none, true, 0, 0⟩])]
def F25o10 : IC := .ops F25p10
def F25p11 : OPS := [(.seq, [⟨some 43, .move, [.tmp 4], none, true, 0, 0⟩, ⟨some 44, .call, [.val (.fn 48 [] []), .tmp 43], none, true, 0, 0⟩])]
def F25o11 : IC := .ops F25p11
def F25p12 : OPS := [(.free, [⟨some 46, .move, [.tmp 4], none, false, 0, 0⟩, ⟨some 47, .nilCheck, [.tmp 46], none, false, 1, 1⟩, ⟨some 48, .fieldAddr 3, [.tmp 47], none, false, 2, 3⟩, ⟨some 49, .load none, [.tmp 48], none, false, 3, 7⟩, ⟨some 50, .move, [.tmp 4], none, false, 4, 0⟩, ⟨some 51, .nilCheck, [.tmp 50], none, false, 5, 16⟩, ⟨some 52, .fieldAddr 0, [.tmp 51], none, false, 6, 48⟩, ⟨some 53, .fieldAddr 0, [.tmp 52], none, false, 7, 112⟩, ⟨some 54, .load none, [.tmp 53], none, false, 8, 240⟩, ⟨some 55, .move, [.tmp 4], none, false, 9, 0⟩, ⟨some 56, .nilCheck, [.tmp 55], none, false, 10, 512⟩, ⟨some 57, .fieldAddr 5, [.tmp 56], none, false, 11, 1536⟩, ⟨some 58, .load (some 8), [.tmp 57], none, false, 12, 3584⟩, ⟨some 59, .call, [.val (.fn 50 [] []), .tmp 58], none, false, 13, 7680⟩]), (.seq, [⟨some 60, .call, [.val (.fn 30 [] []), .tmp 49, .tmp 54, .tmp 59], none, true, 14, 16383⟩]), (.seq, [⟨some 45, .move, [.tmp 60], none, true, 15, 32767⟩]), (.free, [⟨some 61, .extract 0, [.tmp 45], none, true, 16, 65535⟩, ⟨some 62, .extract 1, [.tmp 45], none, true, 17, 65535⟩, ⟨some 5, .move, [.tmp 61], none, true, 18, 131071⟩]), (.seq, [⟨some 6, .move, [.tmp 62], none, true, 19, 524287⟩])]
def F25o12 : IC := .ops F25p12
def F25p13 : OPS := [(.seq, [⟨some 63, .move, [.tmp 6], none, true, 0, 0⟩, ⟨some 64, .bin .eql, [.tmp 63, .val (.int .i64 0)], none, true, 0, 0⟩])]
def F25o13 : IC := .ops F25p13
def F25p14 : OPS := [(.seq, [⟨some 65, .move, [.tmp 4], none, true, 0, 0⟩, ⟨some 66, .move, [.tmp 4], none, true, 0, 0⟩, ⟨some 67, .move, [.tmp 5], none, true, 0, 0⟩, ⟨some 68, .move, [.tmp 5], none, true, 0, 0⟩, ⟨some 69, .nilCheck, [.tmp 65], none, true, 0, 0⟩, ⟨some 70, .fieldAddr 4, [.tmp 69], none, true, 0, 0⟩, ⟨none, .store 1, [.tmp 70, .tmp 67], none, true, 0, 0⟩, ⟨some 71, .nilCheck, [.tmp 66], none, true, 0, 0⟩, ⟨some 72, .fieldAddr 13, [.tmp 71], none, true, 0, 0⟩, ⟨none, .store 1, [.tmp 72, .tmp 68], none, true, 0, 0⟩])]
def F25o14 : IC := .ops F25p14
def F25p15 : OPS := [(.seq, [⟨some 73, .move, [.tmp 4], none, true, 0, 0⟩, ⟨some 74, .call, [.val (.fn 51 [] []), .tmp 73], none, true, 0, 0⟩])]
def F25o15 : IC := .ops F25p15
def F25p16 : OPS := [(.seq, [⟨some 75, .bin .add, [.tmp 22, .val (.int .i64 1)], none, true, 0, 0⟩, ⟨some 22, .move, [.tmp 75], none, true, 0, 0⟩])]
def F25o16 : IC := .ops F25p16
def F25l17 : IC := .seq (F25o7) (.seq (.cond (.tmp 23) (.skip) (.exit 0)) (.seq (.block 1 (.seq (F25o8) (.seq (F25o9) (.seq (.seq (F25o10) (.cond (.tmp 42) (.exit 1) (.skip))) (.seq (F25o11) (.seq (.seq (F25o12) (.seq (F25o13) (.cond (.tmp 64) (F25o14) (.skip)))) (F25o15))))))) (F25o16)))
def F25p18 : OPS := [(.seq, [⟨some 2, .move, [.val (.int .i64 0)], none, true, 0, 0⟩])]
def F25o18 : IC := .ops F25p18
def F25b : IC := .seq (F25o0) (.seq (.seq (F25o1) (.cond (.tmp 8) (.seq (F25o2) (.ret)) (.skip))) (.seq (.seq (F25o3) (.cond (.tmp 13) (.seq (F25o4) (.ret)) (.skip))) (.seq (F25o5) (.seq (.seq (F25o6) (.block 0 (.loop F25l17))) (.seq (F25o18) (.ret))))))
def F25 : IFn := ⟨76, [(2, none)], F25b⟩
/- 26: (*gansey/workshops.Workshop).Tick -/
def F26p0 : OPS := [(.seq, [⟨some 4, .move, [.val (.int .i64 0)], none, true, 0, 0⟩])]
def F26o0 : IC := .ops F26p0
def F26p1 : OPS := [(.seq, [⟨some 10, .move, [.tmp 0], none, true, 0, 0⟩, ⟨some 11, .call, [.val (.fn 47 [] []), .tmp 10], none, true, 0, 0⟩, ⟨some 5, .move, [.tmp 11], none, true, 0, 0⟩])]
def F26o1 : IC := .ops F26p1
def F26p2 : OPS := [(.seq, [⟨some 12, .move, [.tmp 5], none, true, 0, 0⟩, ⟨some 13, .bin .neq, [.tmp 12, .val (.int .i64 0)], none, true, 0, 0⟩])]
def F26o2 : IC := .ops F26p2
def F26p3 : OPS := [(.seq, [⟨some 14, .move, [.tmp 5], none, true, 0, 0⟩, ⟨some 4, .move, [.tmp 14], none, true, 0, 0⟩])]
def F26o3 : IC := .ops F26p3
def F26p4 : OPS := [(.seq, [⟨some 15, .move, [.tmp 1], none, true, 0, 0⟩, ⟨some 16, .bin .lss, [.tmp 15, .val (.int .i64 0)], none, true, 0, 0⟩, ⟨some 17, .move, [.tmp 16], none, true, 0, 0⟩, ⟨some 18, .move, [.tmp 1], some (17, false), true, 0, 0⟩, ⟨some 19, .bin .gtr, [.tmp 18, .val (.int .i64 100000)], some (17, false), true, 0, 0⟩, ⟨some 20, .pick, [.tmp 17, .val (.bool true), .tmp 19], none, true, 0, 0⟩])]
def F26o4 : IC := .ops F26p4
def F26p5 : OPS := [(.seq, [⟨some 4, .move, [.val (.int .i64 1)], none, true, 0, 0⟩])]
def F26o5 : IC := .ops F26p5
def F26p6 : OPS := [(.seq, [⟨some 21, .mkmap, [], none, true, 0, 0⟩, ⟨none, .mapUpd (false, [.int]), [.tmp 21, .val (.int .u8 1), .val (.fn 52 [] [])], none, true, 0, 0⟩, ⟨none, .mapUpd (false, [.int]), [.tmp 21, .val (.int .u8 2), .val (.fn 53 [] [])], none, true, 0, 0⟩, ⟨none, .mapUpd (false, [.int]), [.tmp 21, .val (.int .u8 3), .val (.fn 52 [] [])], none, true, 0, 0⟩, ⟨none, .mapUpd (false, [.int]), [.tmp 21, .val (.int .u8 4), .val (.fn 52 [] [])], none, true, 0, 0⟩, ⟨some 22, .move, [.tmp 21], none, true, 0, 0⟩, ⟨some 6, .move, [.tmp 22], none, true, 0, 0⟩])]
def F26o6 : IC := .ops F26p6
def F26p7 : OPS := [(.seq, [⟨some 7, .move, [.val (.bool true)], none, true, 0, 0⟩])]
def F26o7 : IC := .ops F26p7
def F26p8 : OPS := [(.seq, [⟨some 23, .move, [.tmp 1], none, true, 0, 0⟩, ⟨some 24, .bin .gtr, [.tmp 23, .val (.int .i64 0)], none, true, 0, 0⟩, ⟨some 25, .move, [.tmp 24], none, true, 0, 0⟩, ⟨some 26, .move, [.tmp 7], some (25, true), true, 0, 0⟩, ⟨some 27, .pick, [.tmp 25, .tmp 26, .val (.bool false)], none, true, 0, 0⟩])]
def F26o8 : IC := .ops F26p8
def F26p9 : OPS := [(.seq, [⟨some 7, .move, [.val (.bool false)], none, true, 0, 0⟩])]
def F26o9 : IC := .ops F26p9
def F26p10 : OPS := [(.seq, [⟨some 30, .move, [.tmp 0], none, true, 0, 0⟩, ⟨some 31, .nilCheck, [.tmp 30], none, true, 0, 0⟩, ⟨some 32, .fieldAddr 1, [.tmp 31], none, true, 0, 0⟩, ⟨some 33, .load none, [.tmp 32], none, true, 0, 0⟩, ⟨some 34, .lenSl, [.tmp 33], none, true, 0, 0⟩, ⟨some 35, .move, [.val (.int .i64 0)], none, true, 0, 0⟩])]
def F26o10 : IC := .ops F26p10
def F26p11 : OPS := [(.seq, [⟨some 36, .bin .lss, [.tmp 35, .tmp 34], none, true, 0, 0⟩])]
def F26o11 : IC := .ops F26p11
def F26p12 : OPS := [(.seq, [⟨some 37, .move, [.tmp 35], none, true, 0, 0⟩, ⟨some 8, .move, [.tmp 37], none, true, 0, 0⟩])]
def F26o12 : IC := .ops F26p12
def F26p13 : OPS := [(.seq, [⟨some 38, .move, [.tmp 0], none, true, 0, 0⟩, ⟨some 39, .nilCheck, [.tmp 38], none, true, 0, 0⟩, ⟨some 40, .fieldAddr 1, [.tmp 39], none, true, 0, 0⟩, ⟨some 41, .load none, [.tmp 40], none, true, 0, 0⟩, ⟨some 42, .move, [.tmp 8], none, true, 0, 0⟩, ⟨some 43, .idxSl 14, [.tmp 41, .tmp 42], none, true, 0, 0⟩, ⟨some 9, .move, [.tmp 43], none, true, 0, 0⟩])]
def F26o13 : IC := .ops F26p13
def F26p14 : OPS := [(.seq, [⟨some 44, .move, [.tmp 7], none, true, 0, 0⟩, ⟨some 45, .move, [.tmp 44], none, true, 0, 0⟩, ⟨some 46, .move, [.tmp 9], some (45, false), true, 0, 0⟩, ⟨some 47, .nilCheck, [.tmp 46], some (45, false), true, 0, 0⟩, ⟨some 48, .fieldAddr 1, [.tmp 47], some (45, false), true, 0, 0⟩, ⟨some 49, .load none, [.tmp 48], some (45, false), true, 0, 0⟩, ⟨some 50, .bin .eql, [.tmp 49, .val (.int .u8 2)], some (45, false), true, 0, 0⟩, ⟨some 51, .pick, [.tmp 45, .val (.bool true), .tmp 50], none, true, 0, 0⟩, ⟨some 7, .move, [.tmp 51], none, true, 0, 0⟩])]
def F26o14 : IC := .ops F26p14
def F26p15 : OPS := [(.seq, [⟨some 52, .move, [.tmp 6], none, true, 0, 0⟩, ⟨some 53, .move, [.tmp 9], none, true, 0, 0⟩, ⟨some 54, .nilCheck, [.tmp 53], none, true, 0, 0⟩, ⟨some 55, .fieldAddr 1, [.tmp 54], none, true, 0, 0⟩, ⟨some 56, .load none, [.tmp 55], none, true, 0, 0⟩, ⟨some 57, .lookup 121 (false, [.int]) (.nilFunc) false, [.tmp 52, .tmp 56], none, true, 0, 0⟩, ⟨some 58, .move, [.tmp 9], none, true, 0, 0⟩, ⟨some 59, .call, [.tmp 57, .tmp 58], none, true, 0, 0⟩])]
def F26o15 : IC := .ops F26p15
def F26p16 : OPS := [(.seq, [⟨some 60, .bin .add, [.tmp 35, .val (.int .i64 1)], none, true, 0, 0⟩, ⟨some 35, .move, [.tmp 60], none, true, 0, 0⟩])]
def F26o16 : IC := .ops F26p16
def F26l17 : IC := .seq (F26o11) (.seq (.cond (.tmp 36) (.skip) (.exit 2)) (.seq (.block 3 (.seq (F26o12) (.seq (F26o13) (.seq (F26o14) (F26o15))))) (F26o16)))
def F26p18 : OPS := [(.seq, [⟨some 28, .move, [.tmp 1], none, true, 0, 0⟩, ⟨some 29, .bin .sub, [.tmp 28, .val (.int .i64 1)], none, true, 0, 0⟩, ⟨some 1, .move, [.tmp 29], none, true, 0, 0⟩])]
def F26o18 : IC := .ops F26p18
def F26l19 : IC := .seq (.seq (F26o8) (.cond (.tmp 27) (.skip) (.exit 0))) (.seq (.block 1 (.seq (F26o9) (.seq (F26o10) (.block 2 (.loop F26l17))))) (F26o18))
def F26p20 : OPS := [(.seq, [⟨some 4, .move, [.val (.int .i64 0)], none, true, 0, 0⟩])]
def F26o20 : IC := .ops F26p20
def F26b : IC := .seq (F26o0) (.seq (.seq (F26o1) (.seq (F26o2) (.cond (.tmp 13) (.seq (F26o3) (.ret)) (.skip)))) (.seq (.seq (F26o4) (.cond (.tmp 20) (.seq (F26o5) (.ret)) (.skip))) (.seq (F26o6) (.seq (.seq (F26o7) (.block 0 (.loop F26l19))) (.seq (F26o20) (.ret))))))
def F26 : IFn := ⟨61, [(4, none)], F26b⟩
/- 27: (*gansey/workshops.Workshop).Cut -/
def F27p0 : OPS := [(.seq, [⟨some 4, .move, [.val (.int .i64 0)], none, true, 0, 0⟩])]
def F27o0 : IC := .ops F27p0
def F27p1 : OPS := [(.seq, [⟨some 10, .move, [.tmp 0], none, true, 0, 0⟩, ⟨some 11, .call, [.val (.fn 47 [] []), .tmp 10], none, true, 0, 0⟩, ⟨some 5, .move, [.tmp 11], none, true, 0, 0⟩])]
def F27o1 : IC := .ops F27p1
def F27p2 : OPS := [(.seq, [⟨some 12, .move, [.tmp 5], none, true, 0, 0⟩, ⟨some 13, .bin .neq, [.tmp 12, .val (.int .i64 0)], none, true, 0, 0⟩])]
def F27o2 : IC := .ops F27p2
def F27p3 : OPS := [(.seq, [⟨some 14, .move, [.tmp 5], none, true, 0, 0⟩, ⟨some 4, .move, [.tmp 14], none, true, 0, 0⟩])]
def F27o3 : IC := .ops F27p3
def F27p4 : OPS := [(.seq, [⟨some 15, .move, [.tmp 1], none, true, 0, 0⟩, ⟨some 16, .lenSl, [.tmp 15], none, true, 0, 0⟩, ⟨some 17, .move, [.tmp 0], none, true, 0, 0⟩, ⟨some 18, .nilCheck, [.tmp 17], none, true, 0, 0⟩, ⟨some 19, .fieldAddr 1, [.tmp 18], none, true, 0, 0⟩, ⟨some 20, .load none, [.tmp 19], none, true, 0, 0⟩, ⟨some 21, .lenSl, [.tmp 20], none, true, 0, 0⟩, ⟨some 22, .bin .gtr, [.tmp 16, .tmp 21], none, true, 0, 0⟩])]
def F27o4 : IC := .ops F27p4
def F27p5 : OPS := [(.seq, [⟨some 4, .move, [.val (.int .i64 1)], none, true, 0, 0⟩])]
def F27o5 : IC := .ops F27p5
def F27p6 : OPS := [(.seq, [⟨some 23, .move, [.tmp 1], none, true, 0, 0⟩, ⟨some 24, .lenSl, [.tmp 23], none, true, 0, 0⟩, ⟨some 25, .move, [.val (.int .i64 0)], none, true, 0, 0⟩])]
def F27o6 : IC := .ops F27p6
def F27p7 : OPS := [(.seq, [⟨some 26, .bin .lss, [.tmp 25, .tmp 24], none, true, 0, 0⟩])]
def F27o7 : IC := .ops F27p7
def F27p8 : OPS := [(.seq, [⟨some 27, .idxSl 1, [.tmp 23, .tmp 25], none, true, 0, 0⟩, ⟨some 28, .load none, [.tmp 27], none, true, 0, 0⟩, ⟨some 7, .move, [.tmp 28], none, true, 0, 0⟩])]
def F27o8 : IC := .ops F27p8
def F27p9 : OPS := [(.seq, [⟨some 29, .move, [.tmp 7], none, true, 0, 0⟩, ⟨some 30, .bin .lss, [.tmp 29, .val (.int .i64 0)], none, true, 0, 0⟩, ⟨some 31, .move, [.tmp 30], none, true, 0, 0⟩, ⟨some 32, .move, [.tmp 7], some (31, false), true, 0, 0⟩, ⟨some 33, .bin .gtr, [.tmp 32, .val (.int .i64 10)], some (31, false), true, 0, 0⟩, ⟨some 34, .pick, [.tmp 31, .val (.bool true), .tmp 33], none, true, 0, 0⟩])]
def F27o9 : IC := .ops F27p9
def F27p10 : OPS := [(.seq, [⟨some 4, .move, [.val (.int .i64 1)], none, true, 0, 0⟩])]
def F27o10 : IC := .ops F27p10
def F27p11 : OPS := [(.seq, [⟨some 35, .bin .add, [.tmp 25, .val (.int .i64 1)], none, true, 0, 0⟩, ⟨some 25, .move, [.tmp 35], none, true, 0, 0⟩])]
def F27o11 : IC := .ops F27p11
def F27l12 : IC := .seq (F27o7) (.seq (.cond (.tmp 26) (.skip) (.exit 0)) (.seq (.block 1 (.seq (F27o8) (.seq (F27o9) (.cond (.tmp 34) (.seq (F27o10) (.ret)) (.skip))))) (F27o11)))
def F27p13 : OPS := [(.seq, [⟨some 36, .move, [.tmp 0], none, true, 0, 0⟩, ⟨some 37, .nilCheck, [.tmp 36], none, true, 0, 0⟩, ⟨some 38, .fieldAddr 1, [.tmp 37], none, true, 0, 0⟩, ⟨some 39, .load none, [.tmp 38], none, true, 0, 0⟩, ⟨some 40, .lenSl, [.tmp 39], none, true, 0, 0⟩, ⟨some 41, .move, [.val (.int .i64 0)], none, true, 0, 0⟩])]
def F27o13 : IC := .ops F27p13
def F27p14 : OPS := [(.seq, [⟨some 42, .bin .lss, [.tmp 41, .tmp 40], none, true, 0, 0⟩])]
def F27o14 : IC := .ops F27p14
def F27p15 : OPS := [(.seq, [⟨some 43, .move, [.tmp 41], none, true, 0, 0⟩, ⟨some 8, .move, [.tmp 43], none, true, 0, 0⟩])]
def F27o15 : IC := .ops F27p15
def F27p16 : OPS := [(.seq, [⟨some 9, .move, [.val (.int .i64 0)], none, true, 0, 0⟩])]
def F27o16 : IC := .ops F27p16
def F27p17 : OPS := [(.seq, [⟨some 44, .move, [.tmp 8], none, true, 0, 0⟩, ⟨some 45, .move, [.tmp 1], none, true, 0, 0⟩, ⟨some 46, .lenSl, [.tmp 45], none, true, 0, 0⟩, ⟨some 47, .bin .lss, [.tmp 44, .tmp 46], none, true, 0, 0⟩])]
def F27o17 : IC := .ops F27p17
def F27p18 : OPS := [(.seq, [⟨some 48, .move, [.tmp 1], none, true, 0, 0⟩, ⟨some 49, .move, [.tmp 8], none, true, 0, 0⟩, ⟨some 50, .idxSl 1, [.tmp 48, .tmp 49], none, true, 0, 0⟩, ⟨some 51, .load none, [.tmp 50], none, true, 0, 0⟩, ⟨some 9, .move, [.tmp 51], none, true, 0, 0⟩])]
def F27o18 : IC := .ops F27p18
def F27p19 : OPS := [(.seq, [⟨some 52, .move, [.tmp 0], none, true, 0, 0⟩, ⟨some 53, .nilCheck, [.tmp 52], none, true, 0, 0⟩, ⟨some 54, .fieldAddr 1, [.tmp 53], none, true, 0, 0⟩, ⟨some 55, .load none, [.tmp 54], none, true, 0, 0⟩, ⟨some 56, .move, [.tmp 8], none, true, 0, 0⟩, ⟨some 57, .idxSl 14, [.tmp 55, .tmp 56], none, true, 0, 0⟩, ⟨some 58, .fieldAddr 1, [.tmp 57], none, true, 0, 0⟩, ⟨some 59, .load none, [.tmp 58], none, true, 0, 0⟩, ⟨some 60, .bin .eql, [.tmp 59, .val (.int .u8 2)], none, true, 0, 0⟩])]
def F27o19 : IC := .ops F27p19
def F27p20 : OPS := [(.seq, [⟨some 61, .move, [.tmp 0], none, true, 0, 0⟩, ⟨some 62, .nilCheck, [.tmp 61], none, true, 0, 0⟩, ⟨some 63, .fieldAddr 1, [.tmp 62], none, true, 0, 0⟩, ⟨some 64, .load none, [.tmp 63], none, true, 0, 0⟩, ⟨some 65, .move, [.tmp 8], none, true, 0, 0⟩, ⟨some 66, .idxSl 14, [.tmp 64, .tmp 65], none, true, 0, 0⟩, ⟨some 67, .move, [.tmp 9], none, true, 0, 0⟩, ⟨some 68, .call, [.val (.fn 54 [] []), .tmp 66, .tmp 67], none, true, 0, 0⟩])]
def F27o20 : IC := .ops F27p20
def F27p21 : OPS := [(.seq, [⟨some 69, .bin .add, [.tmp 41, .val (.int .i64 1)], none, true, 0, 0⟩, ⟨some 41, .move, [.tmp 69], none, true, 0, 0⟩])]
def F27o21 : IC := .ops F27p21
def F27l22 : IC := .seq (F27o14) (.seq (.cond (.tmp 42) (.skip) (.exit 2)) (.seq (.block 3 (.seq (F27o15) (.seq (F27o16) (.seq (.seq (F27o17) (.cond (.tmp 47) (F27o18) (.skip))) (.seq (F27o19) (.cond (.tmp 60) (F27o20) (.skip))))))) (F27o21)))
def F27p23 : OPS := [(.seq, [⟨some 70, .move, [.tmp 0], none, true, 0, 0⟩, ⟨some 71, .nilCheck, [.tmp 70], none, true, 0, 0⟩, ⟨some 72, .fieldAddr 0, [.tmp 71], none, true, 0, 0⟩, ⟨none, .store 1, [.tmp 72, .val (.bool true)], none, true, 0, 0⟩])]
def F27o23 : IC := .ops F27p23
def F27p24 : OPS := [(.seq, [⟨some 4, .move, [.val (.int .i64 0)], none, true, 0, 0⟩])]
def F27o24 : IC := .ops F27p24
def F27b : IC := .seq (F27o0) (.seq (.seq (F27o1) (.seq (F27o2) (.cond (.tmp 13) (.seq (F27o3) (.ret)) (.skip)))) (.seq (.seq (F27o4) (.cond (.tmp 22) (.seq (F27o5) (.ret)) (.skip))) (.seq (.seq (F27o6) (.block 0 (.loop F27l12))) (.seq (.seq (F27o13) (.block 2 (.loop F27l22))) (.seq (F27o23) (.seq (F27o24) (.ret)))))))
def F27 : IFn := ⟨73, [(4, none)], F27b⟩
/- 28: (*gansey/workshops.Workshop).Start -/
def F28p0 : OPS := [(.seq, [⟨some 8, .move, [.val (.int .i64 0)], none, true, 0, 0⟩])]
def F28o0 : IC := .ops F28p0
def F28p1 : OPS := [(.seq, [⟨some 13, .move, [.tmp 0], none, true, 0, 0⟩, ⟨some 14, .call, [.val (.fn 47 [] []), .tmp 13], none, true, 0, 0⟩, ⟨some 9, .move, [.tmp 14], none, true, 0, 0⟩])]
def F28o1 : IC := .ops F28p1
def F28p2 : OPS := [(.seq, [⟨some 15, .move, [.tmp 9], none, true, 0, 0⟩, ⟨some 16, .bin .neq, [.tmp 15, .val (.int .i64 0)], none, true, 0, 0⟩])]
def F28o2 : IC := .ops F28p2
def F28p3 : OPS := [(.seq, [⟨some 17, .move, [.tmp 9], none, true, 0, 0⟩, ⟨some 8, .move, [.tmp 17], none, true, 0, 0⟩])]
def F28o3 : IC := .ops F28p3
def F28p4 : OPS := [(.seq, [⟨some 18, .move, [.tmp 0], none, true, 0, 0⟩, ⟨some 19, .move, [.tmp 1], none, true, 0, 0⟩, ⟨some 20, .call, [.val (.fn 46 [] []), .tmp 18, .tmp 19], none, true, 0, 0⟩, ⟨some 21, .un .not, [.tmp 20], none, true, 0, 0⟩, ⟨some 22, .move, [.tmp 21], none, true, 0, 0⟩, ⟨some 23, .move, [.tmp 2], some (22, false), true, 0, 0⟩, ⟨some 24, .bin .lss, [.tmp 23, .val (.int .i64 1)], some (22, false), true, 0, 0⟩, ⟨some 25, .pick, [.tmp 22, .val (.bool true), .tmp 24], none, true, 0, 0⟩])]
def F28o4 : IC := .ops F28p4
def F28p5 : OPS := [(.seq, [⟨some 8, .move, [.val (.int .i64 1)], none, true, 0, 0⟩])]
def F28o5 : IC := .ops F28p5
def F28p6 : OPS := [(.seq, [⟨some 26, .move, [.tmp 0], none, true, 0, 0⟩, ⟨some 27, .nilCheck, [.tmp 26], none, true, 0, 0⟩, ⟨some 28, .fieldAddr 1, [.tmp 27], none, true, 0, 0⟩, ⟨some 29, .load none, [.tmp 28], none, true, 0, 0⟩, ⟨some 30, .move, [.tmp 1], none, true, 0, 0⟩, ⟨some 31, .idxSl 14, [.tmp 29, .tmp 30], none, true, 0, 0⟩, ⟨some 32, .fieldAddr 1, [.tmp 31], none, true, 0, 0⟩, ⟨some 33, .load none, [.tmp 32], none, true, 0, 0⟩, ⟨some 34, .bin .neq, [.tmp 33, .val (.int .u8 1)], none, true, 0, 0⟩])]
def F28o6 : IC := .ops F28p6
def F28p7 : OPS := [(.seq, [⟨some 8, .move, [.val (.int .i64 6)], none, true, 0, 0⟩])]
def F28o7 : IC := .ops F28p7
def F28p8 : OPS := [(.seq, [⟨some 36, .call, [.val (.fn 56 [] [])], none, true, 0, 0⟩, ⟨some 37, .move, [.tmp 3], none, true, 0, 0⟩, ⟨some 38, .call, [.val (.fn 55 [] []), .tmp 36, .tmp 37], none, true, 0, 0⟩, ⟨some 35, .move, [.tmp 38], none, true, 0, 0⟩, ⟨some 39, .extract 0, [.tmp 35], none, true, 0, 0⟩, ⟨some 40, .extract 1, [.tmp 35], none, true, 0, 0⟩, ⟨some 41, .extract 2, [.tmp 35], none, true, 0, 0⟩, ⟨some 10, .alloc 113 8 [.int .i64 0, .nilSlice, .nilSlice, .nilSlice, .nilSlice, .nilSlice, .nilSlice, .nilSlice], [], none, true, 0, 0⟩, ⟨none, .store 8, [.tmp 10, .tmp 39], none, true, 0, 0⟩, ⟨some 11, .move, [.tmp 40], none, true, 0, 0⟩, ⟨some 12, .move, [.tmp 41], none, true, 0, 0⟩])]
def F28o8 : IC := .ops F28p8
def F28p9 : OPS := [(.seq, [⟨some 42, .move, [.tmp 12], none, true, 0, 0⟩, ⟨some 43, .bin .neq, [.tmp 42, .val (.int .i64 0)], none, true, 0, 0⟩])]
def F28o9 : IC := .ops F28p9
def F28p10 : OPS := [(.seq, [⟨some 44, .move, [.tmp 12], none, true, 0, 0⟩, ⟨some 8, .move, [.tmp 44], none, true, 0, 0⟩])]
def F28o10 : IC := .ops F28p10
def F28p11 : OPS := [(.seq, [⟨some 45, .load (some 8), [.tmp 10], none, true, 0, 0⟩, ⟨some 46, .call, [.val (.fn 57 [] []), .tmp 45], none, true, 0, 0⟩, ⟨some 47, .un .not, [.tmp 46], none, true, 0, 0⟩])]
def F28o11 : IC := .ops F28p11
def F28p12 : OPS := [(.seq, [⟨some 8, .move, [.val (.int .i64 17)], none, true, 0, 0⟩])]
def F28o12 : IC := .ops F28p12
def F28p13 : OPS := [(.free, [⟨some 48, .move, [.tmp 0], none, false, 0, 0⟩, ⟨some 49, .nilCheck, [.tmp 48], none, false, 1, 1⟩, ⟨some 50, .fieldAddr 1, [.tmp 49], none, false, 2, 3⟩, ⟨some 51, .load none, [.tmp 50], none, false, 3, 7⟩, ⟨some 52, .move, [.tmp 1], none, false, 4, 0⟩, ⟨some 53, .move, [.tmp 2], none, false, 5, 0⟩, ⟨some 54, .move, [.tmp 3], none, false, 6, 0⟩, ⟨some 55, .call, [.val (.fn 58 [] []), .tmp 54], none, false, 7, 64⟩, ⟨some 56, .call, [.val (.fn 56 [] [])], none, false, 8, 192⟩, ⟨some 57, .build [.nilSlice, .int .u8 0, .int .i64 0, .nilSlice, .int .i64 0, .int .i64 0, .nilSlice, .nilSlice, .nilSlice, .nilSlice, .nilSlice, .nilSlice, .nilSlice, .int .i64 0] [(1, 1), (2, 1), (3, 1), (5, 8)], [.val (.int .u8 2), .tmp 53, .tmp 55, .tmp 56], none, false, 9, 480⟩]), (.seq, [⟨some 58, .idxSl 14, [.tmp 51, .tmp 52], none, true, 10, 1023⟩]), (.seq, [⟨none, .store 14, [.tmp 58, .tmp 57], none, true, 11, 2047⟩])]
def F28o13 : IC := .ops F28p13
def F28p14 : OPS := [(.seq, [⟨some 59, .move, [.tmp 0], none, true, 0, 0⟩, ⟨some 60, .nilCheck, [.tmp 59], none, true, 0, 0⟩, ⟨some 61, .fieldAddr 1, [.tmp 60], none, true, 0, 0⟩, ⟨some 62, .load none, [.tmp 61], none, true, 0, 0⟩, ⟨some 63, .move, [.tmp 1], none, true, 0, 0⟩, ⟨some 64, .idxSl 14, [.tmp 62, .tmp 63], none, true, 0, 0⟩, ⟨some 65, .call, [.val (.fn 51 [] []), .tmp 64], none, true, 0, 0⟩])]
def F28o14 : IC := .ops F28p14
def F28p15 : OPS := [(.seq, [⟨some 8, .move, [.val (.int .i64 0)], none, true, 0, 0⟩])]
def F28o15 : IC := .ops F28p15
def F28b : IC := .seq (F28o0) (.seq (.seq (F28o1) (.seq (F28o2) (.cond (.tmp 16) (.seq (F28o3) (.ret)) (.skip)))) (.seq (.seq (F28o4) (.cond (.tmp 25) (.seq (F28o5) (.ret)) (.skip))) (.seq (.seq (F28o6) (.cond (.tmp 34) (.seq (F28o7) (.ret)) (.skip))) (.seq (F28o8) (.seq (.seq (F28o9) (.cond (.tmp 43) (.seq (F28o10) (.ret)) (.skip))) (.seq (.seq (F28o11) (.cond (.tmp 47) (.seq (F28o12) (.ret)) (.skip))) (.seq (F28o13) (.seq (F28o14) (.seq (F28o15) (.ret))))))))))
def F28 : IFn := ⟨66, [(8, none)], F28b⟩
/- 29: (*gansey/workshops.Workshop).Idle -/
def F29p0 : OPS := [(.seq, [⟨some 2, .move, [.val (.nilSlice)], none, true, 0, 0⟩])]
def F29o0 : IC := .ops F29p0
def F29p1 : OPS := [(.seq, [⟨some 5, .move, [.tmp 0], none, true, 0, 0⟩, ⟨some 6, .call, [.val (.fn 47 [] []), .tmp 5], none, true, 0, 0⟩, ⟨some 7, .bin .neq, [.tmp 6, .val (.int .i64 0)], none, true, 0, 0⟩])]
def F29o1 : IC := .ops F29p1
def F29p2 : OPS := [(.seq, [⟨some 2, .move, [.val (.nilSlice)], none, true, 0, 0⟩])]
def F29o2 : IC := .ops F29p2
def F29p3 : OPS := [(.seq, [⟨some 3, .move, [.val (.nilSlice)], none, true, 0, 0⟩])]
def F29o3 : IC := .ops F29p3
def F29p4 : OPS := [(.seq, [⟨some 8, .move, [.tmp 0], none, true, 0, 0⟩, ⟨some 9, .nilCheck, [.tmp 8], none, true, 0, 0⟩, ⟨some 10, .fieldAddr 1, [.tmp 9], none, true, 0, 0⟩, ⟨some 11, .load none, [.tmp 10], none, true, 0, 0⟩, ⟨some 12, .lenSl, [.tmp 11], none, true, 0, 0⟩, ⟨some 13, .move, [.val (.int .i64 0)], none, true, 0, 0⟩])]
def F29o4 : IC := .ops F29p4
def F29p5 : OPS := [(.seq, [⟨some 14, .bin .lss, [.tmp 13, .tmp 12], none, true, 0, 0⟩])]
def F29o5 : IC := .ops F29p5
def F29p6 : OPS := [(.seq, [⟨some 15, .move, [.tmp 13], none, true, 0, 0⟩, ⟨some 4, .move, [.tmp 15], none, true, 0, 0⟩])]
def F29o6 : IC := .ops F29p6
def F29p7 : OPS := [(.seq, [⟨some 16, .move, [.tmp 0], none, true, 0, 0⟩, ⟨some 17, .nilCheck, [.tmp 16], none, true, 0, 0⟩, ⟨some 18, .fieldAddr 1, [.tmp 17], none, true, 0, 0⟩, ⟨some 19, .load none, [.tmp 18], none, true, 0, 0⟩, ⟨some 20, .move, [.tmp 4], none, true, 0, 0⟩, ⟨some 21, .idxSl 14, [.tmp 19, .tmp 20], none, true, 0, 0⟩, ⟨some 22, .fieldAddr 1, [.tmp 21], none, true, 0, 0⟩, ⟨some 23, .load none, [.tmp 22], none, true, 0, 0⟩, ⟨some 24, .bin .eql, [.tmp 23, .val (.int .u8 1)], none, true, 0, 0⟩])]
def F29o7 : IC := .ops F29p7
def F29p8 : OPS := [(.seq, [⟨some 25, .move, [.tmp 3], none, true, 0, 0⟩, ⟨some 26, .move, [.tmp 4], none, true, 0, 0⟩, ⟨some 27, .buildSl 3 1 1 [.int .i64 0] [(0, 1)], [.tmp 26], none, true, 0, 0⟩, ⟨some 28, .append 3 1 8, [.tmp 25, .tmp 27], none, true, 0, 0⟩, ⟨some 3, .move, [.tmp 28], none, true, 0, 0⟩])]
def F29o8 : IC := .ops F29p8
def F29p9 : OPS := [(.seq, [⟨some 29, .bin .add, [.tmp 13, .val (.int .i64 1)], none, true, 0, 0⟩, ⟨some 13, .move, [.tmp 29], none, true, 0, 0⟩])]
def F29o9 : IC := .ops F29p9
def F29l10 : IC := .seq (F29o5) (.seq (.cond (.tmp 14) (.skip) (.exit 0)) (.seq (.block 1 (.seq (F29o6) (.seq (F29o7) (.cond (.tmp 24) (F29o8) (.skip))))) (F29o9)))
def F29p11 : OPS := [(.seq, [⟨some 30, .move, [.tmp 3], none, true, 0, 0⟩, ⟨some 31, .call, [.val (.fn 59 [] []), .tmp 30], none, true, 0, 0⟩, ⟨some 2, .move, [.tmp 31], none, true, 0, 0⟩])]
def F29o11 : IC := .ops F29p11
def F29b : IC := .seq (F29o0) (.seq (.seq (F29o1) (.cond (.tmp 7) (.seq (F29o2) (.ret)) (.skip))) (.seq (F29o3) (.seq (.seq (F29o4) (.block 0 (.loop F29l10))) (.seq (F29o11) (.ret)))))
def F29 : IFn := ⟨32, [(2, none)], F29b⟩
/- 30: gansey/journals.Resume -/
def F30p0 : OPS := [(.seq, [q 5 (.box 89 87) [.tmp 2], q 6 .move [.val (.int .i64 0)], q 7 .move [.val (.int .i64 0)]])]
def F30o0 : IC := .ops F30p0
def F30p1 : OPS := [(.seq, [q 20 .call [.val (.fn 56 [] [])], q 21 .move [.tmp 0], q 22 .call [.val (.fn 55 [] []), .tmp 20, .tmp 21], q 19 .move [.tmp 22], q 23 (.extract 0) [.tmp 19], q 24 (.extract 1) [.tmp 19], q 25 (.extract 2) [.tmp 19], q 8 (.alloc 113 8 [.int .i64 0, .nilSlice, .nilSlice, .nilSlice, .nilSlice, .nilSlice, .nilSlice, .nilSlice]) [], q0 (.store 8) [.tmp 8, .tmp 23], q 9 .move [.tmp 24], q 10 .move [.tmp 25]])]
def F30o1 : IC := .ops F30p1
def F30p2 : OPS := [(.seq, [q 26 .move [.tmp 10], q 27 (.bin .neq) [.tmp 26, .val (.int .i64 0)]])]
def F30o2 : IC := .ops F30p2
def F30p3 : OPS := [(.seq, [q 28 .move [.tmp 10], q 6 .move [.val (.int .i64 0)], q 7 .move [.tmp 28]])]
def F30o3 : IC := .ops F30p3
def F30p4 : OPS := [(.seq, [q 29 (.build [.bool false, .int .i64 0] []) [], q 11 (.alloc 34 2 [.bool false, .int .i64 0]) [], q 12 (.alloc 4 1 [.bool false]) [], q0 (.store 2) [.tmp 11, .tmp 29], q0 (.store 1) [.tmp 12, .val (.bool false)]])]
def F30o4 : IC := .ops F30p4
def F30p5 : OPS := [(.seq, [q 30 .move [.tmp 1], q 31 .call [.val (.fn 33 [] []), .tmp 30]])]
def F30o5 : IC := .ops F30p5
def F30p6 : OPS := [(.seq, [q 13 (.alloc 34 2 [.bool false, .int .i64 0]) [], q0 (.store 2) [.tmp 13, .tmp 32]])]
def F30o6 : IC := .ops F30p6
def F30p7 : OPS := [(.seq, [q 33 (.load (some 2)) [.tmp 13], q0 (.store 2) [.tmp 11, .tmp 33], q0 (.store 1) [.tmp 12, .val (.bool true)]])]
def F30o7 : IC := .ops F30p7
def F30p8 : OPS := [(.seq, [q 34 (.load none) [.tmp 12], q 35 (.un .not) [.tmp 34]])]
def F30o8 : IC := .ops F30p8
def F30p9 : OPS := [(.free, [⟨some 36, .load (some 87), [.tmp 5], none, false, 0, 0⟩, ⟨some 37, .call, [.val (.fn 56 [] [])], none, false, 1, 0⟩, ⟨some 38, .call, [.val (.fn 50 [] []), .tmp 37], none, false, 2, 2⟩]), (.seq, [⟨some 39, .eqFlat false [.int, .int, .int, .int, .int, .int, .int, .int, .int, .int, .int, .int, .int, .int, .int, .int, .int, .int, .int, .int, .int, .int, .int, .int, .int, .int, .int, .int, .int, .int, .int, .int, .int, .int, .int, .int, .int, .int, .int, .int, .int, .int, .int, .int, .int, .int, .int, .int, .int, .int, .int, .int, .int, .int, .int, .int, .int, .int, .int, .int, .int, .int, .int, .int, .int, .int, .int, .int, .int, .int, .int, .int, .int, .int, .int, .int, .int, .int, .int, .int, .int, .int, .int, .int, .int, .int, .int], [.tmp 36, .tmp 38], none, true, 3, 7⟩])]
def F30o9 : IC := .ops F30p9
def F30p10 : OPS := [(.seq, [q 6 .move [.val (.int .i64 0)], q 7 .move [.val (.int .i64 0)]])]
def F30o10 : IC := .ops F30p10
def F30p11 : OPS := [(.seq, [q 6 .move [.val (.int .i64 0)], q 7 .move [.val (.int .i64 6)]])]
def F30o11 : IC := .ops F30p11
def F30p12 : OPS := [(.seq, [q 40 (.fieldAddr 1) [.tmp 11], q 41 (.load none) [.tmp 40], q 42 .move [.tmp 0], q 43 .lenSl [.tmp 42], q 44 (.bin .geq) [.tmp 41, .tmp 43]])]
def F30o12 : IC := .ops F30p12
def F30p13 : OPS := [(.seq, [q 6 .move [.val (.int .i64 0)], q 7 .move [.val (.int .i64 1)]])]
def F30o13 : IC := .ops F30p13
def F30p14 : OPS := [(.seq, [q 46 .move [.tmp 0], q 47 (.fieldAddr 1) [.tmp 11], q 48 (.load none) [.tmp 47], q 49 .call [.val (.fn 60 [] []), .tmp 46, .tmp 48], q 45 .move [.tmp 49], q 50 (.extract 0) [.tmp 45], q 51 (.extract 1) [.tmp 45], q 52 (.extract 2) [.tmp 45], q 14 (.alloc 113 8 [.int .i64 0, .nilSlice, .nilSlice, .nilSlice, .nilSlice, .nilSlice, .nilSlice, .nilSlice]) [], q 15 (.alloc 113 8 [.int .i64 0, .nilSlice, .nilSlice, .nilSlice, .nilSlice, .nilSlice, .nilSlice, .nilSlice]) [], q0 (.store 8) [.tmp 14, .tmp 50], q0 (.store 8) [.tmp 15, .tmp 51], q 16 .move [.tmp 52]])]
def F30o14 : IC := .ops F30p14
def F30p15 : OPS := [(.seq, [q 53 .move [.tmp 16], q 54 (.bin .neq) [.tmp 53, .val (.int .i64 0)]])]
def F30o15 : IC := .ops F30p15
def F30p16 : OPS := [(.seq, [q 55 .move [.tmp 16], q 6 .move [.val (.int .i64 0)], q 7 .move [.tmp 55]])]
def F30o16 : IC := .ops F30p16
def F30p17 : OPS := [(.free, [⟨some 56, .load (some 8), [.tmp 14], none, false, 0, 0⟩, ⟨some 57, .call, [.val (.fn 50 [] []), .tmp 56], none, false, 1, 1⟩, ⟨some 58, .load (some 8), [.tmp 15], none, false, 2, 0⟩, ⟨some 59, .call, [.val (.fn 50 [] []), .tmp 58], none, false, 3, 7⟩, ⟨some 17, .alloc 89 87 [.int .i64 0, .int .i64 0, .int .i64 0, .int .i64 0, .int .i64 0, .int .i64 0, .int .i64 0, .int .i64 0, .int .i64 0, .int .i64 0, .int .i64 0, .int .i64 0, .int .i64 0, .int .i64 0, .int .i64 0, .int .i64 0, .int .i64 0, .int .i64 0, .int .i64 0, .int .i64 0, .int .i64 0, .int .i64 0, .int .i64 0, .int .i64 0, .int .i64 0, .int .i64 0, .int .i64 0, .int .i64 0, .int .i64 0, .int .i64 0, .int .i64 0, .int .i64 0, .int .i64 0, .int .i64 0, .int .i64 0, .int .i64 0, .int .i64 0, .int .i64 0, .int .i64 0, .int .i64 0, .int .i64 0, .int .i64 0, .int .i64 0, .int .i64 0, .int .i64 0, .int .i64 0, .int .i64 0, .int .i64 0, .int .i64 0, .int .i64 0, .int .i64 0, .int .i64 0, .int .i64 0, .int .i64 0, .int .i64 0, .int .i64 0, .int .i64 0, .int .i64 0, .int .i64 0, .int .i64 0, .int .i64 0, .int .i64 0, .int .i64 0, .int .i64 0, .int .i64 0, .int .i64 0, .int .i64 0, .int .i64 0, .int .i64 0, .int .i64 0, .int .i64 0, .int .i64 0, .int .i64 0, .int .i64 0, .int .i64 0, .int .i64 0, .int .i64 0, .int .i64 0, .int .i64 0, .int .i64 0, .int .i64 0, .int .i64 0, .int .i64 0, .int .i64 0, .int .i64 0, .int .i64 0, .int .i64 0], [], none, false, 4, 0⟩, ⟨some 18, .alloc 89 87 [.int .i64 0, .int .i64 0, .int .i64 0, .int .i64 0, .int .i64 0, .int .i64 0, .int .i64 0, .int .i64 0, .int .i64 0, .int .i64 0, .int .i64 0, .int .i64 0, .int .i64 0, .int .i64 0, .int .i64 0, .int .i64 0, .int .i64 0, .int .i64 0, .int .i64 0, .int .i64 0, .int .i64 0, .int .i64 0, .int .i64 0, .int .i64 0, .int .i64 0, .int .i64 0, .int .i64 0, .int .i64 0, .int .i64 0, .int .i64 0, .int .i64 0, .int .i64 0, .int .i64 0, .int .i64 0, .int .i64 0, .int .i64 0, .int .i64 0, .int .i64 0, .int .i64 0, .int .i64 0, .int .i64 0, .int .i64 0, .int .i64 0, .int .i64 0, .int .i64 0, .int .i64 0, .int .i64 0, .int .i64 0, .int .i64 0, .int .i64 0, .int .i64 0, .int .i64 0, .int .i64 0, .int .i64 0, .int .i64 0, .int .i64 0, .int .i64 0, .int .i64 0, .int .i64 0, .int .i64 0, .int .i64 0, .int .i64 0, .int .i64 0, .int .i64 0, .int .i64 0, .int .i64 0, .int .i64 0, .int .i64 0, .int .i64 0, .int .i64 0, .int .i64 0, .int .i64 0, .int .i64 0, .int .i64 0, .int .i64 0, .int .i64 0, .int .i64 0, .int .i64 0, .int .i64 0, .int .i64 0, .int .i64 0, .int .i64 0, .int .i64 0, .int .i64 0, .int .i64 0, .int .i64 0, .int .i64 0], [], none, false, 5, 0⟩]), (.seq, [⟨none, .store 87, [.tmp 17, .tmp 57], none, true, 6, 63⟩]), (.seq, [⟨none, .store 87, [.tmp 18, .tmp 59], none, true, 7, 127⟩])]
def F30o17 : IC := .ops F30p17
def F30p18 : OPS := [(.seq, [q 61 (.fieldAddr 0) [.tmp 11], q 62 (.load none) [.tmp 61], q 63 (.un .not) [.tmp 62], q 64 .move [.tmp 63], ⟨some 65, .load (some 87), [.tmp 5], some (64, true), true, 0, 0⟩, ⟨some 66, .load (some 87), [.tmp 17], some (64, true), true, 0, 0⟩, ⟨some 67, .eqFlat false [.int, .int, .int, .int, .int, .int, .int, .int, .int, .int, .int, .int, .int, .int, .int, .int, .int, .int, .int, .int, .int, .int, .int, .int, .int, .int, .int, .int, .int, .int, .int, .int, .int, .int, .int, .int, .int, .int, .int, .int, .int, .int, .int, .int, .int, .int, .int, .int, .int, .int, .int, .int, .int, .int, .int, .int, .int, .int, .int, .int, .int, .int, .int, .int, .int, .int, .int, .int, .int, .int, .int, .int, .int, .int, .int, .int, .int, .int, .int, .int, .int, .int, .int, .int, .int, .int, .int], [.tmp 65, .tmp 66], some (64, true), true, 0, 0⟩, q 68 .pick [.tmp 64, .tmp 67, .val (.bool false)], q 60 .move [.tmp 68]])]
def F30o18 : IC := .ops F30p18
def F30p19 : OPS := [(.seq, [q 69 (.fieldAddr 1) [.tmp 11], q 70 (.load none) [.tmp 69], q 6 .move [.tmp 70], q 7 .move [.val (.int .i64 0)]])]
def F30o19 : IC := .ops F30p19
def F30p20 : OPS := [(.seq, [q 72 (.load (some 87)) [.tmp 5], q 73 (.load (some 87)) [.tmp 18], q 74 (.eqFlat false [.int, .int, .int, .int, .int, .int, .int, .int, .int, .int, .int, .int, .int, .int, .int, .int, .int, .int, .int, .int, .int, .int, .int, .int, .int, .int, .int, .int, .int, .int, .int, .int, .int, .int, .int, .int, .int, .int, .int, .int, .int, .int, .int, .int, .int, .int, .int, .int, .int, .int, .int, .int, .int, .int, .int, .int, .int, .int, .int, .int, .int, .int, .int, .int, .int, .int, .int, .int, .int, .int, .int, .int, .int, .int, .int, .int, .int, .int, .int, .int, .int, .int, .int, .int, .int, .int, .int]) [.tmp 72, .tmp 73], q 71 .move [.tmp 74]])]
def F30o20 : IC := .ops F30p20
def F30p21 : OPS := [(.seq, [q 75 (.fieldAddr 1) [.tmp 11], q 76 (.load none) [.tmp 75], q 77 (.bin .add) [.tmp 76, .val (.int .i64 1)], q 6 .move [.tmp 77], q 7 .move [.val (.int .i64 0)]])]
def F30o21 : IC := .ops F30p21
def F30p22 : OPS := [(.seq, [q 79 (.fieldAddr 0) [.tmp 11], q 80 (.load none) [.tmp 79], q 81 (.un .not) [.tmp 80], q 82 .move [.tmp 81], ⟨some 83, .move, [.tmp 0], some (82, true), true, 0, 0⟩, ⟨some 84, .fieldAddr 1, [.tmp 11], some (82, true), true, 0, 0⟩, ⟨some 85, .load none, [.tmp 84], some (82, true), true, 0, 0⟩, ⟨some 86, .idxSl 6, [.tmp 83, .tmp 85], some (82, true), true, 0, 0⟩, ⟨some 87, .fieldAddr 0, [.tmp 86], some (82, true), true, 0, 0⟩, ⟨some 88, .load none, [.tmp 87], some (82, true), true, 0, 0⟩, ⟨some 89, .bin .eql, [.tmp 88, .val (.int .u8 3)], some (82, true), true, 0, 0⟩, q 90 .pick [.tmp 82, .tmp 89, .val (.bool false)], q 91 .move [.tmp 90], ⟨some 92, .load (some 87), [.tmp 5], some (91, true), true, 0, 0⟩, ⟨some 93, .load (some 87), [.tmp 17], some (91, true), true, 0, 0⟩, ⟨some 94, .load (some 87), [.tmp 18], some (91, true), true, 0, 0⟩, ⟨some 95, .call, [.val (.fn 61 [] []), .tmp 92, .tmp 93, .tmp 94], some (91, true), true, 0, 0⟩, q 96 .pick [.tmp 91, .tmp 95, .val (.bool false)], q 78 .move [.tmp 96]])]
def F30o22 : IC := .ops F30p22
def F30p23 : OPS := [(.seq, [q 97 (.fieldAddr 1) [.tmp 11], q 98 (.load none) [.tmp 97], q 6 .move [.tmp 98], q 7 .move [.val (.int .i64 0)]])]
def F30o23 : IC := .ops F30p23
def F30p24 : OPS := [(.seq, [q 6 .move [.val (.int .i64 0)], q 7 .move [.val (.int .i64 6)]])]
def F30o24 : IC := .ops F30p24
def F30b : IC := .seq (F30o0) (.seq (.seq (F30o1) (.seq (F30o2) (.cond (.tmp 27) (.seq (F30o3) (.ret)) (.skip)))) (.seq (F30o4) (.seq (.seq (F30o5) (.block 0 (.rfn (.tmp 31) [32] (F30o6) (.block 1 (F30o7))))) (.seq (.seq (F30o8) (.cond (.tmp 35) (.seq (.seq (F30o9) (.cond (.tmp 39) (.seq (F30o10) (.ret)) (.skip))) (.seq (F30o11) (.ret))) (.skip))) (.seq (.seq (F30o12) (.cond (.tmp 44) (.seq (F30o13) (.ret)) (.skip))) (.seq (F30o14) (.seq (.seq (F30o15) (.cond (.tmp 54) (.seq (F30o16) (.ret)) (.skip))) (.seq (F30o17) (.seq (.block 2 (.seq (F30o18) (.cond (.tmp 60) (.seq (F30o19) (.ret)) (.seq (F30o20) (.cond (.tmp 71) (.seq (F30o21) (.ret)) (.seq (F30o22) (.cond (.tmp 78) (.seq (F30o23) (.ret)) (.skip)))))))) (.seq (F30o24) (.ret)))))))))))
def F30 : IFn := ⟨99, [(6, none), (7, none)], F30b⟩
/- 31: gansey/journals.write -/
noncomputable def F31 : IFn := (compF Go.Proofs.Tryz.prog 31).getD ⟨0, [], .skip⟩
/- 33: gansey/journals.records -/
noncomputable def F33 : IFn := (compF Go.Proofs.Tryz.prog 33).getD ⟨0, [], .skip⟩
/- 41: gansey/ganseylaw43.small -/
noncomputable def F41 : IFn := (compF Go.Proofs.Tryz.prog 41).getD ⟨0, [], .skip⟩
/- 42: gansey/ganseylaw43.is -/
noncomputable def F42 : IFn := (compF Go.Proofs.Tryz.prog 42).getD ⟨0, [], .skip⟩
/- 43: gansey/machines.Make -/
noncomputable def F43 : IFn := (compF Go.Proofs.Tryz.prog 43).getD ⟨0, [], .skip⟩
/- 44: gansey/fabrics.Same -/
noncomputable def F44 : IFn := (compF Go.Proofs.Tryz.prog 44).getD ⟨0, [], .skip⟩
/- 45: (*gansey/workshops.Workshop).none -/
def F45p0 : OPS := [(.seq, [⟨some 2, .move, [.val (.bool false)], none, true, 0, 0⟩])]
def F45o0 : IC := .ops F45p0
def F45p1 : OPS := [(.seq, [⟨some 3, .move, [.tmp 0], none, true, 0, 0⟩, ⟨some 4, .eqNil false .ptr, [.tmp 3, .val (.nilPtr)], none, true, 0, 0⟩, ⟨some 5, .move, [.tmp 4], none, true, 0, 0⟩, ⟨some 6, .move, [.tmp 0], some (5, false), true, 0, 0⟩, ⟨some 7, .nilCheck, [.tmp 6], some (5, false), true, 0, 0⟩, ⟨some 8, .fieldAddr 1, [.tmp 7], some (5, false), true, 0, 0⟩, ⟨some 9, .load none, [.tmp 8], some (5, false), true, 0, 0⟩, ⟨some 10, .lenSl, [.tmp 9], some (5, false), true, 0, 0⟩, ⟨some 11, .bin .eql, [.tmp 10, .val (.int .i64 0)], some (5, false), true, 0, 0⟩, ⟨some 12, .pick, [.tmp 5, .val (.bool true), .tmp 11], none, true, 0, 0⟩, ⟨some 2, .move, [.tmp 12], none, true, 0, 0⟩])]
def F45o1 : IC := .ops F45p1
def F45b : IC := .seq (F45o0) (.seq (F45o1) (.ret))
def F45 : IFn := ⟨13, [(2, none)], F45b⟩
/- 46: (*gansey/workshops.Workshop).has -/
def F46p0 : OPS := [(.seq, [⟨some 4, .move, [.val (.bool false)], none, true, 0, 0⟩])]
def F46o0 : IC := .ops F46p0
def F46p1 : OPS := [(.seq, [⟨some 5, .move, [.tmp 1], none, true, 0, 0⟩, ⟨some 6, .bin .leq, [.val (.int .i64 0), .tmp 5], none, true, 0, 0⟩, ⟨some 7, .move, [.tmp 6], none, true, 0, 0⟩, ⟨some 8, .move, [.tmp 1], some (7, true), true, 0, 0⟩, ⟨some 9, .move, [.tmp 0], some (7, true), true, 0, 0⟩, ⟨some 10, .nilCheck, [.tmp 9], some (7, true), true, 0, 0⟩, ⟨some 11, .fieldAddr 1, [.tmp 10], some (7, true), true, 0, 0⟩, ⟨some 12, .load none, [.tmp 11], some (7, true), true, 0, 0⟩, ⟨some 13, .lenSl, [.tmp 12], some (7, true), true, 0, 0⟩, ⟨some 14, .bin .lss, [.tmp 8, .tmp 13], some (7, true), true, 0, 0⟩, ⟨some 15, .pick, [.tmp 7, .tmp 14, .val (.bool false)], none, true, 0, 0⟩, ⟨some 4, .move, [.tmp 15], none, true, 0, 0⟩])]
def F46o1 : IC := .ops F46p1
def F46b : IC := .seq (F46o0) (.seq (F46o1) (.ret))
def F46 : IFn := ⟨16, [(4, none)], F46b⟩
/- 47: (*gansey/workshops.Workshop).lit -/
def F47p0 : OPS := [(.seq, [⟨some 2, .move, [.val (.int .i64 0)], none, true, 0, 0⟩])]
def F47o0 : IC := .ops F47p0
def F47p1 : OPS := [(.seq, [⟨some 4, .move, [.tmp 0], none, true, 0, 0⟩, ⟨some 5, .call, [.val (.fn 45 [] []), .tmp 4], none, true, 0, 0⟩, ⟨some 3, .move, [.tmp 5], none, true, 0, 0⟩])]
def F47o1 : IC := .ops F47p1
def F47p2 : OPS := [(.seq, [⟨some 2, .move, [.val (.int .i64 2)], none, true, 0, 0⟩])]
def F47o2 : IC := .ops F47p2
def F47p3 : OPS := [(.seq, [⟨some 7, .move, [.tmp 0], none, true, 0, 0⟩, ⟨some 8, .nilCheck, [.tmp 7], none, true, 0, 0⟩, ⟨some 9, .fieldAddr 0, [.tmp 8], none, true, 0, 0⟩, ⟨some 10, .load none, [.tmp 9], none, true, 0, 0⟩, ⟨some 6, .move, [.tmp 10], none, true, 0, 0⟩])]
def F47o3 : IC := .ops F47p3
def F47p4 : OPS := [(.seq, [⟨some 2, .move, [.val (.int .i64 6)], none, true, 0, 0⟩])]
def F47o4 : IC := .ops F47p4
def F47p5 : OPS := [(.seq, [⟨some 2, .move, [.val (.int .i64 0)], none, true, 0, 0⟩])]
def F47o5 : IC := .ops F47p5
def F47b : IC := .seq (F47o0) (.seq (.block 0 (.seq (F47o1) (.cond (.tmp 3) (.seq (F47o2) (.ret)) (.seq (F47o3) (.cond (.tmp 6) (.seq (F47o4) (.ret)) (.skip)))))) (.seq (F47o5) (.ret)))
def F47 : IFn := ⟨11, [(2, none)], F47b⟩
/- 48: (*gansey/workshops.machine).catchUp -/
def F48p0 : OPS := [(.free, [⟨some 6, .move, [.tmp 0], none, false, 0, 0⟩, ⟨some 7, .nilCheck, [.tmp 6], none, false, 1, 1⟩, ⟨some 8, .fieldAddr 5, [.tmp 7], none, false, 2, 3⟩, ⟨some 9, .load (some 8), [.tmp 8], none, false, 3, 7⟩, ⟨some 10, .move, [.tmp 0], none, false, 4, 0⟩, ⟨some 11, .nilCheck, [.tmp 10], none, false, 5, 16⟩, ⟨some 12, .fieldAddr 3, [.tmp 11], none, false, 6, 48⟩, ⟨some 13, .load none, [.tmp 12], none, false, 7, 112⟩, ⟨some 14, .move, [.tmp 0], none, false, 8, 0⟩, ⟨some 15, .nilCheck, [.tmp 14], none, false, 9, 256⟩, ⟨some 16, .fieldAddr 13, [.tmp 15], none, false, 10, 768⟩, ⟨some 17, .load none, [.tmp 16], none, false, 11, 1792⟩, ⟨some 18, .move, [.tmp 0], none, false, 12, 0⟩, ⟨some 19, .nilCheck, [.tmp 18], none, false, 13, 4096⟩, ⟨some 20, .fieldAddr 4, [.tmp 19], none, false, 14, 12288⟩, ⟨some 21, .load none, [.tmp 20], none, false, 15, 28672⟩, ⟨some 22, .slc 6 true true false, [.tmp 13, .tmp 17, .tmp 21], none, false, 16, 65520⟩, ⟨some 23, .call, [.val (.fn 55 [] []), .tmp 9, .tmp 22], none, false, 17, 131071⟩, ⟨some 5, .move, [.tmp 23], none, false, 18, 262143⟩, ⟨some 24, .extract 0, [.tmp 5], none, false, 19, 524287⟩, ⟨some 25, .extract 1, [.tmp 5], none, false, 20, 524287⟩, ⟨some 26, .extract 2, [.tmp 5], none, false, 21, 524287⟩, ⟨some 2, .alloc 113 8 [.int .i64 0, .nilSlice, .nilSlice, .nilSlice, .nilSlice, .nilSlice, .nilSlice, .nilSlice], [], none, false, 22, 0⟩, ⟨none, .store 8, [.tmp 2, .tmp 24], none, true, 23, 5242879⟩, ⟨some 3, .move, [.tmp 25], none, true, 24, 14680063⟩]), (.seq, [⟨some 4, .move, [.tmp 26], none, true, 25, 33554431⟩])]
def F48o0 : IC := .ops F48p0
def F48p1 : OPS := [(.seq, [q 27 .move [.tmp 4], q 28 (.bin .eql) [.tmp 27, .val (.int .i64 0)]])]
def F48o1 : IC := .ops F48p1
def F48p2 : OPS := [(.free, [⟨some 29, .move, [.tmp 0], none, false, 0, 0⟩, ⟨some 30, .move, [.tmp 0], none, false, 1, 0⟩, ⟨some 31, .load (some 8), [.tmp 2], none, false, 2, 0⟩, ⟨some 32, .move, [.tmp 0], none, false, 3, 0⟩, ⟨some 33, .nilCheck, [.tmp 32], none, false, 4, 8⟩, ⟨some 34, .fieldAddr 4, [.tmp 33], none, false, 5, 24⟩, ⟨some 35, .load none, [.tmp 34], none, false, 6, 56⟩, ⟨some 36, .nilCheck, [.tmp 29], none, true, 7, 125⟩, ⟨some 37, .fieldAddr 5, [.tmp 36], none, true, 8, 253⟩, ⟨none, .store 8, [.tmp 37, .tmp 31], none, true, 9, 509⟩]), (.seq, [⟨some 38, .nilCheck, [.tmp 30], none, true, 10, 1023⟩]), (.seq, [⟨some 39, .fieldAddr 13, [.tmp 38], none, true, 11, 2047⟩]), (.seq, [⟨none, .store 1, [.tmp 39, .tmp 35], none, true, 12, 4095⟩])]
def F48o2 : IC := .ops F48p2
def F48b : IC := .seq (F48o0) (.seq (F48o1) (.cond (.tmp 28) (F48o2) (.skip)))
def F48 : IFn := ⟨40, [], F48b⟩
/- 49: (*gansey/workshops.Workshop).change -/
def F49p0 : OPS := [(.seq, [⟨some 8, .move, [.val (.int .i64 0)], none, true, 0, 0⟩])]
def F49o0 : IC := .ops F49p0
def F49p1 : OPS := [(.seq, [⟨some 10, .move, [.tmp 0], none, true, 0, 0⟩, ⟨some 11, .call, [.val (.fn 47 [] []), .tmp 10], none, true, 0, 0⟩, ⟨some 9, .move, [.tmp 11], none, true, 0, 0⟩])]
def F49o1 : IC := .ops F49p1
def F49p2 : OPS := [(.seq, [⟨some 12, .move, [.tmp 9], none, true, 0, 0⟩, ⟨some 13, .bin .neq, [.tmp 12, .val (.int .i64 0)], none, true, 0, 0⟩])]
def F49o2 : IC := .ops F49p2
def F49p3 : OPS := [(.seq, [⟨some 14, .move, [.tmp 9], none, true, 0, 0⟩, ⟨some 8, .move, [.tmp 14], none, true, 0, 0⟩])]
def F49o3 : IC := .ops F49p3
def F49p4 : OPS := [(.seq, [⟨some 15, .move, [.tmp 0], none, true, 0, 0⟩, ⟨some 16, .move, [.tmp 1], none, true, 0, 0⟩, ⟨some 17, .call, [.val (.fn 46 [] []), .tmp 15, .tmp 16], none, true, 0, 0⟩, ⟨some 18, .un .not, [.tmp 17], none, true, 0, 0⟩])]
def F49o4 : IC := .ops F49p4
def F49p5 : OPS := [(.seq, [⟨some 8, .move, [.val (.int .i64 1)], none, true, 0, 0⟩])]
def F49o5 : IC := .ops F49p5
def F49p6 : OPS := [(.seq, [⟨some 19, .move, [.tmp 0], none, true, 0, 0⟩, ⟨some 20, .nilCheck, [.tmp 19], none, true, 0, 0⟩, ⟨some 21, .fieldAddr 1, [.tmp 20], none, true, 0, 0⟩, ⟨some 22, .load none, [.tmp 21], none, true, 0, 0⟩, ⟨some 23, .move, [.tmp 1], none, true, 0, 0⟩, ⟨some 24, .idxSl 14, [.tmp 22, .tmp 23], none, true, 0, 0⟩, ⟨some 25, .fieldAddr 1, [.tmp 24], none, true, 0, 0⟩, ⟨some 26, .load none, [.tmp 25], none, true, 0, 0⟩, ⟨some 27, .move, [.tmp 2], none, true, 0, 0⟩, ⟨some 28, .bin .neq, [.tmp 26, .tmp 27], none, true, 0, 0⟩])]
def F49o6 : IC := .ops F49p6
def F49p7 : OPS := [(.seq, [⟨some 8, .move, [.val (.int .i64 6)], none, true, 0, 0⟩])]
def F49o7 : IC := .ops F49p7
def F49p8 : OPS := [(.seq, [⟨some 29, .move, [.tmp 0], none, true, 0, 0⟩, ⟨some 30, .nilCheck, [.tmp 29], none, true, 0, 0⟩, ⟨some 31, .fieldAddr 1, [.tmp 30], none, true, 0, 0⟩, ⟨some 32, .load none, [.tmp 31], none, true, 0, 0⟩, ⟨some 33, .move, [.tmp 1], none, true, 0, 0⟩, ⟨some 34, .move, [.tmp 3], none, true, 0, 0⟩, ⟨some 35, .idxSl 14, [.tmp 32, .tmp 33], none, true, 0, 0⟩, ⟨some 36, .fieldAddr 1, [.tmp 35], none, true, 0, 0⟩, ⟨none, .store 1, [.tmp 36, .tmp 34], none, true, 0, 0⟩])]
def F49o8 : IC := .ops F49p8
def F49p9 : OPS := [(.seq, [⟨some 8, .move, [.val (.int .i64 0)], none, true, 0, 0⟩])]
def F49o9 : IC := .ops F49p9
def F49b : IC := .seq (F49o0) (.seq (.seq (F49o1) (.seq (F49o2) (.cond (.tmp 13) (.seq (F49o3) (.ret)) (.skip)))) (.seq (.seq (F49o4) (.cond (.tmp 18) (.seq (F49o5) (.ret)) (.skip))) (.seq (.seq (F49o6) (.cond (.tmp 28) (.seq (F49o7) (.ret)) (.skip))) (.seq (F49o8) (.seq (F49o9) (.ret))))))
def F49 : IFn := ⟨37, [(8, none)], F49b⟩
/- 50: gansey/journals.Look -/
def F50p0 : OPS := [(.seq, [q 1 (.box 113 8) [.tmp 0], q 2 (.alloc 89 87 [.int .i64 0, .int .i64 0, .int .i64 0, .int .i64 0, .int .i64 0, .int .i64 0, .int .i64 0, .int .i64 0, .int .i64 0, .int .i64 0, .int .i64 0, .int .i64 0, .int .i64 0, .int .i64 0, .int .i64 0, .int .i64 0, .int .i64 0, .int .i64 0, .int .i64 0, .int .i64 0, .int .i64 0, .int .i64 0, .int .i64 0, .int .i64 0, .int .i64 0, .int .i64 0, .int .i64 0, .int .i64 0, .int .i64 0, .int .i64 0, .int .i64 0, .int .i64 0, .int .i64 0, .int .i64 0, .int .i64 0, .int .i64 0, .int .i64 0, .int .i64 0, .int .i64 0, .int .i64 0, .int .i64 0, .int .i64 0, .int .i64 0, .int .i64 0, .int .i64 0, .int .i64 0, .int .i64 0, .int .i64 0, .int .i64 0, .int .i64 0, .int .i64 0, .int .i64 0, .int .i64 0, .int .i64 0, .int .i64 0, .int .i64 0, .int .i64 0, .int .i64 0, .int .i64 0, .int .i64 0, .int .i64 0, .int .i64 0, .int .i64 0, .int .i64 0, .int .i64 0, .int .i64 0, .int .i64 0, .int .i64 0, .int .i64 0, .int .i64 0, .int .i64 0, .int .i64 0, .int .i64 0, .int .i64 0, .int .i64 0, .int .i64 0, .int .i64 0, .int .i64 0, .int .i64 0, .int .i64 0, .int .i64 0, .int .i64 0, .int .i64 0, .int .i64 0, .int .i64 0, .int .i64 0, .int .i64 0]) []])]
def F50o0 : IC := .ops F50p0
def F50p1 : OPS := [(.seq, [q 6 (.fieldAddr 0) [.tmp 1], q 7 (.load none) [.tmp 6], q 8 (.build [.int .i64 0, .int .i64 0, .int .i64 0, .int .i64 0, .int .i64 0, .int .i64 0, .int .i64 0, .int .i64 0, .int .i64 0, .int .i64 0, .int .i64 0, .int .i64 0, .int .i64 0, .int .i64 0, .int .i64 0, .int .i64 0, .int .i64 0, .int .i64 0, .int .i64 0, .int .i64 0, .int .i64 0, .int .i64 0, .int .i64 0, .int .i64 0, .int .i64 0, .int .i64 0, .int .i64 0, .int .i64 0, .int .i64 0, .int .i64 0, .int .i64 0, .int .i64 0, .int .i64 0, .int .i64 0, .int .i64 0, .int .i64 0, .int .i64 0, .int .i64 0, .int .i64 0, .int .i64 0, .int .i64 0, .int .i64 0, .int .i64 0, .int .i64 0, .int .i64 0, .int .i64 0, .int .i64 0, .int .i64 0, .int .i64 0, .int .i64 0, .int .i64 0, .int .i64 0, .int .i64 0, .int .i64 0, .int .i64 0, .int .i64 0, .int .i64 0, .int .i64 0, .int .i64 0, .int .i64 0, .int .i64 0, .int .i64 0, .int .i64 0, .int .i64 0, .int .i64 0, .int .i64 0, .int .i64 0, .int .i64 0, .int .i64 0, .int .i64 0, .int .i64 0, .int .i64 0, .int .i64 0, .int .i64 0, .int .i64 0, .int .i64 0, .int .i64 0, .int .i64 0, .int .i64 0, .int .i64 0, .int .i64 0, .int .i64 0, .int .i64 0, .int .i64 0, .int .i64 0, .int .i64 0, .int .i64 0] [(0, 1)]) [.tmp 7], q 3 (.alloc 89 87 [.int .i64 0, .int .i64 0, .int .i64 0, .int .i64 0, .int .i64 0, .int .i64 0, .int .i64 0, .int .i64 0, .int .i64 0, .int .i64 0, .int .i64 0, .int .i64 0, .int .i64 0, .int .i64 0, .int .i64 0, .int .i64 0, .int .i64 0, .int .i64 0, .int .i64 0, .int .i64 0, .int .i64 0, .int .i64 0, .int .i64 0, .int .i64 0, .int .i64 0, .int .i64 0, .int .i64 0, .int .i64 0, .int .i64 0, .int .i64 0, .int .i64 0, .int .i64 0, .int .i64 0, .int .i64 0, .int .i64 0, .int .i64 0, .int .i64 0, .int .i64 0, .int .i64 0, .int .i64 0, .int .i64 0, .int .i64 0, .int .i64 0, .int .i64 0, .int .i64 0, .int .i64 0, .int .i64 0, .int .i64 0, .int .i64 0, .int .i64 0, .int .i64 0, .int .i64 0, .int .i64 0, .int .i64 0, .int .i64 0, .int .i64 0, .int .i64 0, .int .i64 0, .int .i64 0, .int .i64 0, .int .i64 0, .int .i64 0, .int .i64 0, .int .i64 0, .int .i64 0, .int .i64 0, .int .i64 0, .int .i64 0, .int .i64 0, .int .i64 0, .int .i64 0, .int .i64 0, .int .i64 0, .int .i64 0, .int .i64 0, .int .i64 0, .int .i64 0, .int .i64 0, .int .i64 0, .int .i64 0, .int .i64 0, .int .i64 0, .int .i64 0, .int .i64 0, .int .i64 0, .int .i64 0, .int .i64 0]) [], q0 (.store 87) [.tmp 3, .tmp 8]])]
def F50o1 : IC := .ops F50p1
def F50p2 : OPS := [(.seq, [q 9 .move [.val (.int .i64 0)]])]
def F50o2 : IC := .ops F50p2
def F50p3 : OPS := [(.seq, [q 10 (.bin .lss) [.tmp 9, .val (.int .i64 40)]])]
def F50o3 : IC := .ops F50p3
def F50p4 : OPS := [(.seq, [q 11 .move [.tmp 9], q 4 .move [.tmp 11]])]
def F50o4 : IC := .ops F50p4
def F50p5 : OPS := [(.seq, [q 12 .move [.tmp 4], q 13 (.fieldAddr 1) [.tmp 1], q 14 (.fieldAddr 0) [.tmp 13], q 15 (.load none) [.tmp 14], q 16 .lenSl [.tmp 15], q 17 (.bin .lss) [.tmp 12, .tmp 16]])]
def F50o5 : IC := .ops F50p5
def F50p6 : OPS := [(.seq, [q 18 .move [.tmp 4], q 19 (.fieldAddr 1) [.tmp 1], q 20 (.fieldAddr 0) [.tmp 19], q 21 (.load none) [.tmp 20], q 22 .move [.tmp 4], q 23 (.idxSl 1) [.tmp 21, .tmp 22], q 24 (.load none) [.tmp 23], q 25 .lenSl [.tmp 24], q 26 (.fieldAddr 1) [.tmp 3], q 27 (.idxArrAddr 40 1) [.tmp 26, .tmp 18], q0 (.store 1) [.tmp 27, .tmp 25]])]
def F50o6 : IC := .ops F50p6
def F50p7 : OPS := [(.seq, [q 28 .move [.tmp 4], q 29 (.fieldAddr 1) [.tmp 1], q 30 (.fieldAddr 1) [.tmp 29], q 31 (.load none) [.tmp 30], q 32 .lenSl [.tmp 31], q 33 (.bin .lss) [.tmp 28, .tmp 32]])]
def F50o7 : IC := .ops F50p7
def F50p8 : OPS := [(.seq, [q 34 .move [.tmp 4], q 35 (.fieldAddr 1) [.tmp 1], q 36 (.fieldAddr 1) [.tmp 35], q 37 (.load none) [.tmp 36], q 38 .move [.tmp 4], q 39 (.idxSl 1) [.tmp 37, .tmp 38], q 40 (.load none) [.tmp 39], q 41 .lenSl [.tmp 40], q 42 (.fieldAddr 41) [.tmp 3], q 43 (.idxArrAddr 40 1) [.tmp 42, .tmp 34], q0 (.store 1) [.tmp 43, .tmp 41]])]
def F50o8 : IC := .ops F50p8
def F50p9 : OPS := [(.seq, [q 44 (.bin .add) [.tmp 9, .val (.int .i64 1)], q 9 .move [.tmp 44]])]
def F50o9 : IC := .ops F50p9
def F50l10 : IC := .seq (F50o3) (.seq (.cond (.tmp 10) (.skip) (.exit 0)) (.seq (.block 1 (.seq (F50o4) (.seq (.seq (F50o5) (.cond (.tmp 17) (F50o6) (.skip))) (.seq (F50o7) (.cond (.tmp 33) (F50o8) (.skip)))))) (F50o9)))
def F50p11 : OPS := [(.seq, [q 45 .move [.val (.int .i64 0)]])]
def F50o11 : IC := .ops F50p11
def F50p12 : OPS := [(.seq, [q 46 (.bin .lss) [.tmp 45, .val (.int .i64 6)]])]
def F50o12 : IC := .ops F50p12
def F50p13 : OPS := [(.seq, [q 47 .move [.tmp 45], q 5 .move [.tmp 47]])]
def F50o13 : IC := .ops F50p13
def F50p14 : OPS := [(.seq, [q 48 .move [.tmp 5], q 49 (.fieldAddr 3) [.tmp 1], q 50 (.load none) [.tmp 49], q 51 .lenSl [.tmp 50], q 52 (.bin .lss) [.tmp 48, .tmp 51], q 53 .move [.tmp 52], ⟨some 54, .fieldAddr 3, [.tmp 1], some (53, true), true, 0, 0⟩, ⟨some 55, .load none, [.tmp 54], some (53, true), true, 0, 0⟩, ⟨some 56, .move, [.tmp 5], some (53, true), true, 0, 0⟩, ⟨some 57, .idxSl 5, [.tmp 55, .tmp 56], some (53, true), true, 0, 0⟩, ⟨some 58, .fieldAddr 0, [.tmp 57], some (53, true), true, 0, 0⟩, ⟨some 59, .load none, [.tmp 58], some (53, true), true, 0, 0⟩, q 60 .pick [.tmp 53, .tmp 59, .val (.bool false)]])]
def F50o14 : IC := .ops F50p14
def F50p15 : OPS := [(.seq, [q 61 .move [.tmp 5], q 62 (.fieldAddr 3) [.tmp 1], q 63 (.load none) [.tmp 62], q 64 .move [.tmp 5], q 65 (.idxSl 5) [.tmp 63, .tmp 64], q 66 (.fieldAddr 1) [.tmp 65], q 67 (.load none) [.tmp 66], q 68 (.fieldAddr 81) [.tmp 3], q 69 (.idxArrAddr 6 1) [.tmp 68, .tmp 61], q0 (.store 1) [.tmp 69, .tmp 67]])]
def F50o15 : IC := .ops F50p15
def F50p16 : OPS := [(.seq, [q 70 (.bin .add) [.tmp 45, .val (.int .i64 1)], q 45 .move [.tmp 70]])]
def F50o16 : IC := .ops F50p16
def F50l17 : IC := .seq (F50o12) (.seq (.cond (.tmp 46) (.skip) (.exit 2)) (.seq (.block 3 (.seq (F50o13) (.seq (F50o14) (.cond (.tmp 60) (F50o15) (.skip))))) (F50o16)))
def F50p18 : OPS := [(.seq, [q 71 (.load (some 87)) [.tmp 3], q0 (.store 87) [.tmp 2, .tmp 71]])]
def F50o18 : IC := .ops F50p18
def F50b : IC := .seq (F50o0) (.seq (F50o1) (.seq (.seq (F50o2) (.block 0 (.loop F50l10))) (.seq (.seq (F50o11) (.block 2 (.loop F50l17))) (.seq (F50o18) (.ret)))))
def F50 : IFn := ⟨72, [(2, some (some 87))], F50b⟩
/- 51: (*gansey/workshops.machine).finish -/
def F51p0 : OPS := [(.seq, [⟨some 2, .move, [.tmp 0], none, true, 0, 0⟩]), (.seq, [⟨some 3, .nilCheck, [.tmp 2], none, true, 1, 1⟩]), (.seq, [⟨some 4, .fieldAddr 1, [.tmp 3], none, true, 2, 3⟩]), (.seq, [⟨some 5, .load none, [.tmp 4], none, true, 3, 7⟩]), (.seq, [⟨some 6, .bin .eql, [.tmp 5, .val (.int .u8 2)], none, true, 4, 15⟩]), (.seq, [⟨some 7, .move, [.tmp 6], none, true, 5, 31⟩]), (.free, [⟨some 8, .move, [.tmp 0], some (7, true), false, 6, 63⟩, ⟨some 9, .nilCheck, [.tmp 8], some (7, true), false, 7, 127⟩, ⟨some 10, .fieldAddr 4, [.tmp 9], some (7, true), false, 8, 255⟩, ⟨some 11, .load none, [.tmp 10], some (7, true), false, 9, 511⟩, ⟨some 12, .move, [.tmp 0], some (7, true), false, 10, 63⟩, ⟨some 13, .nilCheck, [.tmp 12], some (7, true), false, 11, 1087⟩, ⟨some 14, .fieldAddr 3, [.tmp 13], some (7, true), false, 12, 3135⟩, ⟨some 15, .load none, [.tmp 14], some (7, true), false, 13, 7231⟩, ⟨some 16, .lenSl, [.tmp 15], some (7, true), false, 14, 15423⟩]), (.seq, [⟨some 17, .bin .eql, [.tmp 11, .tmp 16], some (7, true), true, 15, 32767⟩]), (.seq, [⟨some 18, .pick, [.tmp 7, .tmp 17, .val (.bool false)], none, true, 16, 65535⟩])]
def F51o0 : IC := .ops F51p0
def F51p1 : OPS := [(.seq, [⟨some 19, .move, [.tmp 0], none, true, 0, 0⟩, ⟨some 20, .nilCheck, [.tmp 19], none, true, 0, 0⟩, ⟨some 21, .fieldAddr 1, [.tmp 20], none, true, 0, 0⟩, ⟨none, .store 1, [.tmp 21, .val (.int .u8 4)], none, true, 0, 0⟩])]
def F51o1 : IC := .ops F51p1
def F51b : IC := .seq (F51o0) (.cond (.tmp 18) (F51o1) (.skip))
def F51 : IFn := ⟨22, [], F51b⟩
/- 52: (*gansey/workshops.machine).wait -/
def F52b : IC := .skip
def F52 : IFn := ⟨2, [], F52b⟩
/- 53: (*gansey/workshops.machine).work -/
noncomputable def F53 : IFn := (compF Go.Proofs.Tryz.prog 53).getD ⟨0, [], .skip⟩
/- 54: (*gansey/workshops.machine).stop -/
def F54p0 : OPS := [(.seq, [q 5 .move [.tmp 0], q 6 .call [.val (.fn 48 [] []), .tmp 5]])]
def F54o0 : IC := .ops F54p0
def F54p1 : OPS := [(.free, [⟨some 7, .move, [.tmp 0], none, false, 0, 0⟩, ⟨some 8, .nilCheck, [.tmp 7], none, false, 1, 1⟩, ⟨some 9, .fieldAddr 3, [.tmp 8], none, false, 2, 3⟩, ⟨some 10, .load none, [.tmp 9], none, false, 3, 7⟩, ⟨some 11, .move, [.tmp 0], none, false, 4, 0⟩, ⟨some 12, .nilCheck, [.tmp 11], none, false, 5, 16⟩, ⟨some 13, .fieldAddr 4, [.tmp 12], none, false, 6, 48⟩, ⟨some 14, .load none, [.tmp 13], none, false, 7, 112⟩, ⟨some 15, .idxSl 6, [.tmp 10, .tmp 14], none, false, 8, 255⟩, ⟨some 16, .load (some 6), [.tmp 15], none, false, 9, 511⟩, ⟨some 4, .alloc 85 6 [.int .u8 0, .int .u8 0, .int .u8 0, .int .i64 0, .int .u8 0, .int .i64 0], [], none, false, 10, 0⟩]), (.seq, [⟨none, .store 6, [.tmp 4, .tmp 16], none, true, 11, 2047⟩])]
def F54o1 : IC := .ops F54p1
def F54p2 : OPS := [(.free, [⟨some 17, .move, [.tmp 0], none, false, 0, 0⟩, ⟨some 18, .nilCheck, [.tmp 17], none, false, 1, 1⟩, ⟨some 19, .fieldAddr 0, [.tmp 18], none, false, 2, 3⟩, ⟨some 20, .move, [.tmp 0], none, true, 3, 0⟩, ⟨some 21, .nilCheck, [.tmp 20], none, true, 4, 8⟩, ⟨some 22, .fieldAddr 4, [.tmp 21], none, true, 5, 24⟩, ⟨some 23, .load none, [.tmp 22], none, true, 6, 56⟩, ⟨some 24, .move, [.tmp 1], none, false, 7, 0⟩, ⟨some 25, .min, [.tmp 24, .val (.int .i64 4)], none, false, 8, 128⟩]), (.seq, [⟨some 26, .call, [.val (.fn 75 [] []), .tmp 19, .tmp 23, .tmp 25], none, true, 9, 511⟩])]
def F54o2 : IC := .ops F54p2
def F54p3 : OPS := [(.seq, [q 28 .move [.tmp 1], q 29 (.bin .geq) [.tmp 28, .val (.int .i64 6)], q 27 .move [.tmp 29]])]
def F54o3 : IC := .ops F54p3
def F54p4 : OPS := [(.seq, [q 30 .move [.tmp 0], q 31 (.load (some 6)) [.tmp 4], q 32 .call [.val (.fn 77 [] []), .tmp 30, .tmp 31]])]
def F54o4 : IC := .ops F54p4
def F54p5 : OPS := [(.free, [⟨some 33, .move, [.tmp 0], none, false, 0, 0⟩, ⟨some 34, .nilCheck, [.tmp 33], none, false, 1, 1⟩, ⟨some 35, .fieldAddr 0, [.tmp 34], none, false, 2, 3⟩, ⟨some 36, .move, [.tmp 0], none, true, 3, 0⟩, ⟨some 37, .nilCheck, [.tmp 36], none, true, 4, 8⟩, ⟨some 38, .fieldAddr 4, [.tmp 37], none, true, 5, 24⟩, ⟨some 39, .load none, [.tmp 38], none, true, 6, 56⟩, ⟨some 40, .move, [.tmp 1], none, false, 7, 0⟩, ⟨some 41, .bin .sub, [.tmp 40, .val (.int .i64 6)], none, false, 8, 128⟩]), (.seq, [⟨some 42, .call, [.val (.fn 76 [] []), .tmp 35, .tmp 39, .tmp 41], none, true, 9, 511⟩])]
def F54o5 : IC := .ops F54p5
def F54p6 : OPS := [(.seq, [q 44 .move [.tmp 1], q 45 (.bin .eql) [.tmp 44, .val (.int .i64 5)], q 46 .move [.tmp 45], ⟨some 47, .fieldAddr 0, [.tmp 4], some (46, true), true, 0, 0⟩, ⟨some 48, .load none, [.tmp 47], some (46, true), true, 0, 0⟩, ⟨some 49, .bin .eql, [.tmp 48, .val (.int .u8 3)], some (46, true), true, 0, 0⟩, q 50 .pick [.tmp 46, .tmp 49, .val (.bool false)], q 43 .move [.tmp 50]])]
def F54o6 : IC := .ops F54p6
def F54p7 : OPS := [(.free, [⟨some 51, .fieldAddr 5, [.tmp 4], none, false, 0, 0⟩, ⟨some 52, .load none, [.tmp 51], none, false, 1, 1⟩, ⟨some 53, .move, [.tmp 0], none, false, 2, 0⟩, ⟨some 54, .nilCheck, [.tmp 53], none, false, 3, 4⟩, ⟨some 55, .fieldAddr 5, [.tmp 54], none, false, 4, 12⟩, ⟨some 56, .fieldAddr 0, [.tmp 55], none, false, 5, 28⟩, ⟨some 57, .load none, [.tmp 56], none, false, 6, 60⟩]), (.seq, [⟨some 58, .bin .gtr, [.tmp 52, .tmp 57], none, true, 7, 127⟩])]
def F54o7 : IC := .ops F54p7
def F54p8 : OPS := [(.seq, [q 59 .move [.tmp 0], q 60 .nilCheck [.tmp 59], q 61 (.fieldAddr 5) [.tmp 60], q 62 (.fieldAddr 0) [.tmp 61], q 63 (.load none) [.tmp 62], q 64 (.bin .add) [.tmp 63, .val (.int .i64 1)], q 65 (.fieldAddr 5) [.tmp 4], q0 (.store 1) [.tmp 65, .tmp 64]])]
def F54o8 : IC := .ops F54p8
def F54p9 : OPS := [(.free, [⟨some 66, .fieldAddr 5, [.tmp 4], none, false, 0, 0⟩, ⟨some 67, .load none, [.tmp 66], none, false, 1, 1⟩, ⟨some 68, .move, [.tmp 0], none, false, 2, 0⟩, ⟨some 69, .nilCheck, [.tmp 68], none, false, 3, 4⟩, ⟨some 70, .fieldAddr 5, [.tmp 69], none, false, 4, 12⟩, ⟨some 71, .fieldAddr 0, [.tmp 70], none, false, 5, 28⟩, ⟨some 72, .load none, [.tmp 71], none, false, 6, 60⟩]), (.seq, [⟨some 73, .bin .lss, [.tmp 67, .tmp 72], none, true, 7, 127⟩])]
def F54o9 : IC := .ops F54p9
def F54p10 : OPS := [(.seq, [q 74 .move [.tmp 0], q 75 .nilCheck [.tmp 74], q 76 (.fieldAddr 5) [.tmp 75], q 77 (.fieldAddr 0) [.tmp 76], q 78 (.load none) [.tmp 77], q 79 (.bin .sub) [.tmp 78, .val (.int .i64 1)], q 80 (.fieldAddr 5) [.tmp 4], q0 (.store 1) [.tmp 80, .tmp 79]])]
def F54o10 : IC := .ops F54p10
def F54p11 : OPS := [(.seq, [q 81 .move [.tmp 0], q 82 (.load (some 6)) [.tmp 4], q 83 .call [.val (.fn 77 [] []), .tmp 81, .tmp 82]])]
def F54o11 : IC := .ops F54p11
def F54b : IC := .seq (F54o0) (.seq (F54o1) (.seq (F54o2) (.block 0 (.seq (F54o3) (.cond (.tmp 27) (.seq (F54o4) (F54o5)) (.seq (F54o6) (.cond (.tmp 43) (.seq (.seq (F54o7) (.cond (.tmp 58) (F54o8) (.seq (F54o9) (.cond (.tmp 73) (F54o10) (.skip))))) (F54o11)) (.skip))))))))
def F54 : IFn := ⟨84, [], F54b⟩
/- 55: gansey/machines.Run -/
def F55p0 : OPS := [(.seq, [q 2 (.box 113 8) [.tmp 0], q 4 (.alloc 113 8 [.int .i64 0, .nilSlice, .nilSlice, .nilSlice, .nilSlice, .nilSlice, .nilSlice, .nilSlice]) [], q 5 .move [.val (.int .i64 0)], q 6 .move [.val (.int .i64 0)]])]
def F55o0 : IC := .ops F55p0
def F55p1 : OPS := [(.seq, [q 13 .move [.tmp 1], q 14 .lenSl [.tmp 13], q 15 (.bin .gtr) [.tmp 14, .val (.int .i64 4096)]])]
def F55o1 : IC := .ops F55p1
def F55p2 : OPS := [(.seq, [q 16 (.build [.int .i64 0, .nilSlice, .nilSlice, .nilSlice, .nilSlice, .nilSlice, .nilSlice, .nilSlice] []) [], q0 (.store 8) [.tmp 4, .tmp 16], q 5 .move [.val (.int .i64 0)], q 6 .move [.val (.int .i64 3)]])]
def F55o2 : IC := .ops F55p2
def F55p3 : OPS := [(.seq, [q 17 (.load (some 8)) [.tmp 2], q 18 .call [.val (.fn 78 [] []), .tmp 17], q 7 .move [.tmp 18]])]
def F55o3 : IC := .ops F55p3
def F55p4 : OPS := [(.seq, [q 19 .move [.tmp 7], q 20 (.bin .neq) [.tmp 19, .val (.int .i64 0)]])]
def F55o4 : IC := .ops F55p4
def F55p5 : OPS := [(.seq, [q 21 (.build [.int .i64 0, .nilSlice, .nilSlice, .nilSlice, .nilSlice, .nilSlice, .nilSlice, .nilSlice] []) [], q 22 .move [.tmp 7], q0 (.store 8) [.tmp 4, .tmp 21], q 5 .move [.val (.int .i64 0)], q 6 .move [.tmp 22]])]
def F55o5 : IC := .ops F55p5
def F55p6 : OPS := [(.seq, [q 23 (.load (some 8)) [.tmp 2], q 24 .call [.val (.fn 79 [] []), .tmp 23], q 25 .call [.val (.fn 80 [] [])], q 8 .move [.tmp 24], q 9 .move [.tmp 25]])]
def F55o6 : IC := .ops F55p6
def F55p7 : OPS := [(.seq, [q 26 .move [.tmp 1], q 27 .lenSl [.tmp 26], q 28 .move [.val (.int .i64 0)]])]
def F55o7 : IC := .ops F55p7
def F55p8 : OPS := [(.seq, [q 29 (.bin .lss) [.tmp 28, .tmp 27]])]
def F55o8 : IC := .ops F55p8
def F55p9 : OPS := [(.seq, [q 30 .move [.tmp 28], q 31 (.idxSl 6) [.tmp 26, .tmp 28], q 32 (.load (some 6)) [.tmp 31], q 11 (.alloc 85 6 [.int .u8 0, .int .u8 0, .int .u8 0, .int .i64 0, .int .u8 0, .int .i64 0]) [], q 10 .move [.tmp 30], q0 (.store 6) [.tmp 11, .tmp 32]])]
def F55o9 : IC := .ops F55p9
def F55p10 : OPS := [(.seq, [q 33 .move [.tmp 8], q 34 .move [.tmp 9], q 35 (.load (some 6)) [.tmp 11], q 36 .call [.val (.fn 81 [] []), .tmp 33, .tmp 34, .tmp 35], q 12 .move [.tmp 36]])]
def F55o10 : IC := .ops F55p10
def F55p11 : OPS := [(.seq, [q 37 .move [.tmp 12], q 38 (.bin .neq) [.tmp 37, .val (.int .i64 0)]])]
def F55o11 : IC := .ops F55p11
def F55p12 : OPS := [(.seq, [q 39 (.build [.int .i64 0, .nilSlice, .nilSlice, .nilSlice, .nilSlice, .nilSlice, .nilSlice, .nilSlice] []) [], q 40 .move [.tmp 10], q 41 .move [.tmp 12], q0 (.store 8) [.tmp 4, .tmp 39], q 5 .move [.tmp 40], q 6 .move [.tmp 41]])]
def F55o12 : IC := .ops F55p12
def F55p13 : OPS := [(.seq, [q 42 (.bin .add) [.tmp 28, .val (.int .i64 1)], q 28 .move [.tmp 42]])]
def F55o13 : IC := .ops F55p13
def F55l14 : IC := .seq (F55o8) (.seq (.cond (.tmp 29) (.skip) (.exit 0)) (.seq (.block 1 (.seq (F55o9) (.seq (F55o10) (.seq (F55o11) (.cond (.tmp 38) (.seq (F55o12) (.ret)) (.skip)))))) (F55o13)))
def F55p15 : OPS := [(.seq, [q 43 .move [.tmp 8], q 44 .call [.val (.fn 82 [] []), .tmp 43], q 45 .move [.tmp 1], q 46 .lenSl [.tmp 45], q0 (.store 8) [.tmp 4, .tmp 44], q 5 .move [.tmp 46], q 6 .move [.val (.int .i64 0)]])]
def F55o15 : IC := .ops F55p15
def F55b : IC := .seq (F55o0) (.seq (.seq (F55o1) (.cond (.tmp 15) (.seq (F55o2) (.ret)) (.skip))) (.seq (.seq (F55o3) (.seq (F55o4) (.cond (.tmp 20) (.seq (F55o5) (.ret)) (.skip)))) (.seq (F55o6) (.seq (.seq (F55o7) (.block 0 (.loop F55l14))) (.seq (F55o15) (.ret))))))
def F55 : IFn := ⟨47, [(4, some (some 8)), (5, none), (6, none)], F55b⟩
/- 56: gansey/machines.Start -/
noncomputable def F56 : IFn := (compF Go.Proofs.Tryz.prog 56).getD ⟨0, [], .skip⟩
/- 57: gansey/workshops.left -/
noncomputable def F57 : IFn := (compF Go.Proofs.Tryz.prog 57).getD ⟨0, [], .skip⟩
/- 58: slices.Clone[[]gansey/operations.Op,gansey/operations.Op] -/
noncomputable def F58 : IFn := (compF Go.Proofs.Tryz.prog 58).getD ⟨0, [], .skip⟩
/- 59: slices.Clip[[]int,int] -/
def F59p0 : OPS := [(.seq, [⟨some 2, .move, [.val (.nilSlice)], none, true, 0, 0⟩])]
def F59o0 : IC := .ops F59p0
def F59p1 : OPS := [(.seq, [⟨some 3, .move, [.tmp 0], none, true, 0, 0⟩, ⟨some 4, .move, [.tmp 0], none, true, 0, 0⟩, ⟨some 5, .lenSl, [.tmp 4], none, true, 0, 0⟩, ⟨some 6, .move, [.tmp 0], none, true, 0, 0⟩, ⟨some 7, .lenSl, [.tmp 6], none, true, 0, 0⟩, ⟨some 8, .slc 1 false true true, [.tmp 3, .tmp 5, .tmp 7], none, true, 0, 0⟩, ⟨some 2, .move, [.tmp 8], none, true, 0, 0⟩])]
def F59o1 : IC := .ops F59p1
def F59b : IC := .seq (F59o0) (.seq (F59o1) (.ret))
def F59 : IFn := ⟨9, [(2, none)], F59b⟩
/- 60: gansey/journals.around -/
def F60p0 : OPS := [(.seq, [q 4 (.alloc 113 8 [.int .i64 0, .nilSlice, .nilSlice, .nilSlice, .nilSlice, .nilSlice, .nilSlice, .nilSlice]) [], q 5 (.alloc 113 8 [.int .i64 0, .nilSlice, .nilSlice, .nilSlice, .nilSlice, .nilSlice, .nilSlice, .nilSlice]) [], q 6 .move [.val (.int .i64 0)]])]
def F60o0 : IC := .ops F60p0
def F60p1 : OPS := [(.free, [⟨some 8, .call, [.val (.fn 56 [] [])], none, false, 0, 0⟩, ⟨some 9, .move, [.tmp 0], none, false, 1, 0⟩, ⟨some 10, .move, [.tmp 1], none, false, 2, 0⟩, ⟨some 11, .slc 6 false true false, [.tmp 9, .tmp 10], none, false, 3, 6⟩]), (.seq, [⟨some 12, .call, [.val (.fn 55 [] []), .tmp 8, .tmp 11], none, true, 4, 15⟩]), (.seq, [⟨some 7, .move, [.tmp 12], none, true, 5, 31⟩]), (.free, [⟨some 13, .extract 0, [.tmp 7], none, true, 6, 63⟩, ⟨some 14, .extract 1, [.tmp 7], none, false, 7, 63⟩, ⟨some 15, .extract 2, [.tmp 7], none, false, 8, 63⟩, ⟨none, .store 8, [.tmp 4, .tmp 13], none, true, 9, 127⟩]), (.seq, [⟨some 6, .move, [.tmp 15], none, true, 10, 1023⟩])]
def F60o1 : IC := .ops F60p1
def F60p2 : OPS := [(.seq, [q 16 .move [.tmp 6], q 17 (.bin .neq) [.tmp 16, .val (.int .i64 0)]])]
def F60o2 : IC := .ops F60p2
def F60p3 : OPS := [(.seq, [q 18 (.build [.int .i64 0, .nilSlice, .nilSlice, .nilSlice, .nilSlice, .nilSlice, .nilSlice, .nilSlice] []) [], q 19 (.build [.int .i64 0, .nilSlice, .nilSlice, .nilSlice, .nilSlice, .nilSlice, .nilSlice, .nilSlice] []) [], q 20 .move [.tmp 6], q0 (.store 8) [.tmp 4, .tmp 18], q0 (.store 8) [.tmp 5, .tmp 19], q 6 .move [.tmp 20]])]
def F60o3 : IC := .ops F60p3
def F60p4 : OPS := [(.free, [⟨some 22, .load (some 8), [.tmp 4], none, false, 0, 0⟩, ⟨some 23, .move, [.tmp 0], none, false, 1, 0⟩, ⟨some 24, .move, [.tmp 1], none, false, 2, 0⟩, ⟨some 25, .idxSl 6, [.tmp 23, .tmp 24], none, false, 3, 6⟩, ⟨some 26, .load (some 6), [.tmp 25], none, false, 4, 14⟩]), (.seq, [⟨some 27, .call, [.val (.fn 84 [] []), .tmp 22, .tmp 26], none, true, 5, 31⟩]), (.seq, [⟨some 21, .move, [.tmp 27], none, true, 6, 63⟩]), (.free, [⟨some 28, .extract 0, [.tmp 21], none, true, 7, 127⟩, ⟨some 29, .extract 1, [.tmp 21], none, false, 8, 127⟩, ⟨none, .store 8, [.tmp 5, .tmp 28], none, true, 9, 255⟩]), (.seq, [⟨some 6, .move, [.tmp 29], none, true, 10, 1023⟩])]
def F60o4 : IC := .ops F60p4
def F60p5 : OPS := [(.seq, [q 30 .move [.tmp 6], q 31 (.bin .neq) [.tmp 30, .val (.int .i64 0)]])]
def F60o5 : IC := .ops F60p5
def F60p6 : OPS := [(.seq, [q 32 (.build [.int .i64 0, .nilSlice, .nilSlice, .nilSlice, .nilSlice, .nilSlice, .nilSlice, .nilSlice] []) [], q 33 (.build [.int .i64 0, .nilSlice, .nilSlice, .nilSlice, .nilSlice, .nilSlice, .nilSlice, .nilSlice] []) [], q 34 .move [.tmp 6], q0 (.store 8) [.tmp 4, .tmp 32], q0 (.store 8) [.tmp 5, .tmp 33], q 6 .move [.tmp 34]])]
def F60o6 : IC := .ops F60p6
def F60p7 : OPS := [(.free, [⟨some 35, .load (some 8), [.tmp 4], none, false, 0, 0⟩, ⟨some 36, .load (some 8), [.tmp 5], none, false, 1, 0⟩, ⟨none, .store 8, [.tmp 4, .tmp 35], none, true, 2, 1⟩]), (.seq, [⟨none, .store 8, [.tmp 5, .tmp 36], none, true, 3, 7⟩]), (.seq, [⟨some 6, .move, [.val (.int .i64 0)], none, true, 4, 15⟩])]
def F60o7 : IC := .ops F60p7
def F60b : IC := .seq (F60o0) (.seq (F60o1) (.seq (.seq (F60o2) (.cond (.tmp 17) (.seq (F60o3) (.ret)) (.skip))) (.seq (F60o4) (.seq (.seq (F60o5) (.cond (.tmp 31) (.seq (F60o6) (.ret)) (.skip))) (.seq (F60o7) (.ret))))))
def F60 : IFn := ⟨37, [(4, some (some 8)), (5, some (some 8)), (6, none)], F60b⟩
/- 61: gansey/journals.between -/
noncomputable def F61 : IFn := (compF Go.Proofs.Tryz.prog 61).getD ⟨0, [], .skip⟩
/- 62: gansey/journals.check -/
noncomputable def F62 : IFn := (compF Go.Proofs.Tryz.prog 62).getD ⟨0, [], .skip⟩
/- 64: gansey/journals.records$1 -/
def F64p0 : OPS := [(.seq, [q 4 (.load none) [.tmp 1], q 5 .lenSl [.tmp 4], q 6 (.bin .geq) [.tmp 5, .val (.int .i64 4)]])]
def F64o0 : IC := .ops F64p0
def F64p1 : OPS := [(.free, [⟨some 9, .load none, [.tmp 1], none, false, 0, 0⟩, ⟨some 10, .idxSl 1, [.tmp 9, .val (.int .i64 0)], none, false, 1, 1⟩, ⟨some 11, .load none, [.tmp 10], none, false, 2, 3⟩, ⟨some 12, .bin .eql, [.tmp 11, .val (.int .u8 2)], none, false, 3, 7⟩, ⟨some 13, .load none, [.tmp 1], none, false, 4, 0⟩, ⟨some 14, .idxSl 1, [.tmp 13, .val (.int .i64 1)], none, false, 5, 16⟩, ⟨some 15, .load none, [.tmp 14], none, false, 6, 48⟩, ⟨some 16, .conv .i64, [.tmp 15], none, false, 7, 112⟩, ⟨some 17, .load none, [.tmp 1], none, false, 8, 0⟩, ⟨some 18, .idxSl 1, [.tmp 17, .val (.int .i64 2)], none, false, 9, 256⟩, ⟨some 19, .load none, [.tmp 18], none, false, 10, 768⟩, ⟨some 20, .conv .i64, [.tmp 19], none, false, 11, 1792⟩, ⟨some 21, .bin .shl, [.tmp 20, .val (.int .u64 8)], none, false, 12, 3840⟩, ⟨some 22, .bin .add, [.tmp 16, .tmp 21], none, false, 13, 8176⟩, ⟨some 23, .build [.bool false, .int .i64 0] [(0, 1), (1, 1)], [.tmp 12, .tmp 22], none, false, 14, 16383⟩, ⟨some 3, .alloc 34 2 [.bool false, .int .i64 0], [], none, false, 15, 0⟩]), (.seq, [⟨none, .store 2, [.tmp 3, .tmp 23], none, true, 16, 65535⟩])]
def F64o1 : IC := .ops F64p1
def F64p2 : OPS := [(.seq, [q 24 (.load none) [.tmp 1]]), (.seq, [⟨some 25, .idxSl 1, [.tmp 24, .val (.int .i64 0)], none, true, 1, 1⟩]), (.seq, [⟨some 26, .load none, [.tmp 25], none, true, 2, 3⟩]), (.seq, [⟨some 27, .bin .neq, [.tmp 26, .val (.int .u8 1)], none, true, 3, 7⟩]), (.seq, [⟨some 28, .move, [.tmp 27], none, true, 4, 15⟩]), (.seq, [⟨some 29, .load none, [.tmp 1], some (28, true), true, 5, 31⟩]), (.seq, [⟨some 30, .idxSl 1, [.tmp 29, .val (.int .i64 0)], some (28, true), true, 6, 63⟩]), (.seq, [⟨some 31, .load none, [.tmp 30], some (28, true), true, 7, 127⟩]), (.seq, [⟨some 32, .bin .neq, [.tmp 31, .val (.int .u8 2)], some (28, true), true, 8, 255⟩]), (.seq, [⟨some 33, .pick, [.tmp 28, .tmp 32, .val (.bool false)], none, true, 9, 511⟩]), (.seq, [⟨some 34, .move, [.tmp 33], none, true, 10, 1023⟩]), (.seq, [⟨some 35, .fieldAddr 1, [.tmp 3], some (34, false), true, 11, 2047⟩]), (.seq, [⟨some 36, .load none, [.tmp 35], some (34, false), true, 12, 4095⟩]), (.seq, [⟨some 37, .bin .geq, [.tmp 36, .val (.int .i64 4096)], some (34, false), true, 13, 8191⟩]), (.seq, [⟨some 38, .pick, [.tmp 34, .val (.bool true), .tmp 37], none, true, 14, 16383⟩]), (.seq, [⟨some 39, .move, [.tmp 38], none, true, 15, 32767⟩]), (.free, [⟨some 40, .load none, [.tmp 1], some (39, false), false, 16, 65535⟩, ⟨some 41, .idxSl 1, [.tmp 40, .val (.int .i64 3)], some (39, false), false, 17, 131071⟩, ⟨some 42, .load none, [.tmp 41], some (39, false), false, 18, 262143⟩, ⟨some 43, .load none, [.tmp 1], some (39, false), false, 19, 65535⟩, ⟨some 44, .idxSl 1, [.tmp 43, .val (.int .i64 0)], some (39, false), false, 20, 589823⟩, ⟨some 45, .load none, [.tmp 44], some (39, false), false, 21, 1638399⟩, ⟨some 46, .load none, [.tmp 1], some (39, false), false, 22, 65535⟩, ⟨some 47, .idxSl 1, [.tmp 46, .val (.int .i64 1)], some (39, false), false, 23, 4259839⟩, ⟨some 48, .load none, [.tmp 47], some (39, false), false, 24, 12648447⟩, ⟨some 49, .load none, [.tmp 1], some (39, false), false, 25, 65535⟩, ⟨some 50, .idxSl 1, [.tmp 49, .val (.int .i64 2)], some (39, false), false, 26, 33619967⟩, ⟨some 51, .load none, [.tmp 50], some (39, false), false, 27, 100728831⟩, ⟨some 52, .call, [.val (.fn 62 [] []), .tmp 45, .tmp 48, .tmp 51], some (39, false), false, 28, 267976703⟩]), (.seq, [⟨some 53, .bin .neq, [.tmp 42, .tmp 52], some (39, false), true, 29, 536870911⟩]), (.seq, [⟨some 54, .pick, [.tmp 39, .val (.bool true), .tmp 53], none, true, 30, 1073741823⟩])]
def F64o2 : IC := .ops F64p2
def F64p3 : OPS := [(.seq, [q 55 .move [.tmp 0], q 56 (.load (some 2)) [.tmp 3], q 57 .call [.tmp 55, .tmp 56], q 58 (.un .not) [.tmp 57]])]
def F64o3 : IC := .ops F64p3
def F64p4 : OPS := [(.seq, [q 7 (.load none) [.tmp 1], q 8 (.slc 1 true false false) [.tmp 7, .val (.int .i64 4)], q0 (.store 1) [.tmp 1, .tmp 8]])]
def F64o4 : IC := .ops F64p4
def F64l5 : IC := .seq (.seq (F64o0) (.cond (.tmp 6) (.skip) (.exit 0))) (.seq (.block 1 (.seq (F64o1) (.seq (.seq (F64o2) (.cond (.tmp 54) (.ret) (.skip))) (.seq (F64o3) (.cond (.tmp 58) (.ret) (.skip)))))) (F64o4))
def F64b : IC := .block 0 (.loop F64l5)
def F64 : IFn := ⟨59, [], F64b⟩
/- 67: gansey/needles.Spot -/
noncomputable def F67 : IFn := (compF Go.Proofs.Tryz.prog 67).getD ⟨0, [], .skip⟩
/- 68: gansey/fabrics.Same$1 -/
noncomputable def F68 : IFn := (compF Go.Proofs.Tryz.prog 68).getD ⟨0, [], .skip⟩
/- 69: slices.Equal[[]gansey/api.Id,gansey/api.Id] -/
noncomputable def F69 : IFn := (compF Go.Proofs.Tryz.prog 69).getD ⟨0, [], .skip⟩
/- 70: slices.Equal[[]gansey/yarns.Pass,gansey/yarns.Pass] -/
noncomputable def F70 : IFn := (compF Go.Proofs.Tryz.prog 70).getD ⟨0, [], .skip⟩
/- 71: gansey/fabrics.Same$2 -/
noncomputable def F71 : IFn := (compF Go.Proofs.Tryz.prog 71).getD ⟨0, [], .skip⟩
/- 72: slices.EqualFunc[[]gansey/loops.Loop,[]gansey/loops.Loop,gansey/loops.Loop,gansey/loops.Loop] -/
noncomputable def F72 : IFn := (compF Go.Proofs.Tryz.prog 72).getD ⟨0, [], .skip⟩
/- 73: slices.EqualFunc[gansey/loops.Table,gansey/loops.Table,[]gansey/loops.Loop,[]gansey/loops.Loop] -/
noncomputable def F73 : IFn := (compF Go.Proofs.Tryz.prog 73).getD ⟨0, [], .skip⟩
/- 74: slices.Equal[[]gansey/fabrics.Crossing,gansey/fabrics.Crossing] -/
noncomputable def F74 : IFn := (compF Go.Proofs.Tryz.prog 74).getD ⟨0, [], .skip⟩
/- 75: (*gansey/workshops.journal).begin -/
def F75p0 : OPS := [(.seq, [q 9 .move [.tmp 0], q 10 .nilCheck [.tmp 9], q 11 (.fieldAddr 0) [.tmp 10], q 12 (.load none) [.tmp 11], q 13 .move [.tmp 1], q 14 .call [.val (.fn 9 [] []), .tmp 12, .tmp 13], q 8 .move [.tmp 14], q 15 (.extract 0) [.tmp 8], q 16 (.extract 1) [.tmp 8], q 6 .move [.tmp 15], q 7 .move [.tmp 16]])]
def F75o0 : IC := .ops F75p0
def F75p1 : OPS := [(.seq, [q 17 .move [.tmp 7], q 18 (.bin .eql) [.tmp 17, .val (.int .i64 0)]])]
def F75o1 : IC := .ops F75p1
def F75p2 : OPS := [(.seq, [q 19 .move [.tmp 0], q 20 .move [.tmp 6], q 21 .move [.tmp 6], q 22 .lenSl [.tmp 21], q 23 (.bin .sub) [.tmp 22, .val (.int .i64 4)], q 24 .move [.tmp 2], q 25 (.bin .add) [.tmp 23, .tmp 24], q 26 (.slc 1 false true false) [.tmp 20, .tmp 25], q 27 .nilCheck [.tmp 19], q 28 (.fieldAddr 0) [.tmp 27], q0 (.store 1) [.tmp 28, .tmp 26]])]
def F75o2 : IC := .ops F75p2
def F75b : IC := .seq (F75o0) (.seq (F75o1) (.cond (.tmp 18) (F75o2) (.skip)))
def F75 : IFn := ⟨29, [], F75b⟩
/- 76: (*gansey/workshops.journal).done -/
def F76p0 : OPS := [(.seq, [q 9 .move [.tmp 0], q 10 .nilCheck [.tmp 9], q 11 (.fieldAddr 0) [.tmp 10], q 12 (.load none) [.tmp 11], q 13 .move [.tmp 1], q 14 .call [.val (.fn 8 [] []), .tmp 12, .tmp 13], q 8 .move [.tmp 14], q 15 (.extract 0) [.tmp 8], q 16 (.extract 1) [.tmp 8], q 6 .move [.tmp 15], q 7 .move [.tmp 16]])]
def F76o0 : IC := .ops F76p0
def F76p1 : OPS := [(.seq, [q 17 .move [.tmp 7], q 18 (.bin .eql) [.tmp 17, .val (.int .i64 0)]])]
def F76o1 : IC := .ops F76p1
def F76p2 : OPS := [(.seq, [q 19 .move [.tmp 0], q 20 .move [.tmp 6], q 21 .move [.tmp 6], q 22 .lenSl [.tmp 21], q 23 (.bin .sub) [.tmp 22, .val (.int .i64 4)], q 24 .move [.tmp 2], q 25 (.bin .add) [.tmp 23, .tmp 24], q 26 (.slc 1 false true false) [.tmp 20, .tmp 25], q 27 .nilCheck [.tmp 19], q 28 (.fieldAddr 0) [.tmp 27], q0 (.store 1) [.tmp 28, .tmp 26]])]
def F76o2 : IC := .ops F76p2
def F76b : IC := .seq (F76o0) (.seq (F76o1) (.cond (.tmp 18) (F76o2) (.skip)))
def F76 : IFn := ⟨29, [], F76b⟩
/- 77: (*gansey/workshops.machine).do -/
def F77p0 : OPS := [(.seq, [q 3 (.box 85 6) [.tmp 1]])]
def F77o0 : IC := .ops F77p0
def F77p1 : OPS := [(.free, [⟨some 7, .move, [.tmp 0], none, false, 0, 0⟩, ⟨some 8, .nilCheck, [.tmp 7], none, false, 1, 1⟩, ⟨some 9, .fieldAddr 5, [.tmp 8], none, false, 2, 3⟩, ⟨some 10, .load (some 8), [.tmp 9], none, false, 3, 7⟩, ⟨some 11, .load (some 6), [.tmp 3], none, false, 4, 0⟩, ⟨some 12, .call, [.val (.fn 84 [] []), .tmp 10, .tmp 11], none, false, 5, 31⟩, ⟨some 6, .move, [.tmp 12], none, false, 6, 63⟩, ⟨some 13, .extract 0, [.tmp 6], none, false, 7, 127⟩, ⟨some 14, .extract 1, [.tmp 6], none, false, 8, 127⟩, ⟨some 4, .alloc 113 8 [.int .i64 0, .nilSlice, .nilSlice, .nilSlice, .nilSlice, .nilSlice, .nilSlice, .nilSlice], [], none, false, 9, 0⟩, ⟨none, .store 8, [.tmp 4, .tmp 13], none, true, 10, 767⟩]), (.seq, [⟨some 5, .move, [.tmp 14], none, true, 11, 2047⟩])]
def F77o1 : IC := .ops F77p1
def F77p2 : OPS := [(.seq, [q 15 .move [.tmp 5], q 16 (.bin .eql) [.tmp 15, .val (.int .i64 0)]])]
def F77o2 : IC := .ops F77p2
def F77p3 : OPS := [(.seq, [q 17 .move [.tmp 0], q 18 (.load (some 8)) [.tmp 4], q 19 .nilCheck [.tmp 17], q 20 (.fieldAddr 5) [.tmp 19], q0 (.store 8) [.tmp 20, .tmp 18]])]
def F77o3 : IC := .ops F77p3
def F77b : IC := .seq (F77o0) (.seq (F77o1) (.seq (F77o2) (.cond (.tmp 16) (F77o3) (.skip))))
def F77 : IFn := ⟨21, [], F77b⟩
/- 78: gansey/machines.Check -/
def F78p0 : OPS := [(.seq, [q 1 (.box 113 8) [.tmp 0], q 2 .move [.val (.int .i64 0)]])]
def F78o0 : IC := .ops F78p0
def F78p1 : OPS := [(.seq, [q 10 (.fieldAddr 0) [.tmp 1], q 11 (.load none) [.tmp 10], q 12 (.bin .lss) [.tmp 11, .val (.int .i64 (-4))], q 13 .move [.tmp 12], ⟨some 14, .fieldAddr 0, [.tmp 1], some (13, false), true, 0, 0⟩, ⟨some 15, .load none, [.tmp 14], some (13, false), true, 0, 0⟩, ⟨some 16, .bin .gtr, [.tmp 15, .val (.int .i64 4)], some (13, false), true, 0, 0⟩, q 17 .pick [.tmp 13, .val (.bool true), .tmp 16]])]
def F78o1 : IC := .ops F78p1
def F78p2 : OPS := [(.seq, [q 2 .move [.val (.int .i64 11)]])]
def F78o2 : IC := .ops F78p2
def F78p3 : OPS := [(.seq, [q 18 (.fieldAddr 1) [.tmp 1], q 19 (.load (some 2)) [.tmp 18], q 20 .call [.val (.fn 90 [] []), .tmp 19], q 3 .move [.tmp 20]])]
def F78o3 : IC := .ops F78p3
def F78p4 : OPS := [(.seq, [q 21 .move [.tmp 3], q 22 (.bin .neq) [.tmp 21, .val (.int .i64 0)]])]
def F78o4 : IC := .ops F78p4
def F78p5 : OPS := [(.seq, [q 23 .move [.tmp 3], q 2 .move [.tmp 23]])]
def F78o5 : IC := .ops F78p5
def F78p6 : OPS := [(.seq, [q 24 (.fieldAddr 3) [.tmp 1], q 25 (.load none) [.tmp 24], q 26 .lenSl [.tmp 25], q 27 (.bin .neq) [.tmp 26, .val (.int .i64 6)]])]
def F78o6 : IC := .ops F78p6
def F78p7 : OPS := [(.seq, [q 2 .move [.val (.int .i64 5)]])]
def F78o7 : IC := .ops F78p7
def F78p8 : OPS := [(.seq, [q 28 (.fieldAddr 3) [.tmp 1], q 29 (.load none) [.tmp 28], q 30 .lenSl [.tmp 29], q 31 .move [.val (.int .i64 0)]])]
def F78o8 : IC := .ops F78p8
def F78p9 : OPS := [(.seq, [q 32 (.bin .lss) [.tmp 31, .tmp 30]])]
def F78o9 : IC := .ops F78p9
def F78p10 : OPS := [(.seq, [q 33 (.idxSl 5) [.tmp 29, .tmp 31], q 34 (.load (some 5)) [.tmp 33], q 5 (.alloc 159 5 [.bool false, .int .i64 0, .int .i64 0, .bool false, .nilSlice]) [], q0 (.store 5) [.tmp 5, .tmp 34]])]
def F78o10 : IC := .ops F78p10
def F78p11 : OPS := [(.seq, [q 35 (.load (some 5)) [.tmp 5], q 36 .call [.val (.fn 91 [] []), .tmp 35], q 6 .move [.tmp 36]])]
def F78o11 : IC := .ops F78p11
def F78p12 : OPS := [(.seq, [q 37 .move [.tmp 6], q 38 (.bin .neq) [.tmp 37, .val (.int .i64 0)]])]
def F78o12 : IC := .ops F78p12
def F78p13 : OPS := [(.seq, [q 39 .move [.tmp 6], q 2 .move [.tmp 39]])]
def F78o13 : IC := .ops F78p13
def F78p14 : OPS := [(.seq, [q 40 (.bin .add) [.tmp 31, .val (.int .i64 1)], q 31 .move [.tmp 40]])]
def F78o14 : IC := .ops F78p14
def F78l15 : IC := .seq (F78o9) (.seq (.cond (.tmp 32) (.skip) (.exit 0)) (.seq (.block 1 (.seq (F78o10) (.seq (F78o11) (.seq (F78o12) (.cond (.tmp 38) (.seq (F78o13) (.ret)) (.skip)))))) (F78o14)))
def F78p16 : OPS := [(.seq, [q 41 (.fieldAddr 4) [.tmp 1], q 42 (.load (some 4)) [.tmp 41], q 43 .call [.val (.fn 92 [] []), .tmp 42], q 7 .move [.tmp 43]])]
def F78o16 : IC := .ops F78p16
def F78p17 : OPS := [(.seq, [q 44 .move [.tmp 7], q 45 (.bin .neq) [.tmp 44, .val (.int .i64 0)]])]
def F78o17 : IC := .ops F78p17
def F78p18 : OPS := [(.seq, [q 46 .move [.tmp 7], q 2 .move [.tmp 46]])]
def F78o18 : IC := .ops F78p18
def F78p19 : OPS := [(.free, [⟨some 47, .fieldAddr 4, [.tmp 1], none, false, 0, 0⟩, ⟨some 48, .fieldAddr 2, [.tmp 47], none, false, 1, 1⟩, ⟨some 49, .load none, [.tmp 48], none, false, 2, 3⟩, ⟨some 50, .fieldAddr 1, [.tmp 1], none, false, 3, 0⟩, ⟨some 51, .load (some 2), [.tmp 50], none, false, 4, 8⟩, ⟨some 52, .fieldAddr 0, [.tmp 1], none, false, 5, 0⟩, ⟨some 53, .load none, [.tmp 52], none, false, 6, 32⟩, ⟨some 54, .call, [.val (.fn 93 [] []), .tmp 51, .tmp 53], none, false, 7, 120⟩]), (.seq, [⟨some 55, .call, [.val (.fn 69 [] []), .tmp 49, .tmp 54], none, true, 8, 255⟩]), (.seq, [⟨some 56, .un .not, [.tmp 55], none, true, 9, 511⟩])]
def F78o19 : IC := .ops F78p19
def F78p20 : OPS := [(.seq, [q 2 .move [.val (.int .i64 6)]])]
def F78o20 : IC := .ops F78p20
def F78p21 : OPS := [(.seq, [q 57 (.fieldAddr 3) [.tmp 1], q 58 (.load none) [.tmp 57], q 59 .lenSl [.tmp 58], q 60 .move [.val (.int .i64 0)]])]
def F78o21 : IC := .ops F78p21
def F78p22 : OPS := [(.seq, [q 61 (.bin .lss) [.tmp 60, .tmp 59]])]
def F78o22 : IC := .ops F78p22
def F78p23 : OPS := [(.seq, [q 62 .move [.tmp 60], q 63 (.idxSl 5) [.tmp 58, .tmp 60], q 64 (.load (some 5)) [.tmp 63], q 9 (.alloc 159 5 [.bool false, .int .i64 0, .int .i64 0, .bool false, .nilSlice]) [], q 8 .move [.tmp 62], q0 (.store 5) [.tmp 9, .tmp 64]])]
def F78o23 : IC := .ops F78p23
def F78p24 : OPS := [(.free, [⟨some 65, .fieldAddr 2, [.tmp 9], none, false, 0, 0⟩, ⟨some 66, .load none, [.tmp 65], none, false, 1, 1⟩, ⟨some 67, .fieldAddr 4, [.tmp 1], none, false, 2, 0⟩, ⟨some 68, .fieldAddr 0, [.tmp 67], none, false, 3, 4⟩, ⟨some 69, .load none, [.tmp 68], none, false, 4, 12⟩, ⟨some 70, .move, [.tmp 8], none, false, 5, 0⟩, ⟨some 71, .idxSl 1, [.tmp 69, .tmp 70], none, false, 6, 60⟩, ⟨some 72, .load none, [.tmp 71], none, false, 7, 124⟩, ⟨some 73, .lenSl, [.tmp 72], none, false, 8, 252⟩]), (.seq, [⟨some 74, .bin .neq, [.tmp 66, .tmp 73], none, true, 9, 511⟩])]
def F78o24 : IC := .ops F78p24
def F78p25 : OPS := [(.seq, [q 2 .move [.val (.int .i64 6)]])]
def F78o25 : IC := .ops F78p25
def F78p26 : OPS := [(.seq, [q 75 (.bin .add) [.tmp 60, .val (.int .i64 1)], q 60 .move [.tmp 75]])]
def F78o26 : IC := .ops F78p26
def F78l27 : IC := .seq (F78o22) (.seq (.cond (.tmp 61) (.skip) (.exit 2)) (.seq (.block 3 (.seq (F78o23) (.seq (F78o24) (.cond (.tmp 74) (.seq (F78o25) (.ret)) (.skip))))) (F78o26)))
def F78p28 : OPS := [(.seq, [q 2 .move [.val (.int .i64 0)]])]
def F78o28 : IC := .ops F78p28
def F78b : IC := .seq (F78o0) (.seq (.seq (F78o1) (.cond (.tmp 17) (.seq (F78o2) (.ret)) (.skip))) (.seq (.seq (F78o3) (.seq (F78o4) (.cond (.tmp 22) (.seq (F78o5) (.ret)) (.skip)))) (.seq (.seq (F78o6) (.cond (.tmp 27) (.seq (F78o7) (.ret)) (.skip))) (.seq (.seq (F78o8) (.block 0 (.loop F78l15))) (.seq (.seq (F78o16) (.seq (F78o17) (.cond (.tmp 45) (.seq (F78o18) (.ret)) (.skip)))) (.seq (.seq (F78o19) (.cond (.tmp 56) (.seq (F78o20) (.ret)) (.skip))) (.seq (.seq (F78o21) (.block 2 (.loop F78l27))) (.seq (F78o28) (.ret)))))))))
def F78 : IFn := ⟨76, [(2, none)], F78b⟩
/- 79: gansey/machines.open -/
def F79p0 : OPS := [(.seq, [q 1 (.box 113 8) [.tmp 0], q 2 .move [.val (.nilPtr)]])]
def F79o0 : IC := .ops F79p0
def F79p1 : OPS := [(.free, [⟨some 6, .fieldAddr 0, [.tmp 1], none, false, 0, 0⟩, ⟨some 7, .load none, [.tmp 6], none, false, 1, 1⟩, ⟨some 8, .fieldAddr 1, [.tmp 1], none, false, 2, 0⟩, ⟨some 9, .fieldAddr 0, [.tmp 8], none, false, 3, 4⟩, ⟨some 10, .load none, [.tmp 9], none, false, 4, 12⟩, ⟨some 11, .call, [.val (.fn 94 [] []), .tmp 10], none, false, 5, 28⟩, ⟨some 12, .fieldAddr 1, [.tmp 1], none, false, 6, 0⟩, ⟨some 13, .fieldAddr 1, [.tmp 12], none, false, 7, 64⟩, ⟨some 14, .load none, [.tmp 13], none, false, 8, 192⟩, ⟨some 15, .call, [.val (.fn 94 [] []), .tmp 14], none, false, 9, 508⟩, ⟨some 16, .build [.nilSlice, .nilSlice] [(0, 1), (1, 1)], [.tmp 11, .tmp 15], none, false, 10, 1020⟩, ⟨some 17, .fieldAddr 3, [.tmp 1], none, false, 11, 0⟩, ⟨some 18, .load none, [.tmp 17], none, false, 12, 2048⟩, ⟨some 19, .call, [.val (.fn 95 [] []), .tmp 18], none, false, 13, 7164⟩, ⟨some 20, .fieldAddr 4, [.tmp 1], none, false, 14, 0⟩, ⟨some 21, .fieldAddr 0, [.tmp 20], none, false, 15, 16384⟩, ⟨some 22, .load none, [.tmp 21], none, false, 16, 49152⟩, ⟨some 23, .call, [.val (.fn 96 [] []), .tmp 22], none, false, 17, 130044⟩, ⟨some 24, .fieldAddr 4, [.tmp 1], none, false, 18, 0⟩, ⟨some 25, .fieldAddr 1, [.tmp 24], none, false, 19, 262144⟩, ⟨some 26, .load none, [.tmp 25], none, false, 20, 786432⟩, ⟨some 27, .lenSl, [.tmp 26], none, false, 21, 1835008⟩, ⟨some 28, .mkmap, [.tmp 27], none, false, 22, 3932160⟩, ⟨some 29, .fieldAddr 4, [.tmp 1], none, false, 23, 0⟩, ⟨some 30, .fieldAddr 3, [.tmp 29], none, false, 24, 8388608⟩, ⟨some 31, .load none, [.tmp 30], none, false, 25, 25165824⟩, ⟨some 32, .call, [.val (.fn 97 [] []), .tmp 31], none, false, 26, 58981372⟩]), (.seq, [⟨some 33, .build [.int .i64 0, .nilSlice, .nilSlice, .nilSlice, .nilSlice, .nilMap, .nilSlice] [(0, 1), (1, 2), (3, 1), (4, 1), (5, 1), (6, 1)], [.tmp 7, .tmp 16, .tmp 19, .tmp 23, .tmp 28, .tmp 32], none, true, 27, 134217727⟩]), (.seq, [⟨some 34, .box 191 7, [.tmp 33], none, true, 28, 268435455⟩]), (.seq, [⟨some 3, .move, [.tmp 34], none, true, 29, 536870911⟩])]
def F79o1 : IC := .ops F79p1
def F79p2 : OPS := [(.seq, [q 35 (.fieldAddr 4) [.tmp 1], q 36 (.fieldAddr 1) [.tmp 35], q 37 (.load none) [.tmp 36], q 38 .lenSl [.tmp 37], q 39 .move [.val (.int .i64 0)]])]
def F79o2 : IC := .ops F79p2
def F79p3 : OPS := [(.seq, [q 40 (.bin .lss) [.tmp 39, .tmp 38]])]
def F79o3 : IC := .ops F79p3
def F79p4 : OPS := [(.seq, [q 41 (.idxSl 5) [.tmp 37, .tmp 39], q 42 (.load (some 5)) [.tmp 41], q 5 (.alloc 157 5 [.int .u8 0, .int .i64 0, .int .u8 0, .int .i64 0, .int .i64 0]) [], q0 (.store 5) [.tmp 5, .tmp 42]])]
def F79o4 : IC := .ops F79p4
def F79p5 : OPS := [(.free, [⟨some 43, .move, [.tmp 3], none, false, 0, 0⟩, ⟨some 44, .nilCheck, [.tmp 43], none, false, 1, 1⟩, ⟨some 45, .fieldAddr 5, [.tmp 44], none, false, 2, 3⟩, ⟨some 46, .load none, [.tmp 45], none, false, 3, 7⟩, ⟨some 47, .fieldAddr 0, [.tmp 5], none, false, 4, 0⟩, ⟨some 48, .load (some 2), [.tmp 47], none, false, 5, 16⟩, ⟨some 49, .fieldAddr 2, [.tmp 5], none, false, 6, 0⟩, ⟨some 50, .load (some 2), [.tmp 49], none, false, 7, 64⟩, ⟨some 51, .build [.int .u8 0, .int .i64 0, .int .u8 0, .int .i64 0] [(0, 2), (2, 2)], [.tmp 48, .tmp 50], none, false, 8, 240⟩, ⟨some 52, .fieldAddr 4, [.tmp 5], none, false, 9, 0⟩, ⟨some 53, .load none, [.tmp 52], none, false, 10, 512⟩]), (.seq, [⟨none, .mapUpd (true, [.int, .int, .int, .int]), [.tmp 46, .tmp 51, .tmp 53], none, true, 11, 2047⟩])]
def F79o5 : IC := .ops F79p5
def F79p6 : OPS := [(.seq, [q 54 (.bin .add) [.tmp 39, .val (.int .i64 1)], q 39 .move [.tmp 54]])]
def F79o6 : IC := .ops F79p6
def F79l7 : IC := .seq (F79o3) (.seq (.cond (.tmp 40) (.skip) (.exit 0)) (.seq (.block 1 (.seq (F79o4) (F79o5))) (F79o6)))
def F79p8 : OPS := [(.seq, [q 55 .move [.tmp 3], q 2 .move [.tmp 55]])]
def F79o8 : IC := .ops F79p8
def F79b : IC := .seq (F79o0) (.seq (F79o1) (.seq (.seq (F79o2) (.block 0 (.loop F79l7))) (.seq (F79o8) (.ret))))
def F79 : IFn := ⟨56, [(2, none)], F79b⟩
/- 80: gansey/machines.actions -/
noncomputable def F80 : IFn := (compF Go.Proofs.Tryz.prog 80).getD ⟨0, [], .skip⟩
/- 81: (*gansey/machines.machine).do -/
noncomputable def F81 : IFn := (compF Go.Proofs.Tryz.prog 81).getD ⟨0, [], .skip⟩
/- 82: (*gansey/machines.machine).state -/
def F82p0 : OPS := [(.seq, [q 2 (.alloc 113 8 [.int .i64 0, .nilSlice, .nilSlice, .nilSlice, .nilSlice, .nilSlice, .nilSlice, .nilSlice]) []])]
def F82o0 : IC := .ops F82p0
def F82p1 : OPS := [(.seq, [q 9 .move [.tmp 0], q 10 .nilCheck [.tmp 9], q 11 (.fieldAddr 5) [.tmp 10], q 12 (.load none) [.tmp 11], q 13 .lenMap [.tmp 12], q 14 (.mksl 157 5 40 [.int .u8 0, .int .i64 0, .int .u8 0, .int .i64 0, .int .i64 0]) [.val (.int .i64 0), .tmp 13], q 3 .move [.tmp 14]])]
def F82o1 : IC := .ops F82p1
def F82p2 : OPS := [(.seq, [q 15 .move [.tmp 0], q 16 .nilCheck [.tmp 15], q 17 (.fieldAddr 5) [.tmp 16], q 18 (.load none) [.tmp 17], q 19 .rangeM [.tmp 18]])]
def F82o2 : IC := .ops F82p2
def F82p3 : OPS := [(.seq, [q 20 .nextM [.tmp 19], q 21 (.extract 0) [.tmp 20]])]
def F82o3 : IC := .ops F82p3
def F82p4 : OPS := [(.seq, [q 22 .entryM [.tmp 19], q 23 (.extract 0) [.tmp 22], q 24 (.extract 1) [.tmp 22], q 4 (.alloc 192 4 [.int .u8 0, .int .i64 0, .int .u8 0, .int .i64 0]) [], q0 (.store 4) [.tmp 4, .tmp 23], q 5 .move [.tmp 24]])]
def F82o4 : IC := .ops F82p4
def F82p5 : OPS := [(.seq, [q 25 .move [.tmp 3], q 26 (.idxArrAddr 2 2) [.tmp 4, .val (.int .i64 0)], q 27 (.load (some 2)) [.tmp 26], q 28 (.idxArrAddr 2 2) [.tmp 4, .val (.int .i64 1)], q 29 (.load (some 2)) [.tmp 28], q 30 .move [.tmp 5], q 31 (.build [.int .u8 0, .int .i64 0, .int .u8 0, .int .i64 0, .int .i64 0] [(0, 2), (2, 2), (4, 1)]) [.tmp 27, .tmp 29, .tmp 30], q 32 (.buildSl 157 5 1 [.int .u8 0, .int .i64 0, .int .u8 0, .int .i64 0, .int .i64 0] [(0, 5)]) [.tmp 31], q 33 (.append 157 5 40) [.tmp 25, .tmp 32], q 3 .move [.tmp 33]])]
def F82o5 : IC := .ops F82p5
def F82l6 : IC := .seq (F82o3) (.seq (.cond (.tmp 21) (.skip) (.exit 0)) (.block 1 (.seq (F82o4) (F82o5))))
def F82p7 : OPS := [(.seq, [q 34 .move [.tmp 3], q 35 .call [.val (.fn 107 [] []), .tmp 34, .val (.fn 108 [] [])]])]
def F82o7 : IC := .ops F82p7
def F82p8 : OPS := [(.seq, [q 36 .move [.tmp 0], q 37 .nilCheck [.tmp 36], q 38 (.fieldAddr 4) [.tmp 37], q 39 (.load none) [.tmp 38], q 40 .lenSl [.tmp 39], q 41 .move [.val (.int .i64 0)]])]
def F82o8 : IC := .ops F82p8
def F82p9 : OPS := [(.seq, [q 42 (.bin .lss) [.tmp 41, .tmp 40]])]
def F82o9 : IC := .ops F82p9
def F82p10 : OPS := [(.seq, [q 43 .move [.tmp 41], q 44 (.idxSl 1) [.tmp 39, .tmp 41], q 45 (.load none) [.tmp 44], q 6 .move [.tmp 43], q 7 .move [.tmp 45]])]
def F82o10 : IC := .ops F82p10
def F82p11 : OPS := [(.free, [⟨some 46, .move, [.tmp 0], none, false, 0, 0⟩, ⟨some 47, .nilCheck, [.tmp 46], none, false, 1, 1⟩, ⟨some 48, .fieldAddr 4, [.tmp 47], none, false, 2, 3⟩, ⟨some 49, .load none, [.tmp 48], none, false, 3, 7⟩, ⟨some 50, .move, [.tmp 6], none, false, 4, 0⟩, ⟨some 51, .move, [.tmp 7], none, false, 5, 0⟩, ⟨some 52, .call, [.val (.fn 110 [] []), .tmp 51], none, false, 6, 32⟩]), (.seq, [⟨some 53, .idxSl 1, [.tmp 49, .tmp 50], none, true, 7, 127⟩]), (.seq, [⟨none, .store 1, [.tmp 53, .tmp 52], none, true, 8, 255⟩])]
def F82o11 : IC := .ops F82p11
def F82p12 : OPS := [(.seq, [q 54 (.bin .add) [.tmp 41, .val (.int .i64 1)], q 41 .move [.tmp 54]])]
def F82o12 : IC := .ops F82p12
def F82l13 : IC := .seq (F82o9) (.seq (.cond (.tmp 42) (.skip) (.exit 2)) (.seq (.block 3 (.seq (F82o10) (F82o11))) (F82o12)))
def F82p14 : OPS := [(.seq, [q 55 .move [.tmp 0], q 56 .nilCheck [.tmp 55], q 57 (.fieldAddr 6) [.tmp 56], q 58 (.load none) [.tmp 57], q 59 .call [.val (.fn 111 [] []), .tmp 58, .val (.fn 109 [] [])]])]
def F82o14 : IC := .ops F82p14
def F82p15 : OPS := [(.free, [⟨some 60, .move, [.tmp 0], none, false, 0, 0⟩, ⟨some 61, .nilCheck, [.tmp 60], none, false, 1, 1⟩, ⟨some 62, .fieldAddr 4, [.tmp 61], none, false, 2, 3⟩, ⟨some 63, .load none, [.tmp 62], none, false, 3, 7⟩, ⟨some 64, .move, [.tmp 3], none, false, 4, 0⟩, ⟨some 65, .call, [.val (.fn 112 [] []), .tmp 64], none, false, 5, 16⟩, ⟨some 66, .move, [.tmp 0], none, false, 6, 0⟩, ⟨some 67, .nilCheck, [.tmp 66], none, false, 7, 64⟩, ⟨some 68, .fieldAddr 1, [.tmp 67], none, false, 8, 192⟩, ⟨some 69, .load (some 2), [.tmp 68], none, false, 9, 448⟩, ⟨some 70, .move, [.tmp 0], none, false, 10, 0⟩, ⟨some 71, .nilCheck, [.tmp 70], none, false, 11, 1024⟩, ⟨some 72, .fieldAddr 0, [.tmp 71], none, false, 12, 3072⟩, ⟨some 73, .load none, [.tmp 72], none, false, 13, 7168⟩, ⟨some 74, .call, [.val (.fn 93 [] []), .tmp 69, .tmp 73], none, false, 14, 16368⟩, ⟨some 75, .move, [.tmp 0], none, false, 15, 0⟩, ⟨some 76, .nilCheck, [.tmp 75], none, false, 16, 32768⟩, ⟨some 77, .fieldAddr 6, [.tmp 76], none, false, 17, 98304⟩, ⟨some 78, .load none, [.tmp 77], none, false, 18, 229376⟩, ⟨some 79, .call, [.val (.fn 97 [] []), .tmp 78], none, false, 19, 524272⟩, ⟨some 80, .build [.nilSlice, .nilSlice, .nilSlice, .nilSlice] [(0, 1), (1, 1), (2, 1), (3, 1)], [.tmp 63, .tmp 65, .tmp 74, .tmp 79], none, false, 20, 1048575⟩, ⟨some 8, .alloc 67 4 [.nilSlice, .nilSlice, .nilSlice, .nilSlice], [], none, false, 21, 0⟩]), (.seq, [⟨none, .store 4, [.tmp 8, .tmp 80], none, true, 22, 4194303⟩])]
def F82o15 : IC := .ops F82p15
def F82p16 : OPS := [(.free, [⟨some 81, .move, [.tmp 0], none, false, 0, 0⟩, ⟨some 82, .nilCheck, [.tmp 81], none, false, 1, 1⟩, ⟨some 83, .fieldAddr 0, [.tmp 82], none, false, 2, 3⟩, ⟨some 84, .load none, [.tmp 83], none, false, 3, 7⟩, ⟨some 85, .move, [.tmp 0], none, false, 4, 0⟩, ⟨some 86, .nilCheck, [.tmp 85], none, false, 5, 16⟩, ⟨some 87, .fieldAddr 1, [.tmp 86], none, false, 6, 48⟩, ⟨some 88, .load (some 2), [.tmp 87], none, false, 7, 112⟩, ⟨some 89, .move, [.tmp 0], none, false, 8, 0⟩, ⟨some 90, .nilCheck, [.tmp 89], none, false, 9, 256⟩, ⟨some 91, .fieldAddr 3, [.tmp 90], none, false, 10, 768⟩, ⟨some 92, .load none, [.tmp 91], none, false, 11, 1792⟩, ⟨some 93, .load (some 4), [.tmp 8], none, false, 12, 0⟩]), (.seq, [⟨some 94, .build [.int .i64 0, .nilSlice, .nilSlice, .nilSlice, .nilSlice, .nilSlice, .nilSlice, .nilSlice] [(0, 1), (1, 2), (3, 1), (4, 4)], [.tmp 84, .tmp 88, .tmp 92, .tmp 93], none, true, 13, 8191⟩]), (.seq, [⟨none, .store 8, [.tmp 2, .tmp 94], none, true, 14, 16383⟩])]
def F82o16 : IC := .ops F82p16
def F82b : IC := .seq (F82o0) (.seq (F82o1) (.seq (.seq (F82o2) (.block 0 (.loop F82l6))) (.seq (F82o7) (.seq (.seq (F82o8) (.block 2 (.loop F82l13))) (.seq (F82o14) (.seq (F82o15) (.seq (F82o16) (.ret))))))))
def F82 : IFn := ⟨95, [(2, some (some 8))], F82b⟩
/- 83: gansey/fabrics.Empty -/
noncomputable def F83 : IFn := (compF Go.Proofs.Tryz.prog 83).getD ⟨0, [], .skip⟩
/- 84: gansey/machines.Step -/
noncomputable def F84 : IFn := (compF Go.Proofs.Tryz.prog 84).getD ⟨0, [], .skip⟩
/- 88: gansey/needles.Check -/
noncomputable def F88 : IFn := (compF Go.Proofs.Tryz.prog 88).getD ⟨0, [], .skip⟩
/- 89: gansey/needles.racked -/
noncomputable def F89 : IFn := (compF Go.Proofs.Tryz.prog 89).getD ⟨0, [], .skip⟩
/- 90: gansey/stacks.Check -/
def F90p0 : OPS := [(.seq, [q 1 (.box 110 2) [.tmp 0], q 2 (.alloc 26 1 [.int .i64 0]) []])]
def F90o0 : IC := .ops F90p0
def F90p1 : OPS := [(.seq, [q 20 (.load (some 2)) [.tmp 1], q 21 .call [.val (.fn 116 [] []), .tmp 20]])]
def F90o1 : IC := .ops F90p1
def F90p2 : OPS := [(.seq, [q 4 .move [.tmp 23]])]
def F90o2 : IC := .ops F90p2
def F90p3 : OPS := [(.seq, [q 24 .move [.tmp 4], q 25 .lenSl [.tmp 24], q 26 (.bin .gtr) [.tmp 25, .val (.int .i64 40)]])]
def F90o3 : IC := .ops F90p3
def F90p4 : OPS := [(.seq, [q0 (.store 1) [.tmp 2, .val (.int .i64 9)]])]
def F90o4 : IC := .ops F90p4
def F90p5 : OPS := [(.seq, [q 27 .move [.tmp 4], q 28 .lenSl [.tmp 27], q 29 .move [.val (.int .i64 0)]])]
def F90o5 : IC := .ops F90p5
def F90p6 : OPS := [(.seq, [q 30 (.bin .lss) [.tmp 29, .tmp 28]])]
def F90o6 : IC := .ops F90p6
def F90p7 : OPS := [(.seq, [q 31 (.idxSl 1) [.tmp 27, .tmp 29], q 32 (.load none) [.tmp 31], q 6 .move [.tmp 32]])]
def F90o7 : IC := .ops F90p7
def F90p8 : OPS := [(.seq, [q 33 .move [.tmp 6], q 34 .lenSl [.tmp 33], q 35 (.bin .gtr) [.tmp 34, .val (.int .i64 4)]])]
def F90o8 : IC := .ops F90p8
def F90p9 : OPS := [(.seq, [q0 (.store 1) [.tmp 2, .val (.int .i64 9)]])]
def F90o9 : IC := .ops F90p9
def F90p10 : OPS := [(.seq, [q 36 (.bin .add) [.tmp 29, .val (.int .i64 1)], q 29 .move [.tmp 36]])]
def F90o10 : IC := .ops F90p10
def F90l11 : IC := .seq (F90o6) (.seq (.cond (.tmp 30) (.skip) (.exit 2)) (.seq (.block 3 (.seq (F90o7) (.seq (F90o8) (.cond (.tmp 35) (.seq (F90o9) (.ret)) (.skip))))) (F90o10)))
def F90p12 : OPS := [(.seq, [q 37 (.load (some 2)) [.tmp 1], q 38 .call [.val (.fn 116 [] []), .tmp 37]])]
def F90o12 : IC := .ops F90p12
def F90p13 : OPS := [(.seq, [q 8 .move [.tmp 40]])]
def F90o13 : IC := .ops F90p13
def F90p14 : OPS := [(.seq, [q 41 .move [.tmp 8], q 42 .lenSl [.tmp 41], q 43 .move [.val (.int .i64 0)]])]
def F90o14 : IC := .ops F90p14
def F90p15 : OPS := [(.seq, [q 44 (.bin .lss) [.tmp 43, .tmp 42]])]
def F90o15 : IC := .ops F90p15
def F90p16 : OPS := [(.seq, [q 45 (.idxSl 1) [.tmp 41, .tmp 43], q 46 (.load none) [.tmp 45], q 10 .move [.tmp 46]])]
def F90o16 : IC := .ops F90p16
def F90p17 : OPS := [(.seq, [q 47 .move [.tmp 10], q 48 .lenSl [.tmp 47], q 49 .move [.val (.int .i64 0)]])]
def F90o17 : IC := .ops F90p17
def F90p18 : OPS := [(.seq, [q 50 (.bin .lss) [.tmp 49, .tmp 48]])]
def F90o18 : IC := .ops F90p18
def F90p19 : OPS := [(.seq, [q 51 (.idxSl 2) [.tmp 47, .tmp 49], q 52 (.load (some 2)) [.tmp 51], q 12 (.alloc 146 2 [.int .u8 0, .int .i64 0]) [], q0 (.store 2) [.tmp 12, .tmp 52]])]
def F90o19 : IC := .ops F90p19
def F90p20 : OPS := [(.seq, [q 53 (.load (some 2)) [.tmp 12], q 54 .call [.val (.fn 117 [] []), .tmp 53], q 55 (.un .not) [.tmp 54]])]
def F90o20 : IC := .ops F90p20
def F90p21 : OPS := [(.seq, [q0 (.store 1) [.tmp 2, .val (.int .i64 1)]])]
def F90o21 : IC := .ops F90p21
def F90p22 : OPS := [(.seq, [q 56 (.bin .add) [.tmp 49, .val (.int .i64 1)], q 49 .move [.tmp 56]])]
def F90o22 : IC := .ops F90p22
def F90l23 : IC := .seq (F90o18) (.seq (.cond (.tmp 50) (.skip) (.exit 8)) (.seq (.block 9 (.seq (F90o19) (.seq (F90o20) (.cond (.tmp 55) (.seq (F90o21) (.ret)) (.skip))))) (F90o22)))
def F90p24 : OPS := [(.seq, [q 57 (.bin .add) [.tmp 43, .val (.int .i64 1)], q 43 .move [.tmp 57]])]
def F90o24 : IC := .ops F90p24
def F90l25 : IC := .seq (F90o15) (.seq (.cond (.tmp 44) (.skip) (.exit 6)) (.seq (.block 7 (.seq (F90o16) (.seq (F90o17) (.block 8 (.loop F90l23))))) (F90o24)))
def F90p26 : OPS := [(.seq, [q 58 (.load (some 2)) [.tmp 1], q 59 .call [.val (.fn 118 [] []), .tmp 58], q 60 .mkmap [.tmp 59], q 13 (.alloc 208 1 [.nilMap]) [], q0 (.store 1) [.tmp 13, .tmp 60]])]
def F90o26 : IC := .ops F90p26
def F90p27 : OPS := [(.seq, [q 61 (.load (some 2)) [.tmp 1], q 62 .call [.val (.fn 116 [] []), .tmp 61]])]
def F90o27 : IC := .ops F90p27
def F90p28 : OPS := [(.seq, [q 15 .move [.tmp 64]])]
def F90o28 : IC := .ops F90p28
def F90p29 : OPS := [(.seq, [q 65 .move [.tmp 15], q 66 .lenSl [.tmp 65], q 67 .move [.val (.int .i64 0)]])]
def F90o29 : IC := .ops F90p29
def F90p30 : OPS := [(.seq, [q 68 (.bin .lss) [.tmp 67, .tmp 66]])]
def F90o30 : IC := .ops F90p30
def F90p31 : OPS := [(.seq, [q 69 (.idxSl 1) [.tmp 65, .tmp 67], q 70 (.load none) [.tmp 69], q 17 .move [.tmp 70]])]
def F90o31 : IC := .ops F90p31
def F90p32 : OPS := [(.seq, [q 71 .move [.tmp 17], q 72 .lenSl [.tmp 71], q 73 .move [.val (.int .i64 0)]])]
def F90o32 : IC := .ops F90p32
def F90p33 : OPS := [(.seq, [q 74 (.bin .lss) [.tmp 73, .tmp 72]])]
def F90o33 : IC := .ops F90p33
def F90p34 : OPS := [(.seq, [q 75 (.idxSl 2) [.tmp 71, .tmp 73], q 76 (.load (some 2)) [.tmp 75], q 19 (.alloc 146 2 [.int .u8 0, .int .i64 0]) [], q0 (.store 2) [.tmp 19, .tmp 76]])]
def F90o34 : IC := .ops F90p34
def F90p35 : OPS := [(.seq, [q 77 (.load none) [.tmp 13], q 78 (.load (some 2)) [.tmp 19], q 79 (.lookup 208 (true, [.int, .int]) (.bool false) false) [.tmp 77, .tmp 78]])]
def F90o35 : IC := .ops F90p35
def F90p36 : OPS := [(.seq, [q0 (.store 1) [.tmp 2, .val (.int .i64 8)]])]
def F90o36 : IC := .ops F90p36
def F90p37 : OPS := [(.seq, [q 80 (.load none) [.tmp 13], q 81 (.load (some 2)) [.tmp 19], q0 (.mapUpd (true, [.int, .int])) [.tmp 80, .tmp 81, .val (.bool true)]])]
def F90o37 : IC := .ops F90p37
def F90p38 : OPS := [(.seq, [q 82 (.bin .add) [.tmp 73, .val (.int .i64 1)], q 73 .move [.tmp 82]])]
def F90o38 : IC := .ops F90p38
def F90l39 : IC := .seq (F90o33) (.seq (.cond (.tmp 74) (.skip) (.exit 14)) (.seq (.block 15 (.seq (F90o34) (.seq (.seq (F90o35) (.cond (.tmp 79) (.seq (F90o36) (.ret)) (.skip))) (F90o37)))) (F90o38)))
def F90p40 : OPS := [(.seq, [q 83 (.bin .add) [.tmp 67, .val (.int .i64 1)], q 67 .move [.tmp 83]])]
def F90o40 : IC := .ops F90p40
def F90l41 : IC := .seq (F90o30) (.seq (.cond (.tmp 68) (.skip) (.exit 12)) (.seq (.block 13 (.seq (F90o31) (.seq (F90o32) (.block 14 (.loop F90l39))))) (F90o40)))
def F90p42 : OPS := [(.seq, [q0 (.store 1) [.tmp 2, .val (.int .i64 0)]])]
def F90o42 : IC := .ops F90p42
def F90b : IC := .seq (F90o0) (.seq (.seq (F90o1) (.block 0 (.rfn (.tmp 21) [22, 23] (F90o2) (.block 1 (.seq (.seq (F90o3) (.cond (.tmp 26) (.seq (F90o4) (.ret)) (.skip))) (.seq (F90o5) (.block 2 (.loop F90l11)))))))) (.seq (.seq (F90o12) (.block 4 (.rfn (.tmp 38) [39, 40] (F90o13) (.block 5 (.seq (F90o14) (.block 6 (.loop F90l25))))))) (.seq (F90o26) (.seq (.seq (F90o27) (.block 10 (.rfn (.tmp 62) [63, 64] (F90o28) (.block 11 (.seq (F90o29) (.block 12 (.loop F90l41))))))) (.seq (F90o42) (.ret))))))
def F90 : IFn := ⟨84, [(2, some none)], F90b⟩
/- 91: gansey/yarns.Check -/
def F91p0 : OPS := [(.seq, [q 1 (.box 159 5) [.tmp 0], q 2 .move [.val (.int .i64 0)]])]
def F91o0 : IC := .ops F91p0
def F91p1 : OPS := [(.seq, [q 5 (.fieldAddr 2) [.tmp 1], q 6 (.load none) [.tmp 5], q 7 (.bin .lss) [.tmp 6, .val (.int .i64 0)], q 8 .move [.tmp 7], ⟨some 9, .fieldAddr 2, [.tmp 1], some (8, false), true, 0, 0⟩, ⟨some 10, .load none, [.tmp 9], some (8, false), true, 0, 0⟩, ⟨some 11, .bin .gtr, [.tmp 10, .val (.int .i64 2048)], some (8, false), true, 0, 0⟩, q 12 .pick [.tmp 8, .val (.bool true), .tmp 11]])]
def F91o1 : IC := .ops F91p1
def F91p2 : OPS := [(.seq, [q 2 .move [.val (.int .i64 1)]])]
def F91o2 : IC := .ops F91p2
def F91p3 : OPS := [(.seq, [q 13 (.fieldAddr 0) [.tmp 1], q 14 (.load none) [.tmp 13], q 15 (.un .not) [.tmp 14]])]
def F91o3 : IC := .ops F91p3
def F91p4 : OPS := [(.seq, [q 16 (.fieldAddr 1) [.tmp 1], q 17 (.load none) [.tmp 16], q 18 (.bin .neq) [.tmp 17, .val (.int .i64 0)], q 19 .move [.tmp 18], ⟨some 20, .fieldAddr 3, [.tmp 1], some (19, false), true, 0, 0⟩, ⟨some 21, .load none, [.tmp 20], some (19, false), true, 0, 0⟩, q 22 .pick [.tmp 19, .val (.bool true), .tmp 21], q 23 .move [.tmp 22], ⟨some 24, .fieldAddr 4, [.tmp 1], some (23, false), true, 0, 0⟩, ⟨some 25, .load none, [.tmp 24], some (23, false), true, 0, 0⟩, ⟨some 26, .lenSl, [.tmp 25], some (23, false), true, 0, 0⟩, ⟨some 27, .bin .gtr, [.tmp 26, .val (.int .i64 0)], some (23, false), true, 0, 0⟩, q 28 .pick [.tmp 23, .val (.bool true), .tmp 27]])]
def F91o4 : IC := .ops F91p4
def F91p5 : OPS := [(.seq, [q 2 .move [.val (.int .i64 1)]])]
def F91o5 : IC := .ops F91p5
def F91p6 : OPS := [(.seq, [q 2 .move [.val (.int .i64 0)]])]
def F91o6 : IC := .ops F91p6
def F91p7 : OPS := [(.seq, [q 29 (.fieldAddr 1) [.tmp 1], q 30 (.load none) [.tmp 29], q 31 .call [.val (.fn 119 [] []), .tmp 30], q 32 (.un .not) [.tmp 31], q 33 .move [.tmp 32], ⟨some 34, .fieldAddr 4, [.tmp 1], some (33, false), true, 0, 0⟩, ⟨some 35, .load none, [.tmp 34], some (33, false), true, 0, 0⟩, ⟨some 36, .lenSl, [.tmp 35], some (33, false), true, 0, 0⟩, ⟨some 37, .bin .gtr, [.tmp 36, .val (.int .i64 4096)], some (33, false), true, 0, 0⟩, q 38 .pick [.tmp 33, .val (.bool true), .tmp 37]])]
def F91o7 : IC := .ops F91p7
def F91p8 : OPS := [(.seq, [q 2 .move [.val (.int .i64 1)]])]
def F91o8 : IC := .ops F91p8
def F91p9 : OPS := [(.seq, [q 39 (.fieldAddr 4) [.tmp 1], q 40 (.load none) [.tmp 39], q 41 .lenSl [.tmp 40], q 42 .move [.val (.int .i64 0)]])]
def F91o9 : IC := .ops F91p9
def F91p10 : OPS := [(.seq, [q 43 (.bin .lss) [.tmp 42, .tmp 41]])]
def F91o10 : IC := .ops F91p10
def F91p11 : OPS := [(.seq, [q 44 .move [.tmp 42], q 45 (.idxSl 4) [.tmp 40, .tmp 42], q 46 (.load (some 4)) [.tmp 45], q 4 (.alloc 149 4 [.int .u8 0, .int .i64 0, .bool false, .int .u8 0]) [], q 3 .move [.tmp 44], q0 (.store 4) [.tmp 4, .tmp 46]])]
def F91o11 : IC := .ops F91p11
def F91p12 : OPS := [(.seq, [q 47 (.load (some 4)) [.tmp 4]]), (.seq, [⟨some 48, .call, [.val (.fn 120 [] []), .tmp 47], none, true, 1, 1⟩]), (.seq, [⟨some 49, .un .not, [.tmp 48], none, true, 2, 3⟩]), (.seq, [⟨some 50, .move, [.tmp 49], none, true, 3, 7⟩]), (.seq, [⟨some 51, .move, [.tmp 3], some (50, false), true, 4, 15⟩]), (.seq, [⟨some 52, .bin .gtr, [.tmp 51, .val (.int .i64 0)], some (50, false), true, 5, 31⟩]), (.seq, [⟨some 53, .move, [.tmp 52], some (50, false), true, 6, 63⟩]), (.free, [⟨some 54, .fieldAddr 4, [.tmp 1], some (53, true), false, 7, 127⟩, ⟨some 55, .load none, [.tmp 54], some (53, true), false, 8, 255⟩, ⟨some 56, .move, [.tmp 3], some (53, true), false, 9, 127⟩, ⟨some 57, .bin .sub, [.tmp 56, .val (.int .i64 1)], some (53, true), false, 10, 639⟩, ⟨some 58, .idxSl 4, [.tmp 55, .tmp 57], some (53, true), false, 11, 2047⟩, ⟨some 59, .load (some 4), [.tmp 58], some (53, true), false, 12, 4095⟩, ⟨some 60, .load (some 4), [.tmp 4], some (53, true), false, 13, 127⟩]), (.seq, [⟨some 61, .call, [.val (.fn 121 [] []), .tmp 59, .tmp 60], some (53, true), true, 14, 16383⟩]), (.seq, [⟨some 62, .pick, [.tmp 53, .tmp 61, .val (.bool false)], some (50, false), true, 15, 32767⟩]), (.seq, [⟨some 63, .pick, [.tmp 50, .val (.bool true), .tmp 62], none, true, 16, 65535⟩])]
def F91o12 : IC := .ops F91p12
def F91p13 : OPS := [(.seq, [q 2 .move [.val (.int .i64 1)]])]
def F91o13 : IC := .ops F91p13
def F91p14 : OPS := [(.seq, [q 64 (.bin .add) [.tmp 42, .val (.int .i64 1)], q 42 .move [.tmp 64]])]
def F91o14 : IC := .ops F91p14
def F91l15 : IC := .seq (F91o10) (.seq (.cond (.tmp 43) (.skip) (.exit 0)) (.seq (.block 1 (.seq (F91o11) (.seq (F91o12) (.cond (.tmp 63) (.seq (F91o13) (.ret)) (.skip))))) (F91o14)))
def F91p16 : OPS := [(.seq, [q 2 .move [.val (.int .i64 0)]])]
def F91o16 : IC := .ops F91p16
def F91b : IC := .seq (F91o0) (.seq (.seq (F91o1) (.cond (.tmp 12) (.seq (F91o2) (.ret)) (.skip))) (.seq (.seq (F91o3) (.cond (.tmp 15) (.seq (.seq (F91o4) (.cond (.tmp 28) (.seq (F91o5) (.ret)) (.skip))) (.seq (F91o6) (.ret))) (.skip))) (.seq (.seq (F91o7) (.cond (.tmp 38) (.seq (F91o8) (.ret)) (.skip))) (.seq (.seq (F91o9) (.block 0 (.loop F91l15))) (.seq (F91o16) (.ret))))))
def F91 : IFn := ⟨65, [(2, none)], F91b⟩
/- 92: gansey/fabrics.Check -/
noncomputable def F92 : IFn := (compF Go.Proofs.Tryz.prog 92).getD ⟨0, [], .skip⟩
/- 93: gansey/machines.held -/
noncomputable def F93 : IFn := (compF Go.Proofs.Tryz.prog 93).getD ⟨0, [], .skip⟩
/- 94: gansey/machines.copyBed -/
noncomputable def F94 : IFn := (compF Go.Proofs.Tryz.prog 94).getD ⟨0, [], .skip⟩
/- 95: gansey/machines.copyYarns -/
noncomputable def F95 : IFn := (compF Go.Proofs.Tryz.prog 95).getD ⟨0, [], .skip⟩
/- 96: gansey/machines.copyTable -/
def F96p0 : OPS := [(.seq, [q 2 .move [.val (.nilSlice)]])]
def F96o0 : IC := .ops F96p0
def F96p1 : OPS := [(.seq, [q 8 .move [.tmp 0], q 9 .lenSl [.tmp 8], q 10 (.mksl 151 1 24 [.nilSlice]) [.tmp 9, .tmp 9], q 3 .move [.tmp 10]])]
def F96o1 : IC := .ops F96p1
def F96p2 : OPS := [(.seq, [q 11 .move [.tmp 0], q 12 .lenSl [.tmp 11], q 13 .move [.val (.int .i64 0)]])]
def F96o2 : IC := .ops F96p2
def F96p3 : OPS := [(.seq, [q 14 (.bin .lss) [.tmp 13, .tmp 12]])]
def F96o3 : IC := .ops F96p3
def F96p4 : OPS := [(.seq, [q 15 .move [.tmp 13], q 16 (.idxSl 1) [.tmp 11, .tmp 13], q 17 (.load none) [.tmp 16], q 4 .move [.tmp 15], q 5 .move [.tmp 17]])]
def F96o4 : IC := .ops F96p4
def F96p5 : OPS := [(.seq, [q 18 .move [.tmp 3], q 19 .move [.tmp 4], q 20 .move [.tmp 5], q 21 .call [.val (.fn 110 [] []), .tmp 20], q 22 (.idxSl 1) [.tmp 18, .tmp 19], q0 (.store 1) [.tmp 22, .tmp 21]])]
def F96o5 : IC := .ops F96p5
def F96p6 : OPS := [(.seq, [q 23 .move [.tmp 5], q 24 .lenSl [.tmp 23], q 25 .move [.val (.int .i64 0)]])]
def F96o6 : IC := .ops F96p6
def F96p7 : OPS := [(.seq, [q 26 (.bin .lss) [.tmp 25, .tmp 24]])]
def F96o7 : IC := .ops F96p7
def F96p8 : OPS := [(.seq, [q 27 .move [.tmp 25], q 28 (.idxSl 4) [.tmp 23, .tmp 25], q 29 (.load (some 4)) [.tmp 28], q 7 (.alloc 143 4 [.int .u8 0, .bool false, .nilSlice, .nilSlice]) [], q 6 .move [.tmp 27], q0 (.store 4) [.tmp 7, .tmp 29]])]
def F96o8 : IC := .ops F96p8
def F96p9 : OPS := [(.free, [⟨some 30, .move, [.tmp 3], none, false, 0, 0⟩, ⟨some 31, .move, [.tmp 4], none, false, 1, 0⟩, ⟨some 32, .idxSl 1, [.tmp 30, .tmp 31], none, false, 2, 3⟩, ⟨some 33, .load none, [.tmp 32], none, false, 3, 7⟩, ⟨some 34, .move, [.tmp 6], none, false, 4, 0⟩, ⟨some 35, .fieldAddr 2, [.tmp 7], none, false, 5, 0⟩, ⟨some 36, .load none, [.tmp 35], none, false, 6, 32⟩, ⟨some 37, .call, [.val (.fn 97 [] []), .tmp 36], none, false, 7, 96⟩]), (.seq, [⟨some 38, .idxSl 4, [.tmp 33, .tmp 34], none, true, 8, 255⟩]), (.seq, [⟨some 39, .fieldAddr 2, [.tmp 38], none, true, 9, 511⟩]), (.seq, [⟨none, .store 1, [.tmp 39, .tmp 37], none, true, 10, 1023⟩])]
def F96o9 : IC := .ops F96p9
def F96p10 : OPS := [(.free, [⟨some 40, .move, [.tmp 3], none, false, 0, 0⟩, ⟨some 41, .move, [.tmp 4], none, false, 1, 0⟩, ⟨some 42, .idxSl 1, [.tmp 40, .tmp 41], none, false, 2, 3⟩, ⟨some 43, .load none, [.tmp 42], none, false, 3, 7⟩, ⟨some 44, .move, [.tmp 6], none, false, 4, 0⟩, ⟨some 45, .fieldAddr 3, [.tmp 7], none, false, 5, 0⟩, ⟨some 46, .load none, [.tmp 45], none, false, 6, 32⟩, ⟨some 47, .call, [.val (.fn 127 [] []), .tmp 46], none, false, 7, 96⟩]), (.seq, [⟨some 48, .idxSl 4, [.tmp 43, .tmp 44], none, true, 8, 255⟩]), (.seq, [⟨some 49, .fieldAddr 3, [.tmp 48], none, true, 9, 511⟩]), (.seq, [⟨none, .store 1, [.tmp 49, .tmp 47], none, true, 10, 1023⟩])]
def F96o10 : IC := .ops F96p10
def F96p11 : OPS := [(.seq, [q 50 (.bin .add) [.tmp 25, .val (.int .i64 1)], q 25 .move [.tmp 50]])]
def F96o11 : IC := .ops F96p11
def F96l12 : IC := .seq (F96o7) (.seq (.cond (.tmp 26) (.skip) (.exit 2)) (.seq (.block 3 (.seq (F96o8) (.seq (F96o9) (F96o10)))) (F96o11)))
def F96p13 : OPS := [(.seq, [q 51 (.bin .add) [.tmp 13, .val (.int .i64 1)], q 13 .move [.tmp 51]])]
def F96o13 : IC := .ops F96p13
def F96l14 : IC := .seq (F96o3) (.seq (.cond (.tmp 14) (.skip) (.exit 0)) (.seq (.block 1 (.seq (F96o4) (.seq (F96o5) (.seq (F96o6) (.block 2 (.loop F96l12)))))) (F96o13)))
def F96p15 : OPS := [(.seq, [q 52 .move [.tmp 3], q 2 .move [.tmp 52]])]
def F96o15 : IC := .ops F96p15
def F96b : IC := .seq (F96o0) (.seq (F96o1) (.seq (.seq (F96o2) (.block 0 (.loop F96l14))) (.seq (F96o15) (.ret))))
def F96 : IFn := ⟨53, [(2, none)], F96b⟩
/- 97: gansey/machines.copied[gansey/api.Id] -/
noncomputable def F97 : IFn := (compF Go.Proofs.Tryz.prog 97).getD ⟨0, [], .skip⟩
/- 98: (*gansey/machines.machine).in -/
noncomputable def F98 : IFn := (compF Go.Proofs.Tryz.prog 98).getD ⟨0, [], .skip⟩
/- 99: (*gansey/machines.machine).out -/
noncomputable def F99 : IFn := (compF Go.Proofs.Tryz.prog 99).getD ⟨0, [], .skip⟩
/- 100: (*gansey/machines.machine).moveTo -/
noncomputable def F100 : IFn := (compF Go.Proofs.Tryz.prog 100).getD ⟨0, [], .skip⟩
/- 101: (*gansey/machines.machine).knit -/
noncomputable def F101 : IFn := (compF Go.Proofs.Tryz.prog 101).getD ⟨0, [], .skip⟩
/- 102: (*gansey/machines.machine).tuck -/
noncomputable def F102 : IFn := (compF Go.Proofs.Tryz.prog 102).getD ⟨0, [], .skip⟩
/- 103: (*gansey/machines.machine).miss -/
noncomputable def F103 : IFn := (compF Go.Proofs.Tryz.prog 103).getD ⟨0, [], .skip⟩
/- 104: (*gansey/machines.machine).xfer -/
noncomputable def F104 : IFn := (compF Go.Proofs.Tryz.prog 104).getD ⟨0, [], .skip⟩
/- 105: (*gansey/machines.machine).drop -/
noncomputable def F105 : IFn := (compF Go.Proofs.Tryz.prog 105).getD ⟨0, [], .skip⟩
/- 106: gansey/operations.Check -/
noncomputable def F106 : IFn := (compF Go.Proofs.Tryz.prog 106).getD ⟨0, [], .skip⟩
/- 107: slices.SortFunc[[]gansey/fabrics.Crossing,gansey/fabrics.Crossing] -/
noncomputable def F107 : IFn := (compF Go.Proofs.Tryz.prog 107).getD ⟨0, [], .skip⟩
/- 108: (*gansey/machines.machine).state$1 -/
noncomputable def F108 : IFn := (compF Go.Proofs.Tryz.prog 108).getD ⟨0, [], .skip⟩
/- 109: gansey/fabrics.Compare -/
noncomputable def F109 : IFn := (compF Go.Proofs.Tryz.prog 109).getD ⟨0, [], .skip⟩
/- 110: gansey/machines.copied[gansey/loops.Loop] -/
noncomputable def F110 : IFn := (compF Go.Proofs.Tryz.prog 110).getD ⟨0, [], .skip⟩
/- 111: slices.SortFunc[[]gansey/api.Id,gansey/api.Id] -/
noncomputable def F111 : IFn := (compF Go.Proofs.Tryz.prog 111).getD ⟨0, [], .skip⟩
/- 112: gansey/machines.copied[gansey/fabrics.Crossing] -/
noncomputable def F112 : IFn := (compF Go.Proofs.Tryz.prog 112).getD ⟨0, [], .skip⟩
/- 113: gansey/loops.Empty -/
noncomputable def F113 : IFn := (compF Go.Proofs.Tryz.prog 113).getD ⟨0, [], .skip⟩
/- 116: gansey/stacks.beds -/
noncomputable def F116 : IFn := (compF Go.Proofs.Tryz.prog 116).getD ⟨0, [], .skip⟩
/- 117: gansey/yarns.Named -/
noncomputable def F117 : IFn := (compF Go.Proofs.Tryz.prog 117).getD ⟨0, [], .skip⟩
/- 118: gansey/stacks.Count -/
noncomputable def F118 : IFn := (compF Go.Proofs.Tryz.prog 118).getD ⟨0, [], .skip⟩
/- 119: gansey/yarns.isPlace -/
noncomputable def F119 : IFn := (compF Go.Proofs.Tryz.prog 119).getD ⟨0, [], .skip⟩
/- 120: gansey/yarns.valid -/
noncomputable def F120 : IFn := (compF Go.Proofs.Tryz.prog 120).getD ⟨0, [], .skip⟩
/- 121: gansey/yarns.cancel -/
noncomputable def F121 : IFn := (compF Go.Proofs.Tryz.prog 121).getD ⟨0, [], .skip⟩
/- 122: gansey/loops.Check -/
noncomputable def F122 : IFn := (compF Go.Proofs.Tryz.prog 122).getD ⟨0, [], .skip⟩
/- 123: gansey/fabrics.checkCrossings -/
def F123p0 : OPS := [(.seq, [q 1 (.box 67 4) [.tmp 0], q 2 .move [.val (.int .i64 0)]])]
def F123o0 : IC := .ops F123p0
def F123p1 : OPS := [(.seq, [q 5 (.fieldAddr 1) [.tmp 1], q 6 (.load none) [.tmp 5], q 7 .lenSl [.tmp 6], q 8 .move [.val (.int .i64 0)]])]
def F123o1 : IC := .ops F123p1
def F123p2 : OPS := [(.seq, [q 9 (.bin .lss) [.tmp 8, .tmp 7]])]
def F123o2 : IC := .ops F123p2
def F123p3 : OPS := [(.seq, [q 10 .move [.tmp 8], q 11 (.idxSl 5) [.tmp 6, .tmp 8], q 12 (.load (some 5)) [.tmp 11], q 4 (.alloc 157 5 [.int .u8 0, .int .i64 0, .int .u8 0, .int .i64 0, .int .i64 0]) [], q 3 .move [.tmp 10], q0 (.store 5) [.tmp 4, .tmp 12]])]
def F123o3 : IC := .ops F123p3
def F123p4 : OPS := [(.seq, [q 13 (.fieldAddr 0) [.tmp 1], q 14 (.load none) [.tmp 13], q 15 (.fieldAddr 0) [.tmp 4], q 16 (.load (some 2)) [.tmp 15], q 17 .call [.val (.fn 149 [] []), .tmp 14, .tmp 16], q 18 (.un .not) [.tmp 17], q 19 .move [.tmp 18], ⟨some 20, .fieldAddr 0, [.tmp 1], some (19, false), true, 0, 0⟩, ⟨some 21, .load none, [.tmp 20], some (19, false), true, 0, 0⟩, ⟨some 22, .fieldAddr 2, [.tmp 4], some (19, false), true, 0, 0⟩, ⟨some 23, .load (some 2), [.tmp 22], some (19, false), true, 0, 0⟩, ⟨some 24, .call, [.val (.fn 149 [] []), .tmp 21, .tmp 23], some (19, false), true, 0, 0⟩, ⟨some 25, .un .not, [.tmp 24], some (19, false), true, 0, 0⟩, q 26 .pick [.tmp 19, .val (.bool true), .tmp 25], q 27 .move [.tmp 26], ⟨some 28, .fieldAddr 0, [.tmp 4], some (27, false), true, 0, 0⟩, ⟨some 29, .load (some 2), [.tmp 28], some (27, false), true, 0, 0⟩, ⟨some 30, .fieldAddr 2, [.tmp 4], some (27, false), true, 0, 0⟩, ⟨some 31, .load (some 2), [.tmp 30], some (27, false), true, 0, 0⟩, ⟨some 32, .call, [.val (.fn 109 [] []), .tmp 29, .tmp 31], some (27, false), true, 0, 0⟩, ⟨some 33, .bin .geq, [.tmp 32, .val (.int .i64 0)], some (27, false), true, 0, 0⟩, q 34 .pick [.tmp 27, .val (.bool true), .tmp 33]])]
def F123o4 : IC := .ops F123p4
def F123p5 : OPS := [(.seq, [q 2 .move [.val (.int .i64 1)]])]
def F123o5 : IC := .ops F123p5
def F123p6 : OPS := [(.seq, [q 35 (.fieldAddr 4) [.tmp 4], q 36 (.load none) [.tmp 35], q 37 (.bin .lss) [.tmp 36, .val (.int .i64 (-1048576))], q 38 .move [.tmp 37], ⟨some 39, .fieldAddr 4, [.tmp 4], some (38, false), true, 0, 0⟩, ⟨some 40, .load none, [.tmp 39], some (38, false), true, 0, 0⟩, ⟨some 41, .bin .gtr, [.tmp 40, .val (.int .i64 1048576)], some (38, false), true, 0, 0⟩, q 42 .pick [.tmp 38, .val (.bool true), .tmp 41], q 43 .move [.tmp 42], ⟨some 44, .fieldAddr 4, [.tmp 4], some (43, false), true, 0, 0⟩, ⟨some 45, .load none, [.tmp 44], some (43, false), true, 0, 0⟩, ⟨some 46, .bin .eql, [.tmp 45, .val (.int .i64 0)], some (43, false), true, 0, 0⟩, q 47 .pick [.tmp 43, .val (.bool true), .tmp 46]])]
def F123o6 : IC := .ops F123p6
def F123p7 : OPS := [(.seq, [q 2 .move [.val (.int .i64 1)]])]
def F123o7 : IC := .ops F123p7
def F123p8 : OPS := [(.seq, [q 48 .move [.tmp 3]]), (.seq, [⟨some 49, .bin .gtr, [.tmp 48, .val (.int .i64 0)], none, true, 1, 1⟩]), (.seq, [⟨some 50, .move, [.tmp 49], none, true, 2, 3⟩]), (.free, [⟨some 51, .fieldAddr 1, [.tmp 1], some (50, true), false, 3, 7⟩, ⟨some 52, .load none, [.tmp 51], some (50, true), false, 4, 15⟩, ⟨some 53, .move, [.tmp 3], some (50, true), false, 5, 7⟩, ⟨some 54, .bin .sub, [.tmp 53, .val (.int .i64 1)], some (50, true), false, 6, 39⟩, ⟨some 55, .idxSl 5, [.tmp 52, .tmp 54], some (50, true), false, 7, 127⟩, ⟨some 56, .load (some 5), [.tmp 55], some (50, true), false, 8, 255⟩, ⟨some 57, .load (some 5), [.tmp 4], some (50, true), false, 9, 7⟩]), (.seq, [⟨some 58, .call, [.val (.fn 150 [] []), .tmp 56, .tmp 57], some (50, true), true, 10, 1023⟩]), (.seq, [⟨some 59, .bin .geq, [.tmp 58, .val (.int .i64 0)], some (50, true), true, 11, 2047⟩]), (.seq, [⟨some 60, .pick, [.tmp 50, .tmp 59, .val (.bool false)], none, true, 12, 4095⟩])]
def F123o8 : IC := .ops F123p8
def F123p9 : OPS := [(.seq, [q 2 .move [.val (.int .i64 1)]])]
def F123o9 : IC := .ops F123p9
def F123p10 : OPS := [(.seq, [q 61 (.bin .add) [.tmp 8, .val (.int .i64 1)], q 8 .move [.tmp 61]])]
def F123o10 : IC := .ops F123p10
def F123l11 : IC := .seq (F123o2) (.seq (.cond (.tmp 9) (.skip) (.exit 0)) (.seq (.block 1 (.seq (F123o3) (.seq (.seq (F123o4) (.cond (.tmp 34) (.seq (F123o5) (.ret)) (.skip))) (.seq (.seq (F123o6) (.cond (.tmp 47) (.seq (F123o7) (.ret)) (.skip))) (.seq (F123o8) (.cond (.tmp 60) (.seq (F123o9) (.ret)) (.skip))))))) (F123o10)))
def F123p12 : OPS := [(.seq, [q 2 .move [.val (.int .i64 0)]])]
def F123o12 : IC := .ops F123p12
def F123b : IC := .seq (F123o0) (.seq (.seq (F123o1) (.block 0 (.loop F123l11))) (.seq (F123o12) (.ret)))
def F123 : IFn := ⟨62, [(2, none)], F123b⟩
/- 124: gansey/fabrics.checkPlaces -/
def F124p0 : OPS := [(.seq, [q 1 (.box 67 4) [.tmp 0], q 2 .move [.val (.int .i64 0)]])]
def F124o0 : IC := .ops F124p0
def F124p1 : OPS := [(.seq, [q 18 (.fieldAddr 2) [.tmp 1], q 19 (.load none) [.tmp 18], q 20 (.fieldAddr 3) [.tmp 1], q 21 (.load none) [.tmp 20], q 22 (.build [.nilSlice, .nilSlice] [(0, 1), (1, 1)]) [.tmp 19, .tmp 21], q 23 .move [.val (.int .i64 0)]])]
def F124o1 : IC := .ops F124p1
def F124p2 : OPS := [(.seq, [q 24 (.bin .lss) [.tmp 23, .val (.int .i64 2)]])]
def F124o2 : IC := .ops F124p2
def F124p3 : OPS := [(.seq, [q 25 (.idxArr 2 1 none) [.tmp 22, .tmp 23], q 4 .move [.tmp 25]])]
def F124o3 : IC := .ops F124p3
def F124p4 : OPS := [(.seq, [q 26 .move [.tmp 4], q 27 .lenSl [.tmp 26], q 28 .move [.val (.int .i64 0)]])]
def F124o4 : IC := .ops F124p4
def F124p5 : OPS := [(.seq, [q 29 (.bin .lss) [.tmp 28, .tmp 27]])]
def F124o5 : IC := .ops F124p5
def F124p6 : OPS := [(.seq, [q 30 (.idxSl 2) [.tmp 26, .tmp 28], q 31 (.load (some 2)) [.tmp 30], q 6 (.alloc 146 2 [.int .u8 0, .int .i64 0]) [], q0 (.store 2) [.tmp 6, .tmp 31]])]
def F124o6 : IC := .ops F124p6
def F124p7 : OPS := [(.seq, [q 32 (.fieldAddr 0) [.tmp 1], q 33 (.load none) [.tmp 32], q 34 (.load (some 2)) [.tmp 6], q 35 .call [.val (.fn 149 [] []), .tmp 33, .tmp 34], q 36 (.un .not) [.tmp 35]])]
def F124o7 : IC := .ops F124p7
def F124p8 : OPS := [(.seq, [q 2 .move [.val (.int .i64 7)]])]
def F124o8 : IC := .ops F124p8
def F124p9 : OPS := [(.seq, [q 37 (.bin .add) [.tmp 28, .val (.int .i64 1)], q 28 .move [.tmp 37]])]
def F124o9 : IC := .ops F124p9
def F124l10 : IC := .seq (F124o5) (.seq (.cond (.tmp 29) (.skip) (.exit 2)) (.seq (.block 3 (.seq (F124o6) (.seq (F124o7) (.cond (.tmp 36) (.seq (F124o8) (.ret)) (.skip))))) (F124o9)))
def F124p11 : OPS := [(.seq, [q 38 (.bin .add) [.tmp 23, .val (.int .i64 1)], q 23 .move [.tmp 38]])]
def F124o11 : IC := .ops F124p11
def F124l12 : IC := .seq (F124o2) (.seq (.cond (.tmp 24) (.skip) (.exit 0)) (.seq (.block 1 (.seq (F124o3) (.seq (F124o4) (.block 2 (.loop F124l10))))) (F124o11)))
def F124p13 : OPS := [(.seq, [q 39 (.fieldAddr 3) [.tmp 1], q 40 (.load none) [.tmp 39], q 41 .lenSl [.tmp 40], q 42 .move [.val (.int .i64 0)]])]
def F124o13 : IC := .ops F124p13
def F124p14 : OPS := [(.seq, [q 43 (.bin .lss) [.tmp 42, .tmp 41]])]
def F124o14 : IC := .ops F124p14
def F124p15 : OPS := [(.seq, [q 44 .move [.tmp 42], q 45 (.idxSl 2) [.tmp 40, .tmp 42], q 46 (.load (some 2)) [.tmp 45], q 8 (.alloc 146 2 [.int .u8 0, .int .i64 0]) [], q 7 .move [.tmp 44], q0 (.store 2) [.tmp 8, .tmp 46]])]
def F124o15 : IC := .ops F124p15
def F124p16 : OPS := [(.seq, [q 47 .move [.tmp 7]]), (.seq, [⟨some 48, .bin .gtr, [.tmp 47, .val (.int .i64 0)], none, true, 1, 1⟩]), (.seq, [⟨some 49, .move, [.tmp 48], none, true, 2, 3⟩]), (.free, [⟨some 50, .fieldAddr 3, [.tmp 1], some (49, true), false, 3, 7⟩, ⟨some 51, .load none, [.tmp 50], some (49, true), false, 4, 15⟩, ⟨some 52, .move, [.tmp 7], some (49, true), false, 5, 7⟩, ⟨some 53, .bin .sub, [.tmp 52, .val (.int .i64 1)], some (49, true), false, 6, 39⟩, ⟨some 54, .idxSl 2, [.tmp 51, .tmp 53], some (49, true), false, 7, 127⟩, ⟨some 55, .load (some 2), [.tmp 54], some (49, true), false, 8, 255⟩, ⟨some 56, .load (some 2), [.tmp 8], some (49, true), false, 9, 7⟩]), (.seq, [⟨some 57, .call, [.val (.fn 109 [] []), .tmp 55, .tmp 56], some (49, true), true, 10, 1023⟩]), (.seq, [⟨some 58, .bin .geq, [.tmp 57, .val (.int .i64 0)], some (49, true), true, 11, 2047⟩]), (.seq, [⟨some 59, .pick, [.tmp 49, .tmp 58, .val (.bool false)], none, true, 12, 4095⟩])]
def F124o16 : IC := .ops F124p16
def F124p17 : OPS := [(.seq, [q 2 .move [.val (.int .i64 6)]])]
def F124o17 : IC := .ops F124p17
def F124p18 : OPS := [(.seq, [q 60 (.bin .add) [.tmp 42, .val (.int .i64 1)], q 42 .move [.tmp 60]])]
def F124o18 : IC := .ops F124p18
def F124l19 : IC := .seq (F124o14) (.seq (.cond (.tmp 43) (.skip) (.exit 4)) (.seq (.block 5 (.seq (F124o15) (.seq (F124o16) (.cond (.tmp 59) (.seq (F124o17) (.ret)) (.skip))))) (F124o18)))
def F124p20 : OPS := [(.seq, [q 61 .mkmap [], q 9 (.alloc 248 1 [.nilMap]) [], q0 (.store 1) [.tmp 9, .tmp 61]])]
def F124o20 : IC := .ops F124p20
def F124p21 : OPS := [(.seq, [q 62 (.mkfn 151 0) [.tmp 9], q 10 .move [.tmp 62]])]
def F124o21 : IC := .ops F124p21
def F124p22 : OPS := [(.seq, [q 63 .move [.tmp 10], q 64 (.fieldAddr 2) [.tmp 1], q 65 (.load none) [.tmp 64], q 66 .call [.tmp 63, .tmp 65]])]
def F124o22 : IC := .ops F124p22
def F124p23 : OPS := [(.seq, [q 67 .move [.tmp 10], q 68 (.fieldAddr 3) [.tmp 1], q 69 (.load none) [.tmp 68], q 70 .call [.tmp 67, .tmp 69]])]
def F124o23 : IC := .ops F124p23
def F124p24 : OPS := [(.seq, [q 71 (.fieldAddr 0) [.tmp 1], q 72 (.load none) [.tmp 71], q 73 .lenSl [.tmp 72], q 74 .move [.val (.int .i64 0)]])]
def F124o24 : IC := .ops F124p24
def F124p25 : OPS := [(.seq, [q 75 (.bin .lss) [.tmp 74, .tmp 73]])]
def F124o25 : IC := .ops F124p25
def F124p26 : OPS := [(.seq, [q 76 (.idxSl 1) [.tmp 72, .tmp 74], q 77 (.load none) [.tmp 76], q 12 .move [.tmp 77]])]
def F124o26 : IC := .ops F124p26
def F124p27 : OPS := [(.seq, [q 78 .move [.tmp 12], q 79 .lenSl [.tmp 78], q 80 .move [.val (.int .i64 0)]])]
def F124o27 : IC := .ops F124p27
def F124p28 : OPS := [(.seq, [q 81 (.bin .lss) [.tmp 80, .tmp 79]])]
def F124o28 : IC := .ops F124p28
def F124p29 : OPS := [(.seq, [q 82 (.idxSl 4) [.tmp 78, .tmp 80], q 83 (.load (some 4)) [.tmp 82], q 14 (.alloc 143 4 [.int .u8 0, .bool false, .nilSlice, .nilSlice]) [], q0 (.store 4) [.tmp 14, .tmp 83]])]
def F124o29 : IC := .ops F124p29
def F124p30 : OPS := [(.seq, [q 84 .move [.tmp 10], q 85 (.fieldAddr 2) [.tmp 14], q 86 (.load none) [.tmp 85], q 87 .call [.tmp 84, .tmp 86]])]
def F124o30 : IC := .ops F124p30
def F124p31 : OPS := [(.seq, [q 88 (.bin .add) [.tmp 80, .val (.int .i64 1)], q 80 .move [.tmp 88]])]
def F124o31 : IC := .ops F124p31
def F124l32 : IC := .seq (F124o28) (.seq (.cond (.tmp 81) (.skip) (.exit 8)) (.seq (.block 9 (.seq (F124o29) (F124o30))) (F124o31)))
def F124p33 : OPS := [(.seq, [q 89 (.bin .add) [.tmp 74, .val (.int .i64 1)], q 74 .move [.tmp 89]])]
def F124o33 : IC := .ops F124p33
def F124l34 : IC := .seq (F124o25) (.seq (.cond (.tmp 75) (.skip) (.exit 6)) (.seq (.block 7 (.seq (F124o26) (.seq (F124o27) (.block 8 (.loop F124l32))))) (F124o33)))
def F124p35 : OPS := [(.seq, [q 90 (.fieldAddr 0) [.tmp 1], q 91 (.load none) [.tmp 90], q 92 .lenSl [.tmp 91], q 93 .move [.val (.int .i64 0)]])]
def F124o35 : IC := .ops F124p35
def F124p36 : OPS := [(.seq, [q 94 (.bin .lss) [.tmp 93, .tmp 92]])]
def F124o36 : IC := .ops F124p36
def F124p37 : OPS := [(.seq, [q 95 .move [.tmp 93], q 96 (.idxSl 1) [.tmp 91, .tmp 93], q 97 (.load none) [.tmp 96], q 15 .move [.tmp 95], q 16 .move [.tmp 97]])]
def F124o37 : IC := .ops F124p37
def F124p38 : OPS := [(.seq, [q 98 .move [.tmp 16], q 99 .lenSl [.tmp 98], q 100 .move [.val (.int .i64 0)]])]
def F124o38 : IC := .ops F124p38
def F124p39 : OPS := [(.seq, [q 101 (.bin .lss) [.tmp 100, .tmp 99]])]
def F124o39 : IC := .ops F124p39
def F124p40 : OPS := [(.seq, [q 102 .move [.tmp 100], q 17 .move [.tmp 102]])]
def F124o40 : IC := .ops F124p40
def F124p41 : OPS := [(.seq, [q 103 (.load none) [.tmp 9], q 104 .move [.tmp 15], q 105 (.bin .add) [.tmp 104, .val (.int .i64 1)], q 106 (.conv .u8) [.tmp 105], q 107 .move [.tmp 17], q 108 (.build [.int .u8 0, .int .i64 0] [(0, 1), (1, 1)]) [.tmp 106, .tmp 107], q 109 (.lookup 248 (true, [.int, .int]) (.int .i64 0) false) [.tmp 103, .tmp 108], q 110 (.bin .neq) [.tmp 109, .val (.int .i64 1)]])]
def F124o41 : IC := .ops F124p41
def F124p42 : OPS := [(.seq, [q 2 .move [.val (.int .i64 6)]])]
def F124o42 : IC := .ops F124p42
def F124p43 : OPS := [(.seq, [q 111 (.bin .add) [.tmp 100, .val (.int .i64 1)], q 100 .move [.tmp 111]])]
def F124o43 : IC := .ops F124p43
def F124l44 : IC := .seq (F124o39) (.seq (.cond (.tmp 101) (.skip) (.exit 12)) (.seq (.block 13 (.seq (F124o40) (.seq (F124o41) (.cond (.tmp 110) (.seq (F124o42) (.ret)) (.skip))))) (F124o43)))
def F124p45 : OPS := [(.seq, [q 112 (.bin .add) [.tmp 93, .val (.int .i64 1)], q 93 .move [.tmp 112]])]
def F124o45 : IC := .ops F124p45
def F124l46 : IC := .seq (F124o36) (.seq (.cond (.tmp 94) (.skip) (.exit 10)) (.seq (.block 11 (.seq (F124o37) (.seq (F124o38) (.block 12 (.loop F124l44))))) (F124o45)))
def F124p47 : OPS := [(.seq, [q 2 .move [.val (.int .i64 0)]])]
def F124o47 : IC := .ops F124p47
def F124b : IC := .seq (F124o0) (.seq (.seq (F124o1) (.block 0 (.loop F124l12))) (.seq (.seq (F124o13) (.block 4 (.loop F124l19))) (.seq (F124o20) (.seq (F124o21) (.seq (F124o22) (.seq (F124o23) (.seq (.seq (F124o24) (.block 6 (.loop F124l34))) (.seq (.seq (F124o35) (.block 10 (.loop F124l46))) (.seq (F124o47) (.ret))))))))))
def F124 : IFn := ⟨113, [(2, none)], F124b⟩
/- 125: gansey/orders.List -/
noncomputable def F125 : IFn := (compF Go.Proofs.Tryz.prog 125).getD ⟨0, [], .skip⟩
/- 126: gansey/machines.copied[gansey/yarns.Yarn] -/
noncomputable def F126 : IFn := (compF Go.Proofs.Tryz.prog 126).getD ⟨0, [], .skip⟩
/- 127: gansey/machines.copied[gansey/yarns.Pass] -/
noncomputable def F127 : IFn := (compF Go.Proofs.Tryz.prog 127).getD ⟨0, [], .skip⟩
/- 128: gansey/yarns.Enter -/
noncomputable def F128 : IFn := (compF Go.Proofs.Tryz.prog 128).getD ⟨0, [], .skip⟩
/- 129: gansey/yarns.Leave -/
noncomputable def F129 : IFn := (compF Go.Proofs.Tryz.prog 129).getD ⟨0, [], .skip⟩
/- 130: (*gansey/machines.machine).step -/
def F130p0 : OPS := [(.seq, [q 4 .move [.val (.int .i64 0)]])]
def F130o0 : IC := .ops F130p0
def F130p1 : OPS := [(.seq, [q 14 .move [.tmp 0], q 15 .nilCheck [.tmp 14], q 16 (.fieldAddr 3) [.tmp 15], q 17 (.load none) [.tmp 16], q 18 .lenSl [.tmp 17], q 19 .move [.val (.int .i64 0)]])]
def F130o1 : IC := .ops F130p1
def F130p2 : OPS := [(.seq, [q 20 (.bin .lss) [.tmp 19, .tmp 18]])]
def F130o2 : IC := .ops F130p2
def F130p3 : OPS := [(.seq, [q 21 .move [.tmp 19], q 22 (.idxSl 5) [.tmp 17, .tmp 19], q 23 (.load (some 5)) [.tmp 22], q 6 (.alloc 159 5 [.bool false, .int .i64 0, .int .i64 0, .bool false, .nilSlice]) [], q 5 .move [.tmp 21], q0 (.store 5) [.tmp 6, .tmp 23]])]
def F130o3 : IC := .ops F130p3
def F130p4 : OPS := [(.seq, [q 24 (.fieldAddr 0) [.tmp 6], q 25 (.load none) [.tmp 24], q 26 (.un .not) [.tmp 25]])]
def F130o4 : IC := .ops F130p4
def F130p5 : OPS := [(.free, [⟨some 28, .move, [.tmp 0], none, false, 0, 0⟩, ⟨some 29, .nilCheck, [.tmp 28], none, false, 1, 1⟩, ⟨some 30, .fieldAddr 1, [.tmp 29], none, false, 2, 3⟩, ⟨some 31, .load (some 2), [.tmp 30], none, false, 3, 7⟩, ⟨some 32, .move, [.tmp 0], none, false, 4, 0⟩, ⟨some 33, .nilCheck, [.tmp 32], none, false, 5, 16⟩, ⟨some 34, .fieldAddr 0, [.tmp 33], none, false, 6, 48⟩, ⟨some 35, .load none, [.tmp 34], none, false, 7, 112⟩, ⟨some 36, .move, [.tmp 1], none, false, 8, 0⟩, ⟨some 37, .fieldAddr 1, [.tmp 6], none, false, 9, 0⟩, ⟨some 38, .load none, [.tmp 37], none, false, 10, 512⟩]), (.seq, [⟨some 39, .call, [.val (.fn 157 [] []), .tmp 31, .tmp 35, .tmp 36, .tmp 38], none, true, 11, 2047⟩]), (.seq, [⟨some 27, .move, [.tmp 39], none, true, 12, 4095⟩]), (.free, [⟨some 40, .extract 0, [.tmp 27], none, true, 13, 8191⟩, ⟨some 41, .extract 1, [.tmp 27], none, true, 14, 8191⟩, ⟨some 7, .move, [.tmp 40], none, true, 15, 16383⟩]), (.seq, [⟨some 8, .move, [.tmp 41], none, true, 16, 65535⟩])]
def F130o5 : IC := .ops F130p5
def F130p6 : OPS := [(.seq, [q 42 .move [.tmp 8], q 43 (.bin .neq) [.tmp 42, .val (.int .i64 0)]])]
def F130o6 : IC := .ops F130p6
def F130p7 : OPS := [(.seq, [q 44 .move [.tmp 8], q 4 .move [.tmp 44]])]
def F130o7 : IC := .ops F130p7
def F130p8 : OPS := [(.free, [⟨some 46, .move, [.tmp 0], none, false, 0, 0⟩, ⟨some 47, .nilCheck, [.tmp 46], none, false, 1, 1⟩, ⟨some 48, .fieldAddr 3, [.tmp 47], none, false, 2, 3⟩, ⟨some 49, .load none, [.tmp 48], none, false, 3, 7⟩, ⟨some 50, .move, [.tmp 5], none, false, 4, 0⟩, ⟨some 51, .load (some 5), [.tmp 6], none, false, 5, 0⟩, ⟨some 52, .fieldAddr 1, [.tmp 6], none, false, 6, 0⟩, ⟨some 53, .load none, [.tmp 52], none, false, 7, 64⟩, ⟨some 54, .move, [.tmp 7], none, false, 8, 0⟩, ⟨some 55, .call, [.val (.fn 158 [] []), .tmp 51, .tmp 53, .tmp 54], none, false, 9, 480⟩, ⟨some 45, .move, [.tmp 55], none, false, 10, 992⟩, ⟨some 56, .extract 0, [.tmp 45], none, false, 11, 2016⟩, ⟨some 57, .extract 1, [.tmp 45], none, false, 12, 2016⟩, ⟨some 58, .idxSl 5, [.tmp 49, .tmp 50], none, true, 13, 4095⟩, ⟨none, .store 5, [.tmp 58, .tmp 56], none, true, 14, 12287⟩]), (.seq, [⟨some 8, .move, [.tmp 57], none, true, 15, 32767⟩])]
def F130o8 : IC := .ops F130p8
def F130p9 : OPS := [(.seq, [q 59 .move [.tmp 8], q 60 (.bin .neq) [.tmp 59, .val (.int .i64 0)]])]
def F130o9 : IC := .ops F130p9
def F130p10 : OPS := [(.seq, [q 61 .move [.tmp 8], q 4 .move [.tmp 61]])]
def F130o10 : IC := .ops F130p10
def F130p11 : OPS := [(.seq, [q 62 (.bin .add) [.tmp 19, .val (.int .i64 1)], q 19 .move [.tmp 62]])]
def F130o11 : IC := .ops F130p11
def F130l12 : IC := .seq (F130o2) (.seq (.cond (.tmp 20) (.skip) (.exit 0)) (.seq (.block 1 (.seq (F130o3) (.seq (.seq (F130o4) (.cond (.tmp 26) (.exit 1) (.skip))) (.seq (F130o5) (.seq (.seq (F130o6) (.cond (.tmp 43) (.seq (F130o7) (.ret)) (.skip))) (.seq (F130o8) (.seq (F130o9) (.cond (.tmp 60) (.seq (F130o10) (.ret)) (.skip))))))))) (F130o11)))
def F130p13 : OPS := [(.free, [⟨some 64, .move, [.tmp 0], none, false, 0, 0⟩, ⟨some 65, .nilCheck, [.tmp 64], none, false, 1, 1⟩, ⟨some 66, .fieldAddr 1, [.tmp 65], none, false, 2, 3⟩, ⟨some 67, .load (some 2), [.tmp 66], none, false, 3, 7⟩, ⟨some 68, .move, [.tmp 0], none, false, 4, 0⟩, ⟨some 69, .nilCheck, [.tmp 68], none, false, 5, 16⟩, ⟨some 70, .fieldAddr 0, [.tmp 69], none, false, 6, 48⟩, ⟨some 71, .load none, [.tmp 70], none, false, 7, 112⟩, ⟨some 72, .move, [.tmp 1], none, false, 8, 0⟩]), (.seq, [⟨some 73, .call, [.val (.fn 159 [] []), .tmp 67, .tmp 71, .tmp 72], none, true, 9, 511⟩]), (.seq, [⟨some 63, .move, [.tmp 73], none, true, 10, 1023⟩]), (.free, [⟨some 74, .extract 0, [.tmp 63], none, true, 11, 2047⟩, ⟨some 75, .extract 1, [.tmp 63], none, true, 12, 2047⟩, ⟨some 9, .move, [.tmp 74], none, true, 13, 4095⟩]), (.seq, [⟨some 10, .move, [.tmp 75], none, true, 14, 16383⟩])]
def F130o13 : IC := .ops F130p13
def F130p14 : OPS := [(.seq, [q 76 .move [.tmp 10], q 77 (.bin .neq) [.tmp 76, .val (.int .i64 0)]])]
def F130o14 : IC := .ops F130p14
def F130p15 : OPS := [(.seq, [q 78 .move [.tmp 10], q 4 .move [.tmp 78]])]
def F130o15 : IC := .ops F130p15
def F130p16 : OPS := [(.seq, [q 79 .move [.tmp 9], q 80 .lenSl [.tmp 79], q 81 .move [.val (.int .i64 0)]])]
def F130o16 : IC := .ops F130p16
def F130p17 : OPS := [(.seq, [q 82 (.bin .lss) [.tmp 81, .tmp 80]])]
def F130o17 : IC := .ops F130p17
def F130p18 : OPS := [(.seq, [q 83 (.idxSl 5) [.tmp 79, .tmp 81], q 84 (.load (some 5)) [.tmp 83], q 12 (.alloc 262 5 [.int .u8 0, .int .i64 0, .int .u8 0, .int .i64 0, .int .i64 0]) [], q0 (.store 5) [.tmp 12, .tmp 84]])]
def F130o18 : IC := .ops F130p18
def F130p19 : OPS := [(.seq, [q 85 .move [.tmp 0], q 86 (.load (some 5)) [.tmp 12], q 87 .call [.val (.fn 160 [] []), .tmp 85, .tmp 86], q 13 .move [.tmp 87]])]
def F130o19 : IC := .ops F130p19
def F130p20 : OPS := [(.seq, [q 88 .move [.tmp 13], q 89 (.bin .neq) [.tmp 88, .val (.int .i64 0)]])]
def F130o20 : IC := .ops F130p20
def F130p21 : OPS := [(.seq, [q 90 .move [.tmp 13], q 4 .move [.tmp 90]])]
def F130o21 : IC := .ops F130p21
def F130p22 : OPS := [(.seq, [q 91 (.bin .add) [.tmp 81, .val (.int .i64 1)], q 81 .move [.tmp 91]])]
def F130o22 : IC := .ops F130p22
def F130l23 : IC := .seq (F130o17) (.seq (.cond (.tmp 82) (.skip) (.exit 2)) (.seq (.block 3 (.seq (F130o18) (.seq (F130o19) (.seq (F130o20) (.cond (.tmp 89) (.seq (F130o21) (.ret)) (.skip)))))) (F130o22)))
def F130p24 : OPS := [(.seq, [q 4 .move [.val (.int .i64 0)]])]
def F130o24 : IC := .ops F130p24
def F130b : IC := .seq (F130o0) (.seq (.seq (F130o1) (.block 0 (.loop F130l12))) (.seq (F130o13) (.seq (.seq (F130o14) (.cond (.tmp 77) (.seq (F130o15) (.ret)) (.skip))) (.seq (.seq (F130o16) (.block 2 (.loop F130l23))) (.seq (F130o24) (.ret))))))
def F130 : IFn := ⟨92, [(4, none)], F130b⟩
/- 131: (*gansey/machines.machine).behind -/
def F131p0 : OPS := [(.seq, [q 3 (.box 85 6) [.tmp 1], q 4 .move [.val (.int .i64 0)], q 5 .move [.val (.int .i64 0)], q 6 .move [.val (.int .i64 0)]])]
def F131o0 : IC := .ops F131p0
def F131p1 : OPS := [(.free, [⟨some 8, .move, [.tmp 0], none, false, 0, 0⟩, ⟨some 9, .nilCheck, [.tmp 8], none, false, 1, 1⟩, ⟨some 10, .fieldAddr 3, [.tmp 9], none, false, 2, 3⟩, ⟨some 11, .load none, [.tmp 10], none, false, 3, 7⟩, ⟨some 12, .fieldAddr 4, [.tmp 3], none, false, 4, 0⟩, ⟨some 13, .load none, [.tmp 12], none, false, 5, 16⟩, ⟨some 14, .bin .sub, [.tmp 13, .val (.int .u8 1)], none, false, 6, 48⟩, ⟨some 15, .idxSl 5, [.tmp 11, .tmp 14], none, false, 7, 127⟩, ⟨some 16, .load (some 5), [.tmp 15], none, false, 8, 255⟩, ⟨some 17, .fieldAddr 2, [.tmp 3], none, false, 9, 0⟩, ⟨some 18, .load (some 2), [.tmp 17], none, false, 10, 512⟩, ⟨some 19, .move, [.tmp 0], none, false, 11, 0⟩, ⟨some 20, .nilCheck, [.tmp 19], none, false, 12, 2048⟩, ⟨some 21, .fieldAddr 0, [.tmp 20], none, false, 13, 6144⟩, ⟨some 22, .load none, [.tmp 21], none, false, 14, 14336⟩, ⟨some 23, .call, [.val (.fn 67 [] []), .tmp 18, .tmp 22], none, false, 15, 32256⟩, ⟨some 7, .alloc 159 5 [.bool false, .int .i64 0, .int .i64 0, .bool false, .nilSlice], [], none, false, 16, 0⟩]), (.seq, [⟨none, .store 5, [.tmp 7, .tmp 16], none, true, 17, 131071⟩]), (.seq, [⟨some 5, .move, [.tmp 23], none, true, 18, 262143⟩])]
def F131o1 : IC := .ops F131p1
def F131p2 : OPS := [(.seq, [q 24 (.fieldAddr 0) [.tmp 7], q 25 (.load none) [.tmp 24], q 26 (.un .not) [.tmp 25]])]
def F131o2 : IC := .ops F131p2
def F131p3 : OPS := [(.seq, [q 4 .move [.val (.int .i64 0)], q 5 .move [.val (.int .i64 0)], q 6 .move [.val (.int .i64 12)]])]
def F131o3 : IC := .ops F131p3
def F131p4 : OPS := [(.seq, [q 27 (.fieldAddr 1) [.tmp 3], q 28 (.load none) [.tmp 27], q 29 (.bin .eql) [.tmp 28, .val (.int .u8 1)]])]
def F131o4 : IC := .ops F131p4
def F131p5 : OPS := [(.seq, [q 30 (.fieldAddr 1) [.tmp 7], q 31 (.load none) [.tmp 30], q 32 .move [.tmp 5], q 33 (.bin .gtr) [.tmp 31, .tmp 32]])]
def F131o5 : IC := .ops F131p5
def F131p6 : OPS := [(.seq, [q 4 .move [.val (.int .i64 0)], q 5 .move [.val (.int .i64 0)], q 6 .move [.val (.int .i64 12)]])]
def F131o6 : IC := .ops F131p6
def F131p7 : OPS := [(.seq, [q 34 .move [.tmp 5], q 35 (.bin .add) [.tmp 34, .val (.int .i64 1)], q 36 .move [.tmp 5], q 4 .move [.tmp 35], q 5 .move [.tmp 36], q 6 .move [.val (.int .i64 0)]])]
def F131o7 : IC := .ops F131p7
def F131p8 : OPS := [(.seq, [q 37 (.fieldAddr 1) [.tmp 7], q 38 (.load none) [.tmp 37], q 39 .move [.tmp 5], q 40 (.bin .lss) [.tmp 38, .tmp 39]])]
def F131o8 : IC := .ops F131p8
def F131p9 : OPS := [(.seq, [q 4 .move [.val (.int .i64 0)], q 5 .move [.val (.int .i64 0)], q 6 .move [.val (.int .i64 12)]])]
def F131o9 : IC := .ops F131p9
def F131p10 : OPS := [(.seq, [q 41 .move [.tmp 5], q 42 (.bin .sub) [.tmp 41, .val (.int .i64 1)], q 43 .move [.tmp 5], q 4 .move [.tmp 42], q 5 .move [.tmp 43], q 6 .move [.val (.int .i64 0)]])]
def F131o10 : IC := .ops F131p10
def F131b : IC := .seq (F131o0) (.seq (F131o1) (.seq (.seq (F131o2) (.cond (.tmp 26) (.seq (F131o3) (.ret)) (.skip))) (.seq (.seq (F131o4) (.cond (.tmp 29) (.seq (.seq (F131o5) (.cond (.tmp 33) (.seq (F131o6) (.ret)) (.skip))) (.seq (F131o7) (.ret))) (.skip))) (.seq (.seq (F131o8) (.cond (.tmp 40) (.seq (F131o9) (.ret)) (.skip))) (.seq (F131o10) (.ret))))))
def F131 : IFn := ⟨44, [(4, none), (5, none), (6, none)], F131b⟩
/- 132: (*gansey/machines.machine).carry -/
def F132p0 : OPS := [(.seq, [q 8 .move [.val (.int .i64 0)]])]
def F132o0 : IC := .ops F132p0
def F132p1 : OPS := [(.free, [⟨some 14, .move, [.tmp 0], none, false, 0, 0⟩, ⟨some 15, .nilCheck, [.tmp 14], none, false, 1, 1⟩, ⟨some 16, .fieldAddr 1, [.tmp 15], none, false, 2, 3⟩, ⟨some 17, .load (some 2), [.tmp 16], none, false, 3, 7⟩, ⟨some 18, .move, [.tmp 0], none, false, 4, 0⟩, ⟨some 19, .nilCheck, [.tmp 18], none, false, 5, 16⟩, ⟨some 20, .fieldAddr 0, [.tmp 19], none, false, 6, 48⟩, ⟨some 21, .load none, [.tmp 20], none, false, 7, 112⟩]), (.seq, [⟨some 22, .call, [.val (.fn 125 [] []), .tmp 17, .tmp 21], none, true, 8, 255⟩]), (.seq, [⟨some 13, .move, [.tmp 22], none, true, 9, 511⟩]), (.free, [⟨some 23, .extract 0, [.tmp 13], none, true, 10, 1023⟩, ⟨some 24, .extract 1, [.tmp 13], none, true, 11, 1023⟩, ⟨some 9, .move, [.tmp 23], none, true, 12, 2047⟩]), (.seq, [⟨some 10, .move, [.tmp 24], none, true, 13, 8191⟩])]
def F132o1 : IC := .ops F132p1
def F132p2 : OPS := [(.seq, [q 25 .move [.tmp 10], q 26 (.bin .neq) [.tmp 25, .val (.int .i64 0)]])]
def F132o2 : IC := .ops F132p2
def F132p3 : OPS := [(.seq, [q 27 .move [.tmp 10], q 8 .move [.tmp 27]])]
def F132o3 : IC := .ops F132p3
def F132p4 : OPS := [(.seq, [q 28 .move [.tmp 0], q 29 .nilCheck [.tmp 28], q 30 (.fieldAddr 3) [.tmp 29], q 31 (.load none) [.tmp 30], q 32 .move [.tmp 1], q 33 (.bin .sub) [.tmp 32, .val (.int .u8 1)], q 34 (.idxSl 5) [.tmp 31, .tmp 33], q 35 (.load (some 5)) [.tmp 34], q 11 (.alloc 159 5 [.bool false, .int .i64 0, .int .i64 0, .bool false, .nilSlice]) [], q0 (.store 5) [.tmp 11, .tmp 35]])]
def F132o4 : IC := .ops F132p4
def F132p5 : OPS := [(.free, [⟨some 37, .load (some 5), [.tmp 11], none, false, 0, 0⟩, ⟨some 38, .move, [.tmp 2], none, false, 1, 0⟩, ⟨some 39, .move, [.tmp 9], none, false, 2, 0⟩, ⟨some 40, .fieldAddr 1, [.tmp 11], none, false, 3, 0⟩, ⟨some 41, .load none, [.tmp 40], none, false, 4, 8⟩, ⟨some 42, .move, [.tmp 3], none, false, 5, 0⟩, ⟨some 43, .call, [.val (.fn 161 [] []), .tmp 39, .tmp 41, .tmp 42], none, false, 6, 60⟩, ⟨some 44, .call, [.val (.fn 158 [] []), .tmp 37, .tmp 38, .tmp 43], none, false, 7, 127⟩, ⟨some 36, .move, [.tmp 44], none, false, 8, 255⟩, ⟨some 45, .extract 0, [.tmp 36], none, false, 9, 511⟩, ⟨some 46, .extract 1, [.tmp 36], none, false, 10, 511⟩, ⟨some 12, .alloc 159 5 [.bool false, .int .i64 0, .int .i64 0, .bool false, .nilSlice], [], none, false, 11, 0⟩, ⟨none, .store 5, [.tmp 12, .tmp 45], none, true, 12, 3071⟩]), (.seq, [⟨some 10, .move, [.tmp 46], none, true, 13, 8191⟩])]
def F132o5 : IC := .ops F132p5
def F132p6 : OPS := [(.seq, [q 47 .move [.tmp 10], q 48 (.bin .eql) [.tmp 47, .val (.int .i64 0)]])]
def F132o6 : IC := .ops F132p6
def F132p7 : OPS := [(.free, [⟨some 49, .move, [.tmp 0], none, false, 0, 0⟩, ⟨some 50, .nilCheck, [.tmp 49], none, false, 1, 1⟩, ⟨some 51, .fieldAddr 3, [.tmp 50], none, false, 2, 3⟩, ⟨some 52, .load none, [.tmp 51], none, false, 3, 7⟩, ⟨some 53, .move, [.tmp 1], none, false, 4, 0⟩, ⟨some 54, .bin .sub, [.tmp 53, .val (.int .u8 1)], none, false, 5, 16⟩, ⟨some 55, .load (some 5), [.tmp 12], none, false, 6, 0⟩]), (.seq, [⟨some 56, .idxSl 5, [.tmp 52, .tmp 54], none, true, 7, 127⟩]), (.seq, [⟨none, .store 5, [.tmp 56, .tmp 55], none, true, 8, 255⟩])]
def F132o7 : IC := .ops F132p7
def F132p8 : OPS := [(.seq, [q 57 .move [.tmp 10], q 8 .move [.tmp 57]])]
def F132o8 : IC := .ops F132p8
def F132b : IC := .seq (F132o0) (.seq (F132o1) (.seq (.seq (F132o2) (.cond (.tmp 26) (.seq (F132o3) (.ret)) (.skip))) (.seq (F132o4) (.seq (F132o5) (.seq (.seq (F132o6) (.cond (.tmp 48) (F132o7) (.skip))) (.seq (F132o8) (.ret)))))))
def F132 : IFn := ⟨58, [(8, none)], F132b⟩
/- 133: (*gansey/machines.machine).make -/
def F133p0 : OPS := [(.seq, [q 5 (.box 85 6) [.tmp 1], q 8 .move [.val (.int .i64 0)]])]
def F133o0 : IC := .ops F133p0
def F133p1 : OPS := [(.free, [⟨some 16, .move, [.tmp 0], none, false, 0, 0⟩, ⟨some 17, .nilCheck, [.tmp 16], none, false, 1, 1⟩, ⟨some 18, .fieldAddr 3, [.tmp 17], none, false, 2, 3⟩, ⟨some 19, .load none, [.tmp 18], none, false, 3, 7⟩, ⟨some 20, .fieldAddr 4, [.tmp 5], none, false, 4, 0⟩, ⟨some 21, .load none, [.tmp 20], none, false, 5, 16⟩, ⟨some 22, .bin .sub, [.tmp 21, .val (.int .u8 1)], none, false, 6, 48⟩, ⟨some 23, .idxSl 5, [.tmp 19, .tmp 22], none, false, 7, 127⟩, ⟨some 24, .load (some 5), [.tmp 23], none, false, 8, 255⟩, ⟨some 25, .call, [.val (.fn 162 [] []), .tmp 24], none, false, 9, 511⟩, ⟨some 15, .move, [.tmp 25], none, false, 10, 1023⟩, ⟨some 26, .extract 0, [.tmp 15], none, false, 11, 2047⟩, ⟨some 27, .extract 1, [.tmp 15], none, false, 12, 2047⟩, ⟨some 28, .extract 2, [.tmp 15], none, false, 13, 2047⟩, ⟨some 9, .alloc 159 5 [.bool false, .int .i64 0, .int .i64 0, .bool false, .nilSlice], [], none, false, 14, 0⟩, ⟨some 10, .alloc 266 3 [.int .i64 0, .bool false, .nilSlice], [], none, false, 15, 0⟩, ⟨none, .store 5, [.tmp 9, .tmp 26], none, true, 16, 53247⟩, ⟨none, .store 3, [.tmp 10, .tmp 27], none, true, 17, 122879⟩]), (.seq, [⟨some 11, .move, [.tmp 28], none, true, 18, 262143⟩])]
def F133o1 : IC := .ops F133p1
def F133p2 : OPS := [(.seq, [q 29 .move [.tmp 11], q 30 (.bin .neq) [.tmp 29, .val (.int .i64 0)]])]
def F133o2 : IC := .ops F133p2
def F133p3 : OPS := [(.seq, [q 31 .move [.tmp 11], q 8 .move [.tmp 31]])]
def F133o3 : IC := .ops F133p3
def F133p4 : OPS := [(.seq, [q 32 .move [.tmp 0], q 33 .nilCheck [.tmp 32], q 34 (.fieldAddr 4) [.tmp 33], q 35 (.load none) [.tmp 34], q 36 .call [.val (.fn 163 [] []), .tmp 35], q 37 (.bin .geq) [.tmp 36, .val (.int .i64 2048)]])]
def F133o4 : IC := .ops F133p4
def F133p5 : OPS := [(.seq, [q 8 .move [.val (.int .i64 3)]])]
def F133o5 : IC := .ops F133p5
def F133p6 : OPS := [(.seq, [q 38 (.fieldAddr 4) [.tmp 5], q 39 (.load none) [.tmp 38], q 40 (.fieldAddr 0) [.tmp 10], q 41 (.load none) [.tmp 40], q 42 (.build [.int .u8 0, .int .i64 0] [(0, 1), (1, 1)]) [.tmp 39, .tmp 41], q 12 (.alloc 146 2 [.int .u8 0, .int .i64 0]) [], q0 (.store 2) [.tmp 12, .tmp 42]])]
def F133o6 : IC := .ops F133p6
def F133p7 : OPS := [(.seq, [q 43 (.fieldAddr 2) [.tmp 5], q 44 (.fieldAddr 0) [.tmp 43], q 45 (.load none) [.tmp 44], q 46 (.fieldAddr 1) [.tmp 10], q 47 (.load none) [.tmp 46], q 48 .move [.tmp 2], q 49 (.fieldAddr 2) [.tmp 10], q 50 (.load none) [.tmp 49], q 51 (.build [.int .u8 0, .bool false, .nilSlice, .nilSlice] [(0, 1), (1, 1), (2, 1), (3, 1)]) [.tmp 45, .tmp 47, .tmp 48, .tmp 50], q 13 (.alloc 143 4 [.int .u8 0, .bool false, .nilSlice, .nilSlice]) [], q0 (.store 4) [.tmp 13, .tmp 51]])]
def F133o7 : IC := .ops F133p7
def F133p8 : OPS := [(.free, [⟨some 53, .move, [.tmp 0], none, false, 0, 0⟩, ⟨some 54, .nilCheck, [.tmp 53], none, false, 1, 1⟩, ⟨some 55, .fieldAddr 1, [.tmp 54], none, false, 2, 3⟩, ⟨some 56, .load (some 2), [.tmp 55], none, false, 3, 7⟩, ⟨some 57, .fieldAddr 2, [.tmp 5], none, false, 4, 0⟩, ⟨some 58, .load (some 2), [.tmp 57], none, false, 5, 16⟩, ⟨some 59, .move, [.tmp 3], none, false, 6, 0⟩, ⟨some 60, .call, [.val (.fn 97 [] []), .tmp 59], none, false, 7, 64⟩, ⟨some 61, .load (some 2), [.tmp 12], none, false, 8, 0⟩, ⟨some 62, .buildSl 146 2 1 [.int .u8 0, .int .i64 0] [(0, 2)], [.tmp 61], none, false, 9, 256⟩, ⟨some 63, .append 146 2 16, [.tmp 60, .tmp 62], none, false, 10, 960⟩, ⟨some 64, .call, [.val (.fn 137 [] []), .tmp 56, .tmp 58, .tmp 63], none, false, 11, 2047⟩, ⟨some 52, .move, [.tmp 64], none, false, 12, 4095⟩, ⟨some 65, .extract 0, [.tmp 52], none, false, 13, 8191⟩, ⟨some 66, .extract 1, [.tmp 52], none, false, 14, 8191⟩, ⟨some 14, .alloc 110 2 [.nilSlice, .nilSlice], [], none, false, 15, 0⟩, ⟨none, .store 2, [.tmp 14, .tmp 65], none, true, 16, 49151⟩]), (.seq, [⟨some 11, .move, [.tmp 66], none, true, 17, 131071⟩])]
def F133o8 : IC := .ops F133p8
def F133p9 : OPS := [(.seq, [q 67 .move [.tmp 11], q 68 (.bin .neq) [.tmp 67, .val (.int .i64 0)]])]
def F133o9 : IC := .ops F133p9
def F133p10 : OPS := [(.seq, [q 69 .move [.tmp 11], q 8 .move [.tmp 69]])]
def F133o10 : IC := .ops F133p10
def F133p11 : OPS := [(.seq, [q 70 .move [.tmp 0], q 71 (.load (some 2)) [.tmp 14], q 72 .nilCheck [.tmp 70], q 73 (.fieldAddr 1) [.tmp 72], q0 (.store 2) [.tmp 73, .tmp 71]])]
def F133o11 : IC := .ops F133p11
def F133p12 : OPS := [(.free, [⟨some 74, .move, [.tmp 0], none, false, 0, 0⟩, ⟨some 75, .nilCheck, [.tmp 74], none, false, 1, 1⟩, ⟨some 76, .fieldAddr 3, [.tmp 75], none, false, 2, 3⟩, ⟨some 77, .load none, [.tmp 76], none, false, 3, 7⟩, ⟨some 78, .fieldAddr 4, [.tmp 5], none, false, 4, 0⟩, ⟨some 79, .load none, [.tmp 78], none, false, 5, 16⟩, ⟨some 80, .bin .sub, [.tmp 79, .val (.int .u8 1)], none, false, 6, 48⟩, ⟨some 81, .load (some 5), [.tmp 9], none, false, 7, 0⟩]), (.seq, [⟨some 82, .idxSl 5, [.tmp 77, .tmp 80], none, true, 8, 255⟩]), (.seq, [⟨none, .store 5, [.tmp 82, .tmp 81], none, true, 9, 511⟩])]
def F133o12 : IC := .ops F133p12
def F133p13 : OPS := [(.free, [⟨some 83, .move, [.tmp 0], none, false, 0, 0⟩, ⟨some 84, .nilCheck, [.tmp 83], none, false, 1, 1⟩, ⟨some 85, .fieldAddr 4, [.tmp 84], none, false, 2, 3⟩, ⟨some 86, .load none, [.tmp 85], none, false, 3, 7⟩, ⟨some 87, .fieldAddr 4, [.tmp 5], none, false, 4, 0⟩, ⟨some 88, .load none, [.tmp 87], none, false, 5, 16⟩, ⟨some 89, .bin .sub, [.tmp 88, .val (.int .u8 1)], none, false, 6, 48⟩, ⟨some 90, .move, [.tmp 0], none, false, 7, 0⟩, ⟨some 91, .nilCheck, [.tmp 90], none, false, 8, 128⟩, ⟨some 92, .fieldAddr 4, [.tmp 91], none, false, 9, 384⟩, ⟨some 93, .load none, [.tmp 92], none, false, 10, 896⟩, ⟨some 94, .fieldAddr 4, [.tmp 5], none, false, 11, 0⟩, ⟨some 95, .load none, [.tmp 94], none, false, 12, 2048⟩, ⟨some 96, .bin .sub, [.tmp 95, .val (.int .u8 1)], none, false, 13, 6144⟩, ⟨some 97, .idxSl 1, [.tmp 93, .tmp 96], none, false, 14, 16256⟩, ⟨some 98, .load none, [.tmp 97], none, false, 15, 32640⟩, ⟨some 99, .load (some 4), [.tmp 13], none, false, 16, 0⟩, ⟨some 100, .buildSl 143 4 1 [.int .u8 0, .bool false, .nilSlice, .nilSlice] [(0, 4)], [.tmp 99], none, false, 17, 65536⟩, ⟨some 101, .append 143 4 56, [.tmp 98, .tmp 100], none, true, 18, 262016⟩]), (.seq, [⟨some 102, .idxSl 1, [.tmp 86, .tmp 89], none, true, 19, 524287⟩]), (.seq, [⟨none, .store 1, [.tmp 102, .tmp 101], none, true, 20, 1048575⟩])]
def F133o13 : IC := .ops F133p13
def F133p14 : OPS := [(.seq, [q 8 .move [.val (.int .i64 0)]])]
def F133o14 : IC := .ops F133p14
def F133b : IC := .seq (F133o0) (.seq (F133o1) (.seq (.seq (F133o2) (.cond (.tmp 30) (.seq (F133o3) (.ret)) (.skip))) (.seq (.seq (F133o4) (.cond (.tmp 37) (.seq (F133o5) (.ret)) (.skip))) (.seq (F133o6) (.seq (F133o7) (.seq (F133o8) (.seq (.seq (F133o9) (.cond (.tmp 68) (.seq (F133o10) (.ret)) (.skip))) (.seq (F133o11) (.seq (F133o12) (.seq (F133o13) (.seq (F133o14) (.ret))))))))))))
def F133 : IFn := ⟨103, [(8, none)], F133b⟩
/- 134: gansey/stacks.At -/
noncomputable def F134 : IFn := (compF Go.Proofs.Tryz.prog 134).getD ⟨0, [], .skip⟩
/- 135: gansey/needles.Opposite -/
noncomputable def F135 : IFn := (compF Go.Proofs.Tryz.prog 135).getD ⟨0, [], .skip⟩
/- 136: gansey/stacks.Join -/
noncomputable def F136 : IFn := (compF Go.Proofs.Tryz.prog 136).getD ⟨0, [], .skip⟩
/- 137: gansey/stacks.Set -/
def F137p0 : OPS := [(.seq, [q 3 (.box 110 2) [.tmp 0], q 4 (.box 83 2) [.tmp 1], q 6 (.alloc 110 2 [.nilSlice, .nilSlice]) [], q 7 .move [.val (.int .i64 0)]])]
def F137o0 : IC := .ops F137p0
def F137p1 : OPS := [(.seq, [q 18 (.load (some 2)) [.tmp 3], q 19 .call [.val (.fn 90 [] []), .tmp 18], q 8 .move [.tmp 19]])]
def F137o1 : IC := .ops F137p1
def F137p2 : OPS := [(.seq, [q 20 .move [.tmp 8], q 21 (.bin .neq) [.tmp 20, .val (.int .i64 0)]])]
def F137o2 : IC := .ops F137p2
def F137p3 : OPS := [(.seq, [q 22 (.build [.nilSlice, .nilSlice] []) [], q 23 .move [.tmp 8], q0 (.store 2) [.tmp 6, .tmp 22], q 7 .move [.tmp 23]])]
def F137o3 : IC := .ops F137p3
def F137p4 : OPS := [(.seq, [q 24 (.load (some 2)) [.tmp 4], q 25 .call [.val (.fn 88 [] []), .tmp 24], q 26 (.bin .neq) [.tmp 25, .val (.int .i64 0)]])]
def F137o4 : IC := .ops F137p4
def F137p5 : OPS := [(.seq, [q 27 (.build [.nilSlice, .nilSlice] []) [], q0 (.store 2) [.tmp 6, .tmp 27], q 7 .move [.val (.int .i64 1)]])]
def F137o5 : IC := .ops F137p5
def F137p6 : OPS := [(.seq, [q 28 .move [.tmp 2], q 29 .lenSl [.tmp 28], q 30 .move [.val (.int .i64 0)]])]
def F137o6 : IC := .ops F137p6
def F137p7 : OPS := [(.seq, [q 31 (.bin .lss) [.tmp 30, .tmp 29]])]
def F137o7 : IC := .ops F137p7
def F137p8 : OPS := [(.seq, [q 32 (.idxSl 2) [.tmp 28, .tmp 30], q 33 (.load (some 2)) [.tmp 32], q 10 (.alloc 146 2 [.int .u8 0, .int .i64 0]) [], q0 (.store 2) [.tmp 10, .tmp 33]])]
def F137o8 : IC := .ops F137p8
def F137p9 : OPS := [(.seq, [q 34 (.load (some 2)) [.tmp 10], q 35 .call [.val (.fn 117 [] []), .tmp 34], q 36 (.un .not) [.tmp 35]])]
def F137o9 : IC := .ops F137p9
def F137p10 : OPS := [(.seq, [q 37 (.build [.nilSlice, .nilSlice] []) [], q0 (.store 2) [.tmp 6, .tmp 37], q 7 .move [.val (.int .i64 1)]])]
def F137o10 : IC := .ops F137p10
def F137p11 : OPS := [(.seq, [q 38 (.bin .add) [.tmp 30, .val (.int .i64 1)], q 30 .move [.tmp 38]])]
def F137o11 : IC := .ops F137p11
def F137l12 : IC := .seq (F137o7) (.seq (.cond (.tmp 31) (.skip) (.exit 0)) (.seq (.block 1 (.seq (F137o8) (.seq (F137o9) (.cond (.tmp 36) (.seq (F137o10) (.ret)) (.skip))))) (F137o11)))
def F137p13 : OPS := [(.seq, [q 39 .move [.tmp 2], q 40 .lenSl [.tmp 39], q 41 (.bin .gtr) [.tmp 40, .val (.int .i64 4)]])]
def F137o13 : IC := .ops F137p13
def F137p14 : OPS := [(.seq, [q 42 (.build [.nilSlice, .nilSlice] []) [], q0 (.store 2) [.tmp 6, .tmp 42], q 7 .move [.val (.int .i64 9)]])]
def F137o14 : IC := .ops F137p14
def F137p15 : OPS := [(.seq, [q 43 .mkmap [], q 11 (.alloc 208 1 [.nilMap]) [], q0 (.store 1) [.tmp 11, .tmp 43]])]
def F137o15 : IC := .ops F137p15
def F137p16 : OPS := [(.seq, [q 44 (.load (some 2)) [.tmp 3], q 45 .call [.val (.fn 146 [] []), .tmp 44]])]
def F137o16 : IC := .ops F137p16
def F137p17 : OPS := [(.seq, [q 12 (.alloc 83 2 [.int .u8 0, .int .i64 0]) [], q0 (.store 2) [.tmp 12, .tmp 46]])]
def F137o17 : IC := .ops F137p17
def F137p18 : OPS := [(.seq, [q 13 .move [.tmp 47]])]
def F137o18 : IC := .ops F137p18
def F137p19 : OPS := [(.seq, [q 48 (.load (some 2)) [.tmp 12], q 49 (.load (some 2)) [.tmp 4], q 50 (.eqFlat true [.int, .int]) [.tmp 48, .tmp 49]])]
def F137o19 : IC := .ops F137p19
def F137p20 : OPS := [(.seq, [q 51 .move [.tmp 13], q 52 .lenSl [.tmp 51], q 53 .move [.val (.int .i64 0)]])]
def F137o20 : IC := .ops F137p20
def F137p21 : OPS := [(.seq, [q 54 (.bin .lss) [.tmp 53, .tmp 52]])]
def F137o21 : IC := .ops F137p21
def F137p22 : OPS := [(.seq, [q 55 (.idxSl 2) [.tmp 51, .tmp 53], q 56 (.load (some 2)) [.tmp 55], q 15 (.alloc 146 2 [.int .u8 0, .int .i64 0]) [], q0 (.store 2) [.tmp 15, .tmp 56]])]
def F137o22 : IC := .ops F137p22
def F137p23 : OPS := [(.seq, [q 57 (.load none) [.tmp 11], q 58 (.load (some 2)) [.tmp 15], q0 (.mapUpd (true, [.int, .int])) [.tmp 57, .tmp 58, .val (.bool true)]])]
def F137o23 : IC := .ops F137p23
def F137p24 : OPS := [(.seq, [q 59 (.bin .add) [.tmp 53, .val (.int .i64 1)], q 53 .move [.tmp 59]])]
def F137o24 : IC := .ops F137p24
def F137l25 : IC := .seq (F137o21) (.seq (.cond (.tmp 54) (.skip) (.exit 4)) (.seq (.block 5 (.seq (F137o22) (F137o23))) (F137o24)))
def F137p26 : OPS := [(.seq, [q 60 .move [.tmp 2], q 61 .lenSl [.tmp 60], q 62 .move [.val (.int .i64 0)]])]
def F137o26 : IC := .ops F137p26
def F137p27 : OPS := [(.seq, [q 63 (.bin .lss) [.tmp 62, .tmp 61]])]
def F137o27 : IC := .ops F137p27
def F137p28 : OPS := [(.seq, [q 64 (.idxSl 2) [.tmp 60, .tmp 62], q 65 (.load (some 2)) [.tmp 64], q 17 (.alloc 146 2 [.int .u8 0, .int .i64 0]) [], q0 (.store 2) [.tmp 17, .tmp 65]])]
def F137o28 : IC := .ops F137p28
def F137p29 : OPS := [(.seq, [q 66 (.load none) [.tmp 11], q 67 (.load (some 2)) [.tmp 17], q 68 (.lookup 208 (true, [.int, .int]) (.bool false) false) [.tmp 66, .tmp 67]])]
def F137o29 : IC := .ops F137p29
def F137p30 : OPS := [(.seq, [q 69 (.build [.nilSlice, .nilSlice] []) [], q0 (.store 2) [.tmp 6, .tmp 69], q 7 .move [.val (.int .i64 8)]])]
def F137o30 : IC := .ops F137p30
def F137p31 : OPS := [(.seq, [q 70 (.load none) [.tmp 11], q 71 (.load (some 2)) [.tmp 17], q0 (.mapUpd (true, [.int, .int])) [.tmp 70, .tmp 71, .val (.bool true)]])]
def F137o31 : IC := .ops F137p31
def F137p32 : OPS := [(.seq, [q 72 (.bin .add) [.tmp 62, .val (.int .i64 1)], q 62 .move [.tmp 72]])]
def F137o32 : IC := .ops F137p32
def F137l33 : IC := .seq (F137o27) (.seq (.cond (.tmp 63) (.skip) (.exit 6)) (.seq (.block 7 (.seq (F137o28) (.seq (.seq (F137o29) (.cond (.tmp 68) (.seq (F137o30) (.ret)) (.skip))) (F137o31)))) (F137o32)))
def F137p34 : OPS := [(.seq, [q 73 (.load (some 2)) [.tmp 3], q 74 (.load (some 2)) [.tmp 4], q 75 .move [.tmp 2], q 76 .call [.val (.fn 165 [] []), .tmp 73, .tmp 74, .tmp 75], q0 (.store 2) [.tmp 6, .tmp 76], q 7 .move [.val (.int .i64 0)]])]
def F137o34 : IC := .ops F137p34
def F137b : IC := .seq (F137o0) (.seq (.seq (F137o1) (.seq (F137o2) (.cond (.tmp 21) (.seq (F137o3) (.ret)) (.skip)))) (.seq (.seq (F137o4) (.cond (.tmp 26) (.seq (F137o5) (.ret)) (.skip))) (.seq (.seq (F137o6) (.block 0 (.loop F137l12))) (.seq (.seq (F137o13) (.cond (.tmp 41) (.seq (F137o14) (.ret)) (.skip))) (.seq (F137o15) (.seq (.seq (F137o16) (.block 2 (.rfn (.tmp 45) [46, 47] (.seq (F137o17) (F137o18)) (.block 3 (.seq (F137o19) (.cond (.tmp 50) (.seq (F137o20) (.block 4 (.loop F137l25))) (.skip))))))) (.seq (.seq (F137o26) (.block 6 (.loop F137l33))) (.seq (F137o34) (.ret)))))))))
def F137 : IFn := ⟨77, [(6, some (some 2)), (7, none)], F137b⟩
/- 138: gansey/operations.plain -/
def F138p0 : OPS := [(.seq, [q 1 (.box 85 6) [.tmp 0], q 2 .move [.val (.bool false)]])]
def F138o0 : IC := .ops F138p0
def F138p1 : OPS := [(.free, [⟨some 6, .call, [.val (.fn 166 [] [])], none, false, 0, 0⟩, ⟨some 7, .fieldAddr 0, [.tmp 1], none, false, 1, 0⟩, ⟨some 8, .load none, [.tmp 7], none, false, 2, 2⟩, ⟨some 9, .lookup 274 (false, [.int]) (.agg [.bool false, .bool false, .bool false, .bool false]) true, [.tmp 6, .tmp 8], none, false, 3, 7⟩, ⟨some 5, .move, [.tmp 9], none, false, 4, 15⟩, ⟨some 10, .extract 0, [.tmp 5], none, false, 5, 31⟩, ⟨some 11, .extract 1, [.tmp 5], none, false, 6, 31⟩, ⟨some 3, .alloc 272 4 [.bool false, .bool false, .bool false, .bool false], [], none, false, 7, 0⟩, ⟨none, .store 4, [.tmp 3, .tmp 10], none, true, 8, 191⟩]), (.seq, [⟨some 4, .move, [.tmp 11], none, true, 9, 511⟩])]
def F138o1 : IC := .ops F138p1
def F138p2 : OPS := [(.seq, [q 12 .move [.tmp 4], q 13 (.un .not) [.tmp 12]])]
def F138o2 : IC := .ops F138p2
def F138p3 : OPS := [(.seq, [q 2 .move [.val (.bool false)]])]
def F138o3 : IC := .ops F138p3
def F138p4 : OPS := [(.seq, [q 14 (.fieldAddr 0) [.tmp 3], q 15 (.load none) [.tmp 14], q 16 .move [.tmp 15], ⟨some 17, .fieldAddr 1, [.tmp 1], some (16, true), true, 0, 0⟩, ⟨some 18, .load none, [.tmp 17], some (16, true), true, 0, 0⟩, ⟨some 19, .bin .neq, [.tmp 18, .val (.int .u8 0)], some (16, true), true, 0, 0⟩, q 20 .pick [.tmp 16, .tmp 19, .val (.bool false)], q 21 .move [.tmp 20], ⟨some 22, .fieldAddr 1, [.tmp 1], some (21, true), true, 0, 0⟩, ⟨some 23, .load none, [.tmp 22], some (21, true), true, 0, 0⟩, ⟨some 24, .bin .neq, [.tmp 23, .val (.int .u8 1)], some (21, true), true, 0, 0⟩, q 25 .pick [.tmp 21, .tmp 24, .val (.bool false)], q 26 .move [.tmp 25], ⟨some 27, .fieldAddr 0, [.tmp 3], some (26, false), true, 0, 0⟩, ⟨some 28, .load none, [.tmp 27], some (26, false), true, 0, 0⟩, ⟨some 29, .un .not, [.tmp 28], some (26, false), true, 0, 0⟩, ⟨some 30, .move, [.tmp 29], some (26, false), true, 0, 0⟩, ⟨some 31, .fieldAddr 1, [.tmp 1], some (30, true), true, 0, 0⟩, ⟨some 32, .load none, [.tmp 31], some (30, true), true, 0, 0⟩, ⟨some 33, .bin .neq, [.tmp 32, .val (.int .u8 0)], some (30, true), true, 0, 0⟩, ⟨some 34, .pick, [.tmp 30, .tmp 33, .val (.bool false)], some (26, false), true, 0, 0⟩, q 35 .pick [.tmp 26, .val (.bool true), .tmp 34]])]
def F138o4 : IC := .ops F138p4
def F138p5 : OPS := [(.seq, [q 2 .move [.val (.bool false)]])]
def F138o5 : IC := .ops F138p5
def F138p6 : OPS := [(.seq, [q 36 (.fieldAddr 1) [.tmp 3], q 37 (.load none) [.tmp 36], q 38 .move [.tmp 37], ⟨some 39, .fieldAddr 2, [.tmp 1], some (38, true), true, 0, 0⟩, ⟨some 40, .load (some 2), [.tmp 39], some (38, true), true, 0, 0⟩, ⟨some 41, .call, [.val (.fn 88 [] []), .tmp 40], some (38, true), true, 0, 0⟩, ⟨some 42, .bin .neq, [.tmp 41, .val (.int .i64 0)], some (38, true), true, 0, 0⟩, q 43 .pick [.tmp 38, .tmp 42, .val (.bool false)], q 44 .move [.tmp 43], ⟨some 45, .fieldAddr 1, [.tmp 3], some (44, false), true, 0, 0⟩, ⟨some 46, .load none, [.tmp 45], some (44, false), true, 0, 0⟩, ⟨some 47, .un .not, [.tmp 46], some (44, false), true, 0, 0⟩, ⟨some 48, .move, [.tmp 47], some (44, false), true, 0, 0⟩, ⟨some 49, .fieldAddr 2, [.tmp 1], some (48, true), true, 0, 0⟩, ⟨some 50, .load (some 2), [.tmp 49], some (48, true), true, 0, 0⟩, ⟨some 51, .build [.int .u8 0, .int .i64 0] [], [], some (48, true), true, 0, 0⟩, ⟨some 52, .eqFlat true [.int, .int], [.tmp 50, .tmp 51], some (48, true), true, 0, 0⟩, ⟨some 53, .pick, [.tmp 48, .tmp 52, .val (.bool false)], some (44, false), true, 0, 0⟩, q 54 .pick [.tmp 44, .val (.bool true), .tmp 53]])]
def F138o6 : IC := .ops F138p6
def F138p7 : OPS := [(.seq, [q 2 .move [.val (.bool false)]])]
def F138o7 : IC := .ops F138p7
def F138p8 : OPS := [(.seq, [q 55 (.fieldAddr 2) [.tmp 3], q 56 (.load none) [.tmp 55], q 57 .move [.tmp 56], ⟨some 58, .fieldAddr 4, [.tmp 1], some (57, true), true, 0, 0⟩, ⟨some 59, .load none, [.tmp 58], some (57, true), true, 0, 0⟩, ⟨some 60, .bin .lss, [.tmp 59, .val (.int .u8 1)], some (57, true), true, 0, 0⟩, ⟨some 61, .move, [.tmp 60], some (57, true), true, 0, 0⟩, ⟨some 62, .fieldAddr 4, [.tmp 1], some (61, false), true, 0, 0⟩, ⟨some 63, .load none, [.tmp 62], some (61, false), true, 0, 0⟩, ⟨some 64, .bin .gtr, [.tmp 63, .val (.int .u8 6)], some (61, false), true, 0, 0⟩, ⟨some 65, .pick, [.tmp 61, .val (.bool true), .tmp 64], some (57, true), true, 0, 0⟩, q 66 .pick [.tmp 57, .tmp 65, .val (.bool false)], q 67 .move [.tmp 66], ⟨some 68, .fieldAddr 2, [.tmp 3], some (67, false), true, 0, 0⟩, ⟨some 69, .load none, [.tmp 68], some (67, false), true, 0, 0⟩, ⟨some 70, .un .not, [.tmp 69], some (67, false), true, 0, 0⟩, ⟨some 71, .move, [.tmp 70], some (67, false), true, 0, 0⟩, ⟨some 72, .fieldAddr 4, [.tmp 1], some (71, true), true, 0, 0⟩, ⟨some 73, .load none, [.tmp 72], some (71, true), true, 0, 0⟩, ⟨some 74, .bin .neq, [.tmp 73, .val (.int .u8 0)], some (71, true), true, 0, 0⟩, ⟨some 75, .pick, [.tmp 71, .tmp 74, .val (.bool false)], some (67, false), true, 0, 0⟩, q 76 .pick [.tmp 67, .val (.bool true), .tmp 75]])]
def F138o8 : IC := .ops F138p8
def F138p9 : OPS := [(.seq, [q 2 .move [.val (.bool false)]])]
def F138o9 : IC := .ops F138p9
def F138p10 : OPS := [(.seq, [q 77 (.fieldAddr 3) [.tmp 3], q 78 (.load none) [.tmp 77], q 79 .move [.tmp 78], ⟨some 80, .fieldAddr 5, [.tmp 1], some (79, false), true, 0, 0⟩, ⟨some 81, .load none, [.tmp 80], some (79, false), true, 0, 0⟩, ⟨some 82, .bin .eql, [.tmp 81, .val (.int .i64 0)], some (79, false), true, 0, 0⟩, q 83 .pick [.tmp 79, .val (.bool true), .tmp 82], q 2 .move [.tmp 83]])]
def F138o10 : IC := .ops F138p10
def F138b : IC := .seq (F138o0) (.seq (F138o1) (.seq (.seq (F138o2) (.cond (.tmp 13) (.seq (F138o3) (.ret)) (.skip))) (.seq (.seq (F138o4) (.cond (.tmp 35) (.seq (F138o5) (.ret)) (.skip))) (.seq (.seq (F138o6) (.cond (.tmp 54) (.seq (F138o7) (.ret)) (.skip))) (.seq (.seq (F138o8) (.cond (.tmp 76) (.seq (F138o9) (.ret)) (.skip))) (.seq (F138o10) (.ret)))))))
def F138 : IFn := ⟨84, [(2, none)], F138b⟩
/- 139: slices.pdqsortCmpFunc[gansey/fabrics.Crossing] -/
noncomputable def F139 : IFn := (compF Go.Proofs.Tryz.prog 139).getD ⟨0, [], .skip⟩
/- 140: math/bits.Len -/
noncomputable def F140 : IFn := (compF Go.Proofs.Tryz.prog 140).getD ⟨0, [], .skip⟩
/- 141: cmp.Or[int] -/
noncomputable def F141 : IFn := (compF Go.Proofs.Tryz.prog 141).getD ⟨0, [], .skip⟩
/- 142: cmp.Compare[uint8] -/
noncomputable def F142 : IFn := (compF Go.Proofs.Tryz.prog 142).getD ⟨0, [], .skip⟩
/- 143: cmp.Compare[int] -/
noncomputable def F143 : IFn := (compF Go.Proofs.Tryz.prog 143).getD ⟨0, [], .skip⟩
/- 144: slices.pdqsortCmpFunc[gansey/api.Id] -/
noncomputable def F144 : IFn := (compF Go.Proofs.Tryz.prog 144).getD ⟨0, [], .skip⟩
/- 145: gansey/stacks.beds$1 -/
noncomputable def F145 : IFn := (compF Go.Proofs.Tryz.prog 145).getD ⟨0, [], .skip⟩
/- 146: gansey/stacks.needled -/
noncomputable def F146 : IFn := (compF Go.Proofs.Tryz.prog 146).getD ⟨0, [], .skip⟩
/- 147: gansey/yarns.sided -/
noncomputable def F147 : IFn := (compF Go.Proofs.Tryz.prog 147).getD ⟨0, [], .skip⟩
/- 148: gansey/loops.check -/
noncomputable def F148 : IFn := (compF Go.Proofs.Tryz.prog 148).getD ⟨0, [], .skip⟩
/- 149: gansey/fabrics.has -/
noncomputable def F149 : IFn := (compF Go.Proofs.Tryz.prog 149).getD ⟨0, [], .skip⟩
/- 150: gansey/fabrics.comparePairs -/
noncomputable def F150 : IFn := (compF Go.Proofs.Tryz.prog 150).getD ⟨0, [], .skip⟩
/- 151: gansey/fabrics.checkPlaces$1 -/
noncomputable def F151 : IFn := (compF Go.Proofs.Tryz.prog 151).getD ⟨0, [], .skip⟩
/- 152: gansey/orders.check -/
noncomputable def F152 : IFn := (compF Go.Proofs.Tryz.prog 152).getD ⟨0, [], .skip⟩
/- 153: gansey/orders.List$1 -/
noncomputable def F153 : IFn := (compF Go.Proofs.Tryz.prog 153).getD ⟨0, [], .skip⟩
/- 154: slices.SortStableFunc[[]gansey/orders.Held,gansey/orders.Held] -/
noncomputable def F154 : IFn := (compF Go.Proofs.Tryz.prog 154).getD ⟨0, [], .skip⟩
/- 155: gansey/orders.List$2 -/
noncomputable def F155 : IFn := (compF Go.Proofs.Tryz.prog 155).getD ⟨0, [], .skip⟩
/- 156: gansey/orders.copied[gansey/orders.Held] -/
noncomputable def F156 : IFn := (compF Go.Proofs.Tryz.prog 156).getD ⟨0, [], .skip⟩
/- 157: gansey/orders.Meets -/
noncomputable def F157 : IFn := (compF Go.Proofs.Tryz.prog 157).getD ⟨0, [], .skip⟩
/- 158: gansey/yarns.Go -/
def F158p0 : OPS := [(.seq, [q 3 (.box 159 5) [.tmp 0], q 6 (.alloc 159 5 [.bool false, .int .i64 0, .int .i64 0, .bool false, .nilSlice]) [], q 7 .move [.val (.int .i64 0)]])]
def F158o0 : IC := .ops F158p0
def F158p1 : OPS := [(.seq, [q 12 (.load (some 5)) [.tmp 3], q 13 .call [.val (.fn 91 [] []), .tmp 12], q 8 .move [.tmp 13]])]
def F158o1 : IC := .ops F158p1
def F158p2 : OPS := [(.seq, [q 14 .move [.tmp 8], q 15 (.bin .neq) [.tmp 14, .val (.int .i64 0)]])]
def F158o2 : IC := .ops F158p2
def F158p3 : OPS := [(.seq, [q 16 (.build [.bool false, .int .i64 0, .int .i64 0, .bool false, .nilSlice] []) [], q 17 .move [.tmp 8], q0 (.store 5) [.tmp 6, .tmp 16], q 7 .move [.tmp 17]])]
def F158o3 : IC := .ops F158p3
def F158p4 : OPS := [(.seq, [q 18 .move [.tmp 1], q 19 .call [.val (.fn 119 [] []), .tmp 18], q 20 (.un .not) [.tmp 19]])]
def F158o4 : IC := .ops F158p4
def F158p5 : OPS := [(.seq, [q 21 (.build [.bool false, .int .i64 0, .int .i64 0, .bool false, .nilSlice] []) [], q0 (.store 5) [.tmp 6, .tmp 21], q 7 .move [.val (.int .i64 1)]])]
def F158o5 : IC := .ops F158p5
def F158p6 : OPS := [(.seq, [q 22 .move [.tmp 2], q 23 .lenSl [.tmp 22], q 24 .move [.val (.int .i64 0)]])]
def F158o6 : IC := .ops F158p6
def F158p7 : OPS := [(.seq, [q 25 (.bin .lss) [.tmp 24, .tmp 23]])]
def F158o7 : IC := .ops F158p7
def F158p8 : OPS := [(.seq, [q 26 (.idxSl 4) [.tmp 22, .tmp 24], q 27 (.load (some 4)) [.tmp 26], q 10 (.alloc 149 4 [.int .u8 0, .int .i64 0, .bool false, .int .u8 0]) [], q0 (.store 4) [.tmp 10, .tmp 27]])]
def F158o8 : IC := .ops F158p8
def F158p9 : OPS := [(.seq, [q 28 (.load (some 4)) [.tmp 10], q 29 .call [.val (.fn 120 [] []), .tmp 28], q 30 (.un .not) [.tmp 29]])]
def F158o9 : IC := .ops F158p9
def F158p10 : OPS := [(.seq, [q 31 (.build [.bool false, .int .i64 0, .int .i64 0, .bool false, .nilSlice] []) [], q0 (.store 5) [.tmp 6, .tmp 31], q 7 .move [.val (.int .i64 1)]])]
def F158o10 : IC := .ops F158p10
def F158p11 : OPS := [(.seq, [q 32 (.bin .add) [.tmp 24, .val (.int .i64 1)], q 24 .move [.tmp 32]])]
def F158o11 : IC := .ops F158p11
def F158l12 : IC := .seq (F158o7) (.seq (.cond (.tmp 25) (.skip) (.exit 0)) (.seq (.block 1 (.seq (F158o8) (.seq (F158o9) (.cond (.tmp 30) (.seq (F158o10) (.ret)) (.skip))))) (F158o11)))
def F158p13 : OPS := [(.seq, [q 33 (.fieldAddr 0) [.tmp 3], q 34 (.load none) [.tmp 33], q 35 (.un .not) [.tmp 34]])]
def F158o13 : IC := .ops F158p13
def F158p14 : OPS := [(.seq, [q 36 (.build [.bool false, .int .i64 0, .int .i64 0, .bool false, .nilSlice] []) [], q0 (.store 5) [.tmp 6, .tmp 36], q 7 .move [.val (.int .i64 12)]])]
def F158o14 : IC := .ops F158p14
def F158p15 : OPS := [(.seq, [q 37 (.fieldAddr 4) [.tmp 3], q 38 (.load none) [.tmp 37], q 39 .lenSl [.tmp 38], q 40 .move [.tmp 2], q 41 .lenSl [.tmp 40], q 42 (.bin .add) [.tmp 39, .tmp 41], q 43 (.mksl 149 4 24 [.int .u8 0, .int .i64 0, .bool false, .int .u8 0]) [.val (.int .i64 0), .tmp 42], q 11 .move [.tmp 43]])]
def F158o15 : IC := .ops F158p15
def F158p16 : OPS := [(.seq, [q 44 .move [.tmp 11], q 45 (.fieldAddr 4) [.tmp 3], q 46 (.load none) [.tmp 45], q 47 (.append 149 4 24) [.tmp 44, .tmp 46], q 48 .move [.tmp 2], q 49 .call [.val (.fn 197 [] []), .tmp 47, .tmp 48], q 11 .move [.tmp 49]])]
def F158o16 : IC := .ops F158p16
def F158p17 : OPS := [(.seq, [q 50 .move [.tmp 11], q 51 .lenSl [.tmp 50], q 52 (.bin .gtr) [.tmp 51, .val (.int .i64 4096)]])]
def F158o17 : IC := .ops F158p17
def F158p18 : OPS := [(.seq, [q 53 (.build [.bool false, .int .i64 0, .int .i64 0, .bool false, .nilSlice] []) [], q0 (.store 5) [.tmp 6, .tmp 53], q 7 .move [.val (.int .i64 3)]])]
def F158o18 : IC := .ops F158p18
def F158p19 : OPS := [(.seq, [q 54 .move [.tmp 1], q 55 (.fieldAddr 1) [.tmp 3], q0 (.store 1) [.tmp 55, .tmp 54]])]
def F158o19 : IC := .ops F158p19
def F158p20 : OPS := [(.seq, [q 56 .move [.tmp 11], q 57 .call [.val (.fn 198 [] []), .tmp 56], q 58 (.fieldAddr 4) [.tmp 3], q0 (.store 1) [.tmp 58, .tmp 57]])]
def F158o20 : IC := .ops F158p20
def F158p21 : OPS := [(.seq, [q 59 (.load (some 5)) [.tmp 3], q0 (.store 5) [.tmp 6, .tmp 59], q 7 .move [.val (.int .i64 0)]])]
def F158o21 : IC := .ops F158p21
def F158b : IC := .seq (F158o0) (.seq (.seq (F158o1) (.seq (F158o2) (.cond (.tmp 15) (.seq (F158o3) (.ret)) (.skip)))) (.seq (.seq (F158o4) (.cond (.tmp 20) (.seq (F158o5) (.ret)) (.skip))) (.seq (.seq (F158o6) (.block 0 (.loop F158l12))) (.seq (.seq (F158o13) (.cond (.tmp 35) (.seq (F158o14) (.ret)) (.skip))) (.seq (F158o15) (.seq (F158o16) (.seq (.seq (F158o17) (.cond (.tmp 52) (.seq (F158o18) (.ret)) (.skip))) (.seq (F158o19) (.seq (F158o20) (.seq (F158o21) (.ret)))))))))))
def F158 : IFn := ⟨60, [(6, some (some 5)), (7, none)], F158b⟩
/- 159: gansey/orders.Step -/
noncomputable def F159 : IFn := (compF Go.Proofs.Tryz.prog 159).getD ⟨0, [], .skip⟩
/- 160: (*gansey/machines.machine).add -/
noncomputable def F160 : IFn := (compF Go.Proofs.Tryz.prog 160).getD ⟨0, [], .skip⟩
/- 161: gansey/orders.Between -/
def F161p0 : OPS := [(.seq, [q 6 .move [.val (.nilSlice)]])]
def F161o0 : IC := .ops F161p0
def F161p1 : OPS := [(.seq, [q 13 .move [.tmp 2], q 14 .move [.tmp 1], q 7 .move [.tmp 13], q 8 .move [.tmp 14], q 9 .move [.val (.int .u8 0)]])]
def F161o1 : IC := .ops F161p1
def F161p2 : OPS := [(.seq, [q 15 .move [.tmp 2], q 16 .move [.tmp 1], q 17 (.bin .gtr) [.tmp 15, .tmp 16]])]
def F161o2 : IC := .ops F161p2
def F161p3 : OPS := [(.seq, [q 18 .move [.tmp 1], q 19 .move [.tmp 2], q 7 .move [.tmp 18], q 8 .move [.tmp 19], q 9 .move [.val (.int .u8 1)]])]
def F161o3 : IC := .ops F161p3
def F161p4 : OPS := [(.seq, [q 10 .move [.val (.nilSlice)]])]
def F161o4 : IC := .ops F161p4
def F161p5 : OPS := [(.seq, [q 20 .move [.tmp 0], q 21 .lenSl [.tmp 20], q 22 .move [.val (.int .i64 0)]])]
def F161o5 : IC := .ops F161p5
def F161p6 : OPS := [(.seq, [q 23 (.bin .lss) [.tmp 22, .tmp 21]])]
def F161o6 : IC := .ops F161p6
def F161p7 : OPS := [(.seq, [q 24 (.idxSl 5) [.tmp 20, .tmp 22], q 25 (.load (some 5)) [.tmp 24], q 12 (.alloc 217 5 [.int .u8 0, .int .i64 0, .int .u8 0, .int .i64 0, .int .i64 0]) [], q0 (.store 5) [.tmp 12, .tmp 25]])]
def F161o7 : IC := .ops F161p7
def F161p8 : OPS := [(.seq, [q 26 (.fieldAddr 4) [.tmp 12], q 27 (.load none) [.tmp 26], q 28 .move [.tmp 7], q 29 (.bin .gtr) [.tmp 27, .tmp 28], q 30 .move [.tmp 29], ⟨some 31, .fieldAddr 4, [.tmp 12], some (30, true), true, 0, 0⟩, ⟨some 32, .load none, [.tmp 31], some (30, true), true, 0, 0⟩, ⟨some 33, .move, [.tmp 8], some (30, true), true, 0, 0⟩, ⟨some 34, .bin .lss, [.tmp 32, .tmp 33], some (30, true), true, 0, 0⟩, q 35 .pick [.tmp 30, .tmp 34, .val (.bool false)]])]
def F161o8 : IC := .ops F161p8
def F161p9 : OPS := [(.seq, [q 36 .move [.tmp 10], q 37 (.fieldAddr 0) [.tmp 12], q 38 (.load (some 2)) [.tmp 37], q 39 (.fieldAddr 2) [.tmp 12], q 40 (.fieldAddr 0) [.tmp 39], q 41 (.load none) [.tmp 40], q 42 (.bin .eql) [.tmp 41, .val (.int .u8 1)], q 43 .move [.tmp 9], q 44 (.build [.int .u8 0, .int .i64 0, .bool false, .int .u8 0] [(0, 2), (2, 1), (3, 1)]) [.tmp 38, .tmp 42, .tmp 43], q 45 (.buildSl 149 4 1 [.int .u8 0, .int .i64 0, .bool false, .int .u8 0] [(0, 4)]) [.tmp 44], q 46 (.append 149 4 24) [.tmp 36, .tmp 45], q 10 .move [.tmp 46]])]
def F161o9 : IC := .ops F161p9
def F161p10 : OPS := [(.seq, [q 47 (.bin .add) [.tmp 22, .val (.int .i64 1)], q 22 .move [.tmp 47]])]
def F161o10 : IC := .ops F161p10
def F161l11 : IC := .seq (F161o6) (.seq (.cond (.tmp 23) (.skip) (.exit 0)) (.seq (.block 1 (.seq (F161o7) (.seq (F161o8) (.cond (.tmp 35) (F161o9) (.skip))))) (F161o10)))
def F161p12 : OPS := [(.seq, [q 48 .move [.tmp 9], q 49 (.bin .eql) [.tmp 48, .val (.int .u8 0)]])]
def F161o12 : IC := .ops F161p12
def F161p13 : OPS := [(.seq, [q 50 .move [.tmp 10], q 51 .call [.val (.fn 195 [] []), .tmp 50]])]
def F161o13 : IC := .ops F161p13
def F161p14 : OPS := [(.seq, [q 52 .move [.tmp 10], q 53 .call [.val (.fn 196 [] []), .tmp 52], q 6 .move [.tmp 53]])]
def F161o14 : IC := .ops F161p14
def F161b : IC := .seq (F161o0) (.seq (F161o1) (.seq (.seq (F161o2) (.cond (.tmp 17) (F161o3) (.skip))) (.seq (F161o4) (.seq (.seq (F161o5) (.block 0 (.loop F161l11))) (.seq (.seq (F161o12) (.cond (.tmp 49) (F161o13) (.skip))) (.seq (F161o14) (.ret)))))))
def F161 : IFn := ⟨54, [(6, none)], F161b⟩
/- 162: gansey/yarns.Make -/
def F162p0 : OPS := [(.seq, [q 1 (.box 159 5) [.tmp 0], q 2 (.alloc 159 5 [.bool false, .int .i64 0, .int .i64 0, .bool false, .nilSlice]) [], q 3 (.alloc 266 3 [.int .i64 0, .bool false, .nilSlice]) [], q 4 .move [.val (.int .i64 0)]])]
def F162o0 : IC := .ops F162p0
def F162p1 : OPS := [(.seq, [q 7 (.load (some 5)) [.tmp 1], q 8 .call [.val (.fn 91 [] []), .tmp 7], q 5 .move [.tmp 8]])]
def F162o1 : IC := .ops F162p1
def F162p2 : OPS := [(.seq, [q 9 .move [.tmp 5], q 10 (.bin .neq) [.tmp 9, .val (.int .i64 0)]])]
def F162o2 : IC := .ops F162p2
def F162p3 : OPS := [(.seq, [q 11 (.build [.bool false, .int .i64 0, .int .i64 0, .bool false, .nilSlice] []) [], q 12 (.build [.int .i64 0, .bool false, .nilSlice] []) [], q 13 .move [.tmp 5], q0 (.store 5) [.tmp 2, .tmp 11], q0 (.store 3) [.tmp 3, .tmp 12], q 4 .move [.tmp 13]])]
def F162o3 : IC := .ops F162p3
def F162p4 : OPS := [(.seq, [q 14 (.fieldAddr 0) [.tmp 1], q 15 (.load none) [.tmp 14], q 16 (.un .not) [.tmp 15]])]
def F162o4 : IC := .ops F162p4
def F162p5 : OPS := [(.seq, [q 17 (.build [.bool false, .int .i64 0, .int .i64 0, .bool false, .nilSlice] []) [], q 18 (.build [.int .i64 0, .bool false, .nilSlice] []) [], q0 (.store 5) [.tmp 2, .tmp 17], q0 (.store 3) [.tmp 3, .tmp 18], q 4 .move [.val (.int .i64 12)]])]
def F162o5 : IC := .ops F162p5
def F162p6 : OPS := [(.seq, [q 19 (.fieldAddr 2) [.tmp 1], q 20 (.load none) [.tmp 19], q 21 (.bin .eql) [.tmp 20, .val (.int .i64 2048)]])]
def F162o6 : IC := .ops F162p6
def F162p7 : OPS := [(.seq, [q 22 (.build [.bool false, .int .i64 0, .int .i64 0, .bool false, .nilSlice] []) [], q 23 (.build [.int .i64 0, .bool false, .nilSlice] []) [], q0 (.store 5) [.tmp 2, .tmp 22], q0 (.store 3) [.tmp 3, .tmp 23], q 4 .move [.val (.int .i64 3)]])]
def F162o7 : IC := .ops F162p7
def F162p8 : OPS := [(.free, [⟨some 24, .fieldAddr 2, [.tmp 1], none, false, 0, 0⟩, ⟨some 25, .load none, [.tmp 24], none, false, 1, 1⟩, ⟨some 26, .fieldAddr 3, [.tmp 1], none, false, 2, 0⟩, ⟨some 27, .load none, [.tmp 26], none, false, 3, 4⟩, ⟨some 28, .fieldAddr 4, [.tmp 1], none, false, 4, 0⟩, ⟨some 29, .load none, [.tmp 28], none, false, 5, 16⟩, ⟨some 30, .call, [.val (.fn 198 [] []), .tmp 29], none, false, 6, 48⟩, ⟨some 31, .build [.int .i64 0, .bool false, .nilSlice] [(0, 1), (1, 1), (2, 1)], [.tmp 25, .tmp 27, .tmp 30], none, false, 7, 127⟩, ⟨some 6, .alloc 266 3 [.int .i64 0, .bool false, .nilSlice], [], none, false, 8, 0⟩]), (.seq, [⟨none, .store 3, [.tmp 6, .tmp 31], none, true, 9, 511⟩])]
def F162o8 : IC := .ops F162p8
def F162p9 : OPS := [(.free, [⟨some 32, .fieldAddr 1, [.tmp 1], none, false, 0, 0⟩, ⟨some 33, .load none, [.tmp 32], none, false, 1, 1⟩, ⟨some 34, .fieldAddr 2, [.tmp 1], none, false, 2, 0⟩, ⟨some 35, .load none, [.tmp 34], none, false, 3, 4⟩, ⟨some 36, .bin .add, [.tmp 35, .val (.int .i64 1)], none, false, 4, 12⟩, ⟨some 37, .build [.bool false, .int .i64 0, .int .i64 0, .bool false, .nilSlice] [(0, 1), (1, 1), (2, 1)], [.val (.bool true), .tmp 33, .tmp 36], none, false, 5, 31⟩, ⟨some 38, .load (some 3), [.tmp 6], none, false, 6, 0⟩, ⟨none, .store 5, [.tmp 2, .tmp 37], none, true, 7, 63⟩]), (.seq, [⟨none, .store 3, [.tmp 3, .tmp 38], none, true, 8, 255⟩]), (.seq, [⟨some 4, .move, [.val (.int .i64 0)], none, true, 9, 511⟩])]
def F162o9 : IC := .ops F162p9
def F162b : IC := .seq (F162o0) (.seq (.seq (F162o1) (.seq (F162o2) (.cond (.tmp 10) (.seq (F162o3) (.ret)) (.skip)))) (.seq (.seq (F162o4) (.cond (.tmp 16) (.seq (F162o5) (.ret)) (.skip))) (.seq (.seq (F162o6) (.cond (.tmp 21) (.seq (F162o7) (.ret)) (.skip))) (.seq (F162o8) (.seq (F162o9) (.ret))))))
def F162 : IFn := ⟨39, [(2, some (some 5)), (3, some (some 3)), (4, none)], F162b⟩
/- 163: gansey/loops.Count -/
noncomputable def F163 : IFn := (compF Go.Proofs.Tryz.prog 163).getD ⟨0, [], .skip⟩
/- 164: gansey/stacks.copied[gansey/api.Id] -/
noncomputable def F164 : IFn := (compF Go.Proofs.Tryz.prog 164).getD ⟨0, [], .skip⟩
/- 165: gansey/stacks.placed -/
noncomputable def F165 : IFn := (compF Go.Proofs.Tryz.prog 165).getD ⟨0, [], .skip⟩
/- 166: gansey/operations.uses -/
noncomputable def F166 : IFn := (compF Go.Proofs.Tryz.prog 166).getD ⟨0, [], .skip⟩
/- 167: slices.insertionSortCmpFunc[gansey/fabrics.Crossing] -/
noncomputable def F167 : IFn := (compF Go.Proofs.Tryz.prog 167).getD ⟨0, [], .skip⟩
/- 168: slices.heapSortCmpFunc[gansey/fabrics.Crossing] -/
noncomputable def F168 : IFn := (compF Go.Proofs.Tryz.prog 168).getD ⟨0, [], .skip⟩
/- 169: slices.breakPatternsCmpFunc[gansey/fabrics.Crossing] -/
noncomputable def F169 : IFn := (compF Go.Proofs.Tryz.prog 169).getD ⟨0, [], .skip⟩
/- 170: slices.choosePivotCmpFunc[gansey/fabrics.Crossing] -/
noncomputable def F170 : IFn := (compF Go.Proofs.Tryz.prog 170).getD ⟨0, [], .skip⟩
/- 171: slices.reverseRangeCmpFunc[gansey/fabrics.Crossing] -/
noncomputable def F171 : IFn := (compF Go.Proofs.Tryz.prog 171).getD ⟨0, [], .skip⟩
/- 172: slices.partialInsertionSortCmpFunc[gansey/fabrics.Crossing] -/
noncomputable def F172 : IFn := (compF Go.Proofs.Tryz.prog 172).getD ⟨0, [], .skip⟩
/- 173: slices.partitionEqualCmpFunc[gansey/fabrics.Crossing] -/
noncomputable def F173 : IFn := (compF Go.Proofs.Tryz.prog 173).getD ⟨0, [], .skip⟩
/- 174: slices.partitionCmpFunc[gansey/fabrics.Crossing] -/
noncomputable def F174 : IFn := (compF Go.Proofs.Tryz.prog 174).getD ⟨0, [], .skip⟩
/- 175: math/bits.Len32 -/
noncomputable def F175 : IFn := (compF Go.Proofs.Tryz.prog 175).getD ⟨0, [], .skip⟩
/- 176: math/bits.Len64 -/
noncomputable def F176 : IFn := (compF Go.Proofs.Tryz.prog 176).getD ⟨0, [], .skip⟩
/- 177: cmp.isNaN[uint8] -/
noncomputable def F177 : IFn := (compF Go.Proofs.Tryz.prog 177).getD ⟨0, [], .skip⟩
/- 178: cmp.isNaN[int] -/
noncomputable def F178 : IFn := (compF Go.Proofs.Tryz.prog 178).getD ⟨0, [], .skip⟩
/- 179: slices.insertionSortCmpFunc[gansey/api.Id] -/
noncomputable def F179 : IFn := (compF Go.Proofs.Tryz.prog 179).getD ⟨0, [], .skip⟩
/- 180: slices.heapSortCmpFunc[gansey/api.Id] -/
noncomputable def F180 : IFn := (compF Go.Proofs.Tryz.prog 180).getD ⟨0, [], .skip⟩
/- 181: slices.breakPatternsCmpFunc[gansey/api.Id] -/
noncomputable def F181 : IFn := (compF Go.Proofs.Tryz.prog 181).getD ⟨0, [], .skip⟩
/- 182: slices.choosePivotCmpFunc[gansey/api.Id] -/
noncomputable def F182 : IFn := (compF Go.Proofs.Tryz.prog 182).getD ⟨0, [], .skip⟩
/- 183: slices.reverseRangeCmpFunc[gansey/api.Id] -/
noncomputable def F183 : IFn := (compF Go.Proofs.Tryz.prog 183).getD ⟨0, [], .skip⟩
/- 184: slices.partialInsertionSortCmpFunc[gansey/api.Id] -/
noncomputable def F184 : IFn := (compF Go.Proofs.Tryz.prog 184).getD ⟨0, [], .skip⟩
/- 185: slices.partitionEqualCmpFunc[gansey/api.Id] -/
noncomputable def F185 : IFn := (compF Go.Proofs.Tryz.prog 185).getD ⟨0, [], .skip⟩
/- 186: slices.partitionCmpFunc[gansey/api.Id] -/
noncomputable def F186 : IFn := (compF Go.Proofs.Tryz.prog 186).getD ⟨0, [], .skip⟩
/- 187: gansey/stacks.needled$1 -/
noncomputable def F187 : IFn := (compF Go.Proofs.Tryz.prog 187).getD ⟨0, [], .skip⟩
/- 188: gansey/loops.checkLoops -/
noncomputable def F188 : IFn := (compF Go.Proofs.Tryz.prog 188).getD ⟨0, [], .skip⟩
/- 189: gansey/loops.checkThrough -/
def F189p0 : OPS := [(.seq, [q 2 .move [.val (.int .i64 0)]])]
def F189o0 : IC := .ops F189p0
def F189p1 : OPS := [(.seq, [q 10 .mkmap [], q 3 .move [.tmp 10]])]
def F189o1 : IC := .ops F189p1
def F189p2 : OPS := [(.seq, [q 11 .move [.tmp 0], q 12 .lenSl [.tmp 11], q 13 .move [.val (.int .i64 0)]])]
def F189o2 : IC := .ops F189p2
def F189p3 : OPS := [(.seq, [q 14 (.bin .lss) [.tmp 13, .tmp 12]])]
def F189o3 : IC := .ops F189p3
def F189p4 : OPS := [(.seq, [q 15 (.idxSl 1) [.tmp 11, .tmp 13], q 16 (.load none) [.tmp 15], q 5 .move [.tmp 16]])]
def F189o4 : IC := .ops F189p4
def F189p5 : OPS := [(.seq, [q 17 .move [.tmp 5], q 18 .lenSl [.tmp 17], q 19 .move [.val (.int .i64 0)]])]
def F189o5 : IC := .ops F189p5
def F189p6 : OPS := [(.seq, [q 20 (.bin .lss) [.tmp 19, .tmp 18]])]
def F189o6 : IC := .ops F189p6
def F189p7 : OPS := [(.seq, [q 21 (.idxSl 4) [.tmp 17, .tmp 19], q 22 (.load (some 4)) [.tmp 21], q 7 (.alloc 143 4 [.int .u8 0, .bool false, .nilSlice, .nilSlice]) [], q0 (.store 4) [.tmp 7, .tmp 22]])]
def F189o7 : IC := .ops F189p7
def F189p8 : OPS := [(.seq, [q 23 (.fieldAddr 2) [.tmp 7], q 24 (.load none) [.tmp 23], q 25 .lenSl [.tmp 24], q 26 .move [.val (.int .i64 0)]])]
def F189o8 : IC := .ops F189p8
def F189p9 : OPS := [(.seq, [q 27 (.bin .lss) [.tmp 26, .tmp 25]])]
def F189o9 : IC := .ops F189p9
def F189p10 : OPS := [(.seq, [q 28 (.idxSl 2) [.tmp 24, .tmp 26], q 29 (.load (some 2)) [.tmp 28], q 9 (.alloc 146 2 [.int .u8 0, .int .i64 0]) [], q0 (.store 2) [.tmp 9, .tmp 29]])]
def F189o10 : IC := .ops F189p10
def F189p11 : OPS := [(.free, [⟨some 30, .move, [.tmp 3], none, false, 0, 0⟩, ⟨some 31, .load (some 2), [.tmp 9], none, true, 1, 0⟩]), (.free, [⟨some 32, .lookup 248 (true, [.int, .int]) (.int .i64 0) false, [.tmp 30, .tmp 31], none, false, 2, 3⟩, ⟨some 33, .bin .add, [.tmp 32, .val (.int .i64 1)], none, false, 3, 7⟩, ⟨some 34, .mapEntry 248 (true, [.int, .int]) (.int .i64 0), [.tmp 30, .tmp 31], none, true, 4, 3⟩, ⟨some 35, .extract 1, [.tmp 34], none, false, 5, 19⟩]), (.seq, [⟨none, .entryStore, [.tmp 30, .tmp 35, .tmp 33], none, true, 6, 63⟩])]
def F189o11 : IC := .ops F189p11
def F189p12 : OPS := [(.seq, [q 36 .move [.tmp 3], q 37 (.load (some 2)) [.tmp 9], q 38 (.lookup 248 (true, [.int, .int]) (.int .i64 0) false) [.tmp 36, .tmp 37], q 39 (.bin .gtr) [.tmp 38, .val (.int .i64 1)]])]
def F189o12 : IC := .ops F189p12
def F189p13 : OPS := [(.seq, [q 2 .move [.val (.int .i64 8)]])]
def F189o13 : IC := .ops F189p13
def F189p14 : OPS := [(.seq, [q 40 (.bin .add) [.tmp 26, .val (.int .i64 1)], q 26 .move [.tmp 40]])]
def F189o14 : IC := .ops F189p14
def F189l15 : IC := .seq (F189o9) (.seq (.cond (.tmp 27) (.skip) (.exit 4)) (.seq (.block 5 (.seq (F189o10) (.seq (F189o11) (.seq (F189o12) (.cond (.tmp 39) (.seq (F189o13) (.ret)) (.skip)))))) (F189o14)))
def F189p16 : OPS := [(.seq, [q 41 (.bin .add) [.tmp 19, .val (.int .i64 1)], q 19 .move [.tmp 41]])]
def F189o16 : IC := .ops F189p16
def F189l17 : IC := .seq (F189o6) (.seq (.cond (.tmp 20) (.skip) (.exit 2)) (.seq (.block 3 (.seq (F189o7) (.seq (F189o8) (.block 4 (.loop F189l15))))) (F189o16)))
def F189p18 : OPS := [(.seq, [q 42 (.bin .add) [.tmp 13, .val (.int .i64 1)], q 13 .move [.tmp 42]])]
def F189o18 : IC := .ops F189p18
def F189l19 : IC := .seq (F189o3) (.seq (.cond (.tmp 14) (.skip) (.exit 0)) (.seq (.block 1 (.seq (F189o4) (.seq (F189o5) (.block 2 (.loop F189l17))))) (F189o18)))
def F189p20 : OPS := [(.seq, [q 2 .move [.val (.int .i64 0)]])]
def F189o20 : IC := .ops F189p20
def F189b : IC := .seq (F189o0) (.seq (F189o1) (.seq (.seq (F189o2) (.block 0 (.loop F189l19))) (.seq (F189o20) (.ret))))
def F189 : IFn := ⟨43, [(2, none)], F189b⟩
/- 190: gansey/loops.first -/
def F190p0 : OPS := [(.seq, [q 2 .move [.val (.nilSlice)]])]
def F190o0 : IC := .ops F190p0
def F190p1 : OPS := [(.seq, [q 12 .move [.tmp 0], q 13 .call [.val (.fn 163 [] []), .tmp 12], q 3 .move [.tmp 13]])]
def F190o1 : IC := .ops F190p1
def F190p2 : OPS := [(.seq, [q 14 .move [.tmp 3], q 15 (.mksl 146 2 16 [.int .u8 0, .int .i64 0]) [.val (.int .i64 0), .tmp 14], q 4 .move [.tmp 15]])]
def F190o2 : IC := .ops F190p2
def F190p3 : OPS := [(.seq, [q 16 .move [.tmp 0], q 17 .lenSl [.tmp 16], q 18 (.mksl 3 1 8 [.int .i64 0]) [.tmp 17, .tmp 17], q 5 .move [.tmp 18]])]
def F190o3 : IC := .ops F190p3
def F190p4 : OPS := [(.seq, [q 19 .move [.tmp 0], q 20 .lenSl [.tmp 19], q 21 (.mksl 3 1 8 [.int .i64 0]) [.tmp 20, .tmp 20], q 6 .move [.tmp 21]])]
def F190o4 : IC := .ops F190p4
def F190p5 : OPS := [(.seq, [q 22 .move [.tmp 4], q 23 .lenSl [.tmp 22], q 24 .move [.tmp 3], q 25 (.bin .lss) [.tmp 23, .tmp 24]])]
def F190o5 : IC := .ops F190p5
def F190p6 : OPS := [(.seq, [q 26 .move [.tmp 4], q 27 .lenSl [.tmp 26], q 7 .move [.tmp 27]])]
def F190o6 : IC := .ops F190p6
def F190p7 : OPS := [(.seq, [q 28 .move [.tmp 0], q 29 .lenSl [.tmp 28], q 30 .move [.val (.int .i64 0)]])]
def F190o7 : IC := .ops F190p7
def F190p8 : OPS := [(.seq, [q 31 (.bin .lss) [.tmp 30, .tmp 29]])]
def F190o8 : IC := .ops F190p8
def F190p9 : OPS := [(.seq, [q 32 .move [.tmp 30], q 33 (.idxSl 1) [.tmp 28, .tmp 30], q 34 (.load none) [.tmp 33], q 8 .move [.tmp 32], q 9 .move [.tmp 34]])]
def F190o9 : IC := .ops F190p9
def F190p10 : OPS := [(.seq, [q 35 .move [.tmp 5], q 36 .move [.tmp 8], q 37 (.idxSl 1) [.tmp 35, .tmp 36], q 38 (.load none) [.tmp 37], q 39 .move [.tmp 9], q 40 .lenSl [.tmp 39], q 41 (.bin .eql) [.tmp 38, .tmp 40]])]
def F190o10 : IC := .ops F190p10
def F190p11 : OPS := [(.seq, [q 42 .move [.tmp 9], q 43 .move [.tmp 5], q 44 .move [.tmp 8], q 45 (.idxSl 1) [.tmp 43, .tmp 44], q 46 (.load none) [.tmp 45], q 47 (.idxSl 4) [.tmp 42, .tmp 46], q 48 (.load (some 4)) [.tmp 47], q 10 (.alloc 143 4 [.int .u8 0, .bool false, .nilSlice, .nilSlice]) [], q0 (.store 4) [.tmp 10, .tmp 48]])]
def F190o11 : IC := .ops F190p11
def F190p12 : OPS := [(.free, [⟨some 49, .move, [.tmp 6], none, false, 0, 0⟩, ⟨some 50, .move, [.tmp 8], none, false, 1, 0⟩, ⟨some 51, .idxSl 1, [.tmp 49, .tmp 50], none, false, 2, 3⟩, ⟨some 52, .load none, [.tmp 51], none, false, 3, 7⟩, ⟨some 53, .fieldAddr 2, [.tmp 10], none, false, 4, 0⟩, ⟨some 54, .load none, [.tmp 53], none, false, 5, 16⟩, ⟨some 55, .lenSl, [.tmp 54], none, false, 6, 48⟩, ⟨some 56, .fieldAddr 3, [.tmp 10], none, false, 7, 0⟩, ⟨some 57, .load none, [.tmp 56], none, false, 8, 128⟩, ⟨some 58, .lenSl, [.tmp 57], none, false, 9, 384⟩, ⟨some 59, .bin .add, [.tmp 55, .tmp 58], none, false, 10, 1008⟩]), (.seq, [⟨some 60, .bin .lss, [.tmp 52, .tmp 59], none, true, 11, 2047⟩])]
def F190o12 : IC := .ops F190p12
def F190p13 : OPS := [(.free, [⟨some 61, .load (some 4), [.tmp 10], none, false, 0, 0⟩, ⟨some 62, .move, [.tmp 6], none, false, 1, 0⟩, ⟨some 63, .move, [.tmp 8], none, false, 2, 0⟩, ⟨some 64, .idxSl 1, [.tmp 62, .tmp 63], none, false, 3, 6⟩, ⟨some 65, .load none, [.tmp 64], none, false, 4, 14⟩, ⟨some 66, .call, [.val (.fn 212 [] []), .tmp 61, .tmp 65], none, false, 5, 31⟩, ⟨some 11, .alloc 146 2 [.int .u8 0, .int .i64 0], [], none, false, 6, 0⟩]), (.seq, [⟨none, .store 2, [.tmp 11, .tmp 66], none, true, 7, 127⟩])]
def F190o13 : IC := .ops F190p13
def F190p14 : OPS := [(.free, [⟨some 67, .fieldAddr 1, [.tmp 11], none, false, 0, 0⟩, ⟨some 68, .load none, [.tmp 67], none, false, 1, 1⟩, ⟨some 69, .move, [.tmp 5], none, false, 2, 0⟩, ⟨some 70, .fieldAddr 0, [.tmp 11], none, false, 3, 0⟩, ⟨some 71, .load none, [.tmp 70], none, false, 4, 8⟩, ⟨some 72, .bin .sub, [.tmp 71, .val (.int .u8 1)], none, false, 5, 24⟩, ⟨some 73, .idxSl 1, [.tmp 69, .tmp 72], none, false, 6, 60⟩, ⟨some 74, .load none, [.tmp 73], none, false, 7, 124⟩]), (.seq, [⟨some 75, .bin .geq, [.tmp 68, .tmp 74], none, true, 8, 255⟩])]
def F190o14 : IC := .ops F190p14
def F190p15 : OPS := [(.seq, [q 76 .move [.tmp 6], q 77 .move [.tmp 8], q 78 (.idxSl 1) [.tmp 76, .tmp 77], q 79 (.load none) [.tmp 78], q 80 (.bin .add) [.tmp 79, .val (.int .i64 1)], q 81 (.idxSl 1) [.tmp 76, .tmp 77], q0 (.store 1) [.tmp 81, .tmp 80]])]
def F190o15 : IC := .ops F190p15
def F190l16 : IC := .seq (.seq (F190o12) (.cond (.tmp 60) (.skip) (.exit 4))) (.block 5 (.seq (.seq (F190o13) (.seq (F190o14) (.cond (.tmp 75) (.exit 3) (.skip)))) (F190o15)))
def F190p17 : OPS := [(.seq, [q 82 .move [.tmp 4], q 83 .move [.tmp 8], q 84 (.bin .add) [.tmp 83, .val (.int .i64 1)], q 85 (.conv .u8) [.tmp 84], q 86 .move [.tmp 5], q 87 .move [.tmp 8], q 88 (.idxSl 1) [.tmp 86, .tmp 87], q 89 (.load none) [.tmp 88], q 90 (.build [.int .u8 0, .int .i64 0] [(0, 1), (1, 1)]) [.tmp 85, .tmp 89], q 91 (.buildSl 146 2 1 [.int .u8 0, .int .i64 0] [(0, 2)]) [.tmp 90], q 92 (.append 146 2 16) [.tmp 82, .tmp 91], q 4 .move [.tmp 92]])]
def F190o17 : IC := .ops F190p17
def F190p18 : OPS := [(.seq, [q 93 .move [.tmp 5], q 94 .move [.tmp 8], q 95 (.idxSl 1) [.tmp 93, .tmp 94], q 96 (.load none) [.tmp 95], q 97 (.bin .add) [.tmp 96, .val (.int .i64 1)], q 98 (.idxSl 1) [.tmp 93, .tmp 94], q0 (.store 1) [.tmp 98, .tmp 97]])]
def F190o18 : IC := .ops F190p18
def F190p19 : OPS := [(.seq, [q 99 .move [.tmp 6], q 100 .move [.tmp 8], q 101 (.idxSl 1) [.tmp 99, .tmp 100], q0 (.store 1) [.tmp 101, .val (.int .i64 0)]])]
def F190o19 : IC := .ops F190p19
def F190p20 : OPS := [(.seq, [q 102 (.bin .add) [.tmp 30, .val (.int .i64 1)], q 30 .move [.tmp 102]])]
def F190o20 : IC := .ops F190p20
def F190l21 : IC := .seq (F190o8) (.seq (.cond (.tmp 31) (.skip) (.exit 2)) (.seq (.block 3 (.seq (F190o9) (.seq (.seq (F190o10) (.cond (.tmp 41) (.exit 3) (.skip))) (.seq (F190o11) (.seq (.block 4 (.loop F190l16)) (.seq (F190o17) (.seq (F190o18) (.seq (F190o19) (.exit 2))))))))) (F190o20)))
def F190p22 : OPS := [(.seq, [q 103 .move [.tmp 4], q 104 .lenSl [.tmp 103], q 105 .move [.tmp 7], q 106 (.bin .eql) [.tmp 104, .tmp 105]])]
def F190o22 : IC := .ops F190p22
def F190l23 : IC := .seq (.seq (F190o5) (.cond (.tmp 25) (.skip) (.exit 0))) (.block 1 (.scope (.seq (F190o6) (.seq (.skip) (.seq (.seq (F190o7) (.block 2 (.loop F190l21))) (.seq (F190o22) (.cond (.tmp 106) (.exit 0) (.skip))))))))
def F190p24 : OPS := [(.seq, [q 107 .move [.tmp 4], q 2 .move [.tmp 107]])]
def F190o24 : IC := .ops F190p24
def F190b : IC := .seq (F190o0) (.seq (F190o1) (.seq (F190o2) (.seq (F190o3) (.seq (F190o4) (.seq (.block 0 (.loop F190l23)) (.seq (F190o24) (.ret)))))))
def F190 : IFn := ⟨108, [(2, none)], F190b⟩
/- 191: gansey/loops.copied[gansey/api.Id] -/
noncomputable def F191 : IFn := (compF Go.Proofs.Tryz.prog 191).getD ⟨0, [], .skip⟩
/- 192: gansey/orders.racked -/
noncomputable def F192 : IFn := (compF Go.Proofs.Tryz.prog 192).getD ⟨0, [], .skip⟩
/- 193: slices.stableCmpFunc[gansey/orders.Held] -/
noncomputable def F193 : IFn := (compF Go.Proofs.Tryz.prog 193).getD ⟨0, [], .skip⟩
/- 194: gansey/orders.checkStep -/
noncomputable def F194 : IFn := (compF Go.Proofs.Tryz.prog 194).getD ⟨0, [], .skip⟩
/- 195: slices.Reverse[[]gansey/yarns.Pass,gansey/yarns.Pass] -/
noncomputable def F195 : IFn := (compF Go.Proofs.Tryz.prog 195).getD ⟨0, [], .skip⟩
/- 196: gansey/orders.copied[gansey/yarns.Pass] -/
noncomputable def F196 : IFn := (compF Go.Proofs.Tryz.prog 196).getD ⟨0, [], .skip⟩
/- 197: gansey/yarns.push -/
noncomputable def F197 : IFn := (compF Go.Proofs.Tryz.prog 197).getD ⟨0, [], .skip⟩
/- 198: gansey/yarns.copied -/
noncomputable def F198 : IFn := (compF Go.Proofs.Tryz.prog 198).getD ⟨0, [], .skip⟩
/- 199: slices.Reverse[[]gansey/api.Id,gansey/api.Id] -/
noncomputable def F199 : IFn := (compF Go.Proofs.Tryz.prog 199).getD ⟨0, [], .skip⟩
/- 200: slices.Reverse[[]gansey/orders.Cross,gansey/orders.Cross] -/
noncomputable def F200 : IFn := (compF Go.Proofs.Tryz.prog 200).getD ⟨0, [], .skip⟩
/- 201: gansey/orders.copied[gansey/orders.Cross] -/
noncomputable def F201 : IFn := (compF Go.Proofs.Tryz.prog 201).getD ⟨0, [], .skip⟩
/- 202: gansey/stacks.put -/
noncomputable def F202 : IFn := (compF Go.Proofs.Tryz.prog 202).getD ⟨0, [], .skip⟩
/- 203: slices.siftDownCmpFunc[gansey/fabrics.Crossing] -/
noncomputable def F203 : IFn := (compF Go.Proofs.Tryz.prog 203).getD ⟨0, [], .skip⟩
/- 204: slices.nextPowerOfTwo -/
noncomputable def F204 : IFn := (compF Go.Proofs.Tryz.prog 204).getD ⟨0, [], .skip⟩
/- 205: (*slices.xorshift).Next -/
noncomputable def F205 : IFn := (compF Go.Proofs.Tryz.prog 205).getD ⟨0, [], .skip⟩
/- 206: slices.medianAdjacentCmpFunc[gansey/fabrics.Crossing] -/
noncomputable def F206 : IFn := (compF Go.Proofs.Tryz.prog 206).getD ⟨0, [], .skip⟩
/- 207: slices.medianCmpFunc[gansey/fabrics.Crossing] -/
noncomputable def F207 : IFn := (compF Go.Proofs.Tryz.prog 207).getD ⟨0, [], .skip⟩
/- 208: slices.siftDownCmpFunc[gansey/api.Id] -/
noncomputable def F208 : IFn := (compF Go.Proofs.Tryz.prog 208).getD ⟨0, [], .skip⟩
/- 209: slices.medianAdjacentCmpFunc[gansey/api.Id] -/
noncomputable def F209 : IFn := (compF Go.Proofs.Tryz.prog 209).getD ⟨0, [], .skip⟩
/- 210: slices.medianCmpFunc[gansey/api.Id] -/
noncomputable def F210 : IFn := (compF Go.Proofs.Tryz.prog 210).getD ⟨0, [], .skip⟩
/- 211: gansey/loops.right -/
def F211p0 : OPS := [(.seq, [q 3 (.box 143 4) [.tmp 1], q 4 .move [.val (.bool false)]])]
def F211o0 : IC := .ops F211p0
def F211p1 : OPS := [(.seq, [q 9 (.fieldAddr 0) [.tmp 3], q 10 (.load none) [.tmp 9], q 11 (.bin .neq) [.tmp 10, .val (.int .u8 0)], q 12 .move [.tmp 11], ⟨some 13, .fieldAddr 0, [.tmp 3], some (12, true), true, 0, 0⟩, ⟨some 14, .load none, [.tmp 13], some (12, true), true, 0, 0⟩, ⟨some 15, .bin .neq, [.tmp 14, .val (.int .u8 1)], some (12, true), true, 0, 0⟩, q 16 .pick [.tmp 12, .tmp 15, .val (.bool false)]])]
def F211o1 : IC := .ops F211p1
def F211p2 : OPS := [(.seq, [q 4 .move [.val (.bool false)]])]
def F211o2 : IC := .ops F211p2
def F211p3 : OPS := [(.seq, [q 17 (.fieldAddr 2) [.tmp 3], q 18 (.load none) [.tmp 17], q 19 .lenSl [.tmp 18], q 20 (.bin .gtr) [.tmp 19, .val (.int .i64 4)], q 21 .move [.tmp 20], ⟨some 22, .fieldAddr 3, [.tmp 3], some (21, false), true, 0, 0⟩, ⟨some 23, .load none, [.tmp 22], some (21, false), true, 0, 0⟩, ⟨some 24, .lenSl, [.tmp 23], some (21, false), true, 0, 0⟩, ⟨some 25, .bin .gtr, [.tmp 24, .val (.int .i64 4096)], some (21, false), true, 0, 0⟩, q 26 .pick [.tmp 21, .val (.bool true), .tmp 25]])]
def F211o3 : IC := .ops F211p3
def F211p4 : OPS := [(.seq, [q 4 .move [.val (.bool false)]])]
def F211o4 : IC := .ops F211p4
def F211p5 : OPS := [(.seq, [q 27 (.fieldAddr 2) [.tmp 3], q 28 (.load none) [.tmp 27], q 29 .lenSl [.tmp 28], q 30 .move [.val (.int .i64 0)]])]
def F211o5 : IC := .ops F211p5
def F211p6 : OPS := [(.seq, [q 31 (.bin .lss) [.tmp 30, .tmp 29]])]
def F211o6 : IC := .ops F211p6
def F211p7 : OPS := [(.seq, [q 32 (.idxSl 2) [.tmp 28, .tmp 30], q 33 (.load (some 2)) [.tmp 32], q 6 (.alloc 146 2 [.int .u8 0, .int .i64 0]) [], q0 (.store 2) [.tmp 6, .tmp 33]])]
def F211o7 : IC := .ops F211p7
def F211p8 : OPS := [(.seq, [q 34 .move [.tmp 0], q 35 (.load (some 2)) [.tmp 6], q 36 .call [.val (.fn 219 [] []), .tmp 34, .tmp 35], q 37 (.un .not) [.tmp 36]])]
def F211o8 : IC := .ops F211p8
def F211p9 : OPS := [(.seq, [q 4 .move [.val (.bool false)]])]
def F211o9 : IC := .ops F211p9
def F211p10 : OPS := [(.seq, [q 38 (.bin .add) [.tmp 30, .val (.int .i64 1)], q 30 .move [.tmp 38]])]
def F211o10 : IC := .ops F211p10
def F211l11 : IC := .seq (F211o6) (.seq (.cond (.tmp 31) (.skip) (.exit 0)) (.seq (.block 1 (.seq (F211o7) (.seq (F211o8) (.cond (.tmp 37) (.seq (F211o9) (.ret)) (.skip))))) (F211o10)))
def F211p12 : OPS := [(.seq, [q 39 (.fieldAddr 3) [.tmp 3], q 40 (.load none) [.tmp 39], q 41 .lenSl [.tmp 40], q 42 .move [.val (.int .i64 0)]])]
def F211o12 : IC := .ops F211p12
def F211p13 : OPS := [(.seq, [q 43 (.bin .lss) [.tmp 42, .tmp 41]])]
def F211o13 : IC := .ops F211p13
def F211p14 : OPS := [(.seq, [q 44 (.idxSl 4) [.tmp 40, .tmp 42], q 45 (.load (some 4)) [.tmp 44], q 8 (.alloc 149 4 [.int .u8 0, .int .i64 0, .bool false, .int .u8 0]) [], q0 (.store 4) [.tmp 8, .tmp 45]])]
def F211o14 : IC := .ops F211p14
def F211p15 : OPS := [(.seq, [q 46 .move [.tmp 0], q 47 (.fieldAddr 0) [.tmp 8], q 48 (.load (some 2)) [.tmp 47], q 49 .call [.val (.fn 219 [] []), .tmp 46, .tmp 48], q 50 (.un .not) [.tmp 49], q 51 .move [.tmp 50], ⟨some 52, .fieldAddr 3, [.tmp 8], some (51, false), true, 0, 0⟩, ⟨some 53, .load none, [.tmp 52], some (51, false), true, 0, 0⟩, ⟨some 54, .bin .neq, [.tmp 53, .val (.int .u8 0)], some (51, false), true, 0, 0⟩, ⟨some 55, .move, [.tmp 54], some (51, false), true, 0, 0⟩, ⟨some 56, .fieldAddr 3, [.tmp 8], some (55, true), true, 0, 0⟩, ⟨some 57, .load none, [.tmp 56], some (55, true), true, 0, 0⟩, ⟨some 58, .bin .neq, [.tmp 57, .val (.int .u8 1)], some (55, true), true, 0, 0⟩, ⟨some 59, .pick, [.tmp 55, .tmp 58, .val (.bool false)], some (51, false), true, 0, 0⟩, q 60 .pick [.tmp 51, .val (.bool true), .tmp 59]])]
def F211o15 : IC := .ops F211p15
def F211p16 : OPS := [(.seq, [q 4 .move [.val (.bool false)]])]
def F211o16 : IC := .ops F211p16
def F211p17 : OPS := [(.seq, [q 61 (.bin .add) [.tmp 42, .val (.int .i64 1)], q 42 .move [.tmp 61]])]
def F211o17 : IC := .ops F211p17
def F211l18 : IC := .seq (F211o13) (.seq (.cond (.tmp 43) (.skip) (.exit 2)) (.seq (.block 3 (.seq (F211o14) (.seq (F211o15) (.cond (.tmp 60) (.seq (F211o16) (.ret)) (.skip))))) (F211o17)))
def F211p19 : OPS := [(.free, [⟨some 62, .fieldAddr 3, [.tmp 3], none, false, 0, 0⟩, ⟨some 63, .load none, [.tmp 62], none, false, 1, 1⟩, ⟨some 64, .call, [.val (.fn 220 [] []), .tmp 63], none, false, 2, 3⟩, ⟨some 65, .lenSl, [.tmp 64], none, false, 3, 7⟩, ⟨some 66, .fieldAddr 3, [.tmp 3], none, false, 4, 0⟩, ⟨some 67, .load none, [.tmp 66], none, false, 5, 16⟩, ⟨some 68, .lenSl, [.tmp 67], none, false, 6, 48⟩]), (.seq, [⟨some 69, .bin .eql, [.tmp 65, .tmp 68], none, true, 7, 127⟩]), (.seq, [⟨some 4, .move, [.tmp 69], none, true, 8, 255⟩])]
def F211o19 : IC := .ops F211p19
def F211b : IC := .seq (F211o0) (.seq (.seq (F211o1) (.cond (.tmp 16) (.seq (F211o2) (.ret)) (.skip))) (.seq (.seq (F211o3) (.cond (.tmp 26) (.seq (F211o4) (.ret)) (.skip))) (.seq (.seq (F211o5) (.block 0 (.loop F211l11))) (.seq (.seq (F211o12) (.block 2 (.loop F211l18))) (.seq (F211o19) (.ret))))))
def F211 : IFn := ⟨70, [(4, none)], F211b⟩
/- 212: gansey/loops.need -/
noncomputable def F212 : IFn := (compF Go.Proofs.Tryz.prog 212).getD ⟨0, [], .skip⟩
/- 213: slices.insertionSortCmpFunc[gansey/orders.Held] -/
noncomputable def F213 : IFn := (compF Go.Proofs.Tryz.prog 213).getD ⟨0, [], .skip⟩
/- 214: slices.symMergeCmpFunc[gansey/orders.Held] -/
noncomputable def F214 : IFn := (compF Go.Proofs.Tryz.prog 214).getD ⟨0, [], .skip⟩
/- 215: gansey/stacks.copied[[]gansey/api.Id] -/
noncomputable def F215 : IFn := (compF Go.Proofs.Tryz.prog 215).getD ⟨0, [], .skip⟩
/- 216: gansey/stacks.short -/
noncomputable def F216 : IFn := (compF Go.Proofs.Tryz.prog 216).getD ⟨0, [], .skip⟩
/- 217: slices.order2CmpFunc[gansey/fabrics.Crossing] -/
noncomputable def F217 : IFn := (compF Go.Proofs.Tryz.prog 217).getD ⟨0, [], .skip⟩
/- 218: slices.order2CmpFunc[gansey/api.Id] -/
noncomputable def F218 : IFn := (compF Go.Proofs.Tryz.prog 218).getD ⟨0, [], .skip⟩
/- 219: gansey/loops.has -/
noncomputable def F219 : IFn := (compF Go.Proofs.Tryz.prog 219).getD ⟨0, [], .skip⟩
/- 220: gansey/yarns.Reduce -/
noncomputable def F220 : IFn := (compF Go.Proofs.Tryz.prog 220).getD ⟨0, [], .skip⟩
/- 221: slices.rotateCmpFunc[gansey/orders.Held] -/
noncomputable def F221 : IFn := (compF Go.Proofs.Tryz.prog 221).getD ⟨0, [], .skip⟩
/- 222: slices.swapRangeCmpFunc[gansey/orders.Held] -/
noncomputable def F222 : IFn := (compF Go.Proofs.Tryz.prog 222).getD ⟨0, [], .skip⟩

noncomputable def fnT : Tr IFn := .node (none) (.node (none) (.node (none) (.node (none) (.node (none) (.node (some F31) (.node (none) (.node (some F127) (.leaf) (.leaf)) (.node (some F191) (.leaf) (.leaf))) (.node (some F95) (.node (some F159) (.leaf) (.leaf)) (.leaf))) (.node (some F47) (.node (some F79) (.node (some F143) (.leaf) (.leaf)) (.node (some F207) (.leaf) (.leaf))) (.node (some F111) (.node (some F175) (.leaf) (.leaf)) (.leaf)))) (.node (some F23) (.node (none) (.node (some F71) (.node (some F135) (.leaf) (.leaf)) (.node (some F199) (.leaf) (.leaf))) (.node (some F103) (.node (some F167) (.leaf) (.leaf)) (.leaf))) (.node (some F55) (.node (none) (.node (some F151) (.leaf) (.leaf)) (.node (some F215) (.leaf) (.leaf))) (.node (some F119) (.node (some F183) (.leaf) (.leaf)) (.leaf))))) (.node (none) (.node (some F19) (.node (none) (.node (some F67) (.node (some F131) (.leaf) (.leaf)) (.node (some F195) (.leaf) (.leaf))) (.node (some F99) (.node (some F163) (.leaf) (.leaf)) (.leaf))) (.node (some F51) (.node (some F83) (.node (some F147) (.leaf) (.leaf)) (.node (some F211) (.leaf) (.leaf))) (.node (none) (.node (some F179) (.leaf) (.leaf)) (.leaf)))) (.node (some F27) (.node (some F43) (.node (some F75) (.node (some F139) (.leaf) (.leaf)) (.node (some F203) (.leaf) (.leaf))) (.node (some F107) (.node (some F171) (.leaf) (.leaf)) (.leaf))) (.node (some F59) (.node (some F91) (.node (some F155) (.leaf) (.leaf)) (.node (some F219) (.leaf) (.leaf))) (.node (some F123) (.node (some F187) (.leaf) (.leaf)) (.leaf)))))) (.node (none) (.node (some F9) (.node (none) (.node (some F33) (.node (none) (.node (some F129) (.leaf) (.leaf)) (.node (some F193) (.leaf) (.leaf))) (.node (some F97) (.node (some F161) (.leaf) (.leaf)) (.leaf))) (.node (some F49) (.node (some F81) (.node (some F145) (.leaf) (.leaf)) (.node (some F209) (.leaf) (.leaf))) (.node (some F113) (.node (some F177) (.leaf) (.leaf)) (.leaf)))) (.node (some F25) (.node (some F41) (.node (some F73) (.node (some F137) (.leaf) (.leaf)) (.node (some F201) (.leaf) (.leaf))) (.node (some F105) (.node (some F169) (.leaf) (.leaf)) (.leaf))) (.node (some F57) (.node (some F89) (.node (some F153) (.leaf) (.leaf)) (.node (some F217) (.leaf) (.leaf))) (.node (some F121) (.node (some F185) (.leaf) (.leaf)) (.leaf))))) (.node (none) (.node (some F21) (.node (none) (.node (some F69) (.node (some F133) (.leaf) (.leaf)) (.node (some F197) (.leaf) (.leaf))) (.node (some F101) (.node (some F165) (.leaf) (.leaf)) (.leaf))) (.node (some F53) (.node (none) (.node (some F149) (.leaf) (.leaf)) (.node (some F213) (.leaf) (.leaf))) (.node (some F117) (.node (some F181) (.leaf) (.leaf)) (.leaf)))) (.node (some F29) (.node (some F45) (.node (some F77) (.node (some F141) (.leaf) (.leaf)) (.node (some F205) (.leaf) (.leaf))) (.node (some F109) (.node (some F173) (.leaf) (.leaf)) (.leaf))) (.node (some F61) (.node (some F93) (.node (some F157) (.leaf) (.leaf)) (.node (some F221) (.leaf) (.leaf))) (.node (some F125) (.node (some F189) (.leaf) (.leaf)) (.leaf))))))) (.node (none) (.node (none) (.node (some F8) (.node (none) (.node (none) (.node (some F64) (.node (some F128) (.leaf) (.leaf)) (.node (some F192) (.leaf) (.leaf))) (.node (some F96) (.node (some F160) (.leaf) (.leaf)) (.leaf))) (.node (some F48) (.node (some F80) (.node (some F144) (.leaf) (.leaf)) (.node (some F208) (.leaf) (.leaf))) (.node (some F112) (.node (some F176) (.leaf) (.leaf)) (.leaf)))) (.node (some F24) (.node (none) (.node (some F72) (.node (some F136) (.leaf) (.leaf)) (.node (some F200) (.leaf) (.leaf))) (.node (some F104) (.node (some F168) (.leaf) (.leaf)) (.leaf))) (.node (some F56) (.node (some F88) (.node (some F152) (.leaf) (.leaf)) (.node (some F216) (.leaf) (.leaf))) (.node (some F120) (.node (some F184) (.leaf) (.leaf)) (.leaf))))) (.node (none) (.node (some F20) (.node (none) (.node (some F68) (.node (some F132) (.leaf) (.leaf)) (.node (some F196) (.leaf) (.leaf))) (.node (some F100) (.node (some F164) (.leaf) (.leaf)) (.leaf))) (.node (some F52) (.node (some F84) (.node (some F148) (.leaf) (.leaf)) (.node (some F212) (.leaf) (.leaf))) (.node (some F116) (.node (some F180) (.leaf) (.leaf)) (.leaf)))) (.node (some F28) (.node (some F44) (.node (some F76) (.node (some F140) (.leaf) (.leaf)) (.node (some F204) (.leaf) (.leaf))) (.node (some F108) (.node (some F172) (.leaf) (.leaf)) (.leaf))) (.node (some F60) (.node (some F92) (.node (some F156) (.leaf) (.leaf)) (.node (some F220) (.leaf) (.leaf))) (.node (some F124) (.node (some F188) (.leaf) (.leaf)) (.leaf)))))) (.node (some F6) (.node (none) (.node (none) (.node (none) (.node (none) (.node (some F130) (.leaf) (.leaf)) (.node (some F194) (.leaf) (.leaf))) (.node (some F98) (.node (some F162) (.leaf) (.leaf)) (.leaf))) (.node (some F50) (.node (some F82) (.node (some F146) (.leaf) (.leaf)) (.node (some F210) (.leaf) (.leaf))) (.node (none) (.node (some F178) (.leaf) (.leaf)) (.leaf)))) (.node (some F26) (.node (some F42) (.node (some F74) (.node (some F138) (.leaf) (.leaf)) (.node (some F202) (.leaf) (.leaf))) (.node (some F106) (.node (some F170) (.leaf) (.leaf)) (.leaf))) (.node (some F58) (.node (some F90) (.node (some F154) (.leaf) (.leaf)) (.node (some F218) (.leaf) (.leaf))) (.node (some F122) (.node (some F186) (.leaf) (.leaf)) (.leaf))))) (.node (none) (.node (some F22) (.node (none) (.node (some F70) (.node (some F134) (.leaf) (.leaf)) (.node (some F198) (.leaf) (.leaf))) (.node (some F102) (.node (some F166) (.leaf) (.leaf)) (.leaf))) (.node (some F54) (.node (none) (.node (some F150) (.leaf) (.leaf)) (.node (some F214) (.leaf) (.leaf))) (.node (some F118) (.node (some F182) (.leaf) (.leaf)) (.leaf)))) (.node (some F30) (.node (some F46) (.node (some F78) (.node (some F142) (.leaf) (.leaf)) (.node (some F206) (.leaf) (.leaf))) (.node (some F110) (.node (some F174) (.leaf) (.leaf)) (.leaf))) (.node (some F62) (.node (some F94) (.node (some F158) (.leaf) (.leaf)) (.node (some F222) (.leaf) (.leaf))) (.node (some F126) (.node (some F190) (.leaf) (.leaf)) (.leaf)))))))
def tabs : List (List Int) := [[-1, 1]]
noncomputable def E0 : Env := { fns := fnT.get, sums := fun f => if f = 19 then some (tabSum tabs) else none, g0 := 1 }
noncomputable def En : Env := { fns := fnT.get, sums := fun _ => none, g0 := 1 }
theorem plain : Plain E0 := by
  intro f s hs args lo H v H' h
  have hs' : (if f = 19 then some (tabSum tabs) else none) = some s := hs
  split at hs'
  · injection hs' with hs'
    subst hs'
    cases args with
    | cons => cases h
    | nil =>
      simp only [tabSum] at h
      split at h
      · rename_i hok
        injection h with h; injection h with h1 h2; subst h1 h2; exact ⟨.refl _ _, fun _ _ => by simp only [tabSum, hok]; rfl⟩
      · cases h
  · cases hs'
abbrev Wo (c : IC) (l : OPS) : Prop := ∀ {lo : Nat} {rd : Option Nat} {fr : Fr} {H : Heap} {Q : Out → Heap → Prop}, W E0 lo (.code c rd fr) H Q = W E0 lo (.segs l rd fr) H Q
abbrev Wc (n : Nat) (f : IFn) (b : IC) : Prop := ∀ {lo : Nat} {H : Heap} {Q : Out → Heap → Prop} {args : List IV}, W E0 lo (.call n args) H Q = W E0 lo (.code b none ⟨args ++ undefs (f.ntmps - args.length), []⟩) H (retC lo f.results Q)
section
variable {lo : Nat} {rd : Option Nat} {fr : Fr} {H : Heap} {Q : Out → Heap → Prop} {args : List IV}
theorem wF6o0 : Wo F6o0 F6p0 := W_ops
theorem wF6o1 : Wo F6o1 F6p1 := W_ops
theorem wF6o2 : Wo F6o2 F6p2 := W_ops
theorem wF6o3 : Wo F6o3 F6p3 := W_ops
theorem wF6o4 : Wo F6o4 F6p4 := W_ops
theorem wF6o5 : Wo F6o5 F6p5 := W_ops
theorem wF6o6 : Wo F6o6 F6p6 := W_ops
theorem wF6o7 : Wo F6o7 F6p7 := W_ops
theorem wF6o8 : Wo F6o8 F6p8 := W_ops
theorem wF6o9 : Wo F6o9 F6p9 := W_ops
theorem wF6o10 : Wo F6o10 F6p10 := W_ops
theorem wF6o11 : Wo F6o11 F6p11 := W_ops
theorem wF6o12 : Wo F6o12 F6p12 := W_ops
theorem wF6o13 : Wo F6o13 F6p13 := W_ops
theorem wF6o14 : Wo F6o14 F6p14 := W_ops
theorem wF6o15 : Wo F6o15 F6p15 := W_ops
theorem wF6o16 : Wo F6o16 F6p16 := W_ops
theorem wF6o17 : Wo F6o17 F6p17 := W_ops
theorem wF6o18 : Wo F6o18 F6p18 := W_ops
theorem wF6o19 : Wo F6o19 F6p19 := W_ops
theorem wF6o20 : Wo F6o20 F6p20 := W_ops
theorem wF6o22 : Wo F6o22 F6p22 := W_ops
theorem wF6o23 : Wo F6o23 F6p23 := W_ops
theorem wF6o24 : Wo F6o24 F6p24 := W_ops
theorem wF6o25 : Wo F6o25 F6p25 := W_ops
theorem wF6o26 : Wo F6o26 F6p26 := W_ops
theorem wF6o27 : Wo F6o27 F6p27 := W_ops
theorem wF6o28 : Wo F6o28 F6p28 := W_ops
theorem wF6o29 : Wo F6o29 F6p29 := W_ops
theorem wF6o30 : Wo F6o30 F6p30 := W_ops
theorem wF6o31 : Wo F6o31 F6p31 := W_ops
theorem wF20o0 : Wo F20o0 F20p0 := W_ops
theorem wF20o1 : Wo F20o1 F20p1 := W_ops
theorem wF20o2 : Wo F20o2 F20p2 := W_ops
theorem wF20o3 : Wo F20o3 F20p3 := W_ops
theorem wF20o4 : Wo F20o4 F20p4 := W_ops
theorem wF20o5 : Wo F20o5 F20p5 := W_ops
theorem wF20o6 : Wo F20o6 F20p6 := W_ops
theorem wF20o7 : Wo F20o7 F20p7 := W_ops
theorem wF20o8 : Wo F20o8 F20p8 := W_ops
theorem wF20o10 : Wo F20o10 F20p10 := W_ops
theorem wF21o0 : Wo F21o0 F21p0 := W_ops
theorem wF21o1 : Wo F21o1 F21p1 := W_ops
theorem wF21o2 : Wo F21o2 F21p2 := W_ops
theorem wF21o3 : Wo F21o3 F21p3 := W_ops
theorem wF21o4 : Wo F21o4 F21p4 := W_ops
theorem wF21o5 : Wo F21o5 F21p5 := W_ops
theorem wF21o6 : Wo F21o6 F21p6 := W_ops
theorem wF21o7 : Wo F21o7 F21p7 := W_ops
theorem wF21o8 : Wo F21o8 F21p8 := W_ops
theorem wF21o9 : Wo F21o9 F21p9 := W_ops
theorem wF22o0 : Wo F22o0 F22p0 := W_ops
theorem wF22o1 : Wo F22o1 F22p1 := W_ops
theorem wF22o2 : Wo F22o2 F22p2 := W_ops
theorem wF22o3 : Wo F22o3 F22p3 := W_ops
theorem wF22o4 : Wo F22o4 F22p4 := W_ops
theorem wF22o5 : Wo F22o5 F22p5 := W_ops
theorem wF22o6 : Wo F22o6 F22p6 := W_ops
theorem wF22o7 : Wo F22o7 F22p7 := W_ops
theorem wF22o8 : Wo F22o8 F22p8 := W_ops
theorem wF23o0 : Wo F23o0 F23p0 := W_ops
theorem wF23o1 : Wo F23o1 F23p1 := W_ops
theorem wF24o0 : Wo F24o0 F24p0 := W_ops
theorem wF24o1 : Wo F24o1 F24p1 := W_ops
theorem wF25o0 : Wo F25o0 F25p0 := W_ops
theorem wF25o1 : Wo F25o1 F25p1 := W_ops
theorem wF25o2 : Wo F25o2 F25p2 := W_ops
theorem wF25o3 : Wo F25o3 F25p3 := W_ops
theorem wF25o4 : Wo F25o4 F25p4 := W_ops
theorem wF25o5 : Wo F25o5 F25p5 := W_ops
theorem wF25o6 : Wo F25o6 F25p6 := W_ops
theorem wF25o7 : Wo F25o7 F25p7 := W_ops
theorem wF25o8 : Wo F25o8 F25p8 := W_ops
theorem wF25o9 : Wo F25o9 F25p9 := W_ops
theorem wF25o10 : Wo F25o10 F25p10 := W_ops
theorem wF25o16 : Wo F25o16 F25p16 := W_ops
theorem wF25o18 : Wo F25o18 F25p18 := W_ops
theorem wF26o0 : Wo F26o0 F26p0 := W_ops
theorem wF26o1 : Wo F26o1 F26p1 := W_ops
theorem wF26o2 : Wo F26o2 F26p2 := W_ops
theorem wF26o3 : Wo F26o3 F26p3 := W_ops
theorem wF26o4 : Wo F26o4 F26p4 := W_ops
theorem wF26o5 : Wo F26o5 F26p5 := W_ops
theorem wF26o6 : Wo F26o6 F26p6 := W_ops
theorem wF26o7 : Wo F26o7 F26p7 := W_ops
theorem wF26o8 : Wo F26o8 F26p8 := W_ops
theorem wF26o9 : Wo F26o9 F26p9 := W_ops
theorem wF26o10 : Wo F26o10 F26p10 := W_ops
theorem wF26o11 : Wo F26o11 F26p11 := W_ops
theorem wF26o12 : Wo F26o12 F26p12 := W_ops
theorem wF26o13 : Wo F26o13 F26p13 := W_ops
theorem wF26o14 : Wo F26o14 F26p14 := W_ops
theorem wF26o15 : Wo F26o15 F26p15 := W_ops
theorem wF26o16 : Wo F26o16 F26p16 := W_ops
theorem wF26o18 : Wo F26o18 F26p18 := W_ops
theorem wF26o20 : Wo F26o20 F26p20 := W_ops
theorem wF27o0 : Wo F27o0 F27p0 := W_ops
theorem wF27o1 : Wo F27o1 F27p1 := W_ops
theorem wF27o2 : Wo F27o2 F27p2 := W_ops
theorem wF27o3 : Wo F27o3 F27p3 := W_ops
theorem wF27o4 : Wo F27o4 F27p4 := W_ops
theorem wF27o5 : Wo F27o5 F27p5 := W_ops
theorem wF27o6 : Wo F27o6 F27p6 := W_ops
theorem wF27o7 : Wo F27o7 F27p7 := W_ops
theorem wF27o8 : Wo F27o8 F27p8 := W_ops
theorem wF27o9 : Wo F27o9 F27p9 := W_ops
theorem wF27o10 : Wo F27o10 F27p10 := W_ops
theorem wF27o11 : Wo F27o11 F27p11 := W_ops
theorem wF27o13 : Wo F27o13 F27p13 := W_ops
theorem wF27o14 : Wo F27o14 F27p14 := W_ops
theorem wF27o15 : Wo F27o15 F27p15 := W_ops
theorem wF27o16 : Wo F27o16 F27p16 := W_ops
theorem wF27o17 : Wo F27o17 F27p17 := W_ops
theorem wF27o18 : Wo F27o18 F27p18 := W_ops
theorem wF27o19 : Wo F27o19 F27p19 := W_ops
theorem wF27o21 : Wo F27o21 F27p21 := W_ops
theorem wF27o23 : Wo F27o23 F27p23 := W_ops
theorem wF27o24 : Wo F27o24 F27p24 := W_ops
theorem wF28o0 : Wo F28o0 F28p0 := W_ops
theorem wF28o1 : Wo F28o1 F28p1 := W_ops
theorem wF28o2 : Wo F28o2 F28p2 := W_ops
theorem wF28o3 : Wo F28o3 F28p3 := W_ops
theorem wF28o4 : Wo F28o4 F28p4 := W_ops
theorem wF28o5 : Wo F28o5 F28p5 := W_ops
theorem wF28o6 : Wo F28o6 F28p6 := W_ops
theorem wF28o7 : Wo F28o7 F28p7 := W_ops
theorem wF28o8 : Wo F28o8 F28p8 := W_ops
theorem wF28o9 : Wo F28o9 F28p9 := W_ops
theorem wF28o10 : Wo F28o10 F28p10 := W_ops
theorem wF28o11 : Wo F28o11 F28p11 := W_ops
theorem wF28o12 : Wo F28o12 F28p12 := W_ops
theorem wF28o13 : Wo F28o13 F28p13 := W_ops
theorem wF28o14 : Wo F28o14 F28p14 := W_ops
theorem wF28o15 : Wo F28o15 F28p15 := W_ops
theorem wF29o0 : Wo F29o0 F29p0 := W_ops
theorem wF29o1 : Wo F29o1 F29p1 := W_ops
theorem wF29o2 : Wo F29o2 F29p2 := W_ops
theorem wF29o3 : Wo F29o3 F29p3 := W_ops
theorem wF29o4 : Wo F29o4 F29p4 := W_ops
theorem wF29o5 : Wo F29o5 F29p5 := W_ops
theorem wF29o6 : Wo F29o6 F29p6 := W_ops
theorem wF29o7 : Wo F29o7 F29p7 := W_ops
theorem wF29o8 : Wo F29o8 F29p8 := W_ops
theorem wF29o9 : Wo F29o9 F29p9 := W_ops
theorem wF29o11 : Wo F29o11 F29p11 := W_ops
theorem wF45o0 : Wo F45o0 F45p0 := W_ops
theorem wF45o1 : Wo F45o1 F45p1 := W_ops
theorem wF46o0 : Wo F46o0 F46p0 := W_ops
theorem wF46o1 : Wo F46o1 F46p1 := W_ops
theorem wF47o0 : Wo F47o0 F47p0 := W_ops
theorem wF47o1 : Wo F47o1 F47p1 := W_ops
theorem wF47o2 : Wo F47o2 F47p2 := W_ops
theorem wF47o3 : Wo F47o3 F47p3 := W_ops
theorem wF47o4 : Wo F47o4 F47p4 := W_ops
theorem wF47o5 : Wo F47o5 F47p5 := W_ops
theorem wF49o0 : Wo F49o0 F49p0 := W_ops
theorem wF49o1 : Wo F49o1 F49p1 := W_ops
theorem wF49o2 : Wo F49o2 F49p2 := W_ops
theorem wF49o3 : Wo F49o3 F49p3 := W_ops
theorem wF49o4 : Wo F49o4 F49p4 := W_ops
theorem wF49o5 : Wo F49o5 F49p5 := W_ops
theorem wF49o6 : Wo F49o6 F49p6 := W_ops
theorem wF49o7 : Wo F49o7 F49p7 := W_ops
theorem wF49o8 : Wo F49o8 F49p8 := W_ops
theorem wF49o9 : Wo F49o9 F49p9 := W_ops
theorem wF59o0 : Wo F59o0 F59p0 := W_ops
theorem wF59o1 : Wo F59o1 F59p1 := W_ops
def B20 := J @wF20o0 (J @wF20o1 (J @wF20o2 (J @wF20o3 (J @wF20o4 (J @wF20o5 (J @wF20o6 (J @wF20o7 (J @wF20o8 (J @wF20o10 (J F20p0.eq_1 (J F20p1.eq_1 (J F20p2.eq_1 (J F20p3.eq_1 (J F20p4.eq_1 (J F20p5.eq_1 (J F20p6.eq_1 (J F20p7.eq_1 (J F20p8.eq_1 (J F20p10.eq_1 (J F20b.eq_1 (F20.eq_1)))))))))))))))))))))
def B21 := J @wF21o0 (J @wF21o1 (J @wF21o2 (J @wF21o3 (J @wF21o4 (J @wF21o5 (J @wF21o6 (J @wF21o7 (J @wF21o8 (J @wF21o9 (J F21p0.eq_1 (J F21p1.eq_1 (J F21p2.eq_1 (J F21p3.eq_1 (J F21p4.eq_1 (J F21p5.eq_1 (J F21p6.eq_1 (J F21p7.eq_1 (J F21p8.eq_1 (J F21p9.eq_1 (J F21b.eq_1 (F21.eq_1)))))))))))))))))))))
def B23 := J @wF23o0 (J @wF23o1 (J F23p0.eq_1 (J F23p1.eq_1 (J F23b.eq_1 (F23.eq_1)))))
def B24 := J @wF24o0 (J @wF24o1 (J F24p0.eq_1 (J F24p1.eq_1 (J F24b.eq_1 (F24.eq_1)))))
def B28 := J @wF28o0 (J @wF28o1 (J @wF28o2 (J @wF28o3 (J @wF28o4 (J @wF28o5 (J @wF28o6 (J @wF28o7 (J @wF28o8 (J @wF28o9 (J @wF28o10 (J @wF28o11 (J @wF28o12 (J @wF28o13 (J @wF28o14 (J @wF28o15 (J F28p0.eq_1 (J F28p1.eq_1 (J F28p2.eq_1 (J F28p3.eq_1 (J F28p4.eq_1 (J F28p5.eq_1 (J F28p6.eq_1 (J F28p7.eq_1 (J F28p8.eq_1 (J F28p9.eq_1 (J F28p10.eq_1 (J F28p11.eq_1 (J F28p12.eq_1 (J F28p13.eq_1 (J F28p14.eq_1 (J F28p15.eq_1 (J F28b.eq_1 (F28.eq_1)))))))))))))))))))))))))))))))))
def B29 := J @wF29o0 (J @wF29o1 (J @wF29o2 (J @wF29o3 (J @wF29o4 (J @wF29o5 (J @wF29o6 (J @wF29o7 (J @wF29o8 (J @wF29o9 (J @wF29o11 (J F29p0.eq_1 (J F29p1.eq_1 (J F29p2.eq_1 (J F29p3.eq_1 (J F29p4.eq_1 (J F29p5.eq_1 (J F29p6.eq_1 (J F29p7.eq_1 (J F29p8.eq_1 (J F29p9.eq_1 (J F29p11.eq_1 (J F29b.eq_1 (F29.eq_1)))))))))))))))))))))))
def B45 := J @wF45o0 (J @wF45o1 (J F45p0.eq_1 (J F45p1.eq_1 (J F45b.eq_1 (F45.eq_1)))))
def B46 := J @wF46o0 (J @wF46o1 (J F46p0.eq_1 (J F46p1.eq_1 (J F46b.eq_1 (F46.eq_1)))))
def B47 := J @wF47o0 (J @wF47o1 (J @wF47o2 (J @wF47o3 (J @wF47o4 (J @wF47o5 (J F47p0.eq_1 (J F47p1.eq_1 (J F47p2.eq_1 (J F47p3.eq_1 (J F47p4.eq_1 (J F47p5.eq_1 (J F47b.eq_1 (F47.eq_1)))))))))))))
def B49 := J @wF49o0 (J @wF49o1 (J @wF49o2 (J @wF49o3 (J @wF49o4 (J @wF49o5 (J @wF49o6 (J @wF49o7 (J @wF49o8 (J @wF49o9 (J F49p0.eq_1 (J F49p1.eq_1 (J F49p2.eq_1 (J F49p3.eq_1 (J F49p4.eq_1 (J F49p5.eq_1 (J F49p6.eq_1 (J F49p7.eq_1 (J F49p8.eq_1 (J F49p9.eq_1 (J F49b.eq_1 (F49.eq_1)))))))))))))))))))))
def B59 := J @wF59o0 (J @wF59o1 (J F59p0.eq_1 (J F59p1.eq_1 (J F59b.eq_1 (F59.eq_1)))))
theorem c6 : Wc 6 F6 F6b := W_call rfl rfl
theorem c20 : Wc 20 F20 F20b := W_call rfl rfl
theorem c21 : Wc 21 F21 F21b := W_call rfl rfl
theorem c22 : Wc 22 F22 F22b := W_call rfl rfl
theorem c23 : Wc 23 F23 F23b := W_call rfl rfl
theorem c24 : Wc 24 F24 F24b := W_call rfl rfl
theorem c25 : Wc 25 F25 F25b := W_call rfl rfl
theorem c26 : Wc 26 F26 F26b := W_call rfl rfl
theorem c27 : Wc 27 F27 F27b := W_call rfl rfl
theorem c28 : Wc 28 F28 F28b := W_call rfl rfl
theorem c29 : Wc 29 F29 F29b := W_call rfl rfl
theorem c45 : Wc 45 F45 F45b := W_call rfl rfl
theorem c46 : Wc 46 F46 F46b := W_call rfl rfl
theorem c47 : Wc 47 F47 F47b := W_call rfl rfl
theorem c49 : Wc 49 F49 F49b := W_call rfl rfl
theorem c52 : Wc 52 F52 F52b := W_call rfl rfl
theorem c59 : Wc 59 F59 F59b := W_call rfl rfl
theorem c19 (ht : Tabs tabs H) (h : Q (.val (.bool true)) H) : W E0 lo (.call 19 []) H Q := W_sum (s := tabSum tabs) rfl (by simp only [tabSum, ht.ok]; rfl) h
end
end Go.Iso.Gen
end
