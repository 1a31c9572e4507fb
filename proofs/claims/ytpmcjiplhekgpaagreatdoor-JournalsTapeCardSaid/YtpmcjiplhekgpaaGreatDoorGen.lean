/-
  the code of this seat for the evaluator, as a program has printed it.
-/
import Derived.Test.YtpmcjiplhekgpaaGreatDoorIsoP5
import Derived.Test.YtpmcjiplhekgpaaGreatDoorIsoP7
import Derived.Test.YtpmcjiplhekgpaaGreatDoorProg
import Derived.KernelRfl
set_option linter.unusedSimpArgs false
set_option linter.unusedVariables false

section
set_option maxRecDepth 100000
namespace Go.Iso.Gen
set_option linter.defProp false
abbrev OPS := List (Sg × List IOp)
theorem J {a b : Prop} (h : a) (k : b) : a ∧ b := ⟨h, k⟩
/- 3: gansey/ganseylaw40.JournalsTape -/
def F3p0 : OPS := [(.seq, [⟨some 6, .move, [.val (.bool false)], none, true, 0, 0⟩])]
def F3o0 : IC := .ops F3p0
def F3p1 : OPS := [(.seq, [⟨some 19, .move, [.tmp 0], none, true, 0, 0⟩, ⟨some 20, .lenSl, [.tmp 19], none, true, 0, 0⟩, ⟨some 21, .bin .gtr, [.tmp 20, .val (.int .i64 40)], none, true, 0, 0⟩, ⟨some 22, .move, [.tmp 21], none, true, 0, 0⟩, ⟨some 23, .move, [.tmp 1], some (22, false), true, 0, 0⟩, ⟨some 24, .lenSl, [.tmp 23], some (22, false), true, 0, 0⟩, ⟨some 25, .bin .gtr, [.tmp 24, .val (.int .i64 20)], some (22, false), true, 0, 0⟩, ⟨some 26, .pick, [.tmp 22, .val (.bool true), .tmp 25], none, true, 0, 0⟩])]
def F3o1 : IC := .ops F3p1
def F3p2 : OPS := [(.seq, [⟨some 27, .call, [.val (.fn 7 [] [])], none, true, 0, 0⟩, ⟨some 6, .move, [.tmp 27], none, true, 0, 0⟩])]
def F3o2 : IC := .ops F3p2
def F3p3 : OPS := [(.seq, [⟨some 7, .move, [.val (.nilSlice)], none, true, 0, 0⟩])]
def F3o3 : IC := .ops F3p3
def F3p4 : OPS := [(.seq, [⟨some 8, .move, [.val (.int .i64 0)], none, true, 0, 0⟩])]
def F3o4 : IC := .ops F3p4
def F3p5 : OPS := [(.seq, [⟨some 28, .move, [.tmp 8], none, true, 0, 0⟩, ⟨some 29, .move, [.tmp 0], none, true, 0, 0⟩, ⟨some 30, .lenSl, [.tmp 29], none, true, 0, 0⟩, ⟨some 31, .bin .lss, [.tmp 28, .tmp 30], none, true, 0, 0⟩])]
def F3o5 : IC := .ops F3p5
def F3p6 : OPS := [(.seq, [⟨some 34, .move, [.tmp 0], none, true, 0, 0⟩, ⟨some 35, .move, [.tmp 8], none, true, 0, 0⟩, ⟨some 36, .idxSl 1, [.tmp 34, .tmp 35], none, true, 0, 0⟩, ⟨some 37, .load none, [.tmp 36], none, true, 0, 0⟩, ⟨some 38, .bin .rem, [.tmp 37, .val (.int .u16 4096)], none, true, 0, 0⟩, ⟨some 39, .conv .i64, [.tmp 38], none, true, 0, 0⟩, ⟨some 9, .move, [.tmp 39], none, true, 0, 0⟩])]
def F3o6 : IC := .ops F3p6
def F3p7 : OPS := [(.seq, [⟨some 10, .move, [.val (.int .i64 0)], none, true, 0, 0⟩])]
def F3o7 : IC := .ops F3p7
def F3p8 : OPS := [(.seq, [⟨some 40, .move, [.tmp 0], none, true, 0, 0⟩, ⟨some 41, .move, [.tmp 8], none, true, 0, 0⟩, ⟨some 42, .idxSl 1, [.tmp 40, .tmp 41], none, true, 0, 0⟩, ⟨some 43, .load none, [.tmp 42], none, true, 0, 0⟩, ⟨some 44, .bin .geq, [.tmp 43, .val (.int .u16 32768)], none, true, 0, 0⟩])]
def F3o8 : IC := .ops F3p8
def F3p9 : OPS := [(.seq, [⟨some 46, .move, [.tmp 7], none, true, 0, 0⟩, ⟨some 47, .move, [.tmp 9], none, true, 0, 0⟩, ⟨some 48, .call, [.val (.fn 8 [] []), .tmp 46, .tmp 47], none, true, 0, 0⟩, ⟨some 45, .move, [.tmp 48], none, true, 0, 0⟩, ⟨some 49, .extract 0, [.tmp 45], none, true, 0, 0⟩, ⟨some 50, .extract 1, [.tmp 45], none, true, 0, 0⟩, ⟨some 7, .move, [.tmp 49], none, true, 0, 0⟩, ⟨some 10, .move, [.tmp 50], none, true, 0, 0⟩])]
def F3o9 : IC := .ops F3p9
def F3p10 : OPS := [(.seq, [⟨some 52, .move, [.tmp 7], none, true, 0, 0⟩, ⟨some 53, .move, [.tmp 9], none, true, 0, 0⟩, ⟨some 54, .call, [.val (.fn 9 [] []), .tmp 52, .tmp 53], none, true, 0, 0⟩, ⟨some 51, .move, [.tmp 54], none, true, 0, 0⟩, ⟨some 55, .extract 0, [.tmp 51], none, true, 0, 0⟩, ⟨some 56, .extract 1, [.tmp 51], none, true, 0, 0⟩, ⟨some 7, .move, [.tmp 55], none, true, 0, 0⟩, ⟨some 10, .move, [.tmp 56], none, true, 0, 0⟩])]
def F3o10 : IC := .ops F3p10
def F3p11 : OPS := [(.seq, [⟨some 57, .move, [.tmp 10], none, true, 0, 0⟩]), (.seq, [⟨some 58, .bin .neq, [.tmp 57, .val (.int .i64 0)], none, true, 1, 1⟩]), (.seq, [⟨some 59, .move, [.tmp 58], none, true, 2, 3⟩]), (.free, [⟨some 60, .move, [.tmp 7], some (59, false), true, 3, 7⟩, ⟨some 61, .lenSl, [.tmp 60], some (59, false), true, 4, 15⟩, ⟨some 62, .move, [.tmp 8], some (59, false), true, 5, 7⟩, ⟨some 63, .bin .mul, [.val (.int .i64 4), .tmp 62], some (59, false), true, 6, 39⟩, ⟨some 64, .bin .add, [.tmp 63, .val (.int .i64 4)], some (59, false), true, 7, 103⟩]), (.seq, [⟨some 65, .bin .neq, [.tmp 61, .tmp 64], some (59, false), true, 8, 255⟩]), (.seq, [⟨some 66, .pick, [.tmp 59, .val (.bool true), .tmp 65], none, true, 9, 511⟩]), (.seq, [⟨some 67, .move, [.tmp 66], none, true, 10, 1023⟩]), (.free, [⟨some 68, .move, [.tmp 7], some (67, false), true, 11, 2047⟩, ⟨some 69, .cap, [.tmp 68], some (67, false), true, 12, 4095⟩, ⟨some 70, .move, [.tmp 7], some (67, false), true, 13, 2047⟩, ⟨some 71, .lenSl, [.tmp 70], some (67, false), true, 14, 10239⟩]), (.seq, [⟨some 72, .bin .neq, [.tmp 69, .tmp 71], some (67, false), true, 15, 32767⟩]), (.seq, [⟨some 73, .pick, [.tmp 67, .val (.bool true), .tmp 72], none, true, 16, 65535⟩]), (.seq, [⟨some 74, .move, [.tmp 73], none, true, 17, 131071⟩]), (.free, [⟨some 75, .move, [.tmp 7], some (74, false), true, 18, 262143⟩, ⟨some 76, .move, [.tmp 8], some (74, false), true, 19, 262143⟩, ⟨some 77, .bin .mul, [.val (.int .i64 4), .tmp 76], some (74, false), true, 20, 786431⟩]), (.seq, [⟨some 78, .slc 1 true false false, [.tmp 75, .tmp 77], some (74, false), true, 21, 2097151⟩]), (.seq, [⟨some 79, .call, [.val (.fn 10 [] []), .tmp 78], some (74, false), true, 22, 4194303⟩]), (.seq, [⟨some 80, .un .not, [.tmp 79], some (74, false), true, 23, 8388607⟩]), (.seq, [⟨some 81, .pick, [.tmp 74, .val (.bool true), .tmp 80], none, true, 24, 16777215⟩]), (.seq, [⟨some 82, .move, [.tmp 81], none, true, 25, 33554431⟩]), (.free, [⟨some 83, .move, [.tmp 7], some (82, false), false, 26, 67108863⟩, ⟨some 84, .move, [.tmp 8], some (82, false), false, 27, 67108863⟩, ⟨some 85, .bin .mul, [.val (.int .i64 4), .tmp 84], some (82, false), false, 28, 201326591⟩, ⟨some 86, .idxSl 1, [.tmp 83, .tmp 85], some (82, false), false, 29, 536870911⟩, ⟨some 87, .load none, [.tmp 86], some (82, false), false, 30, 1073741823⟩, ⟨some 88, .bin .eql, [.tmp 87, .val (.int .u8 2)], some (82, false), false, 31, 2147483647⟩, ⟨some 89, .move, [.tmp 0], some (82, false), false, 32, 67108863⟩, ⟨some 90, .move, [.tmp 8], some (82, false), false, 33, 67108863⟩, ⟨some 91, .idxSl 1, [.tmp 89, .tmp 90], some (82, false), false, 34, 12952010751⟩, ⟨some 92, .load none, [.tmp 91], some (82, false), false, 35, 30131879935⟩, ⟨some 93, .bin .geq, [.tmp 92, .val (.int .u16 32768)], some (82, false), false, 36, 64491618303⟩]), (.seq, [⟨some 94, .eqBool true, [.tmp 88, .tmp 93], some (82, false), true, 37, 137438953471⟩]), (.seq, [⟨some 95, .pick, [.tmp 82, .val (.bool true), .tmp 94], none, true, 38, 274877906943⟩]), (.seq, [⟨some 96, .move, [.tmp 95], none, true, 39, 549755813887⟩]), (.free, [⟨some 97, .move, [.tmp 7], some (96, false), false, 40, 1099511627775⟩, ⟨some 98, .move, [.tmp 8], some (96, false), false, 41, 1099511627775⟩, ⟨some 99, .bin .mul, [.val (.int .i64 4), .tmp 98], some (96, false), false, 42, 3298534883327⟩, ⟨some 100, .bin .add, [.tmp 99, .val (.int .i64 1)], some (96, false), false, 43, 7696581394431⟩, ⟨some 101, .idxSl 1, [.tmp 97, .tmp 100], some (96, false), false, 44, 17592186044415⟩, ⟨some 102, .load none, [.tmp 101], some (96, false), false, 45, 35184372088831⟩, ⟨some 103, .conv .i64, [.tmp 102], some (96, false), false, 46, 70368744177663⟩, ⟨some 104, .move, [.tmp 7], some (96, false), false, 47, 1099511627775⟩, ⟨some 105, .move, [.tmp 8], some (96, false), false, 48, 1099511627775⟩, ⟨some 106, .bin .mul, [.val (.int .i64 4), .tmp 105], some (96, false), false, 49, 282574488338431⟩, ⟨some 107, .bin .add, [.tmp 106, .val (.int .i64 2)], some (96, false), false, 50, 845524441759743⟩, ⟨some 108, .idxSl 1, [.tmp 104, .tmp 107], some (96, false), false, 51, 2112161836957695⟩, ⟨some 109, .load none, [.tmp 108], some (96, false), false, 52, 4363961650642943⟩, ⟨some 110, .conv .i64, [.tmp 109], some (96, false), false, 53, 8867561278013439⟩, ⟨some 111, .bin .mul, [.val (.int .i64 256), .tmp 110], some (96, false), false, 54, 17874760532754431⟩, ⟨some 112, .bin .add, [.tmp 103, .tmp 111], some (96, false), true, 55, 36028797018963967⟩, ⟨some 113, .move, [.tmp 9], some (96, false), false, 56, 1099511627775⟩]), (.seq, [⟨some 114, .bin .neq, [.tmp 112, .tmp 113], some (96, false), true, 57, 144115188075855871⟩]), (.seq, [⟨some 115, .pick, [.tmp 96, .val (.bool true), .tmp 114], none, true, 58, 288230376151711743⟩])]
def F3o11 : IC := .ops F3p11
def F3p12 : OPS := [(.seq, [⟨some 6, .move, [.val (.bool false)], none, true, 0, 0⟩])]
def F3o12 : IC := .ops F3p12
def F3p13 : OPS := [(.seq, [⟨some 32, .move, [.tmp 8], none, true, 0, 0⟩, ⟨some 33, .bin .add, [.tmp 32, .val (.int .i64 1)], none, true, 0, 0⟩, ⟨some 8, .move, [.tmp 33], none, true, 0, 0⟩])]
def F3o13 : IC := .ops F3p13
def F3l14 : IC := .seq (.seq (F3o5) (.cond (.tmp 31) (.skip) (.exit 0))) (.seq (.block 1 (.seq (F3o6) (.seq (F3o7) (.seq (.seq (F3o8) (.cond (.tmp 44) (F3o9) (F3o10))) (.seq (F3o11) (.cond (.tmp 115) (.seq (F3o12) (.ret)) (.skip))))))) (F3o13))
def F3p15 : OPS := [(.seq, [⟨some 116, .move, [.tmp 7], none, true, 0, 0⟩, ⟨some 117, .move, [.tmp 7], none, true, 0, 0⟩, ⟨some 118, .lenSl, [.tmp 117], none, true, 0, 0⟩, ⟨some 119, .move, [.tmp 7], none, true, 0, 0⟩, ⟨some 120, .lenSl, [.tmp 119], none, true, 0, 0⟩, ⟨some 121, .slc 1 false true true, [.tmp 116, .tmp 118, .tmp 120], none, true, 0, 0⟩, ⟨some 122, .move, [.tmp 1], none, true, 0, 0⟩, ⟨some 123, .append 5 1 1, [.tmp 121, .tmp 122], none, true, 0, 0⟩, ⟨some 7, .move, [.tmp 123], none, true, 0, 0⟩])]
def F3o15 : IC := .ops F3p15
def F3p16 : OPS := [(.seq, [⟨some 124, .move, [.tmp 0], none, true, 0, 0⟩, ⟨some 125, .lenSl, [.tmp 124], none, true, 0, 0⟩, ⟨some 11, .move, [.tmp 125], none, true, 0, 0⟩])]
def F3o16 : IC := .ops F3p16
def F3p17 : OPS := [(.seq, [⟨some 126, .move, [.tmp 11], none, true, 0, 0⟩, ⟨some 127, .bin .mul, [.val (.int .i64 4), .tmp 126], none, true, 0, 0⟩, ⟨some 128, .bin .add, [.tmp 127, .val (.int .i64 4)], none, true, 0, 0⟩, ⟨some 129, .move, [.tmp 7], none, true, 0, 0⟩, ⟨some 130, .lenSl, [.tmp 129], none, true, 0, 0⟩, ⟨some 131, .bin .leq, [.tmp 128, .tmp 130], none, true, 0, 0⟩, ⟨some 132, .move, [.tmp 131], none, true, 0, 0⟩, ⟨some 133, .move, [.tmp 7], some (132, true), true, 0, 0⟩, ⟨some 134, .move, [.tmp 11], some (132, true), true, 0, 0⟩, ⟨some 135, .bin .mul, [.val (.int .i64 4), .tmp 134], some (132, true), true, 0, 0⟩, ⟨some 136, .move, [.tmp 11], some (132, true), true, 0, 0⟩, ⟨some 137, .bin .mul, [.val (.int .i64 4), .tmp 136], some (132, true), true, 0, 0⟩, ⟨some 138, .bin .add, [.tmp 137, .val (.int .i64 4)], some (132, true), true, 0, 0⟩, ⟨some 139, .slc 1 true true false, [.tmp 133, .tmp 135, .tmp 138], some (132, true), true, 0, 0⟩, ⟨some 140, .call, [.val (.fn 10 [] []), .tmp 139], some (132, true), true, 0, 0⟩, ⟨some 141, .pick, [.tmp 132, .tmp 140, .val (.bool false)], none, true, 0, 0⟩])]
def F3o17 : IC := .ops F3p17
def F3p18 : OPS := [(.seq, [⟨some 142, .move, [.tmp 11], none, true, 0, 0⟩, ⟨some 143, .bin .add, [.tmp 142, .val (.int .i64 1)], none, true, 0, 0⟩, ⟨some 11, .move, [.tmp 143], none, true, 0, 0⟩])]
def F3o18 : IC := .ops F3p18
def F3l19 : IC := .seq (.seq (F3o17) (.cond (.tmp 141) (.skip) (.exit 2))) (.block 3 (F3o18))
def F3p20 : OPS := [(.seq, [⟨some 145, .move, [.tmp 7], none, true, 0, 0⟩, ⟨some 146, .call, [.val (.fn 11 [] []), .tmp 145], none, true, 0, 0⟩, ⟨some 144, .move, [.tmp 146], none, true, 0, 0⟩, ⟨some 147, .extract 0, [.tmp 144], none, true, 0, 0⟩, ⟨some 148, .extract 1, [.tmp 144], none, true, 0, 0⟩, ⟨some 12, .move, [.tmp 147], none, true, 0, 0⟩, ⟨some 13, .move, [.tmp 148], none, true, 0, 0⟩])]
def F3o20 : IC := .ops F3p20
def F3p21 : OPS := [(.seq, [⟨some 149, .move, [.tmp 12], none, true, 0, 0⟩, ⟨some 150, .lenSl, [.tmp 149], none, true, 0, 0⟩, ⟨some 151, .move, [.tmp 11], none, true, 0, 0⟩, ⟨some 152, .bin .neq, [.tmp 150, .tmp 151], none, true, 0, 0⟩, ⟨some 153, .move, [.tmp 152], none, true, 0, 0⟩, ⟨some 154, .move, [.tmp 12], some (153, false), true, 0, 0⟩, ⟨some 155, .cap, [.tmp 154], some (153, false), true, 0, 0⟩, ⟨some 156, .move, [.tmp 11], some (153, false), true, 0, 0⟩, ⟨some 157, .bin .neq, [.tmp 155, .tmp 156], some (153, false), true, 0, 0⟩, ⟨some 158, .pick, [.tmp 153, .val (.bool true), .tmp 157], none, true, 0, 0⟩, ⟨some 159, .move, [.tmp 158], none, true, 0, 0⟩, ⟨some 160, .move, [.tmp 13], some (159, false), true, 0, 0⟩, ⟨some 161, .move, [.tmp 11], some (159, false), true, 0, 0⟩, ⟨some 162, .bin .mul, [.val (.int .i64 4), .tmp 161], some (159, false), true, 0, 0⟩, ⟨some 163, .bin .neq, [.tmp 160, .tmp 162], some (159, false), true, 0, 0⟩, ⟨some 164, .pick, [.tmp 159, .val (.bool true), .tmp 163], none, true, 0, 0⟩])]
def F3o21 : IC := .ops F3p21
def F3p22 : OPS := [(.seq, [⟨some 6, .move, [.val (.bool false)], none, true, 0, 0⟩])]
def F3o22 : IC := .ops F3p22
def F3p23 : OPS := [(.seq, [⟨some 14, .move, [.val (.int .i64 0)], none, true, 0, 0⟩])]
def F3o23 : IC := .ops F3p23
def F3p24 : OPS := [(.seq, [⟨some 165, .move, [.tmp 14], none, true, 0, 0⟩, ⟨some 166, .move, [.tmp 11], none, true, 0, 0⟩, ⟨some 167, .bin .lss, [.tmp 165, .tmp 166], none, true, 0, 0⟩])]
def F3o24 : IC := .ops F3p24
def F3p25 : OPS := [(.free, [⟨some 170, .move, [.tmp 12], none, false, 0, 0⟩, ⟨some 171, .move, [.tmp 14], none, false, 1, 0⟩, ⟨some 172, .idxSl 2, [.tmp 170, .tmp 171], none, false, 2, 3⟩, ⟨some 173, .fieldAddr 1, [.tmp 172], none, false, 3, 7⟩, ⟨some 174, .load none, [.tmp 173], none, false, 4, 15⟩, ⟨some 175, .move, [.tmp 7], none, false, 5, 0⟩, ⟨some 176, .move, [.tmp 14], none, false, 6, 0⟩, ⟨some 177, .bin .mul, [.val (.int .i64 4), .tmp 176], none, false, 7, 64⟩, ⟨some 178, .bin .add, [.tmp 177, .val (.int .i64 1)], none, false, 8, 192⟩, ⟨some 179, .idxSl 1, [.tmp 175, .tmp 178], none, false, 9, 480⟩, ⟨some 180, .load none, [.tmp 179], none, false, 10, 992⟩, ⟨some 181, .conv .i64, [.tmp 180], none, false, 11, 2016⟩, ⟨some 182, .move, [.tmp 7], none, false, 12, 0⟩, ⟨some 183, .move, [.tmp 14], none, false, 13, 0⟩, ⟨some 184, .bin .mul, [.val (.int .i64 4), .tmp 183], none, false, 14, 8192⟩, ⟨some 185, .bin .add, [.tmp 184, .val (.int .i64 2)], none, false, 15, 24576⟩, ⟨some 186, .idxSl 1, [.tmp 182, .tmp 185], none, false, 16, 61440⟩, ⟨some 187, .load none, [.tmp 186], none, false, 17, 126976⟩, ⟨some 188, .conv .i64, [.tmp 187], none, false, 18, 258048⟩, ⟨some 189, .bin .mul, [.val (.int .i64 256), .tmp 188], none, false, 19, 520192⟩, ⟨some 190, .bin .add, [.tmp 181, .tmp 189], none, false, 20, 1048544⟩]), (.seq, [⟨some 191, .bin .neq, [.tmp 174, .tmp 190], none, true, 21, 2097151⟩]), (.seq, [⟨some 192, .move, [.tmp 191], none, true, 22, 4194303⟩]), (.free, [⟨some 193, .move, [.tmp 12], some (192, false), false, 23, 8388607⟩, ⟨some 194, .move, [.tmp 14], some (192, false), false, 24, 8388607⟩, ⟨some 195, .idxSl 2, [.tmp 193, .tmp 194], some (192, false), false, 25, 33554431⟩, ⟨some 196, .fieldAddr 0, [.tmp 195], some (192, false), false, 26, 67108863⟩, ⟨some 197, .load none, [.tmp 196], some (192, false), false, 27, 134217727⟩, ⟨some 198, .move, [.tmp 7], some (192, false), false, 28, 8388607⟩, ⟨some 199, .move, [.tmp 14], some (192, false), false, 29, 8388607⟩, ⟨some 200, .bin .mul, [.val (.int .i64 4), .tmp 199], some (192, false), false, 30, 545259519⟩, ⟨some 201, .idxSl 1, [.tmp 198, .tmp 200], some (192, false), false, 31, 1887436799⟩, ⟨some 202, .load none, [.tmp 201], some (192, false), false, 32, 4034920447⟩, ⟨some 203, .bin .eql, [.tmp 202, .val (.int .u8 2)], some (192, false), false, 33, 8329887743⟩]), (.seq, [⟨some 204, .eqBool true, [.tmp 197, .tmp 203], some (192, false), true, 34, 17179869183⟩]), (.seq, [⟨some 205, .pick, [.tmp 192, .val (.bool true), .tmp 204], none, true, 35, 34359738367⟩])]
def F3o25 : IC := .ops F3p25
def F3p26 : OPS := [(.seq, [⟨some 6, .move, [.val (.bool false)], none, true, 0, 0⟩])]
def F3o26 : IC := .ops F3p26
def F3p27 : OPS := [(.seq, [⟨some 168, .move, [.tmp 14], none, true, 0, 0⟩, ⟨some 169, .bin .add, [.tmp 168, .val (.int .i64 1)], none, true, 0, 0⟩, ⟨some 14, .move, [.tmp 169], none, true, 0, 0⟩])]
def F3o27 : IC := .ops F3p27
def F3l28 : IC := .seq (.seq (F3o24) (.cond (.tmp 167) (.skip) (.exit 4))) (.seq (.block 5 (.seq (F3o25) (.cond (.tmp 205) (.seq (F3o26) (.ret)) (.skip)))) (F3o27))
def F3p29 : OPS := [(.seq, [⟨some 207, .move, [.tmp 7], none, true, 0, 0⟩, ⟨some 208, .move, [.tmp 2], none, true, 0, 0⟩, ⟨some 209, .call, [.val (.fn 9 [] []), .tmp 207, .tmp 208], none, true, 0, 0⟩, ⟨some 206, .move, [.tmp 209], none, true, 0, 0⟩, ⟨some 210, .extract 0, [.tmp 206], none, true, 0, 0⟩, ⟨some 211, .extract 1, [.tmp 206], none, true, 0, 0⟩, ⟨some 15, .move, [.tmp 210], none, true, 0, 0⟩, ⟨some 16, .move, [.tmp 211], none, true, 0, 0⟩])]
def F3o29 : IC := .ops F3p29
def F3p30 : OPS := [(.seq, [⟨some 213, .move, [.tmp 7], none, true, 0, 0⟩, ⟨some 214, .move, [.tmp 2], none, true, 0, 0⟩, ⟨some 215, .call, [.val (.fn 8 [] []), .tmp 213, .tmp 214], none, true, 0, 0⟩, ⟨some 212, .move, [.tmp 215], none, true, 0, 0⟩, ⟨some 216, .extract 0, [.tmp 212], none, true, 0, 0⟩, ⟨some 217, .extract 1, [.tmp 212], none, true, 0, 0⟩, ⟨some 17, .move, [.tmp 216], none, true, 0, 0⟩, ⟨some 18, .move, [.tmp 217], none, true, 0, 0⟩])]
def F3o30 : IC := .ops F3p30
def F3p31 : OPS := [(.seq, [⟨some 218, .move, [.tmp 2], none, true, 0, 0⟩, ⟨some 219, .bin .lss, [.tmp 218, .val (.int .i64 0)], none, true, 0, 0⟩, ⟨some 220, .move, [.tmp 219], none, true, 0, 0⟩, ⟨some 221, .move, [.tmp 2], some (220, false), true, 0, 0⟩, ⟨some 222, .bin .gtr, [.tmp 221, .val (.int .i64 4095)], some (220, false), true, 0, 0⟩, ⟨some 223, .pick, [.tmp 220, .val (.bool true), .tmp 222], none, true, 0, 0⟩])]
def F3o31 : IC := .ops F3p31
def F3p32 : OPS := [(.seq, [⟨some 224, .move, [.tmp 16], none, true, 0, 0⟩, ⟨some 225, .bin .eql, [.tmp 224, .val (.int .i64 1)], none, true, 0, 0⟩, ⟨some 226, .move, [.tmp 225], none, true, 0, 0⟩, ⟨some 227, .move, [.tmp 18], some (226, true), true, 0, 0⟩, ⟨some 228, .bin .eql, [.tmp 227, .val (.int .i64 1)], some (226, true), true, 0, 0⟩, ⟨some 229, .pick, [.tmp 226, .tmp 228, .val (.bool false)], none, true, 0, 0⟩, ⟨some 230, .move, [.tmp 229], none, true, 0, 0⟩, ⟨some 231, .move, [.tmp 15], some (230, true), true, 0, 0⟩, ⟨some 232, .lenSl, [.tmp 231], some (230, true), true, 0, 0⟩, ⟨some 233, .move, [.tmp 17], some (230, true), true, 0, 0⟩, ⟨some 234, .lenSl, [.tmp 233], some (230, true), true, 0, 0⟩, ⟨some 235, .bin .add, [.tmp 232, .tmp 234], some (230, true), true, 0, 0⟩, ⟨some 236, .bin .eql, [.tmp 235, .val (.int .i64 0)], some (230, true), true, 0, 0⟩, ⟨some 237, .pick, [.tmp 230, .tmp 236, .val (.bool false)], none, true, 0, 0⟩, ⟨some 238, .move, [.tmp 237], none, true, 0, 0⟩, ⟨some 239, .call, [.val (.fn 7 [] [])], some (238, true), true, 0, 0⟩, ⟨some 240, .pick, [.tmp 238, .tmp 239, .val (.bool false)], none, true, 0, 0⟩, ⟨some 6, .move, [.tmp 240], none, true, 0, 0⟩])]
def F3o32 : IC := .ops F3p32
def F3p33 : OPS := [(.seq, [⟨some 241, .move, [.tmp 16], none, true, 0, 0⟩]), (.seq, [⟨some 242, .bin .eql, [.tmp 241, .val (.int .i64 0)], none, true, 1, 1⟩]), (.seq, [⟨some 243, .move, [.tmp 242], none, true, 2, 3⟩]), (.seq, [⟨some 244, .move, [.tmp 18], some (243, true), true, 3, 7⟩]), (.seq, [⟨some 245, .bin .eql, [.tmp 244, .val (.int .i64 0)], some (243, true), true, 4, 15⟩]), (.seq, [⟨some 246, .pick, [.tmp 243, .tmp 245, .val (.bool false)], none, true, 5, 31⟩]), (.seq, [⟨some 247, .move, [.tmp 246], none, true, 6, 63⟩]), (.free, [⟨some 248, .move, [.tmp 15], some (247, true), true, 7, 127⟩, ⟨some 249, .lenSl, [.tmp 248], some (247, true), true, 8, 255⟩, ⟨some 250, .move, [.tmp 13], some (247, true), true, 9, 127⟩, ⟨some 251, .bin .add, [.tmp 250, .val (.int .i64 4)], some (247, true), true, 10, 639⟩]), (.seq, [⟨some 252, .bin .eql, [.tmp 249, .tmp 251], some (247, true), true, 11, 2047⟩]), (.seq, [⟨some 253, .pick, [.tmp 247, .tmp 252, .val (.bool false)], none, true, 12, 4095⟩]), (.seq, [⟨some 254, .move, [.tmp 253], none, true, 13, 8191⟩]), (.free, [⟨some 255, .move, [.tmp 17], some (254, true), true, 14, 16383⟩, ⟨some 256, .lenSl, [.tmp 255], some (254, true), true, 15, 32767⟩, ⟨some 257, .move, [.tmp 13], some (254, true), true, 16, 16383⟩, ⟨some 258, .bin .add, [.tmp 257, .val (.int .i64 4)], some (254, true), true, 17, 81919⟩]), (.seq, [⟨some 259, .bin .eql, [.tmp 256, .tmp 258], some (254, true), true, 18, 262143⟩]), (.seq, [⟨some 260, .pick, [.tmp 254, .tmp 259, .val (.bool false)], none, true, 19, 524287⟩]), (.seq, [⟨some 261, .move, [.tmp 260], none, true, 20, 1048575⟩]), (.free, [⟨some 262, .move, [.tmp 15], some (261, true), false, 21, 2097151⟩, ⟨some 263, .move, [.tmp 13], some (261, true), false, 22, 2097151⟩, ⟨some 264, .slc 1 false true false, [.tmp 262, .tmp 263], some (261, true), false, 23, 8388607⟩, ⟨some 265, .strOf, [.tmp 264], some (261, true), false, 24, 16777215⟩, ⟨some 266, .move, [.tmp 7], some (261, true), false, 25, 2097151⟩, ⟨some 267, .move, [.tmp 13], some (261, true), false, 26, 2097151⟩, ⟨some 268, .slc 1 false true false, [.tmp 266, .tmp 267], some (261, true), false, 27, 102760447⟩, ⟨some 269, .strOf, [.tmp 268], some (261, true), false, 28, 236978175⟩]), (.seq, [⟨some 270, .bin .eql, [.tmp 265, .tmp 269], some (261, true), true, 29, 536870911⟩]), (.seq, [⟨some 271, .pick, [.tmp 261, .tmp 270, .val (.bool false)], none, true, 30, 1073741823⟩]), (.seq, [⟨some 272, .move, [.tmp 271], none, true, 31, 2147483647⟩]), (.free, [⟨some 273, .move, [.tmp 17], some (272, true), false, 32, 4294967295⟩, ⟨some 274, .move, [.tmp 13], some (272, true), false, 33, 4294967295⟩, ⟨some 275, .slc 1 false true false, [.tmp 273, .tmp 274], some (272, true), false, 34, 17179869183⟩, ⟨some 276, .strOf, [.tmp 275], some (272, true), false, 35, 34359738367⟩, ⟨some 277, .move, [.tmp 7], some (272, true), false, 36, 4294967295⟩, ⟨some 278, .move, [.tmp 13], some (272, true), false, 37, 4294967295⟩, ⟨some 279, .slc 1 false true false, [.tmp 277, .tmp 278], some (272, true), false, 38, 210453397503⟩, ⟨some 280, .strOf, [.tmp 279], some (272, true), false, 39, 485331304447⟩]), (.seq, [⟨some 281, .bin .eql, [.tmp 276, .tmp 280], some (272, true), true, 40, 1099511627775⟩]), (.seq, [⟨some 282, .pick, [.tmp 272, .tmp 281, .val (.bool false)], none, true, 41, 2199023255551⟩]), (.seq, [⟨some 283, .move, [.tmp 282], none, true, 42, 4398046511103⟩]), (.free, [⟨some 284, .move, [.tmp 15], some (283, true), true, 43, 8796093022207⟩, ⟨some 285, .move, [.tmp 13], some (283, true), true, 44, 8796093022207⟩]), (.seq, [⟨some 286, .slc 1 true false false, [.tmp 284, .tmp 285], some (283, true), true, 45, 35184372088831⟩]), (.seq, [⟨some 287, .call, [.val (.fn 10 [] []), .tmp 286], some (283, true), true, 46, 70368744177663⟩]), (.seq, [⟨some 288, .pick, [.tmp 283, .tmp 287, .val (.bool false)], none, true, 47, 140737488355327⟩]), (.seq, [⟨some 289, .move, [.tmp 288], none, true, 48, 281474976710655⟩]), (.free, [⟨some 290, .move, [.tmp 17], some (289, true), true, 49, 562949953421311⟩, ⟨some 291, .move, [.tmp 13], some (289, true), true, 50, 562949953421311⟩]), (.seq, [⟨some 292, .slc 1 true false false, [.tmp 290, .tmp 291], some (289, true), true, 51, 2251799813685247⟩]), (.seq, [⟨some 293, .call, [.val (.fn 10 [] []), .tmp 292], some (289, true), true, 52, 4503599627370495⟩]), (.seq, [⟨some 294, .pick, [.tmp 289, .tmp 293, .val (.bool false)], none, true, 53, 9007199254740991⟩]), (.seq, [⟨some 295, .move, [.tmp 294], none, true, 54, 18014398509481983⟩]), (.free, [⟨some 296, .move, [.tmp 15], some (295, true), true, 55, 36028797018963967⟩, ⟨some 297, .move, [.tmp 13], some (295, true), true, 56, 36028797018963967⟩]), (.seq, [⟨some 298, .idxSl 1, [.tmp 296, .tmp 297], some (295, true), true, 57, 144115188075855871⟩]), (.seq, [⟨some 299, .load none, [.tmp 298], some (295, true), true, 58, 288230376151711743⟩]), (.seq, [⟨some 300, .bin .eql, [.tmp 299, .val (.int .u8 1)], some (295, true), true, 59, 576460752303423487⟩]), (.seq, [⟨some 301, .pick, [.tmp 295, .tmp 300, .val (.bool false)], none, true, 60, 1152921504606846975⟩]), (.seq, [⟨some 302, .move, [.tmp 301], none, true, 61, 2305843009213693951⟩]), (.free, [⟨some 303, .move, [.tmp 17], some (302, true), true, 62, 4611686018427387903⟩, ⟨some 304, .move, [.tmp 13], some (302, true), true, 63, 4611686018427387903⟩]), (.seq, [⟨some 305, .idxSl 1, [.tmp 303, .tmp 304], some (302, true), true, 64, 18446744073709551615⟩]), (.seq, [⟨some 306, .load none, [.tmp 305], some (302, true), true, 65, 36893488147419103231⟩]), (.seq, [⟨some 307, .bin .eql, [.tmp 306, .val (.int .u8 2)], some (302, true), true, 66, 73786976294838206463⟩]), (.seq, [⟨some 308, .pick, [.tmp 302, .tmp 307, .val (.bool false)], none, true, 67, 147573952589676412927⟩]), (.seq, [⟨some 309, .move, [.tmp 308], none, true, 68, 295147905179352825855⟩]), (.seq, [⟨some 310, .call, [.val (.fn 7 [] [])], some (309, true), true, 69, 590295810358705651711⟩]), (.seq, [⟨some 311, .pick, [.tmp 309, .tmp 310, .val (.bool false)], none, true, 70, 1180591620717411303423⟩]), (.seq, [⟨some 6, .move, [.tmp 311], none, true, 71, 2361183241434822606847⟩])]
def F3o33 : IC := .ops F3p33
def F3b : IC := .seq (F3o0) (.seq (.seq (F3o1) (.cond (.tmp 26) (.seq (F3o2) (.ret)) (.skip))) (.seq (F3o3) (.seq (.seq (F3o4) (.block 0 (.loop F3l14))) (.seq (F3o15) (.seq (F3o16) (.seq (.block 2 (.loop F3l19)) (.seq (F3o20) (.seq (.seq (F3o21) (.cond (.tmp 164) (.seq (F3o22) (.ret)) (.skip))) (.seq (.seq (F3o23) (.block 4 (.loop F3l28))) (.seq (F3o29) (.seq (F3o30) (.seq (.seq (F3o31) (.cond (.tmp 223) (.seq (F3o32) (.ret)) (.skip))) (.seq (F3o33) (.ret))))))))))))))
def F3 : IFn := ⟨312, [(6, none)], F3b⟩
/- 7: gansey/ganseylaw40.lives -/
noncomputable def F7 : IFn := (compF Go.Proofs.Tryz.prog 7).getD ⟨0, [], .skip⟩
/- 8: gansey/journals.Done -/
def F8p0 : OPS := [(.seq, [⟨some 4, .move, [.val (.nilSlice)], none, true, 0, 0⟩, ⟨some 5, .move, [.val (.int .i64 0)], none, true, 0, 0⟩])]
def F8o0 : IC := .ops F8p0
def F8p1 : OPS := [(.seq, [⟨some 6, .move, [.tmp 0], none, true, 0, 0⟩, ⟨some 7, .move, [.tmp 1], none, true, 0, 0⟩, ⟨some 8, .call, [.val (.fn 31 [] []), .tmp 6, .val (.int .u8 2), .tmp 7], none, true, 0, 0⟩, ⟨some 9, .extract 0, [.tmp 8], none, true, 0, 0⟩, ⟨some 10, .extract 1, [.tmp 8], none, true, 0, 0⟩, ⟨some 4, .move, [.tmp 9], none, true, 0, 0⟩, ⟨some 5, .move, [.tmp 10], none, true, 0, 0⟩])]
def F8o1 : IC := .ops F8p1
def F8b : IC := .seq (F8o0) (.seq (F8o1) (.ret))
def F8 : IFn := ⟨11, [(4, none), (5, none)], F8b⟩
/- 9: gansey/journals.Begin -/
def F9p0 : OPS := [(.seq, [⟨some 4, .move, [.val (.nilSlice)], none, true, 0, 0⟩, ⟨some 5, .move, [.val (.int .i64 0)], none, true, 0, 0⟩])]
def F9o0 : IC := .ops F9p0
def F9p1 : OPS := [(.seq, [⟨some 6, .move, [.tmp 0], none, true, 0, 0⟩, ⟨some 7, .move, [.tmp 1], none, true, 0, 0⟩, ⟨some 8, .call, [.val (.fn 31 [] []), .tmp 6, .val (.int .u8 1), .tmp 7], none, true, 0, 0⟩, ⟨some 9, .extract 0, [.tmp 8], none, true, 0, 0⟩, ⟨some 10, .extract 1, [.tmp 8], none, true, 0, 0⟩, ⟨some 4, .move, [.tmp 9], none, true, 0, 0⟩, ⟨some 5, .move, [.tmp 10], none, true, 0, 0⟩])]
def F9o1 : IC := .ops F9p1
def F9b : IC := .seq (F9o0) (.seq (F9o1) (.ret))
def F9 : IFn := ⟨11, [(4, none), (5, none)], F9b⟩
/- 10: gansey/ganseylaw40.right -/
def F10p0 : OPS := [(.seq, [⟨some 2, .move, [.val (.bool false)], none, true, 0, 0⟩])]
def F10o0 : IC := .ops F10p0
def F10p1 : OPS := [(.free, [⟨some 4, .move, [.tmp 0], none, false, 0, 0⟩, ⟨some 5, .idxSl 1, [.tmp 4, .val (.int .i64 1)], none, false, 1, 1⟩, ⟨some 6, .load none, [.tmp 5], none, false, 2, 3⟩, ⟨some 7, .conv .i64, [.tmp 6], none, false, 3, 7⟩, ⟨some 8, .move, [.tmp 0], none, false, 4, 0⟩, ⟨some 9, .idxSl 1, [.tmp 8, .val (.int .i64 2)], none, false, 5, 16⟩, ⟨some 10, .load none, [.tmp 9], none, false, 6, 48⟩, ⟨some 11, .conv .i64, [.tmp 10], none, false, 7, 112⟩, ⟨some 12, .bin .mul, [.val (.int .i64 256), .tmp 11], none, false, 8, 240⟩]), (.seq, [⟨some 13, .bin .add, [.tmp 7, .tmp 12], none, true, 9, 511⟩]), (.seq, [⟨some 3, .move, [.tmp 13], none, true, 10, 1023⟩])]
def F10o1 : IC := .ops F10p1
def F10p2 : OPS := [(.seq, [⟨some 14, .move, [.tmp 0], none, true, 0, 0⟩]), (.seq, [⟨some 15, .idxSl 1, [.tmp 14, .val (.int .i64 0)], none, true, 1, 1⟩]), (.seq, [⟨some 16, .load none, [.tmp 15], none, true, 2, 3⟩]), (.seq, [⟨some 17, .bin .eql, [.tmp 16, .val (.int .u8 1)], none, true, 3, 7⟩]), (.seq, [⟨some 18, .move, [.tmp 17], none, true, 4, 15⟩]), (.seq, [⟨some 19, .move, [.tmp 0], some (18, false), true, 5, 31⟩]), (.seq, [⟨some 20, .idxSl 1, [.tmp 19, .val (.int .i64 0)], some (18, false), true, 6, 63⟩]), (.seq, [⟨some 21, .load none, [.tmp 20], some (18, false), true, 7, 127⟩]), (.seq, [⟨some 22, .bin .eql, [.tmp 21, .val (.int .u8 2)], some (18, false), true, 8, 255⟩]), (.seq, [⟨some 23, .pick, [.tmp 18, .val (.bool true), .tmp 22], none, true, 9, 511⟩]), (.seq, [⟨some 24, .move, [.tmp 23], none, true, 10, 1023⟩]), (.seq, [⟨some 25, .move, [.tmp 3], some (24, true), true, 11, 2047⟩]), (.seq, [⟨some 26, .bin .lss, [.tmp 25, .val (.int .i64 4096)], some (24, true), true, 12, 4095⟩]), (.seq, [⟨some 27, .pick, [.tmp 24, .tmp 26, .val (.bool false)], none, true, 13, 8191⟩]), (.seq, [⟨some 28, .move, [.tmp 27], none, true, 14, 16383⟩]), (.free, [⟨some 29, .move, [.tmp 0], some (28, true), false, 15, 32767⟩, ⟨some 30, .idxSl 1, [.tmp 29, .val (.int .i64 3)], some (28, true), false, 16, 65535⟩, ⟨some 31, .load none, [.tmp 30], some (28, true), false, 17, 131071⟩, ⟨some 32, .conv .i64, [.tmp 31], some (28, true), false, 18, 262143⟩, ⟨some 33, .move, [.tmp 0], some (28, true), false, 19, 32767⟩, ⟨some 34, .idxSl 1, [.tmp 33, .val (.int .i64 0)], some (28, true), false, 20, 557055⟩, ⟨some 35, .load none, [.tmp 34], some (28, true), false, 21, 1605631⟩, ⟨some 36, .conv .i64, [.tmp 35], some (28, true), false, 22, 3702783⟩, ⟨some 37, .bin .mul, [.val (.int .i64 7), .tmp 36], some (28, true), false, 23, 7897087⟩, ⟨some 38, .bin .add, [.val (.int .i64 85), .tmp 37], some (28, true), false, 24, 16285695⟩, ⟨some 39, .move, [.tmp 0], some (28, true), false, 25, 32767⟩, ⟨some 40, .idxSl 1, [.tmp 39, .val (.int .i64 1)], some (28, true), false, 26, 33587199⟩, ⟨some 41, .load none, [.tmp 40], some (28, true), false, 27, 100696063⟩, ⟨some 42, .conv .i64, [.tmp 41], some (28, true), false, 28, 234913791⟩, ⟨some 43, .bin .mul, [.val (.int .i64 31), .tmp 42], some (28, true), false, 29, 503349247⟩, ⟨some 44, .bin .add, [.tmp 38, .tmp 43], some (28, true), false, 30, 1073250303⟩, ⟨some 45, .move, [.tmp 0], some (28, true), false, 31, 32767⟩, ⟨some 46, .idxSl 1, [.tmp 45, .val (.int .i64 2)], some (28, true), false, 32, 2147516415⟩, ⟨some 47, .load none, [.tmp 46], some (28, true), false, 33, 6442483711⟩, ⟨some 48, .conv .i64, [.tmp 47], some (28, true), false, 34, 15032418303⟩, ⟨some 49, .bin .mul, [.val (.int .i64 101), .tmp 48], some (28, true), false, 35, 32212287487⟩, ⟨some 50, .bin .add, [.tmp 44, .tmp 49], some (28, true), false, 36, 68718985215⟩, ⟨some 51, .bin .rem, [.tmp 50, .val (.int .i64 256)], some (28, true), false, 37, 137438461951⟩]), (.seq, [⟨some 52, .bin .eql, [.tmp 32, .tmp 51], some (28, true), true, 38, 274877906943⟩]), (.seq, [⟨some 53, .pick, [.tmp 28, .tmp 52, .val (.bool false)], none, true, 39, 549755813887⟩]), (.seq, [⟨some 2, .move, [.tmp 53], none, true, 40, 1099511627775⟩])]
def F10o2 : IC := .ops F10p2
def F10b : IC := .seq (F10o0) (.seq (F10o1) (.seq (F10o2) (.ret)))
def F10 : IFn := ⟨54, [(2, none)], F10b⟩
/- 11: gansey/journals.Read -/
def F11p0 : OPS := [(.seq, [⟨some 2, .move, [.val (.nilSlice)], none, true, 0, 0⟩, ⟨some 3, .move, [.val (.int .i64 0)], none, true, 0, 0⟩])]
def F11o0 : IC := .ops F11p0
def F11p1 : OPS := [(.seq, [⟨some 5, .move, [.tmp 0], none, true, 0, 0⟩, ⟨some 6, .call, [.val (.fn 33 [] []), .tmp 5], none, true, 0, 0⟩, ⟨some 7, .call, [.val (.fn 32 [] []), .tmp 6], none, true, 0, 0⟩, ⟨some 4, .move, [.tmp 7], none, true, 0, 0⟩])]
def F11o1 : IC := .ops F11p1
def F11p2 : OPS := [(.seq, [⟨some 8, .move, [.tmp 4], none, true, 0, 0⟩, ⟨some 9, .call, [.val (.fn 34 [] []), .tmp 8], none, true, 0, 0⟩, ⟨some 10, .move, [.tmp 4], none, true, 0, 0⟩, ⟨some 11, .lenSl, [.tmp 10], none, true, 0, 0⟩, ⟨some 12, .bin .mul, [.val (.int .i64 4), .tmp 11], none, true, 0, 0⟩, ⟨some 2, .move, [.tmp 9], none, true, 0, 0⟩, ⟨some 3, .move, [.tmp 12], none, true, 0, 0⟩])]
def F11o2 : IC := .ops F11p2
def F11b : IC := .seq (F11o0) (.seq (F11o1) (.seq (F11o2) (.ret)))
def F11 : IFn := ⟨13, [(2, none), (3, none)], F11b⟩
/- 30: gansey/journals.Resume -/
noncomputable def F30 : IFn := (compF Go.Proofs.Tryz.prog 30).getD ⟨0, [], .skip⟩
/- 31: gansey/journals.write -/
def F31p0 : OPS := [(.seq, [⟨some 6, .move, [.val (.nilSlice)], none, true, 0, 0⟩, ⟨some 7, .move, [.val (.int .i64 0)], none, true, 0, 0⟩])]
def F31o0 : IC := .ops F31p0
def F31p1 : OPS := [(.seq, [⟨some 12, .move, [.tmp 2], none, true, 0, 0⟩, ⟨some 13, .bin .lss, [.tmp 12, .val (.int .i64 0)], none, true, 0, 0⟩, ⟨some 14, .move, [.tmp 13], none, true, 0, 0⟩, ⟨some 15, .move, [.tmp 2], some (14, false), true, 0, 0⟩, ⟨some 16, .bin .geq, [.tmp 15, .val (.int .i64 4096)], some (14, false), true, 0, 0⟩, ⟨some 17, .pick, [.tmp 14, .val (.bool true), .tmp 16], none, true, 0, 0⟩])]
def F31o1 : IC := .ops F31p1
def F31p2 : OPS := [(.seq, [⟨some 6, .move, [.val (.nilSlice)], none, true, 0, 0⟩, ⟨some 7, .move, [.val (.int .i64 1)], none, true, 0, 0⟩])]
def F31o2 : IC := .ops F31p2
def F31p3 : OPS := [(.seq, [⟨some 8, .alloc 3 1 [.int .i64 0], [], none, true, 0, 0⟩, ⟨none, .store 1, [.tmp 8, .val (.int .i64 0)], none, true, 0, 0⟩])]
def F31o3 : IC := .ops F31p3
def F31p4 : OPS := [(.seq, [⟨some 18, .move, [.tmp 0], none, true, 0, 0⟩, ⟨some 19, .call, [.val (.fn 33 [] []), .tmp 18], none, true, 0, 0⟩])]
def F31o4 : IC := .ops F31p4
def F31p5 : OPS := [(.seq, [⟨some 21, .load none, [.tmp 8], none, true, 0, 0⟩, ⟨some 22, .bin .add, [.tmp 21, .val (.int .i64 4)], none, true, 0, 0⟩, ⟨none, .store 1, [.tmp 8, .tmp 22], none, true, 0, 0⟩])]
def F31o5 : IC := .ops F31p5
def F31p6 : OPS := [(.seq, [⟨some 23, .move, [.tmp 2], none, true, 0, 0⟩, ⟨some 24, .bin .and, [.tmp 23, .val (.int .i64 255)], none, true, 0, 0⟩, ⟨some 25, .conv .u8, [.tmp 24], none, true, 0, 0⟩, ⟨some 26, .move, [.tmp 2], none, true, 0, 0⟩, ⟨some 27, .bin .shr, [.tmp 26, .val (.int .u64 8)], none, true, 0, 0⟩, ⟨some 28, .conv .u8, [.tmp 27], none, true, 0, 0⟩, ⟨some 9, .move, [.tmp 25], none, true, 0, 0⟩, ⟨some 10, .move, [.tmp 28], none, true, 0, 0⟩])]
def F31o6 : IC := .ops F31p6
def F31p7 : OPS := [(.seq, [⟨some 29, .load none, [.tmp 8], none, true, 0, 0⟩, ⟨some 30, .bin .add, [.tmp 29, .val (.int .i64 4)], none, true, 0, 0⟩, ⟨some 31, .mksl 5 1 1 [.int .u8 0], [.val (.int .i64 0), .tmp 30], none, true, 0, 0⟩, ⟨some 11, .move, [.tmp 31], none, true, 0, 0⟩])]
def F31o7 : IC := .ops F31p7
def F31p8 : OPS := [(.seq, [⟨some 32, .move, [.tmp 11], none, true, 0, 0⟩, ⟨some 33, .move, [.tmp 0], none, true, 0, 0⟩, ⟨some 34, .load none, [.tmp 8], none, true, 0, 0⟩, ⟨some 35, .slc 1 false true false, [.tmp 33, .tmp 34], none, true, 0, 0⟩, ⟨some 36, .append 5 1 1, [.tmp 32, .tmp 35], none, true, 0, 0⟩, ⟨some 11, .move, [.tmp 36], none, true, 0, 0⟩])]
def F31o8 : IC := .ops F31p8
def F31p9 : OPS := [(.seq, [⟨some 37, .move, [.tmp 11], none, true, 0, 0⟩, ⟨some 38, .move, [.tmp 1], none, true, 0, 0⟩, ⟨some 39, .move, [.tmp 9], none, true, 0, 0⟩, ⟨some 40, .move, [.tmp 10], none, true, 0, 0⟩, ⟨some 41, .move, [.tmp 1], none, true, 0, 0⟩, ⟨some 42, .move, [.tmp 9], none, true, 0, 0⟩, ⟨some 43, .move, [.tmp 10], none, true, 0, 0⟩, ⟨some 44, .call, [.val (.fn 62 [] []), .tmp 41, .tmp 42, .tmp 43], none, true, 0, 0⟩, ⟨some 45, .buildSl 5 1 4 [.int .u8 0, .int .u8 0, .int .u8 0, .int .u8 0] [(0, 1), (1, 1), (2, 1), (3, 1)], [.tmp 38, .tmp 39, .tmp 40, .tmp 44], none, true, 0, 0⟩, ⟨some 46, .append 5 1 1, [.tmp 37, .tmp 45], none, true, 0, 0⟩, ⟨some 6, .move, [.tmp 46], none, true, 0, 0⟩, ⟨some 7, .move, [.val (.int .i64 0)], none, true, 0, 0⟩])]
def F31o9 : IC := .ops F31p9
def F31b : IC := .seq (F31o0) (.seq (.seq (F31o1) (.cond (.tmp 17) (.seq (F31o2) (.ret)) (.skip))) (.seq (F31o3) (.seq (.seq (F31o4) (.block 0 (.rfn (.tmp 19) [20] (.skip) (.block 1 (F31o5))))) (.seq (F31o6) (.seq (F31o7) (.seq (F31o8) (.seq (F31o9) (.ret))))))))
def F31 : IFn := ⟨47, [(6, none), (7, none)], F31b⟩
/- 32: slices.Collect[gansey/journals.Record] -/
def F32p0 : OPS := [(.seq, [⟨some 2, .move, [.val (.nilSlice)], none, true, 0, 0⟩])]
def F32o0 : IC := .ops F32p0
def F32p1 : OPS := [(.seq, [⟨some 3, .move, [.tmp 0], none, true, 0, 0⟩, ⟨some 4, .call, [.val (.fn 63 [] []), .val (.nilSlice), .tmp 3], none, true, 0, 0⟩, ⟨some 2, .move, [.tmp 4], none, true, 0, 0⟩])]
def F32o1 : IC := .ops F32p1
def F32b : IC := .seq (F32o0) (.seq (F32o1) (.ret))
def F32 : IFn := ⟨5, [(2, none)], F32b⟩
/- 33: gansey/journals.records -/
def F33p0 : OPS := [(.seq, [⟨some 1, .box 23 1, [.tmp 0], none, true, 0, 0⟩, ⟨some 2, .move, [.val (.nilFunc)], none, true, 0, 0⟩])]
def F33o0 : IC := .ops F33p0
def F33p1 : OPS := [(.seq, [⟨some 3, .mkfn 64 0, [.tmp 1], none, true, 0, 0⟩, ⟨some 2, .move, [.tmp 3], none, true, 0, 0⟩])]
def F33o1 : IC := .ops F33p1
def F33b : IC := .seq (F33o0) (.seq (F33o1) (.ret))
def F33 : IFn := ⟨4, [(2, none)], F33b⟩
/- 34: slices.Clip[[]gansey/journals.Record,gansey/journals.Record] -/
def F34p0 : OPS := [(.seq, [⟨some 2, .move, [.val (.nilSlice)], none, true, 0, 0⟩])]
def F34o0 : IC := .ops F34p0
def F34p1 : OPS := [(.seq, [⟨some 3, .move, [.tmp 0], none, true, 0, 0⟩, ⟨some 4, .move, [.tmp 0], none, true, 0, 0⟩, ⟨some 5, .lenSl, [.tmp 4], none, true, 0, 0⟩, ⟨some 6, .move, [.tmp 0], none, true, 0, 0⟩, ⟨some 7, .lenSl, [.tmp 6], none, true, 0, 0⟩, ⟨some 8, .slc 2 false true true, [.tmp 3, .tmp 5, .tmp 7], none, true, 0, 0⟩, ⟨some 2, .move, [.tmp 8], none, true, 0, 0⟩])]
def F34o1 : IC := .ops F34p1
def F34b : IC := .seq (F34o0) (.seq (F34o1) (.ret))
def F34 : IFn := ⟨9, [(2, none)], F34b⟩
/- 50: gansey/journals.Look -/
noncomputable def F50 : IFn := (compF Go.Proofs.Tryz.prog 50).getD ⟨0, [], .skip⟩
/- 55: gansey/machines.Run -/
noncomputable def F55 : IFn := (compF Go.Proofs.Tryz.prog 55).getD ⟨0, [], .skip⟩
/- 56: gansey/machines.Start -/
noncomputable def F56 : IFn := (compF Go.Proofs.Tryz.prog 56).getD ⟨0, [], .skip⟩
/- 60: gansey/journals.around -/
noncomputable def F60 : IFn := (compF Go.Proofs.Tryz.prog 60).getD ⟨0, [], .skip⟩
/- 61: gansey/journals.between -/
noncomputable def F61 : IFn := (compF Go.Proofs.Tryz.prog 61).getD ⟨0, [], .skip⟩
/- 62: gansey/journals.check -/
def F62p0 : OPS := [(.seq, [⟨some 6, .move, [.val (.int .u8 0)], none, true, 0, 0⟩])]
def F62o0 : IC := .ops F62p0
def F62p1 : OPS := [(.seq, [⟨some 7, .move, [.tmp 0], none, true, 0, 0⟩, ⟨some 8, .bin .mul, [.val (.int .u8 7), .tmp 7], none, true, 0, 0⟩, ⟨some 9, .bin .add, [.val (.int .u8 85), .tmp 8], none, true, 0, 0⟩, ⟨some 10, .move, [.tmp 1], none, true, 0, 0⟩, ⟨some 11, .bin .mul, [.val (.int .u8 31), .tmp 10], none, true, 0, 0⟩, ⟨some 12, .bin .add, [.tmp 9, .tmp 11], none, true, 0, 0⟩, ⟨some 13, .move, [.tmp 2], none, true, 0, 0⟩, ⟨some 14, .bin .mul, [.val (.int .u8 101), .tmp 13], none, true, 0, 0⟩, ⟨some 15, .bin .add, [.tmp 12, .tmp 14], none, true, 0, 0⟩, ⟨some 6, .move, [.tmp 15], none, true, 0, 0⟩])]
def F62o1 : IC := .ops F62p1
def F62b : IC := .seq (F62o0) (.seq (F62o1) (.ret))
def F62 : IFn := ⟨16, [(6, none)], F62b⟩
/- 63: slices.AppendSeq[[]gansey/journals.Record,gansey/journals.Record] -/
def F63p0 : OPS := [(.seq, [⟨some 2, .box 30 1, [.tmp 0], none, true, 0, 0⟩, ⟨some 4, .move, [.val (.nilSlice)], none, true, 0, 0⟩])]
def F63o0 : IC := .ops F63p0
def F63p1 : OPS := [(.seq, [⟨some 6, .move, [.tmp 1], none, true, 0, 0⟩])]
def F63o1 : IC := .ops F63p1
def F63p2 : OPS := [(.seq, [⟨some 5, .alloc 34 2 [.bool false, .int .i64 0], [], none, true, 0, 0⟩, ⟨none, .store 2, [.tmp 5, .tmp 7], none, true, 0, 0⟩])]
def F63o2 : IC := .ops F63p2
def F63p3 : OPS := [(.seq, [⟨some 8, .load none, [.tmp 2], none, true, 0, 0⟩, ⟨some 9, .load (some 2), [.tmp 5], none, true, 0, 0⟩, ⟨some 10, .buildSl 34 2 1 [.bool false, .int .i64 0] [(0, 2)], [.tmp 9], none, true, 0, 0⟩, ⟨some 11, .append 34 2 16, [.tmp 8, .tmp 10], none, true, 0, 0⟩, ⟨none, .store 1, [.tmp 2, .tmp 11], none, true, 0, 0⟩])]
def F63o3 : IC := .ops F63p3
def F63p4 : OPS := [(.seq, [⟨some 12, .load none, [.tmp 2], none, true, 0, 0⟩, ⟨some 4, .move, [.tmp 12], none, true, 0, 0⟩])]
def F63o4 : IC := .ops F63p4
def F63b : IC := .seq (F63o0) (.seq (.seq (F63o1) (.block 0 (.rfn (.tmp 6) [7] (F63o2) (.block 1 (F63o3))))) (.seq (F63o4) (.ret)))
def F63 : IFn := ⟨13, [(4, none)], F63b⟩
/- 64: gansey/journals.records$1 -/
def F64p0 : OPS := [(.seq, [⟨some 4, .load none, [.tmp 1], none, true, 0, 0⟩, ⟨some 5, .lenSl, [.tmp 4], none, true, 0, 0⟩, ⟨some 6, .bin .geq, [.tmp 5, .val (.int .i64 4)], none, true, 0, 0⟩])]
def F64o0 : IC := .ops F64p0
def F64p1 : OPS := [(.free, [⟨some 9, .load none, [.tmp 1], none, false, 0, 0⟩, ⟨some 10, .idxSl 1, [.tmp 9, .val (.int .i64 0)], none, false, 1, 1⟩, ⟨some 11, .load none, [.tmp 10], none, false, 2, 3⟩, ⟨some 12, .bin .eql, [.tmp 11, .val (.int .u8 2)], none, false, 3, 7⟩, ⟨some 13, .load none, [.tmp 1], none, false, 4, 0⟩, ⟨some 14, .idxSl 1, [.tmp 13, .val (.int .i64 1)], none, false, 5, 16⟩, ⟨some 15, .load none, [.tmp 14], none, false, 6, 48⟩, ⟨some 16, .conv .i64, [.tmp 15], none, false, 7, 112⟩, ⟨some 17, .load none, [.tmp 1], none, false, 8, 0⟩, ⟨some 18, .idxSl 1, [.tmp 17, .val (.int .i64 2)], none, false, 9, 256⟩, ⟨some 19, .load none, [.tmp 18], none, false, 10, 768⟩, ⟨some 20, .conv .i64, [.tmp 19], none, false, 11, 1792⟩, ⟨some 21, .bin .shl, [.tmp 20, .val (.int .u64 8)], none, false, 12, 3840⟩, ⟨some 22, .bin .add, [.tmp 16, .tmp 21], none, false, 13, 8176⟩, ⟨some 23, .build [.bool false, .int .i64 0] [(0, 1), (1, 1)], [.tmp 12, .tmp 22], none, false, 14, 16383⟩, ⟨some 3, .alloc 34 2 [.bool false, .int .i64 0], [], none, false, 15, 0⟩]), (.seq, [⟨none, .store 2, [.tmp 3, .tmp 23], none, true, 16, 65535⟩])]
def F64o1 : IC := .ops F64p1
def F64p2 : OPS := [(.seq, [⟨some 24, .load none, [.tmp 1], none, true, 0, 0⟩]), (.seq, [⟨some 25, .idxSl 1, [.tmp 24, .val (.int .i64 0)], none, true, 1, 1⟩]), (.seq, [⟨some 26, .load none, [.tmp 25], none, true, 2, 3⟩]), (.seq, [⟨some 27, .bin .neq, [.tmp 26, .val (.int .u8 1)], none, true, 3, 7⟩]), (.seq, [⟨some 28, .move, [.tmp 27], none, true, 4, 15⟩]), (.seq, [⟨some 29, .load none, [.tmp 1], some (28, true), true, 5, 31⟩]), (.seq, [⟨some 30, .idxSl 1, [.tmp 29, .val (.int .i64 0)], some (28, true), true, 6, 63⟩]), (.seq, [⟨some 31, .load none, [.tmp 30], some (28, true), true, 7, 127⟩]), (.seq, [⟨some 32, .bin .neq, [.tmp 31, .val (.int .u8 2)], some (28, true), true, 8, 255⟩]), (.seq, [⟨some 33, .pick, [.tmp 28, .tmp 32, .val (.bool false)], none, true, 9, 511⟩]), (.seq, [⟨some 34, .move, [.tmp 33], none, true, 10, 1023⟩]), (.seq, [⟨some 35, .fieldAddr 1, [.tmp 3], some (34, false), true, 11, 2047⟩]), (.seq, [⟨some 36, .load none, [.tmp 35], some (34, false), true, 12, 4095⟩]), (.seq, [⟨some 37, .bin .geq, [.tmp 36, .val (.int .i64 4096)], some (34, false), true, 13, 8191⟩]), (.seq, [⟨some 38, .pick, [.tmp 34, .val (.bool true), .tmp 37], none, true, 14, 16383⟩]), (.seq, [⟨some 39, .move, [.tmp 38], none, true, 15, 32767⟩]), (.free, [⟨some 40, .load none, [.tmp 1], some (39, false), false, 16, 65535⟩, ⟨some 41, .idxSl 1, [.tmp 40, .val (.int .i64 3)], some (39, false), false, 17, 131071⟩, ⟨some 42, .load none, [.tmp 41], some (39, false), false, 18, 262143⟩, ⟨some 43, .load none, [.tmp 1], some (39, false), false, 19, 65535⟩, ⟨some 44, .idxSl 1, [.tmp 43, .val (.int .i64 0)], some (39, false), false, 20, 589823⟩, ⟨some 45, .load none, [.tmp 44], some (39, false), false, 21, 1638399⟩, ⟨some 46, .load none, [.tmp 1], some (39, false), false, 22, 65535⟩, ⟨some 47, .idxSl 1, [.tmp 46, .val (.int .i64 1)], some (39, false), false, 23, 4259839⟩, ⟨some 48, .load none, [.tmp 47], some (39, false), false, 24, 12648447⟩, ⟨some 49, .load none, [.tmp 1], some (39, false), false, 25, 65535⟩, ⟨some 50, .idxSl 1, [.tmp 49, .val (.int .i64 2)], some (39, false), false, 26, 33619967⟩, ⟨some 51, .load none, [.tmp 50], some (39, false), false, 27, 100728831⟩, ⟨some 52, .call, [.val (.fn 62 [] []), .tmp 45, .tmp 48, .tmp 51], some (39, false), false, 28, 267976703⟩]), (.seq, [⟨some 53, .bin .neq, [.tmp 42, .tmp 52], some (39, false), true, 29, 536870911⟩]), (.seq, [⟨some 54, .pick, [.tmp 39, .val (.bool true), .tmp 53], none, true, 30, 1073741823⟩])]
def F64o2 : IC := .ops F64p2
def F64p3 : OPS := [(.seq, [⟨some 55, .move, [.tmp 0], none, true, 0, 0⟩, ⟨some 56, .load (some 2), [.tmp 3], none, true, 0, 0⟩, ⟨some 57, .call, [.tmp 55, .tmp 56], none, true, 0, 0⟩, ⟨some 58, .un .not, [.tmp 57], none, true, 0, 0⟩])]
def F64o3 : IC := .ops F64p3
def F64p4 : OPS := [(.seq, [⟨some 7, .load none, [.tmp 1], none, true, 0, 0⟩, ⟨some 8, .slc 1 true false false, [.tmp 7, .val (.int .i64 4)], none, true, 0, 0⟩, ⟨none, .store 1, [.tmp 1, .tmp 8], none, true, 0, 0⟩])]
def F64o4 : IC := .ops F64p4
def F64l5 : IC := .seq (.seq (F64o0) (.cond (.tmp 6) (.skip) (.exit 0))) (.seq (.block 1 (.seq (F64o1) (.seq (.seq (F64o2) (.cond (.tmp 54) (.ret) (.skip))) (.seq (F64o3) (.cond (.tmp 58) (.ret) (.skip)))))) (F64o4))
def F64b : IC := .block 0 (.loop F64l5)
def F64 : IFn := ⟨59, [], F64b⟩
/- 67: gansey/needles.Spot -/
noncomputable def F67 : IFn := (compF Go.Proofs.Tryz.prog 67).getD ⟨0, [], .skip⟩
/- 69: slices.Equal[[]gansey/api.Id,gansey/api.Id] -/
noncomputable def F69 : IFn := (compF Go.Proofs.Tryz.prog 69).getD ⟨0, [], .skip⟩
/- 78: gansey/machines.Check -/
noncomputable def F78 : IFn := (compF Go.Proofs.Tryz.prog 78).getD ⟨0, [], .skip⟩
/- 79: gansey/machines.open -/
noncomputable def F79 : IFn := (compF Go.Proofs.Tryz.prog 79).getD ⟨0, [], .skip⟩
/- 80: gansey/machines.actions -/
noncomputable def F80 : IFn := (compF Go.Proofs.Tryz.prog 80).getD ⟨0, [], .skip⟩
/- 81: (*gansey/machines.machine).do -/
noncomputable def F81 : IFn := (compF Go.Proofs.Tryz.prog 81).getD ⟨0, [], .skip⟩
/- 82: (*gansey/machines.machine).state -/
noncomputable def F82 : IFn := (compF Go.Proofs.Tryz.prog 82).getD ⟨0, [], .skip⟩
/- 83: gansey/fabrics.Empty -/
noncomputable def F83 : IFn := (compF Go.Proofs.Tryz.prog 83).getD ⟨0, [], .skip⟩
/- 84: gansey/machines.Step -/
noncomputable def F84 : IFn := (compF Go.Proofs.Tryz.prog 84).getD ⟨0, [], .skip⟩
/- 88: gansey/needles.Check -/
noncomputable def F88 : IFn := (compF Go.Proofs.Tryz.prog 88).getD ⟨0, [], .skip⟩
/- 89: gansey/needles.racked -/
noncomputable def F89 : IFn := (compF Go.Proofs.Tryz.prog 89).getD ⟨0, [], .skip⟩
/- 90: gansey/stacks.Check -/
noncomputable def F90 : IFn := (compF Go.Proofs.Tryz.prog 90).getD ⟨0, [], .skip⟩
/- 91: gansey/yarns.Check -/
noncomputable def F91 : IFn := (compF Go.Proofs.Tryz.prog 91).getD ⟨0, [], .skip⟩
/- 92: gansey/fabrics.Check -/
noncomputable def F92 : IFn := (compF Go.Proofs.Tryz.prog 92).getD ⟨0, [], .skip⟩
/- 93: gansey/machines.held -/
noncomputable def F93 : IFn := (compF Go.Proofs.Tryz.prog 93).getD ⟨0, [], .skip⟩
/- 94: gansey/machines.copyBed -/
noncomputable def F94 : IFn := (compF Go.Proofs.Tryz.prog 94).getD ⟨0, [], .skip⟩
/- 95: gansey/machines.copyYarns -/
noncomputable def F95 : IFn := (compF Go.Proofs.Tryz.prog 95).getD ⟨0, [], .skip⟩
/- 96: gansey/machines.copyTable -/
noncomputable def F96 : IFn := (compF Go.Proofs.Tryz.prog 96).getD ⟨0, [], .skip⟩
/- 97: gansey/machines.copied[gansey/api.Id] -/
noncomputable def F97 : IFn := (compF Go.Proofs.Tryz.prog 97).getD ⟨0, [], .skip⟩
/- 98: (*gansey/machines.machine).in -/
noncomputable def F98 : IFn := (compF Go.Proofs.Tryz.prog 98).getD ⟨0, [], .skip⟩
/- 99: (*gansey/machines.machine).out -/
noncomputable def F99 : IFn := (compF Go.Proofs.Tryz.prog 99).getD ⟨0, [], .skip⟩
/- 100: (*gansey/machines.machine).moveTo -/
noncomputable def F100 : IFn := (compF Go.Proofs.Tryz.prog 100).getD ⟨0, [], .skip⟩
/- 101: (*gansey/machines.machine).knit -/
noncomputable def F101 : IFn := (compF Go.Proofs.Tryz.prog 101).getD ⟨0, [], .skip⟩
/- 102: (*gansey/machines.machine).tuck -/
noncomputable def F102 : IFn := (compF Go.Proofs.Tryz.prog 102).getD ⟨0, [], .skip⟩
/- 103: (*gansey/machines.machine).miss -/
noncomputable def F103 : IFn := (compF Go.Proofs.Tryz.prog 103).getD ⟨0, [], .skip⟩
/- 104: (*gansey/machines.machine).xfer -/
noncomputable def F104 : IFn := (compF Go.Proofs.Tryz.prog 104).getD ⟨0, [], .skip⟩
/- 105: (*gansey/machines.machine).drop -/
noncomputable def F105 : IFn := (compF Go.Proofs.Tryz.prog 105).getD ⟨0, [], .skip⟩
/- 106: gansey/operations.Check -/
noncomputable def F106 : IFn := (compF Go.Proofs.Tryz.prog 106).getD ⟨0, [], .skip⟩
/- 107: slices.SortFunc[[]gansey/fabrics.Crossing,gansey/fabrics.Crossing] -/
noncomputable def F107 : IFn := (compF Go.Proofs.Tryz.prog 107).getD ⟨0, [], .skip⟩
/- 108: (*gansey/machines.machine).state$1 -/
noncomputable def F108 : IFn := (compF Go.Proofs.Tryz.prog 108).getD ⟨0, [], .skip⟩
/- 109: gansey/fabrics.Compare -/
noncomputable def F109 : IFn := (compF Go.Proofs.Tryz.prog 109).getD ⟨0, [], .skip⟩
/- 110: gansey/machines.copied[gansey/loops.Loop] -/
noncomputable def F110 : IFn := (compF Go.Proofs.Tryz.prog 110).getD ⟨0, [], .skip⟩
/- 111: slices.SortFunc[[]gansey/api.Id,gansey/api.Id] -/
noncomputable def F111 : IFn := (compF Go.Proofs.Tryz.prog 111).getD ⟨0, [], .skip⟩
/- 112: gansey/machines.copied[gansey/fabrics.Crossing] -/
noncomputable def F112 : IFn := (compF Go.Proofs.Tryz.prog 112).getD ⟨0, [], .skip⟩
/- 113: gansey/loops.Empty -/
noncomputable def F113 : IFn := (compF Go.Proofs.Tryz.prog 113).getD ⟨0, [], .skip⟩
/- 116: gansey/stacks.beds -/
noncomputable def F116 : IFn := (compF Go.Proofs.Tryz.prog 116).getD ⟨0, [], .skip⟩
/- 117: gansey/yarns.Named -/
noncomputable def F117 : IFn := (compF Go.Proofs.Tryz.prog 117).getD ⟨0, [], .skip⟩
/- 118: gansey/stacks.Count -/
noncomputable def F118 : IFn := (compF Go.Proofs.Tryz.prog 118).getD ⟨0, [], .skip⟩
/- 119: gansey/yarns.isPlace -/
noncomputable def F119 : IFn := (compF Go.Proofs.Tryz.prog 119).getD ⟨0, [], .skip⟩
/- 120: gansey/yarns.valid -/
noncomputable def F120 : IFn := (compF Go.Proofs.Tryz.prog 120).getD ⟨0, [], .skip⟩
/- 121: gansey/yarns.cancel -/
noncomputable def F121 : IFn := (compF Go.Proofs.Tryz.prog 121).getD ⟨0, [], .skip⟩
/- 122: gansey/loops.Check -/
noncomputable def F122 : IFn := (compF Go.Proofs.Tryz.prog 122).getD ⟨0, [], .skip⟩
/- 123: gansey/fabrics.checkCrossings -/
noncomputable def F123 : IFn := (compF Go.Proofs.Tryz.prog 123).getD ⟨0, [], .skip⟩
/- 124: gansey/fabrics.checkPlaces -/
noncomputable def F124 : IFn := (compF Go.Proofs.Tryz.prog 124).getD ⟨0, [], .skip⟩
/- 125: gansey/orders.List -/
noncomputable def F125 : IFn := (compF Go.Proofs.Tryz.prog 125).getD ⟨0, [], .skip⟩
/- 126: gansey/machines.copied[gansey/yarns.Yarn] -/
noncomputable def F126 : IFn := (compF Go.Proofs.Tryz.prog 126).getD ⟨0, [], .skip⟩
/- 127: gansey/machines.copied[gansey/yarns.Pass] -/
noncomputable def F127 : IFn := (compF Go.Proofs.Tryz.prog 127).getD ⟨0, [], .skip⟩
/- 128: gansey/yarns.Enter -/
noncomputable def F128 : IFn := (compF Go.Proofs.Tryz.prog 128).getD ⟨0, [], .skip⟩
/- 129: gansey/yarns.Leave -/
noncomputable def F129 : IFn := (compF Go.Proofs.Tryz.prog 129).getD ⟨0, [], .skip⟩
/- 130: (*gansey/machines.machine).step -/
noncomputable def F130 : IFn := (compF Go.Proofs.Tryz.prog 130).getD ⟨0, [], .skip⟩
/- 131: (*gansey/machines.machine).behind -/
noncomputable def F131 : IFn := (compF Go.Proofs.Tryz.prog 131).getD ⟨0, [], .skip⟩
/- 132: (*gansey/machines.machine).carry -/
noncomputable def F132 : IFn := (compF Go.Proofs.Tryz.prog 132).getD ⟨0, [], .skip⟩
/- 133: (*gansey/machines.machine).make -/
noncomputable def F133 : IFn := (compF Go.Proofs.Tryz.prog 133).getD ⟨0, [], .skip⟩
/- 134: gansey/stacks.At -/
noncomputable def F134 : IFn := (compF Go.Proofs.Tryz.prog 134).getD ⟨0, [], .skip⟩
/- 135: gansey/needles.Opposite -/
noncomputable def F135 : IFn := (compF Go.Proofs.Tryz.prog 135).getD ⟨0, [], .skip⟩
/- 136: gansey/stacks.Join -/
noncomputable def F136 : IFn := (compF Go.Proofs.Tryz.prog 136).getD ⟨0, [], .skip⟩
/- 137: gansey/stacks.Set -/
noncomputable def F137 : IFn := (compF Go.Proofs.Tryz.prog 137).getD ⟨0, [], .skip⟩
/- 138: gansey/operations.plain -/
noncomputable def F138 : IFn := (compF Go.Proofs.Tryz.prog 138).getD ⟨0, [], .skip⟩
/- 139: slices.pdqsortCmpFunc[gansey/fabrics.Crossing] -/
noncomputable def F139 : IFn := (compF Go.Proofs.Tryz.prog 139).getD ⟨0, [], .skip⟩
/- 140: math/bits.Len -/
noncomputable def F140 : IFn := (compF Go.Proofs.Tryz.prog 140).getD ⟨0, [], .skip⟩
/- 141: cmp.Or[int] -/
noncomputable def F141 : IFn := (compF Go.Proofs.Tryz.prog 141).getD ⟨0, [], .skip⟩
/- 142: cmp.Compare[uint8] -/
noncomputable def F142 : IFn := (compF Go.Proofs.Tryz.prog 142).getD ⟨0, [], .skip⟩
/- 143: cmp.Compare[int] -/
noncomputable def F143 : IFn := (compF Go.Proofs.Tryz.prog 143).getD ⟨0, [], .skip⟩
/- 144: slices.pdqsortCmpFunc[gansey/api.Id] -/
noncomputable def F144 : IFn := (compF Go.Proofs.Tryz.prog 144).getD ⟨0, [], .skip⟩
/- 145: gansey/stacks.beds$1 -/
noncomputable def F145 : IFn := (compF Go.Proofs.Tryz.prog 145).getD ⟨0, [], .skip⟩
/- 146: gansey/stacks.needled -/
noncomputable def F146 : IFn := (compF Go.Proofs.Tryz.prog 146).getD ⟨0, [], .skip⟩
/- 147: gansey/yarns.sided -/
noncomputable def F147 : IFn := (compF Go.Proofs.Tryz.prog 147).getD ⟨0, [], .skip⟩
/- 148: gansey/loops.check -/
noncomputable def F148 : IFn := (compF Go.Proofs.Tryz.prog 148).getD ⟨0, [], .skip⟩
/- 149: gansey/fabrics.has -/
noncomputable def F149 : IFn := (compF Go.Proofs.Tryz.prog 149).getD ⟨0, [], .skip⟩
/- 150: gansey/fabrics.comparePairs -/
noncomputable def F150 : IFn := (compF Go.Proofs.Tryz.prog 150).getD ⟨0, [], .skip⟩
/- 151: gansey/fabrics.checkPlaces$1 -/
noncomputable def F151 : IFn := (compF Go.Proofs.Tryz.prog 151).getD ⟨0, [], .skip⟩
/- 152: gansey/orders.check -/
noncomputable def F152 : IFn := (compF Go.Proofs.Tryz.prog 152).getD ⟨0, [], .skip⟩
/- 153: gansey/orders.List$1 -/
noncomputable def F153 : IFn := (compF Go.Proofs.Tryz.prog 153).getD ⟨0, [], .skip⟩
/- 154: slices.SortStableFunc[[]gansey/orders.Held,gansey/orders.Held] -/
noncomputable def F154 : IFn := (compF Go.Proofs.Tryz.prog 154).getD ⟨0, [], .skip⟩
/- 155: gansey/orders.List$2 -/
noncomputable def F155 : IFn := (compF Go.Proofs.Tryz.prog 155).getD ⟨0, [], .skip⟩
/- 156: gansey/orders.copied[gansey/orders.Held] -/
noncomputable def F156 : IFn := (compF Go.Proofs.Tryz.prog 156).getD ⟨0, [], .skip⟩
/- 157: gansey/orders.Meets -/
noncomputable def F157 : IFn := (compF Go.Proofs.Tryz.prog 157).getD ⟨0, [], .skip⟩
/- 158: gansey/yarns.Go -/
noncomputable def F158 : IFn := (compF Go.Proofs.Tryz.prog 158).getD ⟨0, [], .skip⟩
/- 159: gansey/orders.Step -/
noncomputable def F159 : IFn := (compF Go.Proofs.Tryz.prog 159).getD ⟨0, [], .skip⟩
/- 160: (*gansey/machines.machine).add -/
noncomputable def F160 : IFn := (compF Go.Proofs.Tryz.prog 160).getD ⟨0, [], .skip⟩
/- 161: gansey/orders.Between -/
noncomputable def F161 : IFn := (compF Go.Proofs.Tryz.prog 161).getD ⟨0, [], .skip⟩
/- 162: gansey/yarns.Make -/
noncomputable def F162 : IFn := (compF Go.Proofs.Tryz.prog 162).getD ⟨0, [], .skip⟩
/- 163: gansey/loops.Count -/
noncomputable def F163 : IFn := (compF Go.Proofs.Tryz.prog 163).getD ⟨0, [], .skip⟩
/- 164: gansey/stacks.copied[gansey/api.Id] -/
noncomputable def F164 : IFn := (compF Go.Proofs.Tryz.prog 164).getD ⟨0, [], .skip⟩
/- 165: gansey/stacks.placed -/
noncomputable def F165 : IFn := (compF Go.Proofs.Tryz.prog 165).getD ⟨0, [], .skip⟩
/- 166: gansey/operations.uses -/
noncomputable def F166 : IFn := (compF Go.Proofs.Tryz.prog 166).getD ⟨0, [], .skip⟩
/- 167: slices.insertionSortCmpFunc[gansey/fabrics.Crossing] -/
noncomputable def F167 : IFn := (compF Go.Proofs.Tryz.prog 167).getD ⟨0, [], .skip⟩
/- 168: slices.heapSortCmpFunc[gansey/fabrics.Crossing] -/
noncomputable def F168 : IFn := (compF Go.Proofs.Tryz.prog 168).getD ⟨0, [], .skip⟩
/- 169: slices.breakPatternsCmpFunc[gansey/fabrics.Crossing] -/
noncomputable def F169 : IFn := (compF Go.Proofs.Tryz.prog 169).getD ⟨0, [], .skip⟩
/- 170: slices.choosePivotCmpFunc[gansey/fabrics.Crossing] -/
noncomputable def F170 : IFn := (compF Go.Proofs.Tryz.prog 170).getD ⟨0, [], .skip⟩
/- 171: slices.reverseRangeCmpFunc[gansey/fabrics.Crossing] -/
noncomputable def F171 : IFn := (compF Go.Proofs.Tryz.prog 171).getD ⟨0, [], .skip⟩
/- 172: slices.partialInsertionSortCmpFunc[gansey/fabrics.Crossing] -/
noncomputable def F172 : IFn := (compF Go.Proofs.Tryz.prog 172).getD ⟨0, [], .skip⟩
/- 173: slices.partitionEqualCmpFunc[gansey/fabrics.Crossing] -/
noncomputable def F173 : IFn := (compF Go.Proofs.Tryz.prog 173).getD ⟨0, [], .skip⟩
/- 174: slices.partitionCmpFunc[gansey/fabrics.Crossing] -/
noncomputable def F174 : IFn := (compF Go.Proofs.Tryz.prog 174).getD ⟨0, [], .skip⟩
/- 175: math/bits.Len32 -/
noncomputable def F175 : IFn := (compF Go.Proofs.Tryz.prog 175).getD ⟨0, [], .skip⟩
/- 176: math/bits.Len64 -/
noncomputable def F176 : IFn := (compF Go.Proofs.Tryz.prog 176).getD ⟨0, [], .skip⟩
/- 177: cmp.isNaN[uint8] -/
noncomputable def F177 : IFn := (compF Go.Proofs.Tryz.prog 177).getD ⟨0, [], .skip⟩
/- 178: cmp.isNaN[int] -/
noncomputable def F178 : IFn := (compF Go.Proofs.Tryz.prog 178).getD ⟨0, [], .skip⟩
/- 179: slices.insertionSortCmpFunc[gansey/api.Id] -/
noncomputable def F179 : IFn := (compF Go.Proofs.Tryz.prog 179).getD ⟨0, [], .skip⟩
/- 180: slices.heapSortCmpFunc[gansey/api.Id] -/
noncomputable def F180 : IFn := (compF Go.Proofs.Tryz.prog 180).getD ⟨0, [], .skip⟩
/- 181: slices.breakPatternsCmpFunc[gansey/api.Id] -/
noncomputable def F181 : IFn := (compF Go.Proofs.Tryz.prog 181).getD ⟨0, [], .skip⟩
/- 182: slices.choosePivotCmpFunc[gansey/api.Id] -/
noncomputable def F182 : IFn := (compF Go.Proofs.Tryz.prog 182).getD ⟨0, [], .skip⟩
/- 183: slices.reverseRangeCmpFunc[gansey/api.Id] -/
noncomputable def F183 : IFn := (compF Go.Proofs.Tryz.prog 183).getD ⟨0, [], .skip⟩
/- 184: slices.partialInsertionSortCmpFunc[gansey/api.Id] -/
noncomputable def F184 : IFn := (compF Go.Proofs.Tryz.prog 184).getD ⟨0, [], .skip⟩
/- 185: slices.partitionEqualCmpFunc[gansey/api.Id] -/
noncomputable def F185 : IFn := (compF Go.Proofs.Tryz.prog 185).getD ⟨0, [], .skip⟩
/- 186: slices.partitionCmpFunc[gansey/api.Id] -/
noncomputable def F186 : IFn := (compF Go.Proofs.Tryz.prog 186).getD ⟨0, [], .skip⟩
/- 187: gansey/stacks.needled$1 -/
noncomputable def F187 : IFn := (compF Go.Proofs.Tryz.prog 187).getD ⟨0, [], .skip⟩
/- 188: gansey/loops.checkLoops -/
noncomputable def F188 : IFn := (compF Go.Proofs.Tryz.prog 188).getD ⟨0, [], .skip⟩
/- 189: gansey/loops.checkThrough -/
noncomputable def F189 : IFn := (compF Go.Proofs.Tryz.prog 189).getD ⟨0, [], .skip⟩
/- 190: gansey/loops.first -/
noncomputable def F190 : IFn := (compF Go.Proofs.Tryz.prog 190).getD ⟨0, [], .skip⟩
/- 191: gansey/loops.copied[gansey/api.Id] -/
noncomputable def F191 : IFn := (compF Go.Proofs.Tryz.prog 191).getD ⟨0, [], .skip⟩
/- 192: gansey/orders.racked -/
noncomputable def F192 : IFn := (compF Go.Proofs.Tryz.prog 192).getD ⟨0, [], .skip⟩
/- 193: slices.stableCmpFunc[gansey/orders.Held] -/
noncomputable def F193 : IFn := (compF Go.Proofs.Tryz.prog 193).getD ⟨0, [], .skip⟩
/- 194: gansey/orders.checkStep -/
noncomputable def F194 : IFn := (compF Go.Proofs.Tryz.prog 194).getD ⟨0, [], .skip⟩
/- 195: slices.Reverse[[]gansey/yarns.Pass,gansey/yarns.Pass] -/
noncomputable def F195 : IFn := (compF Go.Proofs.Tryz.prog 195).getD ⟨0, [], .skip⟩
/- 196: gansey/orders.copied[gansey/yarns.Pass] -/
noncomputable def F196 : IFn := (compF Go.Proofs.Tryz.prog 196).getD ⟨0, [], .skip⟩
/- 197: gansey/yarns.push -/
noncomputable def F197 : IFn := (compF Go.Proofs.Tryz.prog 197).getD ⟨0, [], .skip⟩
/- 198: gansey/yarns.copied -/
noncomputable def F198 : IFn := (compF Go.Proofs.Tryz.prog 198).getD ⟨0, [], .skip⟩
/- 199: slices.Reverse[[]gansey/api.Id,gansey/api.Id] -/
noncomputable def F199 : IFn := (compF Go.Proofs.Tryz.prog 199).getD ⟨0, [], .skip⟩
/- 200: slices.Reverse[[]gansey/orders.Cross,gansey/orders.Cross] -/
noncomputable def F200 : IFn := (compF Go.Proofs.Tryz.prog 200).getD ⟨0, [], .skip⟩
/- 201: gansey/orders.copied[gansey/orders.Cross] -/
noncomputable def F201 : IFn := (compF Go.Proofs.Tryz.prog 201).getD ⟨0, [], .skip⟩
/- 202: gansey/stacks.put -/
noncomputable def F202 : IFn := (compF Go.Proofs.Tryz.prog 202).getD ⟨0, [], .skip⟩
/- 203: slices.siftDownCmpFunc[gansey/fabrics.Crossing] -/
noncomputable def F203 : IFn := (compF Go.Proofs.Tryz.prog 203).getD ⟨0, [], .skip⟩
/- 204: slices.nextPowerOfTwo -/
noncomputable def F204 : IFn := (compF Go.Proofs.Tryz.prog 204).getD ⟨0, [], .skip⟩
/- 205: (*slices.xorshift).Next -/
noncomputable def F205 : IFn := (compF Go.Proofs.Tryz.prog 205).getD ⟨0, [], .skip⟩
/- 206: slices.medianAdjacentCmpFunc[gansey/fabrics.Crossing] -/
noncomputable def F206 : IFn := (compF Go.Proofs.Tryz.prog 206).getD ⟨0, [], .skip⟩
/- 207: slices.medianCmpFunc[gansey/fabrics.Crossing] -/
noncomputable def F207 : IFn := (compF Go.Proofs.Tryz.prog 207).getD ⟨0, [], .skip⟩
/- 208: slices.siftDownCmpFunc[gansey/api.Id] -/
noncomputable def F208 : IFn := (compF Go.Proofs.Tryz.prog 208).getD ⟨0, [], .skip⟩
/- 209: slices.medianAdjacentCmpFunc[gansey/api.Id] -/
noncomputable def F209 : IFn := (compF Go.Proofs.Tryz.prog 209).getD ⟨0, [], .skip⟩
/- 210: slices.medianCmpFunc[gansey/api.Id] -/
noncomputable def F210 : IFn := (compF Go.Proofs.Tryz.prog 210).getD ⟨0, [], .skip⟩
/- 211: gansey/loops.right -/
noncomputable def F211 : IFn := (compF Go.Proofs.Tryz.prog 211).getD ⟨0, [], .skip⟩
/- 212: gansey/loops.need -/
noncomputable def F212 : IFn := (compF Go.Proofs.Tryz.prog 212).getD ⟨0, [], .skip⟩
/- 213: slices.insertionSortCmpFunc[gansey/orders.Held] -/
noncomputable def F213 : IFn := (compF Go.Proofs.Tryz.prog 213).getD ⟨0, [], .skip⟩
/- 214: slices.symMergeCmpFunc[gansey/orders.Held] -/
noncomputable def F214 : IFn := (compF Go.Proofs.Tryz.prog 214).getD ⟨0, [], .skip⟩
/- 215: gansey/stacks.copied[[]gansey/api.Id] -/
noncomputable def F215 : IFn := (compF Go.Proofs.Tryz.prog 215).getD ⟨0, [], .skip⟩
/- 216: gansey/stacks.short -/
noncomputable def F216 : IFn := (compF Go.Proofs.Tryz.prog 216).getD ⟨0, [], .skip⟩
/- 217: slices.order2CmpFunc[gansey/fabrics.Crossing] -/
noncomputable def F217 : IFn := (compF Go.Proofs.Tryz.prog 217).getD ⟨0, [], .skip⟩
/- 218: slices.order2CmpFunc[gansey/api.Id] -/
noncomputable def F218 : IFn := (compF Go.Proofs.Tryz.prog 218).getD ⟨0, [], .skip⟩
/- 219: gansey/loops.has -/
noncomputable def F219 : IFn := (compF Go.Proofs.Tryz.prog 219).getD ⟨0, [], .skip⟩
/- 220: gansey/yarns.Reduce -/
noncomputable def F220 : IFn := (compF Go.Proofs.Tryz.prog 220).getD ⟨0, [], .skip⟩
/- 221: slices.rotateCmpFunc[gansey/orders.Held] -/
noncomputable def F221 : IFn := (compF Go.Proofs.Tryz.prog 221).getD ⟨0, [], .skip⟩
/- 222: slices.swapRangeCmpFunc[gansey/orders.Held] -/
noncomputable def F222 : IFn := (compF Go.Proofs.Tryz.prog 222).getD ⟨0, [], .skip⟩

noncomputable def fnT : Tr IFn := .node (none) (.node (none) (.node (some F3) (.node (some F7) (.node (none) (.node (some F31) (.node (some F63) (.node (some F127) (.leaf) (.leaf)) (.node (some F191) (.leaf) (.leaf))) (.node (some F95) (.node (some F159) (.leaf) (.leaf)) (.leaf))) (.node (none) (.node (some F79) (.node (some F143) (.leaf) (.leaf)) (.node (some F207) (.leaf) (.leaf))) (.node (some F111) (.node (some F175) (.leaf) (.leaf)) (.leaf)))) (.node (none) (.node (none) (.node (none) (.node (some F135) (.leaf) (.leaf)) (.node (some F199) (.leaf) (.leaf))) (.node (some F103) (.node (some F167) (.leaf) (.leaf)) (.leaf))) (.node (some F55) (.node (none) (.node (some F151) (.leaf) (.leaf)) (.node (some F215) (.leaf) (.leaf))) (.node (some F119) (.node (some F183) (.leaf) (.leaf)) (.leaf))))) (.node (some F11) (.node (none) (.node (none) (.node (some F67) (.node (some F131) (.leaf) (.leaf)) (.node (some F195) (.leaf) (.leaf))) (.node (some F99) (.node (some F163) (.leaf) (.leaf)) (.leaf))) (.node (none) (.node (some F83) (.node (some F147) (.leaf) (.leaf)) (.node (some F211) (.leaf) (.leaf))) (.node (none) (.node (some F179) (.leaf) (.leaf)) (.leaf)))) (.node (none) (.node (none) (.node (none) (.node (some F139) (.leaf) (.leaf)) (.node (some F203) (.leaf) (.leaf))) (.node (some F107) (.node (some F171) (.leaf) (.leaf)) (.leaf))) (.node (none) (.node (some F91) (.node (some F155) (.leaf) (.leaf)) (.node (some F219) (.leaf) (.leaf))) (.node (some F123) (.node (some F187) (.leaf) (.leaf)) (.leaf)))))) (.node (none) (.node (some F9) (.node (none) (.node (some F33) (.node (none) (.node (some F129) (.leaf) (.leaf)) (.node (some F193) (.leaf) (.leaf))) (.node (some F97) (.node (some F161) (.leaf) (.leaf)) (.leaf))) (.node (none) (.node (some F81) (.node (some F145) (.leaf) (.leaf)) (.node (some F209) (.leaf) (.leaf))) (.node (some F113) (.node (some F177) (.leaf) (.leaf)) (.leaf)))) (.node (none) (.node (none) (.node (none) (.node (some F137) (.leaf) (.leaf)) (.node (some F201) (.leaf) (.leaf))) (.node (some F105) (.node (some F169) (.leaf) (.leaf)) (.leaf))) (.node (none) (.node (some F89) (.node (some F153) (.leaf) (.leaf)) (.node (some F217) (.leaf) (.leaf))) (.node (some F121) (.node (some F185) (.leaf) (.leaf)) (.leaf))))) (.node (none) (.node (none) (.node (none) (.node (some F69) (.node (some F133) (.leaf) (.leaf)) (.node (some F197) (.leaf) (.leaf))) (.node (some F101) (.node (some F165) (.leaf) (.leaf)) (.leaf))) (.node (none) (.node (none) (.node (some F149) (.leaf) (.leaf)) (.node (some F213) (.leaf) (.leaf))) (.node (some F117) (.node (some F181) (.leaf) (.leaf)) (.leaf)))) (.node (none) (.node (none) (.node (none) (.node (some F141) (.leaf) (.leaf)) (.node (some F205) (.leaf) (.leaf))) (.node (some F109) (.node (some F173) (.leaf) (.leaf)) (.leaf))) (.node (some F61) (.node (some F93) (.node (some F157) (.leaf) (.leaf)) (.node (some F221) (.leaf) (.leaf))) (.node (some F125) (.node (some F189) (.leaf) (.leaf)) (.leaf))))))) (.node (none) (.node (none) (.node (some F8) (.node (none) (.node (some F32) (.node (some F64) (.node (some F128) (.leaf) (.leaf)) (.node (some F192) (.leaf) (.leaf))) (.node (some F96) (.node (some F160) (.leaf) (.leaf)) (.leaf))) (.node (none) (.node (some F80) (.node (some F144) (.leaf) (.leaf)) (.node (some F208) (.leaf) (.leaf))) (.node (some F112) (.node (some F176) (.leaf) (.leaf)) (.leaf)))) (.node (none) (.node (none) (.node (none) (.node (some F136) (.leaf) (.leaf)) (.node (some F200) (.leaf) (.leaf))) (.node (some F104) (.node (some F168) (.leaf) (.leaf)) (.leaf))) (.node (some F56) (.node (some F88) (.node (some F152) (.leaf) (.leaf)) (.node (some F216) (.leaf) (.leaf))) (.node (some F120) (.node (some F184) (.leaf) (.leaf)) (.leaf))))) (.node (none) (.node (none) (.node (none) (.node (none) (.node (some F132) (.leaf) (.leaf)) (.node (some F196) (.leaf) (.leaf))) (.node (some F100) (.node (some F164) (.leaf) (.leaf)) (.leaf))) (.node (none) (.node (some F84) (.node (some F148) (.leaf) (.leaf)) (.node (some F212) (.leaf) (.leaf))) (.node (some F116) (.node (some F180) (.leaf) (.leaf)) (.leaf)))) (.node (none) (.node (none) (.node (none) (.node (some F140) (.leaf) (.leaf)) (.node (some F204) (.leaf) (.leaf))) (.node (some F108) (.node (some F172) (.leaf) (.leaf)) (.leaf))) (.node (some F60) (.node (some F92) (.node (some F156) (.leaf) (.leaf)) (.node (some F220) (.leaf) (.leaf))) (.node (some F124) (.node (some F188) (.leaf) (.leaf)) (.leaf)))))) (.node (none) (.node (some F10) (.node (none) (.node (some F34) (.node (none) (.node (some F130) (.leaf) (.leaf)) (.node (some F194) (.leaf) (.leaf))) (.node (some F98) (.node (some F162) (.leaf) (.leaf)) (.leaf))) (.node (some F50) (.node (some F82) (.node (some F146) (.leaf) (.leaf)) (.node (some F210) (.leaf) (.leaf))) (.node (none) (.node (some F178) (.leaf) (.leaf)) (.leaf)))) (.node (none) (.node (none) (.node (none) (.node (some F138) (.leaf) (.leaf)) (.node (some F202) (.leaf) (.leaf))) (.node (some F106) (.node (some F170) (.leaf) (.leaf)) (.leaf))) (.node (none) (.node (some F90) (.node (some F154) (.leaf) (.leaf)) (.node (some F218) (.leaf) (.leaf))) (.node (some F122) (.node (some F186) (.leaf) (.leaf)) (.leaf))))) (.node (none) (.node (none) (.node (none) (.node (none) (.node (some F134) (.leaf) (.leaf)) (.node (some F198) (.leaf) (.leaf))) (.node (some F102) (.node (some F166) (.leaf) (.leaf)) (.leaf))) (.node (none) (.node (none) (.node (some F150) (.leaf) (.leaf)) (.node (some F214) (.leaf) (.leaf))) (.node (some F118) (.node (some F182) (.leaf) (.leaf)) (.leaf)))) (.node (some F30) (.node (none) (.node (some F78) (.node (some F142) (.leaf) (.leaf)) (.node (some F206) (.leaf) (.leaf))) (.node (some F110) (.node (some F174) (.leaf) (.leaf)) (.leaf))) (.node (some F62) (.node (some F94) (.node (some F158) (.leaf) (.leaf)) (.node (some F222) (.leaf) (.leaf))) (.node (some F126) (.node (some F190) (.leaf) (.leaf)) (.leaf)))))))
def tabs : List (List Int) := [[-1, 1]]
noncomputable def E0 : Env := { fns := fnT.get, sums := fun f => if f = 7 then some (tabSum tabs) else none, g0 := 1 }
noncomputable def En : Env := { fns := fnT.get, sums := fun _ => none, g0 := 1 }
theorem plain : Plain E0 := by
  intro f s hs args lo H v H' h
  have hs' : (if f = 7 then some (tabSum tabs) else none) = some s := hs
  split at hs'
  · injection hs' with hs'
    subst hs'
    cases args with
    | cons => cases h
    | nil =>
      simp only [tabSum] at h
      split at h
      · rename_i hok
        injection h with h; injection h with h1 h2; subst h1 h2; exact ⟨.refl _ _, fun _ _ => by simp only [tabSum, hok]; rfl⟩
      · cases h
  · cases hs'
abbrev Wo (c : IC) (l : OPS) : Prop := ∀ {lo : Nat} {rd : Option Nat} {fr : Fr} {H : Heap} {Q : Out → Heap → Prop}, W E0 lo (.code c rd fr) H Q = W E0 lo (.segs l rd fr) H Q
abbrev Wc (n : Nat) (f : IFn) (b : IC) : Prop := ∀ {lo : Nat} {H : Heap} {Q : Out → Heap → Prop} {args : List IV}, W E0 lo (.call n args) H Q = W E0 lo (.code b none ⟨args ++ undefs (f.ntmps - args.length), []⟩) H (retC lo f.results Q)
section
variable {lo : Nat} {rd : Option Nat} {fr : Fr} {H : Heap} {Q : Out → Heap → Prop} {args : List IV}
theorem wF3o0 : Wo F3o0 F3p0 := W_ops
theorem wF3o1 : Wo F3o1 F3p1 := W_ops
theorem wF3o2 : Wo F3o2 F3p2 := W_ops
theorem wF3o3 : Wo F3o3 F3p3 := W_ops
theorem wF3o4 : Wo F3o4 F3p4 := W_ops
theorem wF3o5 : Wo F3o5 F3p5 := W_ops
theorem wF3o6 : Wo F3o6 F3p6 := W_ops
theorem wF3o7 : Wo F3o7 F3p7 := W_ops
theorem wF3o8 : Wo F3o8 F3p8 := W_ops
theorem wF3o9 : Wo F3o9 F3p9 := W_ops
theorem wF3o10 : Wo F3o10 F3p10 := W_ops
theorem wF3o11 : Wo F3o11 F3p11 := W_ops
theorem wF3o12 : Wo F3o12 F3p12 := W_ops
theorem wF3o13 : Wo F3o13 F3p13 := W_ops
theorem wF3o15 : Wo F3o15 F3p15 := W_ops
theorem wF3o16 : Wo F3o16 F3p16 := W_ops
theorem wF3o17 : Wo F3o17 F3p17 := W_ops
theorem wF3o18 : Wo F3o18 F3p18 := W_ops
theorem wF3o20 : Wo F3o20 F3p20 := W_ops
theorem wF3o21 : Wo F3o21 F3p21 := W_ops
theorem wF3o22 : Wo F3o22 F3p22 := W_ops
theorem wF3o23 : Wo F3o23 F3p23 := W_ops
theorem wF3o24 : Wo F3o24 F3p24 := W_ops
theorem wF3o25 : Wo F3o25 F3p25 := W_ops
theorem wF3o26 : Wo F3o26 F3p26 := W_ops
theorem wF3o27 : Wo F3o27 F3p27 := W_ops
theorem wF3o29 : Wo F3o29 F3p29 := W_ops
theorem wF3o30 : Wo F3o30 F3p30 := W_ops
theorem wF3o31 : Wo F3o31 F3p31 := W_ops
theorem wF3o32 : Wo F3o32 F3p32 := W_ops
theorem wF3o33 : Wo F3o33 F3p33 := W_ops
theorem wF8o0 : Wo F8o0 F8p0 := W_ops
theorem wF8o1 : Wo F8o1 F8p1 := W_ops
theorem wF9o0 : Wo F9o0 F9p0 := W_ops
theorem wF9o1 : Wo F9o1 F9p1 := W_ops
theorem wF10o0 : Wo F10o0 F10p0 := W_ops
theorem wF10o1 : Wo F10o1 F10p1 := W_ops
theorem wF10o2 : Wo F10o2 F10p2 := W_ops
theorem wF11o0 : Wo F11o0 F11p0 := W_ops
theorem wF11o1 : Wo F11o1 F11p1 := W_ops
theorem wF11o2 : Wo F11o2 F11p2 := W_ops
theorem wF31o0 : Wo F31o0 F31p0 := W_ops
theorem wF31o1 : Wo F31o1 F31p1 := W_ops
theorem wF31o2 : Wo F31o2 F31p2 := W_ops
theorem wF31o3 : Wo F31o3 F31p3 := W_ops
theorem wF31o4 : Wo F31o4 F31p4 := W_ops
theorem wF31o5 : Wo F31o5 F31p5 := W_ops
theorem wF31o6 : Wo F31o6 F31p6 := W_ops
theorem wF31o7 : Wo F31o7 F31p7 := W_ops
theorem wF31o8 : Wo F31o8 F31p8 := W_ops
theorem wF31o9 : Wo F31o9 F31p9 := W_ops
theorem wF32o0 : Wo F32o0 F32p0 := W_ops
theorem wF32o1 : Wo F32o1 F32p1 := W_ops
theorem wF33o0 : Wo F33o0 F33p0 := W_ops
theorem wF33o1 : Wo F33o1 F33p1 := W_ops
theorem wF34o0 : Wo F34o0 F34p0 := W_ops
theorem wF34o1 : Wo F34o1 F34p1 := W_ops
theorem wF62o0 : Wo F62o0 F62p0 := W_ops
theorem wF62o1 : Wo F62o1 F62p1 := W_ops
theorem wF63o0 : Wo F63o0 F63p0 := W_ops
theorem wF63o1 : Wo F63o1 F63p1 := W_ops
theorem wF63o2 : Wo F63o2 F63p2 := W_ops
theorem wF63o3 : Wo F63o3 F63p3 := W_ops
theorem wF63o4 : Wo F63o4 F63p4 := W_ops
theorem wF64o0 : Wo F64o0 F64p0 := W_ops
theorem wF64o1 : Wo F64o1 F64p1 := W_ops
theorem wF64o2 : Wo F64o2 F64p2 := W_ops
theorem wF64o3 : Wo F64o3 F64p3 := W_ops
theorem wF64o4 : Wo F64o4 F64p4 := W_ops
theorem c3 : Wc 3 F3 F3b := W_call rfl rfl
theorem c8 : Wc 8 F8 F8b := W_call rfl rfl
theorem c9 : Wc 9 F9 F9b := W_call rfl rfl
theorem c10 : Wc 10 F10 F10b := W_call rfl rfl
theorem c11 : Wc 11 F11 F11b := W_call rfl rfl
theorem c31 : Wc 31 F31 F31b := W_call rfl rfl
theorem c32 : Wc 32 F32 F32b := W_call rfl rfl
theorem c33 : Wc 33 F33 F33b := W_call rfl rfl
theorem c34 : Wc 34 F34 F34b := W_call rfl rfl
theorem c62 : Wc 62 F62 F62b := W_call rfl rfl
theorem c63 : Wc 63 F63 F63b := W_call rfl rfl
theorem c64 : Wc 64 F64 F64b := W_call rfl rfl
theorem c7 (ht : Tabs tabs H) (h : Q (.val (.bool true)) H) : W E0 lo (.call 7 []) H Q := W_sum (s := tabSum tabs) rfl (by simp only [tabSum, ht.ok]; rfl) h
end
end Go.Iso.Gen
end
