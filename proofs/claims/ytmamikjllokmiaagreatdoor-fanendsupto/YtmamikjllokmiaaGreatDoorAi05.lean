/-
  Parts of a proof: an abstract interpreter of the model's code, and what the functions come to.
-/
import Derived.Test.YtmamikjllokmiaaGreatDoorAi04
set_option linter.unusedVariables false
set_option linter.unusedSimpArgs false
set_option linter.unnecessarySimpa false
/-
  The functions, in the interpreter's form: printed by wip/gen (AiGen).
-/
namespace Go.Ai

/-- archivist/archivistlaw20.FanEnds -/
abbrev F1_r0 : List SI := [
  ⟨(some 10), .mv (.c (.bool false)), none⟩]

abbrev F1_r1 : List SI := [
  ⟨(some 35), .callf 3 [], none⟩,
  ⟨(some 11), .mv (.t 35), none⟩]

abbrev F1_r2 : List SI := [
  ⟨(some 36), .mv (.t 11), none⟩,
  ⟨(some 37), .un .not (.t 36), none⟩]

abbrev F1_r3 : List SI := [
  ⟨(some 10), .mv (.c (.bool false)), none⟩]

abbrev F1_r4 : List SI := [
  ⟨(some 38), .mv (.t 0), none⟩,
  ⟨(some 39), .callf 5 [(.t 38), (.c (.int .i64 8))], none⟩,
  ⟨(some 12), .mv (.t 39), none⟩]

abbrev F1_r5 : List SI := [
  ⟨(some 40), .mv (.t 1), none⟩,
  ⟨(some 41), .callf 5 [(.t 40), (.c (.int .i64 8))], none⟩,
  ⟨(some 13), .mv (.t 41), none⟩]

abbrev F1_r6 : List SI := [
  ⟨(some 42), .mv (.t 2), none⟩,
  ⟨(some 43), .bin .rem .num (.t 42) (.c (.int .u8 5)), none⟩,
  ⟨(some 44), .cvint .i64 (.t 43), none⟩,
  ⟨(some 45), .bin .add .num (.c (.int .i64 1)) (.t 44), none⟩,
  ⟨(some 14), .mv (.t 45), none⟩]

abbrev F1_r7 : List SI := [
  ⟨(some 46), .mv (.t 3), none⟩,
  ⟨(some 47), .bin .rem .num (.t 46) (.c (.int .u8 6)), none⟩,
  ⟨(some 48), .cvint .i64 (.t 47), none⟩,
  ⟨(some 49), .bin .add .num (.c (.int .i64 1)) (.t 48), none⟩,
  ⟨(some 15), .mv (.t 49), none⟩]

abbrev F1_r8 : List SI := [
  ⟨(some 51), .callf 27 [(.c (.nils))], none⟩,
  ⟨(some 50), .mv (.t 51), none⟩,
  ⟨(some 52), .extract 0 (.t 50), none⟩,
  ⟨(some 53), .extract 1 (.t 50), none⟩,
  ⟨(some 16), .mv (.t 52), none⟩,
  ⟨(some 17), .mv (.t 53), none⟩]

abbrev F1_r9 : List SI := [
  ⟨(some 55), .mv (.t 12), none⟩,
  ⟨(some 56), .mv (.t 14), none⟩,
  ⟨(some 57), .build [.bool false, .int .i64 0] [(1, 1, (.t 56))], none⟩,
  ⟨(some 58), .bslice false 2 [[.bool false, .int .i64 0]] [(0, (.t 57))], none⟩,
  ⟨(some 59), .callf 28 [(.t 55), (.t 58)], none⟩,
  ⟨(some 60), .mv (.t 13), none⟩,
  ⟨(some 61), .callf 28 [(.t 60), (.c (.nils))], none⟩,
  ⟨(some 62), .bslice false 1 [[.nilp], [.nilp]] [(0, (.t 59)), (1, (.t 61))], none⟩,
  ⟨(some 63), .callf 22 [(.t 62)], none⟩,
  ⟨(some 54), .mv (.t 63), none⟩,
  ⟨(some 64), .extract 0 (.t 54), none⟩,
  ⟨(some 65), .extract 1 (.t 54), none⟩,
  ⟨(some 18), .mv (.t 64), none⟩,
  ⟨(some 19), .mv (.t 65), none⟩]

abbrev F1_r10 : List SI := [
  ⟨(some 66), .mv (.t 18), none⟩,
  ⟨(some 67), .bin .eql .ptr (.t 66) (.c (.nilp)), none⟩,
  ⟨(some 68), .mv (.t 67), none⟩,
  ⟨(some 69), .mv (.t 16), some (68, false)⟩,
  ⟨(some 70), .bin .eql .ptr (.t 69) (.c (.nilp)), some (68, false)⟩,
  ⟨(some 71), .pick (.t 68) (.c (.bool true)) (.t 70), none⟩,
  ⟨(some 72), .mv (.t 71), none⟩,
  ⟨(some 73), .mv (.t 17), some (72, false)⟩,
  ⟨(some 74), .bin .neq .num (.t 73) (.c (.int .i64 0)), some (72, false)⟩,
  ⟨(some 75), .pick (.t 72) (.c (.bool true)) (.t 74), none⟩,
  ⟨(some 76), .mv (.t 75), none⟩,
  ⟨(some 77), .mv (.t 19), some (76, false)⟩,
  ⟨(some 78), .bin .neq .num (.t 77) (.c (.int .i64 0)), some (76, false)⟩,
  ⟨(some 79), .pick (.t 76) (.c (.bool true)) (.t 78), none⟩]

abbrev F1_r11 : List SI := [
  ⟨(some 10), .mv (.c (.bool false)), none⟩]

abbrev F1_r12 : List SI := [
  ⟨(some 80), .mv (.t 4), none⟩,
  ⟨(some 81), .mv (.t 15), none⟩,
  ⟨(some 82), .build [.int .i64 0, .int .i64 0, .bool false, .int .i64 0, .bool false, .int .i64 0, .nils, .str []] [(0, 1, (.c (.int .i64 (-12)))), (1, 1, (.c (.int .i64 12))), (2, 1, (.t 80)), (3, 1, (.t 81))], none⟩,
  ⟨(some 20), .new (.loc 20) [.int .i64 0, .int .i64 0, .bool false, .int .i64 0, .bool false, .int .i64 0, .nils, .str []], none⟩,
  ⟨none, .store .own 8 (.t 20) (.t 82), none⟩]

abbrev F1_r13 : List SI := [
  ⟨(some 84), .mv (.t 18), none⟩,
  ⟨(some 85), .load .own (some 8) (.t 20), none⟩,
  ⟨(some 86), .mv (.t 16), none⟩,
  ⟨(some 87), .callf 2 [(.t 84), (.t 85), (.t 86)], none⟩,
  ⟨(some 83), .mv (.t 87), none⟩,
  ⟨(some 88), .extract 0 (.t 83), none⟩,
  ⟨(some 89), .extract 1 (.t 83), none⟩,
  ⟨(some 90), .extract 2 (.t 83), none⟩,
  ⟨(some 21), .mv (.t 88), none⟩,
  ⟨(some 22), .mv (.t 89), none⟩,
  ⟨(some 23), .mv (.t 90), none⟩]

abbrev F1_r14 : List SI := [
  ⟨(some 92), .mv (.t 12), none⟩,
  ⟨(some 93), .mv (.t 14), none⟩,
  ⟨(some 94), .build [.bool false, .int .i64 0] [(1, 1, (.t 93))], none⟩,
  ⟨(some 95), .bslice false 2 [[.bool false, .int .i64 0]] [(0, (.t 94))], none⟩,
  ⟨(some 96), .callf 28 [(.t 92), (.t 95)], none⟩,
  ⟨(some 97), .load .own (some 8) (.t 20), none⟩,
  ⟨(some 98), .mv (.t 16), none⟩,
  ⟨(some 99), .callf 18 [(.t 96), (.t 97), (.t 98)], none⟩,
  ⟨(some 91), .mv (.t 99), none⟩,
  ⟨(some 100), .extract 0 (.t 91), none⟩,
  ⟨(some 101), .extract 1 (.t 91), none⟩,
  ⟨(some 102), .extract 2 (.t 91), none⟩,
  ⟨(some 24), .mv (.t 100), none⟩,
  ⟨(some 25), .mv (.t 101), none⟩,
  ⟨(some 26), .mv (.t 102), none⟩]

abbrev F1_r15 : List SI := [
  ⟨(some 104), .mv (.t 13), none⟩,
  ⟨(some 105), .callf 28 [(.t 104), (.c (.nils))], none⟩,
  ⟨(some 106), .load .own (some 8) (.t 20), none⟩,
  ⟨(some 107), .mv (.t 16), none⟩,
  ⟨(some 108), .callf 18 [(.t 105), (.t 106), (.t 107)], none⟩,
  ⟨(some 103), .mv (.t 108), none⟩,
  ⟨(some 109), .extract 0 (.t 103), none⟩,
  ⟨(some 110), .extract 1 (.t 103), none⟩,
  ⟨(some 111), .extract 2 (.t 103), none⟩,
  ⟨(some 27), .mv (.t 109), none⟩,
  ⟨(some 28), .mv (.t 110), none⟩,
  ⟨(some 29), .mv (.t 111), none⟩]

abbrev F1_r16 : List SI := [
  ⟨(some 112), .mv (.t 24), none⟩,
  ⟨(some 113), .append 3 none (.c (.nils)) (.t 112), none⟩,
  ⟨(some 114), .mv (.t 27), none⟩,
  ⟨(some 115), .append 3 none (.t 113) (.t 114), none⟩,
  ⟨(some 30), .mv (.t 115), none⟩]

abbrev F1_r17 : List SI := [
  ⟨(some 31), .mv (.c (.int .i64 0)), none⟩]

abbrev F1_r18 : List SI := [
  ⟨(some 116), .mv (.t 31), none⟩,
  ⟨(some 117), .mv (.t 30), none⟩,
  ⟨(some 118), .len none .slice (.t 117), none⟩,
  ⟨(some 119), .bin .lss .num (.t 116) (.t 118), none⟩]

abbrev F1_r19 : List SI := [
  ⟨(some 32), .mv (.c (.bool true)), none⟩]

abbrev F1_r20 : List SI := [
  ⟨(some 122), .mv (.t 25), none⟩,
  ⟨(some 123), .mv (.t 122), none⟩,
  ⟨(some 124), .mv (.t 24), some (123, true)⟩,
  ⟨(some 125), .len none .slice (.t 124), some (123, true)⟩,
  ⟨(some 126), .bin .gtr .num (.t 125) (.c (.int .i64 0)), some (123, true)⟩,
  ⟨(some 127), .pick (.t 123) (.t 126) (.c (.bool false)), none⟩]

abbrev F1_r21 : List SI := [
  ⟨(some 128), .mv (.t 32), none⟩,
  ⟨(some 129), .mv (.t 128), none⟩,
  ⟨(some 130), .mv (.t 24), some (129, true)⟩,
  ⟨(some 131), .mv (.t 24), some (129, true)⟩,
  ⟨(some 132), .len none .slice (.t 131), some (129, true)⟩,
  ⟨(some 133), .bin .sub .num (.t 132) (.c (.int .i64 1)), some (129, true)⟩,
  ⟨(some 134), .iaddr none 3 (.t 130) (.t 133), some (129, true)⟩,
  ⟨(some 135), .load .heap (some 3) (.t 134), some (129, true)⟩,
  ⟨(some 136), .mv (.t 30), some (129, true)⟩,
  ⟨(some 137), .mv (.t 31), some (129, true)⟩,
  ⟨(some 138), .iaddr none 3 (.t 136) (.t 137), some (129, true)⟩,
  ⟨(some 139), .load .heap (some 3) (.t 138), some (129, true)⟩,
  ⟨(some 140), .mv (.t 4), some (129, true)⟩,
  ⟨(some 141), .callf 31 [(.t 135), (.t 139), (.t 140)], some (129, true)⟩,
  ⟨(some 142), .un .not (.t 141), some (129, true)⟩,
  ⟨(some 143), .pick (.t 129) (.t 142) (.c (.bool false)), none⟩,
  ⟨(some 32), .mv (.t 143), none⟩]

abbrev F1_r22 : List SI := [
  ⟨(some 144), .mv (.t 28), none⟩,
  ⟨(some 145), .mv (.t 144), none⟩,
  ⟨(some 146), .mv (.t 27), some (145, true)⟩,
  ⟨(some 147), .len none .slice (.t 146), some (145, true)⟩,
  ⟨(some 148), .bin .gtr .num (.t 147) (.c (.int .i64 0)), some (145, true)⟩,
  ⟨(some 149), .pick (.t 145) (.t 148) (.c (.bool false)), none⟩]

abbrev F1_r23 : List SI := [
  ⟨(some 150), .mv (.t 32), none⟩,
  ⟨(some 151), .mv (.t 150), none⟩,
  ⟨(some 152), .mv (.t 27), some (151, true)⟩,
  ⟨(some 153), .mv (.t 27), some (151, true)⟩,
  ⟨(some 154), .len none .slice (.t 153), some (151, true)⟩,
  ⟨(some 155), .bin .sub .num (.t 154) (.c (.int .i64 1)), some (151, true)⟩,
  ⟨(some 156), .iaddr none 3 (.t 152) (.t 155), some (151, true)⟩,
  ⟨(some 157), .load .heap (some 3) (.t 156), some (151, true)⟩,
  ⟨(some 158), .mv (.t 30), some (151, true)⟩,
  ⟨(some 159), .mv (.t 31), some (151, true)⟩,
  ⟨(some 160), .iaddr none 3 (.t 158) (.t 159), some (151, true)⟩,
  ⟨(some 161), .load .heap (some 3) (.t 160), some (151, true)⟩,
  ⟨(some 162), .mv (.t 4), some (151, true)⟩,
  ⟨(some 163), .callf 31 [(.t 157), (.t 161), (.t 162)], some (151, true)⟩,
  ⟨(some 164), .un .not (.t 163), some (151, true)⟩,
  ⟨(some 165), .pick (.t 151) (.t 164) (.c (.bool false)), none⟩,
  ⟨(some 32), .mv (.t 165), none⟩]

abbrev F1_r24 : List SI := [
  ⟨(some 33), .mv (.c (.bool false)), none⟩]

abbrev F1_r25 : List SI := [
  ⟨(some 34), .mv (.c (.int .i64 0)), none⟩]

abbrev F1_r26 : List SI := [
  ⟨(some 166), .mv (.t 34), none⟩,
  ⟨(some 167), .mv (.t 21), none⟩,
  ⟨(some 168), .len none .slice (.t 167), none⟩,
  ⟨(some 169), .bin .lss .num (.t 166) (.t 168), none⟩]

abbrev F1_r27 : List SI := [
  ⟨(some 172), .mv (.t 33), none⟩,
  ⟨(some 173), .mv (.t 172), none⟩,
  ⟨(some 174), .mv (.t 21), some (173, false)⟩,
  ⟨(some 175), .mv (.t 34), some (173, false)⟩,
  ⟨(some 176), .iaddr none 3 (.t 174) (.t 175), some (173, false)⟩,
  ⟨(some 177), .load .heap (some 3) (.t 176), some (173, false)⟩,
  ⟨(some 178), .mv (.t 30), some (173, false)⟩,
  ⟨(some 179), .mv (.t 31), some (173, false)⟩,
  ⟨(some 180), .iaddr none 3 (.t 178) (.t 179), some (173, false)⟩,
  ⟨(some 181), .load .heap (some 3) (.t 180), some (173, false)⟩,
  ⟨(some 182), .callf 33 [(.t 177), (.t 181)], some (173, false)⟩,
  ⟨(some 183), .pick (.t 173) (.c (.bool true)) (.t 182), none⟩,
  ⟨(some 33), .mv (.t 183), none⟩]

abbrev F1_r28 : List SI := [
  ⟨(some 170), .mv (.t 34), none⟩,
  ⟨(some 171), .bin .add .num (.t 170) (.c (.int .i64 1)), none⟩,
  ⟨(some 34), .mv (.t 171), none⟩]

abbrev F1_l29 : SCode := (.seq (.seq (.region F1_r26 (some [4, 11, 21, 22, 23, 24, 25, 27, 28, 30, 31, 32, 33, 34, 169])) (.cond (.t 169) .skip (.exit 2))) (.seq (.block 3 (.region F1_r27 (some [4, 11, 21, 22, 23, 24, 25, 27, 28, 30, 31, 32, 33, 34]))) (.region F1_r28 (some [4, 11, 21, 22, 23, 24, 25, 27, 28, 30, 31, 32, 33, 34]))))

abbrev F1_r30 : List SI := [
  ⟨(some 184), .mv (.t 33), none⟩,
  ⟨(some 185), .mv (.t 32), none⟩,
  ⟨(some 186), .bin .neq .bool (.t 184) (.t 185), none⟩]

abbrev F1_r31 : List SI := [
  ⟨(some 10), .mv (.c (.bool false)), none⟩]

abbrev F1_r32 : List SI := [
  ⟨(some 120), .mv (.t 31), none⟩,
  ⟨(some 121), .bin .add .num (.t 120) (.c (.int .i64 1)), none⟩,
  ⟨(some 31), .mv (.t 121), none⟩]

abbrev F1_l33 : SCode := (.seq (.seq (.region F1_r18 (some [4, 11, 21, 22, 23, 24, 25, 27, 28, 30, 31, 119])) (.cond (.t 119) .skip (.exit 0))) (.seq (.block 1 (.seq (.region F1_r19 (some [4, 11, 21, 22, 23, 24, 25, 27, 28, 30, 31, 32])) (.seq (.seq (.region F1_r20 (some [4, 11, 21, 22, 23, 24, 25, 27, 28, 30, 31, 32, 127])) (.cond (.t 127) (.region F1_r21 (some [4, 11, 21, 22, 23, 24, 25, 27, 28, 30, 31, 32])) .skip)) (.seq (.seq (.region F1_r22 (some [4, 11, 21, 22, 23, 24, 25, 27, 28, 30, 31, 32, 149])) (.cond (.t 149) (.region F1_r23 (some [4, 11, 21, 22, 23, 24, 25, 27, 28, 30, 31, 32])) .skip)) (.seq (.region F1_r24 (some [4, 11, 21, 22, 23, 24, 25, 27, 28, 30, 31, 32, 33])) (.seq (.seq (.region F1_r25 (some [4, 11, 21, 22, 23, 24, 25, 27, 28, 30, 31, 32, 33, 34])) (.block 2 (.loop [4, 11, 21, 22, 23, 24, 25, 27, 28, 30, 31, 32, 33, 34] F1_l29))) (.seq (.region F1_r30 (some [4, 11, 21, 22, 23, 24, 25, 27, 28, 30, 31, 186])) (.cond (.t 186) (.seq (.region F1_r31 (some [10])) .ret) .skip)))))))) (.region F1_r32 (some [4, 11, 21, 22, 23, 24, 25, 27, 28, 30, 31]))))

abbrev F1_r34 : List SI := [
  ⟨(some 187), .mv (.t 11), none⟩,
  ⟨(some 188), .mv (.t 187), none⟩,
  ⟨(some 189), .mv (.t 23), some (188, true)⟩,
  ⟨(some 190), .bin .eql .num (.t 189) (.c (.int .i64 0)), some (188, true)⟩,
  ⟨(some 191), .pick (.t 188) (.t 190) (.c (.bool false)), none⟩,
  ⟨(some 192), .mv (.t 191), none⟩,
  ⟨(some 193), .mv (.t 22), some (192, true)⟩,
  ⟨(some 194), .mv (.t 25), some (192, true)⟩,
  ⟨(some 195), .mv (.t 194), some (192, true)⟩,
  ⟨(some 196), .mv (.t 28), some (195, false)⟩,
  ⟨(some 197), .pick (.t 195) (.c (.bool true)) (.t 196), some (192, true)⟩,
  ⟨(some 198), .bin .eql .bool (.t 193) (.t 197), some (192, true)⟩,
  ⟨(some 199), .pick (.t 192) (.t 198) (.c (.bool false)), none⟩,
  ⟨(some 200), .mv (.t 199), none⟩,
  ⟨(some 201), .mv (.t 21), some (200, true)⟩,
  ⟨(some 202), .len none .slice (.t 201), some (200, true)⟩,
  ⟨(some 203), .mv (.t 30), some (200, true)⟩,
  ⟨(some 204), .len none .slice (.t 203), some (200, true)⟩,
  ⟨(some 205), .bin .leq .num (.t 202) (.t 204), some (200, true)⟩,
  ⟨(some 206), .pick (.t 200) (.t 205) (.c (.bool false)), none⟩,
  ⟨(some 10), .mv (.t 206), none⟩]

abbrev F1_b : SCode := (.seq (.region F1_r0 (some [0, 1, 2, 3, 4])) (.seq (.region F1_r1 (some [0, 1, 2, 3, 4, 11])) (.seq (.seq (.region F1_r2 (some [0, 1, 2, 3, 4, 11, 37])) (.cond (.t 37) (.seq (.region F1_r3 (some [10])) .ret) .skip)) (.seq (.region F1_r4 (some [1, 2, 3, 4, 11, 12])) (.seq (.region F1_r5 (some [2, 3, 4, 11, 12, 13])) (.seq (.region F1_r6 (some [3, 4, 11, 12, 13, 14])) (.seq (.region F1_r7 (some [4, 11, 12, 13, 14, 15])) (.seq (.region F1_r8 (some [4, 11, 12, 13, 14, 15, 16, 17])) (.seq (.region F1_r9 (some [4, 11, 12, 13, 14, 15, 16, 17, 18, 19])) (.seq (.seq (.region F1_r10 (some [4, 11, 12, 13, 14, 15, 16, 18, 79])) (.cond (.t 79) (.seq (.region F1_r11 (some [10])) .ret) .skip)) (.seq (.region F1_r12 (some [4, 11, 12, 13, 14, 16, 18, 20])) (.seq (.region F1_r13 (some [4, 11, 12, 13, 14, 16, 20, 21, 22, 23])) (.seq (.region F1_r14 (some [4, 11, 13, 16, 20, 21, 22, 23, 24, 25])) (.seq (.region F1_r15 (some [4, 11, 21, 22, 23, 24, 25, 27, 28])) (.seq (.region F1_r16 (some [4, 11, 21, 22, 23, 24, 25, 27, 28, 30])) (.seq (.seq (.region F1_r17 (some [4, 11, 21, 22, 23, 24, 25, 27, 28, 30, 31])) (.block 0 (.loop [4, 11, 21, 22, 23, 24, 25, 27, 28, 30, 31] F1_l33))) (.seq (.region F1_r34 (some [10])) .ret)))))))))))))))))

@[simp] def F1 : SFunc := ⟨5, .pure, F1_b, [.t 10]⟩

/-- (*archivist/fan.Fan).Fetch -/
abbrev F2_r0 : List SI := [
  ⟨(some 4), .box .imm (.t 1), none⟩,
  ⟨(some 6), .mv (.c (.nils)), none⟩,
  ⟨(some 7), .mv (.c (.bool false)), none⟩,
  ⟨(some 8), .mv (.c (.int .i64 0)), none⟩]

abbrev F2_r1 : List SI := [
  ⟨(some 18), .load .imm (some 8) (.t 4), none⟩,
  ⟨(some 19), .callf 113 [(.t 18)], none⟩,
  ⟨(some 20), .un .not (.t 19), none⟩,
  ⟨(some 21), .mv (.t 20), none⟩,
  ⟨(some 22), .mv (.t 2), some (21, false)⟩,
  ⟨(some 23), .bin .eql .ptr (.t 22) (.c (.nilp)), some (21, false)⟩,
  ⟨(some 24), .pick (.t 21) (.c (.bool true)) (.t 23), none⟩]

abbrev F2_r2 : List SI := [
  ⟨(some 6), .mv (.c (.nils)), none⟩,
  ⟨(some 7), .mv (.c (.bool false)), none⟩,
  ⟨(some 8), .mv (.c (.int .i64 1)), none⟩]

abbrev F2_r3 : List SI := [
  ⟨(some 9), .mv (.c (.nils)), none⟩]

abbrev F2_r4 : List SI := [
  ⟨(some 10), .mv (.c (.nils)), none⟩]

abbrev F2_r5 : List SI := [
  ⟨(some 11), .mv (.c (.int .i64 0)), none⟩]

abbrev F2_r6 : List SI := [
  ⟨(some 25), .mv (.t 0), none⟩,
  ⟨(some 26), .nilchk (.t 25), none⟩,
  ⟨(some 27), .faddr 1 (.t 26), none⟩,
  ⟨(some 28), .load .heap none (.t 27), none⟩,
  ⟨(some 29), .len none .slice (.t 28), none⟩,
  ⟨(some 30), .mv (.c (.int .i64 0)), none⟩]

abbrev F2_r7 : List SI := [
  ⟨(some 31), .bin .lss .num (.t 30) (.t 29), none⟩]

abbrev F2_r8 : List SI := [
  ⟨(some 32), .iaddr none 1 (.t 28) (.t 30), none⟩,
  ⟨(some 33), .load .heap none (.t 32), none⟩,
  ⟨(some 13), .mv (.t 33), none⟩]

abbrev F2_r9 : List SI := [
  ⟨(some 35), .mv (.t 0), none⟩,
  ⟨(some 36), .nilchk (.t 35), none⟩,
  ⟨(some 37), .faddr 0 (.t 36), none⟩,
  ⟨(some 38), .load .heap none (.t 37), none⟩,
  ⟨(some 39), .mv (.t 13), none⟩,
  ⟨(some 40), .iaddr none 1 (.t 38) (.t 39), none⟩,
  ⟨(some 41), .load .heap none (.t 40), none⟩,
  ⟨(some 42), .load .imm (some 8) (.t 4), none⟩,
  ⟨(some 43), .mv (.t 2), none⟩,
  ⟨(some 44), .callf 18 [(.t 41), (.t 42), (.t 43)], none⟩,
  ⟨(some 34), .mv (.t 44), none⟩,
  ⟨(some 45), .extract 0 (.t 34), none⟩,
  ⟨(some 46), .extract 1 (.t 34), none⟩,
  ⟨(some 47), .extract 2 (.t 34), none⟩,
  ⟨(some 14), .mv (.t 45), none⟩,
  ⟨(some 15), .mv (.t 46), none⟩,
  ⟨(some 16), .mv (.t 47), none⟩]

abbrev F2_r10 : List SI := [
  ⟨(some 48), .mv (.t 16), none⟩,
  ⟨(some 49), .bin .neq .num (.t 48) (.c (.int .i64 0)), none⟩]

abbrev F2_r11 : List SI := [
  ⟨(some 50), .mv (.t 9), none⟩,
  ⟨(some 51), .mv (.t 14), none⟩,
  ⟨(some 52), .bslice false 1 [[.nils]] [(0, (.t 51))], none⟩,
  ⟨(some 53), .append 1 none (.t 50) (.t 52), none⟩,
  ⟨(some 54), .mv (.t 11), none⟩,
  ⟨(some 55), .mv (.t 14), none⟩,
  ⟨(some 56), .len none .slice (.t 55), none⟩,
  ⟨(some 57), .bin .add .num (.t 54) (.t 56), none⟩,
  ⟨(some 9), .mv (.t 53), none⟩,
  ⟨(some 11), .mv (.t 57), none⟩]

abbrev F2_r12 : List SI := [
  ⟨(some 58), .mv (.t 15), none⟩]

abbrev F2_r13 : List SI := [
  ⟨(some 59), .mv (.t 10), none⟩,
  ⟨(some 60), .mv (.t 14), none⟩,
  ⟨(some 61), .mv (.t 14), none⟩,
  ⟨(some 62), .len none .slice (.t 61), none⟩,
  ⟨(some 63), .bin .sub .num (.t 62) (.c (.int .i64 1)), none⟩,
  ⟨(some 64), .iaddr none 3 (.t 60) (.t 63), none⟩,
  ⟨(some 65), .load .heap (some 3) (.t 64), none⟩,
  ⟨(some 66), .bslice false 3 [[.int .i64 0, .nils, .str []]] [(0, (.t 65))], none⟩,
  ⟨(some 67), .append 3 none (.t 59) (.t 66), none⟩,
  ⟨(some 10), .mv (.t 67), none⟩]

abbrev F2_r14 : List SI := [
  ⟨(some 68), .bin .add .num (.t 30) (.c (.int .i64 1)), none⟩,
  ⟨(some 30), .mv (.t 68), none⟩]

abbrev F2_l15 : SCode := (.seq (.region F2_r7 (some [0, 2, 4, 9, 10, 11, 28, 29, 30, 31])) (.seq (.cond (.t 31) .skip (.exit 0)) (.seq (.block 1 (.seq (.region F2_r8 (some [0, 2, 4, 9, 10, 11, 13, 28, 29, 30])) (.seq (.region F2_r9 (some [0, 2, 4, 9, 10, 11, 14, 15, 16, 28, 29, 30])) (.seq (.seq (.region F2_r10 (some [0, 2, 4, 9, 10, 11, 14, 15, 28, 29, 30, 49])) (.cond (.t 49) (.exit 1) .skip)) (.seq (.region F2_r11 (some [0, 2, 4, 9, 10, 11, 14, 15, 28, 29, 30])) (.seq (.region F2_r12 (some [0, 2, 4, 9, 10, 11, 14, 28, 29, 30, 58])) (.cond (.t 58) (.region F2_r13 (some [0, 2, 4, 9, 10, 11, 28, 29, 30])) .skip))))))) (.region F2_r14 (some [0, 2, 4, 9, 10, 11, 28, 29, 30])))))

abbrev F2_r16 : List SI := [
  ⟨(some 69), .mv (.t 9), none⟩,
  ⟨(some 70), .len none .slice (.t 69), none⟩,
  ⟨(some 71), .bin .eql .num (.t 70) (.c (.int .i64 0)), none⟩]

abbrev F2_r17 : List SI := [
  ⟨(some 6), .mv (.c (.nils)), none⟩,
  ⟨(some 7), .mv (.c (.bool false)), none⟩,
  ⟨(some 8), .mv (.c (.int .i64 7)), none⟩]

abbrev F2_r18 : List SI := [
  ⟨(some 73), .faddr 2 (.t 4), none⟩,
  ⟨(some 74), .load .imm none (.t 73), none⟩,
  ⟨(some 75), .mv (.t 11), none⟩,
  ⟨(some 76), .mv (.t 9), none⟩,
  ⟨(some 77), .callf 71 [(.t 74), (.t 75), (.t 76)], none⟩,
  ⟨(some 72), .mv (.t 77), none⟩,
  ⟨(some 78), .extract 0 (.t 72), none⟩,
  ⟨(some 79), .extract 1 (.t 72), none⟩,
  ⟨(some 6), .mv (.t 78), none⟩]

abbrev F2_r19 : List SI := [
  ⟨(some 81), .faddr 2 (.t 4), none⟩,
  ⟨(some 82), .load .imm none (.t 81), none⟩,
  ⟨(some 83), .mv (.t 10), none⟩,
  ⟨(some 84), .callf 73 [(.t 82), (.t 83)], none⟩,
  ⟨(some 80), .mv (.t 84), none⟩,
  ⟨(some 85), .extract 0 (.t 80), none⟩,
  ⟨(some 86), .extract 1 (.t 80), none⟩,
  ⟨(some 17), .new (.loc 17) [.int .i64 0, .nils, .str []], none⟩,
  ⟨none, .store .own 3 (.t 17) (.t 85), none⟩,
  ⟨(some 7), .mv (.t 86), none⟩]

abbrev F2_r20 : List SI := [
  ⟨(some 87), .mv (.t 7), none⟩]

abbrev F2_r21 : List SI := [
  ⟨(some 88), .faddr 2 (.t 4), none⟩,
  ⟨(some 89), .load .imm none (.t 88), none⟩,
  ⟨(some 90), .load .own (some 3) (.t 17), none⟩,
  ⟨(some 91), .mv (.t 6), none⟩,
  ⟨(some 92), .callf 75 [(.t 89), (.t 90), (.t 91)], none⟩,
  ⟨(some 6), .mv (.t 92), none⟩]

abbrev F2_r22 : List SI := [
  ⟨(some 93), .mv (.t 6), none⟩,
  ⟨(some 94), .mv (.t 7), none⟩,
  ⟨(some 6), .mv (.t 93), none⟩,
  ⟨(some 7), .mv (.t 94), none⟩,
  ⟨(some 8), .mv (.c (.int .i64 0)), none⟩]

abbrev F2_b : SCode := (.seq (.region F2_r0 (some [0, 2, 4])) (.seq (.seq (.region F2_r1 (some [0, 2, 4, 24])) (.cond (.t 24) (.seq (.region F2_r2 (some [6, 7, 8])) .ret) .skip)) (.seq (.region F2_r3 (some [0, 2, 4, 9])) (.seq (.region F2_r4 (some [0, 2, 4, 9, 10])) (.seq (.region F2_r5 (some [0, 2, 4, 9, 10, 11])) (.seq (.seq (.region F2_r6 (some [0, 2, 4, 9, 10, 11, 28, 29, 30])) (.block 0 (.loop [0, 2, 4, 9, 10, 11, 28, 29, 30] F2_l15))) (.seq (.seq (.region F2_r16 (some [4, 9, 10, 11, 71])) (.cond (.t 71) (.seq (.region F2_r17 (some [6, 7, 8])) .ret) .skip)) (.seq (.region F2_r18 (some [4, 6, 10])) (.seq (.region F2_r19 (some [4, 6, 7, 17])) (.seq (.seq (.region F2_r20 (some [4, 6, 7, 17, 87])) (.cond (.t 87) (.region F2_r21 (some [6, 7])) .skip)) (.seq (.region F2_r22 (some [6, 7, 8])) .ret)))))))))))

@[simp] def F2 : SFunc := ⟨3, .gc, F2_b, [.t 6, .t 7, .t 8]⟩

/-- archivist/archivistlaw20.examples -/
abbrev F3_r0 : List SI := [
  ⟨(some 0), .mv (.c (.bool false)), none⟩]

abbrev F3_r1 : List SI := [
  ⟨(some 26), .build [.int .i64 0, .nils, .str []] [(0, 1, (.c (.int .i64 1))), (2, 1, (.c (.str [97])))], none⟩,
  ⟨(some 1), .new (.loc 1) [.int .i64 0, .nils, .str []], none⟩,
  ⟨none, .store .own 3 (.t 1) (.t 26), none⟩]

abbrev F3_r2 : List SI := [
  ⟨(some 27), .build [.int .i64 0, .nils, .str []] [(0, 1, (.c (.int .i64 2))), (2, 1, (.c (.str [98])))], none⟩,
  ⟨(some 2), .new (.loc 2) [.int .i64 0, .nils, .str []], none⟩,
  ⟨none, .store .own 3 (.t 2) (.t 27), none⟩]

abbrev F3_r3 : List SI := [
  ⟨(some 28), .load .own (some 3) (.t 1), none⟩,
  ⟨(some 29), .load .own (some 3) (.t 2), none⟩,
  ⟨(some 30), .bslice false 3 [[.int .i64 0, .nils, .str []], [.int .i64 0, .nils, .str []]] [(0, (.t 28)), (1, (.t 29))], none⟩,
  ⟨(some 31), .build [.bool false, .int .i64 0] [(1, 1, (.c (.int .i64 1)))], none⟩,
  ⟨(some 32), .build [.bool false, .int .i64 0] [(0, 1, (.c (.bool true)))], none⟩,
  ⟨(some 33), .bslice false 2 [[.bool false, .int .i64 0], [.bool false, .int .i64 0]] [(0, (.t 31)), (1, (.t 32))], none⟩,
  ⟨(some 34), .callf 28 [(.t 30), (.t 33)], none⟩,
  ⟨(some 3), .mv (.t 34), none⟩]

abbrev F3_r4 : List SI := [
  ⟨(some 35), .load .own (some 3) (.t 2), none⟩,
  ⟨(some 36), .bslice false 3 [[.int .i64 0, .nils, .str []]] [(0, (.t 35))], none⟩,
  ⟨(some 37), .build [.bool false, .int .i64 0] [], none⟩,
  ⟨(some 38), .build [.bool false, .int .i64 0] [(0, 1, (.c (.bool true)))], none⟩,
  ⟨(some 39), .bslice false 2 [[.bool false, .int .i64 0], [.bool false, .int .i64 0]] [(0, (.t 37)), (1, (.t 38))], none⟩,
  ⟨(some 40), .callf 28 [(.t 36), (.t 39)], none⟩,
  ⟨(some 4), .mv (.t 40), none⟩]

abbrev F3_r5 : List SI := [
  ⟨(some 42), .mv (.t 3), none⟩,
  ⟨(some 43), .mv (.t 4), none⟩,
  ⟨(some 44), .bslice false 1 [[.nilp], [.nilp]] [(0, (.t 42)), (1, (.t 43))], none⟩,
  ⟨(some 45), .callf 22 [(.t 44)], none⟩,
  ⟨(some 41), .mv (.t 45), none⟩,
  ⟨(some 46), .extract 0 (.t 41), none⟩,
  ⟨(some 47), .extract 1 (.t 41), none⟩,
  ⟨(some 5), .mv (.t 46), none⟩,
  ⟨(some 6), .mv (.t 47), none⟩]

abbrev F3_r6 : List SI := [
  ⟨(some 49), .callf 22 [(.c (.nils))], none⟩,
  ⟨(some 48), .mv (.t 49), none⟩,
  ⟨(some 50), .extract 0 (.t 48), none⟩,
  ⟨(some 51), .extract 1 (.t 48), none⟩,
  ⟨(some 7), .mv (.t 50), none⟩,
  ⟨(some 8), .mv (.t 51), none⟩]

abbrev F3_r7 : List SI := [
  ⟨(some 53), .mv (.t 3), none⟩,
  ⟨(some 54), .bslice false 1 [[.nilp], [.nilp]] [(0, (.t 53)), (1, (.c (.nilp)))], none⟩,
  ⟨(some 55), .callf 22 [(.t 54)], none⟩,
  ⟨(some 52), .mv (.t 55), none⟩,
  ⟨(some 56), .extract 0 (.t 52), none⟩,
  ⟨(some 57), .extract 1 (.t 52), none⟩,
  ⟨(some 9), .mv (.t 56), none⟩,
  ⟨(some 10), .mv (.t 57), none⟩]

abbrev F3_r8 : List SI := [
  ⟨(some 59), .callf 27 [(.c (.nils))], none⟩,
  ⟨(some 58), .mv (.t 59), none⟩,
  ⟨(some 60), .extract 0 (.t 58), none⟩,
  ⟨(some 61), .extract 1 (.t 58), none⟩,
  ⟨(some 11), .mv (.t 60), none⟩,
  ⟨(some 12), .mv (.t 61), none⟩]

abbrev F3_r9 : List SI := [
  ⟨(some 62), .mv (.t 5), none⟩,
  ⟨(some 63), .bin .eql .ptr (.t 62) (.c (.nilp)), none⟩,
  ⟨(some 64), .mv (.t 63), none⟩,
  ⟨(some 65), .mv (.t 11), some (64, false)⟩,
  ⟨(some 66), .bin .eql .ptr (.t 65) (.c (.nilp)), some (64, false)⟩,
  ⟨(some 67), .pick (.t 64) (.c (.bool true)) (.t 66), none⟩]

abbrev F3_r10 : List SI := [
  ⟨(some 0), .mv (.c (.bool false)), none⟩]

abbrev F3_r11 : List SI := [
  ⟨(some 68), .build [.int .i64 0, .int .i64 0, .bool false, .int .i64 0, .bool false, .int .i64 0, .nils, .str []] [(1, 1, (.c (.int .i64 9))), (2, 1, (.c (.bool true))), (3, 1, (.c (.int .i64 5)))], none⟩,
  ⟨(some 13), .new (.loc 13) [.int .i64 0, .int .i64 0, .bool false, .int .i64 0, .bool false, .int .i64 0, .nils, .str []], none⟩,
  ⟨none, .store .own 8 (.t 13) (.t 68), none⟩]

abbrev F3_r12 : List SI := [
  ⟨(some 70), .mv (.t 5), none⟩,
  ⟨(some 71), .load .own (some 8) (.t 13), none⟩,
  ⟨(some 72), .mv (.t 11), none⟩,
  ⟨(some 73), .callf 2 [(.t 70), (.t 71), (.t 72)], none⟩,
  ⟨(some 69), .mv (.t 73), none⟩,
  ⟨(some 74), .extract 0 (.t 69), none⟩,
  ⟨(some 75), .extract 1 (.t 69), none⟩,
  ⟨(some 76), .extract 2 (.t 69), none⟩,
  ⟨(some 14), .mv (.t 74), none⟩,
  ⟨(some 15), .mv (.t 75), none⟩,
  ⟨(some 16), .mv (.t 76), none⟩]

abbrev F3_r13 : List SI := [
  ⟨(some 78), .mv (.t 5), none⟩,
  ⟨(some 79), .load .own (some 8) (.t 13), none⟩,
  ⟨(some 80), .mv (.t 11), none⟩,
  ⟨(some 81), .callf 2 [(.t 78), (.t 79), (.t 80)], none⟩,
  ⟨(some 77), .mv (.t 81), none⟩,
  ⟨(some 82), .extract 0 (.t 77), none⟩,
  ⟨(some 83), .extract 1 (.t 77), none⟩,
  ⟨(some 84), .extract 2 (.t 77), none⟩,
  ⟨(some 17), .mv (.t 82), none⟩,
  ⟨(some 18), .mv (.t 83), none⟩,
  ⟨(some 19), .mv (.t 84), none⟩]

abbrev F3_r14 : List SI := [
  ⟨(some 85), .mv (.t 5), none⟩,
  ⟨(some 86), .bslice false 1 [[.int .i64 0]] [(0, (.c (.int .i64 2)))], none⟩,
  ⟨(some 87), .callf 4 [(.t 85), (.t 86)], none⟩]

abbrev F3_r15 : List SI := [
  ⟨(some 89), .mv (.t 5), none⟩,
  ⟨(some 90), .load .own (some 8) (.t 13), none⟩,
  ⟨(some 91), .mv (.t 11), none⟩,
  ⟨(some 92), .callf 2 [(.t 89), (.t 90), (.t 91)], none⟩,
  ⟨(some 88), .mv (.t 92), none⟩,
  ⟨(some 93), .extract 0 (.t 88), none⟩,
  ⟨(some 94), .extract 1 (.t 88), none⟩,
  ⟨(some 95), .extract 2 (.t 88), none⟩,
  ⟨(some 20), .mv (.t 93), none⟩,
  ⟨(some 21), .mv (.t 94), none⟩,
  ⟨(some 22), .mv (.t 95), none⟩]

abbrev F3_r16 : List SI := [
  ⟨(some 97), .mv (.t 5), none⟩,
  ⟨(some 98), .build [.int .i64 0, .int .i64 0, .bool false, .int .i64 0, .bool false, .int .i64 0, .nils, .str []] [], none⟩,
  ⟨(some 99), .mv (.t 11), none⟩,
  ⟨(some 100), .callf 2 [(.t 97), (.t 98), (.t 99)], none⟩,
  ⟨(some 96), .mv (.t 100), none⟩,
  ⟨(some 101), .extract 0 (.t 96), none⟩,
  ⟨(some 102), .extract 1 (.t 96), none⟩,
  ⟨(some 103), .extract 2 (.t 96), none⟩,
  ⟨(some 23), .mv (.t 101), none⟩,
  ⟨(some 24), .mv (.t 102), none⟩,
  ⟨(some 25), .mv (.t 103), none⟩]

abbrev F3_r17 : List SI := [
  ⟨(some 104), .mv (.t 6), none⟩,
  ⟨(some 105), .bin .eql .num (.t 104) (.c (.int .i64 0)), none⟩,
  ⟨(some 106), .mv (.t 105), none⟩,
  ⟨(some 107), .mv (.t 8), some (106, true)⟩,
  ⟨(some 108), .bin .eql .num (.t 107) (.c (.int .i64 1)), some (106, true)⟩,
  ⟨(some 109), .pick (.t 106) (.t 108) (.c (.bool false)), none⟩,
  ⟨(some 110), .mv (.t 109), none⟩,
  ⟨(some 111), .mv (.t 10), some (110, true)⟩,
  ⟨(some 112), .bin .eql .num (.t 111) (.c (.int .i64 1)), some (110, true)⟩,
  ⟨(some 113), .pick (.t 110) (.t 112) (.c (.bool false)), none⟩,
  ⟨(some 114), .mv (.t 113), none⟩,
  ⟨(some 115), .mv (.t 16), some (114, true)⟩,
  ⟨(some 116), .bin .eql .num (.t 115) (.c (.int .i64 0)), some (114, true)⟩,
  ⟨(some 117), .pick (.t 114) (.t 116) (.c (.bool false)), none⟩,
  ⟨(some 118), .mv (.t 117), none⟩,
  ⟨(some 119), .mv (.t 14), some (118, true)⟩,
  ⟨(some 120), .len none .slice (.t 119), some (118, true)⟩,
  ⟨(some 121), .bin .eql .num (.t 120) (.c (.int .i64 1)), some (118, true)⟩,
  ⟨(some 122), .pick (.t 118) (.t 121) (.c (.bool false)), none⟩,
  ⟨(some 123), .mv (.t 122), none⟩,
  ⟨(some 124), .mv (.t 14), some (123, true)⟩,
  ⟨(some 125), .iaddr none 3 (.t 124) (.c (.int .i64 0)), some (123, true)⟩,
  ⟨(some 126), .faddr 0 (.t 125), some (123, true)⟩,
  ⟨(some 127), .load .heap none (.t 126), some (123, true)⟩,
  ⟨(some 128), .bin .eql .num (.t 127) (.c (.int .i64 1)), some (123, true)⟩,
  ⟨(some 129), .pick (.t 123) (.t 128) (.c (.bool false)), none⟩,
  ⟨(some 130), .mv (.t 129), none⟩,
  ⟨(some 131), .mv (.t 15), some (130, true)⟩,
  ⟨(some 132), .pick (.t 130) (.t 131) (.c (.bool false)), none⟩,
  ⟨(some 133), .mv (.t 132), none⟩,
  ⟨(some 134), .mv (.t 19), some (133, true)⟩,
  ⟨(some 135), .bin .eql .num (.t 134) (.c (.int .i64 7)), some (133, true)⟩,
  ⟨(some 136), .pick (.t 133) (.t 135) (.c (.bool false)), none⟩,
  ⟨(some 137), .mv (.t 136), none⟩,
  ⟨(some 138), .mv (.t 22), some (137, true)⟩,
  ⟨(some 139), .bin .eql .num (.t 138) (.c (.int .i64 0)), some (137, true)⟩,
  ⟨(some 140), .pick (.t 137) (.t 139) (.c (.bool false)), none⟩,
  ⟨(some 141), .mv (.t 140), none⟩,
  ⟨(some 142), .mv (.t 20), some (141, true)⟩,
  ⟨(some 143), .len none .slice (.t 142), some (141, true)⟩,
  ⟨(some 144), .bin .eql .num (.t 143) (.c (.int .i64 2)), some (141, true)⟩,
  ⟨(some 145), .pick (.t 141) (.t 144) (.c (.bool false)), none⟩,
  ⟨(some 146), .mv (.t 145), none⟩,
  ⟨(some 147), .mv (.t 21), some (146, true)⟩,
  ⟨(some 148), .un .not (.t 147), some (146, true)⟩,
  ⟨(some 149), .pick (.t 146) (.t 148) (.c (.bool false)), none⟩,
  ⟨(some 150), .mv (.t 149), none⟩,
  ⟨(some 151), .mv (.t 25), some (150, true)⟩,
  ⟨(some 152), .bin .eql .num (.t 151) (.c (.int .i64 1)), some (150, true)⟩,
  ⟨(some 153), .pick (.t 150) (.t 152) (.c (.bool false)), none⟩,
  ⟨(some 154), .mv (.t 153), none⟩,
  ⟨(some 155), .mv (.t 5), some (154, true)⟩,
  ⟨(some 156), .callf 37 [(.t 155)], some (154, true)⟩,
  ⟨(some 157), .bin .eql .num (.t 156) (.c (.int .i64 6)), some (154, true)⟩,
  ⟨(some 158), .pick (.t 154) (.t 157) (.c (.bool false)), none⟩,
  ⟨(some 159), .mv (.t 158), none⟩,
  ⟨(some 160), .mv (.t 5), some (159, true)⟩,
  ⟨(some 161), .callf 39 [(.t 160)], some (159, true)⟩,
  ⟨(some 162), .bin .eql .num (.t 161) (.c (.int .i64 2)), some (159, true)⟩,
  ⟨(some 163), .pick (.t 159) (.t 162) (.c (.bool false)), none⟩,
  ⟨(some 0), .mv (.t 163), none⟩]

abbrev F3_b : SCode := (.seq (.region F3_r0 (some [])) (.seq (.region F3_r1 (some [1])) (.seq (.region F3_r2 (some [1, 2])) (.seq (.region F3_r3 (some [2, 3])) (.seq (.region F3_r4 (some [3, 4])) (.seq (.region F3_r5 (some [3, 5, 6])) (.seq (.region F3_r6 (some [3, 5, 6, 8])) (.seq (.region F3_r7 (some [5, 6, 8, 10])) (.seq (.region F3_r8 (some [5, 6, 8, 10, 11])) (.seq (.seq (.region F3_r9 (some [5, 6, 8, 10, 11, 67])) (.cond (.t 67) (.seq (.region F3_r10 (some [0])) .ret) .skip)) (.seq (.region F3_r11 (some [5, 6, 8, 10, 11, 13])) (.seq (.region F3_r12 (some [5, 6, 8, 10, 11, 13, 14, 15, 16])) (.seq (.region F3_r13 (some [5, 6, 8, 10, 11, 13, 14, 15, 16, 19])) (.seq (.region F3_r14 (some [5, 6, 8, 10, 11, 13, 14, 15, 16, 19])) (.seq (.region F3_r15 (some [5, 6, 8, 10, 11, 14, 15, 16, 19, 20, 21, 22])) (.seq (.region F3_r16 (some [5, 6, 8, 10, 14, 15, 16, 19, 20, 21, 22, 25])) (.seq (.region F3_r17 (some [0])) .ret)))))))))))))))))

@[simp] def F3 : SFunc := ⟨0, .pure, F3_b, [.t 0]⟩

/-- (*archivist/fan.Fan).Order -/
abbrev F4_r0 : List SI := [
  ⟨(some 7), .mv (.t 0), none⟩,
  ⟨(some 8), .nilchk (.t 7), none⟩,
  ⟨(some 9), .faddr 1 (.t 8), none⟩,
  ⟨none, .store .heap 1 (.t 9) (.c (.nils)), none⟩]

abbrev F4_r1 : List SI := [
  ⟨(some 10), .mv (.t 0), none⟩,
  ⟨(some 11), .nilchk (.t 10), none⟩,
  ⟨(some 12), .faddr 0 (.t 11), none⟩,
  ⟨(some 13), .load .heap none (.t 12), none⟩,
  ⟨(some 14), .len none .slice (.t 13), none⟩,
  ⟨(some 15), .mv (.c (.int .i64 0)), none⟩]

abbrev F4_r2 : List SI := [
  ⟨(some 16), .bin .lss .num (.t 15) (.t 14), none⟩]

abbrev F4_r3 : List SI := [
  ⟨(some 17), .mv (.t 15), none⟩,
  ⟨(some 4), .mv (.t 17), none⟩]

abbrev F4_r4 : List SI := [
  ⟨(some 18), .mv (.t 1), none⟩,
  ⟨(some 19), .mv (.t 1), none⟩,
  ⟨(some 20), .len none .slice (.t 19), none⟩,
  ⟨(some 21), .mv (.t 1), none⟩,
  ⟨(some 22), .len none .slice (.t 21), none⟩,
  ⟨(some 23), .slice .slice 1 (.t 18) none (some (.t 20)) (some (.t 22)), none⟩,
  ⟨(some 24), .mv (.t 4), none⟩,
  ⟨(some 25), .bin .add .num (.t 24) (.c (.int .i64 1)), none⟩,
  ⟨(some 26), .bslice false 1 [[.int .i64 0]] [(0, (.t 25))], none⟩,
  ⟨(some 27), .append 1 none (.t 23) (.t 26), none⟩,
  ⟨(some 1), .mv (.t 27), none⟩]

abbrev F4_r5 : List SI := [
  ⟨(some 28), .bin .add .num (.t 15) (.c (.int .i64 1)), none⟩,
  ⟨(some 15), .mv (.t 28), none⟩]

abbrev F4_l6 : SCode := (.seq (.region F4_r2 (some [0, 1, 14, 15, 16])) (.seq (.cond (.t 16) .skip (.exit 0)) (.seq (.block 1 (.seq (.region F4_r3 (some [0, 1, 4, 14, 15])) (.region F4_r4 (some [0, 1, 14, 15])))) (.region F4_r5 (some [0, 1, 14, 15])))))

abbrev F4_r7 : List SI := [
  ⟨(some 29), .mv (.t 1), none⟩,
  ⟨(some 30), .len none .slice (.t 29), none⟩,
  ⟨(some 31), .mv (.c (.int .i64 0)), none⟩]

abbrev F4_r8 : List SI := [
  ⟨(some 32), .bin .lss .num (.t 31) (.t 30), none⟩]

abbrev F4_r9 : List SI := [
  ⟨(some 33), .iaddr none 1 (.t 29) (.t 31), none⟩,
  ⟨(some 34), .load .heap none (.t 33), none⟩,
  ⟨(some 6), .mv (.t 34), none⟩]

abbrev F4_r10 : List SI := [
  ⟨(some 35), .mv (.t 6), none⟩,
  ⟨(some 36), .bin .geq .num (.t 35) (.c (.int .i64 1)), none⟩,
  ⟨(some 37), .mv (.t 36), none⟩,
  ⟨(some 38), .mv (.t 6), some (37, true)⟩,
  ⟨(some 39), .mv (.t 0), some (37, true)⟩,
  ⟨(some 40), .nilchk (.t 39), some (37, true)⟩,
  ⟨(some 41), .faddr 0 (.t 40), some (37, true)⟩,
  ⟨(some 42), .load .heap none (.t 41), some (37, true)⟩,
  ⟨(some 43), .len none .slice (.t 42), some (37, true)⟩,
  ⟨(some 44), .bin .leq .num (.t 38) (.t 43), some (37, true)⟩,
  ⟨(some 45), .pick (.t 37) (.t 44) (.c (.bool false)), none⟩,
  ⟨(some 46), .mv (.t 45), none⟩,
  ⟨(some 47), .mv (.t 0), some (46, true)⟩,
  ⟨(some 48), .nilchk (.t 47), some (46, true)⟩,
  ⟨(some 49), .faddr 1 (.t 48), some (46, true)⟩,
  ⟨(some 50), .load .heap none (.t 49), some (46, true)⟩,
  ⟨(some 51), .mv (.t 6), some (46, true)⟩,
  ⟨(some 52), .bin .sub .num (.t 51) (.c (.int .i64 1)), some (46, true)⟩,
  ⟨(some 53), .callf 103 [(.t 50), (.t 52)], some (46, true)⟩,
  ⟨(some 54), .un .not (.t 53), some (46, true)⟩,
  ⟨(some 55), .pick (.t 46) (.t 54) (.c (.bool false)), none⟩]

abbrev F4_r11 : List SI := [
  ⟨(some 56), .mv (.t 0), none⟩,
  ⟨(some 57), .mv (.t 0), none⟩,
  ⟨(some 58), .nilchk (.t 57), none⟩,
  ⟨(some 59), .faddr 1 (.t 58), none⟩,
  ⟨(some 60), .load .heap none (.t 59), none⟩,
  ⟨(some 61), .mv (.t 6), none⟩,
  ⟨(some 62), .bin .sub .num (.t 61) (.c (.int .i64 1)), none⟩,
  ⟨(some 63), .bslice false 1 [[.int .i64 0]] [(0, (.t 62))], none⟩,
  ⟨(some 64), .append 1 none (.t 60) (.t 63), none⟩,
  ⟨(some 65), .nilchk (.t 56), none⟩,
  ⟨(some 66), .faddr 1 (.t 65), none⟩,
  ⟨none, .store .heap 1 (.t 66) (.t 64), none⟩]

abbrev F4_r12 : List SI := [
  ⟨(some 67), .bin .add .num (.t 31) (.c (.int .i64 1)), none⟩,
  ⟨(some 31), .mv (.t 67), none⟩]

abbrev F4_l13 : SCode := (.seq (.region F4_r8 (some [0, 29, 30, 31, 32])) (.seq (.cond (.t 32) .skip (.exit 2)) (.seq (.block 3 (.seq (.region F4_r9 (some [0, 6, 29, 30, 31])) (.seq (.region F4_r10 (some [0, 6, 29, 30, 31, 55])) (.cond (.t 55) (.region F4_r11 (some [0, 29, 30, 31])) .skip)))) (.region F4_r12 (some [0, 29, 30, 31])))))

abbrev F4_b : SCode := (.seq (.region F4_r0 (some [0, 1])) (.seq (.seq (.region F4_r1 (some [0, 1, 14, 15])) (.block 0 (.loop [0, 1, 14, 15] F4_l6))) (.seq (.region F4_r7 (some [0, 29, 30, 31])) (.block 2 (.loop [0, 29, 30, 31] F4_l13)))))

@[simp] def F4 : SFunc := ⟨2, .gc, F4_b, []⟩

/-- archivist/archivistlaw20.items -/
abbrev F5_r0 : List SI := [
  ⟨(some 4), .mv (.c (.nils)), none⟩]

abbrev F5_r1 : List SI := [
  ⟨(some 5), .mv (.c (.nils)), none⟩]

abbrev F5_r2 : List SI := [
  ⟨(some 6), .mv (.c (.int .i64 0)), none⟩]

abbrev F5_r3 : List SI := [
  ⟨(some 7), .mv (.t 6), none⟩,
  ⟨(some 8), .mv (.t 0), none⟩,
  ⟨(some 9), .len none .slice (.t 8), none⟩,
  ⟨(some 10), .bin .lss .num (.t 7) (.t 9), none⟩,
  ⟨(some 11), .mv (.t 10), none⟩,
  ⟨(some 12), .mv (.t 6), some (11, true)⟩,
  ⟨(some 13), .mv (.t 1), some (11, true)⟩,
  ⟨(some 14), .bin .lss .num (.t 12) (.t 13), some (11, true)⟩,
  ⟨(some 15), .pick (.t 11) (.t 14) (.c (.bool false)), none⟩]

abbrev F5_r4 : List SI := [
  ⟨(some 18), .mv (.t 5), none⟩,
  ⟨(some 19), .mv (.t 0), none⟩,
  ⟨(some 20), .mv (.t 6), none⟩,
  ⟨(some 21), .iaddr none 7 (.t 19) (.t 20), none⟩,
  ⟨(some 22), .load .heap (some 7) (.t 21), none⟩,
  ⟨(some 23), .callf 7 [(.t 22)], none⟩,
  ⟨(some 24), .bslice false 3 [[.int .i64 0, .nils, .str []]] [(0, (.t 23))], none⟩,
  ⟨(some 25), .append 3 none (.t 18) (.t 24), none⟩,
  ⟨(some 5), .mv (.t 25), none⟩]

abbrev F5_r5 : List SI := [
  ⟨(some 16), .mv (.t 6), none⟩,
  ⟨(some 17), .bin .add .num (.t 16) (.c (.int .i64 1)), none⟩,
  ⟨(some 6), .mv (.t 17), none⟩]

abbrev F5_l6 : SCode := (.seq (.seq (.region F5_r3 (some [0, 1, 5, 6, 15])) (.cond (.t 15) .skip (.exit 0))) (.seq (.block 1 (.region F5_r4 (some [0, 1, 5, 6]))) (.region F5_r5 (some [0, 1, 5, 6]))))

abbrev F5_r7 : List SI := [
  ⟨(some 26), .mv (.t 5), none⟩,
  ⟨(some 4), .mv (.t 26), none⟩]

abbrev F5_b : SCode := (.seq (.region F5_r0 (some [0, 1])) (.seq (.region F5_r1 (some [0, 1, 5])) (.seq (.seq (.region F5_r2 (some [0, 1, 5, 6])) (.block 0 (.loop [0, 1, 5, 6] F5_l6))) (.seq (.region F5_r7 (some [4])) .ret))))

@[simp] def F5 : SFunc := ⟨2, .pure, F5_b, [.t 4]⟩

/-- (*archivist/heap.Heap[[]archivist/entry.Entry]).Pop -/
abbrev F6_r0 : List SI := [
  ⟨(some 2), .mv (.c (.nils)), none⟩,
  ⟨(some 3), .mv (.c (.bool false)), none⟩]

abbrev F6_r1 : List SI := [
  ⟨(some 6), .mv (.t 0), none⟩,
  ⟨(some 7), .callf 83 [(.t 6)], none⟩,
  ⟨(some 5), .mv (.t 7), none⟩,
  ⟨(some 8), .extract 0 (.t 5), none⟩,
  ⟨(some 9), .extract 1 (.t 5), none⟩,
  ⟨(some 2), .mv (.t 8), none⟩,
  ⟨(some 3), .mv (.t 9), none⟩]

abbrev F6_r2 : List SI := [
  ⟨(some 10), .mv (.t 3), none⟩,
  ⟨(some 11), .un .not (.t 10), none⟩]

abbrev F6_r3 : List SI := [
  ⟨(some 12), .mv (.t 2), none⟩,
  ⟨(some 2), .mv (.t 12), none⟩,
  ⟨(some 3), .mv (.c (.bool false)), none⟩]

abbrev F6_r4 : List SI := [
  ⟨(some 13), .mv (.t 0), none⟩,
  ⟨(some 14), .nilchk (.t 13), none⟩,
  ⟨(some 15), .faddr 0 (.t 14), none⟩,
  ⟨(some 16), .faddr 0 (.t 15), none⟩,
  ⟨(some 17), .load .heap none (.t 16), none⟩,
  ⟨(some 18), .len none .slice (.t 17), none⟩,
  ⟨(some 19), .bin .sub .num (.t 18) (.c (.int .i64 1)), none⟩,
  ⟨(some 4), .mv (.t 19), none⟩]

abbrev F6_r5 : List SI := [
  ⟨(some 20), .mv (.t 0), none⟩,
  ⟨(some 21), .nilchk (.t 20), none⟩,
  ⟨(some 22), .faddr 0 (.t 21), none⟩,
  ⟨(some 23), .faddr 0 (.t 22), none⟩,
  ⟨(some 24), .load .heap none (.t 23), none⟩,
  ⟨(some 25), .mv (.t 0), none⟩,
  ⟨(some 26), .nilchk (.t 25), none⟩,
  ⟨(some 27), .faddr 0 (.t 26), none⟩,
  ⟨(some 28), .faddr 0 (.t 27), none⟩,
  ⟨(some 29), .load .heap none (.t 28), none⟩,
  ⟨(some 30), .mv (.t 4), none⟩,
  ⟨(some 31), .iaddr none 2 (.t 29) (.t 30), none⟩,
  ⟨(some 32), .load .heap (some 2) (.t 31), none⟩,
  ⟨(some 33), .iaddr none 2 (.t 24) (.c (.int .i64 0)), none⟩,
  ⟨none, .store .heap 2 (.t 33) (.t 32), none⟩]

abbrev F6_r6 : List SI := [
  ⟨(some 34), .mv (.t 0), none⟩,
  ⟨(some 35), .mv (.t 0), none⟩,
  ⟨(some 36), .nilchk (.t 35), none⟩,
  ⟨(some 37), .faddr 0 (.t 36), none⟩,
  ⟨(some 38), .faddr 0 (.t 37), none⟩,
  ⟨(some 39), .load .heap none (.t 38), none⟩,
  ⟨(some 40), .mv (.t 4), none⟩,
  ⟨(some 41), .slice .slice 2 (.t 39) none (some (.t 40)) none, none⟩,
  ⟨(some 42), .nilchk (.t 34), none⟩,
  ⟨(some 43), .faddr 0 (.t 42), none⟩,
  ⟨(some 44), .faddr 0 (.t 43), none⟩,
  ⟨none, .store .heap 1 (.t 44) (.t 41), none⟩]

abbrev F6_r7 : List SI := [
  ⟨(some 45), .mv (.t 0), none⟩,
  ⟨(some 46), .nilchk (.t 45), none⟩,
  ⟨(some 47), .faddr 0 (.t 46), none⟩,
  ⟨(some 48), .callf 12 [(.t 47), (.c (.int .i64 0))], none⟩]

abbrev F6_r8 : List SI := [
  ⟨(some 49), .mv (.t 2), none⟩,
  ⟨(some 2), .mv (.t 49), none⟩,
  ⟨(some 3), .mv (.c (.bool true)), none⟩]

abbrev F6_b : SCode := (.seq (.region F6_r0 (some [0])) (.seq (.seq (.region F6_r1 (some [0, 2, 3])) (.seq (.region F6_r2 (some [0, 2, 11])) (.cond (.t 11) (.seq (.region F6_r3 (some [2, 3])) .ret) .skip))) (.seq (.region F6_r4 (some [0, 2, 4])) (.seq (.region F6_r5 (some [0, 2, 4])) (.seq (.region F6_r6 (some [0, 2])) (.seq (.region F6_r7 (some [2])) (.seq (.region F6_r8 (some [2, 3])) .ret)))))))

@[simp] def F6 : SFunc := ⟨1, .keep, F6_b, [.t 2, .t 3]⟩

/-- (archivist/archivistlaw20.Item).item -/
abbrev F7_r0 : List SI := [
  ⟨(some 1), .box .imm (.t 0), none⟩,
  ⟨(some 2), .new (.loc 2) [.int .i64 0, .nils, .str []], none⟩]

abbrev F7_r1 : List SI := [
  ⟨(some 3), .faddr 3 (.t 1), none⟩,
  ⟨(some 4), .load .imm none (.t 3), none⟩,
  ⟨(some 5), .un .not (.t 4), none⟩]

abbrev F7_r2 : List SI := [
  ⟨(some 6), .faddr 0 (.t 1), none⟩,
  ⟨(some 7), .load .imm (some 3) (.t 6), none⟩,
  ⟨none, .store .own 3 (.t 2) (.t 7), none⟩]

abbrev F7_r3 : List SI := [
  ⟨(some 8), .faddr 4 (.t 1), none⟩,
  ⟨(some 9), .load .imm none (.t 8), none⟩,
  ⟨(some 10), .bin .rem .num (.t 9) (.c (.int .i8 12)), none⟩,
  ⟨(some 11), .cvint .i64 (.t 10), none⟩,
  ⟨(some 12), .faddr 5 (.t 1), none⟩,
  ⟨(some 13), .load .imm none (.t 12), none⟩,
  ⟨(some 14), .callf 9 [(.t 13)], none⟩,
  ⟨(some 15), .bslice false 1 [[.str []], [.str []], [.str []], [.str []], [.str []], [.str []], [.str []], [.str []]] [(0, (.c (.str [97]))), (1, (.c (.str [98]))), (2, (.c (.str [110, 61, 55]))), (3, (.c (.str [108, 118, 108, 61, 98, 32, 110, 61, 51]))), (4, (.c (.str [120, 49]))), (5, (.c (.str []))), (6, (.c (.str [100, 117, 114, 61, 53, 109]))), (7, (.c (.str [101, 114, 114, 111, 114, 58, 32, 97])))], none⟩,
  ⟨(some 16), .faddr 6 (.t 1), none⟩,
  ⟨(some 17), .load .imm none (.t 16), none⟩,
  ⟨(some 18), .bin .rem .num (.t 17) (.c (.int .u8 8)), none⟩,
  ⟨(some 19), .iaddr none 1 (.t 15) (.t 18), none⟩,
  ⟨(some 20), .load .heap none (.t 19), none⟩,
  ⟨(some 21), .build [.int .i64 0, .nils, .str []] [(0, 1, (.t 11)), (1, 1, (.t 14)), (2, 1, (.t 20))], none⟩,
  ⟨none, .store .own 3 (.t 2) (.t 21), none⟩]

abbrev F7_b : SCode := (.seq (.region F7_r0 (some [1, 2])) (.seq (.seq (.region F7_r1 (some [1, 2, 5])) (.cond (.t 5) (.seq (.region F7_r2 (some [2])) .ret) .skip)) (.seq (.region F7_r3 (some [2])) .ret)))

@[simp] def F7 : SFunc := ⟨1, .pure, F7_b, [.cell 2 (some 3)]⟩

/-- (*archivist/heap.Heap[[]archivist/entry.Entry]).Push -/
abbrev F8_r0 : List SI := [
  ⟨(some 6), .mv (.t 1), none⟩,
  ⟨(some 7), .len none .slice (.t 6), none⟩,
  ⟨(some 8), .mv (.c (.int .i64 0)), none⟩]

abbrev F8_r1 : List SI := [
  ⟨(some 9), .bin .lss .num (.t 8) (.t 7), none⟩]

abbrev F8_r2 : List SI := [
  ⟨(some 10), .iaddr none 1 (.t 6) (.t 8), none⟩,
  ⟨(some 11), .load .heap none (.t 10), none⟩,
  ⟨(some 5), .mv (.t 11), none⟩]

abbrev F8_r3 : List SI := [
  ⟨(some 12), .mv (.t 0), none⟩,
  ⟨(some 13), .mv (.t 0), none⟩,
  ⟨(some 14), .nilchk (.t 13), none⟩,
  ⟨(some 15), .faddr 0 (.t 14), none⟩,
  ⟨(some 16), .faddr 0 (.t 15), none⟩,
  ⟨(some 17), .load .heap none (.t 16), none⟩,
  ⟨(some 18), .mv (.t 5), none⟩,
  ⟨(some 19), .mv (.t 0), none⟩,
  ⟨(some 20), .nilchk (.t 19), none⟩,
  ⟨(some 21), .faddr 2 (.t 20), none⟩,
  ⟨(some 22), .load .heap none (.t 21), none⟩,
  ⟨(some 23), .build [.nils, .int .i64 0] [(0, 1, (.t 18)), (1, 1, (.t 22))], none⟩,
  ⟨(some 24), .bslice false 2 [[.nils, .int .i64 0]] [(0, (.t 23))], none⟩,
  ⟨(some 25), .append 2 none (.t 17) (.t 24), none⟩,
  ⟨(some 26), .nilchk (.t 12), none⟩,
  ⟨(some 27), .faddr 0 (.t 26), none⟩,
  ⟨(some 28), .faddr 0 (.t 27), none⟩,
  ⟨none, .store .heap 1 (.t 28) (.t 25), none⟩]

abbrev F8_r4 : List SI := [
  ⟨(some 29), .mv (.t 0), none⟩,
  ⟨(some 30), .nilchk (.t 29), none⟩,
  ⟨(some 31), .faddr 2 (.t 30), none⟩,
  ⟨(some 32), .load .heap none (.t 31), none⟩,
  ⟨(some 33), .bin .add .num (.t 32) (.c (.int .i64 1)), none⟩,
  ⟨(some 34), .nilchk (.t 29), none⟩,
  ⟨(some 35), .faddr 2 (.t 34), none⟩,
  ⟨none, .store .heap 1 (.t 35) (.t 33), none⟩]

abbrev F8_r5 : List SI := [
  ⟨(some 36), .mv (.t 0), none⟩,
  ⟨(some 37), .nilchk (.t 36), none⟩,
  ⟨(some 38), .faddr 0 (.t 37), none⟩,
  ⟨(some 39), .mv (.t 0), none⟩,
  ⟨(some 40), .nilchk (.t 39), none⟩,
  ⟨(some 41), .faddr 0 (.t 40), none⟩,
  ⟨(some 42), .faddr 0 (.t 41), none⟩,
  ⟨(some 43), .load .heap none (.t 42), none⟩,
  ⟨(some 44), .len none .slice (.t 43), none⟩,
  ⟨(some 45), .bin .sub .num (.t 44) (.c (.int .i64 1)), none⟩,
  ⟨(some 46), .callf 14 [(.t 38), (.t 45)], none⟩]

abbrev F8_r6 : List SI := [
  ⟨(some 47), .bin .add .num (.t 8) (.c (.int .i64 1)), none⟩,
  ⟨(some 8), .mv (.t 47), none⟩]

abbrev F8_l7 : SCode := (.seq (.region F8_r1 (some [0, 6, 7, 8, 9])) (.seq (.cond (.t 9) .skip (.exit 0)) (.seq (.block 1 (.seq (.region F8_r2 (some [0, 5, 6, 7, 8])) (.seq (.region F8_r3 (some [0, 6, 7, 8])) (.seq (.region F8_r4 (some [0, 6, 7, 8])) (.region F8_r5 (some [0, 6, 7, 8])))))) (.region F8_r6 (some [0, 6, 7, 8])))))

abbrev F8_b : SCode := (.seq (.region F8_r0 (some [0, 6, 7, 8])) (.block 0 (.loop [0, 6, 7, 8] F8_l7)))

@[simp] def F8 : SFunc := ⟨2, .keep, F8_b, []⟩

/-- archivist/archivistlaw20.few2 -/
abbrev F9_r0 : List SI := [
  ⟨(some 2), .mv (.c (.nils)), none⟩]

abbrev F9_r1 : List SI := [
  ⟨(some 3), .mv (.c (.nils)), none⟩]

abbrev F9_r2 : List SI := [
  ⟨(some 4), .mv (.c (.int .i64 0)), none⟩]

abbrev F9_r3 : List SI := [
  ⟨(some 6), .mv (.t 4), none⟩,
  ⟨(some 7), .mv (.t 0), none⟩,
  ⟨(some 8), .len none .slice (.t 7), none⟩,
  ⟨(some 9), .bin .lss .num (.t 6) (.t 8), none⟩,
  ⟨(some 10), .mv (.t 9), none⟩,
  ⟨(some 11), .mv (.t 4), some (10, true)⟩,
  ⟨(some 12), .bin .lss .num (.t 11) (.c (.int .i64 2)), some (10, true)⟩,
  ⟨(some 13), .pick (.t 10) (.t 12) (.c (.bool false)), none⟩]

abbrev F9_r4 : List SI := [
  ⟨(some 16), .mv (.t 0), none⟩,
  ⟨(some 17), .mv (.t 4), none⟩,
  ⟨(some 18), .iaddr none 4 (.t 16) (.t 17), none⟩,
  ⟨(some 19), .load .heap (some 4) (.t 18), none⟩,
  ⟨(some 5), .new (.loc 5) [.str [], .str [], .bool false, .int .u8 0], none⟩,
  ⟨none, .store .own 4 (.t 5) (.t 19), none⟩]

abbrev F9_r5 : List SI := [
  ⟨(some 20), .faddr 2 (.t 5), none⟩,
  ⟨none, .store .own 1 (.t 20) (.c (.bool true)), none⟩]

abbrev F9_r6 : List SI := [
  ⟨(some 21), .mv (.t 3), none⟩,
  ⟨(some 22), .load .own (some 4) (.t 5), none⟩,
  ⟨(some 23), .callf 11 [(.t 22)], none⟩,
  ⟨(some 24), .bslice false 2 [[.str [], .str []]] [(0, (.t 23))], none⟩,
  ⟨(some 25), .append 2 none (.t 21) (.t 24), none⟩,
  ⟨(some 3), .mv (.t 25), none⟩]

abbrev F9_r7 : List SI := [
  ⟨(some 14), .mv (.t 4), none⟩,
  ⟨(some 15), .bin .add .num (.t 14) (.c (.int .i64 1)), none⟩,
  ⟨(some 4), .mv (.t 15), none⟩]

abbrev F9_l8 : SCode := (.seq (.seq (.region F9_r3 (some [0, 3, 4, 13])) (.cond (.t 13) .skip (.exit 0))) (.seq (.block 1 (.seq (.region F9_r4 (some [0, 3, 4, 5])) (.seq (.region F9_r5 (some [0, 3, 4, 5])) (.region F9_r6 (some [0, 3, 4]))))) (.region F9_r7 (some [0, 3, 4]))))

abbrev F9_r9 : List SI := [
  ⟨(some 26), .mv (.t 3), none⟩,
  ⟨(some 27), .callf 13 [(.t 26)], none⟩,
  ⟨(some 2), .mv (.t 27), none⟩]

abbrev F9_b : SCode := (.seq (.region F9_r0 (some [0])) (.seq (.region F9_r1 (some [0, 3])) (.seq (.seq (.region F9_r2 (some [0, 3, 4])) (.block 0 (.loop [0, 3, 4] F9_l8))) (.seq (.region F9_r9 (some [2])) .ret))))

@[simp] def F9 : SFunc := ⟨1, .pure, F9_b, [.t 2]⟩

/-- (*archivist/heap.Heap[archivist/entry.Entry]).Push -/
abbrev F10_r0 : List SI := [
  ⟨(some 6), .mv (.t 1), none⟩,
  ⟨(some 7), .len none .slice (.t 6), none⟩,
  ⟨(some 8), .mv (.c (.int .i64 0)), none⟩]

abbrev F10_r1 : List SI := [
  ⟨(some 9), .bin .lss .num (.t 8) (.t 7), none⟩]

abbrev F10_r2 : List SI := [
  ⟨(some 10), .iaddr none 3 (.t 6) (.t 8), none⟩,
  ⟨(some 11), .load .heap (some 3) (.t 10), none⟩,
  ⟨(some 5), .new (.loc 5) [.int .i64 0, .nils, .str []], none⟩,
  ⟨none, .store .own 3 (.t 5) (.t 11), none⟩]

abbrev F10_r3 : List SI := [
  ⟨(some 12), .mv (.t 0), none⟩,
  ⟨(some 13), .mv (.t 0), none⟩,
  ⟨(some 14), .nilchk (.t 13), none⟩,
  ⟨(some 15), .faddr 0 (.t 14), none⟩,
  ⟨(some 16), .faddr 0 (.t 15), none⟩,
  ⟨(some 17), .load .heap none (.t 16), none⟩,
  ⟨(some 18), .load .own (some 3) (.t 5), none⟩,
  ⟨(some 19), .mv (.t 0), none⟩,
  ⟨(some 20), .nilchk (.t 19), none⟩,
  ⟨(some 21), .faddr 2 (.t 20), none⟩,
  ⟨(some 22), .load .heap none (.t 21), none⟩,
  ⟨(some 23), .build [.int .i64 0, .nils, .str [], .int .i64 0] [(0, 3, (.t 18)), (3, 1, (.t 22))], none⟩,
  ⟨(some 24), .bslice false 4 [[.int .i64 0, .nils, .str [], .int .i64 0]] [(0, (.t 23))], none⟩,
  ⟨(some 25), .append 4 none (.t 17) (.t 24), none⟩,
  ⟨(some 26), .nilchk (.t 12), none⟩,
  ⟨(some 27), .faddr 0 (.t 26), none⟩,
  ⟨(some 28), .faddr 0 (.t 27), none⟩,
  ⟨none, .store .heap 1 (.t 28) (.t 25), none⟩]

abbrev F10_r4 : List SI := [
  ⟨(some 29), .mv (.t 0), none⟩,
  ⟨(some 30), .nilchk (.t 29), none⟩,
  ⟨(some 31), .faddr 2 (.t 30), none⟩,
  ⟨(some 32), .load .heap none (.t 31), none⟩,
  ⟨(some 33), .bin .add .num (.t 32) (.c (.int .i64 1)), none⟩,
  ⟨(some 34), .nilchk (.t 29), none⟩,
  ⟨(some 35), .faddr 2 (.t 34), none⟩,
  ⟨none, .store .heap 1 (.t 35) (.t 33), none⟩]

abbrev F10_r5 : List SI := [
  ⟨(some 36), .mv (.t 0), none⟩,
  ⟨(some 37), .nilchk (.t 36), none⟩,
  ⟨(some 38), .faddr 0 (.t 37), none⟩,
  ⟨(some 39), .mv (.t 0), none⟩,
  ⟨(some 40), .nilchk (.t 39), none⟩,
  ⟨(some 41), .faddr 0 (.t 40), none⟩,
  ⟨(some 42), .faddr 0 (.t 41), none⟩,
  ⟨(some 43), .load .heap none (.t 42), none⟩,
  ⟨(some 44), .len none .slice (.t 43), none⟩,
  ⟨(some 45), .bin .sub .num (.t 44) (.c (.int .i64 1)), none⟩,
  ⟨(some 46), .callf 16 [(.t 38), (.t 45)], none⟩]

abbrev F10_r6 : List SI := [
  ⟨(some 47), .bin .add .num (.t 8) (.c (.int .i64 1)), none⟩,
  ⟨(some 8), .mv (.t 47), none⟩]

abbrev F10_l7 : SCode := (.seq (.region F10_r1 (some [0, 6, 7, 8, 9])) (.seq (.cond (.t 9) .skip (.exit 0)) (.seq (.block 1 (.seq (.region F10_r2 (some [0, 5, 6, 7, 8])) (.seq (.region F10_r3 (some [0, 6, 7, 8])) (.seq (.region F10_r4 (some [0, 6, 7, 8])) (.region F10_r5 (some [0, 6, 7, 8])))))) (.region F10_r6 (some [0, 6, 7, 8])))))

abbrev F10_b : SCode := (.seq (.region F10_r0 (some [0, 6, 7, 8])) (.block 0 (.loop [0, 6, 7, 8] F10_l7)))

@[simp] def F10 : SFunc := ⟨2, .keep, F10_b, []⟩

/-- (archivist/archivistlaw20.Tag).tag -/
abbrev F11_r0 : List SI := [
  ⟨(some 1), .box .imm (.t 0), none⟩,
  ⟨(some 2), .new (.loc 2) [.str [], .str []], none⟩]

abbrev F11_r1 : List SI := [
  ⟨(some 3), .faddr 2 (.t 1), none⟩,
  ⟨(some 4), .load .imm none (.t 3), none⟩,
  ⟨(some 5), .un .not (.t 4), none⟩]

abbrev F11_r2 : List SI := [
  ⟨(some 6), .faddr 0 (.t 1), none⟩,
  ⟨(some 7), .load .imm (some 2) (.t 6), none⟩,
  ⟨none, .store .own 2 (.t 2) (.t 7), none⟩]

abbrev F11_r3 : List SI := [
  ⟨(some 8), .bslice false 1 [[.str []], [.str []], [.str []], [.str []], [.str []]] [(0, (.c (.str [97, 112, 112]))), (1, (.c (.str [101, 110, 118]))), (2, (.c (.str [108, 118, 108]))), (3, (.c (.str [100, 117, 114]))), (4, (.c (.str [110])))], none⟩,
  ⟨(some 9), .faddr 3 (.t 1), none⟩,
  ⟨(some 10), .load .imm none (.t 9), none⟩,
  ⟨(some 11), .bin .rem .num (.t 10) (.c (.int .u8 5)), none⟩,
  ⟨(some 12), .iaddr none 1 (.t 8) (.t 11), none⟩,
  ⟨(some 13), .load .heap none (.t 12), none⟩,
  ⟨(some 14), .bslice false 1 [[.str []], [.str []], [.str []], [.str []], [.str []], [.str []], [.str []], [.str []]] [(0, (.c (.str [97]))), (1, (.c (.str [98]))), (2, (.c (.str [120, 49]))), (3, (.c (.str [53, 109]))), (4, (.c (.str [55]))), (5, (.c (.str []))), (6, (.c (.str [50, 75, 66]))), (7, (.c (.str [97, 98])))], none⟩,
  ⟨(some 15), .faddr 3 (.t 1), none⟩,
  ⟨(some 16), .load .imm none (.t 15), none⟩,
  ⟨(some 17), .bin .quo .num (.t 16) (.c (.int .u8 5)), none⟩,
  ⟨(some 18), .bin .rem .num (.t 17) (.c (.int .u8 8)), none⟩,
  ⟨(some 19), .iaddr none 1 (.t 14) (.t 18), none⟩,
  ⟨(some 20), .load .heap none (.t 19), none⟩,
  ⟨(some 21), .build [.str [], .str []] [(0, 1, (.t 13)), (1, 1, (.t 20))], none⟩,
  ⟨none, .store .own 2 (.t 2) (.t 21), none⟩]

abbrev F11_b : SCode := (.seq (.region F11_r0 (some [1, 2])) (.seq (.seq (.region F11_r1 (some [1, 2, 5])) (.cond (.t 5) (.seq (.region F11_r2 (some [2])) .ret) .skip)) (.seq (.region F11_r3 (some [2])) .ret)))

@[simp] def F11 : SFunc := ⟨1, .pure, F11_b, [.cell 2 (some 2)]⟩

/-- (*archivist/heap.list[[]archivist/entry.Entry]).down -/
abbrev F12_r0 : List SI := [
  ⟨(some 7), .mv (.t 1), none⟩,
  ⟨(some 4), .mv (.t 7), none⟩]

abbrev F12_r1 : List SI := [
  ⟨(some 8), .mv (.t 1), none⟩,
  ⟨(some 9), .bin .mul .num (.c (.int .i64 2)) (.t 8), none⟩,
  ⟨(some 10), .bin .add .num (.t 9) (.c (.int .i64 1)), none⟩,
  ⟨(some 11), .mv (.t 1), none⟩,
  ⟨(some 12), .bin .mul .num (.c (.int .i64 2)) (.t 11), none⟩,
  ⟨(some 13), .bin .add .num (.t 12) (.c (.int .i64 2)), none⟩,
  ⟨(some 14), .bslice false 1 [[.int .i64 0], [.int .i64 0]] [(0, (.t 10)), (1, (.t 13))], none⟩,
  ⟨(some 15), .len none .slice (.t 14), none⟩,
  ⟨(some 16), .mv (.c (.int .i64 0)), none⟩]

abbrev F12_r2 : List SI := [
  ⟨(some 17), .bin .lss .num (.t 16) (.t 15), none⟩]

abbrev F12_r3 : List SI := [
  ⟨(some 18), .iaddr none 1 (.t 14) (.t 16), none⟩,
  ⟨(some 19), .load .heap none (.t 18), none⟩,
  ⟨(some 6), .mv (.t 19), none⟩]

abbrev F12_r4 : List SI := [
  ⟨(some 20), .mv (.t 6), none⟩,
  ⟨(some 21), .mv (.t 0), none⟩,
  ⟨(some 22), .nilchk (.t 21), none⟩,
  ⟨(some 23), .faddr 0 (.t 22), none⟩,
  ⟨(some 24), .load .heap none (.t 23), none⟩,
  ⟨(some 25), .len none .slice (.t 24), none⟩,
  ⟨(some 26), .bin .lss .num (.t 20) (.t 25), none⟩,
  ⟨(some 27), .mv (.t 26), none⟩,
  ⟨(some 28), .mv (.t 0), some (27, true)⟩,
  ⟨(some 29), .mv (.t 6), some (27, true)⟩,
  ⟨(some 30), .mv (.t 4), some (27, true)⟩,
  ⟨(some 31), .callf 87 [(.t 28), (.t 29), (.t 30)], some (27, true)⟩,
  ⟨(some 32), .pick (.t 27) (.t 31) (.c (.bool false)), none⟩]

abbrev F12_r5 : List SI := [
  ⟨(some 33), .mv (.t 6), none⟩,
  ⟨(some 4), .mv (.t 33), none⟩]

abbrev F12_r6 : List SI := [
  ⟨(some 34), .bin .add .num (.t 16) (.c (.int .i64 1)), none⟩,
  ⟨(some 16), .mv (.t 34), none⟩]

abbrev F12_l7 : SCode := (.seq (.region F12_r2 (some [0, 1, 4, 14, 15, 16, 17])) (.seq (.cond (.t 17) .skip (.exit 2)) (.seq (.block 3 (.seq (.region F12_r3 (some [0, 1, 4, 6, 14, 15, 16])) (.seq (.region F12_r4 (some [0, 1, 4, 6, 14, 15, 16, 32])) (.cond (.t 32) (.region F12_r5 (some [0, 1, 4, 14, 15, 16])) .skip)))) (.region F12_r6 (some [0, 1, 4, 14, 15, 16])))))

abbrev F12_r8 : List SI := [
  ⟨(some 35), .mv (.t 4), none⟩,
  ⟨(some 36), .mv (.t 1), none⟩,
  ⟨(some 37), .bin .eql .num (.t 35) (.t 36), none⟩]

abbrev F12_r9 : List SI := [
  ⟨(some 38), .mv (.t 0), none⟩,
  ⟨(some 39), .nilchk (.t 38), none⟩,
  ⟨(some 40), .faddr 0 (.t 39), none⟩,
  ⟨(some 41), .load .heap none (.t 40), none⟩,
  ⟨(some 42), .mv (.t 1), none⟩,
  ⟨(some 43), .mv (.t 0), none⟩,
  ⟨(some 44), .nilchk (.t 43), none⟩,
  ⟨(some 45), .faddr 0 (.t 44), none⟩,
  ⟨(some 46), .load .heap none (.t 45), none⟩,
  ⟨(some 47), .mv (.t 4), none⟩,
  ⟨(some 48), .mv (.t 0), none⟩,
  ⟨(some 49), .nilchk (.t 48), none⟩,
  ⟨(some 50), .faddr 0 (.t 49), none⟩,
  ⟨(some 51), .load .heap none (.t 50), none⟩,
  ⟨(some 52), .mv (.t 4), none⟩,
  ⟨(some 53), .iaddr none 2 (.t 51) (.t 52), none⟩,
  ⟨(some 54), .load .heap (some 2) (.t 53), none⟩,
  ⟨(some 55), .mv (.t 0), none⟩,
  ⟨(some 56), .nilchk (.t 55), none⟩,
  ⟨(some 57), .faddr 0 (.t 56), none⟩,
  ⟨(some 58), .load .heap none (.t 57), none⟩,
  ⟨(some 59), .mv (.t 1), none⟩,
  ⟨(some 60), .iaddr none 2 (.t 58) (.t 59), none⟩,
  ⟨(some 61), .load .heap (some 2) (.t 60), none⟩,
  ⟨(some 62), .iaddr none 2 (.t 41) (.t 42), none⟩,
  ⟨none, .store .heap 2 (.t 62) (.t 54), none⟩,
  ⟨(some 63), .iaddr none 2 (.t 46) (.t 47), none⟩,
  ⟨none, .store .heap 2 (.t 63) (.t 61), none⟩]

abbrev F12_r10 : List SI := [
  ⟨(some 64), .mv (.t 4), none⟩,
  ⟨(some 1), .mv (.t 64), none⟩]

abbrev F12_l11 : SCode := (.block 1 (.seq (.region F12_r0 (some [0, 1, 4])) (.seq (.seq (.region F12_r1 (some [0, 1, 4, 14, 15, 16])) (.block 2 (.loop [0, 1, 4, 14, 15, 16] F12_l7))) (.seq (.seq (.region F12_r8 (some [0, 1, 4, 37])) (.cond (.t 37) .ret .skip)) (.seq (.region F12_r9 (some [0, 4])) (.region F12_r10 (some [0, 1])))))))

abbrev F12_b : SCode := (.block 0 (.loop [0, 1] F12_l11))

@[simp] def F12 : SFunc := ⟨2, .keep, F12_b, []⟩

/-- archivist/label.Of -/
abbrev F13_r0 : List SI := [
  ⟨(some 2), .mv (.c (.nils)), none⟩]

abbrev F13_r1 : List SI := [
  ⟨(some 3), .mv (.c (.nils)), none⟩]

abbrev F13_r2 : List SI := [
  ⟨(some 8), .mv (.t 0), none⟩,
  ⟨(some 9), .len none .slice (.t 8), none⟩,
  ⟨(some 10), .mv (.c (.int .i64 0)), none⟩]

abbrev F13_r3 : List SI := [
  ⟨(some 11), .bin .lss .num (.t 10) (.t 9), none⟩]

abbrev F13_r4 : List SI := [
  ⟨(some 12), .iaddr none 2 (.t 8) (.t 10), none⟩,
  ⟨(some 13), .load .heap (some 2) (.t 12), none⟩,
  ⟨(some 5), .new (.loc 5) [.str [], .str []], none⟩,
  ⟨none, .store .own 2 (.t 5) (.t 13), none⟩]

abbrev F13_r5 : List SI := [
  ⟨(some 14), .faddr 0 (.t 5), none⟩,
  ⟨(some 15), .load .own none (.t 14), none⟩,
  ⟨(some 16), .callf 15 [(.t 15)], none⟩,
  ⟨(some 17), .un .not (.t 16), none⟩]

abbrev F13_r6 : List SI := [
  ⟨(some 19), .mv (.t 3), none⟩,
  ⟨(some 20), .load .own (some 2) (.t 5), none⟩,
  ⟨(some 21), .callf 17 [(.t 19), (.t 20), (.f 19)], none⟩,
  ⟨(some 18), .mv (.t 21), none⟩,
  ⟨(some 22), .extract 0 (.t 18), none⟩,
  ⟨(some 23), .extract 1 (.t 18), none⟩,
  ⟨(some 6), .mv (.t 22), none⟩,
  ⟨(some 7), .mv (.t 23), none⟩]

abbrev F13_r7 : List SI := [
  ⟨(some 24), .mv (.t 7), none⟩]

abbrev F13_r8 : List SI := [
  ⟨(some 25), .mv (.t 3), none⟩,
  ⟨(some 26), .mv (.t 6), none⟩,
  ⟨(some 27), .load .own (some 2) (.t 5), none⟩,
  ⟨(some 28), .iaddr none 2 (.t 25) (.t 26), none⟩,
  ⟨none, .store .heap 2 (.t 28) (.t 27), none⟩]

abbrev F13_r9 : List SI := [
  ⟨(some 29), .mv (.t 3), none⟩,
  ⟨(some 30), .mv (.t 6), none⟩,
  ⟨(some 31), .load .own (some 2) (.t 5), none⟩,
  ⟨(some 32), .bslice false 2 [[.str [], .str []]] [(0, (.t 31))], none⟩,
  ⟨(some 33), .callf 34 [(.t 29), (.t 30), (.t 32)], none⟩,
  ⟨(some 3), .mv (.t 33), none⟩]

abbrev F13_r10 : List SI := [
  ⟨(some 34), .bin .add .num (.t 10) (.c (.int .i64 1)), none⟩,
  ⟨(some 10), .mv (.t 34), none⟩]

abbrev F13_l11 : SCode := (.seq (.region F13_r3 (some [3, 8, 9, 10, 11])) (.seq (.cond (.t 11) .skip (.exit 0)) (.seq (.block 1 (.seq (.region F13_r4 (some [3, 5, 8, 9, 10])) (.seq (.seq (.region F13_r5 (some [3, 5, 8, 9, 10, 17])) (.cond (.t 17) (.exit 1) .skip)) (.seq (.region F13_r6 (some [3, 5, 6, 7, 8, 9, 10])) (.seq (.region F13_r7 (some [3, 5, 6, 8, 9, 10, 24])) (.cond (.t 24) (.region F13_r8 (some [3, 8, 9, 10])) (.region F13_r9 (some [3, 8, 9, 10])))))))) (.region F13_r10 (some [3, 8, 9, 10])))))

abbrev F13_r12 : List SI := [
  ⟨(some 35), .mv (.t 3), none⟩,
  ⟨(some 2), .mv (.t 35), none⟩]

abbrev F13_b : SCode := (.seq (.region F13_r0 (some [0])) (.seq (.region F13_r1 (some [0, 3])) (.seq (.seq (.region F13_r2 (some [3, 8, 9, 10])) (.block 0 (.loop [3, 8, 9, 10] F13_l11))) (.seq (.region F13_r12 (some [2])) .ret))))

@[simp] def F13 : SFunc := ⟨1, .pure, F13_b, [.t 2]⟩

/-- (*archivist/heap.list[[]archivist/entry.Entry]).up -/
abbrev F14_r0 : List SI := [
  ⟨(some 4), .mv (.t 1), none⟩,
  ⟨(some 5), .bin .gtr .num (.t 4) (.c (.int .i64 0)), none⟩,
  ⟨(some 6), .mv (.t 5), none⟩,
  ⟨(some 7), .mv (.t 0), some (6, true)⟩,
  ⟨(some 8), .mv (.t 1), some (6, true)⟩,
  ⟨(some 9), .mv (.t 1), some (6, true)⟩,
  ⟨(some 10), .bin .sub .num (.t 9) (.c (.int .i64 1)), some (6, true)⟩,
  ⟨(some 11), .bin .quo .num (.t 10) (.c (.int .i64 2)), some (6, true)⟩,
  ⟨(some 12), .callf 87 [(.t 7), (.t 8), (.t 11)], some (6, true)⟩,
  ⟨(some 13), .pick (.t 6) (.t 12) (.c (.bool false)), none⟩]

abbrev F14_r1 : List SI := [
  ⟨(some 14), .mv (.t 0), none⟩,
  ⟨(some 15), .nilchk (.t 14), none⟩,
  ⟨(some 16), .faddr 0 (.t 15), none⟩,
  ⟨(some 17), .load .heap none (.t 16), none⟩,
  ⟨(some 18), .mv (.t 1), none⟩,
  ⟨(some 19), .mv (.t 0), none⟩,
  ⟨(some 20), .nilchk (.t 19), none⟩,
  ⟨(some 21), .faddr 0 (.t 20), none⟩,
  ⟨(some 22), .load .heap none (.t 21), none⟩,
  ⟨(some 23), .mv (.t 1), none⟩,
  ⟨(some 24), .bin .sub .num (.t 23) (.c (.int .i64 1)), none⟩,
  ⟨(some 25), .bin .quo .num (.t 24) (.c (.int .i64 2)), none⟩,
  ⟨(some 26), .mv (.t 0), none⟩,
  ⟨(some 27), .nilchk (.t 26), none⟩,
  ⟨(some 28), .faddr 0 (.t 27), none⟩,
  ⟨(some 29), .load .heap none (.t 28), none⟩,
  ⟨(some 30), .mv (.t 1), none⟩,
  ⟨(some 31), .bin .sub .num (.t 30) (.c (.int .i64 1)), none⟩,
  ⟨(some 32), .bin .quo .num (.t 31) (.c (.int .i64 2)), none⟩,
  ⟨(some 33), .iaddr none 2 (.t 29) (.t 32), none⟩,
  ⟨(some 34), .load .heap (some 2) (.t 33), none⟩,
  ⟨(some 35), .mv (.t 0), none⟩,
  ⟨(some 36), .nilchk (.t 35), none⟩,
  ⟨(some 37), .faddr 0 (.t 36), none⟩,
  ⟨(some 38), .load .heap none (.t 37), none⟩,
  ⟨(some 39), .mv (.t 1), none⟩,
  ⟨(some 40), .iaddr none 2 (.t 38) (.t 39), none⟩,
  ⟨(some 41), .load .heap (some 2) (.t 40), none⟩,
  ⟨(some 42), .iaddr none 2 (.t 17) (.t 18), none⟩,
  ⟨none, .store .heap 2 (.t 42) (.t 34), none⟩,
  ⟨(some 43), .iaddr none 2 (.t 22) (.t 25), none⟩,
  ⟨none, .store .heap 2 (.t 43) (.t 41), none⟩]

abbrev F14_r2 : List SI := [
  ⟨(some 44), .mv (.t 1), none⟩,
  ⟨(some 45), .bin .sub .num (.t 44) (.c (.int .i64 1)), none⟩,
  ⟨(some 46), .bin .quo .num (.t 45) (.c (.int .i64 2)), none⟩,
  ⟨(some 1), .mv (.t 46), none⟩]

abbrev F14_l3 : SCode := (.seq (.seq (.region F14_r0 (some [0, 1, 13])) (.cond (.t 13) .skip (.exit 0))) (.block 1 (.seq (.region F14_r1 (some [0, 1])) (.region F14_r2 (some [0, 1])))))

abbrev F14_b : SCode := (.block 0 (.loop [0, 1] F14_l3))

@[simp] def F14 : SFunc := ⟨2, .keep, F14_b, []⟩

/-- archivist/label.Name -/
abbrev F15_r0 : List SI := [
  ⟨(some 2), .mv (.c (.bool false)), none⟩]

abbrev F15_r1 : List SI := [
  ⟨(some 6), .mv (.t 0), none⟩,
  ⟨(some 7), .bin .eql .num (.t 6) (.c (.str [])), none⟩,
  ⟨(some 8), .mv (.t 7), none⟩,
  ⟨(some 9), .mv (.t 0), some (8, false)⟩,
  ⟨(some 10), .len none .str (.t 9), some (8, false)⟩,
  ⟨(some 11), .bin .gtr .num (.t 10) (.c (.int .i64 32)), some (8, false)⟩,
  ⟨(some 12), .pick (.t 8) (.c (.bool true)) (.t 11), none⟩,
  ⟨(some 13), .mv (.t 12), none⟩,
  ⟨(some 14), .mv (.t 0), some (13, false)⟩,
  ⟨(some 15), .idx none (.t 14) (.c (.int .i64 0)), some (13, false)⟩,
  ⟨(some 16), .bin .geq .num (.t 15) (.c (.int .u8 48)), some (13, false)⟩,
  ⟨(some 17), .mv (.t 16), some (13, false)⟩,
  ⟨(some 18), .mv (.t 0), some (17, true)⟩,
  ⟨(some 19), .idx none (.t 18) (.c (.int .i64 0)), some (17, true)⟩,
  ⟨(some 20), .bin .leq .num (.t 19) (.c (.int .u8 57)), some (17, true)⟩,
  ⟨(some 21), .pick (.t 17) (.t 20) (.c (.bool false)), some (13, false)⟩,
  ⟨(some 22), .pick (.t 13) (.c (.bool true)) (.t 21), none⟩]

abbrev F15_r2 : List SI := [
  ⟨(some 2), .mv (.c (.bool false)), none⟩]

abbrev F15_r3 : List SI := [
  ⟨(some 23), .mv (.t 0), none⟩,
  ⟨(some 24), .s2b false (.t 23), none⟩,
  ⟨(some 25), .len none .slice (.t 24), none⟩,
  ⟨(some 26), .mv (.c (.int .i64 0)), none⟩]

abbrev F15_r4 : List SI := [
  ⟨(some 27), .bin .lss .num (.t 26) (.t 25), none⟩]

abbrev F15_r5 : List SI := [
  ⟨(some 28), .iaddr none 1 (.t 24) (.t 26), none⟩,
  ⟨(some 29), .load .heap none (.t 28), none⟩,
  ⟨(some 4), .mv (.t 29), none⟩]

abbrev F15_r6 : List SI := [
  ⟨(some 30), .mv (.t 4), none⟩,
  ⟨(some 31), .bin .or .num (.t 30) (.c (.int .u8 32)), none⟩,
  ⟨(some 5), .mv (.t 31), none⟩]

abbrev F15_r7 : List SI := [
  ⟨(some 32), .mv (.t 4), none⟩,
  ⟨(some 33), .bin .neq .num (.t 32) (.c (.int .u8 95)), none⟩,
  ⟨(some 34), .mv (.t 33), none⟩,
  ⟨(some 35), .mv (.t 4), some (34, true)⟩,
  ⟨(some 36), .bin .lss .num (.t 35) (.c (.int .u8 48)), some (34, true)⟩,
  ⟨(some 37), .mv (.t 36), some (34, true)⟩,
  ⟨(some 38), .mv (.t 4), some (37, false)⟩,
  ⟨(some 39), .bin .gtr .num (.t 38) (.c (.int .u8 57)), some (37, false)⟩,
  ⟨(some 40), .pick (.t 37) (.c (.bool true)) (.t 39), some (34, true)⟩,
  ⟨(some 41), .pick (.t 34) (.t 40) (.c (.bool false)), none⟩,
  ⟨(some 42), .mv (.t 41), none⟩,
  ⟨(some 43), .mv (.t 4), some (42, true)⟩,
  ⟨(some 44), .bin .lss .num (.t 43) (.c (.int .u8 65)), some (42, true)⟩,
  ⟨(some 45), .mv (.t 44), some (42, true)⟩,
  ⟨(some 46), .mv (.t 5), some (45, false)⟩,
  ⟨(some 47), .bin .lss .num (.t 46) (.c (.int .u8 97)), some (45, false)⟩,
  ⟨(some 48), .pick (.t 45) (.c (.bool true)) (.t 47), some (42, true)⟩,
  ⟨(some 49), .mv (.t 48), some (42, true)⟩,
  ⟨(some 50), .mv (.t 5), some (49, false)⟩,
  ⟨(some 51), .bin .gtr .num (.t 50) (.c (.int .u8 122)), some (49, false)⟩,
  ⟨(some 52), .pick (.t 49) (.c (.bool true)) (.t 51), some (42, true)⟩,
  ⟨(some 53), .pick (.t 42) (.t 52) (.c (.bool false)), none⟩]

abbrev F15_r8 : List SI := [
  ⟨(some 2), .mv (.c (.bool false)), none⟩]

abbrev F15_r9 : List SI := [
  ⟨(some 54), .bin .add .num (.t 26) (.c (.int .i64 1)), none⟩,
  ⟨(some 26), .mv (.t 54), none⟩]

abbrev F15_l10 : SCode := (.seq (.region F15_r4 (some [24, 25, 26, 27])) (.seq (.cond (.t 27) .skip (.exit 0)) (.seq (.block 1 (.seq (.region F15_r5 (some [4, 24, 25, 26])) (.seq (.region F15_r6 (some [4, 5, 24, 25, 26])) (.seq (.region F15_r7 (some [24, 25, 26, 53])) (.cond (.t 53) (.seq (.region F15_r8 (some [2])) .ret) .skip))))) (.region F15_r9 (some [24, 25, 26])))))

abbrev F15_r11 : List SI := [
  ⟨(some 2), .mv (.c (.bool true)), none⟩]

abbrev F15_b : SCode := (.seq (.region F15_r0 (some [0])) (.seq (.seq (.region F15_r1 (some [0, 22])) (.cond (.t 22) (.seq (.region F15_r2 (some [2])) .ret) .skip)) (.seq (.seq (.region F15_r3 (some [24, 25, 26])) (.block 0 (.loop [24, 25, 26] F15_l10))) (.seq (.region F15_r11 (some [2])) .ret))))

@[simp] def F15 : SFunc := ⟨1, .pure, F15_b, [.t 2]⟩

/-- (*archivist/heap.list[archivist/entry.Entry]).up -/
abbrev F16_r0 : List SI := [
  ⟨(some 4), .mv (.t 1), none⟩,
  ⟨(some 5), .bin .gtr .num (.t 4) (.c (.int .i64 0)), none⟩,
  ⟨(some 6), .mv (.t 5), none⟩,
  ⟨(some 7), .mv (.t 0), some (6, true)⟩,
  ⟨(some 8), .mv (.t 1), some (6, true)⟩,
  ⟨(some 9), .mv (.t 1), some (6, true)⟩,
  ⟨(some 10), .bin .sub .num (.t 9) (.c (.int .i64 1)), some (6, true)⟩,
  ⟨(some 11), .bin .quo .num (.t 10) (.c (.int .i64 2)), some (6, true)⟩,
  ⟨(some 12), .callf 89 [(.t 7), (.t 8), (.t 11)], some (6, true)⟩,
  ⟨(some 13), .pick (.t 6) (.t 12) (.c (.bool false)), none⟩]

abbrev F16_r1 : List SI := [
  ⟨(some 14), .mv (.t 0), none⟩,
  ⟨(some 15), .nilchk (.t 14), none⟩,
  ⟨(some 16), .faddr 0 (.t 15), none⟩,
  ⟨(some 17), .load .heap none (.t 16), none⟩,
  ⟨(some 18), .mv (.t 1), none⟩,
  ⟨(some 19), .mv (.t 0), none⟩,
  ⟨(some 20), .nilchk (.t 19), none⟩,
  ⟨(some 21), .faddr 0 (.t 20), none⟩,
  ⟨(some 22), .load .heap none (.t 21), none⟩,
  ⟨(some 23), .mv (.t 1), none⟩,
  ⟨(some 24), .bin .sub .num (.t 23) (.c (.int .i64 1)), none⟩,
  ⟨(some 25), .bin .quo .num (.t 24) (.c (.int .i64 2)), none⟩,
  ⟨(some 26), .mv (.t 0), none⟩,
  ⟨(some 27), .nilchk (.t 26), none⟩,
  ⟨(some 28), .faddr 0 (.t 27), none⟩,
  ⟨(some 29), .load .heap none (.t 28), none⟩,
  ⟨(some 30), .mv (.t 1), none⟩,
  ⟨(some 31), .bin .sub .num (.t 30) (.c (.int .i64 1)), none⟩,
  ⟨(some 32), .bin .quo .num (.t 31) (.c (.int .i64 2)), none⟩,
  ⟨(some 33), .iaddr none 4 (.t 29) (.t 32), none⟩,
  ⟨(some 34), .load .heap (some 4) (.t 33), none⟩,
  ⟨(some 35), .mv (.t 0), none⟩,
  ⟨(some 36), .nilchk (.t 35), none⟩,
  ⟨(some 37), .faddr 0 (.t 36), none⟩,
  ⟨(some 38), .load .heap none (.t 37), none⟩,
  ⟨(some 39), .mv (.t 1), none⟩,
  ⟨(some 40), .iaddr none 4 (.t 38) (.t 39), none⟩,
  ⟨(some 41), .load .heap (some 4) (.t 40), none⟩,
  ⟨(some 42), .iaddr none 4 (.t 17) (.t 18), none⟩,
  ⟨none, .store .heap 4 (.t 42) (.t 34), none⟩,
  ⟨(some 43), .iaddr none 4 (.t 22) (.t 25), none⟩,
  ⟨none, .store .heap 4 (.t 43) (.t 41), none⟩]

abbrev F16_r2 : List SI := [
  ⟨(some 44), .mv (.t 1), none⟩,
  ⟨(some 45), .bin .sub .num (.t 44) (.c (.int .i64 1)), none⟩,
  ⟨(some 46), .bin .quo .num (.t 45) (.c (.int .i64 2)), none⟩,
  ⟨(some 1), .mv (.t 46), none⟩]

abbrev F16_l3 : SCode := (.seq (.seq (.region F16_r0 (some [0, 1, 13])) (.cond (.t 13) .skip (.exit 0))) (.block 1 (.seq (.region F16_r1 (some [0, 1])) (.region F16_r2 (some [0, 1])))))

abbrev F16_b : SCode := (.block 0 (.loop [0, 1] F16_l3))

@[simp] def F16 : SFunc := ⟨2, .keep, F16_b, []⟩

/-- slices.BinarySearchFunc[archivist/label.Set,archivist/label.Pair,archivist/label.Pair] -/
abbrev F17_r0 : List SI := [
  ⟨(some 4), .box .imm (.t 1), none⟩,
  ⟨(some 6), .mv (.c (.int .i64 0)), none⟩,
  ⟨(some 7), .mv (.c (.bool false)), none⟩]

abbrev F17_r1 : List SI := [
  ⟨(some 12), .mv (.t 0), none⟩,
  ⟨(some 13), .len none .slice (.t 12), none⟩,
  ⟨(some 8), .mv (.t 13), none⟩]

abbrev F17_r2 : List SI := [
  ⟨(some 14), .mv (.t 8), none⟩,
  ⟨(some 9), .mv (.c (.int .i64 0)), none⟩,
  ⟨(some 10), .mv (.t 14), none⟩]

abbrev F17_r3 : List SI := [
  ⟨(some 15), .mv (.t 9), none⟩,
  ⟨(some 16), .mv (.t 10), none⟩,
  ⟨(some 17), .bin .lss .num (.t 15) (.t 16), none⟩]

abbrev F17_r4 : List SI := [
  ⟨(some 18), .mv (.t 9), none⟩,
  ⟨(some 19), .mv (.t 10), none⟩,
  ⟨(some 20), .bin .add .num (.t 18) (.t 19), none⟩,
  ⟨(some 21), .cvint .u64 (.t 20), none⟩,
  ⟨(some 22), .bin .shr .num (.t 21) (.c (.int .u64 1)), none⟩,
  ⟨(some 23), .cvint .i64 (.t 22), none⟩,
  ⟨(some 11), .mv (.t 23), none⟩]

abbrev F17_r5 : List SI := [
  ⟨(some 24), .mv (.t 2), none⟩,
  ⟨(some 25), .mv (.t 0), none⟩,
  ⟨(some 26), .mv (.t 11), none⟩,
  ⟨(some 27), .iaddr none 2 (.t 25) (.t 26), none⟩,
  ⟨(some 28), .load .heap (some 2) (.t 27), none⟩,
  ⟨(some 29), .load .imm (some 2) (.t 4), none⟩,
  ⟨(some 30), .callv false (.t 24) [(.t 28), (.t 29)], none⟩,
  ⟨(some 31), .bin .lss .num (.t 30) (.c (.int .i64 0)), none⟩]

abbrev F17_r6 : List SI := [
  ⟨(some 32), .mv (.t 11), none⟩,
  ⟨(some 33), .bin .add .num (.t 32) (.c (.int .i64 1)), none⟩,
  ⟨(some 9), .mv (.t 33), none⟩]

abbrev F17_r7 : List SI := [
  ⟨(some 34), .mv (.t 11), none⟩,
  ⟨(some 10), .mv (.t 34), none⟩]

abbrev F17_l8 : SCode := (.seq (.seq (.region F17_r3 (some [0, 2, 4, 8, 9, 10, 17])) (.cond (.t 17) .skip (.exit 0))) (.block 1 (.seq (.region F17_r4 (some [0, 2, 4, 8, 9, 10, 11])) (.seq (.region F17_r5 (some [0, 2, 4, 8, 9, 10, 11, 31])) (.cond (.t 31) (.region F17_r6 (some [0, 2, 4, 8, 9, 10])) (.region F17_r7 (some [0, 2, 4, 8, 9, 10])))))))

abbrev F17_r9 : List SI := [
  ⟨(some 35), .mv (.t 9), none⟩,
  ⟨(some 36), .mv (.t 9), none⟩,
  ⟨(some 37), .mv (.t 8), none⟩,
  ⟨(some 38), .bin .lss .num (.t 36) (.t 37), none⟩,
  ⟨(some 39), .mv (.t 38), none⟩,
  ⟨(some 40), .mv (.t 2), some (39, true)⟩,
  ⟨(some 41), .mv (.t 0), some (39, true)⟩,
  ⟨(some 42), .mv (.t 9), some (39, true)⟩,
  ⟨(some 43), .iaddr none 2 (.t 41) (.t 42), some (39, true)⟩,
  ⟨(some 44), .load .heap (some 2) (.t 43), some (39, true)⟩,
  ⟨(some 45), .load .imm (some 2) (.t 4), some (39, true)⟩,
  ⟨(some 46), .callv false (.t 40) [(.t 44), (.t 45)], some (39, true)⟩,
  ⟨(some 47), .bin .eql .num (.t 46) (.c (.int .i64 0)), some (39, true)⟩,
  ⟨(some 48), .pick (.t 39) (.t 47) (.c (.bool false)), none⟩,
  ⟨(some 6), .mv (.t 35), none⟩,
  ⟨(some 7), .mv (.t 48), none⟩]

abbrev F17_b : SCode := (.seq (.region F17_r0 (some [0, 2, 4])) (.seq (.region F17_r1 (some [0, 2, 4, 8])) (.seq (.region F17_r2 (some [0, 2, 4, 8, 9, 10])) (.seq (.block 0 (.loop [0, 2, 4, 8, 9, 10] F17_l8)) (.seq (.region F17_r9 (some [6, 7])) .ret)))))

@[simp] def F17 : SFunc := ⟨3, .pure, F17_b, [.t 6, .t 7]⟩

/-- (*archivist/store.Replica).Range -/
abbrev F18_r0 : List SI := [
  ⟨(some 4), .box .imm (.t 1), none⟩,
  ⟨(some 6), .mv (.c (.nils)), none⟩,
  ⟨(some 7), .mv (.c (.bool false)), none⟩,
  ⟨(some 8), .mv (.c (.int .i64 0)), none⟩]

abbrev F18_r1 : List SI := [
  ⟨(some 13), .load .imm (some 8) (.t 4), none⟩,
  ⟨(some 14), .callf 113 [(.t 13)], none⟩,
  ⟨(some 15), .un .not (.t 14), none⟩,
  ⟨(some 16), .mv (.t 15), none⟩,
  ⟨(some 17), .mv (.t 2), some (16, false)⟩,
  ⟨(some 18), .bin .eql .ptr (.t 17) (.c (.nilp)), some (16, false)⟩,
  ⟨(some 19), .pick (.t 16) (.c (.bool true)) (.t 18), none⟩]

abbrev F18_r2 : List SI := [
  ⟨(some 6), .mv (.c (.nils)), none⟩,
  ⟨(some 7), .mv (.c (.bool false)), none⟩,
  ⟨(some 8), .mv (.c (.int .i64 1)), none⟩]

abbrev F18_r3 : List SI := [
  ⟨(some 20), .mv (.t 0), none⟩,
  ⟨(some 21), .nilchk (.t 20), none⟩,
  ⟨(some 22), .faddr 0 (.t 21), none⟩,
  ⟨(some 23), .callf 20 [(.t 22)], none⟩,
  ⟨(some 9), .new (.loc 9) [.bool false, .int .i64 0], none⟩,
  ⟨none, .store .own 2 (.t 9) (.t 23), none⟩]

abbrev F18_r4 : List SI := [
  ⟨(some 24), .faddr 0 (.t 9), none⟩,
  ⟨(some 25), .load .own none (.t 24), none⟩]

abbrev F18_r5 : List SI := [
  ⟨(some 6), .mv (.c (.nils)), none⟩,
  ⟨(some 7), .mv (.c (.bool false)), none⟩,
  ⟨(some 8), .mv (.c (.int .i64 7)), none⟩]

abbrev F18_r6 : List SI := [
  ⟨(some 26), .faddr 3 (.t 4), none⟩,
  ⟨(some 27), .load .imm none (.t 26), none⟩,
  ⟨(some 10), .mv (.t 27), none⟩]

abbrev F18_r7 : List SI := [
  ⟨(some 28), .faddr 1 (.t 9), none⟩,
  ⟨(some 29), .load .own none (.t 28), none⟩,
  ⟨(some 30), .bin .gtr .num (.t 29) (.c (.int .i64 0)), none⟩]

abbrev F18_r8 : List SI := [
  ⟨(some 31), .mv (.t 10), none⟩,
  ⟨(some 32), .faddr 1 (.t 9), none⟩,
  ⟨(some 33), .load .own none (.t 32), none⟩,
  ⟨(some 34), .minmax false [(.t 31), (.t 33)], none⟩,
  ⟨(some 10), .mv (.t 34), none⟩]

abbrev F18_r9 : List SI := [
  ⟨(some 35), .mv (.t 0), none⟩,
  ⟨(some 36), .nilchk (.t 35), none⟩,
  ⟨(some 37), .faddr 2 (.t 36), none⟩,
  ⟨(some 38), .load .heap none (.t 37), none⟩,
  ⟨(some 39), .len none .slice (.t 38), none⟩,
  ⟨(some 40), .mv (.c (.int .i64 0)), none⟩]

abbrev F18_r10 : List SI := [
  ⟨(some 41), .bin .lss .num (.t 40) (.t 39), none⟩]

abbrev F18_r11 : List SI := [
  ⟨(some 42), .iaddr none 3 (.t 38) (.t 40), none⟩,
  ⟨(some 43), .load .heap (some 3) (.t 42), none⟩,
  ⟨(some 12), .new (.loc 12) [.int .i64 0, .nils, .str []], none⟩,
  ⟨none, .store .own 3 (.t 12) (.t 43), none⟩]

abbrev F18_r12 : List SI := [
  ⟨(some 44), .load .imm (some 8) (.t 4), none⟩,
  ⟨(some 45), .load .own (some 3) (.t 12), none⟩,
  ⟨(some 46), .callf 91 [(.t 44), (.t 45)], none⟩,
  ⟨(some 47), .mv (.t 46), none⟩,
  ⟨(some 48), .mv (.t 2), some (47, true)⟩,
  ⟨(some 49), .faddr 1 (.t 12), some (47, true)⟩,
  ⟨(some 50), .load .own none (.t 49), some (47, true)⟩,
  ⟨(some 51), .callf 95 [(.t 48), (.t 50)], some (47, true)⟩,
  ⟨(some 52), .pick (.t 47) (.t 51) (.c (.bool false)), none⟩]

abbrev F18_r13 : List SI := [
  ⟨(some 53), .faddr 1 (.t 12), none⟩,
  ⟨(some 54), .load .own none (.t 53), none⟩,
  ⟨(some 55), .callf 49 [(.t 54)], none⟩,
  ⟨(some 56), .faddr 1 (.t 12), none⟩,
  ⟨none, .store .own 1 (.t 56) (.t 55), none⟩]

abbrev F18_r14 : List SI := [
  ⟨(some 57), .mv (.t 6), none⟩,
  ⟨(some 58), .load .own (some 3) (.t 12), none⟩,
  ⟨(some 59), .bslice false 3 [[.int .i64 0, .nils, .str []]] [(0, (.t 58))], none⟩,
  ⟨(some 60), .append 3 none (.t 57) (.t 59), none⟩,
  ⟨(some 6), .mv (.t 60), none⟩]

abbrev F18_r15 : List SI := [
  ⟨(some 61), .bin .add .num (.t 40) (.c (.int .i64 1)), none⟩,
  ⟨(some 40), .mv (.t 61), none⟩]

abbrev F18_l16 : SCode := (.seq (.region F18_r10 (some [2, 4, 6, 10, 38, 39, 40, 41])) (.seq (.cond (.t 41) .skip (.exit 0)) (.seq (.block 1 (.seq (.region F18_r11 (some [2, 4, 6, 10, 12, 38, 39, 40])) (.seq (.region F18_r12 (some [2, 4, 6, 10, 12, 38, 39, 40, 52])) (.cond (.t 52) (.seq (.region F18_r13 (some [2, 4, 6, 10, 12, 38, 39, 40])) (.region F18_r14 (some [2, 4, 6, 10, 38, 39, 40]))) .skip)))) (.region F18_r15 (some [2, 4, 6, 10, 38, 39, 40])))))

abbrev F18_r17 : List SI := [
  ⟨(some 62), .faddr 2 (.t 4), none⟩,
  ⟨(some 63), .load .imm none (.t 62), none⟩,
  ⟨(some 64), .un .not (.t 63), none⟩]

abbrev F18_r18 : List SI := [
  ⟨(some 65), .mv (.t 6), none⟩,
  ⟨(some 66), .callf 36 [(.t 65)], none⟩]

abbrev F18_r19 : List SI := [
  ⟨(some 67), .mv (.t 6), none⟩,
  ⟨(some 68), .len none .slice (.t 67), none⟩,
  ⟨(some 69), .mv (.t 10), none⟩,
  ⟨(some 70), .bin .gtr .num (.t 68) (.t 69), none⟩,
  ⟨(some 7), .mv (.t 70), none⟩]

abbrev F18_r20 : List SI := [
  ⟨(some 71), .mv (.t 6), none⟩,
  ⟨(some 72), .mv (.t 6), none⟩,
  ⟨(some 73), .len none .slice (.t 72), none⟩,
  ⟨(some 74), .mv (.t 10), none⟩,
  ⟨(some 75), .minmax false [(.t 73), (.t 74)], none⟩,
  ⟨(some 76), .slice .slice 3 (.t 71) none (some (.t 75)) none, none⟩,
  ⟨(some 77), .mv (.t 7), none⟩,
  ⟨(some 6), .mv (.t 76), none⟩,
  ⟨(some 7), .mv (.t 77), none⟩,
  ⟨(some 8), .mv (.c (.int .i64 0)), none⟩]

abbrev F18_b : SCode := (.seq (.region F18_r0 (some [0, 2, 4, 6])) (.seq (.seq (.region F18_r1 (some [0, 2, 4, 6, 19])) (.cond (.t 19) (.seq (.region F18_r2 (some [6, 7, 8])) .ret) .skip)) (.seq (.region F18_r3 (some [0, 2, 4, 6, 9])) (.seq (.seq (.region F18_r4 (some [0, 2, 4, 6, 9, 25])) (.cond (.t 25) (.seq (.region F18_r5 (some [6, 7, 8])) .ret) .skip)) (.seq (.region F18_r6 (some [0, 2, 4, 6, 9, 10])) (.seq (.seq (.region F18_r7 (some [0, 2, 4, 6, 9, 10, 30])) (.cond (.t 30) (.region F18_r8 (some [0, 2, 4, 6, 10])) .skip)) (.seq (.seq (.region F18_r9 (some [2, 4, 6, 10, 38, 39, 40])) (.block 0 (.loop [2, 4, 6, 10, 38, 39, 40] F18_l16))) (.seq (.seq (.region F18_r17 (some [6, 10, 64])) (.cond (.t 64) (.region F18_r18 (some [6, 10])) .skip)) (.seq (.region F18_r19 (some [6, 7, 10])) (.seq (.region F18_r20 (some [6, 7, 8])) .ret))))))))))

@[simp] def F18 : SFunc := ⟨3, .gc, F18_b, [.t 6, .t 7, .t 8]⟩

/-- archivist/label.names -/
abbrev F19_r0 : List SI := [
  ⟨(some 2), .box .imm (.t 0), none⟩,
  ⟨(some 3), .box .imm (.t 1), none⟩,
  ⟨(some 4), .mv (.c (.int .i64 0)), none⟩]

abbrev F19_r1 : List SI := [
  ⟨(some 5), .faddr 0 (.t 2), none⟩,
  ⟨(some 6), .load .imm none (.t 5), none⟩,
  ⟨(some 7), .faddr 0 (.t 3), none⟩,
  ⟨(some 8), .load .imm none (.t 7), none⟩,
  ⟨(some 9), .callf 21 [(.t 6), (.t 8)], none⟩,
  ⟨(some 4), .mv (.t 9), none⟩]

abbrev F19_b : SCode := (.seq (.region F19_r0 (some [2, 3])) (.seq (.region F19_r1 (some [4])) .ret))

@[simp] def F19 : SFunc := ⟨2, .pure, F19_b, [.t 4]⟩

/-- (*archivist/store.script).call -/
abbrev F20_r0 : List SI := [
  ⟨(some 2), .new (.loc 2) [.bool false, .int .i64 0], none⟩]

abbrev F20_r1 : List SI := [
  ⟨(some 3), .mv (.t 0), none⟩,
  ⟨(some 4), .nilchk (.t 3), none⟩,
  ⟨(some 5), .faddr 1 (.t 4), none⟩,
  ⟨(some 6), .load .heap none (.t 5), none⟩,
  ⟨(some 7), .mv (.t 0), none⟩,
  ⟨(some 8), .nilchk (.t 7), none⟩,
  ⟨(some 9), .faddr 0 (.t 8), none⟩,
  ⟨(some 10), .load .heap none (.t 9), none⟩,
  ⟨(some 11), .len none .slice (.t 10), none⟩,
  ⟨(some 12), .bin .lss .num (.t 6) (.t 11), none⟩]

abbrev F20_r2 : List SI := [
  ⟨(some 13), .mv (.t 0), none⟩,
  ⟨(some 14), .nilchk (.t 13), none⟩,
  ⟨(some 15), .faddr 0 (.t 14), none⟩,
  ⟨(some 16), .load .heap none (.t 15), none⟩,
  ⟨(some 17), .mv (.t 0), none⟩,
  ⟨(some 18), .nilchk (.t 17), none⟩,
  ⟨(some 19), .faddr 1 (.t 18), none⟩,
  ⟨(some 20), .load .heap none (.t 19), none⟩,
  ⟨(some 21), .iaddr none 2 (.t 16) (.t 20), none⟩,
  ⟨(some 22), .load .heap (some 2) (.t 21), none⟩,
  ⟨none, .store .own 2 (.t 2) (.t 22), none⟩]

abbrev F20_r3 : List SI := [
  ⟨(some 23), .mv (.t 0), none⟩,
  ⟨(some 24), .nilchk (.t 23), none⟩,
  ⟨(some 25), .faddr 1 (.t 24), none⟩,
  ⟨(some 26), .load .heap none (.t 25), none⟩,
  ⟨(some 27), .bin .add .num (.t 26) (.c (.int .i64 1)), none⟩,
  ⟨(some 28), .nilchk (.t 23), none⟩,
  ⟨(some 29), .faddr 1 (.t 28), none⟩,
  ⟨none, .store .heap 1 (.t 29) (.t 27), none⟩]

abbrev F20_r4 : List SI := [
  ⟨(some 30), .load .own (some 2) (.t 2), none⟩,
  ⟨none, .store .own 2 (.t 2) (.t 30), none⟩]

abbrev F20_b : SCode := (.seq (.region F20_r0 (some [0, 2])) (.seq (.seq (.region F20_r1 (some [0, 2, 12])) (.cond (.t 12) (.region F20_r2 (some [0, 2])) .skip)) (.seq (.region F20_r3 (some [2])) (.seq (.region F20_r4 (some [2])) .ret))))

@[simp] def F20 : SFunc := ⟨1, .keep, F20_b, [.cell 2 (some 2)]⟩

/-- strings.Compare -/
abbrev F21_r0 : List SI := [
  ⟨(some 4), .mv (.c (.int .i64 0)), none⟩]

abbrev F21_r1 : List SI := [
  ⟨(some 5), .mv (.t 0), none⟩,
  ⟨(some 6), .mv (.t 1), none⟩,
  ⟨(some 7), .callf 23 [(.t 5), (.t 6)], none⟩,
  ⟨(some 4), .mv (.t 7), none⟩]

abbrev F21_b : SCode := (.seq (.region F21_r0 (some [0, 1])) (.seq (.region F21_r1 (some [4])) .ret))

@[simp] def F21 : SFunc := ⟨2, .pure, F21_b, [.t 4]⟩

/-- archivist/fan.New -/
abbrev F22_r0 : List SI := [
  ⟨(some 2), .mv (.c (.nilp)), none⟩,
  ⟨(some 3), .mv (.c (.int .i64 0)), none⟩]

abbrev F22_r1 : List SI := [
  ⟨(some 5), .mv (.t 0), none⟩,
  ⟨(some 6), .len none .slice (.t 5), none⟩,
  ⟨(some 7), .bin .lss .num (.t 6) (.c (.int .i64 1)), none⟩,
  ⟨(some 8), .mv (.t 7), none⟩,
  ⟨(some 9), .mv (.t 0), some (8, false)⟩,
  ⟨(some 10), .len none .slice (.t 9), some (8, false)⟩,
  ⟨(some 11), .bin .gtr .num (.t 10) (.c (.int .i64 4)), some (8, false)⟩,
  ⟨(some 12), .pick (.t 8) (.c (.bool true)) (.t 11), none⟩,
  ⟨(some 13), .mv (.t 12), none⟩,
  ⟨(some 14), .mv (.t 0), some (13, false)⟩,
  ⟨(some 15), .callf 41 [(.t 14), (.c (.nilp))], some (13, false)⟩,
  ⟨(some 16), .pick (.t 13) (.c (.bool true)) (.t 15), none⟩]

abbrev F22_r2 : List SI := [
  ⟨(some 2), .mv (.c (.nilp)), none⟩,
  ⟨(some 3), .mv (.c (.int .i64 1)), none⟩]

abbrev F22_r3 : List SI := [
  ⟨(some 17), .mv (.t 0), none⟩,
  ⟨(some 18), .callf 45 [(.t 17)], none⟩,
  ⟨(some 19), .build [.nils, .nils] [(0, 1, (.t 18))], none⟩,
  ⟨(some 20), .box .heap (.t 19), none⟩,
  ⟨(some 4), .mv (.t 20), none⟩]

abbrev F22_r4 : List SI := [
  ⟨(some 21), .mv (.t 4), none⟩,
  ⟨(some 22), .callf 4 [(.t 21), (.c (.nils))], none⟩]

abbrev F22_r5 : List SI := [
  ⟨(some 23), .mv (.t 4), none⟩,
  ⟨(some 2), .mv (.t 23), none⟩,
  ⟨(some 3), .mv (.c (.int .i64 0)), none⟩]

abbrev F22_b : SCode := (.seq (.region F22_r0 (some [0])) (.seq (.seq (.region F22_r1 (some [0, 16])) (.cond (.t 16) (.seq (.region F22_r2 (some [2, 3])) .ret) .skip)) (.seq (.region F22_r3 (some [4])) (.seq (.region F22_r4 (some [4])) (.seq (.region F22_r5 (some [2, 3])) .ret)))))

@[simp] def F22 : SFunc := ⟨1, .gc, F22_b, [.t 2, .t 3]⟩

/-- internal/bytealg.CompareString -/
abbrev F23_r0 : List SI := [
  ⟨(some 4), .mv (.c (.int .i64 0)), none⟩]

abbrev F23_r1 : List SI := [
  ⟨(some 5), .mv (.t 0), none⟩,
  ⟨(some 6), .mv (.t 1), none⟩,
  ⟨(some 7), .ext 0 [(.t 5), (.t 6)], none⟩,
  ⟨(some 4), .mv (.t 7), none⟩]

abbrev F23_b : SCode := (.seq (.region F23_r0 (some [0, 1])) (.seq (.region F23_r1 (some [4])) .ret))

@[simp] def F23 : SFunc := ⟨2, .pure, F23_b, [.t 4]⟩

/-- archivist/heap.New[[]archivist/entry.Entry] -/
abbrev F24_r0 : List SI := [
  ⟨(some 4), .mv (.c (.nilp)), none⟩]

abbrev F24_r1 : List SI := [
  ⟨(some 6), .mv (.t 0), none⟩,
  ⟨(some 7), .build [.nils, .nilf] [(1, 1, (.t 6))], none⟩,
  ⟨(some 8), .build [.nils, .nilf, .int .i64 0] [(0, 2, (.t 7))], none⟩,
  ⟨(some 9), .box .heap (.t 8), none⟩,
  ⟨(some 5), .mv (.t 9), none⟩]

abbrev F24_r2 : List SI := [
  ⟨(some 10), .mv (.t 5), none⟩,
  ⟨(some 11), .mv (.t 1), none⟩,
  ⟨(some 12), .callf 8 [(.t 10), (.t 11)], none⟩]

abbrev F24_r3 : List SI := [
  ⟨(some 13), .mv (.t 5), none⟩,
  ⟨(some 4), .mv (.t 13), none⟩]

abbrev F24_b : SCode := (.seq (.region F24_r0 (some [0, 1])) (.seq (.region F24_r1 (some [1, 5])) (.seq (.region F24_r2 (some [5])) (.seq (.region F24_r3 (some [4])) .ret))))

@[simp] def F24 : SFunc := ⟨2, .keep, F24_b, [.t 4]⟩

/-- archivist/heap.New[archivist/entry.Entry] -/
abbrev F26_r0 : List SI := [
  ⟨(some 4), .mv (.c (.nilp)), none⟩]

abbrev F26_r1 : List SI := [
  ⟨(some 6), .mv (.t 0), none⟩,
  ⟨(some 7), .build [.nils, .nilf] [(1, 1, (.t 6))], none⟩,
  ⟨(some 8), .build [.nils, .nilf, .int .i64 0] [(0, 2, (.t 7))], none⟩,
  ⟨(some 9), .box .heap (.t 8), none⟩,
  ⟨(some 5), .mv (.t 9), none⟩]

abbrev F26_r2 : List SI := [
  ⟨(some 10), .mv (.t 5), none⟩,
  ⟨(some 11), .mv (.t 1), none⟩,
  ⟨(some 12), .callf 10 [(.t 10), (.t 11)], none⟩]

abbrev F26_r3 : List SI := [
  ⟨(some 13), .mv (.t 5), none⟩,
  ⟨(some 4), .mv (.t 13), none⟩]

abbrev F26_b : SCode := (.seq (.region F26_r0 (some [0, 1])) (.seq (.region F26_r1 (some [1, 5])) (.seq (.region F26_r2 (some [5])) (.seq (.region F26_r3 (some [4])) .ret))))

@[simp] def F26 : SFunc := ⟨2, .keep, F26_b, [.t 4]⟩

/-- archivist/match.Every -/
abbrev F27_r0 : List SI := [
  ⟨(some 2), .mv (.c (.nilp)), none⟩,
  ⟨(some 3), .mv (.c (.int .i64 0)), none⟩]

abbrev F27_r1 : List SI := [
  ⟨(some 9), .build [.nils] [], none⟩,
  ⟨(some 10), .box .heap (.t 9), none⟩,
  ⟨(some 4), .mv (.t 10), none⟩]

abbrev F27_r2 : List SI := [
  ⟨(some 11), .mv (.t 0), none⟩,
  ⟨(some 12), .len none .slice (.t 11), none⟩,
  ⟨(some 13), .mv (.c (.int .i64 0)), none⟩]

abbrev F27_r3 : List SI := [
  ⟨(some 14), .bin .lss .num (.t 13) (.t 12), none⟩]

abbrev F27_r4 : List SI := [
  ⟨(some 15), .iaddr none 3 (.t 11) (.t 13), none⟩,
  ⟨(some 16), .load .heap (some 3) (.t 15), none⟩,
  ⟨(some 6), .new (.loc 6) [.str [], .str [], .str []], none⟩,
  ⟨none, .store .own 3 (.t 6) (.t 16), none⟩]

abbrev F27_r5 : List SI := [
  ⟨(some 18), .load .own (some 3) (.t 6), none⟩,
  ⟨(some 19), .callf 29 [(.t 18)], none⟩,
  ⟨(some 17), .mv (.t 19), none⟩,
  ⟨(some 20), .extract 0 (.t 17), none⟩,
  ⟨(some 21), .extract 1 (.t 17), none⟩,
  ⟨(some 7), .mv (.t 20), none⟩,
  ⟨(some 8), .mv (.t 21), none⟩]

abbrev F27_r6 : List SI := [
  ⟨(some 22), .mv (.t 8), none⟩,
  ⟨(some 23), .bin .neq .num (.t 22) (.c (.int .i64 0)), none⟩]

abbrev F27_r7 : List SI := [
  ⟨(some 24), .mv (.t 8), none⟩,
  ⟨(some 2), .mv (.c (.nilp)), none⟩,
  ⟨(some 3), .mv (.t 24), none⟩]

abbrev F27_r8 : List SI := [
  ⟨(some 25), .mv (.t 4), none⟩,
  ⟨(some 26), .mv (.t 4), none⟩,
  ⟨(some 27), .nilchk (.t 26), none⟩,
  ⟨(some 28), .faddr 0 (.t 27), none⟩,
  ⟨(some 29), .load .heap none (.t 28), none⟩,
  ⟨(some 30), .mv (.t 7), none⟩,
  ⟨(some 31), .bslice false 1 [[.nilp]] [(0, (.t 30))], none⟩,
  ⟨(some 32), .append 1 none (.t 29) (.t 31), none⟩,
  ⟨(some 33), .nilchk (.t 25), none⟩,
  ⟨(some 34), .faddr 0 (.t 33), none⟩,
  ⟨none, .store .heap 1 (.t 34) (.t 32), none⟩]

abbrev F27_r9 : List SI := [
  ⟨(some 35), .bin .add .num (.t 13) (.c (.int .i64 1)), none⟩,
  ⟨(some 13), .mv (.t 35), none⟩]

abbrev F27_l10 : SCode := (.seq (.region F27_r3 (some [4, 11, 12, 13, 14])) (.seq (.cond (.t 14) .skip (.exit 0)) (.seq (.block 1 (.seq (.region F27_r4 (some [4, 6, 11, 12, 13])) (.seq (.region F27_r5 (some [4, 7, 8, 11, 12, 13])) (.seq (.seq (.region F27_r6 (some [4, 7, 8, 11, 12, 13, 23])) (.cond (.t 23) (.seq (.region F27_r7 (some [2, 3])) .ret) .skip)) (.region F27_r8 (some [4, 11, 12, 13])))))) (.region F27_r9 (some [4, 11, 12, 13])))))

abbrev F27_r11 : List SI := [
  ⟨(some 36), .mv (.t 4), none⟩,
  ⟨(some 2), .mv (.t 36), none⟩,
  ⟨(some 3), .mv (.c (.int .i64 0)), none⟩]

abbrev F27_b : SCode := (.seq (.region F27_r0 (some [0])) (.seq (.region F27_r1 (some [0, 4])) (.seq (.seq (.region F27_r2 (some [4, 11, 12, 13])) (.block 0 (.loop [4, 11, 12, 13] F27_l10))) (.seq (.region F27_r11 (some [2, 3])) .ret))))

@[simp] def F27 : SFunc := ⟨1, .pure, F27_b, [.t 2, .t 3]⟩

/-- archivist/store.New -/
abbrev F28_r0 : List SI := [
  ⟨(some 4), .mv (.c (.nilp)), none⟩]

abbrev F28_r1 : List SI := [
  ⟨(some 7), .mv (.t 0), none⟩,
  ⟨(some 8), .callf 30 [(.t 7)], none⟩,
  ⟨(some 9), .callf 32 [(.t 8), (.f 53)], none⟩,
  ⟨(some 5), .mv (.t 9), none⟩]

abbrev F28_r2 : List SI := [
  ⟨(some 10), .mv (.t 5), none⟩,
  ⟨(some 11), .mv (.t 5), none⟩,
  ⟨(some 12), .len none .slice (.t 11), none⟩,
  ⟨(some 13), .minmax false [(.t 12), (.c (.int .i64 512))], none⟩,
  ⟨(some 14), .slice .slice 3 (.t 10) none (some (.t 13)) none, none⟩,
  ⟨(some 5), .mv (.t 14), none⟩]

abbrev F28_r3 : List SI := [
  ⟨(some 15), .mv (.t 5), none⟩,
  ⟨(some 16), .len none .slice (.t 15), none⟩,
  ⟨(some 17), .mv (.c (.int .i64 0)), none⟩]

abbrev F28_r4 : List SI := [
  ⟨(some 18), .bin .lss .num (.t 17) (.t 16), none⟩]

abbrev F28_r5 : List SI := [
  ⟨(some 19), .mv (.t 17), none⟩,
  ⟨(some 6), .mv (.t 19), none⟩]

abbrev F28_r6 : List SI := [
  ⟨(some 20), .mv (.t 5), none⟩,
  ⟨(some 21), .mv (.t 6), none⟩,
  ⟨(some 22), .mv (.t 5), none⟩,
  ⟨(some 23), .mv (.t 6), none⟩,
  ⟨(some 24), .iaddr none 3 (.t 22) (.t 23), none⟩,
  ⟨(some 25), .faddr 1 (.t 24), none⟩,
  ⟨(some 26), .load .heap none (.t 25), none⟩,
  ⟨(some 27), .callf 49 [(.t 26)], none⟩,
  ⟨(some 28), .iaddr none 3 (.t 20) (.t 21), none⟩,
  ⟨(some 29), .faddr 1 (.t 28), none⟩,
  ⟨none, .store .heap 1 (.t 29) (.t 27), none⟩]

abbrev F28_r7 : List SI := [
  ⟨(some 30), .bin .add .num (.t 17) (.c (.int .i64 1)), none⟩,
  ⟨(some 17), .mv (.t 30), none⟩]

abbrev F28_l8 : SCode := (.seq (.region F28_r4 (some [1, 5, 16, 17, 18])) (.seq (.cond (.t 18) .skip (.exit 0)) (.seq (.block 1 (.seq (.region F28_r5 (some [1, 5, 6, 16, 17])) (.region F28_r6 (some [1, 5, 16, 17])))) (.region F28_r7 (some [1, 5, 16, 17])))))

abbrev F28_r9 : List SI := [
  ⟨(some 31), .mv (.t 5), none⟩,
  ⟨(some 32), .callf 38 [(.t 31), (.f 35)], none⟩]

abbrev F28_r10 : List SI := [
  ⟨(some 33), .mv (.t 1), none⟩,
  ⟨(some 34), .callf 47 [(.t 33)], none⟩,
  ⟨(some 35), .build [.nils, .int .i64 0] [(0, 1, (.t 34))], none⟩,
  ⟨(some 36), .mv (.t 5), none⟩,
  ⟨(some 37), .build [.nils, .int .i64 0, .nils] [(0, 2, (.t 35)), (2, 1, (.t 36))], none⟩,
  ⟨(some 38), .box .heap (.t 37), none⟩,
  ⟨(some 4), .mv (.t 38), none⟩]

abbrev F28_b : SCode := (.seq (.region F28_r0 (some [0, 1])) (.seq (.region F28_r1 (some [1, 5])) (.seq (.region F28_r2 (some [1, 5])) (.seq (.seq (.region F28_r3 (some [1, 5, 16, 17])) (.block 0 (.loop [1, 5, 16, 17] F28_l8))) (.seq (.region F28_r9 (some [1, 5])) (.seq (.region F28_r10 (some [4])) .ret))))))

@[simp] def F28 : SFunc := ⟨2, .gc, F28_b, [.t 4]⟩

/-- slices.Clone[[]archivist/entry.Entry,archivist/entry.Entry] -/
abbrev F30_r0 : List SI := [
  ⟨(some 2), .mv (.c (.nils)), none⟩]

abbrev F30_r1 : List SI := [
  ⟨(some 3), .mv (.t 0), none⟩,
  ⟨(some 4), .bin .eql .slice (.t 3) (.c (.nils)), none⟩]

abbrev F30_r2 : List SI := [
  ⟨(some 2), .mv (.c (.nils)), none⟩]

abbrev F30_r3 : List SI := [
  ⟨(some 5), .bslice false 3 [] [], none⟩,
  ⟨(some 6), .mv (.t 0), none⟩,
  ⟨(some 7), .append 3 none (.t 5) (.t 6), none⟩,
  ⟨(some 2), .mv (.t 7), none⟩]

abbrev F30_b : SCode := (.seq (.region F30_r0 (some [0])) (.seq (.seq (.region F30_r1 (some [0, 4])) (.cond (.t 4) (.seq (.region F30_r2 (some [2])) .ret) .skip)) (.seq (.region F30_r3 (some [2])) .ret)))

@[simp] def F30 : SFunc := ⟨1, .keep, F30_b, [.t 2]⟩

/-- archivist/entry.Ahead -/
abbrev F31_r0 : List SI := [
  ⟨(some 3), .box (.loc 3) (.t 0), none⟩,
  ⟨(some 4), .box (.loc 4) (.t 1), none⟩,
  ⟨(some 6), .mv (.c (.bool false)), none⟩]

abbrev F31_r1 : List SI := [
  ⟨(some 7), .mv (.t 2), none⟩,
  ⟨(some 8), .un .not (.t 7), none⟩]

abbrev F31_r2 : List SI := [
  ⟨(some 9), .load .own (some 3) (.t 4), none⟩,
  ⟨(some 10), .load .own (some 3) (.t 3), none⟩,
  ⟨none, .store .own 3 (.t 3) (.t 9), none⟩,
  ⟨none, .store .own 3 (.t 4) (.t 10), none⟩]

abbrev F31_r3 : List SI := [
  ⟨(some 11), .load .own (some 3) (.t 3), none⟩,
  ⟨(some 12), .load .own (some 3) (.t 4), none⟩,
  ⟨(some 13), .callf 35 [(.t 11), (.t 12)], none⟩,
  ⟨(some 14), .bin .lss .num (.t 13) (.c (.int .i64 0)), none⟩,
  ⟨(some 6), .mv (.t 14), none⟩]

abbrev F31_b : SCode := (.seq (.region F31_r0 (some [2, 3, 4])) (.seq (.seq (.region F31_r1 (some [3, 4, 8])) (.cond (.t 8) (.region F31_r2 (some [3, 4])) .skip)) (.seq (.region F31_r3 (some [6])) .ret)))

@[simp] def F31 : SFunc := ⟨3, .pure, F31_b, [.t 6]⟩

/-- slices.DeleteFunc[[]archivist/entry.Entry,archivist/entry.Entry] -/
abbrev F32_r0 : List SI := [
  ⟨(some 4), .mv (.c (.nils)), none⟩]

abbrev F32_r1 : List SI := [
  ⟨(some 8), .mv (.t 0), none⟩,
  ⟨(some 9), .mv (.t 1), none⟩,
  ⟨(some 10), .callf 51 [(.t 8), (.t 9)], none⟩,
  ⟨(some 5), .mv (.t 10), none⟩]

abbrev F32_r2 : List SI := [
  ⟨(some 11), .mv (.t 5), none⟩,
  ⟨(some 12), .bin .eql .num (.t 11) (.c (.int .i64 (-1))), none⟩]

abbrev F32_r3 : List SI := [
  ⟨(some 13), .mv (.t 0), none⟩,
  ⟨(some 4), .mv (.t 13), none⟩]

abbrev F32_r4 : List SI := [
  ⟨(some 14), .mv (.t 5), none⟩,
  ⟨(some 15), .bin .add .num (.t 14) (.c (.int .i64 1)), none⟩,
  ⟨(some 6), .mv (.t 15), none⟩]

abbrev F32_r5 : List SI := [
  ⟨(some 16), .mv (.t 6), none⟩,
  ⟨(some 17), .mv (.t 0), none⟩,
  ⟨(some 18), .len none .slice (.t 17), none⟩,
  ⟨(some 19), .bin .lss .num (.t 16) (.t 18), none⟩]

abbrev F32_r6 : List SI := [
  ⟨(some 22), .mv (.t 0), none⟩,
  ⟨(some 23), .mv (.t 6), none⟩,
  ⟨(some 24), .iaddr none 3 (.t 22) (.t 23), none⟩,
  ⟨(some 25), .load .heap (some 3) (.t 24), none⟩,
  ⟨(some 7), .new (.loc 7) [.int .i64 0, .nils, .str []], none⟩,
  ⟨none, .store .own 3 (.t 7) (.t 25), none⟩]

abbrev F32_r7 : List SI := [
  ⟨(some 26), .mv (.t 1), none⟩,
  ⟨(some 27), .load .own (some 3) (.t 7), none⟩,
  ⟨(some 28), .callv false (.t 26) [(.t 27)], none⟩,
  ⟨(some 29), .un .not (.t 28), none⟩]

abbrev F32_r8 : List SI := [
  ⟨(some 30), .mv (.t 0), none⟩,
  ⟨(some 31), .mv (.t 5), none⟩,
  ⟨(some 32), .load .own (some 3) (.t 7), none⟩,
  ⟨(some 33), .iaddr none 3 (.t 30) (.t 31), none⟩,
  ⟨none, .store .heap 3 (.t 33) (.t 32), none⟩]

abbrev F32_r9 : List SI := [
  ⟨(some 34), .mv (.t 5), none⟩,
  ⟨(some 35), .bin .add .num (.t 34) (.c (.int .i64 1)), none⟩,
  ⟨(some 5), .mv (.t 35), none⟩]

abbrev F32_r10 : List SI := [
  ⟨(some 20), .mv (.t 6), none⟩,
  ⟨(some 21), .bin .add .num (.t 20) (.c (.int .i64 1)), none⟩,
  ⟨(some 6), .mv (.t 21), none⟩]

abbrev F32_l11 : SCode := (.seq (.seq (.region F32_r5 (some [0, 1, 5, 6, 19])) (.cond (.t 19) .skip (.exit 0))) (.seq (.block 1 (.seq (.region F32_r6 (some [0, 1, 5, 6, 7])) (.seq (.region F32_r7 (some [0, 1, 5, 6, 7, 29])) (.cond (.t 29) (.seq (.region F32_r8 (some [0, 1, 5, 6])) (.region F32_r9 (some [0, 1, 5, 6]))) .skip)))) (.region F32_r10 (some [0, 1, 5, 6]))))

abbrev F32_r12 : List SI := [
  ⟨(some 36), .mv (.t 0), none⟩,
  ⟨(some 37), .mv (.t 5), none⟩,
  ⟨(some 38), .slice .slice 3 (.t 36) (some (.t 37)) none none, none⟩,
  ⟨none, .clear 3 [.int .i64 0, .nils, .str []] (.t 38), none⟩]

abbrev F32_r13 : List SI := [
  ⟨(some 39), .mv (.t 0), none⟩,
  ⟨(some 40), .mv (.t 5), none⟩,
  ⟨(some 41), .slice .slice 3 (.t 39) none (some (.t 40)) none, none⟩,
  ⟨(some 4), .mv (.t 41), none⟩]

abbrev F32_b : SCode := (.seq (.region F32_r0 (some [0, 1])) (.seq (.region F32_r1 (some [0, 1, 5])) (.seq (.seq (.region F32_r2 (some [0, 1, 5, 12])) (.cond (.t 12) (.seq (.region F32_r3 (some [4])) .ret) .skip)) (.seq (.seq (.region F32_r4 (some [0, 1, 5, 6])) (.block 0 (.loop [0, 1, 5, 6] F32_l11))) (.seq (.region F32_r12 (some [0, 5])) (.seq (.region F32_r13 (some [4])) .ret))))))

@[simp] def F32 : SFunc := ⟨2, .keep, F32_b, [.t 4]⟩

/-- archivist/entry.Same -/
abbrev F33_r0 : List SI := [
  ⟨(some 2), .box .imm (.t 0), none⟩,
  ⟨(some 3), .box .imm (.t 1), none⟩,
  ⟨(some 4), .mv (.c (.bool false)), none⟩]

abbrev F33_r1 : List SI := [
  ⟨(some 5), .load .imm (some 3) (.t 2), none⟩,
  ⟨(some 6), .load .imm (some 3) (.t 3), none⟩,
  ⟨(some 7), .callf 35 [(.t 5), (.t 6)], none⟩,
  ⟨(some 8), .bin .eql .num (.t 7) (.c (.int .i64 0)), none⟩,
  ⟨(some 4), .mv (.t 8), none⟩]

abbrev F33_b : SCode := (.seq (.region F33_r0 (some [2, 3])) (.seq (.region F33_r1 (some [4])) .ret))

@[simp] def F33 : SFunc := ⟨2, .pure, F33_b, [.t 4]⟩

/-- slices.Insert[archivist/label.Set,archivist/label.Pair] -/
abbrev F34_r0 : List SI := [
  ⟨(some 6), .mv (.c (.nils)), none⟩]

abbrev F34_r1 : List SI := [
  ⟨(some 10), .mv (.t 0), none⟩,
  ⟨(some 11), .mv (.t 1), none⟩,
  ⟨(some 12), .slice .slice 2 (.t 10) (some (.t 11)) none none, none⟩]

abbrev F34_r2 : List SI := [
  ⟨(some 13), .mv (.t 2), none⟩,
  ⟨(some 14), .len none .slice (.t 13), none⟩,
  ⟨(some 7), .mv (.t 14), none⟩]

abbrev F34_r3 : List SI := [
  ⟨(some 15), .mv (.t 7), none⟩,
  ⟨(some 16), .bin .eql .num (.t 15) (.c (.int .i64 0)), none⟩]

abbrev F34_r4 : List SI := [
  ⟨(some 17), .mv (.t 0), none⟩,
  ⟨(some 6), .mv (.t 17), none⟩]

abbrev F34_r5 : List SI := [
  ⟨(some 18), .mv (.t 0), none⟩,
  ⟨(some 19), .len none .slice (.t 18), none⟩,
  ⟨(some 8), .mv (.t 19), none⟩]

abbrev F34_r6 : List SI := [
  ⟨(some 20), .mv (.t 1), none⟩,
  ⟨(some 21), .mv (.t 8), none⟩,
  ⟨(some 22), .bin .eql .num (.t 20) (.t 21), none⟩]

abbrev F34_r7 : List SI := [
  ⟨(some 23), .mv (.t 0), none⟩,
  ⟨(some 24), .mv (.t 2), none⟩,
  ⟨(some 25), .append 2 none (.t 23) (.t 24), none⟩,
  ⟨(some 6), .mv (.t 25), none⟩]

abbrev F34_r8 : List SI := [
  ⟨(some 26), .mv (.t 8), none⟩,
  ⟨(some 27), .mv (.t 7), none⟩,
  ⟨(some 28), .bin .add .num (.t 26) (.t 27), none⟩,
  ⟨(some 29), .mv (.t 0), none⟩,
  ⟨(some 30), .cap (.t 29), none⟩,
  ⟨(some 31), .bin .gtr .num (.t 28) (.t 30), none⟩]

abbrev F34_r9 : List SI := [
  ⟨(some 32), .mv (.t 0), none⟩,
  ⟨(some 33), .mv (.t 1), none⟩,
  ⟨(some 34), .slice .slice 2 (.t 32) none (some (.t 33)) none, none⟩,
  ⟨(some 35), .mv (.t 8), none⟩,
  ⟨(some 36), .mv (.t 7), none⟩,
  ⟨(some 37), .bin .add .num (.t 35) (.t 36), none⟩,
  ⟨(some 38), .mv (.t 1), none⟩,
  ⟨(some 39), .bin .sub .num (.t 37) (.t 38), none⟩,
  ⟨(some 40), .append 2 (some [.str [], .str []]) (.t 34) (.t 39), none⟩,
  ⟨(some 9), .mv (.t 40), none⟩]

abbrev F34_r10 : List SI := [
  ⟨(some 41), .mv (.t 9), none⟩,
  ⟨(some 42), .mv (.t 1), none⟩,
  ⟨(some 43), .slice .slice 2 (.t 41) (some (.t 42)) none none, none⟩,
  ⟨(some 44), .mv (.t 2), none⟩,
  ⟨(some 45), .copy 2 (.t 43) (.t 44), none⟩]

abbrev F34_r11 : List SI := [
  ⟨(some 46), .mv (.t 9), none⟩,
  ⟨(some 47), .mv (.t 1), none⟩,
  ⟨(some 48), .mv (.t 7), none⟩,
  ⟨(some 49), .bin .add .num (.t 47) (.t 48), none⟩,
  ⟨(some 50), .slice .slice 2 (.t 46) (some (.t 49)) none none, none⟩,
  ⟨(some 51), .mv (.t 0), none⟩,
  ⟨(some 52), .mv (.t 1), none⟩,
  ⟨(some 53), .slice .slice 2 (.t 51) (some (.t 52)) none none, none⟩,
  ⟨(some 54), .copy 2 (.t 50) (.t 53), none⟩]

abbrev F34_r12 : List SI := [
  ⟨(some 55), .mv (.t 9), none⟩,
  ⟨(some 6), .mv (.t 55), none⟩]

abbrev F34_r13 : List SI := [
  ⟨(some 56), .mv (.t 0), none⟩,
  ⟨(some 57), .mv (.t 8), none⟩,
  ⟨(some 58), .mv (.t 7), none⟩,
  ⟨(some 59), .bin .add .num (.t 57) (.t 58), none⟩,
  ⟨(some 60), .slice .slice 2 (.t 56) none (some (.t 59)) none, none⟩,
  ⟨(some 0), .mv (.t 60), none⟩]

abbrev F34_r14 : List SI := [
  ⟨(some 61), .mv (.t 2), none⟩,
  ⟨(some 62), .mv (.t 0), none⟩,
  ⟨(some 63), .mv (.t 1), none⟩,
  ⟨(some 64), .mv (.t 7), none⟩,
  ⟨(some 65), .bin .add .num (.t 63) (.t 64), none⟩,
  ⟨(some 66), .slice .slice 2 (.t 62) (some (.t 65)) none none, none⟩,
  ⟨(some 67), .ext 2 [(.t 61), (.t 66)], none⟩,
  ⟨(some 68), .un .not (.t 67), none⟩]

abbrev F34_r15 : List SI := [
  ⟨(some 69), .mv (.t 0), none⟩,
  ⟨(some 70), .mv (.t 1), none⟩,
  ⟨(some 71), .mv (.t 7), none⟩,
  ⟨(some 72), .bin .add .num (.t 70) (.t 71), none⟩,
  ⟨(some 73), .slice .slice 2 (.t 69) (some (.t 72)) none none, none⟩,
  ⟨(some 74), .mv (.t 0), none⟩,
  ⟨(some 75), .mv (.t 1), none⟩,
  ⟨(some 76), .slice .slice 2 (.t 74) (some (.t 75)) none none, none⟩,
  ⟨(some 77), .copy 2 (.t 73) (.t 76), none⟩]

abbrev F34_r16 : List SI := [
  ⟨(some 78), .mv (.t 0), none⟩,
  ⟨(some 79), .mv (.t 1), none⟩,
  ⟨(some 80), .slice .slice 2 (.t 78) (some (.t 79)) none none, none⟩,
  ⟨(some 81), .mv (.t 2), none⟩,
  ⟨(some 82), .copy 2 (.t 80) (.t 81), none⟩]

abbrev F34_r17 : List SI := [
  ⟨(some 83), .mv (.t 0), none⟩,
  ⟨(some 6), .mv (.t 83), none⟩]

abbrev F34_r18 : List SI := [
  ⟨(some 84), .mv (.t 0), none⟩,
  ⟨(some 85), .mv (.t 8), none⟩,
  ⟨(some 86), .slice .slice 2 (.t 84) (some (.t 85)) none none, none⟩,
  ⟨(some 87), .mv (.t 2), none⟩,
  ⟨(some 88), .copy 2 (.t 86) (.t 87), none⟩]

abbrev F34_r19 : List SI := [
  ⟨(some 89), .mv (.t 0), none⟩,
  ⟨(some 90), .mv (.t 1), none⟩,
  ⟨(some 91), .slice .slice 2 (.t 89) (some (.t 90)) none none, none⟩,
  ⟨(some 92), .mv (.t 7), none⟩,
  ⟨(some 93), .callf 125 [(.t 91), (.t 92)], none⟩]

abbrev F34_r20 : List SI := [
  ⟨(some 94), .mv (.t 0), none⟩,
  ⟨(some 6), .mv (.t 94), none⟩]

abbrev F34_b : SCode := (.seq (.region F34_r0 (some [0, 1, 2])) (.seq (.region F34_r1 (some [0, 1, 2])) (.seq (.region F34_r2 (some [0, 1, 2, 7])) (.seq (.seq (.region F34_r3 (some [0, 1, 2, 7, 16])) (.cond (.t 16) (.seq (.region F34_r4 (some [6])) .ret) .skip)) (.seq (.region F34_r5 (some [0, 1, 2, 7, 8])) (.seq (.seq (.region F34_r6 (some [0, 1, 2, 7, 8, 22])) (.cond (.t 22) (.seq (.region F34_r7 (some [6])) .ret) .skip)) (.seq (.seq (.region F34_r8 (some [0, 1, 2, 7, 8, 31])) (.cond (.t 31) (.seq (.region F34_r9 (some [0, 1, 2, 7, 9])) (.seq (.region F34_r10 (some [0, 1, 7, 9])) (.seq (.region F34_r11 (some [9])) (.seq (.region F34_r12 (some [6])) .ret)))) .skip)) (.seq (.region F34_r13 (some [0, 1, 2, 7, 8])) (.seq (.seq (.region F34_r14 (some [0, 1, 2, 7, 8, 68])) (.cond (.t 68) (.seq (.region F34_r15 (some [0, 1, 2])) (.seq (.region F34_r16 (some [0])) (.seq (.region F34_r17 (some [6])) .ret))) .skip)) (.seq (.region F34_r18 (some [0, 1, 7])) (.seq (.region F34_r19 (some [0])) (.seq (.region F34_r20 (some [6])) .ret))))))))))))

@[simp] def F34 : SFunc := ⟨3, .keep, F34_b, [.t 6]⟩

/-- archivist/entry.Order -/
abbrev F35_r0 : List SI := [
  ⟨(some 2), .box .imm (.t 0), none⟩,
  ⟨(some 3), .box .imm (.t 1), none⟩,
  ⟨(some 4), .mv (.c (.int .i64 0)), none⟩]

abbrev F35_r1 : List SI := [
  ⟨(some 5), .faddr 0 (.t 2), none⟩,
  ⟨(some 6), .load .imm none (.t 5), none⟩,
  ⟨(some 7), .faddr 0 (.t 3), none⟩,
  ⟨(some 8), .load .imm none (.t 7), none⟩,
  ⟨(some 9), .callf 61 [(.t 6), (.t 8)], none⟩,
  ⟨(some 10), .faddr 1 (.t 2), none⟩,
  ⟨(some 11), .load .imm none (.t 10), none⟩,
  ⟨(some 12), .faddr 1 (.t 3), none⟩,
  ⟨(some 13), .load .imm none (.t 12), none⟩,
  ⟨(some 14), .callf 65 [(.t 11), (.t 13)], none⟩,
  ⟨(some 15), .faddr 2 (.t 2), none⟩,
  ⟨(some 16), .load .imm none (.t 15), none⟩,
  ⟨(some 17), .faddr 2 (.t 3), none⟩,
  ⟨(some 18), .load .imm none (.t 17), none⟩,
  ⟨(some 19), .callf 21 [(.t 16), (.t 18)], none⟩,
  ⟨(some 20), .bslice false 1 [[.int .i64 0], [.int .i64 0], [.int .i64 0]] [(0, (.t 9)), (1, (.t 14)), (2, (.t 19))], none⟩,
  ⟨(some 21), .callf 59 [(.t 20)], none⟩,
  ⟨(some 4), .mv (.t 21), none⟩]

abbrev F35_b : SCode := (.seq (.region F35_r0 (some [2, 3])) (.seq (.region F35_r1 (some [4])) .ret))

@[simp] def F35 : SFunc := ⟨2, .pure, F35_b, [.t 4]⟩

/-- slices.Reverse[[]archivist/entry.Entry,archivist/entry.Entry] -/
abbrev F36_r0 : List SI := [
  ⟨(some 4), .mv (.t 0), none⟩,
  ⟨(some 5), .len none .slice (.t 4), none⟩,
  ⟨(some 6), .bin .sub .num (.t 5) (.c (.int .i64 1)), none⟩,
  ⟨(some 2), .mv (.c (.int .i64 0)), none⟩,
  ⟨(some 3), .mv (.t 6), none⟩]

abbrev F36_r1 : List SI := [
  ⟨(some 7), .mv (.t 2), none⟩,
  ⟨(some 8), .mv (.t 3), none⟩,
  ⟨(some 9), .bin .lss .num (.t 7) (.t 8), none⟩]

abbrev F36_r2 : List SI := [
  ⟨(some 14), .mv (.t 0), none⟩,
  ⟨(some 15), .mv (.t 2), none⟩,
  ⟨(some 16), .mv (.t 0), none⟩,
  ⟨(some 17), .mv (.t 3), none⟩,
  ⟨(some 18), .mv (.t 0), none⟩,
  ⟨(some 19), .mv (.t 3), none⟩,
  ⟨(some 20), .iaddr none 3 (.t 18) (.t 19), none⟩,
  ⟨(some 21), .load .heap (some 3) (.t 20), none⟩,
  ⟨(some 22), .mv (.t 0), none⟩,
  ⟨(some 23), .mv (.t 2), none⟩,
  ⟨(some 24), .iaddr none 3 (.t 22) (.t 23), none⟩,
  ⟨(some 25), .load .heap (some 3) (.t 24), none⟩,
  ⟨(some 26), .iaddr none 3 (.t 14) (.t 15), none⟩,
  ⟨none, .store .heap 3 (.t 26) (.t 21), none⟩,
  ⟨(some 27), .iaddr none 3 (.t 16) (.t 17), none⟩,
  ⟨none, .store .heap 3 (.t 27) (.t 25), none⟩]

abbrev F36_r3 : List SI := [
  ⟨(some 10), .mv (.t 2), none⟩,
  ⟨(some 11), .bin .add .num (.t 10) (.c (.int .i64 1)), none⟩,
  ⟨(some 12), .mv (.t 3), none⟩,
  ⟨(some 13), .bin .sub .num (.t 12) (.c (.int .i64 1)), none⟩,
  ⟨(some 2), .mv (.t 11), none⟩,
  ⟨(some 3), .mv (.t 13), none⟩]

abbrev F36_l4 : SCode := (.seq (.seq (.region F36_r1 (some [0, 2, 3, 9])) (.cond (.t 9) .skip (.exit 0))) (.seq (.block 1 (.region F36_r2 (some [0, 2, 3]))) (.region F36_r3 (some [0, 2, 3]))))

abbrev F36_b : SCode := (.seq (.region F36_r0 (some [0, 2, 3])) (.block 0 (.loop [0, 2, 3] F36_l4)))

@[simp] def F36 : SFunc := ⟨1, .keep, F36_b, []⟩

/-- (*archivist/fan.Fan).Calls -/
abbrev F37_r0 : List SI := [
  ⟨(some 2), .mv (.c (.int .i64 0)), none⟩]

abbrev F37_r1 : List SI := [
  ⟨(some 3), .mv (.c (.int .i64 0)), none⟩]

abbrev F37_r2 : List SI := [
  ⟨(some 6), .mv (.t 0), none⟩,
  ⟨(some 7), .nilchk (.t 6), none⟩,
  ⟨(some 8), .faddr 0 (.t 7), none⟩,
  ⟨(some 9), .load .heap none (.t 8), none⟩,
  ⟨(some 10), .len none .slice (.t 9), none⟩,
  ⟨(some 11), .mv (.c (.int .i64 0)), none⟩]

abbrev F37_r3 : List SI := [
  ⟨(some 12), .bin .lss .num (.t 11) (.t 10), none⟩]

abbrev F37_r4 : List SI := [
  ⟨(some 13), .iaddr none 1 (.t 9) (.t 11), none⟩,
  ⟨(some 14), .load .heap none (.t 13), none⟩,
  ⟨(some 5), .mv (.t 14), none⟩]

abbrev F37_r5 : List SI := [
  ⟨(some 15), .mv (.t 3), none⟩,
  ⟨(some 16), .mv (.t 5), none⟩,
  ⟨(some 17), .nilchk (.t 16), none⟩,
  ⟨(some 18), .faddr 0 (.t 17), none⟩,
  ⟨(some 19), .callf 93 [(.t 18)], none⟩,
  ⟨(some 20), .bin .add .num (.t 15) (.t 19), none⟩,
  ⟨(some 3), .mv (.t 20), none⟩]

abbrev F37_r6 : List SI := [
  ⟨(some 21), .bin .add .num (.t 11) (.c (.int .i64 1)), none⟩,
  ⟨(some 11), .mv (.t 21), none⟩]

abbrev F37_l7 : SCode := (.seq (.region F37_r3 (some [3, 9, 10, 11, 12])) (.seq (.cond (.t 12) .skip (.exit 0)) (.seq (.block 1 (.seq (.region F37_r4 (some [3, 5, 9, 10, 11])) (.region F37_r5 (some [3, 9, 10, 11])))) (.region F37_r6 (some [3, 9, 10, 11])))))

abbrev F37_r8 : List SI := [
  ⟨(some 22), .mv (.t 3), none⟩,
  ⟨(some 2), .mv (.t 22), none⟩]

abbrev F37_b : SCode := (.seq (.region F37_r0 (some [0])) (.seq (.region F37_r1 (some [0, 3])) (.seq (.seq (.region F37_r2 (some [3, 9, 10, 11])) (.block 0 (.loop [3, 9, 10, 11] F37_l7))) (.seq (.region F37_r8 (some [2])) .ret))))

@[simp] def F37 : SFunc := ⟨1, .pure, F37_b, [.t 2]⟩

/-- slices.SortStableFunc[[]archivist/entry.Entry,archivist/entry.Entry] -/
abbrev F38_r0 : List SI := [
  ⟨(some 4), .mv (.t 0), none⟩,
  ⟨(some 5), .mv (.t 0), none⟩,
  ⟨(some 6), .len none .slice (.t 5), none⟩,
  ⟨(some 7), .mv (.t 1), none⟩,
  ⟨(some 8), .callf 42 [(.t 4), (.t 6), (.t 7)], none⟩]

abbrev F38_b : SCode := (.region F38_r0 (some []))

@[simp] def F38 : SFunc := ⟨2, .keep, F38_b, []⟩

/-- (*archivist/fan.Fan).Many -/
abbrev F39_r0 : List SI := [
  ⟨(some 2), .mv (.c (.int .i64 0)), none⟩]

abbrev F39_r1 : List SI := [
  ⟨(some 3), .mv (.t 0), none⟩,
  ⟨(some 4), .nilchk (.t 3), none⟩,
  ⟨(some 5), .faddr 0 (.t 4), none⟩,
  ⟨(some 6), .load .heap none (.t 5), none⟩,
  ⟨(some 7), .len none .slice (.t 6), none⟩,
  ⟨(some 2), .mv (.t 7), none⟩]

abbrev F39_b : SCode := (.seq (.region F39_r0 (some [0])) (.seq (.region F39_r1 (some [2])) .ret))

@[simp] def F39 : SFunc := ⟨1, .pure, F39_b, [.t 2]⟩

/-- slices.insertionSortCmpFunc[archivist/entry.Entry] -/
abbrev F40_r0 : List SI := [
  ⟨(some 10), .mv (.t 1), none⟩,
  ⟨(some 11), .bin .add .num (.t 10) (.c (.int .i64 1)), none⟩,
  ⟨(some 8), .mv (.t 11), none⟩]

abbrev F40_r1 : List SI := [
  ⟨(some 12), .mv (.t 8), none⟩,
  ⟨(some 13), .mv (.t 2), none⟩,
  ⟨(some 14), .bin .lss .num (.t 12) (.t 13), none⟩]

abbrev F40_r2 : List SI := [
  ⟨(some 17), .mv (.t 8), none⟩,
  ⟨(some 9), .mv (.t 17), none⟩]

abbrev F40_r3 : List SI := [
  ⟨(some 18), .mv (.t 9), none⟩,
  ⟨(some 19), .mv (.t 1), none⟩,
  ⟨(some 20), .bin .gtr .num (.t 18) (.t 19), none⟩,
  ⟨(some 21), .mv (.t 20), none⟩,
  ⟨(some 22), .mv (.t 3), some (21, true)⟩,
  ⟨(some 23), .mv (.t 0), some (21, true)⟩,
  ⟨(some 24), .mv (.t 9), some (21, true)⟩,
  ⟨(some 25), .iaddr none 3 (.t 23) (.t 24), some (21, true)⟩,
  ⟨(some 26), .load .heap (some 3) (.t 25), some (21, true)⟩,
  ⟨(some 27), .mv (.t 0), some (21, true)⟩,
  ⟨(some 28), .mv (.t 9), some (21, true)⟩,
  ⟨(some 29), .bin .sub .num (.t 28) (.c (.int .i64 1)), some (21, true)⟩,
  ⟨(some 30), .iaddr none 3 (.t 27) (.t 29), some (21, true)⟩,
  ⟨(some 31), .load .heap (some 3) (.t 30), some (21, true)⟩,
  ⟨(some 32), .callv false (.t 22) [(.t 26), (.t 31)], some (21, true)⟩,
  ⟨(some 33), .bin .lss .num (.t 32) (.c (.int .i64 0)), some (21, true)⟩,
  ⟨(some 34), .pick (.t 21) (.t 33) (.c (.bool false)), none⟩]

abbrev F40_r4 : List SI := [
  ⟨(some 37), .mv (.t 0), none⟩,
  ⟨(some 38), .mv (.t 9), none⟩,
  ⟨(some 39), .mv (.t 0), none⟩,
  ⟨(some 40), .mv (.t 9), none⟩,
  ⟨(some 41), .bin .sub .num (.t 40) (.c (.int .i64 1)), none⟩,
  ⟨(some 42), .mv (.t 0), none⟩,
  ⟨(some 43), .mv (.t 9), none⟩,
  ⟨(some 44), .bin .sub .num (.t 43) (.c (.int .i64 1)), none⟩,
  ⟨(some 45), .iaddr none 3 (.t 42) (.t 44), none⟩,
  ⟨(some 46), .load .heap (some 3) (.t 45), none⟩,
  ⟨(some 47), .mv (.t 0), none⟩,
  ⟨(some 48), .mv (.t 9), none⟩,
  ⟨(some 49), .iaddr none 3 (.t 47) (.t 48), none⟩,
  ⟨(some 50), .load .heap (some 3) (.t 49), none⟩,
  ⟨(some 51), .iaddr none 3 (.t 37) (.t 38), none⟩,
  ⟨none, .store .heap 3 (.t 51) (.t 46), none⟩,
  ⟨(some 52), .iaddr none 3 (.t 39) (.t 41), none⟩,
  ⟨none, .store .heap 3 (.t 52) (.t 50), none⟩]

abbrev F40_r5 : List SI := [
  ⟨(some 35), .mv (.t 9), none⟩,
  ⟨(some 36), .bin .sub .num (.t 35) (.c (.int .i64 1)), none⟩,
  ⟨(some 9), .mv (.t 36), none⟩]

abbrev F40_l6 : SCode := (.seq (.seq (.region F40_r3 (some [0, 1, 2, 3, 8, 9, 34])) (.cond (.t 34) .skip (.exit 2))) (.seq (.block 3 (.region F40_r4 (some [0, 1, 2, 3, 8, 9]))) (.region F40_r5 (some [0, 1, 2, 3, 8, 9]))))

abbrev F40_r7 : List SI := [
  ⟨(some 15), .mv (.t 8), none⟩,
  ⟨(some 16), .bin .add .num (.t 15) (.c (.int .i64 1)), none⟩,
  ⟨(some 8), .mv (.t 16), none⟩]

abbrev F40_l8 : SCode := (.seq (.seq (.region F40_r1 (some [0, 1, 2, 3, 8, 14])) (.cond (.t 14) .skip (.exit 0))) (.seq (.block 1 (.seq (.region F40_r2 (some [0, 1, 2, 3, 8, 9])) (.block 2 (.loop [0, 1, 2, 3, 8, 9] F40_l6)))) (.region F40_r7 (some [0, 1, 2, 3, 8]))))

abbrev F40_b : SCode := (.seq (.region F40_r0 (some [0, 1, 2, 3, 8])) (.block 0 (.loop [0, 1, 2, 3, 8] F40_l8)))

@[simp] def F40 : SFunc := ⟨4, .keep, F40_b, []⟩

/-- slices.Contains[[]*archivist/store.Replica,*archivist/store.Replica] -/
abbrev F41_r0 : List SI := [
  ⟨(some 4), .mv (.c (.bool false)), none⟩]

abbrev F41_r1 : List SI := [
  ⟨(some 5), .mv (.t 0), none⟩,
  ⟨(some 6), .mv (.t 1), none⟩,
  ⟨(some 7), .callf 43 [(.t 5), (.t 6)], none⟩,
  ⟨(some 8), .bin .geq .num (.t 7) (.c (.int .i64 0)), none⟩,
  ⟨(some 4), .mv (.t 8), none⟩]

abbrev F41_b : SCode := (.seq (.region F41_r0 (some [0, 1])) (.seq (.region F41_r1 (some [4])) .ret))

@[simp] def F41 : SFunc := ⟨2, .pure, F41_b, [.t 4]⟩

/-- slices.stableCmpFunc[archivist/entry.Entry] -/
abbrev F42_r0 : List SI := [
  ⟨(some 6), .mv (.c (.int .i64 20)), none⟩]

abbrev F42_r1 : List SI := [
  ⟨(some 10), .mv (.t 6), none⟩,
  ⟨(some 7), .mv (.c (.int .i64 0)), none⟩,
  ⟨(some 8), .mv (.t 10), none⟩]

abbrev F42_r2 : List SI := [
  ⟨(some 11), .mv (.t 8), none⟩,
  ⟨(some 12), .mv (.t 1), none⟩,
  ⟨(some 13), .bin .leq .num (.t 11) (.t 12), none⟩]

abbrev F42_r3 : List SI := [
  ⟨(some 14), .mv (.t 0), none⟩,
  ⟨(some 15), .mv (.t 7), none⟩,
  ⟨(some 16), .mv (.t 8), none⟩,
  ⟨(some 17), .mv (.t 2), none⟩,
  ⟨(some 18), .callf 40 [(.t 14), (.t 15), (.t 16), (.t 17)], none⟩]

abbrev F42_r4 : List SI := [
  ⟨(some 19), .mv (.t 8), none⟩,
  ⟨(some 7), .mv (.t 19), none⟩]

abbrev F42_r5 : List SI := [
  ⟨(some 20), .mv (.t 8), none⟩,
  ⟨(some 21), .mv (.t 6), none⟩,
  ⟨(some 22), .bin .add .num (.t 20) (.t 21), none⟩,
  ⟨(some 8), .mv (.t 22), none⟩]

abbrev F42_l6 : SCode := (.seq (.seq (.region F42_r2 (some [0, 1, 2, 6, 7, 8, 13])) (.cond (.t 13) .skip (.exit 0))) (.block 1 (.seq (.region F42_r3 (some [0, 1, 2, 6, 8])) (.seq (.region F42_r4 (some [0, 1, 2, 6, 7, 8])) (.region F42_r5 (some [0, 1, 2, 6, 7, 8]))))))

abbrev F42_r7 : List SI := [
  ⟨(some 23), .mv (.t 0), none⟩,
  ⟨(some 24), .mv (.t 7), none⟩,
  ⟨(some 25), .mv (.t 1), none⟩,
  ⟨(some 26), .mv (.t 2), none⟩,
  ⟨(some 27), .callf 40 [(.t 23), (.t 24), (.t 25), (.t 26)], none⟩]

abbrev F42_r8 : List SI := [
  ⟨(some 28), .mv (.t 6), none⟩,
  ⟨(some 29), .mv (.t 1), none⟩,
  ⟨(some 30), .bin .lss .num (.t 28) (.t 29), none⟩]

abbrev F42_r9 : List SI := [
  ⟨(some 31), .mv (.t 6), none⟩,
  ⟨(some 32), .bin .mul .num (.c (.int .i64 2)) (.t 31), none⟩,
  ⟨(some 7), .mv (.c (.int .i64 0)), none⟩,
  ⟨(some 8), .mv (.t 32), none⟩]

abbrev F42_r10 : List SI := [
  ⟨(some 33), .mv (.t 8), none⟩,
  ⟨(some 34), .mv (.t 1), none⟩,
  ⟨(some 35), .bin .leq .num (.t 33) (.t 34), none⟩]

abbrev F42_r11 : List SI := [
  ⟨(some 36), .mv (.t 0), none⟩,
  ⟨(some 37), .mv (.t 7), none⟩,
  ⟨(some 38), .mv (.t 7), none⟩,
  ⟨(some 39), .mv (.t 6), none⟩,
  ⟨(some 40), .bin .add .num (.t 38) (.t 39), none⟩,
  ⟨(some 41), .mv (.t 8), none⟩,
  ⟨(some 42), .mv (.t 2), none⟩,
  ⟨(some 43), .callf 44 [(.t 36), (.t 37), (.t 40), (.t 41), (.t 42)], none⟩]

abbrev F42_r12 : List SI := [
  ⟨(some 44), .mv (.t 8), none⟩,
  ⟨(some 7), .mv (.t 44), none⟩]

abbrev F42_r13 : List SI := [
  ⟨(some 45), .mv (.t 8), none⟩,
  ⟨(some 46), .mv (.t 6), none⟩,
  ⟨(some 47), .bin .mul .num (.c (.int .i64 2)) (.t 46), none⟩,
  ⟨(some 48), .bin .add .num (.t 45) (.t 47), none⟩,
  ⟨(some 8), .mv (.t 48), none⟩]

abbrev F42_l14 : SCode := (.seq (.seq (.region F42_r10 (some [0, 1, 2, 6, 7, 8, 35])) (.cond (.t 35) .skip (.exit 4))) (.block 5 (.seq (.region F42_r11 (some [0, 1, 2, 6, 8])) (.seq (.region F42_r12 (some [0, 1, 2, 6, 7, 8])) (.region F42_r13 (some [0, 1, 2, 6, 7, 8]))))))

abbrev F42_r15 : List SI := [
  ⟨(some 49), .mv (.t 7), none⟩,
  ⟨(some 50), .mv (.t 6), none⟩,
  ⟨(some 51), .bin .add .num (.t 49) (.t 50), none⟩,
  ⟨(some 9), .mv (.t 51), none⟩]

abbrev F42_r16 : List SI := [
  ⟨(some 52), .mv (.t 9), none⟩,
  ⟨(some 53), .mv (.t 1), none⟩,
  ⟨(some 54), .bin .lss .num (.t 52) (.t 53), none⟩]

abbrev F42_r17 : List SI := [
  ⟨(some 55), .mv (.t 0), none⟩,
  ⟨(some 56), .mv (.t 7), none⟩,
  ⟨(some 57), .mv (.t 9), none⟩,
  ⟨(some 58), .mv (.t 1), none⟩,
  ⟨(some 59), .mv (.t 2), none⟩,
  ⟨(some 60), .callf 44 [(.t 55), (.t 56), (.t 57), (.t 58), (.t 59)], none⟩]

abbrev F42_r18 : List SI := [
  ⟨(some 61), .mv (.t 6), none⟩,
  ⟨(some 62), .bin .mul .num (.t 61) (.c (.int .i64 2)), none⟩,
  ⟨(some 6), .mv (.t 62), none⟩]

abbrev F42_l19 : SCode := (.seq (.seq (.region F42_r8 (some [0, 1, 2, 6, 30])) (.cond (.t 30) .skip (.exit 2))) (.block 3 (.seq (.region F42_r9 (some [0, 1, 2, 6, 7, 8])) (.seq (.block 4 (.loop [0, 1, 2, 6, 7, 8] F42_l14)) (.seq (.seq (.region F42_r15 (some [0, 1, 2, 6, 7, 9])) (.seq (.region F42_r16 (some [0, 1, 2, 6, 7, 9, 54])) (.cond (.t 54) (.region F42_r17 (some [0, 1, 2, 6])) .skip))) (.region F42_r18 (some [0, 1, 2, 6])))))))

abbrev F42_b : SCode := (.seq (.region F42_r0 (some [0, 1, 2, 6])) (.seq (.region F42_r1 (some [0, 1, 2, 6, 7, 8])) (.seq (.block 0 (.loop [0, 1, 2, 6, 7, 8] F42_l6)) (.seq (.region F42_r7 (some [0, 1, 2, 6])) (.block 2 (.loop [0, 1, 2, 6] F42_l19))))))

@[simp] def F42 : SFunc := ⟨3, .keep, F42_b, []⟩

/-- slices.Index[[]*archivist/store.Replica,*archivist/store.Replica] -/
abbrev F43_r0 : List SI := [
  ⟨(some 4), .mv (.c (.int .i64 0)), none⟩]

abbrev F43_r1 : List SI := [
  ⟨(some 6), .mv (.t 0), none⟩,
  ⟨(some 7), .len none .slice (.t 6), none⟩,
  ⟨(some 8), .mv (.c (.int .i64 0)), none⟩]

abbrev F43_r2 : List SI := [
  ⟨(some 9), .bin .lss .num (.t 8) (.t 7), none⟩]

abbrev F43_r3 : List SI := [
  ⟨(some 10), .mv (.t 8), none⟩,
  ⟨(some 5), .mv (.t 10), none⟩]

abbrev F43_r4 : List SI := [
  ⟨(some 11), .mv (.t 1), none⟩,
  ⟨(some 12), .mv (.t 0), none⟩,
  ⟨(some 13), .mv (.t 5), none⟩,
  ⟨(some 14), .iaddr none 1 (.t 12) (.t 13), none⟩,
  ⟨(some 15), .load .heap none (.t 14), none⟩,
  ⟨(some 16), .bin .eql .ptr (.t 11) (.t 15), none⟩]

abbrev F43_r5 : List SI := [
  ⟨(some 17), .mv (.t 5), none⟩,
  ⟨(some 4), .mv (.t 17), none⟩]

abbrev F43_r6 : List SI := [
  ⟨(some 18), .bin .add .num (.t 8) (.c (.int .i64 1)), none⟩,
  ⟨(some 8), .mv (.t 18), none⟩]

abbrev F43_l7 : SCode := (.seq (.region F43_r2 (some [0, 1, 7, 8, 9])) (.seq (.cond (.t 9) .skip (.exit 0)) (.seq (.block 1 (.seq (.region F43_r3 (some [0, 1, 5, 7, 8])) (.seq (.region F43_r4 (some [0, 1, 5, 7, 8, 16])) (.cond (.t 16) (.seq (.region F43_r5 (some [4])) .ret) .skip)))) (.region F43_r6 (some [0, 1, 7, 8])))))

abbrev F43_r8 : List SI := [
  ⟨(some 4), .mv (.c (.int .i64 (-1))), none⟩]

abbrev F43_b : SCode := (.seq (.region F43_r0 (some [0, 1])) (.seq (.seq (.region F43_r1 (some [0, 1, 7, 8])) (.block 0 (.loop [0, 1, 7, 8] F43_l7))) (.seq (.region F43_r8 (some [4])) .ret)))

@[simp] def F43 : SFunc := ⟨2, .pure, F43_b, [.t 4]⟩

/-- slices.Clone[[]*archivist/store.Replica,*archivist/store.Replica] -/
abbrev F45_r0 : List SI := [
  ⟨(some 2), .mv (.c (.nils)), none⟩]

abbrev F45_r1 : List SI := [
  ⟨(some 3), .mv (.t 0), none⟩,
  ⟨(some 4), .bin .eql .slice (.t 3) (.c (.nils)), none⟩]

abbrev F45_r2 : List SI := [
  ⟨(some 2), .mv (.c (.nils)), none⟩]

abbrev F45_r3 : List SI := [
  ⟨(some 5), .bslice false 1 [] [], none⟩,
  ⟨(some 6), .mv (.t 0), none⟩,
  ⟨(some 7), .append 1 none (.t 5) (.t 6), none⟩,
  ⟨(some 2), .mv (.t 7), none⟩]

abbrev F45_b : SCode := (.seq (.region F45_r0 (some [0])) (.seq (.seq (.region F45_r1 (some [0, 4])) (.cond (.t 4) (.seq (.region F45_r2 (some [2])) .ret) .skip)) (.seq (.region F45_r3 (some [2])) .ret)))

@[simp] def F45 : SFunc := ⟨1, .pure, F45_b, [.t 2]⟩

/-- slices.Clone[[]archivist/store.Reply,archivist/store.Reply] -/
abbrev F47_r0 : List SI := [
  ⟨(some 2), .mv (.c (.nils)), none⟩]

abbrev F47_r1 : List SI := [
  ⟨(some 3), .mv (.t 0), none⟩,
  ⟨(some 4), .bin .eql .slice (.t 3) (.c (.nils)), none⟩]

abbrev F47_r2 : List SI := [
  ⟨(some 2), .mv (.c (.nils)), none⟩]

abbrev F47_r3 : List SI := [
  ⟨(some 5), .bslice false 2 [] [], none⟩,
  ⟨(some 6), .mv (.t 0), none⟩,
  ⟨(some 7), .append 2 none (.t 5) (.t 6), none⟩,
  ⟨(some 2), .mv (.t 7), none⟩]

abbrev F47_b : SCode := (.seq (.region F47_r0 (some [0])) (.seq (.seq (.region F47_r1 (some [0, 4])) (.cond (.t 4) (.seq (.region F47_r2 (some [2])) .ret) .skip)) (.seq (.region F47_r3 (some [2])) .ret)))

@[simp] def F47 : SFunc := ⟨1, .pure, F47_b, [.t 2]⟩

/-- slices.Clone[archivist/label.Set,archivist/label.Pair] -/
abbrev F49_r0 : List SI := [
  ⟨(some 2), .mv (.c (.nils)), none⟩]

abbrev F49_r1 : List SI := [
  ⟨(some 3), .mv (.t 0), none⟩,
  ⟨(some 4), .bin .eql .slice (.t 3) (.c (.nils)), none⟩]

abbrev F49_r2 : List SI := [
  ⟨(some 2), .mv (.c (.nils)), none⟩]

abbrev F49_r3 : List SI := [
  ⟨(some 5), .bslice false 2 [] [], none⟩,
  ⟨(some 6), .mv (.t 0), none⟩,
  ⟨(some 7), .append 2 none (.t 5) (.t 6), none⟩,
  ⟨(some 2), .mv (.t 7), none⟩]

abbrev F49_b : SCode := (.seq (.region F49_r0 (some [0])) (.seq (.seq (.region F49_r1 (some [0, 4])) (.cond (.t 4) (.seq (.region F49_r2 (some [2])) .ret) .skip)) (.seq (.region F49_r3 (some [2])) .ret)))

@[simp] def F49 : SFunc := ⟨1, .pure, F49_b, [.t 2]⟩

/-- slices.IndexFunc[[]archivist/entry.Entry,archivist/entry.Entry] -/
abbrev F51_r0 : List SI := [
  ⟨(some 4), .mv (.c (.int .i64 0)), none⟩]

abbrev F51_r1 : List SI := [
  ⟨(some 6), .mv (.t 0), none⟩,
  ⟨(some 7), .len none .slice (.t 6), none⟩,
  ⟨(some 8), .mv (.c (.int .i64 0)), none⟩]

abbrev F51_r2 : List SI := [
  ⟨(some 9), .bin .lss .num (.t 8) (.t 7), none⟩]

abbrev F51_r3 : List SI := [
  ⟨(some 10), .mv (.t 8), none⟩,
  ⟨(some 5), .mv (.t 10), none⟩]

abbrev F51_r4 : List SI := [
  ⟨(some 11), .mv (.t 1), none⟩,
  ⟨(some 12), .mv (.t 0), none⟩,
  ⟨(some 13), .mv (.t 5), none⟩,
  ⟨(some 14), .iaddr none 3 (.t 12) (.t 13), none⟩,
  ⟨(some 15), .load .heap (some 3) (.t 14), none⟩,
  ⟨(some 16), .callv false (.t 11) [(.t 15)], none⟩]

abbrev F51_r5 : List SI := [
  ⟨(some 17), .mv (.t 5), none⟩,
  ⟨(some 4), .mv (.t 17), none⟩]

abbrev F51_r6 : List SI := [
  ⟨(some 18), .bin .add .num (.t 8) (.c (.int .i64 1)), none⟩,
  ⟨(some 8), .mv (.t 18), none⟩]

abbrev F51_l7 : SCode := (.seq (.region F51_r2 (some [0, 1, 7, 8, 9])) (.seq (.cond (.t 9) .skip (.exit 0)) (.seq (.block 1 (.seq (.region F51_r3 (some [0, 1, 5, 7, 8])) (.seq (.region F51_r4 (some [0, 1, 5, 7, 8, 16])) (.cond (.t 16) (.seq (.region F51_r5 (some [4])) .ret) .skip)))) (.region F51_r6 (some [0, 1, 7, 8])))))

abbrev F51_r8 : List SI := [
  ⟨(some 4), .mv (.c (.int .i64 (-1))), none⟩]

abbrev F51_b : SCode := (.seq (.region F51_r0 (some [0, 1])) (.seq (.seq (.region F51_r1 (some [0, 1, 7, 8])) (.block 0 (.loop [0, 1, 7, 8] F51_l7))) (.seq (.region F51_r8 (some [4])) .ret)))

@[simp] def F51 : SFunc := ⟨2, .pure, F51_b, [.t 4]⟩

/-- archivist/store.New$1 -/
abbrev F53_r0 : List SI := [
  ⟨(some 1), .box .imm (.t 0), none⟩,
  ⟨(some 2), .mv (.c (.bool false)), none⟩]

abbrev F53_r1 : List SI := [
  ⟨(some 3), .load .imm (some 3) (.t 1), none⟩,
  ⟨(some 4), .callf 55 [(.t 3)], none⟩,
  ⟨(some 5), .un .not (.t 4), none⟩,
  ⟨(some 2), .mv (.t 5), none⟩]

abbrev F53_b : SCode := (.seq (.region F53_r0 (some [1])) (.seq (.region F53_r1 (some [2])) .ret))

@[simp] def F53 : SFunc := ⟨1, .pure, F53_b, [.t 2]⟩

/-- archivist/entry.Right -/
abbrev F55_r0 : List SI := [
  ⟨(some 1), .box .imm (.t 0), none⟩,
  ⟨(some 2), .mv (.c (.bool false)), none⟩]

abbrev F55_r1 : List SI := [
  ⟨(some 3), .faddr 1 (.t 1), none⟩,
  ⟨(some 4), .load .imm none (.t 3), none⟩,
  ⟨(some 5), .callf 57 [(.t 4)], none⟩,
  ⟨(some 6), .mv (.t 5), none⟩,
  ⟨(some 7), .faddr 2 (.t 1), some (6, true)⟩,
  ⟨(some 8), .load .imm none (.t 7), some (6, true)⟩,
  ⟨(some 9), .len none .str (.t 8), some (6, true)⟩,
  ⟨(some 10), .bin .leq .num (.t 9) (.c (.int .i64 256)), some (6, true)⟩,
  ⟨(some 11), .pick (.t 6) (.t 10) (.c (.bool false)), none⟩,
  ⟨(some 2), .mv (.t 11), none⟩]

abbrev F55_b : SCode := (.seq (.region F55_r0 (some [1])) (.seq (.region F55_r1 (some [2])) .ret))

@[simp] def F55 : SFunc := ⟨1, .pure, F55_b, [.t 2]⟩

/-- archivist/label.Right -/
abbrev F57_r0 : List SI := [
  ⟨(some 2), .mv (.c (.bool false)), none⟩]

abbrev F57_r1 : List SI := [
  ⟨(some 5), .mv (.t 0), none⟩,
  ⟨(some 6), .len none .slice (.t 5), none⟩,
  ⟨(some 7), .mv (.c (.int .i64 0)), none⟩]

abbrev F57_r2 : List SI := [
  ⟨(some 8), .bin .lss .num (.t 7) (.t 6), none⟩]

abbrev F57_r3 : List SI := [
  ⟨(some 9), .mv (.t 7), none⟩,
  ⟨(some 10), .iaddr none 2 (.t 5) (.t 7), none⟩,
  ⟨(some 11), .load .heap (some 2) (.t 10), none⟩,
  ⟨(some 4), .new (.loc 4) [.str [], .str []], none⟩,
  ⟨(some 3), .mv (.t 9), none⟩,
  ⟨none, .store .own 2 (.t 4) (.t 11), none⟩]

abbrev F57_r4 : List SI := [
  ⟨(some 12), .faddr 0 (.t 4), none⟩,
  ⟨(some 13), .load .own none (.t 12), none⟩,
  ⟨(some 14), .callf 15 [(.t 13)], none⟩,
  ⟨(some 15), .un .not (.t 14), none⟩,
  ⟨(some 16), .mv (.t 15), none⟩,
  ⟨(some 17), .faddr 1 (.t 4), some (16, false)⟩,
  ⟨(some 18), .load .own none (.t 17), some (16, false)⟩,
  ⟨(some 19), .len none .str (.t 18), some (16, false)⟩,
  ⟨(some 20), .bin .gtr .num (.t 19) (.c (.int .i64 256)), some (16, false)⟩,
  ⟨(some 21), .pick (.t 16) (.c (.bool true)) (.t 20), none⟩,
  ⟨(some 22), .mv (.t 21), none⟩,
  ⟨(some 23), .mv (.t 3), some (22, false)⟩,
  ⟨(some 24), .bin .gtr .num (.t 23) (.c (.int .i64 0)), some (22, false)⟩,
  ⟨(some 25), .mv (.t 24), some (22, false)⟩,
  ⟨(some 26), .mv (.t 0), some (25, true)⟩,
  ⟨(some 27), .mv (.t 3), some (25, true)⟩,
  ⟨(some 28), .bin .sub .num (.t 27) (.c (.int .i64 1)), some (25, true)⟩,
  ⟨(some 29), .iaddr none 2 (.t 26) (.t 28), some (25, true)⟩,
  ⟨(some 30), .load .heap (some 2) (.t 29), some (25, true)⟩,
  ⟨(some 31), .load .own (some 2) (.t 4), some (25, true)⟩,
  ⟨(some 32), .callf 19 [(.t 30), (.t 31)], some (25, true)⟩,
  ⟨(some 33), .bin .geq .num (.t 32) (.c (.int .i64 0)), some (25, true)⟩,
  ⟨(some 34), .pick (.t 25) (.t 33) (.c (.bool false)), some (22, false)⟩,
  ⟨(some 35), .pick (.t 22) (.c (.bool true)) (.t 34), none⟩]

abbrev F57_r5 : List SI := [
  ⟨(some 2), .mv (.c (.bool false)), none⟩]

abbrev F57_r6 : List SI := [
  ⟨(some 36), .bin .add .num (.t 7) (.c (.int .i64 1)), none⟩,
  ⟨(some 7), .mv (.t 36), none⟩]

abbrev F57_l7 : SCode := (.seq (.region F57_r2 (some [0, 5, 6, 7, 8])) (.seq (.cond (.t 8) .skip (.exit 0)) (.seq (.block 1 (.seq (.region F57_r3 (some [0, 3, 4, 5, 6, 7])) (.seq (.region F57_r4 (some [0, 5, 6, 7, 35])) (.cond (.t 35) (.seq (.region F57_r5 (some [2])) .ret) .skip)))) (.region F57_r6 (some [0, 5, 6, 7])))))

abbrev F57_r8 : List SI := [
  ⟨(some 37), .mv (.t 0), none⟩,
  ⟨(some 38), .len none .slice (.t 37), none⟩,
  ⟨(some 39), .bin .leq .num (.t 38) (.c (.int .i64 16)), none⟩,
  ⟨(some 2), .mv (.t 39), none⟩]

abbrev F57_b : SCode := (.seq (.region F57_r0 (some [0])) (.seq (.seq (.region F57_r1 (some [0, 5, 6, 7])) (.block 0 (.loop [0, 5, 6, 7] F57_l7))) (.seq (.region F57_r8 (some [2])) .ret)))

@[simp] def F57 : SFunc := ⟨1, .pure, F57_b, [.t 2]⟩

/-- cmp.Or[int] -/
abbrev F59_r0 : List SI := [
  ⟨(some 2), .mv (.c (.int .i64 0)), none⟩]

abbrev F59_r1 : List SI := [
  ⟨(some 3), .mv (.c (.int .i64 0)), none⟩]

abbrev F59_r2 : List SI := [
  ⟨(some 6), .mv (.t 0), none⟩,
  ⟨(some 7), .len none .slice (.t 6), none⟩,
  ⟨(some 8), .mv (.c (.int .i64 0)), none⟩]

abbrev F59_r3 : List SI := [
  ⟨(some 9), .bin .lss .num (.t 8) (.t 7), none⟩]

abbrev F59_r4 : List SI := [
  ⟨(some 10), .iaddr none 1 (.t 6) (.t 8), none⟩,
  ⟨(some 11), .load .heap none (.t 10), none⟩,
  ⟨(some 5), .mv (.t 11), none⟩]

abbrev F59_r5 : List SI := [
  ⟨(some 12), .mv (.t 5), none⟩,
  ⟨(some 13), .mv (.t 3), none⟩,
  ⟨(some 14), .bin .neq .num (.t 12) (.t 13), none⟩]

abbrev F59_r6 : List SI := [
  ⟨(some 15), .mv (.t 5), none⟩,
  ⟨(some 2), .mv (.t 15), none⟩]

abbrev F59_r7 : List SI := [
  ⟨(some 16), .bin .add .num (.t 8) (.c (.int .i64 1)), none⟩,
  ⟨(some 8), .mv (.t 16), none⟩]

abbrev F59_l8 : SCode := (.seq (.region F59_r3 (some [3, 6, 7, 8, 9])) (.seq (.cond (.t 9) .skip (.exit 0)) (.seq (.block 1 (.seq (.region F59_r4 (some [3, 5, 6, 7, 8])) (.seq (.region F59_r5 (some [3, 5, 6, 7, 8, 14])) (.cond (.t 14) (.seq (.region F59_r6 (some [2])) .ret) .skip)))) (.region F59_r7 (some [3, 6, 7, 8])))))

abbrev F59_r9 : List SI := [
  ⟨(some 17), .mv (.t 3), none⟩,
  ⟨(some 2), .mv (.t 17), none⟩]

abbrev F59_b : SCode := (.seq (.region F59_r0 (some [0])) (.seq (.region F59_r1 (some [0, 3])) (.seq (.seq (.region F59_r2 (some [3, 6, 7, 8])) (.block 0 (.loop [3, 6, 7, 8] F59_l8))) (.seq (.region F59_r9 (some [2])) .ret))))

@[simp] def F59 : SFunc := ⟨1, .pure, F59_b, [.t 2]⟩

/-- cmp.Compare[int64] -/
abbrev F61_r0 : List SI := [
  ⟨(some 4), .mv (.c (.int .i64 0)), none⟩]

abbrev F61_r1 : List SI := [
  ⟨(some 7), .mv (.t 0), none⟩,
  ⟨(some 8), .callf 63 [(.t 7)], none⟩,
  ⟨(some 5), .mv (.t 8), none⟩]

abbrev F61_r2 : List SI := [
  ⟨(some 9), .mv (.t 1), none⟩,
  ⟨(some 10), .callf 63 [(.t 9)], none⟩,
  ⟨(some 6), .mv (.t 10), none⟩]

abbrev F61_r3 : List SI := [
  ⟨(some 11), .mv (.t 5), none⟩]

abbrev F61_r4 : List SI := [
  ⟨(some 12), .mv (.t 6), none⟩]

abbrev F61_r5 : List SI := [
  ⟨(some 4), .mv (.c (.int .i64 0)), none⟩]

abbrev F61_r6 : List SI := [
  ⟨(some 4), .mv (.c (.int .i64 (-1))), none⟩]

abbrev F61_r7 : List SI := [
  ⟨(some 13), .mv (.t 6), none⟩]

abbrev F61_r8 : List SI := [
  ⟨(some 4), .mv (.c (.int .i64 1)), none⟩]

abbrev F61_r9 : List SI := [
  ⟨(some 14), .mv (.t 0), none⟩,
  ⟨(some 15), .mv (.t 1), none⟩,
  ⟨(some 16), .bin .lss .num (.t 14) (.t 15), none⟩]

abbrev F61_r10 : List SI := [
  ⟨(some 4), .mv (.c (.int .i64 (-1))), none⟩]

abbrev F61_r11 : List SI := [
  ⟨(some 17), .mv (.t 0), none⟩,
  ⟨(some 18), .mv (.t 1), none⟩,
  ⟨(some 19), .bin .gtr .num (.t 17) (.t 18), none⟩]

abbrev F61_r12 : List SI := [
  ⟨(some 4), .mv (.c (.int .i64 1)), none⟩]

abbrev F61_r13 : List SI := [
  ⟨(some 4), .mv (.c (.int .i64 0)), none⟩]

abbrev F61_b : SCode := (.seq (.region F61_r0 (some [0, 1])) (.seq (.region F61_r1 (some [0, 1, 5])) (.seq (.region F61_r2 (some [0, 1, 5, 6])) (.seq (.seq (.region F61_r3 (some [0, 1, 6, 11])) (.cond (.t 11) (.seq (.seq (.region F61_r4 (some [12])) (.cond (.t 12) (.seq (.region F61_r5 (some [4])) .ret) .skip)) (.seq (.region F61_r6 (some [4])) .ret)) .skip)) (.seq (.seq (.region F61_r7 (some [0, 1, 13])) (.cond (.t 13) (.seq (.region F61_r8 (some [4])) .ret) .skip)) (.seq (.seq (.region F61_r9 (some [0, 1, 16])) (.cond (.t 16) (.seq (.region F61_r10 (some [4])) .ret) .skip)) (.seq (.seq (.region F61_r11 (some [19])) (.cond (.t 19) (.seq (.region F61_r12 (some [4])) .ret) .skip)) (.seq (.region F61_r13 (some [4])) .ret))))))))

@[simp] def F61 : SFunc := ⟨2, .pure, F61_b, [.t 4]⟩

/-- cmp.isNaN[int64] -/
abbrev F63_r0 : List SI := [
  ⟨(some 2), .mv (.c (.bool false)), none⟩]

abbrev F63_r1 : List SI := [
  ⟨(some 3), .mv (.t 0), none⟩,
  ⟨(some 4), .mv (.t 0), none⟩,
  ⟨(some 5), .bin .neq .num (.t 3) (.t 4), none⟩,
  ⟨(some 2), .mv (.t 5), none⟩]

abbrev F63_b : SCode := (.seq (.region F63_r0 (some [0])) (.seq (.region F63_r1 (some [2])) .ret))

@[simp] def F63 : SFunc := ⟨1, .pure, F63_b, [.t 2]⟩

/-- archivist/label.Order -/
abbrev F65_r0 : List SI := [
  ⟨(some 4), .mv (.c (.int .i64 0)), none⟩]

abbrev F65_r1 : List SI := [
  ⟨(some 5), .mv (.t 0), none⟩,
  ⟨(some 6), .mv (.t 1), none⟩,
  ⟨(some 7), .callf 69 [(.t 5), (.t 6), (.f 67)], none⟩,
  ⟨(some 4), .mv (.t 7), none⟩]

abbrev F65_b : SCode := (.seq (.region F65_r0 (some [0, 1])) (.seq (.region F65_r1 (some [4])) .ret))

@[simp] def F65 : SFunc := ⟨2, .pure, F65_b, [.t 4]⟩

/-- archivist/label.Order$1 -/
abbrev F67_r0 : List SI := [
  ⟨(some 2), .box .imm (.t 0), none⟩,
  ⟨(some 3), .box .imm (.t 1), none⟩,
  ⟨(some 4), .mv (.c (.int .i64 0)), none⟩]

abbrev F67_r1 : List SI := [
  ⟨(some 5), .load .imm (some 2) (.t 2), none⟩,
  ⟨(some 6), .load .imm (some 2) (.t 3), none⟩,
  ⟨(some 7), .callf 19 [(.t 5), (.t 6)], none⟩,
  ⟨(some 8), .faddr 1 (.t 2), none⟩,
  ⟨(some 9), .load .imm none (.t 8), none⟩,
  ⟨(some 10), .faddr 1 (.t 3), none⟩,
  ⟨(some 11), .load .imm none (.t 10), none⟩,
  ⟨(some 12), .callf 21 [(.t 9), (.t 11)], none⟩,
  ⟨(some 13), .bslice false 1 [[.int .i64 0], [.int .i64 0]] [(0, (.t 7)), (1, (.t 12))], none⟩,
  ⟨(some 14), .callf 59 [(.t 13)], none⟩,
  ⟨(some 4), .mv (.t 14), none⟩]

abbrev F67_b : SCode := (.seq (.region F67_r0 (some [2, 3])) (.seq (.region F67_r1 (some [4])) .ret))

@[simp] def F67 : SFunc := ⟨2, .pure, F67_b, [.t 4]⟩

/-- slices.CompareFunc[archivist/label.Set,archivist/label.Set,archivist/label.Pair,archivist/label.Pair] -/
abbrev F69_r0 : List SI := [
  ⟨(some 6), .mv (.c (.int .i64 0)), none⟩]

abbrev F69_r1 : List SI := [
  ⟨(some 11), .mv (.t 0), none⟩,
  ⟨(some 12), .len none .slice (.t 11), none⟩,
  ⟨(some 13), .mv (.c (.int .i64 0)), none⟩]

abbrev F69_r2 : List SI := [
  ⟨(some 14), .bin .lss .num (.t 13) (.t 12), none⟩]

abbrev F69_r3 : List SI := [
  ⟨(some 15), .mv (.t 13), none⟩,
  ⟨(some 16), .iaddr none 2 (.t 11) (.t 13), none⟩,
  ⟨(some 17), .load .heap (some 2) (.t 16), none⟩,
  ⟨(some 8), .new (.loc 8) [.str [], .str []], none⟩,
  ⟨(some 7), .mv (.t 15), none⟩,
  ⟨none, .store .own 2 (.t 8) (.t 17), none⟩]

abbrev F69_r4 : List SI := [
  ⟨(some 18), .mv (.t 7), none⟩,
  ⟨(some 19), .mv (.t 1), none⟩,
  ⟨(some 20), .len none .slice (.t 19), none⟩,
  ⟨(some 21), .bin .geq .num (.t 18) (.t 20), none⟩]

abbrev F69_r5 : List SI := [
  ⟨(some 6), .mv (.c (.int .i64 1)), none⟩]

abbrev F69_r6 : List SI := [
  ⟨(some 22), .mv (.t 1), none⟩,
  ⟨(some 23), .mv (.t 7), none⟩,
  ⟨(some 24), .iaddr none 2 (.t 22) (.t 23), none⟩,
  ⟨(some 25), .load .heap (some 2) (.t 24), none⟩,
  ⟨(some 9), .new (.loc 9) [.str [], .str []], none⟩,
  ⟨none, .store .own 2 (.t 9) (.t 25), none⟩]

abbrev F69_r7 : List SI := [
  ⟨(some 26), .mv (.t 2), none⟩,
  ⟨(some 27), .load .own (some 2) (.t 8), none⟩,
  ⟨(some 28), .load .own (some 2) (.t 9), none⟩,
  ⟨(some 29), .callv false (.t 26) [(.t 27), (.t 28)], none⟩,
  ⟨(some 10), .mv (.t 29), none⟩]

abbrev F69_r8 : List SI := [
  ⟨(some 30), .mv (.t 10), none⟩,
  ⟨(some 31), .bin .neq .num (.t 30) (.c (.int .i64 0)), none⟩]

abbrev F69_r9 : List SI := [
  ⟨(some 32), .mv (.t 10), none⟩,
  ⟨(some 6), .mv (.t 32), none⟩]

abbrev F69_r10 : List SI := [
  ⟨(some 33), .bin .add .num (.t 13) (.c (.int .i64 1)), none⟩,
  ⟨(some 13), .mv (.t 33), none⟩]

abbrev F69_l11 : SCode := (.seq (.region F69_r2 (some [0, 1, 2, 11, 12, 13, 14])) (.seq (.cond (.t 14) .skip (.exit 0)) (.seq (.block 1 (.seq (.region F69_r3 (some [0, 1, 2, 7, 8, 11, 12, 13])) (.seq (.seq (.region F69_r4 (some [0, 1, 2, 7, 8, 11, 12, 13, 21])) (.cond (.t 21) (.seq (.region F69_r5 (some [6])) .ret) .skip)) (.seq (.region F69_r6 (some [0, 1, 2, 8, 9, 11, 12, 13])) (.seq (.region F69_r7 (some [0, 1, 2, 10, 11, 12, 13])) (.seq (.region F69_r8 (some [0, 1, 2, 10, 11, 12, 13, 31])) (.cond (.t 31) (.seq (.region F69_r9 (some [6])) .ret) .skip))))))) (.region F69_r10 (some [0, 1, 2, 11, 12, 13])))))

abbrev F69_r12 : List SI := [
  ⟨(some 34), .mv (.t 0), none⟩,
  ⟨(some 35), .len none .slice (.t 34), none⟩,
  ⟨(some 36), .mv (.t 1), none⟩,
  ⟨(some 37), .len none .slice (.t 36), none⟩,
  ⟨(some 38), .bin .lss .num (.t 35) (.t 37), none⟩]

abbrev F69_r13 : List SI := [
  ⟨(some 6), .mv (.c (.int .i64 (-1))), none⟩]

abbrev F69_r14 : List SI := [
  ⟨(some 6), .mv (.c (.int .i64 0)), none⟩]

abbrev F69_b : SCode := (.seq (.region F69_r0 (some [0, 1, 2])) (.seq (.seq (.region F69_r1 (some [0, 1, 2, 11, 12, 13])) (.block 0 (.loop [0, 1, 2, 11, 12, 13] F69_l11))) (.seq (.seq (.region F69_r12 (some [38])) (.cond (.t 38) (.seq (.region F69_r13 (some [6])) .ret) .skip)) (.seq (.region F69_r14 (some [6])) .ret))))

@[simp] def F69 : SFunc := ⟨3, .pure, F69_b, [.t 6]⟩

/-- archivist/merge.All -/
abbrev F71_r0 : List SI := [
  ⟨(some 6), .mv (.c (.nils)), none⟩,
  ⟨(some 7), .mv (.c (.bool false)), none⟩]

abbrev F71_r1 : List SI := [
  ⟨(some 15), .mv (.t 0), none⟩,
  ⟨(some 16), .callf 77 [(.t 15)], none⟩,
  ⟨(some 8), .new .heap [.nilf], none⟩,
  ⟨none, .store .heap 1 (.t 8) (.t 16), none⟩]

abbrev F71_r2 : List SI := [
  ⟨(some 17), .mkfn 81 [] [(.t 8)], none⟩,
  ⟨(some 18), .callf 24 [(.t 17), (.c (.nils))], none⟩,
  ⟨(some 9), .mv (.t 18), none⟩]

abbrev F71_r3 : List SI := [
  ⟨(some 19), .mv (.t 2), none⟩,
  ⟨(some 20), .len none .slice (.t 19), none⟩,
  ⟨(some 21), .mv (.c (.int .i64 0)), none⟩]

abbrev F71_r4 : List SI := [
  ⟨(some 22), .bin .lss .num (.t 21) (.t 20), none⟩]

abbrev F71_r5 : List SI := [
  ⟨(some 23), .iaddr none 1 (.t 19) (.t 21), none⟩,
  ⟨(some 24), .load .heap none (.t 23), none⟩,
  ⟨(some 11), .mv (.t 24), none⟩]

abbrev F71_r6 : List SI := [
  ⟨(some 25), .mv (.t 0), none⟩,
  ⟨(some 26), .mv (.t 11), none⟩,
  ⟨(some 27), .callf 107 [(.t 25), (.t 26)], none⟩,
  ⟨(some 28), .un .not (.t 27), none⟩]

abbrev F71_r7 : List SI := [
  ⟨(some 6), .mv (.c (.nils)), none⟩,
  ⟨(some 7), .mv (.c (.bool false)), none⟩]

abbrev F71_r8 : List SI := [
  ⟨(some 29), .mv (.t 11), none⟩,
  ⟨(some 30), .len none .slice (.t 29), none⟩,
  ⟨(some 31), .bin .gtr .num (.t 30) (.c (.int .i64 0)), none⟩]

abbrev F71_r9 : List SI := [
  ⟨(some 32), .mv (.t 9), none⟩,
  ⟨(some 33), .mv (.t 11), none⟩,
  ⟨(some 34), .bslice false 1 [[.nils]] [(0, (.t 33))], none⟩,
  ⟨(some 35), .callf 8 [(.t 32), (.t 34)], none⟩]

abbrev F71_r10 : List SI := [
  ⟨(some 36), .bin .add .num (.t 21) (.c (.int .i64 1)), none⟩,
  ⟨(some 21), .mv (.t 36), none⟩]

abbrev F71_l11 : SCode := (.seq (.region F71_r4 (some [0, 1, 9, 19, 20, 21, 22])) (.seq (.cond (.t 22) .skip (.exit 0)) (.seq (.block 1 (.seq (.region F71_r5 (some [0, 1, 9, 11, 19, 20, 21])) (.seq (.seq (.region F71_r6 (some [0, 1, 9, 11, 19, 20, 21, 28])) (.cond (.t 28) (.seq (.region F71_r7 (some [6, 7])) .ret) .skip)) (.seq (.region F71_r8 (some [0, 1, 9, 11, 19, 20, 21, 31])) (.cond (.t 31) (.region F71_r9 (some [0, 1, 9, 19, 20, 21])) .skip))))) (.region F71_r10 (some [0, 1, 9, 19, 20, 21])))))

abbrev F71_r12 : List SI := [
  ⟨(some 12), .mv (.c (.nils)), none⟩]

abbrev F71_r13 : List SI := [
  ⟨(some 38), .mv (.t 9), none⟩,
  ⟨(some 39), .callf 6 [(.t 38)], none⟩,
  ⟨(some 37), .mv (.t 39), none⟩,
  ⟨(some 40), .extract 0 (.t 37), none⟩,
  ⟨(some 41), .extract 1 (.t 37), none⟩,
  ⟨(some 13), .mv (.t 40), none⟩,
  ⟨(some 14), .mv (.t 41), none⟩]

abbrev F71_r14 : List SI := [
  ⟨(some 42), .mv (.t 14), none⟩,
  ⟨(some 43), .mv (.t 42), none⟩,
  ⟨(some 44), .mv (.t 12), some (43, true)⟩,
  ⟨(some 45), .len none .slice (.t 44), some (43, true)⟩,
  ⟨(some 46), .mv (.t 1), some (43, true)⟩,
  ⟨(some 47), .bin .lss .num (.t 45) (.t 46), some (43, true)⟩,
  ⟨(some 48), .pick (.t 43) (.t 47) (.c (.bool false)), none⟩]

abbrev F71_r15 : List SI := [
  ⟨(some 54), .mv (.t 12), none⟩,
  ⟨(some 55), .len none .slice (.t 54), none⟩,
  ⟨(some 56), .bin .eql .num (.t 55) (.c (.int .i64 0)), none⟩,
  ⟨(some 57), .mv (.t 56), none⟩,
  ⟨(some 58), .mv (.t 12), some (57, false)⟩,
  ⟨(some 59), .mv (.t 12), some (57, false)⟩,
  ⟨(some 60), .len none .slice (.t 59), some (57, false)⟩,
  ⟨(some 61), .bin .sub .num (.t 60) (.c (.int .i64 1)), some (57, false)⟩,
  ⟨(some 62), .iaddr none 3 (.t 58) (.t 61), some (57, false)⟩,
  ⟨(some 63), .load .heap (some 3) (.t 62), some (57, false)⟩,
  ⟨(some 64), .mv (.t 13), some (57, false)⟩,
  ⟨(some 65), .iaddr none 3 (.t 64) (.c (.int .i64 0)), some (57, false)⟩,
  ⟨(some 66), .load .heap (some 3) (.t 65), some (57, false)⟩,
  ⟨(some 67), .callf 33 [(.t 63), (.t 66)], some (57, false)⟩,
  ⟨(some 68), .un .not (.t 67), some (57, false)⟩,
  ⟨(some 69), .pick (.t 57) (.c (.bool true)) (.t 68), none⟩]

abbrev F71_r16 : List SI := [
  ⟨(some 70), .mv (.t 12), none⟩,
  ⟨(some 71), .mv (.t 13), none⟩,
  ⟨(some 72), .iaddr none 3 (.t 71) (.c (.int .i64 0)), none⟩,
  ⟨(some 73), .load .heap (some 3) (.t 72), none⟩,
  ⟨(some 74), .bslice false 3 [[.int .i64 0, .nils, .str []]] [(0, (.t 73))], none⟩,
  ⟨(some 75), .append 3 none (.t 70) (.t 74), none⟩,
  ⟨(some 12), .mv (.t 75), none⟩]

abbrev F71_r17 : List SI := [
  ⟨(some 76), .mv (.t 13), none⟩,
  ⟨(some 77), .slice .slice 3 (.t 76) (some (.c (.int .i64 1))) none none, none⟩,
  ⟨(some 13), .mv (.t 77), none⟩]

abbrev F71_r18 : List SI := [
  ⟨(some 78), .mv (.t 13), none⟩,
  ⟨(some 79), .len none .slice (.t 78), none⟩,
  ⟨(some 80), .bin .gtr .num (.t 79) (.c (.int .i64 0)), none⟩]

abbrev F71_r19 : List SI := [
  ⟨(some 81), .mv (.t 9), none⟩,
  ⟨(some 82), .mv (.t 13), none⟩,
  ⟨(some 83), .bslice false 1 [[.nils]] [(0, (.t 82))], none⟩,
  ⟨(some 84), .callf 8 [(.t 81), (.t 83)], none⟩]

abbrev F71_r20 : List SI := [
  ⟨(some 50), .mv (.t 9), none⟩,
  ⟨(some 51), .callf 6 [(.t 50)], none⟩,
  ⟨(some 49), .mv (.t 51), none⟩,
  ⟨(some 52), .extract 0 (.t 49), none⟩,
  ⟨(some 53), .extract 1 (.t 49), none⟩,
  ⟨(some 13), .mv (.t 52), none⟩,
  ⟨(some 14), .mv (.t 53), none⟩]

abbrev F71_l21 : SCode := (.seq (.seq (.region F71_r14 (some [1, 9, 12, 13, 48])) (.cond (.t 48) .skip (.exit 2))) (.seq (.block 3 (.seq (.seq (.region F71_r15 (some [1, 9, 12, 13, 69])) (.cond (.t 69) (.region F71_r16 (some [1, 9, 12, 13])) .skip)) (.seq (.region F71_r17 (some [1, 9, 12, 13])) (.seq (.region F71_r18 (some [1, 9, 12, 13, 80])) (.cond (.t 80) (.region F71_r19 (some [1, 9, 12])) .skip))))) (.region F71_r20 (some [1, 9, 12, 13, 14]))))

abbrev F71_r22 : List SI := [
  ⟨(some 85), .mv (.t 12), none⟩,
  ⟨(some 6), .mv (.t 85), none⟩,
  ⟨(some 7), .mv (.c (.bool true)), none⟩]

abbrev F71_b : SCode := (.seq (.region F71_r0 (some [0, 1, 2])) (.seq (.region F71_r1 (some [0, 1, 2, 8])) (.seq (.region F71_r2 (some [0, 1, 2, 9])) (.seq (.seq (.region F71_r3 (some [0, 1, 9, 19, 20, 21])) (.block 0 (.loop [0, 1, 9, 19, 20, 21] F71_l11))) (.seq (.region F71_r12 (some [1, 9, 12])) (.seq (.seq (.region F71_r13 (some [1, 9, 12, 13, 14])) (.block 2 (.loop [1, 9, 12, 13, 14] F71_l21))) (.seq (.region F71_r22 (some [6, 7])) .ret)))))))

@[simp] def F71 : SFunc := ⟨3, .pure, F71_b, [.t 6, .t 7]⟩

/-- archivist/merge.First -/
abbrev F73_r0 : List SI := [
  ⟨(some 4), .new (.loc 4) [.int .i64 0, .nils, .str []], none⟩,
  ⟨(some 5), .mv (.c (.bool false)), none⟩]

abbrev F73_r1 : List SI := [
  ⟨(some 6), .mv (.t 0), none⟩,
  ⟨(some 7), .callf 77 [(.t 6)], none⟩,
  ⟨(some 8), .mv (.t 1), none⟩,
  ⟨(some 9), .callf 26 [(.t 7), (.t 8)], none⟩,
  ⟨(some 10), .callf 85 [(.t 9)], none⟩,
  ⟨(some 11), .extract 0 (.t 10), none⟩,
  ⟨(some 12), .extract 1 (.t 10), none⟩,
  ⟨none, .store .own 3 (.t 4) (.t 11), none⟩,
  ⟨(some 5), .mv (.t 12), none⟩]

abbrev F73_b : SCode := (.seq (.region F73_r0 (some [0, 1, 4])) (.seq (.region F73_r1 (some [4, 5])) .ret))

@[simp] def F73 : SFunc := ⟨2, .pure, F73_b, [.cell 4 (some 3), .t 5]⟩

/-- archivist/merge.Upto -/
abbrev F75_r0 : List SI := [
  ⟨(some 4), .box .imm (.t 1), none⟩,
  ⟨(some 6), .mv (.c (.nils)), none⟩]

abbrev F75_r1 : List SI := [
  ⟨(some 7), .mv (.c (.nils)), none⟩]

abbrev F75_r2 : List SI := [
  ⟨(some 10), .mv (.t 2), none⟩,
  ⟨(some 11), .len none .slice (.t 10), none⟩,
  ⟨(some 12), .mv (.c (.int .i64 0)), none⟩]

abbrev F75_r3 : List SI := [
  ⟨(some 13), .bin .lss .num (.t 12) (.t 11), none⟩]

abbrev F75_r4 : List SI := [
  ⟨(some 14), .iaddr none 3 (.t 10) (.t 12), none⟩,
  ⟨(some 15), .load .heap (some 3) (.t 14), none⟩,
  ⟨(some 9), .new (.loc 9) [.int .i64 0, .nils, .str []], none⟩,
  ⟨none, .store .own 3 (.t 9) (.t 15), none⟩]

abbrev F75_r5 : List SI := [
  ⟨(some 16), .load .imm (some 3) (.t 4), none⟩,
  ⟨(some 17), .load .own (some 3) (.t 9), none⟩,
  ⟨(some 18), .mv (.t 0), none⟩,
  ⟨(some 19), .callf 31 [(.t 16), (.t 17), (.t 18)], none⟩,
  ⟨(some 20), .un .not (.t 19), none⟩]

abbrev F75_r6 : List SI := [
  ⟨(some 21), .mv (.t 7), none⟩,
  ⟨(some 22), .load .own (some 3) (.t 9), none⟩,
  ⟨(some 23), .bslice false 3 [[.int .i64 0, .nils, .str []]] [(0, (.t 22))], none⟩,
  ⟨(some 24), .append 3 none (.t 21) (.t 23), none⟩,
  ⟨(some 7), .mv (.t 24), none⟩]

abbrev F75_r7 : List SI := [
  ⟨(some 25), .bin .add .num (.t 12) (.c (.int .i64 1)), none⟩,
  ⟨(some 12), .mv (.t 25), none⟩]

abbrev F75_l8 : SCode := (.seq (.region F75_r3 (some [0, 4, 7, 10, 11, 12, 13])) (.seq (.cond (.t 13) .skip (.exit 0)) (.seq (.block 1 (.seq (.region F75_r4 (some [0, 4, 7, 9, 10, 11, 12])) (.seq (.region F75_r5 (some [0, 4, 7, 9, 10, 11, 12, 20])) (.cond (.t 20) (.region F75_r6 (some [0, 4, 7, 10, 11, 12])) .skip)))) (.region F75_r7 (some [0, 4, 7, 10, 11, 12])))))

abbrev F75_r9 : List SI := [
  ⟨(some 26), .mv (.t 7), none⟩,
  ⟨(some 6), .mv (.t 26), none⟩]

abbrev F75_b : SCode := (.seq (.region F75_r0 (some [0, 2, 4])) (.seq (.region F75_r1 (some [0, 2, 4, 7])) (.seq (.seq (.region F75_r2 (some [0, 4, 7, 10, 11, 12])) (.block 0 (.loop [0, 4, 7, 10, 11, 12] F75_l8))) (.seq (.region F75_r9 (some [6])) .ret))))

@[simp] def F75 : SFunc := ⟨3, .pure, F75_b, [.t 6]⟩

/-- archivist/merge.less -/
abbrev F77_r0 : List SI := [
  ⟨(some 1), .box .imm (.t 0), none⟩,
  ⟨(some 2), .mv (.c (.nilf)), none⟩]

abbrev F77_r1 : List SI := [
  ⟨(some 3), .mkfn 79 [] [(.t 1)], none⟩,
  ⟨(some 2), .mv (.t 3), none⟩]

abbrev F77_b : SCode := (.seq (.region F77_r0 (some [1])) (.seq (.region F77_r1 (some [2])) .ret))

@[simp] def F77 : SFunc := ⟨1, .pure, F77_b, [.t 2]⟩

/-- archivist/merge.less$1 -/
abbrev F79_r0 : List SI := [
  ⟨(some 3), .box .imm (.t 0), none⟩,
  ⟨(some 4), .box .imm (.t 1), none⟩,
  ⟨(some 5), .mv (.c (.bool false)), none⟩]

abbrev F79_r1 : List SI := [
  ⟨(some 6), .load .imm (some 3) (.t 3), none⟩,
  ⟨(some 7), .load .imm (some 3) (.t 4), none⟩,
  ⟨(some 8), .load .heap none (.t 2), none⟩,
  ⟨(some 9), .callf 31 [(.t 6), (.t 7), (.t 8)], none⟩,
  ⟨(some 5), .mv (.t 9), none⟩]

abbrev F79_b : SCode := (.seq (.region F79_r0 (some [2, 3, 4])) (.seq (.region F79_r1 (some [5])) .ret))

@[simp] def F79 : SFunc := ⟨3, .pure, F79_b, [.t 5]⟩

/-- archivist/merge.All$1 -/
abbrev F81_r0 : List SI := [
  ⟨(some 5), .mv (.c (.bool false)), none⟩]

abbrev F81_r1 : List SI := [
  ⟨(some 6), .load .heap none (.t 2), none⟩,
  ⟨(some 7), .mv (.t 0), none⟩,
  ⟨(some 8), .iaddr none 3 (.t 7) (.c (.int .i64 0)), none⟩,
  ⟨(some 9), .load .heap (some 3) (.t 8), none⟩,
  ⟨(some 10), .mv (.t 1), none⟩,
  ⟨(some 11), .iaddr none 3 (.t 10) (.c (.int .i64 0)), none⟩,
  ⟨(some 12), .load .heap (some 3) (.t 11), none⟩,
  ⟨(some 13), .callv false (.t 6) [(.t 9), (.t 12)], none⟩,
  ⟨(some 5), .mv (.t 13), none⟩]

abbrev F81_b : SCode := (.seq (.region F81_r0 (some [0, 1, 2])) (.seq (.region F81_r1 (some [5])) .ret))

@[simp] def F81 : SFunc := ⟨3, .pure, F81_b, [.t 5]⟩

/-- (*archivist/heap.Heap[[]archivist/entry.Entry]).Peek -/
abbrev F83_r0 : List SI := [
  ⟨(some 2), .mv (.c (.nils)), none⟩,
  ⟨(some 3), .mv (.c (.bool false)), none⟩]

abbrev F83_r1 : List SI := [
  ⟨(some 4), .mv (.t 0), none⟩,
  ⟨(some 5), .nilchk (.t 4), none⟩,
  ⟨(some 6), .faddr 0 (.t 5), none⟩,
  ⟨(some 7), .faddr 0 (.t 6), none⟩,
  ⟨(some 8), .load .heap none (.t 7), none⟩,
  ⟨(some 9), .len none .slice (.t 8), none⟩,
  ⟨(some 10), .bin .eql .num (.t 9) (.c (.int .i64 0)), none⟩]

abbrev F83_r2 : List SI := [
  ⟨(some 11), .mv (.t 2), none⟩,
  ⟨(some 2), .mv (.t 11), none⟩,
  ⟨(some 3), .mv (.c (.bool false)), none⟩]

abbrev F83_r3 : List SI := [
  ⟨(some 12), .mv (.t 0), none⟩,
  ⟨(some 13), .nilchk (.t 12), none⟩,
  ⟨(some 14), .faddr 0 (.t 13), none⟩,
  ⟨(some 15), .faddr 0 (.t 14), none⟩,
  ⟨(some 16), .load .heap none (.t 15), none⟩,
  ⟨(some 17), .iaddr none 2 (.t 16) (.c (.int .i64 0)), none⟩,
  ⟨(some 18), .faddr 0 (.t 17), none⟩,
  ⟨(some 19), .load .heap none (.t 18), none⟩,
  ⟨(some 2), .mv (.t 19), none⟩,
  ⟨(some 3), .mv (.c (.bool true)), none⟩]

abbrev F83_b : SCode := (.seq (.region F83_r0 (some [0, 2])) (.seq (.seq (.region F83_r1 (some [0, 2, 10])) (.cond (.t 10) (.seq (.region F83_r2 (some [2, 3])) .ret) .skip)) (.seq (.region F83_r3 (some [2, 3])) .ret)))

@[simp] def F83 : SFunc := ⟨1, .pure, F83_b, [.t 2, .t 3]⟩

/-- (*archivist/heap.Heap[archivist/entry.Entry]).Peek -/
abbrev F85_r0 : List SI := [
  ⟨(some 2), .new (.loc 2) [.int .i64 0, .nils, .str []], none⟩,
  ⟨(some 3), .mv (.c (.bool false)), none⟩]

abbrev F85_r1 : List SI := [
  ⟨(some 4), .mv (.t 0), none⟩,
  ⟨(some 5), .nilchk (.t 4), none⟩,
  ⟨(some 6), .faddr 0 (.t 5), none⟩,
  ⟨(some 7), .faddr 0 (.t 6), none⟩,
  ⟨(some 8), .load .heap none (.t 7), none⟩,
  ⟨(some 9), .len none .slice (.t 8), none⟩,
  ⟨(some 10), .bin .eql .num (.t 9) (.c (.int .i64 0)), none⟩]

abbrev F85_r2 : List SI := [
  ⟨(some 11), .load .own (some 3) (.t 2), none⟩,
  ⟨none, .store .own 3 (.t 2) (.t 11), none⟩,
  ⟨(some 3), .mv (.c (.bool false)), none⟩]

abbrev F85_r3 : List SI := [
  ⟨(some 12), .mv (.t 0), none⟩,
  ⟨(some 13), .nilchk (.t 12), none⟩,
  ⟨(some 14), .faddr 0 (.t 13), none⟩,
  ⟨(some 15), .faddr 0 (.t 14), none⟩,
  ⟨(some 16), .load .heap none (.t 15), none⟩,
  ⟨(some 17), .iaddr none 4 (.t 16) (.c (.int .i64 0)), none⟩,
  ⟨(some 18), .faddr 0 (.t 17), none⟩,
  ⟨(some 19), .load .heap (some 3) (.t 18), none⟩,
  ⟨none, .store .own 3 (.t 2) (.t 19), none⟩,
  ⟨(some 3), .mv (.c (.bool true)), none⟩]

abbrev F85_b : SCode := (.seq (.region F85_r0 (some [0, 2])) (.seq (.seq (.region F85_r1 (some [0, 2, 10])) (.cond (.t 10) (.seq (.region F85_r2 (some [2, 3])) .ret) .skip)) (.seq (.region F85_r3 (some [2, 3])) .ret)))

@[simp] def F85 : SFunc := ⟨1, .pure, F85_b, [.cell 2 (some 3), .t 3]⟩

/-- (*archivist/heap.list[[]archivist/entry.Entry]).ahead -/
abbrev F87_r0 : List SI := [
  ⟨(some 6), .mv (.c (.bool false)), none⟩]

abbrev F87_r1 : List SI := [
  ⟨(some 9), .mv (.t 0), none⟩,
  ⟨(some 10), .nilchk (.t 9), none⟩,
  ⟨(some 11), .faddr 0 (.t 10), none⟩,
  ⟨(some 12), .load .heap none (.t 11), none⟩,
  ⟨(some 13), .mv (.t 1), none⟩,
  ⟨(some 14), .iaddr none 2 (.t 12) (.t 13), none⟩,
  ⟨(some 15), .load .heap (some 2) (.t 14), none⟩,
  ⟨(some 16), .mv (.t 0), none⟩,
  ⟨(some 17), .nilchk (.t 16), none⟩,
  ⟨(some 18), .faddr 0 (.t 17), none⟩,
  ⟨(some 19), .load .heap none (.t 18), none⟩,
  ⟨(some 20), .mv (.t 2), none⟩,
  ⟨(some 21), .iaddr none 2 (.t 19) (.t 20), none⟩,
  ⟨(some 22), .load .heap (some 2) (.t 21), none⟩,
  ⟨(some 7), .new (.loc 7) [.nils, .int .i64 0], none⟩,
  ⟨(some 8), .new (.loc 8) [.nils, .int .i64 0], none⟩,
  ⟨none, .store .own 2 (.t 7) (.t 15), none⟩,
  ⟨none, .store .own 2 (.t 8) (.t 22), none⟩]

abbrev F87_r2 : List SI := [
  ⟨(some 23), .mv (.t 0), none⟩,
  ⟨(some 24), .nilchk (.t 23), none⟩,
  ⟨(some 25), .faddr 1 (.t 24), none⟩,
  ⟨(some 26), .load .heap none (.t 25), none⟩,
  ⟨(some 27), .faddr 0 (.t 7), none⟩,
  ⟨(some 28), .load .own none (.t 27), none⟩,
  ⟨(some 29), .faddr 0 (.t 8), none⟩,
  ⟨(some 30), .load .own none (.t 29), none⟩,
  ⟨(some 31), .callv false (.t 26) [(.t 28), (.t 30)], none⟩,
  ⟨(some 32), .mv (.t 31), none⟩,
  ⟨(some 33), .mv (.t 0), some (32, false)⟩,
  ⟨(some 34), .nilchk (.t 33), some (32, false)⟩,
  ⟨(some 35), .faddr 1 (.t 34), some (32, false)⟩,
  ⟨(some 36), .load .heap none (.t 35), some (32, false)⟩,
  ⟨(some 37), .faddr 0 (.t 8), some (32, false)⟩,
  ⟨(some 38), .load .own none (.t 37), some (32, false)⟩,
  ⟨(some 39), .faddr 0 (.t 7), some (32, false)⟩,
  ⟨(some 40), .load .own none (.t 39), some (32, false)⟩,
  ⟨(some 41), .callv false (.t 36) [(.t 38), (.t 40)], some (32, false)⟩,
  ⟨(some 42), .un .not (.t 41), some (32, false)⟩,
  ⟨(some 43), .mv (.t 42), some (32, false)⟩,
  ⟨(some 44), .faddr 1 (.t 7), some (43, true)⟩,
  ⟨(some 45), .load .own none (.t 44), some (43, true)⟩,
  ⟨(some 46), .faddr 1 (.t 8), some (43, true)⟩,
  ⟨(some 47), .load .own none (.t 46), some (43, true)⟩,
  ⟨(some 48), .bin .lss .num (.t 45) (.t 47), some (43, true)⟩,
  ⟨(some 49), .pick (.t 43) (.t 48) (.c (.bool false)), some (32, false)⟩,
  ⟨(some 50), .pick (.t 32) (.c (.bool true)) (.t 49), none⟩,
  ⟨(some 6), .mv (.t 50), none⟩]

abbrev F87_b : SCode := (.seq (.region F87_r0 (some [0, 1, 2])) (.seq (.region F87_r1 (some [0, 7, 8])) (.seq (.region F87_r2 (some [6])) .ret)))

@[simp] def F87 : SFunc := ⟨3, .pure, F87_b, [.t 6]⟩

/-- (*archivist/heap.list[archivist/entry.Entry]).ahead -/
abbrev F89_r0 : List SI := [
  ⟨(some 6), .mv (.c (.bool false)), none⟩]

abbrev F89_r1 : List SI := [
  ⟨(some 9), .mv (.t 0), none⟩,
  ⟨(some 10), .nilchk (.t 9), none⟩,
  ⟨(some 11), .faddr 0 (.t 10), none⟩,
  ⟨(some 12), .load .heap none (.t 11), none⟩,
  ⟨(some 13), .mv (.t 1), none⟩,
  ⟨(some 14), .iaddr none 4 (.t 12) (.t 13), none⟩,
  ⟨(some 15), .load .heap (some 4) (.t 14), none⟩,
  ⟨(some 16), .mv (.t 0), none⟩,
  ⟨(some 17), .nilchk (.t 16), none⟩,
  ⟨(some 18), .faddr 0 (.t 17), none⟩,
  ⟨(some 19), .load .heap none (.t 18), none⟩,
  ⟨(some 20), .mv (.t 2), none⟩,
  ⟨(some 21), .iaddr none 4 (.t 19) (.t 20), none⟩,
  ⟨(some 22), .load .heap (some 4) (.t 21), none⟩,
  ⟨(some 7), .new (.loc 7) [.int .i64 0, .nils, .str [], .int .i64 0], none⟩,
  ⟨(some 8), .new (.loc 8) [.int .i64 0, .nils, .str [], .int .i64 0], none⟩,
  ⟨none, .store .own 4 (.t 7) (.t 15), none⟩,
  ⟨none, .store .own 4 (.t 8) (.t 22), none⟩]

abbrev F89_r2 : List SI := [
  ⟨(some 23), .mv (.t 0), none⟩,
  ⟨(some 24), .nilchk (.t 23), none⟩,
  ⟨(some 25), .faddr 1 (.t 24), none⟩,
  ⟨(some 26), .load .heap none (.t 25), none⟩,
  ⟨(some 27), .faddr 0 (.t 7), none⟩,
  ⟨(some 28), .load .own (some 3) (.t 27), none⟩,
  ⟨(some 29), .faddr 0 (.t 8), none⟩,
  ⟨(some 30), .load .own (some 3) (.t 29), none⟩,
  ⟨(some 31), .callv false (.t 26) [(.t 28), (.t 30)], none⟩,
  ⟨(some 32), .mv (.t 31), none⟩,
  ⟨(some 33), .mv (.t 0), some (32, false)⟩,
  ⟨(some 34), .nilchk (.t 33), some (32, false)⟩,
  ⟨(some 35), .faddr 1 (.t 34), some (32, false)⟩,
  ⟨(some 36), .load .heap none (.t 35), some (32, false)⟩,
  ⟨(some 37), .faddr 0 (.t 8), some (32, false)⟩,
  ⟨(some 38), .load .own (some 3) (.t 37), some (32, false)⟩,
  ⟨(some 39), .faddr 0 (.t 7), some (32, false)⟩,
  ⟨(some 40), .load .own (some 3) (.t 39), some (32, false)⟩,
  ⟨(some 41), .callv false (.t 36) [(.t 38), (.t 40)], some (32, false)⟩,
  ⟨(some 42), .un .not (.t 41), some (32, false)⟩,
  ⟨(some 43), .mv (.t 42), some (32, false)⟩,
  ⟨(some 44), .faddr 3 (.t 7), some (43, true)⟩,
  ⟨(some 45), .load .own none (.t 44), some (43, true)⟩,
  ⟨(some 46), .faddr 3 (.t 8), some (43, true)⟩,
  ⟨(some 47), .load .own none (.t 46), some (43, true)⟩,
  ⟨(some 48), .bin .lss .num (.t 45) (.t 47), some (43, true)⟩,
  ⟨(some 49), .pick (.t 43) (.t 48) (.c (.bool false)), some (32, false)⟩,
  ⟨(some 50), .pick (.t 32) (.c (.bool true)) (.t 49), none⟩,
  ⟨(some 6), .mv (.t 50), none⟩]

abbrev F89_b : SCode := (.seq (.region F89_r0 (some [0, 1, 2])) (.seq (.region F89_r1 (some [0, 7, 8])) (.seq (.region F89_r2 (some [6])) .ret)))

@[simp] def F89 : SFunc := ⟨3, .pure, F89_b, [.t 6]⟩

/-- (archivist/store.Ask).wanted -/
abbrev F91_r0 : List SI := [
  ⟨(some 2), .box .imm (.t 0), none⟩,
  ⟨(some 3), .box .imm (.t 1), none⟩,
  ⟨(some 4), .mv (.c (.bool false)), none⟩]

abbrev F91_r1 : List SI := [
  ⟨(some 5), .faddr 0 (.t 3), none⟩,
  ⟨(some 6), .load .imm none (.t 5), none⟩,
  ⟨(some 7), .faddr 0 (.t 2), none⟩,
  ⟨(some 8), .load .imm none (.t 7), none⟩,
  ⟨(some 9), .bin .geq .num (.t 6) (.t 8), none⟩,
  ⟨(some 10), .mv (.t 9), none⟩,
  ⟨(some 11), .faddr 0 (.t 3), some (10, true)⟩,
  ⟨(some 12), .load .imm none (.t 11), some (10, true)⟩,
  ⟨(some 13), .faddr 1 (.t 2), some (10, true)⟩,
  ⟨(some 14), .load .imm none (.t 13), some (10, true)⟩,
  ⟨(some 15), .bin .lss .num (.t 12) (.t 14), some (10, true)⟩,
  ⟨(some 16), .pick (.t 10) (.t 15) (.c (.bool false)), none⟩,
  ⟨(some 17), .mv (.t 16), none⟩,
  ⟨(some 18), .faddr 4 (.t 2), some (17, true)⟩,
  ⟨(some 19), .load .imm none (.t 18), some (17, true)⟩,
  ⟨(some 20), .un .not (.t 19), some (17, true)⟩,
  ⟨(some 21), .mv (.t 20), some (17, true)⟩,
  ⟨(some 22), .faddr 5 (.t 2), some (21, false)⟩,
  ⟨(some 23), .load .imm (some 3) (.t 22), some (21, false)⟩,
  ⟨(some 24), .load .imm (some 3) (.t 3), some (21, false)⟩,
  ⟨(some 25), .faddr 2 (.t 2), some (21, false)⟩,
  ⟨(some 26), .load .imm none (.t 25), some (21, false)⟩,
  ⟨(some 27), .callf 31 [(.t 23), (.t 24), (.t 26)], some (21, false)⟩,
  ⟨(some 28), .pick (.t 21) (.c (.bool true)) (.t 27), some (17, true)⟩,
  ⟨(some 29), .pick (.t 17) (.t 28) (.c (.bool false)), none⟩,
  ⟨(some 4), .mv (.t 29), none⟩]

abbrev F91_b : SCode := (.seq (.region F91_r0 (some [2, 3])) (.seq (.region F91_r1 (some [4])) .ret))

@[simp] def F91 : SFunc := ⟨2, .pure, F91_b, [.t 4]⟩

/-- (*archivist/store.script).Calls -/
abbrev F93_r0 : List SI := [
  ⟨(some 2), .mv (.c (.int .i64 0)), none⟩]

abbrev F93_r1 : List SI := [
  ⟨(some 3), .mv (.t 0), none⟩,
  ⟨(some 4), .nilchk (.t 3), none⟩,
  ⟨(some 5), .faddr 1 (.t 4), none⟩,
  ⟨(some 6), .load .heap none (.t 5), none⟩,
  ⟨(some 2), .mv (.t 6), none⟩]

abbrev F93_b : SCode := (.seq (.region F93_r0 (some [0])) (.seq (.region F93_r1 (some [2])) .ret))

@[simp] def F93 : SFunc := ⟨1, .pure, F93_b, [.t 2]⟩

/-- (*archivist/match.All).Test -/
abbrev F95_r0 : List SI := [
  ⟨(some 3), .box .imm (.t 1), none⟩,
  ⟨(some 4), .mv (.c (.bool false)), none⟩]

abbrev F95_r1 : List SI := [
  ⟨(some 5), .mv (.t 0), none⟩,
  ⟨(some 6), .nilchk (.t 5), none⟩,
  ⟨(some 7), .faddr 0 (.t 6), none⟩,
  ⟨(some 8), .load .heap none (.t 7), none⟩,
  ⟨(some 9), .mkfn 97 [] [(.t 3)], none⟩,
  ⟨(some 10), .callf 99 [(.t 8), (.t 9)], none⟩,
  ⟨(some 11), .un .not (.t 10), none⟩,
  ⟨(some 4), .mv (.t 11), none⟩]

abbrev F95_b : SCode := (.seq (.region F95_r0 (some [0, 3])) (.seq (.region F95_r1 (some [4])) .ret))

@[simp] def F95 : SFunc := ⟨2, .pure, F95_b, [.t 4]⟩

/-- (*archivist/match.All).Test$1 -/
abbrev F97_r0 : List SI := [
  ⟨(some 3), .mv (.c (.bool false)), none⟩]

abbrev F97_r1 : List SI := [
  ⟨(some 7), .load .heap none (.t 1), none⟩,
  ⟨(some 8), .mv (.t 0), none⟩,
  ⟨(some 9), .nilchk (.t 8), none⟩,
  ⟨(some 10), .faddr 2 (.t 9), none⟩,
  ⟨(some 11), .load .heap none (.t 10), none⟩,
  ⟨(some 12), .callf 121 [(.t 7), (.t 11)], none⟩,
  ⟨(some 6), .mv (.t 12), none⟩,
  ⟨(some 13), .extract 0 (.t 6), none⟩,
  ⟨(some 14), .extract 1 (.t 6), none⟩,
  ⟨(some 4), .mv (.t 13), none⟩,
  ⟨(some 5), .mv (.t 14), none⟩]

abbrev F97_r2 : List SI := [
  ⟨(some 15), .mv (.t 0), none⟩,
  ⟨(some 16), .nilchk (.t 15), none⟩,
  ⟨(some 17), .faddr 0 (.t 16), none⟩,
  ⟨(some 18), .load .heap (some 2) (.t 17), none⟩,
  ⟨(some 19), .mv (.t 4), none⟩,
  ⟨(some 20), .callf 123 [(.t 18), (.t 19)], none⟩,
  ⟨(some 21), .un .not (.t 20), none⟩,
  ⟨(some 3), .mv (.t 21), none⟩]

abbrev F97_b : SCode := (.seq (.region F97_r0 (some [0, 1])) (.seq (.region F97_r1 (some [0, 4])) (.seq (.region F97_r2 (some [3])) .ret)))

@[simp] def F97 : SFunc := ⟨2, .pure, F97_b, [.t 3]⟩

/-- slices.ContainsFunc[[]*archivist/match.One,*archivist/match.One] -/
abbrev F99_r0 : List SI := [
  ⟨(some 4), .mv (.c (.bool false)), none⟩]

abbrev F99_r1 : List SI := [
  ⟨(some 5), .mv (.t 0), none⟩,
  ⟨(some 6), .mv (.t 1), none⟩,
  ⟨(some 7), .callf 101 [(.t 5), (.t 6)], none⟩,
  ⟨(some 8), .bin .geq .num (.t 7) (.c (.int .i64 0)), none⟩,
  ⟨(some 4), .mv (.t 8), none⟩]

abbrev F99_b : SCode := (.seq (.region F99_r0 (some [0, 1])) (.seq (.region F99_r1 (some [4])) .ret))

@[simp] def F99 : SFunc := ⟨2, .pure, F99_b, [.t 4]⟩

/-- slices.IndexFunc[[]*archivist/match.One,*archivist/match.One] -/
abbrev F101_r0 : List SI := [
  ⟨(some 4), .mv (.c (.int .i64 0)), none⟩]

abbrev F101_r1 : List SI := [
  ⟨(some 6), .mv (.t 0), none⟩,
  ⟨(some 7), .len none .slice (.t 6), none⟩,
  ⟨(some 8), .mv (.c (.int .i64 0)), none⟩]

abbrev F101_r2 : List SI := [
  ⟨(some 9), .bin .lss .num (.t 8) (.t 7), none⟩]

abbrev F101_r3 : List SI := [
  ⟨(some 10), .mv (.t 8), none⟩,
  ⟨(some 5), .mv (.t 10), none⟩]

abbrev F101_r4 : List SI := [
  ⟨(some 11), .mv (.t 1), none⟩,
  ⟨(some 12), .mv (.t 0), none⟩,
  ⟨(some 13), .mv (.t 5), none⟩,
  ⟨(some 14), .iaddr none 1 (.t 12) (.t 13), none⟩,
  ⟨(some 15), .load .heap none (.t 14), none⟩,
  ⟨(some 16), .callv false (.t 11) [(.t 15)], none⟩]

abbrev F101_r5 : List SI := [
  ⟨(some 17), .mv (.t 5), none⟩,
  ⟨(some 4), .mv (.t 17), none⟩]

abbrev F101_r6 : List SI := [
  ⟨(some 18), .bin .add .num (.t 8) (.c (.int .i64 1)), none⟩,
  ⟨(some 8), .mv (.t 18), none⟩]

abbrev F101_l7 : SCode := (.seq (.region F101_r2 (some [0, 1, 7, 8, 9])) (.seq (.cond (.t 9) .skip (.exit 0)) (.seq (.block 1 (.seq (.region F101_r3 (some [0, 1, 5, 7, 8])) (.seq (.region F101_r4 (some [0, 1, 5, 7, 8, 16])) (.cond (.t 16) (.seq (.region F101_r5 (some [4])) .ret) .skip)))) (.region F101_r6 (some [0, 1, 7, 8])))))

abbrev F101_r8 : List SI := [
  ⟨(some 4), .mv (.c (.int .i64 (-1))), none⟩]

abbrev F101_b : SCode := (.seq (.region F101_r0 (some [0, 1])) (.seq (.seq (.region F101_r1 (some [0, 1, 7, 8])) (.block 0 (.loop [0, 1, 7, 8] F101_l7))) (.seq (.region F101_r8 (some [4])) .ret)))

@[simp] def F101 : SFunc := ⟨2, .pure, F101_b, [.t 4]⟩

/-- slices.Contains[[]int,int] -/
abbrev F103_r0 : List SI := [
  ⟨(some 4), .mv (.c (.bool false)), none⟩]

abbrev F103_r1 : List SI := [
  ⟨(some 5), .mv (.t 0), none⟩,
  ⟨(some 6), .mv (.t 1), none⟩,
  ⟨(some 7), .callf 105 [(.t 5), (.t 6)], none⟩,
  ⟨(some 8), .bin .geq .num (.t 7) (.c (.int .i64 0)), none⟩,
  ⟨(some 4), .mv (.t 8), none⟩]

abbrev F103_b : SCode := (.seq (.region F103_r0 (some [0, 1])) (.seq (.region F103_r1 (some [4])) .ret))

@[simp] def F103 : SFunc := ⟨2, .pure, F103_b, [.t 4]⟩

/-- slices.Index[[]int,int] -/
abbrev F105_r0 : List SI := [
  ⟨(some 4), .mv (.c (.int .i64 0)), none⟩]

abbrev F105_r1 : List SI := [
  ⟨(some 6), .mv (.t 0), none⟩,
  ⟨(some 7), .len none .slice (.t 6), none⟩,
  ⟨(some 8), .mv (.c (.int .i64 0)), none⟩]

abbrev F105_r2 : List SI := [
  ⟨(some 9), .bin .lss .num (.t 8) (.t 7), none⟩]

abbrev F105_r3 : List SI := [
  ⟨(some 10), .mv (.t 8), none⟩,
  ⟨(some 5), .mv (.t 10), none⟩]

abbrev F105_r4 : List SI := [
  ⟨(some 11), .mv (.t 1), none⟩,
  ⟨(some 12), .mv (.t 0), none⟩,
  ⟨(some 13), .mv (.t 5), none⟩,
  ⟨(some 14), .iaddr none 1 (.t 12) (.t 13), none⟩,
  ⟨(some 15), .load .heap none (.t 14), none⟩,
  ⟨(some 16), .bin .eql .num (.t 11) (.t 15), none⟩]

abbrev F105_r5 : List SI := [
  ⟨(some 17), .mv (.t 5), none⟩,
  ⟨(some 4), .mv (.t 17), none⟩]

abbrev F105_r6 : List SI := [
  ⟨(some 18), .bin .add .num (.t 8) (.c (.int .i64 1)), none⟩,
  ⟨(some 8), .mv (.t 18), none⟩]

abbrev F105_l7 : SCode := (.seq (.region F105_r2 (some [0, 1, 7, 8, 9])) (.seq (.cond (.t 9) .skip (.exit 0)) (.seq (.block 1 (.seq (.region F105_r3 (some [0, 1, 5, 7, 8])) (.seq (.region F105_r4 (some [0, 1, 5, 7, 8, 16])) (.cond (.t 16) (.seq (.region F105_r5 (some [4])) .ret) .skip)))) (.region F105_r6 (some [0, 1, 7, 8])))))

abbrev F105_r8 : List SI := [
  ⟨(some 4), .mv (.c (.int .i64 (-1))), none⟩]

abbrev F105_b : SCode := (.seq (.region F105_r0 (some [0, 1])) (.seq (.seq (.region F105_r1 (some [0, 1, 7, 8])) (.block 0 (.loop [0, 1, 7, 8] F105_l7))) (.seq (.region F105_r8 (some [4])) .ret)))

@[simp] def F105 : SFunc := ⟨2, .pure, F105_b, [.t 4]⟩

/-- archivist/entry.Sorted -/
abbrev F107_r0 : List SI := [
  ⟨(some 2), .box .imm (.t 0), none⟩,
  ⟨(some 4), .mv (.c (.bool false)), none⟩]

abbrev F107_r1 : List SI := [
  ⟨(some 5), .mv (.t 1), none⟩,
  ⟨(some 6), .mkfn 109 [] [(.t 2)], none⟩,
  ⟨(some 7), .callf 111 [(.t 5), (.t 6)], none⟩,
  ⟨(some 4), .mv (.t 7), none⟩]

abbrev F107_b : SCode := (.seq (.region F107_r0 (some [1, 2])) (.seq (.region F107_r1 (some [4])) .ret))

@[simp] def F107 : SFunc := ⟨2, .pure, F107_b, [.t 4]⟩

/-- archivist/entry.Sorted$1 -/
abbrev F109_r0 : List SI := [
  ⟨(some 3), .box .imm (.t 0), none⟩,
  ⟨(some 4), .box .imm (.t 1), none⟩,
  ⟨(some 5), .mv (.c (.int .i64 0)), none⟩]

abbrev F109_r1 : List SI := [
  ⟨(some 6), .load .imm (some 3) (.t 3), none⟩,
  ⟨(some 7), .load .imm (some 3) (.t 4), none⟩,
  ⟨(some 8), .load .heap none (.t 2), none⟩,
  ⟨(some 9), .callf 31 [(.t 6), (.t 7), (.t 8)], none⟩]

abbrev F109_r2 : List SI := [
  ⟨(some 5), .mv (.c (.int .i64 (-1))), none⟩]

abbrev F109_r3 : List SI := [
  ⟨(some 5), .mv (.c (.int .i64 0)), none⟩]

abbrev F109_b : SCode := (.seq (.region F109_r0 (some [2, 3, 4])) (.seq (.seq (.region F109_r1 (some [9])) (.cond (.t 9) (.seq (.region F109_r2 (some [5])) .ret) .skip)) (.seq (.region F109_r3 (some [5])) .ret)))

@[simp] def F109 : SFunc := ⟨3, .pure, F109_b, [.t 5]⟩

/-- slices.IsSortedFunc[[]archivist/entry.Entry,archivist/entry.Entry] -/
abbrev F111_r0 : List SI := [
  ⟨(some 4), .mv (.c (.bool false)), none⟩]

abbrev F111_r1 : List SI := [
  ⟨(some 6), .mv (.t 0), none⟩,
  ⟨(some 7), .len none .slice (.t 6), none⟩,
  ⟨(some 8), .bin .sub .num (.t 7) (.c (.int .i64 1)), none⟩,
  ⟨(some 5), .mv (.t 8), none⟩]

abbrev F111_r2 : List SI := [
  ⟨(some 9), .mv (.t 5), none⟩,
  ⟨(some 10), .bin .gtr .num (.t 9) (.c (.int .i64 0)), none⟩]

abbrev F111_r3 : List SI := [
  ⟨(some 13), .mv (.t 1), none⟩,
  ⟨(some 14), .mv (.t 0), none⟩,
  ⟨(some 15), .mv (.t 5), none⟩,
  ⟨(some 16), .iaddr none 3 (.t 14) (.t 15), none⟩,
  ⟨(some 17), .load .heap (some 3) (.t 16), none⟩,
  ⟨(some 18), .mv (.t 0), none⟩,
  ⟨(some 19), .mv (.t 5), none⟩,
  ⟨(some 20), .bin .sub .num (.t 19) (.c (.int .i64 1)), none⟩,
  ⟨(some 21), .iaddr none 3 (.t 18) (.t 20), none⟩,
  ⟨(some 22), .load .heap (some 3) (.t 21), none⟩,
  ⟨(some 23), .callv false (.t 13) [(.t 17), (.t 22)], none⟩,
  ⟨(some 24), .bin .lss .num (.t 23) (.c (.int .i64 0)), none⟩]

abbrev F111_r4 : List SI := [
  ⟨(some 4), .mv (.c (.bool false)), none⟩]

abbrev F111_r5 : List SI := [
  ⟨(some 11), .mv (.t 5), none⟩,
  ⟨(some 12), .bin .sub .num (.t 11) (.c (.int .i64 1)), none⟩,
  ⟨(some 5), .mv (.t 12), none⟩]

abbrev F111_l6 : SCode := (.seq (.seq (.region F111_r2 (some [0, 1, 5, 10])) (.cond (.t 10) .skip (.exit 0))) (.seq (.block 1 (.seq (.region F111_r3 (some [0, 1, 5, 24])) (.cond (.t 24) (.seq (.region F111_r4 (some [4])) .ret) .skip))) (.region F111_r5 (some [0, 1, 5]))))

abbrev F111_r7 : List SI := [
  ⟨(some 4), .mv (.c (.bool true)), none⟩]

abbrev F111_b : SCode := (.seq (.region F111_r0 (some [0, 1])) (.seq (.seq (.region F111_r1 (some [0, 1, 5])) (.block 0 (.loop [0, 1, 5] F111_l6))) (.seq (.region F111_r7 (some [4])) .ret)))

@[simp] def F111 : SFunc := ⟨2, .pure, F111_b, [.t 4]⟩

/-- archivist/store.Right -/
abbrev F113_r0 : List SI := [
  ⟨(some 1), .box .imm (.t 0), none⟩,
  ⟨(some 2), .mv (.c (.bool false)), none⟩]

abbrev F113_r1 : List SI := [
  ⟨(some 3), .faddr 0 (.t 1), none⟩,
  ⟨(some 4), .load .imm none (.t 3), none⟩,
  ⟨(some 5), .faddr 1 (.t 1), none⟩,
  ⟨(some 6), .load .imm none (.t 5), none⟩,
  ⟨(some 7), .bin .lss .num (.t 4) (.t 6), none⟩,
  ⟨(some 8), .mv (.t 7), none⟩,
  ⟨(some 9), .faddr 3 (.t 1), some (8, true)⟩,
  ⟨(some 10), .load .imm none (.t 9), some (8, true)⟩,
  ⟨(some 11), .bin .gtr .num (.t 10) (.c (.int .i64 0)), some (8, true)⟩,
  ⟨(some 12), .pick (.t 8) (.t 11) (.c (.bool false)), none⟩,
  ⟨(some 2), .mv (.t 12), none⟩]

abbrev F113_b : SCode := (.seq (.region F113_r0 (some [1])) (.seq (.region F113_r1 (some [2])) .ret))

@[simp] def F113 : SFunc := ⟨1, .pure, F113_b, [.t 2]⟩

/-- archivist/match.Of$1 -/
abbrev F119_r0 : List SI := [
  ⟨(some 3), .mv (.c (.bool false)), none⟩]

abbrev F119_r1 : List SI := [
  ⟨(some 4), .mv (.t 0), none⟩,
  ⟨(some 5), .faddr 2 (.t 1), none⟩,
  ⟨(some 6), .load .heap none (.t 5), none⟩,
  ⟨(some 7), .bin .eql .num (.t 4) (.t 6), none⟩,
  ⟨(some 3), .mv (.t 7), none⟩]

abbrev F119_b : SCode := (.seq (.region F119_r0 (some [0, 1])) (.seq (.region F119_r1 (some [3])) .ret))

@[simp] def F119 : SFunc := ⟨2, .pure, F119_b, [.t 3]⟩

/-- (archivist/label.Set).Get -/
abbrev F121_r0 : List SI := [
  ⟨(some 4), .mv (.c (.str [])), none⟩,
  ⟨(some 5), .mv (.c (.bool false)), none⟩]

abbrev F121_r1 : List SI := [
  ⟨(some 8), .mv (.t 0), none⟩,
  ⟨(some 9), .len none .slice (.t 8), none⟩,
  ⟨(some 10), .mv (.c (.int .i64 0)), none⟩]

abbrev F121_r2 : List SI := [
  ⟨(some 11), .bin .lss .num (.t 10) (.t 9), none⟩]

abbrev F121_r3 : List SI := [
  ⟨(some 12), .iaddr none 2 (.t 8) (.t 10), none⟩,
  ⟨(some 13), .load .heap (some 2) (.t 12), none⟩,
  ⟨(some 7), .new (.loc 7) [.str [], .str []], none⟩,
  ⟨none, .store .own 2 (.t 7) (.t 13), none⟩]

abbrev F121_r4 : List SI := [
  ⟨(some 14), .faddr 0 (.t 7), none⟩,
  ⟨(some 15), .load .own none (.t 14), none⟩,
  ⟨(some 16), .mv (.t 1), none⟩,
  ⟨(some 17), .bin .eql .num (.t 15) (.t 16), none⟩]

abbrev F121_r5 : List SI := [
  ⟨(some 18), .faddr 1 (.t 7), none⟩,
  ⟨(some 19), .load .own none (.t 18), none⟩,
  ⟨(some 4), .mv (.t 19), none⟩,
  ⟨(some 5), .mv (.c (.bool true)), none⟩]

abbrev F121_r6 : List SI := [
  ⟨(some 20), .bin .add .num (.t 10) (.c (.int .i64 1)), none⟩,
  ⟨(some 10), .mv (.t 20), none⟩]

abbrev F121_l7 : SCode := (.seq (.region F121_r2 (some [1, 8, 9, 10, 11])) (.seq (.cond (.t 11) .skip (.exit 0)) (.seq (.block 1 (.seq (.region F121_r3 (some [1, 7, 8, 9, 10])) (.seq (.region F121_r4 (some [1, 7, 8, 9, 10, 17])) (.cond (.t 17) (.seq (.region F121_r5 (some [4, 5])) .ret) .skip)))) (.region F121_r6 (some [1, 8, 9, 10])))))

abbrev F121_r8 : List SI := [
  ⟨(some 4), .mv (.c (.str [])), none⟩,
  ⟨(some 5), .mv (.c (.bool false)), none⟩]

abbrev F121_b : SCode := (.seq (.region F121_r0 (some [0, 1])) (.seq (.seq (.region F121_r1 (some [1, 8, 9, 10])) (.block 0 (.loop [1, 8, 9, 10] F121_l7))) (.seq (.region F121_r8 (some [4, 5])) .ret)))

@[simp] def F121 : SFunc := ⟨2, .pure, F121_b, [.t 4, .t 5]⟩

/-- (archivist/match.test).Test -/
abbrev F123_r0 : List SI := [
  ⟨(some 2), .box .imm (.t 0), none⟩,
  ⟨(some 4), .mv (.c (.bool false)), none⟩]

abbrev F123_r1 : List SI := [
  ⟨(some 5), .faddr 1 (.t 2), none⟩,
  ⟨(some 6), .load .imm none (.t 5), none⟩,
  ⟨(some 7), .mv (.t 1), none⟩,
  ⟨(some 8), .callv true (.t 6) [(.t 7)], none⟩,
  ⟨(some 9), .faddr 0 (.t 2), none⟩,
  ⟨(some 10), .load .imm none (.t 9), none⟩,
  ⟨(some 11), .bin .neq .bool (.t 8) (.t 10), none⟩,
  ⟨(some 4), .mv (.t 11), none⟩]

abbrev F123_b : SCode := (.seq (.region F123_r0 (some [1, 2])) (.seq (.region F123_r1 (some [4])) .ret))

@[simp] def F123 : SFunc := ⟨2, .pure, F123_b, [.t 4]⟩

end Go.Ai
